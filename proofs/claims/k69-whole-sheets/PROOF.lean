import PyProof.Rows.All
import Wide.All
import OpenK.AllK
import Wide.FinOn
import KE.KStateDown
import Lean
import HandS.ForMost
import HandS.ForExc
import HandS.More
import HandS.Defaults
import HandS.Head0
import HandS.Head1
import HandS.Head2
import HandS.HeadEnd
import HandS.HeadHook1
import HandS.HeadHook2
import HandS.HeadHook3
import PySem.Challenge.RW_rollcode_k69_whole_sheets_beside_doors
import HandS.Zip
import HandS.Rev
import HandS.RevRange
import HandS.IsInst
import HandS.StrMore
import HandS.Replace
import HandS.DictTup
import HandS.Deep
import HandS.Conv
import HandS.Walk
import HandS.TupAny
import HandS.TupMul
import HandS.RaiseMore
import HandS.Style
import HandS.ExcIs
import HandS.HotCalls
import HandS.WrittenGet
import HandS.NoneIn
import HandS.SetFor
import KE.GoesMore
import KE.GoesZip
import KE.GoesEnum
import KE.KTupSum
import HandS.Small
import HandS.ExcCtx
import KE.KEqSeq
import KE.KxText
section
set_option Elab.async false
set_option linter.all false
set_option maxRecDepth 100000
set_option maxHeartbeats 4000000
/-! The text by its places, and what the head tells of it. Printed by gen_txt.py. -/
namespace K69
open PySem PySem.Spec PyProof.Rows L2
abbrev R : PySem.W.OpenRow := PySem.W.OpenLaw.row PySem.Challenge.rw_rollcode_k69_whole_sheets_beside_doors
def top (i : Nat) : Stmt := PySem.Challenge.pw_rollcode_k69_whole_sheets_beside_doors.main.body.getD i (.Pass ⟨0, 0, 0, 0⟩)
abbrev s_isDigitT : Stmt := top 13
abbrev s_isTable : Stmt := top 15
abbrev s_isKey : Stmt := top 16
abbrev s_backTable : Stmt := top 17
abbrev s_coded : Stmt := top 18
abbrev s_decoded : Stmt := top 19
abbrev s_isNameP : Stmt := top 24
abbrev s_nameDigits : Stmt := top 26
abbrev s_keyOf : Stmt := top 27
abbrev s_pressOf : Stmt := top 28
abbrev s_readPress : Stmt := top 29
abbrev s_wordOf : Stmt := top 35
abbrev s_isWhole : Stmt := top 42
abbrev s_isNameD : Stmt := top 43
abbrev s_isDigitD : Stmt := top 45
abbrev s_isPress : Stmt := top 47
abbrev s_numberIn : Stmt := top 78
abbrev s_digitsIn : Stmt := top 79
abbrev s_thingIn : Stmt := top 80
abbrev s_sortsOf : Stmt := top 81
abbrev s_rowIn : Stmt := top 82
abbrev s_readSheet : Stmt := top 83
abbrev s_classTold : Stmt := top 87
abbrev s_answerText : Stmt := top 88
abbrev s_manyText : Stmt := top 89
abbrev s_knownText : Stmt := top 90
abbrev s_cellText : Stmt := top 91
abbrev s_buttonText : Stmt := top 92
abbrev s_pressedText : Stmt := top 94
abbrev s_deedDone : Stmt := top 95
abbrev s_asked : Stmt := top 96
abbrev s_answerTo : Stmt := top 97
abbrev s_run : Stmt := top 98
abbrev s_lBox : Stmt := top 100
abbrev s_lTake : Stmt := top 101
abbrev s_lFolded : Stmt := top 102
abbrev s_lTable : Stmt := top 103
abbrev s_lKey : Stmt := top 104
abbrev s_lSigns : Stmt := top 105
abbrev s_lHead : Stmt := top 106
abbrev s_lWords : Stmt := top 108
abbrev s_lWalkRow : Stmt := top 109
abbrev s_lHeard : Stmt := top 110
abbrev s_lWalked : Stmt := top 111
abbrev s_lNeverFalls : Stmt := top 112
abbrev s_law : Stmt := top 113
abbrev s_Button_Init : Stmt := inClass (top 33) 0
abbrev s_Button_WrittenNext : Stmt := inClass (top 33) 1
abbrev s_Button_WriteBound : Stmt := inClass (top 33) 2
abbrev s_Button_PressOnce : Stmt := inClass (top 33) 3
abbrev s_Button_CellOut : Stmt := inClass (top 33) 4
abbrev s_Button_CellTorn : Stmt := inClass (top 33) 5
abbrev s_Button_AgeNow : Stmt := inClass (top 33) 8
abbrev s_Button_CountNow : Stmt := inClass (top 33) 9
abbrev s_Button_CellsNow : Stmt := inClass (top 33) 10
abbrev s_Door_Init : Stmt := inClass (top 48) 0
abbrev s_Door_TakesAge : Stmt := inClass (top 48) 1
abbrev s_Door_Read : Stmt := inClass (top 48) 2
abbrev s_Door_Learn : Stmt := inClass (top 48) 3
abbrev s_Door_TurnKey : Stmt := inClass (top 48) 5
abbrev s_Door_AnswerTo : Stmt := inClass (top 48) 7
abbrev s_Door_Hear : Stmt := inClass (top 48) 8
abbrev s_Door_KnownNow : Stmt := inClass (top 48) 9
abbrev s_Door_ClosedNow : Stmt := inClass (top 48) 12
abbrev s_Door_BoundsTold : Stmt := inClass (top 48) 13
abbrev s_Door_TwinDoor : Stmt := inClass (top 48) 16
abbrev s_House_Init : Stmt := inClass (top 69) 0
abbrev s_House_LookDoor : Stmt := inClass (top 69) 1
abbrev s_House_LookButton : Stmt := inClass (top 69) 2
abbrev s_House_AddDoor : Stmt := inClass (top 69) 3
abbrev s_House_AddButton : Stmt := inClass (top 69) 4
abbrev s_House_Teach : Stmt := inClass (top 69) 5
abbrev s_House_Listen : Stmt := inClass (top 69) 6
abbrev s_House_PressButton : Stmt := inClass (top 69) 7
abbrev s_House_PlayKept : Stmt := inClass (top 69) 8
abbrev s_House_LoseCell : Stmt := inClass (top 69) 9
abbrev s_House_TearCell : Stmt := inClass (top 69) 10
abbrev s_House_TurnHouse : Stmt := inClass (top 69) 11
abbrev s_House_DoorNow : Stmt := inClass (top 69) 15
abbrev s_House_ButtonNow : Stmt := inClass (top 69) 16
def d_isDigitT : He.DefD := ⟨("is_digit_tables", none), "is_digit", "is_digit", defArgs s_isDigitT, defBody s_isDigitT, defScope s_isDigitT, [], []⟩
def d_isTable : He.DefD := ⟨("is_table", none), "is_table", "is_table", defArgs s_isTable, defBody s_isTable, defScope s_isTable, [], []⟩
def d_isKey : He.DefD := ⟨("is_key", none), "is_key", "is_key", defArgs s_isKey, defBody s_isKey, defScope s_isKey, [], []⟩
def d_backTable : He.DefD := ⟨("back_table", none), "back_table", "back_table", defArgs s_backTable, defBody s_backTable, defScope s_backTable, [], []⟩
def d_coded : He.DefD := ⟨("coded", none), "coded", "coded", defArgs s_coded, defBody s_coded, defScope s_coded, [], []⟩
def d_decoded : He.DefD := ⟨("decoded", none), "decoded", "decoded", defArgs s_decoded, defBody s_decoded, defScope s_decoded, [], []⟩
def d_isNameP : He.DefD := ⟨("is_name_presses", none), "is_name", "is_name", defArgs s_isNameP, defBody s_isNameP, defScope s_isNameP, [], []⟩
def d_nameDigits : He.DefD := ⟨("name_digits", none), "name_digits", "name_digits", defArgs s_nameDigits, defBody s_nameDigits, defScope s_nameDigits, [], []⟩
def d_keyOf : He.DefD := ⟨("key_of", none), "key_of", "key_of", defArgs s_keyOf, defBody s_keyOf, defScope s_keyOf, [], []⟩
def d_pressOf : He.DefD := ⟨("press_of", none), "press_of", "press_of", defArgs s_pressOf, defBody s_pressOf, defScope s_pressOf, [], []⟩
def d_readPress : He.DefD := ⟨("read_press", none), "read_press", "read_press", defArgs s_readPress, defBody s_readPress, defScope s_readPress, [], []⟩
def d_wordOf : He.DefD := ⟨("word_of", none), "word_of", "word_of", defArgs s_wordOf, defBody s_wordOf, defScope s_wordOf, [], []⟩
def d_isWhole : He.DefD := ⟨("is_whole", none), "is_whole", "is_whole", defArgs s_isWhole, defBody s_isWhole, defScope s_isWhole, [], []⟩
def d_isNameD : He.DefD := ⟨("is_name_doors", none), "is_name", "is_name", defArgs s_isNameD, defBody s_isNameD, defScope s_isNameD, [], []⟩
def d_isDigitD : He.DefD := ⟨("is_digit_doors", none), "is_digit", "is_digit", defArgs s_isDigitD, defBody s_isDigitD, defScope s_isDigitD, [], []⟩
def d_isPress : He.DefD := ⟨("is_press", none), "is_press", "is_press", defArgs s_isPress, defBody s_isPress, defScope s_isPress, [], []⟩
def d_numberIn : He.DefD := ⟨("number_in", none), "number_in", "number_in", defArgs s_numberIn, defBody s_numberIn, defScope s_numberIn, [], []⟩
def d_digitsIn : He.DefD := ⟨("digits_in", none), "digits_in", "digits_in", defArgs s_digitsIn, defBody s_digitsIn, defScope s_digitsIn, [], []⟩
def d_thingIn : He.DefD := ⟨("thing_in", none), "thing_in", "thing_in", defArgs s_thingIn, defBody s_thingIn, defScope s_thingIn, [], []⟩
def d_sortsOf : He.DefD := ⟨("sorts_of", none), "sorts_of", "sorts_of", defArgs s_sortsOf, defBody s_sortsOf, defScope s_sortsOf, [], []⟩
def d_rowIn : He.DefD := ⟨("row_in", none), "row_in", "row_in", defArgs s_rowIn, defBody s_rowIn, defScope s_rowIn, [], []⟩
def d_readSheet : He.DefD := ⟨("read_sheet", none), "read_sheet", "read_sheet", defArgs s_readSheet, defBody s_readSheet, defScope s_readSheet, [], []⟩
def d_classTold : He.DefD := ⟨("class_told", none), "class_told", "class_told", defArgs s_classTold, defBody s_classTold, defScope s_classTold, [], []⟩
def d_answerText : He.DefD := ⟨("answer_text", none), "answer_text", "answer_text", defArgs s_answerText, defBody s_answerText, defScope s_answerText, [], []⟩
def d_manyText : He.DefD := ⟨("many_text", none), "many_text", "many_text", defArgs s_manyText, defBody s_manyText, defScope s_manyText, [], []⟩
def d_knownText : He.DefD := ⟨("known_text", none), "known_text", "known_text", defArgs s_knownText, defBody s_knownText, defScope s_knownText, [], []⟩
def d_cellText : He.DefD := ⟨("cell_text", none), "cell_text", "cell_text", defArgs s_cellText, defBody s_cellText, defScope s_cellText, [], []⟩
def d_buttonText : He.DefD := ⟨("button_text", none), "button_text", "button_text", defArgs s_buttonText, defBody s_buttonText, defScope s_buttonText, [], []⟩
def d_pressedText : He.DefD := ⟨("pressed_text", none), "pressed_text", "pressed_text", defArgs s_pressedText, defBody s_pressedText, defScope s_pressedText, [], []⟩
def d_deedDone : He.DefD := ⟨("deed_done", none), "deed_done", "deed_done", defArgs s_deedDone, defBody s_deedDone, defScope s_deedDone, [], []⟩
def d_asked : He.DefD := ⟨("asked", none), "asked", "asked", defArgs s_asked, defBody s_asked, defScope s_asked, [], []⟩
def d_answerTo : He.DefD := ⟨("answer_to", none), "answer_to", "answer_to", defArgs s_answerTo, defBody s_answerTo, defScope s_answerTo, [], []⟩
def d_run : He.DefD := ⟨("run", none), "run", "run", defArgs s_run, defBody s_run, defScope s_run, [], []⟩
def d_lBox : He.DefD := ⟨("_law_box", none), "_law_box", "_law_box", defArgs s_lBox, defBody s_lBox, defScope s_lBox, [], []⟩
def d_lTake : He.DefD := ⟨("_law_take", none), "_law_take", "_law_take", defArgs s_lTake, defBody s_lTake, defScope s_lTake, [], []⟩
def d_lFolded : He.DefD := ⟨("_law_folded", none), "_law_folded", "_law_folded", defArgs s_lFolded, defBody s_lFolded, defScope s_lFolded, [], []⟩
def d_lTable : He.DefD := ⟨("_law_table", none), "_law_table", "_law_table", defArgs s_lTable, defBody s_lTable, defScope s_lTable, [], []⟩
def d_lKey : He.DefD := ⟨("_law_key", none), "_law_key", "_law_key", defArgs s_lKey, defBody s_lKey, defScope s_lKey, [], []⟩
def d_lSigns : He.DefD := ⟨("_law_signs", none), "_law_signs", "_law_signs", defArgs s_lSigns, defBody s_lSigns, defScope s_lSigns, [], []⟩
def d_lHead : He.DefD := ⟨("_law_head", none), "_law_head", "_law_head", defArgs s_lHead, defBody s_lHead, defScope s_lHead, [], []⟩
def d_lWords : He.DefD := ⟨("_law_words", none), "_law_words", "_law_words", defArgs s_lWords, defBody s_lWords, defScope s_lWords, [], []⟩
def d_lWalkRow : He.DefD := ⟨("_law_walk_row", none), "_law_walk_row", "_law_walk_row", defArgs s_lWalkRow, defBody s_lWalkRow, defScope s_lWalkRow, [], []⟩
def d_lHeard : He.DefD := ⟨("_law_heard", none), "_law_heard", "_law_heard", defArgs s_lHeard, defBody s_lHeard, defScope s_lHeard, [], []⟩
def d_lWalked : He.DefD := ⟨("_law_walked", none), "_law_walked", "_law_walked", defArgs s_lWalked, defBody s_lWalked, defScope s_lWalked, [], []⟩
def d_lNeverFalls : He.DefD := ⟨("_law_never_falls", none), "_law_never_falls", "_law_never_falls", defArgs s_lNeverFalls, defBody s_lNeverFalls, defScope s_lNeverFalls, [], []⟩
def d_law : He.DefD := ⟨("law", none), "law", "law", defArgs s_law, defBody s_law, defScope s_law, [], []⟩
def d_Button_Init : He.DefD := ⟨("Button", some "__init__"), "__init__", "Button.__init__", defArgs s_Button_Init, defBody s_Button_Init, defScope s_Button_Init, [], []⟩
def d_Button_WrittenNext : He.DefD := ⟨("Button", some "written_next"), "written_next", "Button.written_next", defArgs s_Button_WrittenNext, defBody s_Button_WrittenNext, defScope s_Button_WrittenNext, [], []⟩
def d_Button_WriteBound : He.DefD := ⟨("Button", some "write_bound"), "write_bound", "Button.write_bound", defArgs s_Button_WriteBound, defBody s_Button_WriteBound, defScope s_Button_WriteBound, [], []⟩
def d_Button_PressOnce : He.DefD := ⟨("Button", some "press_once"), "press_once", "Button.press_once", defArgs s_Button_PressOnce, defBody s_Button_PressOnce, defScope s_Button_PressOnce, [], []⟩
def d_Button_CellOut : He.DefD := ⟨("Button", some "cell_out"), "cell_out", "Button.cell_out", defArgs s_Button_CellOut, defBody s_Button_CellOut, defScope s_Button_CellOut, [], []⟩
def d_Button_CellTorn : He.DefD := ⟨("Button", some "cell_torn"), "cell_torn", "Button.cell_torn", defArgs s_Button_CellTorn, defBody s_Button_CellTorn, defScope s_Button_CellTorn, [], []⟩
def d_Button_AgeNow : He.DefD := ⟨("Button", some "age_now"), "age_now", "Button.age_now", defArgs s_Button_AgeNow, defBody s_Button_AgeNow, defScope s_Button_AgeNow, [], []⟩
def d_Button_CountNow : He.DefD := ⟨("Button", some "count_now"), "count_now", "Button.count_now", defArgs s_Button_CountNow, defBody s_Button_CountNow, defScope s_Button_CountNow, [], []⟩
def d_Button_CellsNow : He.DefD := ⟨("Button", some "cells_now"), "cells_now", "Button.cells_now", defArgs s_Button_CellsNow, defBody s_Button_CellsNow, defScope s_Button_CellsNow, [], []⟩
def d_Door_Init : He.DefD := ⟨("Door", some "__init__"), "__init__", "Door.__init__", defArgs s_Door_Init, defBody s_Door_Init, defScope s_Door_Init, [], []⟩
def d_Door_TakesAge : He.DefD := ⟨("Door", some "takes_age"), "takes_age", "Door.takes_age", defArgs s_Door_TakesAge, defBody s_Door_TakesAge, defScope s_Door_TakesAge, [], []⟩
def d_Door_Read : He.DefD := ⟨("Door", some "read"), "read", "Door.read", defArgs s_Door_Read, defBody s_Door_Read, defScope s_Door_Read, [], []⟩
def d_Door_Learn : He.DefD := ⟨("Door", some "learn"), "learn", "Door.learn", defArgs s_Door_Learn, defBody s_Door_Learn, defScope s_Door_Learn, [], []⟩
def d_Door_TurnKey : He.DefD := ⟨("Door", some "turn_key"), "turn_key", "Door.turn_key", defArgs s_Door_TurnKey, defBody s_Door_TurnKey, defScope s_Door_TurnKey, [], []⟩
def d_Door_AnswerTo : He.DefD := ⟨("Door", some "answer_to"), "answer_to", "Door.answer_to", defArgs s_Door_AnswerTo, defBody s_Door_AnswerTo, defScope s_Door_AnswerTo, [], []⟩
def d_Door_Hear : He.DefD := ⟨("Door", some "hear"), "hear", "Door.hear", defArgs s_Door_Hear, defBody s_Door_Hear, defScope s_Door_Hear, [], []⟩
def d_Door_KnownNow : He.DefD := ⟨("Door", some "known_now"), "known_now", "Door.known_now", defArgs s_Door_KnownNow, defBody s_Door_KnownNow, defScope s_Door_KnownNow, [], []⟩
def d_Door_ClosedNow : He.DefD := ⟨("Door", some "closed_now"), "closed_now", "Door.closed_now", defArgs s_Door_ClosedNow, defBody s_Door_ClosedNow, defScope s_Door_ClosedNow, [], []⟩
def d_Door_BoundsTold : He.DefD := ⟨("Door", some "bounds_told"), "bounds_told", "Door.bounds_told", defArgs s_Door_BoundsTold, defBody s_Door_BoundsTold, defScope s_Door_BoundsTold, [], []⟩
def d_Door_TwinDoor : He.DefD := ⟨("Door", some "twin_door"), "twin_door", "Door.twin_door", defArgs s_Door_TwinDoor, defBody s_Door_TwinDoor, defScope s_Door_TwinDoor, [], []⟩
def d_House_Init : He.DefD := ⟨("House", some "__init__"), "__init__", "House.__init__", defArgs s_House_Init, defBody s_House_Init, defScope s_House_Init, [], []⟩
def d_House_LookDoor : He.DefD := ⟨("House", some "look_door"), "look_door", "House.look_door", defArgs s_House_LookDoor, defBody s_House_LookDoor, defScope s_House_LookDoor, [], []⟩
def d_House_LookButton : He.DefD := ⟨("House", some "look_button"), "look_button", "House.look_button", defArgs s_House_LookButton, defBody s_House_LookButton, defScope s_House_LookButton, [], []⟩
def d_House_AddDoor : He.DefD := ⟨("House", some "add_door"), "add_door", "House.add_door", defArgs s_House_AddDoor, defBody s_House_AddDoor, defScope s_House_AddDoor, [], []⟩
def d_House_AddButton : He.DefD := ⟨("House", some "add_button"), "add_button", "House.add_button", defArgs s_House_AddButton, defBody s_House_AddButton, defScope s_House_AddButton, [], []⟩
def d_House_Teach : He.DefD := ⟨("House", some "teach"), "teach", "House.teach", defArgs s_House_Teach, defBody s_House_Teach, defScope s_House_Teach, [], []⟩
def d_House_Listen : He.DefD := ⟨("House", some "listen"), "listen", "House.listen", defArgs s_House_Listen, defBody s_House_Listen, defScope s_House_Listen, [], []⟩
def d_House_PressButton : He.DefD := ⟨("House", some "press_button"), "press_button", "House.press_button", defArgs s_House_PressButton, defBody s_House_PressButton, defScope s_House_PressButton, [], []⟩
def d_House_PlayKept : He.DefD := ⟨("House", some "play_kept"), "play_kept", "House.play_kept", defArgs s_House_PlayKept, defBody s_House_PlayKept, defScope s_House_PlayKept, [], []⟩
def d_House_LoseCell : He.DefD := ⟨("House", some "lose_cell"), "lose_cell", "House.lose_cell", defArgs s_House_LoseCell, defBody s_House_LoseCell, defScope s_House_LoseCell, [], []⟩
def d_House_TearCell : He.DefD := ⟨("House", some "tear_cell"), "tear_cell", "House.tear_cell", defArgs s_House_TearCell, defBody s_House_TearCell, defScope s_House_TearCell, [], []⟩
def d_House_TurnHouse : He.DefD := ⟨("House", some "turn_house"), "turn_house", "House.turn_house", defArgs s_House_TurnHouse, defBody s_House_TurnHouse, defScope s_House_TurnHouse, [], []⟩
def d_House_DoorNow : He.DefD := ⟨("House", some "door_now"), "door_now", "House.door_now", defArgs s_House_DoorNow, defBody s_House_DoorNow, defScope s_House_DoorNow, [], []⟩
def d_House_ButtonNow : He.DefD := ⟨("House", some "button_now"), "button_now", "House.button_now", defArgs s_House_ButtonNow, defBody s_House_ButtonNow, defScope s_House_ButtonNow, [], []⟩
def fn0 : List He.DefD := [d_isDigitT, d_isTable, d_isKey, d_backTable, d_coded, d_decoded, d_isNameP, d_nameDigits, d_keyOf, d_pressOf, d_readPress, d_wordOf, d_isWhole, d_isNameD, d_isDigitD, d_isPress, d_numberIn, d_digitsIn, d_thingIn, d_sortsOf, d_rowIn, d_readSheet, d_classTold, d_answerText]
def fn1 : List He.DefD := [d_manyText, d_knownText, d_cellText, d_buttonText, d_pressedText, d_deedDone, d_asked, d_answerTo, d_run, d_lBox, d_lTake, d_lFolded, d_lTable, d_lKey, d_lSigns, d_lHead, d_lWords, d_lWalkRow, d_lHeard, d_lWalked, d_lNeverFalls, d_law, d_Button_Init, d_Button_WrittenNext]
def fn2 : List He.DefD := [d_Button_WriteBound, d_Button_PressOnce, d_Button_CellOut, d_Button_CellTorn, d_Button_AgeNow, d_Button_CountNow, d_Button_CellsNow, d_Door_Init, d_Door_TakesAge, d_Door_Read, d_Door_Learn, d_Door_TurnKey, d_Door_AnswerTo, d_Door_Hear, d_Door_KnownNow, d_Door_ClosedNow, d_Door_BoundsTold, d_Door_TwinDoor, d_House_Init, d_House_LookDoor, d_House_LookButton, d_House_AddDoor, d_House_AddButton, d_House_Teach]
def fn3 : List He.DefD := [d_House_Listen, d_House_PressButton, d_House_PlayKept, d_House_LoseCell, d_House_TearCell, d_House_TurnHouse, d_House_DoorNow, d_House_ButtonNow]
def fn : List He.DefD := fn0 ++ fn1 ++ fn2 ++ fn3
def fa0 : List He.Fa := [.glo "is_digit_tables", .glo "is_table", .glo "is_key", .glo "back_table", .glo "coded", .glo "decoded", .glo "is_name_presses", .glo "name_digits", .glo "key_of", .glo "press_of", .glo "read_press", .glo "word_of", .glo "is_whole", .glo "is_name_doors", .glo "is_digit_doors", .glo "is_press", .glo "number_in", .glo "digits_in", .glo "thing_in", .glo "sorts_of", .glo "row_in", .glo "read_sheet", .glo "class_told", .glo "answer_text"]
def fa1 : List He.Fa := [.glo "many_text", .glo "known_text", .glo "cell_text", .glo "button_text", .glo "pressed_text", .glo "deed_done", .glo "asked", .glo "answer_to", .glo "run", .glo "_law_box", .glo "_law_take", .glo "_law_folded", .glo "_law_table", .glo "_law_key", .glo "_law_signs", .glo "_law_head", .glo "_law_words", .glo "_law_walk_row", .glo "_law_heard", .glo "_law_walked", .glo "_law_never_falls", .glo "law", .glo "Button", .cls "Button"]
def fa2 : List He.Fa := [.mkr "Button", .meth "Button" "__init__", .meth "Button" "written_next", .meth "Button" "write_bound", .meth "Button" "press_once", .meth "Button" "cell_out", .meth "Button" "cell_torn", .meth "Button" "age_now", .meth "Button" "count_now", .meth "Button" "cells_now", .noat "Button" "own_name", .noat "Button" "own_table", .noat "Button" "own_key", .noat "Button" "own_age", .noat "Button" "own_step", .noat "Button" "so_many", .noat "Button" "allowed", .noat "Button" "cells", .glo "Door", .cls "Door", .mkr "Door", .meth "Door" "__init__", .meth "Door" "takes_age", .meth "Door" "read"]
def fa3 : List He.Fa := [.meth "Door" "learn", .meth "Door" "turn_key", .meth "Door" "answer_to", .meth "Door" "hear", .meth "Door" "known_now", .meth "Door" "closed_now", .meth "Door" "bounds_told", .meth "Door" "twin_door", .noat "Door" "table", .noat "Door" "house_keys", .noat "Door" "bounds", .noat "Door" "first_keys", .noat "Door" "least_age", .noat "Door" "entries", .noat "Door" "rows", .glo "House", .cls "House", .mkr "House", .meth "House" "__init__", .meth "House" "look_door", .meth "House" "look_button", .meth "House" "add_door", .meth "House" "add_button", .meth "House" "teach"]
def fa4 : List He.Fa := [.meth "House" "listen", .meth "House" "press_button", .meth "House" "play_kept", .meth "House" "lose_cell", .meth "House" "tear_cell", .meth "House" "turn_house", .meth "House" "door_now", .meth "House" "button_now", .noat "House" "table", .noat "House" "house_keys", .noat "House" "closed", .noat "House" "doors", .noat "House" "buttons", .noat "House" "kept", .noat "House" "opened", .int "DIGITS_tables" 16, .int "LONGEST_KEY" 8, .int "LONGEST_NAME" 8, .int "KEY_PLACES" 4, .int "MOST_COUNT_buttons" 4096, .int "MOST_LETTERS" 8, .int "DIGITS_doors" 5, .int "SIXTEEN" 16, .int "MOST_KEYS_doors" 8]
def fa5 : List He.Fa := [.int "MOST_KEYS_house" 8, .int "LAST_PAIR" 4094, .int "MOST_ROWS" 120, .int "LONGEST_NUMBER" 6, .str "LETTERS_presses" "abcdefghijklmnopqrstuvwxyz", .str "LETTERS_doors" "abcdefghijklmnopqrstuvwxyz", .str "OPEN" "open", .str "SIGNS" "0123456789abcdef", .str "FIGURES" "0123456789", .str "DONE" "done", .str "NOTHING" "-", .free "len", .free "isinstance", .free "int", .free "bool", .free "str", .free "tuple", .free "list", .free "set", .free "dict", .free "range", .free "enumerate", .free "reversed", .free "zip"]
def fa6 : List He.Fa := [.free "sum", .free "max", .free "min", .free "any", .free "all", .free "sorted", .free "abs", .free "divmod", .glo "Worn", .glo "Known", .glo "Full", .glo "Unknown", .glo "TooMany", .glo "BadPress", .glo "CodeError", .glo "LEAST", .glo "MOST", .glo "ORDERS", .exc "TooMany", .exm "TooMany" "CodeError" true]
def fa : List He.Fa := fa0 ++ fa1 ++ fa2 ++ fa3 ++ fa4 ++ fa5 ++ fa6
def ts : List He.Tab := [((fun K => He.ga K "LEAST"), ["near", "far", "most", "step", "place", "age"]), ((fun K => He.ga K "MOST"), ["near", "far", "most", "step", "place", "age"]), ((fun K => He.ga K "ORDERS"), ["door", "button", "teach", "play", "lose", "tear", "turn", "turned", "close", "forget", "known", "now", "opened", "apart", "needs", "log"])]
def adrs0 : List Addr := [3, 30, 31, 44, 56, 68, 80, 91, 92, 138, 139, 143, 144, 148, 149, 155, 156, 162, 163, 169, 170, 174, 175, 181, 182, 188, 189, 195, 196, 202]
def adrs1 : List Addr := [203, 216, 217, 223, 224, 230, 231, 237, 238, 242, 243, 249, 250, 270, 271, 277, 278, 284, 285, 287, 288, 298, 299, 305, 306, 310, 311, 317, 318, 322]
def adrs2 : List Addr := [323, 334, 335, 341, 342, 348, 349, 355, 356, 369, 370, 383, 384, 390, 391, 395, 396, 416, 417, 423, 424, 444, 445, 447, 448, 545, 546, 552, 553, 559]
def adrs3 : List Addr := [560, 566, 567, 573, 574, 578, 579, 585, 586, 590, 591, 597, 598, 604, 605, 611, 612, 618, 619, 646, 647, 653, 654, 684, 685, 690, 691, 692, 693, 694]
def adrs4 : List Addr := [695, 696, 697, 698, 699, 703, 704, 712, 713, 717, 718, 724, 725, 731, 732, 736, 737, 743, 744, 750, 751, 757, 758, 764, 765, 771, 772, 778, 779, 783]
def adrs5 : List Addr := [784, 793, 794, 800, 801, 805, 806, 812, 813, 817, 818, 824, 825, 831, 832, 838, 839, 845, 846, 850, 851, 855, 856, 862, 863, 874, 875, 881, 882, 886]
def adrs6 : List Addr := [887, 893, 894, 900, 901, 905, 906]
def adrs : List Addr := adrs0 ++ adrs1 ++ adrs2 ++ adrs3 ++ adrs4 ++ adrs5 ++ adrs6
/-- the address at a key of the table x -/
def atKey (K : PySem.W.Frag) (x k : Str) : Addr := match PySem.W.nsIn K (He.ga K x) k with
  | some (some (.ref a)) => a
  | _ => 0
def tupAtB (K : PySem.W.Frag) (a : Addr) (vs : List Str) : Bool := match K.lookup a with
  | some ⟨.type c, _, .seq its _, _⟩ => decide (c = "tuple") && (decide (its.size ≤ sizeLine) && He.relAll (vs.map V.str) its.toList)
  | _ => false
theorem tupAtB_ok {K : PySem.W.Frag} {a : Addr} {vs : List Str} (h : tupAtB K a vs = true) (H : Hp) : SqT K H a (vs.map V.str) := by
  unfold tupAtB at h
  cases q : K.lookup a with
  | none =>
    rw [q] at h
    cases h
  | some o =>
    obtain ⟨oc, od, dt, osl⟩ := o
    rw [q] at h
    cases oc with
    | type c =>
      cases dt with
      | seq its n =>
        obtain ⟨h1, h2⟩ := He.ba (show (decide (c = "tuple") && (decide (its.size ≤ sizeLine) && He.relAll (vs.map V.str) its.toList)) = true from h)
        obtain ⟨h3, h4⟩ := He.ba h2
        exact .inr ⟨_, its, n, q, congrArg Value.type (of_decide_eq_true h1), rfl, of_decide_eq_true h3, He.relAll_ok h4⟩
      | _ => cases h
    | _ => cases dt <;> cases h
/-- a key of ORDERS and the sorts behind it -/
def ordB (K : PySem.W.Frag) (k : Str) (vs : List Str) : Bool := He.eqO (PySem.W.nsIn K (He.ga K "ORDERS") k) (some (some (.ref (atKey K "ORDERS" k)))) && tupAtB K (atKey K "ORDERS" k) vs
def kitB (K : PySem.W.Frag) (x y : Str) (b : Bool) : Bool := decide (PySem.W.kitOne K (.ref (He.ga K x)) (.ref (He.ga K y)) = some b)
/-- what isinstance asks of an error's class -/
def excB (K : PySem.W.Frag) (D : Addr) : Bool := He.eqO (PySem.W.findIn K (.ref D) "__getattribute__") (some (some (.builtin "BaseException.__getattribute__"))) && (He.eqO (PySem.W.findIn K (.ref D) "__getattr__") (some none) &&
  (PySem.W.hasDictIn K D && (He.eqO (PySem.W.findIn K (.ref D) "__class__") (some (some (.builtin "object.__class__"))) && (He.eqO (PySem.W.specialIn K (.builtin "object.__class__") "__get__") (some (some (.builtin "getset_descriptor.__get__"))) &&
  (decide (PySem.W.takesIn K (.builtin "object.__class__") = some true) && decide (PySem.W.mroIn K D (.type "object") = some true))))))

def ords : List (Str × List Str) := [("door", ["name", "near", "far", "most"]), ("button", ["name", "step"]), ("teach", ["name", "name"]), ("play", ["place", "name"]), ("lose", ["name"]), ("tear", ["name"]), ("turn", ["key"]), ("known", ["name"]), ("now", ["name"])]
def least : List (Str × He.Dv) := [("near", .int 1), ("far", .int 1), ("most", .int 1), ("step", .int 1), ("place", .int 0), ("age", .int 0)]
def mosts : List (Str × He.Dv) := [("near", .int 64), ("far", .int 1024), ("most", .int 12), ("step", .int 64), ("place", .int 9999), ("age", .int 7)]
def outs : List Str := ["name", "key", "table", "deed"]
def ex (K : PySem.W.Frag) : Bool := (ords.all fun q => ordB K q.1 q.2) && ((He.valsB K (He.ga K "LEAST") least && He.valsB K (He.ga K "MOST") mosts) && ((outs.all fun x => He.eqO (PySem.W.nsIn K (He.ga K "LEAST") x) (some none)) &&
  ((kitB K "TooMany" "Worn" false && (kitB K "TooMany" "Known" false && (kitB K "TooMany" "Full" false && (kitB K "TooMany" "Unknown" false && kitB K "TooMany" "TooMany" true)))) && excB K (He.ga K "TooMany"))))
/-! ### the Hook: tables and one more Bool -/
abbrev AlB : Type := He.AlT × Bool
def obsB (K : PySem.W.Frag) : AlB := (He.obsT fa fn ts K, ex K)
def valB (w : World) : AlB := (He.valT fn ts w, true)
def obsBG (g : Addr → Option Obj) : AlB := obsB (He.frG g adrs)
def SaysB (w : World) (K : PySem.W.Frag) : Prop := obsB K = valB w
def hookB : PySem.W.Hook where
  α := AlB
  obs := fun s => obsBG s.heap.get?
  val := fun w => valB w
  says := fun w h => ∃ K : PySem.W.Frag, K.In h ∧ SaysB w K
  of := fun _ _ e => ⟨_, He.frG_in, e⟩
  keeps := fun _ _ _ ⟨K, hK, c⟩ k => ⟨K, PySem.W.Frag.In.keeps hK k, c⟩
theorem obsBG_eq {g : Addr → Option Obj} {s : Shared} (h : ∀ a, g a = s.heap.get? a) : obsBG g = hookB.obs s := by
  have e : g = s.heap.get? := funext h
  rw [e] <;> rfl
theorem SaysB.t {w : World} {K : PySem.W.Frag} (c : SaysB w K) : He.SaysT fa fn ts w K := congrArg (fun z : AlB => z.1) c
theorem SaysB.more {w : World} {K : PySem.W.Frag} (c : SaysB w K) : ex K = true := congrArg (fun z : AlB => z.2) c
end K69
end
section
set_option Elab.async false
set_option linter.all false
set_option maxRecDepth 100000
set_option maxHeartbeats 0
namespace K69
open PySem PySem.W PySem.Calls PyProof.Rows
def names0 : List PySem.Str := ["_wall", "__name__", "CodeError", "Worn", "Known", "Full", "Unknown", "TooMany", "BadPress", "BadRow", "DIGITS_tables", "LONGEST_KEY"]
def names1 : List PySem.Str := ["is_digit", "is_digit_tables", "is_table", "is_key", "back_table", "coded", "decoded", "LETTERS_presses", "LONGEST_NAME", "KEY_PLACES", "is_name", "is_name_presses"]
def names2 : List PySem.Str := ["name_digits", "key_of", "press_of", "read_press", "MOST_COUNT_buttons", "MOST_AGE", "Button", "word_of", "LETTERS_doors", "MOST_LETTERS", "DIGITS_doors", "SIXTEEN"]
def names3 : List PySem.Str := ["MOST_KEYS_doors", "is_whole", "is_name_doors", "is_digit_doors", "is_press", "Door", "MOST_COUNT_needing", "entry_in", "is_taken", "needs", "MOST_COUNT_sharing", "known_row"]
def names4 : List PySem.Str := ["hears_age", "opens_at", "names_of", "is_in", "least_unlike", "told_by_one", "told_by_two", "telling", "MOST_KEYS_house", "LAST_PAIR", "OPEN", "House"]
def names5 : List PySem.Str := ["MOST_ROWS", "SIGNS", "FIGURES", "LONGEST_NUMBER", "LEAST", "MOST", "ORDERS", "number_in", "digits_in", "thing_in", "sorts_of", "row_in"]
def names6 : List PySem.Str := ["read_sheet", "DONE", "NOTHING", "class_told", "answer_text", "many_text", "known_text", "cell_text", "button_text", "apart_text", "pressed_text", "deed_done"]
def names7 : List PySem.Str := ["asked", "answer_to", "run", "_law_box", "_law_take", "_law_folded", "_law_table", "_law_key", "_law_signs", "_law_head", "_law_row", "_law_words"]
def names8 : List PySem.Str := ["_law_walk_row", "_law_heard", "_law_walked", "_law_never_falls"]
def names : List PySem.Str := names0 ++ names1 ++ names2 ++ names3 ++ names4 ++ names5 ++ names6 ++ names7 ++ names8
def ob (s : PySem.W.SharedT) : AlB := obsBG (HandSHeadRun.getT s)
theorem ob_eq (s : PySem.W.SharedT) : ob s = hookB.obs s.abs := obsBG_eq (HandSHeadRun.getT_eq s)
theorem run_f (w : World) : HandSHeadRun.RunEq R (PySem.W.view R.prog [113]) hookB ob 7000 names (w.withFollow "special-get-raises" false) := by
  intro os
  kernel_rfl
theorem run_t (w : World) : HandSHeadRun.RunEq R (PySem.W.view R.prog [113]) hookB ob 7000 names (w.withFollow "special-get-raises" true) := by
  intro os
  kernel_rfl
theorem run (w : World) : HandSHeadRun.RunEq R (PySem.W.view R.prog [113]) hookB ob 7000 names w := PySem.W.byRow2 "special-get-raises" (P := fun w => HandSHeadRun.RunEq R (PySem.W.view R.prog [113]) hookB ob 7000 names w) run_f run_t w
end K69
end
section
set_option linter.all false
set_option maxHeartbeats 4000000
/-! Digits, tables, codes: what the program's coded and decoded do, and that one undoes the other. Plain Lean. -/
namespace K69
def prv (n i : Nat) : Nat := if i = 0 then n - 1 else i - 1
def enc1 (T : List Int) (k : Int) (ds : List Int) (i : Nat) : List Int :=
  ds.set i (T.getD ((ds.getD i 0 + k + (i : Int) + ds.getD (prv ds.length i) 0) % 16).toNat 0)
def encK (T : List Int) (ds : List Int) (k : Int) : List Int := (List.range ds.length).foldl (enc1 T k) ds
def codedL (T key ds : List Int) : List Int := key.foldl (encK T) ds
def dec1 (B : List Int) (k : Int) (ds : List Int) (i : Nat) : List Int :=
  ds.set i ((B.getD (ds.getD i 0).toNat 0 - k - (i : Int) - ds.getD (prv ds.length i) 0) % 16)
def decK (B : List Int) (ds : List Int) (k : Int) : List Int := (List.range ds.length).reverse.foldl (dec1 B k) ds
def decodedL (B key ds : List Int) : List Int := key.reverse.foldl (decK B) ds
def Digs (ds : List Int) : Prop := ∀ x ∈ ds, 0 ≤ x ∧ x < 16
structure IsTab (T : List Int) : Prop where
  len : T.length = 16
  dig : Digs T
  nd : T.Nodup
structure IsKey (k : List Int) : Prop where
  lo : 1 ≤ k.length
  hi : k.length ≤ 8
  dig : Digs k
def backN (T : List Int) (n : Nat) : List Int := (List.range n).foldl (fun b (j : Nat) => b.set (T.getD j 0).toNat (j : Int)) (List.replicate 16 0)
def backL (T : List Int) : List Int := backN T 16

theorem getD_of {l : List Int} {i : Nat} (h : i < l.length) : l.getD i 0 = l[i] := by simp [List.getD, h]
theorem digs_getD {l : List Int} (h : Digs l) {i : Nat} (hi : i < l.length) : 0 ≤ l.getD i 0 ∧ l.getD i 0 < 16 := by
  rw [getD_of hi]
  exact h _ (List.getElem_mem hi)
theorem getD_set_eq {l : List Int} {i : Nat} {v : Int} (h : i < l.length) : (l.set i v).getD i 0 = v := by
  rw [getD_of (by rw [List.length_set]; exact h), List.getElem_set_self]
theorem getD_set_ne {l : List Int} {i j : Nat} {v : Int} (h : i ≠ j) : (l.set i v).getD j 0 = l.getD j 0 := by
  simp [List.getD, List.getElem?_set_ne h]
theorem backN_succ (T : List Int) (n : Nat) : backN T (n + 1) = (backN T n).set (T.getD n 0).toNat (n : Int) := by
  unfold backN
  rw [List.range_succ, List.foldl_append]
  rfl
theorem backN_len (T : List Int) : ∀ n, (backN T n).length = 16
  | 0 => rfl
  | n + 1 => by rw [backN_succ, List.length_set, backN_len T n]
theorem tab_ne {T : List Int} (h : IsTab T) {i j : Nat} (hi : i < 16) (hj : j < 16) (e : i ≠ j) : (T.getD i 0).toNat ≠ (T.getD j 0).toNat := by
  intro q
  have h1 := digs_getD h.dig (i := i) (by rw [h.len]; exact hi)
  have h2 := digs_getD h.dig (i := j) (by rw [h.len]; exact hj)
  have q2 : T.getD i 0 = T.getD j 0 := by omega
  rw [getD_of (by rw [h.len]; exact hi), getD_of (by rw [h.len]; exact hj)] at q2
  exact e ((List.getElem_inj h.nd).mp q2)
theorem backN_at {T : List Int} (h : IsTab T) : ∀ (n : Nat), n ≤ 16 → ∀ j, j < n → (backN T n).getD (T.getD j 0).toNat 0 = (j : Int)
  | 0, _, j, hj => by omega
  | n + 1, hn, j, hj => by
    rw [backN_succ]
    by_cases e : j = n
    · subst e
      have h1 := digs_getD h.dig (i := j) (by rw [h.len]; omega)
      exact getD_set_eq (by rw [backN_len]; omega)
    · rw [getD_set_ne (fun q => tab_ne h (by omega) (by omega) e q.symm)]
      exact backN_at h n (by omega) j (by omega)
theorem back_at {T : List Int} (h : IsTab T) {x : Int} (h0 : 0 ≤ x) (h1 : x < 16) : (backL T).getD (T.getD x.toNat 0).toNat 0 = x := by
  have e := backN_at h 16 (Nat.le_refl _) x.toNat (by omega)
  unfold backL
  rw [e]
  omega
theorem back_digs {T : List Int} : ∀ n, n ≤ 16 → Digs (backN T n)
  | 0, _ => by
    intro x hx
    have e := List.eq_of_mem_replicate hx
    omega
  | n + 1, hn => by
    intro x hx
    rw [backN_succ] at hx
    rcases List.mem_or_eq_of_mem_set hx with hx | hx
    · exact back_digs n (by omega) x hx
    · omega
theorem prv_lt {n i : Nat} (h : i < n) : prv n i < n := by
  unfold prv
  split <;> omega
theorem prv_ne {n i : Nat} (h : i < n) (h2 : 2 ≤ n) : i ≠ prv n i := by
  unfold prv
  split <;> omega
theorem enc1_len {T : List Int} {k : Int} {ds : List Int} {i : Nat} : (enc1 T k ds i).length = ds.length := List.length_set
theorem dec1_len {B : List Int} {k : Int} {ds : List Int} {i : Nat} : (dec1 B k ds i).length = ds.length := List.length_set
theorem mod_dig (z : Int) : 0 ≤ z % 16 ∧ z % 16 < 16 := ⟨Int.emod_nonneg _ (by decide), Int.emod_lt_of_pos _ (by decide)⟩
theorem digs_set {l : List Int} (h : Digs l) {i : Nat} {v : Int} (hv : 0 ≤ v ∧ v < 16) : Digs (l.set i v) := by
  intro x hx
  rcases List.mem_or_eq_of_mem_set hx with hx | hx
  · exact h x hx
  · rw [hx]; exact hv
theorem tab_dig {T : List Int} (h : IsTab T) (z : Int) : 0 ≤ T.getD (z % 16).toNat 0 ∧ T.getD (z % 16).toNat 0 < 16 :=
  digs_getD h.dig (by have := mod_dig z; rw [h.len]; omega)
theorem enc1_digs {T : List Int} (hT : IsTab T) {k : Int} {ds : List Int} (h : Digs ds) {i : Nat} : Digs (enc1 T k ds i) := digs_set h (tab_dig hT _)
theorem dec1_digs {B : List Int} {k : Int} {ds : List Int} (h : Digs ds) {i : Nat} : Digs (dec1 B k ds i) := digs_set h (mod_dig _)
theorem set_same {l : List Int} {i : Nat} (h : i < l.length) : l.set i (l.getD i 0) = l := by
  rw [getD_of h, List.set_getElem_self]
theorem dec_enc1 {T : List Int} (hT : IsTab T) {k : Int} {ds : List Int} (h : Digs ds) (h2 : 2 ≤ ds.length) {i : Nat} (hi : i < ds.length) : dec1 (backL T) k (enc1 T k ds i) i = ds := by
  have m := mod_dig (ds.getD i 0 + k + (i : Int) + ds.getD (prv ds.length i) 0)
  have d := digs_getD h hi
  unfold dec1
  rw [enc1_len]
  unfold enc1
  rw [getD_set_eq hi, getD_set_ne (prv_ne hi h2), back_at hT m.1 m.2, List.set_set]
  have e : ((ds.getD i 0 + k + (i : Int) + ds.getD (prv ds.length i) 0) % 16 - k - (i : Int) - ds.getD (prv ds.length i) 0) % 16 = ds.getD i 0 := by omega
  rw [e, set_same hi]
theorem inv_fold {α β : Type} {f g : α → β → α} {P : α → Prop} : ∀ (l : List β) (s : α), (∀ s b, b ∈ l → P s → P (f s b)) → (∀ s b, b ∈ l → P s → g (f s b) b = s) → P s → l.reverse.foldl g (l.foldl f s) = s
  | [], s, _, _, _ => rfl
  | b :: l, s, hf, hg, hP => by
    rw [List.foldl_cons, List.reverse_cons, List.foldl_append]
    have ih := inv_fold (f := f) (g := g) (P := P) l (f s b) (fun s c hc => hf s c (List.mem_cons_of_mem _ hc)) (fun s c hc => hg s c (List.mem_cons_of_mem _ hc)) (hf s b List.mem_cons_self hP)
    rw [ih]
    exact hg s b List.mem_cons_self hP
theorem keep_fold {α β : Type} {f : α → β → α} {P : α → Prop} : ∀ (l : List β) (s : α), (∀ s b, b ∈ l → P s → P (f s b)) → P s → P (l.foldl f s)
  | [], _, _, h => h
  | b :: l, s, hf, h => keep_fold l (f s b) (fun s c hc => hf s c (List.mem_cons_of_mem _ hc)) (hf s b List.mem_cons_self h)
/-- digits, so many -/
def DN (n : Nat) (ds : List Int) : Prop := ds.length = n ∧ Digs ds
theorem encK_dn {T : List Int} (hT : IsTab T) {n : Nat} {ds : List Int} {k : Int} (h : DN n ds) : DN n (encK T ds k) :=
  keep_fold (P := DN n) _ _ (fun s b _ hs => ⟨by rw [enc1_len]; exact hs.1, enc1_digs hT hs.2⟩) h
theorem decK_dn {B : List Int} {n : Nat} {ds : List Int} {k : Int} (h : DN n ds) : DN n (decK B ds k) :=
  keep_fold (P := DN n) _ _ (fun s b _ hs => ⟨by rw [dec1_len]; exact hs.1, dec1_digs hs.2⟩) h
theorem coded_dn {T : List Int} (hT : IsTab T) {n : Nat} {key ds : List Int} (h : DN n ds) : DN n (codedL T key ds) :=
  keep_fold (P := DN n) _ _ (fun s b _ hs => encK_dn hT hs) h
theorem decoded_dn {B : List Int} {n : Nat} {key ds : List Int} (h : DN n ds) : DN n (decodedL B key ds) :=
  keep_fold (P := DN n) _ _ (fun s b _ hs => decK_dn hs) h
theorem dec_encK {T : List Int} (hT : IsTab T) {k : Int} {n : Nat} {ds : List Int} (h2 : 2 ≤ n) (h : DN n ds) : decK (backL T) (encK T ds k) k = ds := by
  have e : (encK T ds k).length = ds.length := (encK_dn hT h).1.trans h.1.symm
  unfold decK
  rw [e]
  unfold encK
  exact inv_fold (P := DN n) _ _ (fun s b _ hs => ⟨by rw [enc1_len]; exact hs.1, enc1_digs hT hs.2⟩)
    (fun s b hb hs => dec_enc1 hT hs.2 (by rw [hs.1]; exact h2) (by have := List.mem_range.mp hb; rw [hs.1, ← h.1]; exact this)) h
theorem dec_coded {T : List Int} (hT : IsTab T) {key : List Int} {n : Nat} {ds : List Int} (h2 : 2 ≤ n) (h : DN n ds) : decodedL (backL T) key (codedL T key ds) = ds :=
  inv_fold (P := DN n) _ _ (fun s b _ hs => encK_dn hT hs) (fun s b _ hs => dec_encK hT h2 hs) h
/-! ### a button's key, a press's code -/
/-- the places of letters in a to z -/
def nameDigs (name : List Nat) : List Int := name.flatMap fun (c : Nat) => ([((c : Int) - 97) % 16, ((c : Int) - 97) / 16] : List Int)
def own1 (own : List Int) (p : Nat × Int) : List Int := own.set (p.1 % 4) ((own.getD (p.1 % 4) 0 + p.2) % 16)
def ownN (ds : List Int) (n : Nat) : List Int := (List.range n).foldl (fun own j => own1 own (j, ds.getD j 0)) [0, 0, 0, 0]
def keyOfL (T key : List Int) (name : List Nat) : List Int := codedL T key (ownN (nameDigs name) (nameDigs name).length)
theorem ownN_succ (ds : List Int) (n : Nat) : ownN ds (n + 1) = own1 (ownN ds n) (n, ds.getD n 0) := by
  unfold ownN
  rw [List.range_succ, List.foldl_append]
  rfl
theorem ownN_dn (ds : List Int) : ∀ n, DN 4 (ownN ds n)
  | 0 => ⟨rfl, by intro x hx; simp [ownN] at hx; omega⟩
  | n + 1 => by
    rw [ownN_succ]
    have ih := ownN_dn ds n
    exact ⟨by unfold own1; rw [List.length_set]; exact ih.1, digs_set ih.2 (mod_dig _)⟩
theorem keyOf_dn {T : List Int} (hT : IsTab T) {key : List Int} {name : List Nat} : DN 4 (keyOfL T key name) := coded_dn hT (ownN_dn _ _)
def four (count deed : Int) : List Int := [count % 16, count / 16 % 16, count / 256, deed]
def five (count deed : Int) : List Int := [count % 16, count / 16 % 16, count / 256, deed, (count % 16 + (count / 16 % 16 + (count / 256 + (deed + 0)))) % 16]
theorem five_dn {count deed : Int} (h0 : 0 ≤ count) (h1 : count < 4096) (hd : 0 ≤ deed ∧ deed < 16) : DN 5 (five count deed) := by
  refine ⟨rfl, fun x hx => ?_⟩
  simp only [five, List.mem_cons, List.not_mem_nil, or_false] at hx
  omega
def codeL (T key : List Int) (name : List Nat) (count deed : Int) : List Int := codedL T (keyOfL T key name) (five count deed)
theorem code_dn {T : List Int} (hT : IsTab T) {key : List Int} {name : List Nat} {count deed : Int} (h0 : 0 ≤ count) (h1 : count < 4096) (hd : 0 ≤ deed ∧ deed < 16) : DN 5 (codeL T key name count deed) := coded_dn hT (five_dn h0 h1 hd)
theorem code_back {T : List Int} (hT : IsTab T) {key : List Int} {name : List Nat} {count deed : Int} (h0 : 0 ≤ count) (h1 : count < 4096) (hd : 0 ≤ deed ∧ deed < 16) :
    decodedL (backL T) (keyOfL T key name) (codeL T key name count deed) = five count deed := dec_coded hT (by decide) (five_dn h0 h1 hd)
end K69
end
section
set_option Elab.async false
set_option linter.all false
set_option maxRecDepth 100000
set_option maxHeartbeats 4000000
/-! Callees by their promises; the head's facts by names. Printed by gen_base.py. -/
namespace K69
open PySem PySem.Spec PyProof.Rows L2
structure Tx (P : Program) (w : World) (K : PySem.W.Frag) (mg : Str → Option Value) (base : Heap) : Prop where
  X : K.In base
  G : base.Ns mainGlobals mg
  c : SaysB w K
/-- a def of the module keeps its promise -/
structure Cal (P : Program) (w : World) (K : PySem.W.Frag) (mg : Str → Option Value) (base : Heap) (x : Str) (k : Nat) (ps : List Str) (sp : Sp) : Prop where
  ex : ∃ (f : Addr) (fd : FuncData), FnOk P w K mg base CX0 k f fd ps sp ∧ mg x = some (.ref f) ∧ PySem.W.keepIn K (.ref f) = true ∧ Binds K fd ps []
/-- a method of the class at C keeps its promise -/
structure CalM (P : Program) (w : World) (K : PySem.W.Frag) (mg : Str → Option Value) (base : Heap) (C : Addr) (m : Str) (k : Nat) (ps : List Str) (sp : Sp) : Prop where
  ex : ∃ (f : Addr) (fd : FuncData), FnOk P w K mg base CX0 k f fd ps sp ∧ Meth K C m f ∧ Binds K fd ps []
/-- a class is made by its __init__ -/
structure CalI (P : Program) (w : World) (K : PySem.W.Frag) (mg : Str → Option Value) (base : Heap) (C : Addr) (k : Nat) (ps : List Str) (sp : Sp) : Prop where
  ex : ∃ (f : Addr) (fd : FuncData), FnOk P w K mg base CX0 k f fd ps sp ∧ Mk K C f ∧ Binds K fd ps []
section
variable {X : Cx} {k : Nat} {ps : List Str} {sp : Sp} {x m : Str} {C : Addr} {p pos apos : Pos} {e o : Expr} {es : List Expr} {ta : TE} {t : TA}
theorem pe_c (F : Cal X.prog X.w X.K X.mg X.base x k ps sp) (hr : Room k X.A) (ha : PA X (e :: es) t) (hg : Gl X x := by rfl) (hdb : (x == ("__debug__" : Str)) = false := by decide)
    (he : starEach (e :: es) X.env = (false, eval e X.env) :: starEach es X.env := by rfl) (hpl : (backTo pos (starEach es X.env)).any (·.1) = false := by rfl) : PE X (.Call (.Name x p) (e :: es) [] pos) (tCall sp [] E0 t) := by
  obtain ⟨f, fd, F, m, kp, b⟩ := F.ex
  exact pe_call F hr hg m kp b .nil pass0 ha hdb he hpl
theorem pe_m {pl : Sem Bool} (F : CalM X.prog X.w X.K X.mg X.base C m k ps sp) (c : Cls X.K C) (hr : Room k X.A) (ho : PE X o ta) (ha : PA X (e :: es) t)
    (hst : starEach (e :: es) X.env = (false, eval e X.env) :: starEach es X.env := by rfl) (hpl : (backTo pos (starEach es X.env)).any (·.1) = false := by rfl)
    (ht : eval (.Call (.Attribute o m apos) (e :: es) [] pos) X.env = (do
      let ov ← eval o X.env
      standAt apos.atName
      let (f, first) ← holding [ov] (getMethod ov m pl)
      callWith pos f first (backTo pos (starEach (e :: es) X.env)) (backToKw pos (keywordEach [] X.env))) := by rfl) : PE X (.Call (.Attribute o m apos) (e :: es) [] pos) (tMeth C m sp [] E0 ta t) := by
  obtain ⟨f, fd, F, mt, b⟩ := F.ex
  exact pe_meth ho c mt F hr b .nil pass0 ha hst hpl ht
theorem pe_m0 {pl : Sem Bool} (F : CalM X.prog X.w X.K X.mg X.base C m k ps sp) (c : Cls X.K C) (hr : Room k X.A) (ho : PE X o ta)
    (ht : eval (.Call (.Attribute o m apos) [] [] pos) X.env = (do
      let ov ← eval o X.env
      standAt apos.atName
      let (f, first) ← holding [ov] (getMethod ov m pl)
      callWith pos f first (backTo pos (starEach [] X.env)) (backToKw pos (keywordEach [] X.env))) := by rfl) : PE X (.Call (.Attribute o m apos) [] [] pos) (tMeth C m sp [] E0 ta tNil) := by
  obtain ⟨f, fd, F, mt, b⟩ := F.ex
  exact pe_meth0 ho c mt F hr b .nil pass0 ht
theorem pe_mk (F : CalI X.prog X.w X.K X.mg X.base C k ps sp) (hr : Room (k + 1) X.A) (hm : X.mg x = some (.ref C)) (ha : PA X (e :: es) t) (hg : Gl X x := by rfl) (hdb : (x == ("__debug__" : Str)) = false := by decide)
    (he : starEach (e :: es) X.env = (false, eval e X.env) :: starEach es X.env := by rfl) (hpl : (backTo pos (starEach es X.env)).any (·.1) = false := by rfl) : PE X (.Call (.Name x p) (e :: es) [] pos) (tMake C sp [] E0 t) := by
  obtain ⟨f, fd, F, M, b⟩ := F.ex
  exact pe_make M F hr hg hm b .nil pass0 ha hdb he hpl
/-- a module's constant -/
theorem pe_gi {i : Int} (hm : ∃ t, X.mg x = some (.int i t)) (hg : Gl X x := by rfl) (hdb : (x == ("__debug__" : Str)) = false := by decide) : PE X (.Name x pos) (tC (.int i)) := by
  obtain ⟨t, h⟩ := hm
  exact pe_glob hg h ⟨t, rfl⟩ hdb
theorem pe_gs {z : Str} (hm : ∃ t, X.mg x = some (.str z t)) (hg : Gl X x := by rfl) (hdb : (x == ("__debug__" : Str)) = false := by decide) : PE X (.Name x pos) (tC (.str z)) := by
  obtain ⟨t, h⟩ := hm
  exact pe_glob hg h ⟨t, rfl⟩ hdb
theorem pe_gr {a : Addr} (hm : X.mg x = some (.ref a)) (hg : Gl X x := by rfl) (hdb : (x == ("__debug__" : Str)) = false := by decide) : PE X (.Name x pos) (tC (.ref a)) := pe_glob hg hm rfl hdb
end
section
variable {P : Program} {w : World} {K : PySem.W.Frag} {mg : Str → Option Value} {base : Heap}
theorem Tx.g_isDigitT (T : Tx P w K mg base) : mg "is_digit_tables" = some (.ref (He.ga K "is_digit_tables")) := He.glo_ok T.X T.G (T.c.t.d.fact 0 (f := .glo "is_digit_tables") rfl)
theorem Tx.g_isTable (T : Tx P w K mg base) : mg "is_table" = some (.ref (He.ga K "is_table")) := He.glo_ok T.X T.G (T.c.t.d.fact 1 (f := .glo "is_table") rfl)
theorem Tx.g_isKey (T : Tx P w K mg base) : mg "is_key" = some (.ref (He.ga K "is_key")) := He.glo_ok T.X T.G (T.c.t.d.fact 2 (f := .glo "is_key") rfl)
theorem Tx.g_backTable (T : Tx P w K mg base) : mg "back_table" = some (.ref (He.ga K "back_table")) := He.glo_ok T.X T.G (T.c.t.d.fact 3 (f := .glo "back_table") rfl)
theorem Tx.g_coded (T : Tx P w K mg base) : mg "coded" = some (.ref (He.ga K "coded")) := He.glo_ok T.X T.G (T.c.t.d.fact 4 (f := .glo "coded") rfl)
theorem Tx.g_decoded (T : Tx P w K mg base) : mg "decoded" = some (.ref (He.ga K "decoded")) := He.glo_ok T.X T.G (T.c.t.d.fact 5 (f := .glo "decoded") rfl)
theorem Tx.g_isNameP (T : Tx P w K mg base) : mg "is_name_presses" = some (.ref (He.ga K "is_name_presses")) := He.glo_ok T.X T.G (T.c.t.d.fact 6 (f := .glo "is_name_presses") rfl)
theorem Tx.g_nameDigits (T : Tx P w K mg base) : mg "name_digits" = some (.ref (He.ga K "name_digits")) := He.glo_ok T.X T.G (T.c.t.d.fact 7 (f := .glo "name_digits") rfl)
theorem Tx.g_keyOf (T : Tx P w K mg base) : mg "key_of" = some (.ref (He.ga K "key_of")) := He.glo_ok T.X T.G (T.c.t.d.fact 8 (f := .glo "key_of") rfl)
theorem Tx.g_pressOf (T : Tx P w K mg base) : mg "press_of" = some (.ref (He.ga K "press_of")) := He.glo_ok T.X T.G (T.c.t.d.fact 9 (f := .glo "press_of") rfl)
theorem Tx.g_readPress (T : Tx P w K mg base) : mg "read_press" = some (.ref (He.ga K "read_press")) := He.glo_ok T.X T.G (T.c.t.d.fact 10 (f := .glo "read_press") rfl)
theorem Tx.g_wordOf (T : Tx P w K mg base) : mg "word_of" = some (.ref (He.ga K "word_of")) := He.glo_ok T.X T.G (T.c.t.d.fact 11 (f := .glo "word_of") rfl)
theorem Tx.g_isWhole (T : Tx P w K mg base) : mg "is_whole" = some (.ref (He.ga K "is_whole")) := He.glo_ok T.X T.G (T.c.t.d.fact 12 (f := .glo "is_whole") rfl)
theorem Tx.g_isNameD (T : Tx P w K mg base) : mg "is_name_doors" = some (.ref (He.ga K "is_name_doors")) := He.glo_ok T.X T.G (T.c.t.d.fact 13 (f := .glo "is_name_doors") rfl)
theorem Tx.g_isDigitD (T : Tx P w K mg base) : mg "is_digit_doors" = some (.ref (He.ga K "is_digit_doors")) := He.glo_ok T.X T.G (T.c.t.d.fact 14 (f := .glo "is_digit_doors") rfl)
theorem Tx.g_isPress (T : Tx P w K mg base) : mg "is_press" = some (.ref (He.ga K "is_press")) := He.glo_ok T.X T.G (T.c.t.d.fact 15 (f := .glo "is_press") rfl)
theorem Tx.g_numberIn (T : Tx P w K mg base) : mg "number_in" = some (.ref (He.ga K "number_in")) := He.glo_ok T.X T.G (T.c.t.d.fact 16 (f := .glo "number_in") rfl)
theorem Tx.g_digitsIn (T : Tx P w K mg base) : mg "digits_in" = some (.ref (He.ga K "digits_in")) := He.glo_ok T.X T.G (T.c.t.d.fact 17 (f := .glo "digits_in") rfl)
theorem Tx.g_thingIn (T : Tx P w K mg base) : mg "thing_in" = some (.ref (He.ga K "thing_in")) := He.glo_ok T.X T.G (T.c.t.d.fact 18 (f := .glo "thing_in") rfl)
theorem Tx.g_sortsOf (T : Tx P w K mg base) : mg "sorts_of" = some (.ref (He.ga K "sorts_of")) := He.glo_ok T.X T.G (T.c.t.d.fact 19 (f := .glo "sorts_of") rfl)
theorem Tx.g_rowIn (T : Tx P w K mg base) : mg "row_in" = some (.ref (He.ga K "row_in")) := He.glo_ok T.X T.G (T.c.t.d.fact 20 (f := .glo "row_in") rfl)
theorem Tx.g_readSheet (T : Tx P w K mg base) : mg "read_sheet" = some (.ref (He.ga K "read_sheet")) := He.glo_ok T.X T.G (T.c.t.d.fact 21 (f := .glo "read_sheet") rfl)
theorem Tx.g_classTold (T : Tx P w K mg base) : mg "class_told" = some (.ref (He.ga K "class_told")) := He.glo_ok T.X T.G (T.c.t.d.fact 22 (f := .glo "class_told") rfl)
theorem Tx.g_answerText (T : Tx P w K mg base) : mg "answer_text" = some (.ref (He.ga K "answer_text")) := He.glo_ok T.X T.G (T.c.t.d.fact 23 (f := .glo "answer_text") rfl)
theorem Tx.g_manyText (T : Tx P w K mg base) : mg "many_text" = some (.ref (He.ga K "many_text")) := He.glo_ok T.X T.G (T.c.t.d.fact 24 (f := .glo "many_text") rfl)
theorem Tx.g_knownText (T : Tx P w K mg base) : mg "known_text" = some (.ref (He.ga K "known_text")) := He.glo_ok T.X T.G (T.c.t.d.fact 25 (f := .glo "known_text") rfl)
theorem Tx.g_cellText (T : Tx P w K mg base) : mg "cell_text" = some (.ref (He.ga K "cell_text")) := He.glo_ok T.X T.G (T.c.t.d.fact 26 (f := .glo "cell_text") rfl)
theorem Tx.g_buttonText (T : Tx P w K mg base) : mg "button_text" = some (.ref (He.ga K "button_text")) := He.glo_ok T.X T.G (T.c.t.d.fact 27 (f := .glo "button_text") rfl)
theorem Tx.g_pressedText (T : Tx P w K mg base) : mg "pressed_text" = some (.ref (He.ga K "pressed_text")) := He.glo_ok T.X T.G (T.c.t.d.fact 28 (f := .glo "pressed_text") rfl)
theorem Tx.g_deedDone (T : Tx P w K mg base) : mg "deed_done" = some (.ref (He.ga K "deed_done")) := He.glo_ok T.X T.G (T.c.t.d.fact 29 (f := .glo "deed_done") rfl)
theorem Tx.g_asked (T : Tx P w K mg base) : mg "asked" = some (.ref (He.ga K "asked")) := He.glo_ok T.X T.G (T.c.t.d.fact 30 (f := .glo "asked") rfl)
theorem Tx.g_answerTo (T : Tx P w K mg base) : mg "answer_to" = some (.ref (He.ga K "answer_to")) := He.glo_ok T.X T.G (T.c.t.d.fact 31 (f := .glo "answer_to") rfl)
theorem Tx.g_run (T : Tx P w K mg base) : mg "run" = some (.ref (He.ga K "run")) := He.glo_ok T.X T.G (T.c.t.d.fact 32 (f := .glo "run") rfl)
theorem Tx.g_lBox (T : Tx P w K mg base) : mg "_law_box" = some (.ref (He.ga K "_law_box")) := He.glo_ok T.X T.G (T.c.t.d.fact 33 (f := .glo "_law_box") rfl)
theorem Tx.g_lTake (T : Tx P w K mg base) : mg "_law_take" = some (.ref (He.ga K "_law_take")) := He.glo_ok T.X T.G (T.c.t.d.fact 34 (f := .glo "_law_take") rfl)
theorem Tx.g_lFolded (T : Tx P w K mg base) : mg "_law_folded" = some (.ref (He.ga K "_law_folded")) := He.glo_ok T.X T.G (T.c.t.d.fact 35 (f := .glo "_law_folded") rfl)
theorem Tx.g_lTable (T : Tx P w K mg base) : mg "_law_table" = some (.ref (He.ga K "_law_table")) := He.glo_ok T.X T.G (T.c.t.d.fact 36 (f := .glo "_law_table") rfl)
theorem Tx.g_lKey (T : Tx P w K mg base) : mg "_law_key" = some (.ref (He.ga K "_law_key")) := He.glo_ok T.X T.G (T.c.t.d.fact 37 (f := .glo "_law_key") rfl)
theorem Tx.g_lSigns (T : Tx P w K mg base) : mg "_law_signs" = some (.ref (He.ga K "_law_signs")) := He.glo_ok T.X T.G (T.c.t.d.fact 38 (f := .glo "_law_signs") rfl)
theorem Tx.g_lHead (T : Tx P w K mg base) : mg "_law_head" = some (.ref (He.ga K "_law_head")) := He.glo_ok T.X T.G (T.c.t.d.fact 39 (f := .glo "_law_head") rfl)
theorem Tx.g_lWords (T : Tx P w K mg base) : mg "_law_words" = some (.ref (He.ga K "_law_words")) := He.glo_ok T.X T.G (T.c.t.d.fact 40 (f := .glo "_law_words") rfl)
theorem Tx.g_lWalkRow (T : Tx P w K mg base) : mg "_law_walk_row" = some (.ref (He.ga K "_law_walk_row")) := He.glo_ok T.X T.G (T.c.t.d.fact 41 (f := .glo "_law_walk_row") rfl)
theorem Tx.g_lHeard (T : Tx P w K mg base) : mg "_law_heard" = some (.ref (He.ga K "_law_heard")) := He.glo_ok T.X T.G (T.c.t.d.fact 42 (f := .glo "_law_heard") rfl)
theorem Tx.g_lWalked (T : Tx P w K mg base) : mg "_law_walked" = some (.ref (He.ga K "_law_walked")) := He.glo_ok T.X T.G (T.c.t.d.fact 43 (f := .glo "_law_walked") rfl)
theorem Tx.g_lNeverFalls (T : Tx P w K mg base) : mg "_law_never_falls" = some (.ref (He.ga K "_law_never_falls")) := He.glo_ok T.X T.G (T.c.t.d.fact 44 (f := .glo "_law_never_falls") rfl)
theorem Tx.g_law (T : Tx P w K mg base) : mg "law" = some (.ref (He.ga K "law")) := He.glo_ok T.X T.G (T.c.t.d.fact 45 (f := .glo "law") rfl)
theorem Tx.g_Button (T : Tx P w K mg base) : mg "Button" = some (.ref (He.ga K "Button")) := He.glo_ok T.X T.G (T.c.t.d.fact 46 (f := .glo "Button") rfl)
theorem Tx.cls_Button (T : Tx P w K mg base) : Cls K (He.ga K "Button") := He.cls_ok (T.c.t.d.fact 47 (f := .cls "Button") rfl)
theorem Tx.mk_Button (T : Tx P w K mg base) : Mk K (He.ga K "Button") (He.ma K (He.ga K "Button") "__init__") := He.mkr_ok (T.c.t.d.fact 48 (f := .mkr "Button") rfl)
theorem Tx.m_Button_Init (T : Tx P w K mg base) : Meth K (He.ga K "Button") "__init__" (He.ma K (He.ga K "Button") "__init__") := He.meth_ok (T.c.t.d.fact 49 (f := .meth "Button" "__init__") rfl)
theorem Tx.m_Button_WrittenNext (T : Tx P w K mg base) : Meth K (He.ga K "Button") "written_next" (He.ma K (He.ga K "Button") "written_next") := He.meth_ok (T.c.t.d.fact 50 (f := .meth "Button" "written_next") rfl)
theorem Tx.m_Button_WriteBound (T : Tx P w K mg base) : Meth K (He.ga K "Button") "write_bound" (He.ma K (He.ga K "Button") "write_bound") := He.meth_ok (T.c.t.d.fact 51 (f := .meth "Button" "write_bound") rfl)
theorem Tx.m_Button_PressOnce (T : Tx P w K mg base) : Meth K (He.ga K "Button") "press_once" (He.ma K (He.ga K "Button") "press_once") := He.meth_ok (T.c.t.d.fact 52 (f := .meth "Button" "press_once") rfl)
theorem Tx.m_Button_CellOut (T : Tx P w K mg base) : Meth K (He.ga K "Button") "cell_out" (He.ma K (He.ga K "Button") "cell_out") := He.meth_ok (T.c.t.d.fact 53 (f := .meth "Button" "cell_out") rfl)
theorem Tx.m_Button_CellTorn (T : Tx P w K mg base) : Meth K (He.ga K "Button") "cell_torn" (He.ma K (He.ga K "Button") "cell_torn") := He.meth_ok (T.c.t.d.fact 54 (f := .meth "Button" "cell_torn") rfl)
theorem Tx.m_Button_AgeNow (T : Tx P w K mg base) : Meth K (He.ga K "Button") "age_now" (He.ma K (He.ga K "Button") "age_now") := He.meth_ok (T.c.t.d.fact 55 (f := .meth "Button" "age_now") rfl)
theorem Tx.m_Button_CountNow (T : Tx P w K mg base) : Meth K (He.ga K "Button") "count_now" (He.ma K (He.ga K "Button") "count_now") := He.meth_ok (T.c.t.d.fact 56 (f := .meth "Button" "count_now") rfl)
theorem Tx.m_Button_CellsNow (T : Tx P w K mg base) : Meth K (He.ga K "Button") "cells_now" (He.ma K (He.ga K "Button") "cells_now") := He.meth_ok (T.c.t.d.fact 57 (f := .meth "Button" "cells_now") rfl)
theorem Tx.na_Button_own_name (T : Tx P w K mg base) : NoAttr K (He.ga K "Button") "own_name" := He.noat_ok (T.c.t.d.fact 58 (f := .noat "Button" "own_name") rfl)
theorem Tx.na_Button_own_table (T : Tx P w K mg base) : NoAttr K (He.ga K "Button") "own_table" := He.noat_ok (T.c.t.d.fact 59 (f := .noat "Button" "own_table") rfl)
theorem Tx.na_Button_own_key (T : Tx P w K mg base) : NoAttr K (He.ga K "Button") "own_key" := He.noat_ok (T.c.t.d.fact 60 (f := .noat "Button" "own_key") rfl)
theorem Tx.na_Button_own_age (T : Tx P w K mg base) : NoAttr K (He.ga K "Button") "own_age" := He.noat_ok (T.c.t.d.fact 61 (f := .noat "Button" "own_age") rfl)
theorem Tx.na_Button_own_step (T : Tx P w K mg base) : NoAttr K (He.ga K "Button") "own_step" := He.noat_ok (T.c.t.d.fact 62 (f := .noat "Button" "own_step") rfl)
theorem Tx.na_Button_so_many (T : Tx P w K mg base) : NoAttr K (He.ga K "Button") "so_many" := He.noat_ok (T.c.t.d.fact 63 (f := .noat "Button" "so_many") rfl)
theorem Tx.na_Button_allowed (T : Tx P w K mg base) : NoAttr K (He.ga K "Button") "allowed" := He.noat_ok (T.c.t.d.fact 64 (f := .noat "Button" "allowed") rfl)
theorem Tx.na_Button_cells (T : Tx P w K mg base) : NoAttr K (He.ga K "Button") "cells" := He.noat_ok (T.c.t.d.fact 65 (f := .noat "Button" "cells") rfl)
theorem Tx.g_Door (T : Tx P w K mg base) : mg "Door" = some (.ref (He.ga K "Door")) := He.glo_ok T.X T.G (T.c.t.d.fact 66 (f := .glo "Door") rfl)
theorem Tx.cls_Door (T : Tx P w K mg base) : Cls K (He.ga K "Door") := He.cls_ok (T.c.t.d.fact 67 (f := .cls "Door") rfl)
theorem Tx.mk_Door (T : Tx P w K mg base) : Mk K (He.ga K "Door") (He.ma K (He.ga K "Door") "__init__") := He.mkr_ok (T.c.t.d.fact 68 (f := .mkr "Door") rfl)
theorem Tx.m_Door_Init (T : Tx P w K mg base) : Meth K (He.ga K "Door") "__init__" (He.ma K (He.ga K "Door") "__init__") := He.meth_ok (T.c.t.d.fact 69 (f := .meth "Door" "__init__") rfl)
theorem Tx.m_Door_TakesAge (T : Tx P w K mg base) : Meth K (He.ga K "Door") "takes_age" (He.ma K (He.ga K "Door") "takes_age") := He.meth_ok (T.c.t.d.fact 70 (f := .meth "Door" "takes_age") rfl)
theorem Tx.m_Door_Read (T : Tx P w K mg base) : Meth K (He.ga K "Door") "read" (He.ma K (He.ga K "Door") "read") := He.meth_ok (T.c.t.d.fact 71 (f := .meth "Door" "read") rfl)
theorem Tx.m_Door_Learn (T : Tx P w K mg base) : Meth K (He.ga K "Door") "learn" (He.ma K (He.ga K "Door") "learn") := He.meth_ok (T.c.t.d.fact 72 (f := .meth "Door" "learn") rfl)
theorem Tx.m_Door_TurnKey (T : Tx P w K mg base) : Meth K (He.ga K "Door") "turn_key" (He.ma K (He.ga K "Door") "turn_key") := He.meth_ok (T.c.t.d.fact 73 (f := .meth "Door" "turn_key") rfl)
theorem Tx.m_Door_AnswerTo (T : Tx P w K mg base) : Meth K (He.ga K "Door") "answer_to" (He.ma K (He.ga K "Door") "answer_to") := He.meth_ok (T.c.t.d.fact 74 (f := .meth "Door" "answer_to") rfl)
theorem Tx.m_Door_Hear (T : Tx P w K mg base) : Meth K (He.ga K "Door") "hear" (He.ma K (He.ga K "Door") "hear") := He.meth_ok (T.c.t.d.fact 75 (f := .meth "Door" "hear") rfl)
theorem Tx.m_Door_KnownNow (T : Tx P w K mg base) : Meth K (He.ga K "Door") "known_now" (He.ma K (He.ga K "Door") "known_now") := He.meth_ok (T.c.t.d.fact 76 (f := .meth "Door" "known_now") rfl)
theorem Tx.m_Door_ClosedNow (T : Tx P w K mg base) : Meth K (He.ga K "Door") "closed_now" (He.ma K (He.ga K "Door") "closed_now") := He.meth_ok (T.c.t.d.fact 77 (f := .meth "Door" "closed_now") rfl)
theorem Tx.m_Door_BoundsTold (T : Tx P w K mg base) : Meth K (He.ga K "Door") "bounds_told" (He.ma K (He.ga K "Door") "bounds_told") := He.meth_ok (T.c.t.d.fact 78 (f := .meth "Door" "bounds_told") rfl)
theorem Tx.m_Door_TwinDoor (T : Tx P w K mg base) : Meth K (He.ga K "Door") "twin_door" (He.ma K (He.ga K "Door") "twin_door") := He.meth_ok (T.c.t.d.fact 79 (f := .meth "Door" "twin_door") rfl)
theorem Tx.na_Door_table (T : Tx P w K mg base) : NoAttr K (He.ga K "Door") "table" := He.noat_ok (T.c.t.d.fact 80 (f := .noat "Door" "table") rfl)
theorem Tx.na_Door_house_keys (T : Tx P w K mg base) : NoAttr K (He.ga K "Door") "house_keys" := He.noat_ok (T.c.t.d.fact 81 (f := .noat "Door" "house_keys") rfl)
theorem Tx.na_Door_bounds (T : Tx P w K mg base) : NoAttr K (He.ga K "Door") "bounds" := He.noat_ok (T.c.t.d.fact 82 (f := .noat "Door" "bounds") rfl)
theorem Tx.na_Door_first_keys (T : Tx P w K mg base) : NoAttr K (He.ga K "Door") "first_keys" := He.noat_ok (T.c.t.d.fact 83 (f := .noat "Door" "first_keys") rfl)
theorem Tx.na_Door_least_age (T : Tx P w K mg base) : NoAttr K (He.ga K "Door") "least_age" := He.noat_ok (T.c.t.d.fact 84 (f := .noat "Door" "least_age") rfl)
theorem Tx.na_Door_entries (T : Tx P w K mg base) : NoAttr K (He.ga K "Door") "entries" := He.noat_ok (T.c.t.d.fact 85 (f := .noat "Door" "entries") rfl)
theorem Tx.na_Door_rows (T : Tx P w K mg base) : NoAttr K (He.ga K "Door") "rows" := He.noat_ok (T.c.t.d.fact 86 (f := .noat "Door" "rows") rfl)
theorem Tx.g_House (T : Tx P w K mg base) : mg "House" = some (.ref (He.ga K "House")) := He.glo_ok T.X T.G (T.c.t.d.fact 87 (f := .glo "House") rfl)
theorem Tx.cls_House (T : Tx P w K mg base) : Cls K (He.ga K "House") := He.cls_ok (T.c.t.d.fact 88 (f := .cls "House") rfl)
theorem Tx.mk_House (T : Tx P w K mg base) : Mk K (He.ga K "House") (He.ma K (He.ga K "House") "__init__") := He.mkr_ok (T.c.t.d.fact 89 (f := .mkr "House") rfl)
theorem Tx.m_House_Init (T : Tx P w K mg base) : Meth K (He.ga K "House") "__init__" (He.ma K (He.ga K "House") "__init__") := He.meth_ok (T.c.t.d.fact 90 (f := .meth "House" "__init__") rfl)
theorem Tx.m_House_LookDoor (T : Tx P w K mg base) : Meth K (He.ga K "House") "look_door" (He.ma K (He.ga K "House") "look_door") := He.meth_ok (T.c.t.d.fact 91 (f := .meth "House" "look_door") rfl)
theorem Tx.m_House_LookButton (T : Tx P w K mg base) : Meth K (He.ga K "House") "look_button" (He.ma K (He.ga K "House") "look_button") := He.meth_ok (T.c.t.d.fact 92 (f := .meth "House" "look_button") rfl)
theorem Tx.m_House_AddDoor (T : Tx P w K mg base) : Meth K (He.ga K "House") "add_door" (He.ma K (He.ga K "House") "add_door") := He.meth_ok (T.c.t.d.fact 93 (f := .meth "House" "add_door") rfl)
theorem Tx.m_House_AddButton (T : Tx P w K mg base) : Meth K (He.ga K "House") "add_button" (He.ma K (He.ga K "House") "add_button") := He.meth_ok (T.c.t.d.fact 94 (f := .meth "House" "add_button") rfl)
theorem Tx.m_House_Teach (T : Tx P w K mg base) : Meth K (He.ga K "House") "teach" (He.ma K (He.ga K "House") "teach") := He.meth_ok (T.c.t.d.fact 95 (f := .meth "House" "teach") rfl)
theorem Tx.m_House_Listen (T : Tx P w K mg base) : Meth K (He.ga K "House") "listen" (He.ma K (He.ga K "House") "listen") := He.meth_ok (T.c.t.d.fact 96 (f := .meth "House" "listen") rfl)
theorem Tx.m_House_PressButton (T : Tx P w K mg base) : Meth K (He.ga K "House") "press_button" (He.ma K (He.ga K "House") "press_button") := He.meth_ok (T.c.t.d.fact 97 (f := .meth "House" "press_button") rfl)
theorem Tx.m_House_PlayKept (T : Tx P w K mg base) : Meth K (He.ga K "House") "play_kept" (He.ma K (He.ga K "House") "play_kept") := He.meth_ok (T.c.t.d.fact 98 (f := .meth "House" "play_kept") rfl)
theorem Tx.m_House_LoseCell (T : Tx P w K mg base) : Meth K (He.ga K "House") "lose_cell" (He.ma K (He.ga K "House") "lose_cell") := He.meth_ok (T.c.t.d.fact 99 (f := .meth "House" "lose_cell") rfl)
theorem Tx.m_House_TearCell (T : Tx P w K mg base) : Meth K (He.ga K "House") "tear_cell" (He.ma K (He.ga K "House") "tear_cell") := He.meth_ok (T.c.t.d.fact 100 (f := .meth "House" "tear_cell") rfl)
theorem Tx.m_House_TurnHouse (T : Tx P w K mg base) : Meth K (He.ga K "House") "turn_house" (He.ma K (He.ga K "House") "turn_house") := He.meth_ok (T.c.t.d.fact 101 (f := .meth "House" "turn_house") rfl)
theorem Tx.m_House_DoorNow (T : Tx P w K mg base) : Meth K (He.ga K "House") "door_now" (He.ma K (He.ga K "House") "door_now") := He.meth_ok (T.c.t.d.fact 102 (f := .meth "House" "door_now") rfl)
theorem Tx.m_House_ButtonNow (T : Tx P w K mg base) : Meth K (He.ga K "House") "button_now" (He.ma K (He.ga K "House") "button_now") := He.meth_ok (T.c.t.d.fact 103 (f := .meth "House" "button_now") rfl)
theorem Tx.na_House_table (T : Tx P w K mg base) : NoAttr K (He.ga K "House") "table" := He.noat_ok (T.c.t.d.fact 104 (f := .noat "House" "table") rfl)
theorem Tx.na_House_house_keys (T : Tx P w K mg base) : NoAttr K (He.ga K "House") "house_keys" := He.noat_ok (T.c.t.d.fact 105 (f := .noat "House" "house_keys") rfl)
theorem Tx.na_House_closed (T : Tx P w K mg base) : NoAttr K (He.ga K "House") "closed" := He.noat_ok (T.c.t.d.fact 106 (f := .noat "House" "closed") rfl)
theorem Tx.na_House_doors (T : Tx P w K mg base) : NoAttr K (He.ga K "House") "doors" := He.noat_ok (T.c.t.d.fact 107 (f := .noat "House" "doors") rfl)
theorem Tx.na_House_buttons (T : Tx P w K mg base) : NoAttr K (He.ga K "House") "buttons" := He.noat_ok (T.c.t.d.fact 108 (f := .noat "House" "buttons") rfl)
theorem Tx.na_House_kept (T : Tx P w K mg base) : NoAttr K (He.ga K "House") "kept" := He.noat_ok (T.c.t.d.fact 109 (f := .noat "House" "kept") rfl)
theorem Tx.na_House_opened (T : Tx P w K mg base) : NoAttr K (He.ga K "House") "opened" := He.noat_ok (T.c.t.d.fact 110 (f := .noat "House" "opened") rfl)
theorem Tx.i_DIGITS_tables (T : Tx P w K mg base) : ∃ t, mg "DIGITS_tables" = some (.int 16 t) := He.int_ok T.X T.G (T.c.t.d.fact 111 (f := .int "DIGITS_tables" 16) rfl)
theorem Tx.i_LONGEST_KEY (T : Tx P w K mg base) : ∃ t, mg "LONGEST_KEY" = some (.int 8 t) := He.int_ok T.X T.G (T.c.t.d.fact 112 (f := .int "LONGEST_KEY" 8) rfl)
theorem Tx.i_LONGEST_NAME (T : Tx P w K mg base) : ∃ t, mg "LONGEST_NAME" = some (.int 8 t) := He.int_ok T.X T.G (T.c.t.d.fact 113 (f := .int "LONGEST_NAME" 8) rfl)
theorem Tx.i_KEY_PLACES (T : Tx P w K mg base) : ∃ t, mg "KEY_PLACES" = some (.int 4 t) := He.int_ok T.X T.G (T.c.t.d.fact 114 (f := .int "KEY_PLACES" 4) rfl)
theorem Tx.i_MOST_COUNT_buttons (T : Tx P w K mg base) : ∃ t, mg "MOST_COUNT_buttons" = some (.int 4096 t) := He.int_ok T.X T.G (T.c.t.d.fact 115 (f := .int "MOST_COUNT_buttons" 4096) rfl)
theorem Tx.i_MOST_LETTERS (T : Tx P w K mg base) : ∃ t, mg "MOST_LETTERS" = some (.int 8 t) := He.int_ok T.X T.G (T.c.t.d.fact 116 (f := .int "MOST_LETTERS" 8) rfl)
theorem Tx.i_DIGITS_doors (T : Tx P w K mg base) : ∃ t, mg "DIGITS_doors" = some (.int 5 t) := He.int_ok T.X T.G (T.c.t.d.fact 117 (f := .int "DIGITS_doors" 5) rfl)
theorem Tx.i_SIXTEEN (T : Tx P w K mg base) : ∃ t, mg "SIXTEEN" = some (.int 16 t) := He.int_ok T.X T.G (T.c.t.d.fact 118 (f := .int "SIXTEEN" 16) rfl)
theorem Tx.i_MOST_KEYS_doors (T : Tx P w K mg base) : ∃ t, mg "MOST_KEYS_doors" = some (.int 8 t) := He.int_ok T.X T.G (T.c.t.d.fact 119 (f := .int "MOST_KEYS_doors" 8) rfl)
theorem Tx.i_MOST_KEYS_house (T : Tx P w K mg base) : ∃ t, mg "MOST_KEYS_house" = some (.int 8 t) := He.int_ok T.X T.G (T.c.t.d.fact 120 (f := .int "MOST_KEYS_house" 8) rfl)
theorem Tx.i_LAST_PAIR (T : Tx P w K mg base) : ∃ t, mg "LAST_PAIR" = some (.int 4094 t) := He.int_ok T.X T.G (T.c.t.d.fact 121 (f := .int "LAST_PAIR" 4094) rfl)
theorem Tx.i_MOST_ROWS (T : Tx P w K mg base) : ∃ t, mg "MOST_ROWS" = some (.int 120 t) := He.int_ok T.X T.G (T.c.t.d.fact 122 (f := .int "MOST_ROWS" 120) rfl)
theorem Tx.i_LONGEST_NUMBER (T : Tx P w K mg base) : ∃ t, mg "LONGEST_NUMBER" = some (.int 6 t) := He.int_ok T.X T.G (T.c.t.d.fact 123 (f := .int "LONGEST_NUMBER" 6) rfl)
theorem Tx.z_LETTERS_presses (T : Tx P w K mg base) : ∃ t, mg "LETTERS_presses" = some (.str "abcdefghijklmnopqrstuvwxyz" t) := He.str_ok T.X T.G (T.c.t.d.fact 124 (f := .str "LETTERS_presses" "abcdefghijklmnopqrstuvwxyz") rfl)
theorem Tx.z_LETTERS_doors (T : Tx P w K mg base) : ∃ t, mg "LETTERS_doors" = some (.str "abcdefghijklmnopqrstuvwxyz" t) := He.str_ok T.X T.G (T.c.t.d.fact 125 (f := .str "LETTERS_doors" "abcdefghijklmnopqrstuvwxyz") rfl)
theorem Tx.z_OPEN (T : Tx P w K mg base) : ∃ t, mg "OPEN" = some (.str "open" t) := He.str_ok T.X T.G (T.c.t.d.fact 126 (f := .str "OPEN" "open") rfl)
theorem Tx.z_SIGNS (T : Tx P w K mg base) : ∃ t, mg "SIGNS" = some (.str "0123456789abcdef" t) := He.str_ok T.X T.G (T.c.t.d.fact 127 (f := .str "SIGNS" "0123456789abcdef") rfl)
theorem Tx.z_FIGURES (T : Tx P w K mg base) : ∃ t, mg "FIGURES" = some (.str "0123456789" t) := He.str_ok T.X T.G (T.c.t.d.fact 128 (f := .str "FIGURES" "0123456789") rfl)
theorem Tx.z_DONE (T : Tx P w K mg base) : ∃ t, mg "DONE" = some (.str "done" t) := He.str_ok T.X T.G (T.c.t.d.fact 129 (f := .str "DONE" "done") rfl)
theorem Tx.z_NOTHING (T : Tx P w K mg base) : ∃ t, mg "NOTHING" = some (.str "-" t) := He.str_ok T.X T.G (T.c.t.d.fact 130 (f := .str "NOTHING" "-") rfl)
theorem Tx.f_len (T : Tx P w K mg base) : mg "len" = none := He.free_ok T.X T.G (T.c.t.d.fact 131 (f := .free "len") rfl)
theorem Tx.f_isinstance (T : Tx P w K mg base) : mg "isinstance" = none := He.free_ok T.X T.G (T.c.t.d.fact 132 (f := .free "isinstance") rfl)
theorem Tx.f_int (T : Tx P w K mg base) : mg "int" = none := He.free_ok T.X T.G (T.c.t.d.fact 133 (f := .free "int") rfl)
theorem Tx.f_bool (T : Tx P w K mg base) : mg "bool" = none := He.free_ok T.X T.G (T.c.t.d.fact 134 (f := .free "bool") rfl)
theorem Tx.f_str (T : Tx P w K mg base) : mg "str" = none := He.free_ok T.X T.G (T.c.t.d.fact 135 (f := .free "str") rfl)
theorem Tx.f_tuple (T : Tx P w K mg base) : mg "tuple" = none := He.free_ok T.X T.G (T.c.t.d.fact 136 (f := .free "tuple") rfl)
theorem Tx.f_list (T : Tx P w K mg base) : mg "list" = none := He.free_ok T.X T.G (T.c.t.d.fact 137 (f := .free "list") rfl)
theorem Tx.f_set (T : Tx P w K mg base) : mg "set" = none := He.free_ok T.X T.G (T.c.t.d.fact 138 (f := .free "set") rfl)
theorem Tx.f_dict (T : Tx P w K mg base) : mg "dict" = none := He.free_ok T.X T.G (T.c.t.d.fact 139 (f := .free "dict") rfl)
theorem Tx.f_range (T : Tx P w K mg base) : mg "range" = none := He.free_ok T.X T.G (T.c.t.d.fact 140 (f := .free "range") rfl)
theorem Tx.f_enumerate (T : Tx P w K mg base) : mg "enumerate" = none := He.free_ok T.X T.G (T.c.t.d.fact 141 (f := .free "enumerate") rfl)
theorem Tx.f_reversed (T : Tx P w K mg base) : mg "reversed" = none := He.free_ok T.X T.G (T.c.t.d.fact 142 (f := .free "reversed") rfl)
theorem Tx.f_zip (T : Tx P w K mg base) : mg "zip" = none := He.free_ok T.X T.G (T.c.t.d.fact 143 (f := .free "zip") rfl)
theorem Tx.f_sum (T : Tx P w K mg base) : mg "sum" = none := He.free_ok T.X T.G (T.c.t.d.fact 144 (f := .free "sum") rfl)
theorem Tx.f_max (T : Tx P w K mg base) : mg "max" = none := He.free_ok T.X T.G (T.c.t.d.fact 145 (f := .free "max") rfl)
theorem Tx.f_min (T : Tx P w K mg base) : mg "min" = none := He.free_ok T.X T.G (T.c.t.d.fact 146 (f := .free "min") rfl)
theorem Tx.f_any (T : Tx P w K mg base) : mg "any" = none := He.free_ok T.X T.G (T.c.t.d.fact 147 (f := .free "any") rfl)
theorem Tx.f_all (T : Tx P w K mg base) : mg "all" = none := He.free_ok T.X T.G (T.c.t.d.fact 148 (f := .free "all") rfl)
theorem Tx.f_sorted (T : Tx P w K mg base) : mg "sorted" = none := He.free_ok T.X T.G (T.c.t.d.fact 149 (f := .free "sorted") rfl)
theorem Tx.f_abs (T : Tx P w K mg base) : mg "abs" = none := He.free_ok T.X T.G (T.c.t.d.fact 150 (f := .free "abs") rfl)
theorem Tx.f_divmod (T : Tx P w K mg base) : mg "divmod" = none := He.free_ok T.X T.G (T.c.t.d.fact 151 (f := .free "divmod") rfl)
theorem Tx.g_Worn (T : Tx P w K mg base) : mg "Worn" = some (.ref (He.ga K "Worn")) := He.glo_ok T.X T.G (T.c.t.d.fact 152 (f := .glo "Worn") rfl)
theorem Tx.g_Known (T : Tx P w K mg base) : mg "Known" = some (.ref (He.ga K "Known")) := He.glo_ok T.X T.G (T.c.t.d.fact 153 (f := .glo "Known") rfl)
theorem Tx.g_Full (T : Tx P w K mg base) : mg "Full" = some (.ref (He.ga K "Full")) := He.glo_ok T.X T.G (T.c.t.d.fact 154 (f := .glo "Full") rfl)
theorem Tx.g_Unknown (T : Tx P w K mg base) : mg "Unknown" = some (.ref (He.ga K "Unknown")) := He.glo_ok T.X T.G (T.c.t.d.fact 155 (f := .glo "Unknown") rfl)
theorem Tx.g_TooMany (T : Tx P w K mg base) : mg "TooMany" = some (.ref (He.ga K "TooMany")) := He.glo_ok T.X T.G (T.c.t.d.fact 156 (f := .glo "TooMany") rfl)
theorem Tx.g_BadPress (T : Tx P w K mg base) : mg "BadPress" = some (.ref (He.ga K "BadPress")) := He.glo_ok T.X T.G (T.c.t.d.fact 157 (f := .glo "BadPress") rfl)
theorem Tx.g_CodeError (T : Tx P w K mg base) : mg "CodeError" = some (.ref (He.ga K "CodeError")) := He.glo_ok T.X T.G (T.c.t.d.fact 158 (f := .glo "CodeError") rfl)
theorem Tx.g_LEAST (T : Tx P w K mg base) : mg "LEAST" = some (.ref (He.ga K "LEAST")) := He.glo_ok T.X T.G (T.c.t.d.fact 159 (f := .glo "LEAST") rfl)
theorem Tx.g_MOST (T : Tx P w K mg base) : mg "MOST" = some (.ref (He.ga K "MOST")) := He.glo_ok T.X T.G (T.c.t.d.fact 160 (f := .glo "MOST") rfl)
theorem Tx.g_ORDERS (T : Tx P w K mg base) : mg "ORDERS" = some (.ref (He.ga K "ORDERS")) := He.glo_ok T.X T.G (T.c.t.d.fact 161 (f := .glo "ORDERS") rfl)
theorem Tx.exc_TooMany (T : Tx P w K mg base) : He.Fa.ok K (.exc "TooMany") = true := T.c.t.d.fact 162 (f := .exc "TooMany") rfl
theorem Tx.exm_TooMany (T : Tx P w K mg base) : He.Fa.ok K (.exm "TooMany" "CodeError" true) = true := T.c.t.d.fact 163 (f := .exm "TooMany" "CodeError" true) rfl
theorem Tx.df_isDigitT (T : Tx P w K mg base) : ∃ fd, FunD K d_isDigitT.name d_isDigitT.qual (defArgs s_isDigitT) (defBody s_isDigitT) (defScope s_isDigitT) [] [] (He.fAd K d_isDigitT.at_) fd := T.c.t.d.def_ 0 (d := d_isDigitT) rfl
theorem Tx.df_isTable (T : Tx P w K mg base) : ∃ fd, FunD K d_isTable.name d_isTable.qual (defArgs s_isTable) (defBody s_isTable) (defScope s_isTable) [] [] (He.fAd K d_isTable.at_) fd := T.c.t.d.def_ 1 (d := d_isTable) rfl
theorem Tx.df_isKey (T : Tx P w K mg base) : ∃ fd, FunD K d_isKey.name d_isKey.qual (defArgs s_isKey) (defBody s_isKey) (defScope s_isKey) [] [] (He.fAd K d_isKey.at_) fd := T.c.t.d.def_ 2 (d := d_isKey) rfl
theorem Tx.df_backTable (T : Tx P w K mg base) : ∃ fd, FunD K d_backTable.name d_backTable.qual (defArgs s_backTable) (defBody s_backTable) (defScope s_backTable) [] [] (He.fAd K d_backTable.at_) fd := T.c.t.d.def_ 3 (d := d_backTable) rfl
theorem Tx.df_coded (T : Tx P w K mg base) : ∃ fd, FunD K d_coded.name d_coded.qual (defArgs s_coded) (defBody s_coded) (defScope s_coded) [] [] (He.fAd K d_coded.at_) fd := T.c.t.d.def_ 4 (d := d_coded) rfl
theorem Tx.df_decoded (T : Tx P w K mg base) : ∃ fd, FunD K d_decoded.name d_decoded.qual (defArgs s_decoded) (defBody s_decoded) (defScope s_decoded) [] [] (He.fAd K d_decoded.at_) fd := T.c.t.d.def_ 5 (d := d_decoded) rfl
theorem Tx.df_isNameP (T : Tx P w K mg base) : ∃ fd, FunD K d_isNameP.name d_isNameP.qual (defArgs s_isNameP) (defBody s_isNameP) (defScope s_isNameP) [] [] (He.fAd K d_isNameP.at_) fd := T.c.t.d.def_ 6 (d := d_isNameP) rfl
theorem Tx.df_nameDigits (T : Tx P w K mg base) : ∃ fd, FunD K d_nameDigits.name d_nameDigits.qual (defArgs s_nameDigits) (defBody s_nameDigits) (defScope s_nameDigits) [] [] (He.fAd K d_nameDigits.at_) fd := T.c.t.d.def_ 7 (d := d_nameDigits) rfl
theorem Tx.df_keyOf (T : Tx P w K mg base) : ∃ fd, FunD K d_keyOf.name d_keyOf.qual (defArgs s_keyOf) (defBody s_keyOf) (defScope s_keyOf) [] [] (He.fAd K d_keyOf.at_) fd := T.c.t.d.def_ 8 (d := d_keyOf) rfl
theorem Tx.df_pressOf (T : Tx P w K mg base) : ∃ fd, FunD K d_pressOf.name d_pressOf.qual (defArgs s_pressOf) (defBody s_pressOf) (defScope s_pressOf) [] [] (He.fAd K d_pressOf.at_) fd := T.c.t.d.def_ 9 (d := d_pressOf) rfl
theorem Tx.df_readPress (T : Tx P w K mg base) : ∃ fd, FunD K d_readPress.name d_readPress.qual (defArgs s_readPress) (defBody s_readPress) (defScope s_readPress) [] [] (He.fAd K d_readPress.at_) fd := T.c.t.d.def_ 10 (d := d_readPress) rfl
theorem Tx.df_wordOf (T : Tx P w K mg base) : ∃ fd, FunD K d_wordOf.name d_wordOf.qual (defArgs s_wordOf) (defBody s_wordOf) (defScope s_wordOf) [] [] (He.fAd K d_wordOf.at_) fd := T.c.t.d.def_ 11 (d := d_wordOf) rfl
theorem Tx.df_isWhole (T : Tx P w K mg base) : ∃ fd, FunD K d_isWhole.name d_isWhole.qual (defArgs s_isWhole) (defBody s_isWhole) (defScope s_isWhole) [] [] (He.fAd K d_isWhole.at_) fd := T.c.t.d.def_ 12 (d := d_isWhole) rfl
theorem Tx.df_isNameD (T : Tx P w K mg base) : ∃ fd, FunD K d_isNameD.name d_isNameD.qual (defArgs s_isNameD) (defBody s_isNameD) (defScope s_isNameD) [] [] (He.fAd K d_isNameD.at_) fd := T.c.t.d.def_ 13 (d := d_isNameD) rfl
theorem Tx.df_isDigitD (T : Tx P w K mg base) : ∃ fd, FunD K d_isDigitD.name d_isDigitD.qual (defArgs s_isDigitD) (defBody s_isDigitD) (defScope s_isDigitD) [] [] (He.fAd K d_isDigitD.at_) fd := T.c.t.d.def_ 14 (d := d_isDigitD) rfl
theorem Tx.df_isPress (T : Tx P w K mg base) : ∃ fd, FunD K d_isPress.name d_isPress.qual (defArgs s_isPress) (defBody s_isPress) (defScope s_isPress) [] [] (He.fAd K d_isPress.at_) fd := T.c.t.d.def_ 15 (d := d_isPress) rfl
theorem Tx.df_numberIn (T : Tx P w K mg base) : ∃ fd, FunD K d_numberIn.name d_numberIn.qual (defArgs s_numberIn) (defBody s_numberIn) (defScope s_numberIn) [] [] (He.fAd K d_numberIn.at_) fd := T.c.t.d.def_ 16 (d := d_numberIn) rfl
theorem Tx.df_digitsIn (T : Tx P w K mg base) : ∃ fd, FunD K d_digitsIn.name d_digitsIn.qual (defArgs s_digitsIn) (defBody s_digitsIn) (defScope s_digitsIn) [] [] (He.fAd K d_digitsIn.at_) fd := T.c.t.d.def_ 17 (d := d_digitsIn) rfl
theorem Tx.df_thingIn (T : Tx P w K mg base) : ∃ fd, FunD K d_thingIn.name d_thingIn.qual (defArgs s_thingIn) (defBody s_thingIn) (defScope s_thingIn) [] [] (He.fAd K d_thingIn.at_) fd := T.c.t.d.def_ 18 (d := d_thingIn) rfl
theorem Tx.df_sortsOf (T : Tx P w K mg base) : ∃ fd, FunD K d_sortsOf.name d_sortsOf.qual (defArgs s_sortsOf) (defBody s_sortsOf) (defScope s_sortsOf) [] [] (He.fAd K d_sortsOf.at_) fd := T.c.t.d.def_ 19 (d := d_sortsOf) rfl
theorem Tx.df_rowIn (T : Tx P w K mg base) : ∃ fd, FunD K d_rowIn.name d_rowIn.qual (defArgs s_rowIn) (defBody s_rowIn) (defScope s_rowIn) [] [] (He.fAd K d_rowIn.at_) fd := T.c.t.d.def_ 20 (d := d_rowIn) rfl
theorem Tx.df_readSheet (T : Tx P w K mg base) : ∃ fd, FunD K d_readSheet.name d_readSheet.qual (defArgs s_readSheet) (defBody s_readSheet) (defScope s_readSheet) [] [] (He.fAd K d_readSheet.at_) fd := T.c.t.d.def_ 21 (d := d_readSheet) rfl
theorem Tx.df_classTold (T : Tx P w K mg base) : ∃ fd, FunD K d_classTold.name d_classTold.qual (defArgs s_classTold) (defBody s_classTold) (defScope s_classTold) [] [] (He.fAd K d_classTold.at_) fd := T.c.t.d.def_ 22 (d := d_classTold) rfl
theorem Tx.df_answerText (T : Tx P w K mg base) : ∃ fd, FunD K d_answerText.name d_answerText.qual (defArgs s_answerText) (defBody s_answerText) (defScope s_answerText) [] [] (He.fAd K d_answerText.at_) fd := T.c.t.d.def_ 23 (d := d_answerText) rfl
theorem Tx.df_manyText (T : Tx P w K mg base) : ∃ fd, FunD K d_manyText.name d_manyText.qual (defArgs s_manyText) (defBody s_manyText) (defScope s_manyText) [] [] (He.fAd K d_manyText.at_) fd := T.c.t.d.def_ 24 (d := d_manyText) rfl
theorem Tx.df_knownText (T : Tx P w K mg base) : ∃ fd, FunD K d_knownText.name d_knownText.qual (defArgs s_knownText) (defBody s_knownText) (defScope s_knownText) [] [] (He.fAd K d_knownText.at_) fd := T.c.t.d.def_ 25 (d := d_knownText) rfl
theorem Tx.df_cellText (T : Tx P w K mg base) : ∃ fd, FunD K d_cellText.name d_cellText.qual (defArgs s_cellText) (defBody s_cellText) (defScope s_cellText) [] [] (He.fAd K d_cellText.at_) fd := T.c.t.d.def_ 26 (d := d_cellText) rfl
theorem Tx.df_buttonText (T : Tx P w K mg base) : ∃ fd, FunD K d_buttonText.name d_buttonText.qual (defArgs s_buttonText) (defBody s_buttonText) (defScope s_buttonText) [] [] (He.fAd K d_buttonText.at_) fd := T.c.t.d.def_ 27 (d := d_buttonText) rfl
theorem Tx.df_pressedText (T : Tx P w K mg base) : ∃ fd, FunD K d_pressedText.name d_pressedText.qual (defArgs s_pressedText) (defBody s_pressedText) (defScope s_pressedText) [] [] (He.fAd K d_pressedText.at_) fd := T.c.t.d.def_ 28 (d := d_pressedText) rfl
theorem Tx.df_deedDone (T : Tx P w K mg base) : ∃ fd, FunD K d_deedDone.name d_deedDone.qual (defArgs s_deedDone) (defBody s_deedDone) (defScope s_deedDone) [] [] (He.fAd K d_deedDone.at_) fd := T.c.t.d.def_ 29 (d := d_deedDone) rfl
theorem Tx.df_asked (T : Tx P w K mg base) : ∃ fd, FunD K d_asked.name d_asked.qual (defArgs s_asked) (defBody s_asked) (defScope s_asked) [] [] (He.fAd K d_asked.at_) fd := T.c.t.d.def_ 30 (d := d_asked) rfl
theorem Tx.df_answerTo (T : Tx P w K mg base) : ∃ fd, FunD K d_answerTo.name d_answerTo.qual (defArgs s_answerTo) (defBody s_answerTo) (defScope s_answerTo) [] [] (He.fAd K d_answerTo.at_) fd := T.c.t.d.def_ 31 (d := d_answerTo) rfl
theorem Tx.df_run (T : Tx P w K mg base) : ∃ fd, FunD K d_run.name d_run.qual (defArgs s_run) (defBody s_run) (defScope s_run) [] [] (He.fAd K d_run.at_) fd := T.c.t.d.def_ 32 (d := d_run) rfl
theorem Tx.df_lBox (T : Tx P w K mg base) : ∃ fd, FunD K d_lBox.name d_lBox.qual (defArgs s_lBox) (defBody s_lBox) (defScope s_lBox) [] [] (He.fAd K d_lBox.at_) fd := T.c.t.d.def_ 33 (d := d_lBox) rfl
theorem Tx.df_lTake (T : Tx P w K mg base) : ∃ fd, FunD K d_lTake.name d_lTake.qual (defArgs s_lTake) (defBody s_lTake) (defScope s_lTake) [] [] (He.fAd K d_lTake.at_) fd := T.c.t.d.def_ 34 (d := d_lTake) rfl
theorem Tx.df_lFolded (T : Tx P w K mg base) : ∃ fd, FunD K d_lFolded.name d_lFolded.qual (defArgs s_lFolded) (defBody s_lFolded) (defScope s_lFolded) [] [] (He.fAd K d_lFolded.at_) fd := T.c.t.d.def_ 35 (d := d_lFolded) rfl
theorem Tx.df_lTable (T : Tx P w K mg base) : ∃ fd, FunD K d_lTable.name d_lTable.qual (defArgs s_lTable) (defBody s_lTable) (defScope s_lTable) [] [] (He.fAd K d_lTable.at_) fd := T.c.t.d.def_ 36 (d := d_lTable) rfl
theorem Tx.df_lKey (T : Tx P w K mg base) : ∃ fd, FunD K d_lKey.name d_lKey.qual (defArgs s_lKey) (defBody s_lKey) (defScope s_lKey) [] [] (He.fAd K d_lKey.at_) fd := T.c.t.d.def_ 37 (d := d_lKey) rfl
theorem Tx.df_lSigns (T : Tx P w K mg base) : ∃ fd, FunD K d_lSigns.name d_lSigns.qual (defArgs s_lSigns) (defBody s_lSigns) (defScope s_lSigns) [] [] (He.fAd K d_lSigns.at_) fd := T.c.t.d.def_ 38 (d := d_lSigns) rfl
theorem Tx.df_lHead (T : Tx P w K mg base) : ∃ fd, FunD K d_lHead.name d_lHead.qual (defArgs s_lHead) (defBody s_lHead) (defScope s_lHead) [] [] (He.fAd K d_lHead.at_) fd := T.c.t.d.def_ 39 (d := d_lHead) rfl
theorem Tx.df_lWords (T : Tx P w K mg base) : ∃ fd, FunD K d_lWords.name d_lWords.qual (defArgs s_lWords) (defBody s_lWords) (defScope s_lWords) [] [] (He.fAd K d_lWords.at_) fd := T.c.t.d.def_ 40 (d := d_lWords) rfl
theorem Tx.df_lWalkRow (T : Tx P w K mg base) : ∃ fd, FunD K d_lWalkRow.name d_lWalkRow.qual (defArgs s_lWalkRow) (defBody s_lWalkRow) (defScope s_lWalkRow) [] [] (He.fAd K d_lWalkRow.at_) fd := T.c.t.d.def_ 41 (d := d_lWalkRow) rfl
theorem Tx.df_lHeard (T : Tx P w K mg base) : ∃ fd, FunD K d_lHeard.name d_lHeard.qual (defArgs s_lHeard) (defBody s_lHeard) (defScope s_lHeard) [] [] (He.fAd K d_lHeard.at_) fd := T.c.t.d.def_ 42 (d := d_lHeard) rfl
theorem Tx.df_lWalked (T : Tx P w K mg base) : ∃ fd, FunD K d_lWalked.name d_lWalked.qual (defArgs s_lWalked) (defBody s_lWalked) (defScope s_lWalked) [] [] (He.fAd K d_lWalked.at_) fd := T.c.t.d.def_ 43 (d := d_lWalked) rfl
theorem Tx.df_lNeverFalls (T : Tx P w K mg base) : ∃ fd, FunD K d_lNeverFalls.name d_lNeverFalls.qual (defArgs s_lNeverFalls) (defBody s_lNeverFalls) (defScope s_lNeverFalls) [] [] (He.fAd K d_lNeverFalls.at_) fd := T.c.t.d.def_ 44 (d := d_lNeverFalls) rfl
theorem Tx.df_law (T : Tx P w K mg base) : ∃ fd, FunD K d_law.name d_law.qual (defArgs s_law) (defBody s_law) (defScope s_law) [] [] (He.fAd K d_law.at_) fd := T.c.t.d.def_ 45 (d := d_law) rfl
theorem Tx.df_Button_Init (T : Tx P w K mg base) : ∃ fd, FunD K d_Button_Init.name d_Button_Init.qual (defArgs s_Button_Init) (defBody s_Button_Init) (defScope s_Button_Init) [] [] (He.fAd K d_Button_Init.at_) fd := T.c.t.d.def_ 46 (d := d_Button_Init) rfl
theorem Tx.df_Button_WrittenNext (T : Tx P w K mg base) : ∃ fd, FunD K d_Button_WrittenNext.name d_Button_WrittenNext.qual (defArgs s_Button_WrittenNext) (defBody s_Button_WrittenNext) (defScope s_Button_WrittenNext) [] [] (He.fAd K d_Button_WrittenNext.at_) fd := T.c.t.d.def_ 47 (d := d_Button_WrittenNext) rfl
theorem Tx.df_Button_WriteBound (T : Tx P w K mg base) : ∃ fd, FunD K d_Button_WriteBound.name d_Button_WriteBound.qual (defArgs s_Button_WriteBound) (defBody s_Button_WriteBound) (defScope s_Button_WriteBound) [] [] (He.fAd K d_Button_WriteBound.at_) fd := T.c.t.d.def_ 48 (d := d_Button_WriteBound) rfl
theorem Tx.df_Button_PressOnce (T : Tx P w K mg base) : ∃ fd, FunD K d_Button_PressOnce.name d_Button_PressOnce.qual (defArgs s_Button_PressOnce) (defBody s_Button_PressOnce) (defScope s_Button_PressOnce) [] [] (He.fAd K d_Button_PressOnce.at_) fd := T.c.t.d.def_ 49 (d := d_Button_PressOnce) rfl
theorem Tx.df_Button_CellOut (T : Tx P w K mg base) : ∃ fd, FunD K d_Button_CellOut.name d_Button_CellOut.qual (defArgs s_Button_CellOut) (defBody s_Button_CellOut) (defScope s_Button_CellOut) [] [] (He.fAd K d_Button_CellOut.at_) fd := T.c.t.d.def_ 50 (d := d_Button_CellOut) rfl
theorem Tx.df_Button_CellTorn (T : Tx P w K mg base) : ∃ fd, FunD K d_Button_CellTorn.name d_Button_CellTorn.qual (defArgs s_Button_CellTorn) (defBody s_Button_CellTorn) (defScope s_Button_CellTorn) [] [] (He.fAd K d_Button_CellTorn.at_) fd := T.c.t.d.def_ 51 (d := d_Button_CellTorn) rfl
theorem Tx.df_Button_AgeNow (T : Tx P w K mg base) : ∃ fd, FunD K d_Button_AgeNow.name d_Button_AgeNow.qual (defArgs s_Button_AgeNow) (defBody s_Button_AgeNow) (defScope s_Button_AgeNow) [] [] (He.fAd K d_Button_AgeNow.at_) fd := T.c.t.d.def_ 52 (d := d_Button_AgeNow) rfl
theorem Tx.df_Button_CountNow (T : Tx P w K mg base) : ∃ fd, FunD K d_Button_CountNow.name d_Button_CountNow.qual (defArgs s_Button_CountNow) (defBody s_Button_CountNow) (defScope s_Button_CountNow) [] [] (He.fAd K d_Button_CountNow.at_) fd := T.c.t.d.def_ 53 (d := d_Button_CountNow) rfl
theorem Tx.df_Button_CellsNow (T : Tx P w K mg base) : ∃ fd, FunD K d_Button_CellsNow.name d_Button_CellsNow.qual (defArgs s_Button_CellsNow) (defBody s_Button_CellsNow) (defScope s_Button_CellsNow) [] [] (He.fAd K d_Button_CellsNow.at_) fd := T.c.t.d.def_ 54 (d := d_Button_CellsNow) rfl
theorem Tx.df_Door_Init (T : Tx P w K mg base) : ∃ fd, FunD K d_Door_Init.name d_Door_Init.qual (defArgs s_Door_Init) (defBody s_Door_Init) (defScope s_Door_Init) [] [] (He.fAd K d_Door_Init.at_) fd := T.c.t.d.def_ 55 (d := d_Door_Init) rfl
theorem Tx.df_Door_TakesAge (T : Tx P w K mg base) : ∃ fd, FunD K d_Door_TakesAge.name d_Door_TakesAge.qual (defArgs s_Door_TakesAge) (defBody s_Door_TakesAge) (defScope s_Door_TakesAge) [] [] (He.fAd K d_Door_TakesAge.at_) fd := T.c.t.d.def_ 56 (d := d_Door_TakesAge) rfl
theorem Tx.df_Door_Read (T : Tx P w K mg base) : ∃ fd, FunD K d_Door_Read.name d_Door_Read.qual (defArgs s_Door_Read) (defBody s_Door_Read) (defScope s_Door_Read) [] [] (He.fAd K d_Door_Read.at_) fd := T.c.t.d.def_ 57 (d := d_Door_Read) rfl
theorem Tx.df_Door_Learn (T : Tx P w K mg base) : ∃ fd, FunD K d_Door_Learn.name d_Door_Learn.qual (defArgs s_Door_Learn) (defBody s_Door_Learn) (defScope s_Door_Learn) [] [] (He.fAd K d_Door_Learn.at_) fd := T.c.t.d.def_ 58 (d := d_Door_Learn) rfl
theorem Tx.df_Door_TurnKey (T : Tx P w K mg base) : ∃ fd, FunD K d_Door_TurnKey.name d_Door_TurnKey.qual (defArgs s_Door_TurnKey) (defBody s_Door_TurnKey) (defScope s_Door_TurnKey) [] [] (He.fAd K d_Door_TurnKey.at_) fd := T.c.t.d.def_ 59 (d := d_Door_TurnKey) rfl
theorem Tx.df_Door_AnswerTo (T : Tx P w K mg base) : ∃ fd, FunD K d_Door_AnswerTo.name d_Door_AnswerTo.qual (defArgs s_Door_AnswerTo) (defBody s_Door_AnswerTo) (defScope s_Door_AnswerTo) [] [] (He.fAd K d_Door_AnswerTo.at_) fd := T.c.t.d.def_ 60 (d := d_Door_AnswerTo) rfl
theorem Tx.df_Door_Hear (T : Tx P w K mg base) : ∃ fd, FunD K d_Door_Hear.name d_Door_Hear.qual (defArgs s_Door_Hear) (defBody s_Door_Hear) (defScope s_Door_Hear) [] [] (He.fAd K d_Door_Hear.at_) fd := T.c.t.d.def_ 61 (d := d_Door_Hear) rfl
theorem Tx.df_Door_KnownNow (T : Tx P w K mg base) : ∃ fd, FunD K d_Door_KnownNow.name d_Door_KnownNow.qual (defArgs s_Door_KnownNow) (defBody s_Door_KnownNow) (defScope s_Door_KnownNow) [] [] (He.fAd K d_Door_KnownNow.at_) fd := T.c.t.d.def_ 62 (d := d_Door_KnownNow) rfl
theorem Tx.df_Door_ClosedNow (T : Tx P w K mg base) : ∃ fd, FunD K d_Door_ClosedNow.name d_Door_ClosedNow.qual (defArgs s_Door_ClosedNow) (defBody s_Door_ClosedNow) (defScope s_Door_ClosedNow) [] [] (He.fAd K d_Door_ClosedNow.at_) fd := T.c.t.d.def_ 63 (d := d_Door_ClosedNow) rfl
theorem Tx.df_Door_BoundsTold (T : Tx P w K mg base) : ∃ fd, FunD K d_Door_BoundsTold.name d_Door_BoundsTold.qual (defArgs s_Door_BoundsTold) (defBody s_Door_BoundsTold) (defScope s_Door_BoundsTold) [] [] (He.fAd K d_Door_BoundsTold.at_) fd := T.c.t.d.def_ 64 (d := d_Door_BoundsTold) rfl
theorem Tx.df_Door_TwinDoor (T : Tx P w K mg base) : ∃ fd, FunD K d_Door_TwinDoor.name d_Door_TwinDoor.qual (defArgs s_Door_TwinDoor) (defBody s_Door_TwinDoor) (defScope s_Door_TwinDoor) [] [] (He.fAd K d_Door_TwinDoor.at_) fd := T.c.t.d.def_ 65 (d := d_Door_TwinDoor) rfl
theorem Tx.df_House_Init (T : Tx P w K mg base) : ∃ fd, FunD K d_House_Init.name d_House_Init.qual (defArgs s_House_Init) (defBody s_House_Init) (defScope s_House_Init) [] [] (He.fAd K d_House_Init.at_) fd := T.c.t.d.def_ 66 (d := d_House_Init) rfl
theorem Tx.df_House_LookDoor (T : Tx P w K mg base) : ∃ fd, FunD K d_House_LookDoor.name d_House_LookDoor.qual (defArgs s_House_LookDoor) (defBody s_House_LookDoor) (defScope s_House_LookDoor) [] [] (He.fAd K d_House_LookDoor.at_) fd := T.c.t.d.def_ 67 (d := d_House_LookDoor) rfl
theorem Tx.df_House_LookButton (T : Tx P w K mg base) : ∃ fd, FunD K d_House_LookButton.name d_House_LookButton.qual (defArgs s_House_LookButton) (defBody s_House_LookButton) (defScope s_House_LookButton) [] [] (He.fAd K d_House_LookButton.at_) fd := T.c.t.d.def_ 68 (d := d_House_LookButton) rfl
theorem Tx.df_House_AddDoor (T : Tx P w K mg base) : ∃ fd, FunD K d_House_AddDoor.name d_House_AddDoor.qual (defArgs s_House_AddDoor) (defBody s_House_AddDoor) (defScope s_House_AddDoor) [] [] (He.fAd K d_House_AddDoor.at_) fd := T.c.t.d.def_ 69 (d := d_House_AddDoor) rfl
theorem Tx.df_House_AddButton (T : Tx P w K mg base) : ∃ fd, FunD K d_House_AddButton.name d_House_AddButton.qual (defArgs s_House_AddButton) (defBody s_House_AddButton) (defScope s_House_AddButton) [] [] (He.fAd K d_House_AddButton.at_) fd := T.c.t.d.def_ 70 (d := d_House_AddButton) rfl
theorem Tx.df_House_Teach (T : Tx P w K mg base) : ∃ fd, FunD K d_House_Teach.name d_House_Teach.qual (defArgs s_House_Teach) (defBody s_House_Teach) (defScope s_House_Teach) [] [] (He.fAd K d_House_Teach.at_) fd := T.c.t.d.def_ 71 (d := d_House_Teach) rfl
theorem Tx.df_House_Listen (T : Tx P w K mg base) : ∃ fd, FunD K d_House_Listen.name d_House_Listen.qual (defArgs s_House_Listen) (defBody s_House_Listen) (defScope s_House_Listen) [] [] (He.fAd K d_House_Listen.at_) fd := T.c.t.d.def_ 72 (d := d_House_Listen) rfl
theorem Tx.df_House_PressButton (T : Tx P w K mg base) : ∃ fd, FunD K d_House_PressButton.name d_House_PressButton.qual (defArgs s_House_PressButton) (defBody s_House_PressButton) (defScope s_House_PressButton) [] [] (He.fAd K d_House_PressButton.at_) fd := T.c.t.d.def_ 73 (d := d_House_PressButton) rfl
theorem Tx.df_House_PlayKept (T : Tx P w K mg base) : ∃ fd, FunD K d_House_PlayKept.name d_House_PlayKept.qual (defArgs s_House_PlayKept) (defBody s_House_PlayKept) (defScope s_House_PlayKept) [] [] (He.fAd K d_House_PlayKept.at_) fd := T.c.t.d.def_ 74 (d := d_House_PlayKept) rfl
theorem Tx.df_House_LoseCell (T : Tx P w K mg base) : ∃ fd, FunD K d_House_LoseCell.name d_House_LoseCell.qual (defArgs s_House_LoseCell) (defBody s_House_LoseCell) (defScope s_House_LoseCell) [] [] (He.fAd K d_House_LoseCell.at_) fd := T.c.t.d.def_ 75 (d := d_House_LoseCell) rfl
theorem Tx.df_House_TearCell (T : Tx P w K mg base) : ∃ fd, FunD K d_House_TearCell.name d_House_TearCell.qual (defArgs s_House_TearCell) (defBody s_House_TearCell) (defScope s_House_TearCell) [] [] (He.fAd K d_House_TearCell.at_) fd := T.c.t.d.def_ 76 (d := d_House_TearCell) rfl
theorem Tx.df_House_TurnHouse (T : Tx P w K mg base) : ∃ fd, FunD K d_House_TurnHouse.name d_House_TurnHouse.qual (defArgs s_House_TurnHouse) (defBody s_House_TurnHouse) (defScope s_House_TurnHouse) [] [] (He.fAd K d_House_TurnHouse.at_) fd := T.c.t.d.def_ 77 (d := d_House_TurnHouse) rfl
theorem Tx.df_House_DoorNow (T : Tx P w K mg base) : ∃ fd, FunD K d_House_DoorNow.name d_House_DoorNow.qual (defArgs s_House_DoorNow) (defBody s_House_DoorNow) (defScope s_House_DoorNow) [] [] (He.fAd K d_House_DoorNow.at_) fd := T.c.t.d.def_ 78 (d := d_House_DoorNow) rfl
theorem Tx.df_House_ButtonNow (T : Tx P w K mg base) : ∃ fd, FunD K d_House_ButtonNow.name d_House_ButtonNow.qual (defArgs s_House_ButtonNow) (defBody s_House_ButtonNow) (defScope s_House_ButtonNow) [] [] (He.fAd K d_House_ButtonNow.at_) fd := T.c.t.d.def_ 79 (d := d_House_ButtonNow) rfl
/-- THE RULE for a def of the module -/
theorem cal_mk {x nm qual : Str} {st : Stmt} {N ps : List Str} {k : Nat} {sp : Sp} (hd : ∃ fd, FunD K nm qual (defArgs st) (defBody st) (defScope st) [] [] (He.fAd K (x, none)) fd) (hm : mg x = some (.ref (He.ga K x))) (S : FnScope N ps (defScope st))
    (hb : ∀ (kV doc pm : Value) (an : Option Addr) (cdv ct : Value) (us : List Value), us.length = ps.length → bindArgs (PySem.W.fnOf nm qual (defArgs st) (defBody st) (defScope st) .none kV doc pm an cdv ct) ⟨us, []⟩ = pure (ps.zip us))
    (len : ∀ vs H Q E, sp vs H Q E → vs.length = ps.length)
    (hbody : ∀ (f : Addr) (cdv : Value) (A : Around) (outer : List Env) (s : Shared) (H : Hp) (vs : List V) (Q : VK) (E : XK), Room k (A.deeper (envOfC qual (defScope st) s.heap.objs.size f cdv)) → sp vs H Q E →
      ∃ t, PSs (cxOf CX0 P w K mg base N qual (defScope st) f cdv A outer s H E).nox (defBody st) t ∧ t { nx := fun _ H' => Q .non H', rt := Q } (start N vs) H) : Cal P w K mg base x (k + 1) ps sp := by
  obtain ⟨fd, F⟩ := hd
  refine ⟨_, fd, F.ok S len fun cdv A outer s H vs Q E hr h => ?_, hm, F.kp, F.bindsN hb⟩
  obtain ⟨t, h, q⟩ := hbody _ cdv A outer s H vs Q E hr h
  exact ⟨t, h.nox, q⟩
theorem calM_mk {C m nm qual : Str} {st : Stmt} {N ps : List Str} {k : Nat} {sp : Sp} (hd : ∃ fd, FunD K nm qual (defArgs st) (defBody st) (defScope st) [] [] (He.fAd K (C, some m)) fd) (hm : Meth K (He.ga K C) m (He.ma K (He.ga K C) m)) (S : FnScope N ps (defScope st))
    (hb : ∀ (kV doc pm : Value) (an : Option Addr) (cdv ct : Value) (us : List Value), us.length = ps.length → bindArgs (PySem.W.fnOf nm qual (defArgs st) (defBody st) (defScope st) .none kV doc pm an cdv ct) ⟨us, []⟩ = pure (ps.zip us))
    (len : ∀ vs H Q E, sp vs H Q E → vs.length = ps.length)
    (hbody : ∀ (f : Addr) (cdv : Value) (A : Around) (outer : List Env) (s : Shared) (H : Hp) (vs : List V) (Q : VK) (E : XK), Room k (A.deeper (envOfC qual (defScope st) s.heap.objs.size f cdv)) → sp vs H Q E →
      ∃ t, PSs (cxOf CX0 P w K mg base N qual (defScope st) f cdv A outer s H E).nox (defBody st) t ∧ t { nx := fun _ H' => Q .non H', rt := Q } (start N vs) H) : CalM P w K mg base (He.ga K C) m (k + 1) ps sp := by
  obtain ⟨fd, F⟩ := hd
  refine ⟨_, fd, F.ok S len fun cdv A outer s H vs Q E hr h => ?_, hm, F.bindsN hb⟩
  obtain ⟨t, h, q⟩ := hbody _ cdv A outer s H vs Q E hr h
  exact ⟨t, h.nox, q⟩
theorem calI_mk {C nm qual : Str} {st : Stmt} {N ps : List Str} {k : Nat} {sp : Sp} (hd : ∃ fd, FunD K nm qual (defArgs st) (defBody st) (defScope st) [] [] (He.fAd K (C, some "__init__")) fd) (hm : Mk K (He.ga K C) (He.ma K (He.ga K C) "__init__")) (S : FnScope N ps (defScope st))
    (hb : ∀ (kV doc pm : Value) (an : Option Addr) (cdv ct : Value) (us : List Value), us.length = ps.length → bindArgs (PySem.W.fnOf nm qual (defArgs st) (defBody st) (defScope st) .none kV doc pm an cdv ct) ⟨us, []⟩ = pure (ps.zip us))
    (len : ∀ vs H Q E, sp vs H Q E → vs.length = ps.length)
    (hbody : ∀ (f : Addr) (cdv : Value) (A : Around) (outer : List Env) (s : Shared) (H : Hp) (vs : List V) (Q : VK) (E : XK), Room k (A.deeper (envOfC qual (defScope st) s.heap.objs.size f cdv)) → sp vs H Q E →
      ∃ t, PSs (cxOf CX0 P w K mg base N qual (defScope st) f cdv A outer s H E).nox (defBody st) t ∧ t { nx := fun _ H' => Q .non H', rt := Q } (start N vs) H) : CalI P w K mg base (He.ga K C) (k + 1) ps sp := by
  obtain ⟨fd, F⟩ := hd
  refine ⟨_, fd, F.ok S len fun cdv A outer s H vs Q E hr h => ?_, hm, F.bindsN hb⟩
  obtain ⟨t, h, q⟩ := hbody _ cdv A outer s H vs Q E hr h
  exact ⟨t, h.nox, q⟩
end
end K69
end
section
set_option Elab.async false
set_option linter.all false
set_option maxRecDepth 100000
set_option maxHeartbeats 4000000
/-! Attributes by records; readings of pure loops. Printed by gen_rules.py. -/
namespace K69
open PySem PySem.Spec PyProof.Rows L2
/-! ### attributes of objects whose fields are told by a record -/
section
variable {α : Type}
def tAt (C : Addr) (fr : α → List (Str × V)) (sel : α → V) (ta : TE) : TE := fun σ H Q => ta σ H fun x H1 => ∃ (a dx : Addr) (r : α), x = V.ref a ∧ H1 a = some (.ins C dx (fr r)) ∧ Q (sel r) H1
def tSt (C : Addr) (fr : α → List (Str × V)) (put : α → V → α) (ta tv : TE) : TS := fun D σ H => tv σ H fun y H1 => ta σ H1 fun x H2 => ∃ (a dx : Addr) (r : α), x = V.ref a ∧ H2 a = some (.ins C dx (fr r)) ∧ D.nx σ (upd H2 a (.ins C dx (fr (put r y))))
/-- o.f += e, whole numbers -/
def tStAdd (C : Addr) (fr : α → List (Str × V)) (sel : α → V) (put : α → V → α) (ta tv : TE) : TS := fun D σ H => ta σ H fun x H1 => ∃ (a dx : Addr) (r : α), x = V.ref a ∧ H1 a = some (.ins C dx (fr r)) ∧
  tv σ H1 fun y H2 => ∃ i j : Int, sel r = .int i ∧ y = .int j ∧ ∃ (dx' : Addr) (r' : α), H2 a = some (.ins C dx' (fr r')) ∧ D.nx σ (upd H2 a (.ins C dx' (fr (put r' (.int (i + j))))))
def tMt (C : Addr) (fr : α → List (Str × V)) (sp : Sp) (ta : TE) (t : TA) : TE := fun σ H Q => ta σ H fun x H1 => ∃ (a dx : Addr) (r : α), x = V.ref a ∧ H1 a = some (.ins C dx (fr r)) ∧ t σ H1 fun vs H2 => sp (x :: vs) H2 Q E0
variable {X : Cx} {o e value : Expr} {f m : Str} {pos pos' tpos apos : Pos} {ta tv : TE} {C : Addr} {fr : α → List (Str × V)} {sel : α → V} {put : α → V → α} {k : Nat} {ps : List Str} {sp : Sp} {es : List Expr} {t : TA}
theorem pe_at (c : Cls X.K C) (n : NoAttr X.K C f) (hl : ∀ r, (fr r).lookup f = some (sel r)) (he : PE X e ta) (hb : attributeBase e f X.env (eval e X.env) = eval e X.env := by rfl) : PE X (.Attribute e f pos) (tAt C fr sel ta) := by
  refine ⟨fun pins s σ H Q I h => ?_⟩
  refine attr_of hb (thn (he.run pins s σ H _ I h) fun u s1 ⟨x, H1, I1, rx, a, dx, r, ex, ea, q⟩ => ?_)
  subst ex
  obtain rfl : u = Value.ref a := rx
  exact getattr_ok I1 ea c n (hl r) fun u' s2 I2 ru => ⟨_, H1, I2, ru, q⟩
theorem ps_at (c : Cls X.K C) (n : NoAttr X.K C f) (hp : ∀ r y, putF f y (fr r) = fr (put r y)) (hz : ∀ r, (fr r).length < 1000) (ha : PE X o ta) (hv : PE X value tv) (hs : swapsWith value (some (.Attribute o f pos')) pos.line X.env = pure false := by rfl) :
    PS X (.Assign [.Attribute o f pos'] value pos) (tSt C fr put ta tv) := by
  refine ⟨fun pins s σ H D I h => ?_⟩
  refine plainObj_wpAny_Assign_Attribute (thn (hv.run pins s σ H _ I h) fun u s1 ⟨y, H1, I1, ry, q⟩ => thn (ha.run pins s1 σ H1 _ I1 q) fun ov s2 ⟨x, H2, I2, rx, a, dx, r, ex, ea, q2⟩ => ?_) hs
  subst ex
  obtain rfl : ov = Value.ref a := rx
  refine setattr_ok I2 ea c n (hz r) ry fun s3 I3 => ⟨σ, _, ?_, q2⟩
  rw [← hp]
  exact I3
theorem ps_atAdd (c : Cls X.K C) (n : NoAttr X.K C f) (hl : ∀ r, (fr r).lookup f = some (sel r)) (hp : ∀ r y, putF f y (fr r) = fr (put r y)) (hz : ∀ r, (fr r).length < 1000) (ha : PE X o ta) (hv : PE X value tv) :
    PS X (.AugAssign (.Attribute o f tpos) .Add value pos) (tStAdd C fr sel put ta tv) := by
  refine ⟨fun pins s σ H D I h => ?_⟩
  refine wpAny_AugAssign_AttributeAny (thn (ha.run pins s σ H _ I h) fun ov s1 ⟨x, H1, I1, rx, a, dx, r, ex, ea, q⟩ => ?_)
  subst ex
  obtain rfl : ov = Value.ref a := rx
  refine getattr_ok I1 ea c n (hl r) fun u s2 I2 ru => thn (hv.run pins s2 σ H1 _ I2 q) fun w3 s3 ⟨y, H2, I3, ry, i, j, ei, ej, dx', r', ea', q3⟩ => ?_
  refine thn (in_add pins s3 σ H2 (sel r) y u w3 (fun z H3 => z = V.int (i + j) ∧ H3 = H2) I3 ru ry ⟨i, j, ei, ej, rfl, rfl⟩) fun w4 s4 ⟨z, H3, I4, rz, ez, eH⟩ => ?_
  subst ez
  subst eH
  refine setattr_ok I4 ea' c n (hz r') rz fun s5 I5 => ⟨σ, _, ?_, q3⟩
  rw [← hp]
  exact I5
theorem pe_mt {pl : Sem Bool} (F : CalM X.prog X.w X.K X.mg X.base C m k ps sp) (c : Cls X.K C) (hl : ∀ r, (fr r).lookup m = none) (hr : Room k X.A) (ho : PE X o ta) (ha : PA X (e :: es) t)
    (hst : starEach (e :: es) X.env = (false, eval e X.env) :: starEach es X.env := by rfl) (hpl : (backTo pos (starEach es X.env)).any (·.1) = false := by rfl)
    (ht : eval (.Call (.Attribute o m apos) (e :: es) [] pos) X.env = (do
      let ov ← eval o X.env
      standAt apos.atName
      let (f, first) ← holding [ov] (getMethod ov m pl)
      callWith pos f first (backTo pos (starEach (e :: es) X.env)) (backToKw pos (keywordEach [] X.env))) := by rfl) : PE X (.Call (.Attribute o m apos) (e :: es) [] pos) (tMt C fr sp ta t) := by
  obtain ⟨f, fd, F, hm, b⟩ := F.ex
  refine ⟨fun pins s σ H Q I h => ?_⟩
  refine PySem.W.methodCall_KW (pl := pl) (thn (ho.run pins s σ H _ I h) fun u s1 ⟨x, H1, I1, rx, a, dx, r, ex, ea, q⟩ => ?_) ht
  subst ex
  obtain rfl : u = Value.ref a := rx
  refine getmeth_ok I1 ea c hm (hl r) ?_
  refine PySem.W.callWith_K (first := [.ref a]) (h₀ := X.base) I.ok.mod.kin hm.kp (thn (ha.run pos pins s1 σ H1 _ I1 q) fun us s2 ⟨vs, H2, I2, r, q2⟩ => ⟨I2.kIn, ?_⟩) hst hpl
  exact run_fn (us := .ref a :: us) (vs := .ref a :: vs) (dvs := []) F hr b .nil pass0 I2 (.cons rfl r) (by rw [List.append_nil]; exact q2)
theorem pe_mt0 {pl : Sem Bool} (F : CalM X.prog X.w X.K X.mg X.base C m k ps sp) (c : Cls X.K C) (hl : ∀ r, (fr r).lookup m = none) (hr : Room k X.A) (ho : PE X o ta)
    (ht : eval (.Call (.Attribute o m apos) [] [] pos) X.env = (do
      let ov ← eval o X.env
      standAt apos.atName
      let (f, first) ← holding [ov] (getMethod ov m pl)
      callWith pos f first (backTo pos (starEach [] X.env)) (backToKw pos (keywordEach [] X.env))) := by rfl) : PE X (.Call (.Attribute o m apos) [] [] pos) (tMt C fr sp ta tNil) := by
  obtain ⟨f, fd, F, hm, b⟩ := F.ex
  refine ⟨fun pins s σ H Q I h => ?_⟩
  refine PySem.W.methodCall_KW (pl := pl) (thn (ho.run pins s σ H _ I h) fun u s1 ⟨x, H1, I1, rx, a, dx, r, ex, ea, q⟩ => ?_) ht
  subst ex
  obtain rfl : u = Value.ref a := rx
  refine getmeth_ok I1 ea c hm (hl r) ?_
  exact PySem.W.callWith_K0 (first := [.ref a]) I1.kIn hm.kp (run_fn (us := [.ref a]) (vs := [.ref a]) (dvs := []) F hr b .nil pass0 I1 (.cons rfl .nil) q)
end
structure ButtonV where
  own_name : V
  own_table : V
  own_key : V
  own_age : V
  own_step : V
  so_many : V
  allowed : V
  cells : V
def fButton (r : ButtonV) : List (Str × V) := [("own_name", r.own_name), ("own_table", r.own_table), ("own_key", r.own_key), ("own_age", r.own_age), ("own_step", r.own_step), ("so_many", r.so_many), ("allowed", r.allowed), ("cells", r.cells)]
theorem lk_Button_own_name (r : ButtonV) : (fButton r).lookup ("own_name" : Str) = some r.own_name := by kernel_rfl
def pt_Button_own_name (r : ButtonV) (y : V) : ButtonV := { r with own_name := y }
theorem pf_Button_own_name (r : ButtonV) (y : V) : putF ("own_name" : Str) y (fButton r) = fButton (pt_Button_own_name r y) := by kernel_rfl
theorem lk_Button_own_table (r : ButtonV) : (fButton r).lookup ("own_table" : Str) = some r.own_table := by kernel_rfl
def pt_Button_own_table (r : ButtonV) (y : V) : ButtonV := { r with own_table := y }
theorem pf_Button_own_table (r : ButtonV) (y : V) : putF ("own_table" : Str) y (fButton r) = fButton (pt_Button_own_table r y) := by kernel_rfl
theorem lk_Button_own_key (r : ButtonV) : (fButton r).lookup ("own_key" : Str) = some r.own_key := by kernel_rfl
def pt_Button_own_key (r : ButtonV) (y : V) : ButtonV := { r with own_key := y }
theorem pf_Button_own_key (r : ButtonV) (y : V) : putF ("own_key" : Str) y (fButton r) = fButton (pt_Button_own_key r y) := by kernel_rfl
theorem lk_Button_own_age (r : ButtonV) : (fButton r).lookup ("own_age" : Str) = some r.own_age := by kernel_rfl
def pt_Button_own_age (r : ButtonV) (y : V) : ButtonV := { r with own_age := y }
theorem pf_Button_own_age (r : ButtonV) (y : V) : putF ("own_age" : Str) y (fButton r) = fButton (pt_Button_own_age r y) := by kernel_rfl
theorem lk_Button_own_step (r : ButtonV) : (fButton r).lookup ("own_step" : Str) = some r.own_step := by kernel_rfl
def pt_Button_own_step (r : ButtonV) (y : V) : ButtonV := { r with own_step := y }
theorem pf_Button_own_step (r : ButtonV) (y : V) : putF ("own_step" : Str) y (fButton r) = fButton (pt_Button_own_step r y) := by kernel_rfl
theorem lk_Button_so_many (r : ButtonV) : (fButton r).lookup ("so_many" : Str) = some r.so_many := by kernel_rfl
def pt_Button_so_many (r : ButtonV) (y : V) : ButtonV := { r with so_many := y }
theorem pf_Button_so_many (r : ButtonV) (y : V) : putF ("so_many" : Str) y (fButton r) = fButton (pt_Button_so_many r y) := by kernel_rfl
theorem lk_Button_allowed (r : ButtonV) : (fButton r).lookup ("allowed" : Str) = some r.allowed := by kernel_rfl
def pt_Button_allowed (r : ButtonV) (y : V) : ButtonV := { r with allowed := y }
theorem pf_Button_allowed (r : ButtonV) (y : V) : putF ("allowed" : Str) y (fButton r) = fButton (pt_Button_allowed r y) := by kernel_rfl
theorem lk_Button_cells (r : ButtonV) : (fButton r).lookup ("cells" : Str) = some r.cells := by kernel_rfl
def pt_Button_cells (r : ButtonV) (y : V) : ButtonV := { r with cells := y }
theorem pf_Button_cells (r : ButtonV) (y : V) : putF ("cells" : Str) y (fButton r) = fButton (pt_Button_cells r y) := by kernel_rfl
theorem lz_Button (r : ButtonV) : (fButton r).length < 1000 := by show 8 < 1000; decide
theorem lm_Button_Init (r : ButtonV) : (fButton r).lookup ("__init__" : Str) = none := by kernel_rfl
theorem lm_Button_WrittenNext (r : ButtonV) : (fButton r).lookup ("written_next" : Str) = none := by kernel_rfl
theorem lm_Button_WriteBound (r : ButtonV) : (fButton r).lookup ("write_bound" : Str) = none := by kernel_rfl
theorem lm_Button_PressOnce (r : ButtonV) : (fButton r).lookup ("press_once" : Str) = none := by kernel_rfl
theorem lm_Button_CellOut (r : ButtonV) : (fButton r).lookup ("cell_out" : Str) = none := by kernel_rfl
theorem lm_Button_CellTorn (r : ButtonV) : (fButton r).lookup ("cell_torn" : Str) = none := by kernel_rfl
theorem lm_Button_AgeNow (r : ButtonV) : (fButton r).lookup ("age_now" : Str) = none := by kernel_rfl
theorem lm_Button_CountNow (r : ButtonV) : (fButton r).lookup ("count_now" : Str) = none := by kernel_rfl
theorem lm_Button_CellsNow (r : ButtonV) : (fButton r).lookup ("cells_now" : Str) = none := by kernel_rfl
structure DoorV where
  table : V
  house_keys : V
  bounds : V
  first_keys : V
  least_age : V
  entries : V
  rows : V
def fDoor (r : DoorV) : List (Str × V) := [("table", r.table), ("house_keys", r.house_keys), ("bounds", r.bounds), ("first_keys", r.first_keys), ("least_age", r.least_age), ("entries", r.entries), ("rows", r.rows)]
theorem lk_Door_table (r : DoorV) : (fDoor r).lookup ("table" : Str) = some r.table := by kernel_rfl
def pt_Door_table (r : DoorV) (y : V) : DoorV := { r with table := y }
theorem pf_Door_table (r : DoorV) (y : V) : putF ("table" : Str) y (fDoor r) = fDoor (pt_Door_table r y) := by kernel_rfl
theorem lk_Door_house_keys (r : DoorV) : (fDoor r).lookup ("house_keys" : Str) = some r.house_keys := by kernel_rfl
def pt_Door_house_keys (r : DoorV) (y : V) : DoorV := { r with house_keys := y }
theorem pf_Door_house_keys (r : DoorV) (y : V) : putF ("house_keys" : Str) y (fDoor r) = fDoor (pt_Door_house_keys r y) := by kernel_rfl
theorem lk_Door_bounds (r : DoorV) : (fDoor r).lookup ("bounds" : Str) = some r.bounds := by kernel_rfl
def pt_Door_bounds (r : DoorV) (y : V) : DoorV := { r with bounds := y }
theorem pf_Door_bounds (r : DoorV) (y : V) : putF ("bounds" : Str) y (fDoor r) = fDoor (pt_Door_bounds r y) := by kernel_rfl
theorem lk_Door_first_keys (r : DoorV) : (fDoor r).lookup ("first_keys" : Str) = some r.first_keys := by kernel_rfl
def pt_Door_first_keys (r : DoorV) (y : V) : DoorV := { r with first_keys := y }
theorem pf_Door_first_keys (r : DoorV) (y : V) : putF ("first_keys" : Str) y (fDoor r) = fDoor (pt_Door_first_keys r y) := by kernel_rfl
theorem lk_Door_least_age (r : DoorV) : (fDoor r).lookup ("least_age" : Str) = some r.least_age := by kernel_rfl
def pt_Door_least_age (r : DoorV) (y : V) : DoorV := { r with least_age := y }
theorem pf_Door_least_age (r : DoorV) (y : V) : putF ("least_age" : Str) y (fDoor r) = fDoor (pt_Door_least_age r y) := by kernel_rfl
theorem lk_Door_entries (r : DoorV) : (fDoor r).lookup ("entries" : Str) = some r.entries := by kernel_rfl
def pt_Door_entries (r : DoorV) (y : V) : DoorV := { r with entries := y }
theorem pf_Door_entries (r : DoorV) (y : V) : putF ("entries" : Str) y (fDoor r) = fDoor (pt_Door_entries r y) := by kernel_rfl
theorem lk_Door_rows (r : DoorV) : (fDoor r).lookup ("rows" : Str) = some r.rows := by kernel_rfl
def pt_Door_rows (r : DoorV) (y : V) : DoorV := { r with rows := y }
theorem pf_Door_rows (r : DoorV) (y : V) : putF ("rows" : Str) y (fDoor r) = fDoor (pt_Door_rows r y) := by kernel_rfl
theorem lz_Door (r : DoorV) : (fDoor r).length < 1000 := by show 7 < 1000; decide
theorem lm_Door_Init (r : DoorV) : (fDoor r).lookup ("__init__" : Str) = none := by kernel_rfl
theorem lm_Door_TakesAge (r : DoorV) : (fDoor r).lookup ("takes_age" : Str) = none := by kernel_rfl
theorem lm_Door_Read (r : DoorV) : (fDoor r).lookup ("read" : Str) = none := by kernel_rfl
theorem lm_Door_Learn (r : DoorV) : (fDoor r).lookup ("learn" : Str) = none := by kernel_rfl
theorem lm_Door_TurnKey (r : DoorV) : (fDoor r).lookup ("turn_key" : Str) = none := by kernel_rfl
theorem lm_Door_AnswerTo (r : DoorV) : (fDoor r).lookup ("answer_to" : Str) = none := by kernel_rfl
theorem lm_Door_Hear (r : DoorV) : (fDoor r).lookup ("hear" : Str) = none := by kernel_rfl
theorem lm_Door_KnownNow (r : DoorV) : (fDoor r).lookup ("known_now" : Str) = none := by kernel_rfl
theorem lm_Door_ClosedNow (r : DoorV) : (fDoor r).lookup ("closed_now" : Str) = none := by kernel_rfl
theorem lm_Door_BoundsTold (r : DoorV) : (fDoor r).lookup ("bounds_told" : Str) = none := by kernel_rfl
theorem lm_Door_TwinDoor (r : DoorV) : (fDoor r).lookup ("twin_door" : Str) = none := by kernel_rfl
structure HouseV where
  table : V
  house_keys : V
  closed : V
  doors : V
  buttons : V
  kept : V
  opened : V
def fHouse (r : HouseV) : List (Str × V) := [("table", r.table), ("house_keys", r.house_keys), ("closed", r.closed), ("doors", r.doors), ("buttons", r.buttons), ("kept", r.kept), ("opened", r.opened)]
theorem lk_House_table (r : HouseV) : (fHouse r).lookup ("table" : Str) = some r.table := by kernel_rfl
def pt_House_table (r : HouseV) (y : V) : HouseV := { r with table := y }
theorem pf_House_table (r : HouseV) (y : V) : putF ("table" : Str) y (fHouse r) = fHouse (pt_House_table r y) := by kernel_rfl
theorem lk_House_house_keys (r : HouseV) : (fHouse r).lookup ("house_keys" : Str) = some r.house_keys := by kernel_rfl
def pt_House_house_keys (r : HouseV) (y : V) : HouseV := { r with house_keys := y }
theorem pf_House_house_keys (r : HouseV) (y : V) : putF ("house_keys" : Str) y (fHouse r) = fHouse (pt_House_house_keys r y) := by kernel_rfl
theorem lk_House_closed (r : HouseV) : (fHouse r).lookup ("closed" : Str) = some r.closed := by kernel_rfl
def pt_House_closed (r : HouseV) (y : V) : HouseV := { r with closed := y }
theorem pf_House_closed (r : HouseV) (y : V) : putF ("closed" : Str) y (fHouse r) = fHouse (pt_House_closed r y) := by kernel_rfl
theorem lk_House_doors (r : HouseV) : (fHouse r).lookup ("doors" : Str) = some r.doors := by kernel_rfl
def pt_House_doors (r : HouseV) (y : V) : HouseV := { r with doors := y }
theorem pf_House_doors (r : HouseV) (y : V) : putF ("doors" : Str) y (fHouse r) = fHouse (pt_House_doors r y) := by kernel_rfl
theorem lk_House_buttons (r : HouseV) : (fHouse r).lookup ("buttons" : Str) = some r.buttons := by kernel_rfl
def pt_House_buttons (r : HouseV) (y : V) : HouseV := { r with buttons := y }
theorem pf_House_buttons (r : HouseV) (y : V) : putF ("buttons" : Str) y (fHouse r) = fHouse (pt_House_buttons r y) := by kernel_rfl
theorem lk_House_kept (r : HouseV) : (fHouse r).lookup ("kept" : Str) = some r.kept := by kernel_rfl
def pt_House_kept (r : HouseV) (y : V) : HouseV := { r with kept := y }
theorem pf_House_kept (r : HouseV) (y : V) : putF ("kept" : Str) y (fHouse r) = fHouse (pt_House_kept r y) := by kernel_rfl
theorem lk_House_opened (r : HouseV) : (fHouse r).lookup ("opened" : Str) = some r.opened := by kernel_rfl
def pt_House_opened (r : HouseV) (y : V) : HouseV := { r with opened := y }
theorem pf_House_opened (r : HouseV) (y : V) : putF ("opened" : Str) y (fHouse r) = fHouse (pt_House_opened r y) := by kernel_rfl
theorem lz_House (r : HouseV) : (fHouse r).length < 1000 := by show 7 < 1000; decide
theorem lm_House_Init (r : HouseV) : (fHouse r).lookup ("__init__" : Str) = none := by kernel_rfl
theorem lm_House_LookDoor (r : HouseV) : (fHouse r).lookup ("look_door" : Str) = none := by kernel_rfl
theorem lm_House_LookButton (r : HouseV) : (fHouse r).lookup ("look_button" : Str) = none := by kernel_rfl
theorem lm_House_AddDoor (r : HouseV) : (fHouse r).lookup ("add_door" : Str) = none := by kernel_rfl
theorem lm_House_AddButton (r : HouseV) : (fHouse r).lookup ("add_button" : Str) = none := by kernel_rfl
theorem lm_House_Teach (r : HouseV) : (fHouse r).lookup ("teach" : Str) = none := by kernel_rfl
theorem lm_House_Listen (r : HouseV) : (fHouse r).lookup ("listen" : Str) = none := by kernel_rfl
theorem lm_House_PressButton (r : HouseV) : (fHouse r).lookup ("press_button" : Str) = none := by kernel_rfl
theorem lm_House_PlayKept (r : HouseV) : (fHouse r).lookup ("play_kept" : Str) = none := by kernel_rfl
theorem lm_House_LoseCell (r : HouseV) : (fHouse r).lookup ("lose_cell" : Str) = none := by kernel_rfl
theorem lm_House_TearCell (r : HouseV) : (fHouse r).lookup ("tear_cell" : Str) = none := by kernel_rfl
theorem lm_House_TurnHouse (r : HouseV) : (fHouse r).lookup ("turn_house" : Str) = none := by kernel_rfl
theorem lm_House_DoorNow (r : HouseV) : (fHouse r).lookup ("door_now" : Str) = none := by kernel_rfl
theorem lm_House_ButtonNow (r : HouseV) : (fHouse r).lookup ("button_now" : Str) = none := by kernel_rfl
/-! ### new objects alone -/
theorem same_new {H : Hp} {p : Addr} {o : HO} (h : H p = none) : Same H (upd H p o) := fun a u e => by
  rw [upd_ne (ne_of_none e h)]
  exact e
theorem same_seqT {K : PySem.W.Frag} {H H' : Hp} {a : Addr} {xs : List V} (e : Same H H') (h : SqT K H a xs) : SqT K H' a xs := by
  rcases h with (h | ⟨o, h⟩) | h
  · exact .inl (.inl (e _ _ h))
  · exact .inl (.inr ⟨o, e _ _ h⟩)
  · exact .inr h
/-- an object that H does not know may change -/
theorem same_mut {H H' : Hp} {p : Addr} {o : HO} (e : Same H H') (h : H p = none) : Same H (upd H' p o) := fun a u ha => by
  rw [upd_ne (ne_of_none ha h)]
  exact e a u ha
theorem sz_of {n : Nat} (h : n ≤ 100000) : n ≤ sizeLine := Nat.le_trans h (by decide)
theorem sz_lt {n : Nat} (h : n < 100000) : n < sizeLine := Nat.lt_of_lt_of_le h (by decide)
/-! ### a comprehension whose element is a value, nothing but new objects beside -/
section
variable {K : PySem.W.Frag} {a : Addr} {xs : List V} {te : TE} {vs : List Nat} {σ : L2.St} {H1 : Hp} {D : Addr} {Qd : Hp → Prop} {j : Nat}
theorem range_get {α : Type} (f : Nat → α) (n : Nat) : (List.range (n + 1)).map f = (List.range n).map f ++ [f n] := by
  rw [List.range_succ, List.map_append] <;> rfl
theorem lcm_list (hx : SqL K H1 a xs) (hD : H1 D = none) (hn : xs.length ≤ 10000) (hw : ∀ x, wipe ((wipe σ vs).set j (some x)) vs = wipe σ vs) (f : Nat → V)
    (hs : ∀ i x H, xs[i]? = some x → Same H1 H → ∀ Q : VK, (∀ H4, Same H H4 → Q (f i) H4) → te ((wipe σ vs).set j (some x)) H Q)
    (hd : ∀ H, Same H1 H → H D = some (.lst ((List.range xs.length).map f)) → Qd H) :
    ∃ W : Nat → Nat → Hp → Prop, (∃ m, W 0 m (upd H1 D (.lst []))) ∧ ∀ i m H, W i m H →
      ((Itl K a).stop i H ∧ Qd H) ∨ ((Itl K a).go i H ∧ ∃ Nx : Hp → Prop, (∀ H', Nx H' → ∃ m', m' < m ∧ W (i + 1) m' H') ∧ ∀ x H', (Itl K a).yld i H x H' → gName j x (wipe σ vs) H' fun σ2 H2 => wipe σ2 vs = wipe σ vs ∧ tYes σ2 H2 fun b H3 =>
        if b = true then te σ2 H3 fun y H4 => ∃ acc, H4 D = some (.lst acc) ∧ acc.length < sizeLine ∧ Nx (upd H4 D (.lst (acc ++ [y]))) else Nx H3) :=
  lc_list (K := K) (a := a) (xs := xs) (fun i H => Same H1 H ∧ H D = some (.lst ((List.range i).map f))) ⟨same_new hD, upd_same⟩ (fun i H _ p => p.1.seq hx)
    (fun i x H hi p => ⟨hw x, by
      show te ((wipe σ vs).set j (some x)) H _
      refine hs i x H hi p.1 _ fun H4 s4 => ⟨_, s4 D _ p.2, ?_, same_mut (p.1.trans s4) hD, by rw [range_get]; exact upd_same⟩
      have := (List.getElem?_eq_some_iff.mp hi).1
      rw [List.length_map, List.length_range]
      exact sz_lt (by omega)⟩)
    (fun H p => hd H p.1 p.2)
theorem lcm_tup (hx : SqT K H1 a xs) (hD : H1 D = none) (hn : xs.length ≤ 10000) (hw : ∀ x, wipe ((wipe σ vs).set j (some x)) vs = wipe σ vs) (f : Nat → V)
    (hs : ∀ i x H, xs[i]? = some x → Same H1 H → ∀ Q : VK, (∀ H4, Same H H4 → Q (f i) H4) → te ((wipe σ vs).set j (some x)) H Q)
    (hd : ∀ H, Same H1 H → H D = some (.lst ((List.range xs.length).map f)) → Qd H) :
    ∃ W : Nat → Nat → Hp → Prop, (∃ m, W 0 m (upd H1 D (.lst []))) ∧ ∀ i m H, W i m H →
      ((Itt K a).stop i H ∧ Qd H) ∨ ((Itt K a).go i H ∧ ∃ Nx : Hp → Prop, (∀ H', Nx H' → ∃ m', m' < m ∧ W (i + 1) m' H') ∧ ∀ x H', (Itt K a).yld i H x H' → gName j x (wipe σ vs) H' fun σ2 H2 => wipe σ2 vs = wipe σ vs ∧ tYes σ2 H2 fun b H3 =>
        if b = true then te σ2 H3 fun y H4 => ∃ acc, H4 D = some (.lst acc) ∧ acc.length < sizeLine ∧ Nx (upd H4 D (.lst (acc ++ [y]))) else Nx H3) :=
  lc_tup (K := K) (a := a) (xs := xs) (fun i H => Same H1 H ∧ H D = some (.lst ((List.range i).map f))) ⟨same_new hD, upd_same⟩ (fun i H _ p => same_seqT p.1 hx)
    (fun i x H hi p => ⟨hw x, by
      show te ((wipe σ vs).set j (some x)) H _
      refine hs i x H hi p.1 _ fun H4 s4 => ⟨_, s4 D _ p.2, ?_, same_mut (p.1.trans s4) hD, by rw [range_get]; exact upd_same⟩
      have := (List.getElem?_eq_some_iff.mp hi).1
      rw [List.length_map, List.length_range]
      exact sz_lt (by omega)⟩)
    (fun H p => hd H p.1 p.2)
end
theorem for_range0 {n : Nat} {g : TG} {tb : TS} {D : Ends} {σ : L2.St} {H : Hp} (Pv : Nat → L2.St → Hp → Prop) (h0 : Pv 0 σ H)
    (hs : ∀ (i : Nat) σ H, i < n → Pv i σ H → g (.int (i : Int)) σ H fun σ2 H2 => tb { D with nx := Pv (i + 1), ct := Pv (i + 1), bk := D.nx } σ2 H2) (hd : ∀ σ H, Pv n σ H → D.nx σ H) :
    ∃ W : Nat → Nat → L2.St → Hp → Prop, (∃ m, W 0 m σ H) ∧ ∀ i m σ H, W i m σ H →
      ((Itr 0 n).stop i H ∧ D.nx σ H) ∨ ((Itr 0 n).go i H ∧ ∃ N : L2.St → Hp → Prop, (∀ σ' H', N σ' H' → ∃ m', m' < m ∧ W (i + 1) m' σ' H') ∧ ∀ x H', (Itr 0 n).yld i H x H' → g x σ H' fun σ2 H2 => tb { D with nx := N, ct := N, bk := D.nx } σ2 H2) :=
  for_range (lo := 0) Pv h0 (fun i σ H hi p => by
    rw [Int.zero_add]
    exact hs i σ H hi p) hd
/-- reversed(range(n)) -/
theorem for_rev0 {n : Nat} {g : TG} {tb : TS} {D : Ends} {σ : L2.St} {H : Hp} (Pv : Nat → L2.St → Hp → Prop) (h0 : Pv 0 σ H)
    (hs : ∀ (i : Nat) σ H, i < n → Pv i σ H → g (.int ((n - 1 - i : Nat) : Int)) σ H fun σ2 H2 => tb { D with nx := Pv (i + 1), ct := Pv (i + 1), bk := D.nx } σ2 H2) (hd : ∀ σ H, Pv n σ H → D.nx σ H) :
    ∃ W : Nat → Nat → L2.St → Hp → Prop, (∃ m, W 0 m σ H) ∧ ∀ i m σ H, W i m σ H →
      ((Itc (0 + ((((n : Int) - 0).toNat : Nat) : Int) - 1) (-1) ((n : Int) - 0).toNat).stop i H ∧ D.nx σ H) ∨ ((Itc (0 + ((((n : Int) - 0).toNat : Nat) : Int) - 1) (-1) ((n : Int) - 0).toNat).go i H ∧ ∃ N : L2.St → Hp → Prop, (∀ σ' H', N σ' H' → ∃ m', m' < m ∧ W (i + 1) m' σ' H') ∧ ∀ x H', (Itc (0 + ((((n : Int) - 0).toNat : Nat) : Int) - 1) (-1) ((n : Int) - 0).toNat).yld i H x H' → g x σ H' fun σ2 H2 => tb { D with nx := N, ct := N, bk := D.nx } σ2 H2) := by
  have e : ((n : Int) - 0).toNat = n := by omega
  rw [e]
  refine for_rangeC Pv h0 (fun i σ H hi p => ?_) hd
  have e2 : (0 + (n : Int) - 1 + (i : Nat) * -1) = ((n - 1 - i : Nat) : Int) := by omega
  rw [e2]
  exact hs i σ H hi p
theorem atI_int {l : List Int} {z : Int} {j : Nat} (e : z = (j : Int)) (h : j < l.length) : atI (l.map V.int) z = some (.int (l.getD j 0)) :=
  at_of e (by rw [List.getElem?_map, List.getElem?_eq_getElem h, getD_of h] <;> rfl)
theorem ixN_of {n j : Nat} {z : Int} (e : z = (j : Int)) (h : j < n) : ixN n z = some j := by
  subst e
  unfold ixN
  rw [if_pos (by omega), if_pos (by omega)]
  simp
theorem atI_prv {l : List Int} {j : Nat} (h : j < l.length) : atI (l.map V.int) ((j : Int) - 1) = some (.int (l.getD (prv l.length j) 0)) := by
  cases j with
  | zero =>
    have e : ixN (l.map V.int).length (((0 : Nat) : Int) - 1) = some (l.length - 1) := by
      unfold ixN
      rw [if_neg (by decide), if_pos (by rw [List.length_map]; omega), List.length_map]
      congr 1
      omega
    unfold atI
    rw [e]
    show (l.map V.int)[l.length - 1]? = some (.int (l.getD (l.length - 1) 0))
    rw [List.getElem?_map, List.getElem?_eq_getElem (by omega), getD_of (by omega)] <;> rfl
  | succ j =>
    have e : (((j + 1 : Nat) : Int) - 1) = (j : Int) := by omega
    rw [e]
    show _ = some (V.int (l.getD (prv l.length (j + 1)) 0))
    have e2 : prv l.length (j + 1) = j := by unfold prv; rw [if_neg (by omega)]; omega
    rw [e2]
    exact atI_int rfl (by omega)
theorem set_int {l : List Int} {j : Nat} {v : Int} : (l.map V.int).set j (.int v) = (l.set j v).map V.int := by rw [List.map_set]
theorem map_get {α β : Type} {f : α → β} {l : List α} {i : Nat} {y : β} (h : (l.map f)[i]? = some y) : ∃ x, l[i]? = some x ∧ y = f x := by
  rw [List.getElem?_map] at h
  cases e : l[i]? with
  | none =>
    rw [e] at h
    cases h
  | some x =>
    rw [e] at h
    exact ⟨x, rfl, (Option.some.inj h).symm⟩
theorem take_more {α : Type} {l : List α} {i : Nat} {x : α} (h : l[i]? = some x) : l.take (i + 1) = l.take i ++ [x] := by
  obtain ⟨h1, h2⟩ := List.getElem?_eq_some_iff.mp h
  rw [List.take_succ, h] <;> rfl
theorem foldl_take {α β : Type} {f : α → β → α} {s : α} {l : List β} {i : Nat} {x : β} (h : l[i]? = some x) : (l.take (i + 1)).foldl f s = f ((l.take i).foldl f s) x := by
  rw [take_more h, List.foldl_append] <;> rfl
theorem foldl_range {α : Type} {f : α → Nat → α} {s : α} {i : Nat} : (List.range (i + 1)).foldl f s = f ((List.range i).foldl f s) i := by
  rw [List.range_succ, List.foldl_append] <;> rfl

/-! ### isinstance, all, any, known tests -/
section
variable {K : PySem.W.Frag} {H : Hp} {Q : VK}
theorem lst_true {D : Addr} {n : Nat} (h : H D = some (.lst ((List.range n).map fun _ => V.bl true))) : SqL K H D (((List.range n).map fun _ => true).map V.bl) := by
  refine SqL.of ?_
  rw [h, List.map_map]
  rfl
theorem lst_false {D : Addr} {n : Nat} (h : H D = some (.lst ((List.range n).map fun _ => V.bl false))) : SqL K H D (((List.range n).map fun _ => false).map V.bl) := by
  refine SqL.of ?_
  rw [h, List.map_map]
  rfl
theorem all_rng (n : Nat) : ((List.range n).map fun _ => true).all id = true := by simp
theorem any_rng (n : Nat) : ((List.range n).map fun _ => false).any id = false := by simp
theorem ifT {c : Bool} {A B : Prop} (hc : c = true) (h : A) : if c = true then A else B := by
  rw [if_pos hc]
  exact h
theorem ifF {c : Bool} {A B : Prop} (hc : c = false) (h : B) : if c = true then A else B := by
  rw [hc, if_neg Bool.false_ne_true]
  exact h
theorem dT {p : Prop} [Decidable p] (h : p) (q : Q (.bl true) H) : Q (.bl (decide p)) H := by
  rw [decide_eq_true h]
  exact q
theorem dF {p : Prop} [Decidable p] (h : ¬ p) (q : Q (.bl false) H) : Q (.bl (decide p)) H := by
  rw [decide_eq_false h]
  exact q
theorem ifD {p A B : Prop} [Decidable p] (hp : p) (h : A) : if decide p = true then A else B := ifT (decide_eq_true hp) h
theorem ifND {p A B : Prop} [Decidable p] (hp : ¬ p) (h : B) : if decide p = true then A else B := ifF (decide_eq_false hp) h
theorem ifnD {p A B : Prop} [Decidable p] (hp : p) (h : B) : if (!decide p) = true then A else B := ifF (by rw [decide_eq_true hp] <;> rfl) h
theorem ifnND {p A B : Prop} [Decidable p] (hp : ¬ p) (h : A) : if (!decide p) = true then A else B := ifT (by rw [decide_eq_false hp] <;> rfl) h
end
/-! ### a text's signs in a comprehension -/
section
variable {z : Str} {te : TE} {vs : List Nat} {σ : L2.St} {H1 : Hp} {D : Addr} {Qd : Hp → Prop} {j : Nat}
theorem lcm_str (hD : H1 D = none) (hn : z.length ≤ 10000) (hw : ∀ x, wipe ((wipe σ vs).set j (some x)) vs = wipe σ vs) (f : Nat → V)
    (hs : ∀ i c H, z.cps[i]? = some c → Same H1 H → ∀ Q : VK, (∀ H4, Same H H4 → Q (f i) H4) → te ((wipe σ vs).set j (some (.str ⟨#[c]⟩))) H Q)
    (hd : ∀ H, Same H1 H → H D = some (.lst ((List.range z.cps.size).map f)) → Qd H) :
    ∃ W : Nat → Nat → Hp → Prop, (∃ m, W 0 m (upd H1 D (.lst []))) ∧ ∀ i m H, W i m H →
      ((Its z).stop i H ∧ Qd H) ∨ ((Its z).go i H ∧ ∃ Nx : Hp → Prop, (∀ H', Nx H' → ∃ m', m' < m ∧ W (i + 1) m' H') ∧ ∀ x H', (Its z).yld i H x H' → gName j x (wipe σ vs) H' fun σ2 H2 => wipe σ2 vs = wipe σ vs ∧ tYes σ2 H2 fun b H3 =>
        if b = true then te σ2 H3 fun y H4 => ∃ acc, H4 D = some (.lst acc) ∧ acc.length < sizeLine ∧ Nx (upd H4 D (.lst (acc ++ [y]))) else Nx H3) :=
  lc_it walk_str (fun i H => Same H1 H ∧ H D = some (.lst ((List.range i).map f))) ⟨same_new hD, upd_same⟩ (fun _ _ _ _ => trivial)
    (fun i x H H' hi p y => by
      obtain ⟨rfl, c, hc, rfl⟩ := y
      refine ⟨hw _, ?_⟩
      show te ((wipe σ vs).set j (some (.str ⟨#[c]⟩))) H' _
      refine hs i c H' hc p.1 _ fun H4 s4 => ⟨_, s4 D _ p.2, ?_, same_mut (p.1.trans s4) hD, by rw [range_get]; exact upd_same⟩
      have e : z.length = z.cps.size := rfl
      rw [List.length_map, List.length_range]
      exact sz_lt (by omega))
    (fun H p => hd H p.1 p.2)
end

end K69
end
section
set_option Elab.async false
set_option linter.all false
set_option maxRecDepth 100000
set_option maxHeartbeats 4000000
/-! zip of a list or a tuple with a list or a tuple; enumerate of a tuple. A kind is a Bool: true a list, false a tuple. -/
namespace K69
open PySem PySem.Spec PyProof.Rows L2
def SqK (k : Bool) (K : PySem.W.Frag) (H : Hp) (a : Addr) (xs : List V) : Prop := match k with
  | true => SqL K H a xs
  | false => SqT K H a xs
def SIt (k : Bool) (h : Heap) (it l : Addr) (i : Nat) : Prop := match k with
  | true => h.IsListIter it l i
  | false => h.IsTupleIter it l i
def IsK (k : Bool) (h : Heap) (l : Addr) (items : Array Value) : Prop := match k with
  | true => h.IsList l items
  | false => h.IsTuple l items
def itO (k : Bool) (l : Addr) : Obj := match k with
  | true => { cls := .type "list_iterator", data := .fields #[.ref l, .int 0 0] }
  | false => { cls := .type "tuple_iterator", data := .fields #[.ref l, .int 0 0] }
theorem beginsK (k : Bool) (l : Addr) (items : Array Value) : Begins (.ref l) (itO k l) fun h => IsK k h l items := by
  cases k
  · exact begins_tuple l items
  · exact begins_list l items
theorem SIt.start {k : Bool} {h : Heap} {it l : Addr} (e : h.get? it = some (itO k l)) : SIt k h it l 0 := by
  cases k
  · exact ⟨_, e, rfl, rfl⟩
  · exact ⟨_, e, rfl, rfl⟩
theorem SIt.stay {k : Bool} {h h' : Heap} {it l : Addr} {i : Nat} (x : SIt k h it l i) (e : ∀ o, h.get? it = some o → h'.get? it = some o) : SIt k h' it l i := by
  cases k
  · exact Heap.IsTupleIter.at x e
  · exact Heap.IsListIter.at x e
theorem SIt.there {k : Bool} {h : Heap} {it l : Addr} {i : Nat} (x : SIt k h it l i) : ∃ o, h.get? it = some o ∧ ∀ v, o.data ≠ .cell v := by
  cases k
  · obtain ⟨o, e, _, d⟩ := x
    exact ⟨o, e, fun v q => by rw [d] at q; cases q⟩
  · obtain ⟨o, e, _, d⟩ := x
    exact ⟨o, e, fun v q => by rw [d] at q; cases q⟩
theorem drawsK {prog : Program} {w : World} {A : Around} (k : Bool) (hh : A.handled = none) (it l : Addr) (hne : l ≠ it) (items : Array Value) :
    Draws prog w A it [it, l] items.size (fun i v => items[i]? = some v) (fun i h => SIt k h it l i ∧ IsK k h l items) := by
  cases k
  · exact Draws.tuple hh it l hne items
  · exact Draws.list hh it l hne items
section
variable {X : Cx} {pins : List (Addr × Obj)} {σ : L2.St} {H : Hp} {s : Shared} {a : Addr} {xs ys : List V} {k : Bool}
theorem inv_sqK (I : Inv X pins σ H s) (h : SqK k X.K H a xs) : ∃ its : List Value, Vals xs its ∧ IsK k s.heap a its.toArray := by
  cases k
  · obtain ⟨its, r, p, _⟩ := I.tuple h
    exact ⟨its, r, p⟩
  · obtain ⟨its, r, p, _⟩ := I.list h
    exact ⟨its, r, p.isList⟩
theorem inv_sqK_inj (I : Inv X pins σ H s) (h : SqK k X.K H a xs) (h' : SqK k X.K H a ys) : xs = ys := by
  cases k
  · exact I.tuple_inj h h'
  · exact I.list_inj h h'
theorem isK_lt {h : Heap} {items : Array Value} (x : IsK k h a items) : a < h.objs.size := by
  cases k
  · obtain ⟨_, e, _⟩ := x
    exact Heap.lt_size e
  · obtain ⟨_, e, _⟩ := x
    exact Heap.lt_size e
end
/-! ### zip -/
def ItzK (K : PySem.W.Frag) (ka kb : Bool) (a b : Addr) : It where
  go := fun i H => ∃ (xs ys : List V) (x y : V), SqK ka K H a xs ∧ SqK kb K H b ys ∧ xs[i]? = some x ∧ ys[i]? = some y
  yld := fun i H v H' => ∃ (T : Addr) (x y : V), v = .ref T ∧ H T = none ∧ H' = upd H T (.tup [x, y]) ∧ (∀ xs, SqK ka K H a xs → xs[i]? = some x) ∧ ∀ ys, SqK kb K H b ys → ys[i]? = some y
  stop := fun i H => ∃ xs ys : List V, SqK ka K H a xs ∧ SqK kb K H b ys ∧ i ≤ xs.length ∧ i ≤ ys.length ∧ (i = xs.length ∨ i = ys.length)
theorem turn_zipK {P : Program} {w : World} {K : PySem.W.Frag} {elts : List Expr} {kk : Nat} {tpos : Pos} {ka kb : Bool} {a b z TI TO i1 i2 : Addr} (D : ZipSep2 z TI TO i1 i2 [i1, a] [i2, b]) (na : a ≠ i1) (nb : b ≠ i2) :
    Turn P w K (.Tuple elts kk tpos) (ItzK K ka kb a b) [z, TI, TO, i1, i2] z (fun i h => IsZip h z TI TO .none ∧ IsTupOf2 h TI (.ref i1) (.ref i2) ∧ (∃ x y, IsTupOf2 h TO x y) ∧ SIt ka h i1 a i ∧ SIt kb h i2 b i) := by
  have zi1 : z ≠ i1 := fun e => D.zf1 (by rw [e]; exact List.mem_cons_self)
  have zi2 : z ≠ i2 := fun e => D.zf2 (by rw [e]; exact List.mem_cons_self)
  have cases5 : ∀ c, c ∈ [z, TI, TO, i1, i2] → c = z ∨ c = TI ∨ c = TO ∨ c = i1 ∨ c = i2 := fun c hc => by simpa using hc
  constructor
  case mem => exact List.mem_cons_self
  case obj =>
    rintro i h ⟨hz, hTI, ⟨x, y, hTO⟩, h1, h2⟩ c hc
    rcases cases5 c hc with q | q | q | q | q
    · subst q; exact ⟨_, hz, fun v r => nomatch r⟩
    · subst q; exact ⟨_, hTI, fun v r => nomatch r⟩
    · subst q; exact ⟨_, hTO, fun v r => nomatch r⟩
    · subst q; exact h1.there
    · subst q; exact h2.there
  case keep =>
    rintro i h h' ⟨hz, hTI, ⟨x, y, hTO⟩, h1, h2⟩ k
    exact ⟨k z (by simp) _ hz, k TI (by simp) _ hTI, ⟨x, y, k TO (by simp) _ hTO⟩, h1.stay fun o q => k i1 (by simp) o q, h2.stay fun o q => k i2 (by simp) o q⟩
  case item =>
    intro X hP hw hK hc i pins s σ H E I hf st hg
    subst hP hw hK
    obtain ⟨hz, hTI, ⟨x0, y0, hTO⟩, h1, h2⟩ := st
    obtain ⟨xs, ys, x, y, hqx, hqy, hx, hy⟩ := hg
    obtain ⟨its, rv, p1⟩ := inv_sqK I hqx
    obtain ⟨jts, rw_, p2⟩ := inv_sqK I hqy
    obtain ⟨u, hu, ru⟩ := rv.get hx
    obtain ⟨v, hv, rv2⟩ := rw_.get hy
    have lx := (List.getElem?_eq_some_iff.mp hu).1
    have ly := (List.getElem?_eq_some_iff.mp hv).1
    have hA : X.A.in1.handled = none := I.ok.hd hc
    have hzl : z < s.heap.objs.size := Heap.lt_size hz
    refine wpAny_pyNext_zipD2_item D (drawsK ka hA i1 a na its.toArray) (drawsK kb hA i2 b nb jts.toArray) hz hTI hTO ⟨h1, p1⟩ ⟨h2, p2⟩ (by simpa using lx) (by simpa using ly) fun x1 x2 h' tk q1 q2 hz' hTO' st1 st2 hT hsz hk => ?_
    have ex1 : x1 = u := by
      have q : its[i]? = some x1 := by simpa using q1
      rw [hu] at q
      exact (Option.some.inj q).symm
    have ex2 : x2 = v := by
      have q : jts[i]? = some x2 := by simpa using q2
      rw [hv] at q
      exact (Option.some.inj q).symm
    subst ex1 ex2
    refine ⟨_, rfl, wpAny_letOwnedTupleGo_zip (s := { s with heap := h', toks := tk }) hz' fun h'' hz'' sb => ?_⟩
    have hT2 : h''.get? s.heap.objs.size = some { cls := .type "tuple", data := .seq #[x1, x2] } := (sb.2 _ (Nat.ne_of_gt hzl)).trans hT
    have new : ObjOk X.prog X.w (upd H s.heap.objs.size (.tup [x, y])) h'' s.heap.objs.size (.tup [x, y]) := ⟨by show 2 ≤ sizeLine; decide, [x1, x2], .cons ru (.cons rv2 .nil), _, hT2, rfl, _, rfl⟩
    have I1 : Inv X pins σ (upd H s.heap.objs.size (.tup [x, y])) { s with heap := h'', toks := tk } := by
      refine I.turnedNew (t' := tk) (ch := [z, TI, TO, i1, i2]) (fun c o hcn q => ?_) hf (Nat.le_refl _) new
      have n1 : c ≠ z := fun e => hcn (by simp [e])
      have n2 : c ≠ TO := fun e => hcn (by simp [e])
      have n3 : c ≠ i1 := fun e => hcn (by simp [e])
      have n4 : c ≠ i2 := fun e => hcn (by simp [e])
      exact (sb.2 c n1).trans (hk c o n1 n2 n3 n4 q)
    refine ⟨.ref s.heap.objs.size, _, I1, rfl, ⟨_, x, y, rfl, I.hok.fresh (Nat.le_refl _), rfl, fun l hl => ?_, fun l hl => ?_⟩, ⟨hz'', ?_, ⟨x1, x2, ?_⟩, ?_, ?_⟩, fun c hcm => ?_⟩
    · rw [inv_sqK_inj I hl hqx]; exact hx
    · rw [inv_sqK_inj I hl hqy]; exact hy
    · exact (sb.2 _ D.TIz).trans (hk _ _ D.TIz D.TITO D.TIi1 D.TIi2 hTI)
    · exact (sb.2 _ D.TOz).trans hTO'
    · exact st1.1.stay fun o q => (sb.2 _ zi1.symm).trans q
    · exact st2.1.stay fun o q => (sb.2 _ zi2.symm).trans q
    · have hlt : c < s.heap.objs.size := by
        rcases cases5 c hcm with q | q | q | q | q
        · subst q; exact hzl
        · subst q; exact Heap.lt_size hTI
        · subst q; exact Heap.lt_size hTO
        · subst q; obtain ⟨_, e1, _⟩ := h1.there; exact Heap.lt_size e1
        · subst q; obtain ⟨_, e2, _⟩ := h2.there; exact Heap.lt_size e2
      rw [upd_ne (Nat.ne_of_lt hlt)]
      exact (hf c hcm).1
  case done =>
    intro X hP hw hK hc i pins s σ H E I hf st hg
    subst hP hw hK
    obtain ⟨hz, hTI, ⟨x0, y0, hTO⟩, h1, h2⟩ := st
    obtain ⟨xs, ys, hqx, hqy, l1, l2, hend⟩ := hg
    obtain ⟨its, rv, p1⟩ := inv_sqK I hqx
    obtain ⟨jts, rw_, p2⟩ := inv_sqK I hqy
    have e1 := rv.length
    have e2 := rw_.length
    have hA : X.A.in1.handled = none := I.ok.hd hc
    refine wpAny_pyNext_zipD2_end D (drawsK ka hA i1 a na its.toArray) (drawsK kb hA i2 b nb jts.toArray) hz hTI hTO ⟨h1, p1⟩ ⟨h2, p2⟩ (by simp; omega) (by simp; omega) (by simp; omega) fun h' tk hk => ⟨rfl, I.turnedL (t' := tk) (ch := [z, TI, TO, i1, i2]) (fun c o hcn q => ?_) hf⟩
    exact hk c o (fun e => hcn (by simp [e])) (fun e => hcn (by simp [e])) (fun e => hcn (by simp [e])) (fun e => hcn (by simp [e])) q
  case self => exact fun A i s Q E st h => wpAny_pyIter_zip st.1 h
def iZipK (K : PySem.W.Frag) (ka kb : Bool) (ta : TA) : TI := fun σ H R => ta σ H fun vs H1 => ∃ (a b : Addr) (xs ys : List V), vs = [.ref a, .ref b] ∧ SqK ka K H1 a xs ∧ SqK kb K H1 b ys ∧ R (ItzK K ka kb a b) H1
theorem pi_zipK (ka kb : Bool) {X : Cx} {e e2 : Expr} {ta : TA} {p pos tpos : Pos} {elts : List Expr} {kk : Nat} (hg : Gl X "zip") (hm : X.mg "zip" = none) (ha : PA X [e, e2] ta)
    (hs : starEach [e, e2] X.env = (false, eval e X.env) :: starEach [e2] X.env := by rfl) (hpl : (backTo pos (starEach [e2] X.env)).any (·.1) = false := by rfl) :
    PI X (.Tuple elts kk tpos) (.Call (.Name "zip" p) [e, e2] [] pos) (iZipK X.K ka kb ta) := by
  refine ⟨fun pins s σ H R I h => ?_⟩
  refine Call_ (ld_blt I hg hm PyProof.Rows.boot_zip (PyProof.Rows.callWith_type1 (thn (ha.run pos pins s σ H _ I h) fun us s1 ⟨vs, H1, I1, r1, q1⟩ => ?_) hs hpl))
  obtain ⟨a, b, xs, ys, ex, hqx, hqy, q⟩ := q1
  subst ex
  cases r1 with
  | cons r rr =>
    cases rr with
    | cons r' rr =>
      cases rr
      cases r
      cases r'
      obtain ⟨its, rv, p1⟩ := inv_sqK I1 hqx
      obtain ⟨jts, rv2, p2⟩ := inv_sqK I1 hqy
      have la := isK_lt p1
      have lb := isK_lt p2
      refine zip_begins2 (beginsK ka a its.toArray) (beginsK kb b jts.toArray) p1 p2 fun h' hz hTI hTO h1 h2 hsz hk => wpAny_pyIter_zip hz ?_
      have I2 : Inv X pins σ H1 { s1 with heap := h' } := I1.kept (t' := s1.toks) hk
      have D : ZipSep2 (s1.heap.objs.size + 4) (s1.heap.objs.size + 2) (s1.heap.objs.size + 3) s1.heap.objs.size (s1.heap.objs.size + 1) [s1.heap.objs.size, a] [s1.heap.objs.size + 1, b] :=
        zip_sep2 (fun c hc => by rw [List.mem_singleton.mp hc]; exact la) (fun c hc => by rw [List.mem_singleton.mp hc]; exact lb)
      refine ⟨s1.heap.objs.size + 4, [s1.heap.objs.size + 4, s1.heap.objs.size + 2, s1.heap.objs.size + 3, s1.heap.objs.size, s1.heap.objs.size + 1], _, _, H1, rfl, I2, turn_zipK D (Nat.ne_of_lt la) (Nat.ne_of_lt (Nat.lt_succ_of_lt lb)), ⟨hz, hTI, ⟨_, _, hTO⟩, SIt.start h1, SIt.start h2⟩, fun c hcm => ?_, q⟩
      have hle : s1.heap.objs.size ≤ c := by
        simp only [List.mem_cons, List.not_mem_nil, or_false] at hcm
        rcases hcm with z | z | z | z | z <;> subst z
        · exact Nat.le_add_right _ _
        · exact Nat.le_add_right _ _
        · exact Nat.le_add_right _ _
        · exact Nat.le_refl _
        · exact Nat.le_add_right _ _
      exact I1.fpOk hle (I1.hok.fresh hle)
theorem walk_zipK {K : PySem.W.Frag} {ka kb : Bool} {a b : Addr} {xs ys : List V} (hl : xs.length = ys.length) : Walk (ItzK K ka kb a b) xs.length (fun H => SqK ka K H a xs ∧ SqK kb K H b ys) (YPair (fun i => xs[i]?) (fun i => ys[i]?)) where
  goes := fun i H hi h => ⟨xs, ys, xs[i], ys[i]'(by omega), h.1, h.2, List.getElem?_eq_getElem hi, List.getElem?_eq_getElem _⟩
  stops := fun H h => ⟨xs, ys, h.1, h.2, Nat.le_refl _, by omega, .inl rfl⟩
  yields := fun i H x H' hi h ⟨T, x1, y1, e, n, eH, q1, q2⟩ => ⟨T, x1, y1, e, n, eH, q1 xs h.1, q2 ys h.2⟩
/-! ### enumerate of a list or a tuple -/
set_option maxHeartbeats 8000000 in
theorem meets_enum1 {v : Value} {o : Obj} {G : Heap → Prop} (B : Begins v o G) :
    Meets (Builtin.«enumerate.__new__» ⟨[.type "enumerate", v], []⟩) (fun _ R s => G s.heap ∧
      R (.ok (.ret (.ref (s.heap.push o).objs.size))) { s with heap := (s.heap.push o).push { cls := .type "enumerate", data := .fields #[.none, .bool false, .ref s.heap.objs.size, rawInt 0, .none, .none] } }) :=
  .of_wp fun prog w A R s h => by
    obtain ⟨m, g, d, tk, os⟩ := s
    obtain ⟨h1, h⟩ := h
    have hsub := sub_enumerate
    have q1 : ∀ {B' : Around} {E : Value → Shared → Prop} {Q : Value → Shared → Prop}, Q (.ref m.objs.size) ⟨m.push o, g, d, tk, os⟩ → wpAny (model prog w) B' (pyIter v) Q E ⟨m, g, d, tk, os⟩ := fun q => B.iter prog w _ _ ⟨m, g, d, tk, os⟩ _ h1 q
    wp_walk using q1
    refine wpAny_stack_any fun st => wpAny_pure ?_
    split
    · rename_i c _ _ _ _ _
      cases (c == Value.type "enumerate") <;> (wp_walk using q1; exact ⟨_, rfl, h⟩)
    · wp_walk using q1
      exact ⟨_, rfl, h⟩
section
variable {prog : Program} {w : World} {A : Around} {E : Value → Shared → Prop} {s : Shared}
theorem call_enum1 {v : Value} {o : Obj} {G : Heap → Prop} {Q : Value → Shared → Prop} (B : Begins v o G) (h1 : G s.heap)
    (h : ∀ h', IsEnum h' (s.heap.objs.size + 1) s.heap.objs.size 0 .none → h'.get? s.heap.objs.size = some o → (∀ b o, s.heap.get? b = some o → h'.get? b = some o) → Q (.ref (s.heap.objs.size + 1)) { s with heap := h' }) :
    wpAny (model prog w) A (call (.type "enumerate") [v]) Q E s := by
  refine callType_new F.called_enumerate (by decide) (F.typeCall_enumerate_1 _) (F.newCall_enumerate_1 _) (fun obj => F.args_object_init_2 obj _) F.entry_enumerate_new (meets_enum1 B) ⟨h1, ?_⟩
  have z : (s.heap.push o).objs.size = s.heap.objs.size + 1 := Heap.size_push ..
  show _ ∧ _
  rw [z]
  have e : ((s.heap.push o).push { cls := .type "enumerate", data := .fields #[.none, .bool false, .ref s.heap.objs.size, rawInt 0, .none, .none] }).get? (s.heap.objs.size + 1) = some { cls := .type "enumerate", data := .fields #[.none, .bool false, .ref s.heap.objs.size, rawInt 0, .none, .none] } := by
    rw [← z]
    exact Heap.get?_push_size _ rfl
  exact ⟨⟨_, e, rfl⟩, h _ e (Heap.get?_push_of_some _ (Heap.get?_push_size _ B.free)) fun b o x => Heap.get?_push_of_some _ (Heap.get?_push_of_some _ x)⟩
end
def IteK (K : PySem.W.Frag) (k : Bool) (a : Addr) : It where
  go := fun i H => ∃ (xs : List V) (x : V), SqK k K H a xs ∧ xs[i]? = some x
  yld := fun i H v H' => ∃ (T : Addr) (x : V), v = .ref T ∧ H T = none ∧ H' = upd H T (.tup [.int (i : Nat), x]) ∧ ∀ xs, SqK k K H a xs → xs[i]? = some x
  stop := fun i H => ∃ xs : List V, SqK k K H a xs ∧ xs.length = i
theorem turn_enumK {P : Program} {w : World} {K : PySem.W.Frag} {elts : List Expr} {kk : Nat} {tpos : Pos} {k : Bool} {a e it : Addr} (ei : e ≠ it) (na : a ≠ it) (ne : e ≠ a) :
    Turn P w K (.Tuple elts kk tpos) (IteK K k a) [e, it] e (fun i h => (∃ old, IsEnum h e it ((i : Nat) : Int) old) ∧ SIt k h it a i) := by
  have hef : e ∉ [it, a] := fun h => by
    simp only [List.mem_cons, List.not_mem_nil, or_false] at h
    rcases h with h | h
    · exact ei h
    · exact ne h
  constructor
  case mem => exact List.mem_cons_self
  case obj =>
    rintro i h ⟨⟨old, he⟩, h1⟩ c hc
    simp only [List.mem_cons, List.not_mem_nil, or_false] at hc
    rcases hc with q | q
    · subst q; exact ⟨_, he, fun v r => nomatch r⟩
    · subst q; exact h1.there
  case keep =>
    rintro i h h' ⟨⟨old, he⟩, h1⟩ k
    exact ⟨⟨old, k e (by simp) _ he⟩, h1.stay fun o q => k it (by simp) o q⟩
  case item =>
    intro X hP hw hK hc i pins s σ H E I hf st hg
    subst hP hw hK
    obtain ⟨⟨old, he⟩, h1⟩ := st
    obtain ⟨xs, x, hqx, hx⟩ := hg
    obtain ⟨its, rv, p1⟩ := inv_sqK I hqx
    obtain ⟨u, hu, ru⟩ := rv.get hx
    have lx := (List.getElem?_eq_some_iff.mp hu).1
    have hA : X.A.in1.handled = none := I.ok.hd hc
    have hel : e < s.heap.objs.size := Heap.lt_size he
    refine wpAny_pyNext_enum_itemD (drawsK k hA it a na its.toArray) he ⟨h1, p1⟩ (by simpa using lx) ei hef fun x1 h' tk q1 ho st1 hT hsz hk => ?_
    have ex1 : x1 = u := by
      have q : its[i]? = some x1 := by simpa using q1
      rw [hu] at q
      exact (Option.some.inj q).symm
    subst ex1
    refine ⟨_, rfl, wpAny_letOwnedTupleGo_enum (s := { s with heap := h', toks := tk + 1 }) ho fun h'' he' sb => ?_⟩
    have hT2 : h''.get? s.heap.objs.size = some { cls := .type "tuple", data := .seq #[.int i tk, x1] } := (sb.2 _ (Nat.ne_of_gt hel)).trans hT
    have new : ObjOk X.prog X.w (upd H s.heap.objs.size (.tup [.int (i : Nat), x])) h'' s.heap.objs.size (.tup [.int (i : Nat), x]) := ⟨by show 2 ≤ sizeLine; decide, [.int i tk, x1], .cons ⟨_, rfl⟩ (.cons ru .nil), _, hT2, rfl, _, rfl⟩
    have I1 : Inv X pins σ (upd H s.heap.objs.size (.tup [.int (i : Nat), x])) { s with heap := h'', toks := tk + 1 } := by
      refine I.turnedNew (t' := tk + 1) (ch := [e, it]) (fun c o hcn q => ?_) hf (Nat.le_refl _) new
      have n1 : c ≠ e := fun z => hcn (by simp [z])
      have n2 : c ≠ it := fun z => hcn (by simp [z])
      exact (sb.2 c n1).trans (hk c o n1 n2 q)
    refine ⟨.ref s.heap.objs.size, _, I1, rfl, ⟨_, x, rfl, I.hok.fresh (Nat.le_refl _), rfl, fun l hl => ?_⟩, ⟨⟨x1, ?_⟩, ?_⟩, fun c hcm => ?_⟩
    · rw [inv_sqK_inj I hl hqx]; exact hx
    · have e1 : ((i + 1 : Nat) : Int) = (i : Int) + 1 := by omega
      rw [e1]
      exact he'
    · exact st1.1.stay fun o q => (sb.2 _ ei.symm).trans q
    · have hlt : c < s.heap.objs.size := by
        simp only [List.mem_cons, List.not_mem_nil, or_false] at hcm
        rcases hcm with q | q
        · subst q; exact hel
        · subst q; obtain ⟨_, e1, _⟩ := h1.there; exact Heap.lt_size e1
      rw [upd_ne (Nat.ne_of_lt hlt)]
      exact (hf c hcm).1
  case done =>
    intro X hP hw hK hc i pins s σ H E I hf st hg
    subst hP hw hK
    obtain ⟨⟨old, he⟩, h1⟩ := st
    obtain ⟨xs, hqx, hl⟩ := hg
    obtain ⟨its, rv, p1⟩ := inv_sqK I hqx
    have e1 := rv.length
    have hA : X.A.in1.handled = none := I.ok.hd hc
    obtain ⟨f0, f1, f2, f3, f4, f5⟩ := hf it (by simp)
    have ez : its.toArray.size = i := by simp; omega
    refine wpAny_pyNext_enum_endD (drawsK k hA it a na its.toArray) he (by rw [ez]; exact ⟨h1, p1⟩) fun h' hx => ⟨rfl, I.turned (t' := s.toks) (fun b o hb q => hx b o hb q) f0 f1 f3 f4 f5⟩
  case self => exact fun A i s Q E st h => let ⟨⟨_, he⟩, _⟩ := st; wpAny_pyIter_enum he h
def iEnumK (K : PySem.W.Frag) (k : Bool) (ta : TA) : TI := fun σ H R => ta σ H fun vs H1 => ∃ (a : Addr) (xs : List V), vs = [.ref a] ∧ SqK k K H1 a xs ∧ R (IteK K k a) H1
theorem pi_enumK (k : Bool) {X : Cx} {e : Expr} {ta : TA} {p pos tpos : Pos} {elts : List Expr} {kk : Nat} (hg : Gl X "enumerate") (hm : X.mg "enumerate" = none) (ha : PA X [e] ta) (hs : starEach [e] X.env = [(false, eval e X.env)] := by rfl) :
    PI X (.Tuple elts kk tpos) (.Call (.Name "enumerate" p) [e] [] pos) (iEnumK X.K k ta) := by
  refine ⟨fun pins s σ H R I h => ?_⟩
  refine Call_ (ld_blt I hg hm boot_enumerate (PyProof.Rows.callWith_type1 (thn (ha.run pos pins s σ H _ I h) fun us s1 ⟨vs, H1, I1, r1, q1⟩ => ?_) hs rfl))
  obtain ⟨a, xs, ex, hq, q⟩ := q1
  subst ex
  cases r1 with
  | cons r rr =>
    cases rr
    cases r
    obtain ⟨its, rv, p1⟩ := inv_sqK I1 hq
    have la := isK_lt p1
    refine call_enum1 (beginsK k a its.toArray) p1 fun h' he hit hk => wpAny_pyIter_enum he ?_
    have I2 : Inv X pins σ H1 { s1 with heap := h' } := I1.kept (t' := s1.toks) hk
    refine ⟨s1.heap.objs.size + 1, [s1.heap.objs.size + 1, s1.heap.objs.size], _, _, H1, rfl, I2, turn_enumK (Nat.succ_ne_self _) (Nat.ne_of_lt la) (Nat.ne_of_gt (Nat.lt_succ_of_lt la)), ⟨⟨.none, he⟩, SIt.start hit⟩, fun b hb => ?_, q⟩
    have hle : s1.heap.objs.size ≤ b := by
      simp only [List.mem_cons, List.not_mem_nil, or_false] at hb
      rcases hb with z | z <;> subst z
      · exact Nat.le_add_right _ _
      · exact Nat.le_refl _
    exact I1.fpOk hle (I1.hok.fresh hle)
theorem walk_enumK {K : PySem.W.Frag} {k : Bool} {a : Addr} {xs : List V} : Walk (IteK K k a) xs.length (fun H => SqK k K H a xs) (YPair (fun i => some (.int (i : Nat))) (fun i => xs[i]?)) where
  goes := fun i H hi h => ⟨xs, xs[i], h, List.getElem?_eq_getElem hi⟩
  stops := fun H h => ⟨xs, h, rfl⟩
  yields := fun i H x H' hi h ⟨T, x1, e, n, eH, q1⟩ => ⟨T, _, x1, e, n, eH, rfl, q1 xs h⟩
end K69
end
section
set_option Elab.async false
set_option linter.all false
set_option maxRecDepth 100000
set_option maxHeartbeats 4000000
/-! sum of a tuple; len(set(a tuple)); get of a written dict; str of an int or a text; facts of the tables. -/
namespace K69
open PySem PySem.Spec PyProof.Rows L2
section
variable {X : Cx}
theorem pe_ty {x : Str} {T : String} {pos : Pos} (hm : X.mg x = none) (hv : bootBuiltins x = some (.type T) := by decide +kernel) (hg : Gl X x := by rfl) (hn : x ≠ "__name__" := by decide) (hd : (x == ("__debug__" : Str)) = false := by decide) : PE X (.Name x pos) (tC (.ty T)) :=
  pe_bltn (v := .ty T) (u := .type T) hg hm hv rfl hn hd
theorem walk_revT {K : PySem.W.Frag} {a : Addr} {xs : List V} : Walk (RT.ItvT K a xs.length) xs.length (fun H => SqT K H a xs) (fun i H x H' => H' = H ∧ xs[xs.length - 1 - i]? = some x) where
  goes := fun i H hi h => ⟨hi, xs, xs[xs.length - 1 - i]'(by omega), h, List.getElem?_eq_getElem _⟩
  stops := fun H h => Nat.le_refl _
  yields := fun i H x H' hi h ⟨e, q⟩ => ⟨e, q xs h⟩
def rSumT (K : PySem.W.Frag) : List V → Hp → VK → Prop := fun vs H Q => ∃ (a : Addr) (ns : List Int), vs = [V.ref a] ∧ SqT K H a (ns.map V.int) ∧ Q (.int ns.sum) H
theorem cr_sumT (hc : X.calm = true) : CallR X (.builtin "sum") (rSumT X.K) := by
  intro pins s σ H vs us Q I r h
  obtain ⟨a, ns, rfl, hs, q⟩ := h
  obtain ⟨its, rv, hl, _⟩ := I.tuple hs
  rw [Vals.ref1 r]
  have hi := rv.ints
  obtain ⟨xs, e⟩ := hi.allInts.items
  have hn : numsOf (intItems xs).toList = ns := by
    rw [← e]
    exact hi.numsOf
  rw [nums_intItems] at hn
  have hl2 : s.heap.IsTuple a (intItems xs) := by
    rw [← e]
    exact hl
  refine PySem.W.ktm_sumG (I.ok.hd hc) hl2 fun h' tk t' hk => ⟨.int ns.sum, H, I.kept hk, ⟨t', ?_⟩, q⟩
  rw [preSum_eq, List.take_of_length_le (by simp), hn]
def tLenSetT (K : PySem.W.Frag) (ta : TE) : TE := fun σ H Q => ta σ H fun x H1 => ∃ (l : Addr) (ns : List Int), x = .ref l ∧ SqT K H1 l (ns.map V.int) ∧ ns.Nodup ∧ ns.length ≤ 4000 ∧ Q (.int (ns.length : Nat)) H1
theorem pe_lenSetT {a : Expr} {ta : TE} {p p2 q pos : Pos} (hg : Gl X "len") (hm : X.mg "len" = none) (hg2 : Gl X "set") (hm2 : X.mg "set" = none) (ha : PE X a ta) (hc : X.calm = true := by rfl)
    (na : starEach [a] X.env = (false, eval a X.env) :: starEach [] X.env := by rfl) : PE X (.Call (.Name "len" p) [.Call (.Name "set" p2) [a] [] q] [] pos) (tLenSetT X.K ta) := by
  refine ⟨fun pins s σ H Q I h => ?_⟩
  refine Call_ (ld_blt I hg hm boot_len ?_)
  refine PyProof.Rows.callWith_builtin1 (PyProof.Rows.args_cons ?_ rfl) rfl rfl
  refine Call_ (ld_blt I hg2 hm2 boot_set ?_)
  refine PyProof.Rows.callWith_type1 (PyProof.Rows.args_cons (thn (ha.run pins s σ H _ I h) fun v s1 ⟨x, H1, I1, r1, q1⟩ => PyProof.Rows.args_nil ?_) na) na rfl
  obtain ⟨l, ns, rfl, hq, hnd, hl, q1⟩ := q1
  cases r1
  obtain ⟨its, r, pl, hz⟩ := I1.tuple hq
  refine call_set_tupI ns (I1.ok.hd hc) (show s1.heap.IsTuple l its.toArray from pl) r.ints (by unfold scanBound; omega) fun h' tk c R1 hcn hk => ?_
  refine PyProof.Rows.args_nil ?_
  obtain ⟨o, es, ep, t, ho, hex, hd, g, nd, hm3, hb, hf, hn, _⟩ := R1
  have hp : (es.toList.map keyOf).Perm ns := (List.perm_ext_iff_of_nodup nd hnd).mpr fun k => by
    rw [← hm3 k]
    exact decide_eq_true_iff
  have hsz : es.size = ns.length := by
    have e := hp.length_eq
    rw [List.length_map, Array.length_toList] at e
    exact e
  have I2 : Inv X pins σ H1 { s1 with heap := h', toks := tk } := I1.kept hk
  exact call_len_set ho hex hd hf (by rw [hsz] <;> omega) ⟨.int ns.length, H1, I2.tok _, ⟨_, by rw [hsz]⟩, q1⟩
/-- d.get(key, other), d a written dict, the key is there -/
def tKGet (K : PySem.W.Frag) (w : World) (td ty tx : TE) : TE := fun σ H Q => td σ H fun x H1 => ∃ (d : Addr) (es : Array DictEntry) (n : Nat), x = .ref d ∧ KDict K w d es n ∧ ty σ H1 fun y H2 => tx σ H2 fun z H3 =>
  ∃ (k : Str) (u : Value) (v : V), y = .str k ∧ PySem.W.nsIn K d k = some (some u) ∧ RelV v u ∧ Q v H3
theorem pe_kget {o e f : Expr} {apos cpos : Pos} {td ty tx : TE} (ho : PE X o td) (he : PE X e ty) (hf : PE X f tx) (m : M2 X o "get" apos e f cpos) : PE X (.Call (.Attribute o "get" apos) [e, f] [] cpos) (tKGet X.K X.w td ty tx) := by
  refine ⟨fun pins s σ H Q I h => ?_⟩
  refine wpAny_Call_method m.base m.few m.line PySem.F.plainAttrs_dict PySem.F.slot_dict_get PySem.F.type_dict_get (thn (ho.run pins s σ H _ I h) fun u s1 ⟨x, H1, I1, rx, d, es, n, ex, D, q1⟩ => ?_)
  subst ex
  obtain rfl : u = Value.ref d := rx
  refine ⟨kd_type D I1, fun b q => ?_, ?_⟩
  · cases q
    exact ⟨_, I1.kIn _ _ D.at_, rfl⟩
  · rw [m.trees]
    refine Calls.callWith_builtin rfl (Calls.evalArgs_plain (Calls.spliced_cons (thn (he.run pins s1 σ H1 _ I1 q1) fun iv s2 ⟨y, H2, I2, ry, q2⟩ =>
      Calls.spliced_cons (thn (hf.run pins s2 σ H2 _ I2 q2) fun fv s3 ⟨z, H3, I3, rz, k, u0, v0, ek, en, rv, q3⟩ => Calls.spliced_nil ?_))))
    subst ek
    obtain ⟨t, rfl⟩ := ry
    have mo := PySem.W.mapOf_K (prog := X.prog) (w := X.w) I3.kIn D.at_ D.lit
    refine call_meetsIn PySem.F.slot_dict_get mo.typeIs PySem.F.entry_dict_get (PySem.F.args_dict_get_3 _ _ _) (meets_dict_get_default (PySem.strKind X.prog X.w) d (PySem.strKind_is X.prog X.w k t) D.low fv) ⟨_, mo, ?_⟩
    rw [PySem.W.find_K D.at_ en]
    exact ⟨v0, H3, I3.tok _, rv, q3⟩
theorem call_str_any : CallR X (.type "str") (fun xs H Q => (∃ i : Int, xs = [.int i] ∧ i.natAbs.log2 < 1920 ∧ Q (.str (toString i)) H) ∨ ∃ a : Str, xs = [.str a] ∧ Q (.str a) H) := CallR.or call_str_int SkE.call_str_str
end
section
variable {P : Program} {w : World} {K : PySem.W.Frag} {mg : Str → Option Value} {base : Heap}
theorem Tx.kd_LEAST (T : Tx P w K mg base) : ∃ es n, KDict K w (He.ga K "LEAST") es n := T.c.t.tab 0 (t := ((fun K => He.ga K "LEAST"), ["near", "far", "most", "step", "place", "age"])) rfl
theorem Tx.kd_MOST (T : Tx P w K mg base) : ∃ es n, KDict K w (He.ga K "MOST") es n := T.c.t.tab 1 (t := ((fun K => He.ga K "MOST"), ["near", "far", "most", "step", "place", "age"])) rfl
theorem Tx.kd_ORDERS (T : Tx P w K mg base) : ∃ es n, KDict K w (He.ga K "ORDERS") es n := T.c.t.tab 2 (t := ((fun K => He.ga K "ORDERS"), ["door", "button", "teach", "play", "lose", "tear", "turn", "turned", "close", "forget", "known", "now", "opened", "apart", "needs", "log"])) rfl
theorem Tx.ex1 (T : Tx P w K mg base) : (ords.all fun q => ordB K q.1 q.2) = true := (He.ba T.c.more).1
theorem Tx.ex2 (T : Tx P w K mg base) : He.valsB K (He.ga K "LEAST") least = true := (He.ba (He.ba (He.ba T.c.more).2).1).1
theorem Tx.ex3 (T : Tx P w K mg base) : He.valsB K (He.ga K "MOST") mosts = true := (He.ba (He.ba (He.ba T.c.more).2).1).2
theorem Tx.ex4 (T : Tx P w K mg base) : (outs.all fun x => He.eqO (PySem.W.nsIn K (He.ga K "LEAST") x) (some none)) = true := (He.ba (He.ba (He.ba T.c.more).2).2).1
theorem Tx.ex5 (T : Tx P w K mg base) : (kitB K "TooMany" "Worn" false && (kitB K "TooMany" "Known" false && (kitB K "TooMany" "Full" false && (kitB K "TooMany" "Unknown" false && kitB K "TooMany" "TooMany" true)))) = true := (He.ba (He.ba (He.ba (He.ba T.c.more).2).2).2).1
theorem Tx.exB (T : Tx P w K mg base) : excB K (He.ga K "TooMany") = true := (He.ba (He.ba (He.ba (He.ba T.c.more).2).2).2).2
theorem Tx.exC (T : Tx P w K mg base) : ExcC K (He.ga K "TooMany") := by
  obtain ⟨h1, h2⟩ := He.ba T.exB
  obtain ⟨h2, h3⟩ := He.ba h2
  obtain ⟨h3, h4⟩ := He.ba h3
  obtain ⟨h4, h5⟩ := He.ba h4
  obtain ⟨h5, h6⟩ := He.ba h5
  obtain ⟨h6, h7⟩ := He.ba h6
  exact ⟨He.eqO_ok h1, He.eqO_ok h2, (He.exc_ok T.exc_TooMany).2.2.1, h3, He.eqO_ok h4, He.eqO_ok h5, of_decide_eq_true h6, of_decide_eq_true h7⟩
/-- the sorts behind a row's first word -/
theorem Tx.ord (T : Tx P w K mg base) {k : Str} {vs : List Str} (h : (k, vs) ∈ ords) (H : Hp) : ∃ a : Addr, PySem.W.nsIn K (He.ga K "ORDERS") k = some (some (.ref a)) ∧ SqT K H a (vs.map V.str) := by
  obtain ⟨h1, h2⟩ := He.ba (List.all_eq_true.mp T.ex1 _ h)
  exact ⟨_, He.eqO_ok h1, tupAtB_ok h2 H⟩
theorem Tx.least (T : Tx P w K mg base) {k : Str} {i : Int} (h : (k, He.Dv.int i) ∈ least) : KDct K w (He.ga K "LEAST") k (.int i) := by
  obtain ⟨es, n, D⟩ := T.kd_LEAST
  obtain ⟨u, h1, h2⟩ := He.valsB_ok T.ex2 h
  exact ⟨es, n, u, D.at_, D.lit, h1, h2⟩
theorem Tx.most (T : Tx P w K mg base) {k : Str} {i : Int} (h : (k, He.Dv.int i) ∈ mosts) : KDct K w (He.ga K "MOST") k (.int i) := by
  obtain ⟨es, n, D⟩ := T.kd_MOST
  obtain ⟨u, h1, h2⟩ := He.valsB_ok T.ex3 h
  exact ⟨es, n, u, D.at_, D.lit, h1, h2⟩
theorem Tx.out (T : Tx P w K mg base) {k : Str} (h : k ∈ outs) : PySem.W.nsIn K (He.ga K "LEAST") k = some none := He.eqO_ok (List.all_eq_true.mp T.ex4 _ h)
theorem Tx.in_ (T : Tx P w K mg base) {k : Str} {i : Int} (h : (k, He.Dv.int i) ∈ K69.least) : ∃ u, PySem.W.nsIn K (He.ga K "LEAST") k = some (some u) := by
  obtain ⟨u, h1, _⟩ := He.valsB_ok T.ex2 h
  exact ⟨u, h1⟩
end
end K69
end
section
set_option Elab.async false
set_option linter.all false
set_option maxRecDepth 100000
set_option maxHeartbeats 4000000
local macro_rules | `(tactic| walk_at "len") => `(tactic| (intro vs H Q E h; first
  | (obtain ⟨e, _⟩ := h; subst e; rfl) | (obtain ⟨_, e, _⟩ := h; subst e; rfl) | (obtain ⟨_, _, e, _⟩ := h; subst e; rfl) | (obtain ⟨_, _, _, e, _⟩ := h; subst e; rfl) | (obtain ⟨_, _, _, _, e, _⟩ := h; subst e; rfl)
  | (obtain ⟨_, _, _, _, _, e, _⟩ := h; subst e; rfl) | (obtain ⟨_, _, _, _, _, _, e, _⟩ := h; subst e; rfl) | (obtain ⟨_, _, _, _, _, _, _, e, _⟩ := h; subst e; rfl) | (obtain ⟨_, _, _, _, _, _, _, _, e, _⟩ := h; subst e; rfl)
  | (obtain ⟨_, _, _, _, _, _, _, _, _, e, _⟩ := h; subst e; rfl) | (obtain ⟨_, _, _, _, _, _, _, _, _, _, e, _⟩ := h; subst e; rfl) | (obtain ⟨_, _, _, _, _, _, _, _, _, _, _, e, _⟩ := h; subst e; rfl)))
local macro_rules | `(tactic| walk_at "hh") => `(tactic| first
  | assumption
  | exact L2.upd_same
  | (refine (L2.upd_ne (by walk_at "ne")).trans ?_; walk_at "hh")
  | (refine (‹L2.Same _ _› : L2.Same _ _) _ _ ?_; walk_at "hh"))
local macro_rules | `(tactic| walk_at "ne") => `(tactic| first
  | assumption
  | (apply Ne.symm; assumption)
  | exact L2.ne_of_none (by walk_at "hh") (by assumption)
  | exact (L2.ne_of_none (by walk_at "hh") (by assumption)).symm)
local macro_rules | `(tactic| walk_at "s") => `(tactic| first
  | refine ⟨_, rfl, ?_⟩
  | refine ⟨_, _, _, rfl, (by walk_at "hh"), ?_⟩
  | refine ⟨rfl, ?_⟩
  | refine ⟨_, _, rfl, rfl, ?_⟩)
local macro_rules | `(tactic| walk_at "isi int") => `(tactic| refine ⟨_, _, _, _, true, rfl, .ty "int", .base (.int _), L2.kit_ty (by decide +kernel), ?_⟩)
local macro_rules | `(tactic| walk_at "isi bool") => `(tactic| refine ⟨_, _, _, _, false, rfl, .ty "bool", .base (.int _), L2.kit_ty (by decide +kernel), ?_⟩)
local macro_rules | `(tactic| walk_at "isi tuple") => `(tactic| refine ⟨_, _, _, _, true, rfl, .ty "tuple", .base (.tup (by assumption)), L2.kit_ty (by decide +kernel), ?_⟩)
local macro_rules | `(tactic| walk_at "isi str") => `(tactic| refine ⟨_, _, _, _, true, rfl, .ty "str", .base (.str _), L2.kit_ty (by decide +kernel), ?_⟩)
local macro_rules | `(tactic| walk_at "v") => `(tactic| refine ⟨_, rfl, ?_⟩)
local macro_rules | `(tactic| walk_at "ii") => `(tactic| refine ⟨_, _, rfl, rfl, ?_⟩)
namespace K69
open PySem PySem.Spec PyProof.Rows L2
section
variable {P : Program} {w : World} {K : PySem.W.Frag} {mg : Str → Option Value} {base : Heap}
/-! ### tables.py -/
def spDig : Sp := fun vs H Q _ => ∃ (i : Int), vs = [.int i] ∧ (0 ≤ i ∧ i < 16) ∧ Q (.bl true) H
abbrev N_isDigitT : List Str := ["thing"]
theorem sc_isDigitT : FnScope N_isDigitT ["thing"] (defScope s_isDigitT) := ⟨rfl, rfl, rfl, by decide +kernel, rfl, by decide +kernel, by decide +kernel⟩
theorem c_isDigitT (T : Tx P w K mg base) : Cal P w K mg base "is_digit_tables" 1 ["thing"] (spDig) := by
  refine cal_mk T.df_isDigitT T.g_isDigitT sc_isDigitT (fun _ _ _ _ _ _ us hl => match us, hl with | [_], _ => rfl) ?len (fun f cdv A outer s H vs Q E hr h => ?body)
  case len => walk_at "len"
  have nd := sc_isDigitT.nd
  refine ⟨_, (pss_one (ps_ret (pe_and (pe_callB call_isi (by rfl) T.f_isinstance (by decide +kernel) (pa_cons (pv 0) (pa_cons (pe_ty (T := "int") T.f_int) pa_nil))) (pe_and (pe_not (pe_callB call_isi (by rfl) T.f_isinstance (by decide +kernel) (pa_cons (pv 0) (pa_cons (pe_ty (T := "bool") T.f_bool) pa_nil)))) (pe_one (pe_chain op_le op_lt pe_int (pv 0) (pe_gi T.i_DIGITS_tables))))))), ?_⟩
  obtain ⟨i, rfl, ⟨h0, h1⟩, q⟩ := h
  walk_at "v"; walk_at "isi int"; walk_at "v"
  refine iteT ?_
  walk_at "v"; walk_at "isi bool"; walk_at "v"; walk_at "v"
  refine iteT ?_
  refine ⟨_, rfl, _, _, rfl, rfl, _, rfl, ?_⟩
  refine ifD h0 ?_
  refine ⟨_, _, rfl, rfl, ?_⟩
  show Q (.bl (decide (i < 16))) H
  rw [decide_eq_true h1]
  exact q
def spIsKey : Sp := fun vs H Q _ => ∃ (a : Addr) (ds : List Int), vs = [.ref a] ∧ H a = some (.tup (ds.map V.int)) ∧ IsKey ds ∧ ∀ H', Same H H' → Q (.bl true) H'
abbrev N_isKey : List Str := ["thing", "digit"]
theorem sc_isKey : FnScope N_isKey ["thing"] (defScope s_isKey) := ⟨rfl, rfl, rfl, by decide +kernel, rfl, by decide +kernel, by decide +kernel⟩
theorem c_isKey (T : Tx P w K mg base) : Cal P w K mg base "is_key" 2 ["thing"] (spIsKey) := by
  refine cal_mk T.df_isKey T.g_isKey sc_isKey (fun _ _ _ _ _ _ us hl => match us, hl with | [_], _ => rfl) ?len (fun f cdv A outer s H vs Q E hr h => ?body)
  case len => walk_at "len"
  have nd := sc_isKey.nd
  refine ⟨_, (pss_cons (ps_if (PW.pt (pw_or (pt_not (pt_val (pe_callB call_isi (by rfl) T.f_isinstance (by decide +kernel) (pa_cons (pv 0) (pa_cons (pe_ty (T := "tuple") T.f_tuple) pa_nil))))) (pw_or1 (pt_not (pt_chain op_le op_le pe_int (pe_callB call_len_seq (by rfl) T.f_len (by decide +kernel) (pa_cons (pv 0) pa_nil)) (pe_gi T.i_LONGEST_KEY)))))) (pss_one (ps_ret pe_bl)) pss_nil)
    (pss_one (ps_ret (pe_callB (cr_all rfl) (by rfl) T.f_all (by decide +kernel) (pa_cons (pe_lc (own := [("digit", 1)]) (g := gName 1) (tt := tYes) rfl nd (pi_tup (pv 0)) (blkOk_by (own := [("digit", 1)]) (N := N_isKey) (sc := defScope s_isKey) (by decide +kernel)) (fun _ _ _ _ _ => (pg_name (i := 1) nd rfl (Or.inl rfl))) (fun _ _ _ _ _ => pts_nil) (fun _ _ _ _ _ => (pe_c (c_isDigitT T) (hr.mono (by decide)) (pa_cons (pv 1) pa_nil)))) pa_nil))))), ?_⟩
  obtain ⟨a, ds, rfl, ha, hk, q⟩ := h
  have h1 := hk.lo
  have h2 := hk.hi
  walk_at "v"; walk_at "isi tuple"; walk_at "v"
  refine iteF ?_
  refine ⟨_, rfl, _, _, rfl, Or.inr (SqT.of ha), _, _, rfl, rfl, _, rfl, ?_⟩
  refine ifD (by rw [List.length_map]; omega) ?_
  refine ⟨_, _, rfl, rfl, _, rfl, ?_⟩
  refine ifnD (by rw [List.length_map]; omega) ?_
  refine ⟨_, rfl, a, rfl, ⟨_, SqT.of ha⟩, fun D hD => lcm_tup (xs := ds.map V.int) (SqT.of ha) hD (by rw [List.length_map]; omega) (fun _ => rfl) (fun _ => .bl true) (fun i x H1 hi s1 Q k => ?_) (fun H1 s1 h1 => ?_)⟩
  · obtain ⟨z, hz, rfl⟩ := map_get hi
    exact ⟨_, rfl, z, rfl, hk.dig z (List.mem_of_getElem? hz), k H1 (Same.refl _)⟩
  · refine ⟨D, _, rfl, lst_true h1, ?_⟩
    rw [all_rng]
    exact q H1 s1
def spIsTable : Sp := fun vs H Q _ => ∃ (a : Addr) (ds : List Int), vs = [.ref a] ∧ H a = some (.tup (ds.map V.int)) ∧ IsTab ds ∧ ∀ H', Same H H' → Q (.bl true) H'
abbrev N_isTable : List Str := ["thing", "digit"]
theorem sc_isTable : FnScope N_isTable ["thing"] (defScope s_isTable) := ⟨rfl, rfl, rfl, by decide +kernel, rfl, by decide +kernel, by decide +kernel⟩
theorem c_isTable (T : Tx P w K mg base) : Cal P w K mg base "is_table" 2 ["thing"] (spIsTable) := by
  refine cal_mk T.df_isTable T.g_isTable sc_isTable (fun _ _ _ _ _ _ us hl => match us, hl with | [_], _ => rfl) ?len (fun f cdv A outer s H vs Q E hr h => ?body)
  case len => walk_at "len"
  have nd := sc_isTable.nd
  refine ⟨_, (pss_cons (ps_if (PW.pt (pw_or (pt_not (pt_val (pe_callB call_isi (by rfl) T.f_isinstance (by decide +kernel) (pa_cons (pv 0) (pa_cons (pe_ty (T := "tuple") T.f_tuple) pa_nil))))) (pw_or (pt_cmpR op_ne (pe_callB call_len_seq (by rfl) T.f_len (by decide +kernel) (pa_cons (pv 0) pa_nil)) (pe_gi T.i_DIGITS_tables) (nomark _)) (pw_or1 (pt_not (pt_val (pe_callB (cr_all rfl) (by rfl) T.f_all (by decide +kernel) (pa_cons (pe_lc (own := [("digit", 1)]) (g := gName 1) (tt := tYes) rfl nd (pi_tup (pv 0)) (blkOk_by (own := [("digit", 1)]) (N := N_isTable) (sc := defScope s_isTable) (by decide +kernel)) (fun _ _ _ _ _ => (pg_name (i := 1) nd rfl (Or.inl rfl))) (fun _ _ _ _ _ => pts_nil) (fun _ _ _ _ _ => (pe_c (c_isDigitT T) (hr.mono (by decide)) (pa_cons (pv 1) pa_nil)))) pa_nil)))))))) (pss_one (ps_ret pe_bl)) pss_nil)
    (pss_one (ps_ret (pe_cmpR op_eq (pe_lenSetT (by rfl) T.f_len (by rfl) T.f_set (pv 0)) (pe_gi T.i_DIGITS_tables) (nomark _))))), ?_⟩
  obtain ⟨a, ds, rfl, ha, hk, q⟩ := h
  have h1 := hk.len
  have e16 : (((ds.map V.int).length : Nat) : Int) = 16 := by rw [List.length_map, h1]; rfl
  walk_at "v"; walk_at "isi tuple"; walk_at "v"
  refine iteF ?_
  refine ⟨_, rfl, _, _, rfl, Or.inr (SqT.of ha), rfl, _, rfl, ?_⟩
  rw [e16]
  refine ifnD rfl ?_
  refine ⟨_, rfl, a, rfl, ⟨_, SqT.of ha⟩, fun D hD => lcm_tup (xs := ds.map V.int) (SqT.of ha) hD (by rw [List.length_map]; omega) (fun _ => rfl) (fun _ => .bl true) (fun i x H1 hi s1 Q k => ?_) (fun H1 s1 h1' => ?_)⟩
  · obtain ⟨z, hz, rfl⟩ := map_get hi
    exact ⟨_, rfl, z, rfl, hk.dig z (List.mem_of_getElem? hz), k H1 (Same.refl _)⟩
  · refine ⟨D, _, rfl, lst_true h1', ?_⟩
    rw [all_rng]
    refine ⟨_, rfl, ?_⟩
    refine iteF ?_
    refine ⟨_, rfl, a, ds, rfl, SqT.of (s1 _ _ ha), hk.nd, by omega, rfl, ?_⟩
    rw [h1]
    exact q H1 s1
def spBack (K : PySem.W.Frag) : Sp := fun vs H Q _ => ∃ (a : Addr) (ds : List Int), vs = [.ref a] ∧ SqT K H a (ds.map V.int) ∧ IsTab ds ∧ ∀ (p : Addr) (H' : Hp), Same H H' → H p = none → H' p = some (.tup ((backL ds).map V.int)) → Q (.ref p) H'
theorem backN_list (n : Nat) (ds : List Int) : ((backN ds n).map V.int).length = 16 := by rw [List.length_map, backN_len]
abbrev N_backTable : List Str := ["table", "back", "place", "digit"]
theorem sc_backTable : FnScope N_backTable ["table"] (defScope s_backTable) := ⟨rfl, rfl, rfl, by decide +kernel, rfl, by decide +kernel, by decide +kernel⟩
theorem c_backTable (T : Tx P w K mg base) : Cal P w K mg base "back_table" 1 ["table"] (spBack K) := by
  refine cal_mk T.df_backTable T.g_backTable sc_backTable (fun _ _ _ _ _ _ us hl => match us, hl with | [_], _ => rfl) ?len (fun f cdv A outer s H vs Q E hr h => ?body)
  case len => walk_at "len"
  have nd := sc_backTable.nd
  refine ⟨_, (pss_cons (ps_set (i := 1) nd rfl (Or.inl rfl) (pe_op op_rep (pe_lst (pa_cons pe_int pa_nil)) (pe_gi T.i_DIGITS_tables)))
    (pss_cons (ps_for PassesOwn.never rfl (pi_enumK false (by rfl) T.f_enumerate (pa_cons (pv 0) pa_nil)) (pg_tup rfl (pgs_cons (pg_name (i := 2) nd rfl (Or.inl rfl)) (pgs_cons (pg_name (i := 3) nd rfl (Or.inl rfl)) pgs_nil)))
    (pss_one (ps_asg (pv 2) (pg_sub (pv 1) (pv 3) set_list))))
    (pss_one (ps_ret (pe_callTy (T := "tuple") call_tuple_of (by rfl) T.f_tuple (by decide +kernel) (pa_cons (pv 1) pa_nil)))))), ?_⟩
  obtain ⟨a, ds, rfl, ha, hT, q⟩ := h
  have hl := hT.len
  refine ⟨by show 1 ≤ sizeLine; decide, fun l0 hl0 => ⟨l0, _, _, rfl, rfl, upd_same, by decide, by decide, by decide, fun l hl1 => ?_⟩⟩
  have s0 : Same H (upd (upd H l0 (.lst [.int 0])) l (.lst (List.replicate (16 : Int).toNat [V.int 0]).flatten)) := (same_new hl0).trans (same_new hl1)
  have hlf : H l = none := (same_new hl0).free hl1
  refine ⟨_, rfl, a, _, rfl, same_seqT s0 ha, for_it (walk_enumK (k := false)) (fun i σ H' => ∃ (v2 v3 : Option V), σ = [some (.ref a), some (.ref l), v2, v3] ∧ Same H H' ∧ H' l = some (.lst ((backN ds i).map V.int))) ⟨none, none, rfl, s0, upd_same⟩ (fun i σ H' _ ⟨_, _, _, s, _⟩ => same_seqT s ha) ?_ ?_⟩
  · rintro i x σ H1 H2 hi ⟨v2, v3, rfl, s1, h1⟩ ⟨t, x1, y1, rfl, ht, rfl, e1, e2⟩
    rw [List.length_map] at hi
    obtain rfl := Option.some.inj e1
    obtain ⟨z, hz, rfl⟩ := map_get e2
    have hd := hT.dig z (List.mem_of_getElem? hz)
    have ez : ds.getD i 0 = z := by simp [List.getD, hz]
    have nlt : l ≠ t := ne_of_none h1 ht
    refine ⟨t, _, rfl, SqT.of upd_same, rfl, _, _, rfl, _, _, rfl, rfl, ?_⟩
    refine ⟨_, rfl, _, rfl, _, rfl, l, _, _, z.toNat, rfl, rfl, (upd_ne nlt).trans h1, ixN_of (by omega) (by rw [backN_list]; omega), ?_⟩
    refine ⟨_, _, rfl, same_mut (s1.trans (same_new ht)) hlf, ?_⟩
    rw [set_int, backN_succ, ez]
    exact upd_same
  · rintro σ H1 ⟨v2, v3, rfl, s1, h1⟩
    rw [List.length_map, hl] at h1
    refine ⟨_, rfl, l, _, rfl, Or.inl ⟨SqL.of h1, fun p hp => ?_⟩⟩
    exact q p _ (s1.trans (same_new hp)) (s1.free hp) upd_same
def spCoded (K : PySem.W.Frag) : Sp := fun vs H Q _ => ∃ (t k d : Addr) (tab key ds : List Int), vs = [.ref t, .ref k, .ref d] ∧ SqT K H t (tab.map V.int) ∧ SqT K H k (key.map V.int) ∧ (SqL K H d (ds.map V.int) ∨ SqT K H d (ds.map V.int)) ∧
  IsTab tab ∧ (∃ n, DN n ds ∧ 2 ≤ n ∧ n ≤ 8) ∧ key.length ≤ 8 ∧ ∀ (p : Addr) (H' : Hp), Same H H' → H p = none → H' p = some (.tup ((codedL tab key ds).map V.int)) → Q (.ref p) H'
abbrev N_coded : List Str := ["table", "key", "digits", "made", "turn", "place"]
theorem sc_coded : FnScope N_coded ["table", "key", "digits"] (defScope s_coded) := ⟨rfl, rfl, rfl, by decide +kernel, rfl, by decide +kernel, by decide +kernel⟩
theorem c_coded (T : Tx P w K mg base) : Cal P w K mg base "coded" 1 ["table", "key", "digits"] (spCoded K) := by
  refine cal_mk T.df_coded T.g_coded sc_coded (fun _ _ _ _ _ _ us hl => match us, hl with | [_, _, _], _ => rfl) ?len (fun f cdv A outer s H vs Q E hr h => ?body)
  case len => walk_at "len"
  have nd := sc_coded.nd
  refine ⟨_, (pss_cons (ps_set (i := 3) nd rfl (Or.inl rfl) (pe_callTy (T := "list") call_list_of (by rfl) T.f_list (by decide +kernel) (pa_cons (pv 2) pa_nil)))
    (pss_cons (ps_for PassesOwn.never rfl (pi_tup (pv 1)) (pg_name (i := 4) nd rfl (Or.inl rfl))
    (pss_one (ps_for PassesOwn.never rfl (pi_range1 rfl T.f_range (pa_cons (pe_callB call_len_seq (by rfl) T.f_len (by decide +kernel) (pa_cons (pv 3) pa_nil)) pa_nil)) (pg_name (i := 5) nd rfl (Or.inl rfl))
    (pss_one (ps_asg (pe_ix ix_tup (pv 0) (pe_op op_mod (pe_op op_add (pe_op op_add (pe_op op_add (pe_ix ix_list (pv 3) (pv 5) (fun _ _ => rfl)) (pv 4)) (pv 5)) (pe_ix ix_list (pv 3) (pe_op op_sub (pv 5) pe_int) (fun _ _ => rfl))) (pe_gi T.i_DIGITS_tables)) (fun _ _ => rfl)) (pg_sub (pv 3) (pv 5) set_list))))))
    (pss_one (ps_ret (pe_callTy (T := "tuple") call_tuple_of (by rfl) T.f_tuple (by decide +kernel) (pa_cons (pv 3) pa_nil)))))), ?_⟩
  obtain ⟨t, k, d, tab, key, ds, rfl, ht, hk, hd, hT, ⟨n, hn, h2, h8⟩, hl, kq⟩ := h
  have hTl := hT.len
  refine ⟨_, rfl, d, _, rfl, hd, fun l hl0 => ?_⟩
  have e0 : Same H (upd H l (.lst (ds.map V.int))) := same_new hl0
  refine ⟨_, rfl, k, rfl, ⟨_, same_seqT e0 hk⟩, for_tup (K := K) (a := k) (xs := key.map V.int) (fun i σ H' => ∃ (v5 v6 : Option V), σ = [some (.ref t), some (.ref k), some (.ref d), some (.ref l), v5, v6] ∧ Same H H' ∧ H' l = some (.lst (((key.take i).foldl (encK tab) ds).map V.int))) ⟨none, none, rfl, e0, upd_same⟩ (fun i σ H' _ ⟨_, _, _, e, _⟩ => same_seqT e hk) ?_ ?_⟩
  · rintro i x σ H1 hi ⟨v5, v6, rfl, e1, h1⟩
    obtain ⟨z, hz, rfl⟩ := map_get hi
    have hc : DN n ((key.take i).foldl (encK tab) ds) := coded_dn hT hn
    revert h1 hc
    rw [foldl_take hz]
    generalize (key.take i).foldl (encK tab) ds = cur
    intro h1 hc
    refine ⟨_, rfl, l, _, rfl, Or.inl (SqL.of h1), _, rfl, ?_, ?_, for_range0 (n := (cur.map V.int).length) (fun j σ H' => ∃ (v6 : Option V), σ = [some (.ref t), some (.ref k), some (.ref d), some (.ref l), some (.int z), v6] ∧ Same H H' ∧ H' l = some (.lst (((List.range j).foldl (enc1 tab z) cur).map V.int))) ⟨_, rfl, e1, h1⟩ ?_ ?_⟩
    · omega
    · rw [List.length_map, hc.1]; omega
    · rintro j σ H2 hj ⟨v6, rfl, e2, h2'⟩
      rw [List.length_map] at hj
      have hd2 : DN n ((List.range j).foldl (enc1 tab z) cur) := keep_fold (P := DN n) _ _ (fun s b _ hs => ⟨by rw [enc1_len]; exact hs.1, enc1_digs hT hs.2⟩) hc
      revert h2' hd2
      rw [foldl_range]
      generalize (List.range j).foldl (enc1 tab z) cur = c2
      intro h2' hd2
      have hj2 : j < c2.length := by rw [hd2.1, ← hc.1]; exact hj
      have m := mod_dig (c2.getD j 0 + z + (j : Int) + c2.getD (prv c2.length j) 0)
      refine ⟨_, rfl, _, rfl, _, rfl, l, _, _, _, rfl, rfl, SqL.of h2', atI_int rfl hj2, _, rfl, _, _, rfl, rfl, _, rfl, _, _, rfl, rfl, _, rfl, _, rfl, _, _, rfl, rfl, l, _, _, _, rfl, rfl, SqL.of h2', atI_prv hj2, _, _, rfl, rfl, _, _, rfl, rfl, (by show (0 : Int) < 16; decide), t, _, _, _, rfl, rfl, same_seqT e2 ht,
        atI_int (j := ((c2.getD j 0 + z + (j : Int) + c2.getD (prv c2.length j) 0) % 16).toNat) (by omega) (by rw [hTl]; omega), _, rfl, _, rfl, l, _, _, j, rfl, rfl, h2', ixN_of rfl (by rw [List.length_map]; exact hj2), ?_⟩
      refine ⟨_, rfl, same_mut e2 hl0, ?_⟩
      rw [set_int]
      exact upd_same
    · rintro σ H2 ⟨v6, rfl, e2, h2'⟩
      rw [List.length_map] at h2'
      exact ⟨_, _, rfl, e2, h2'⟩
  · rintro σ H1 ⟨v5, v6, rfl, e1, h1⟩
    rw [List.length_map, List.take_length] at h1
    refine ⟨_, rfl, l, _, rfl, Or.inl ⟨SqL.of h1, fun p hp => ?_⟩⟩
    exact kq p _ (e1.trans (same_new hp)) (e1.free hp) upd_same
theorem rev_get {α : Type} {l : List α} {i : Nat} {x : α} (h : l[l.length - 1 - i]? = some x) (hi : i < l.length) : l.reverse[i]? = some x := by
  rw [List.getElem?_reverse hi]
  exact h
theorem range_rev (n i : Nat) (h : i < n) : (List.range n).reverse[i]? = some (n - 1 - i) := by
  rw [List.getElem?_reverse (by rw [List.length_range]; exact h), List.length_range, List.getElem?_range (by omega)]
def spDecoded (K : PySem.W.Frag) : Sp := fun vs H Q _ => ∃ (t k d : Addr) (tab key ds : List Int), vs = [.ref t, .ref k, .ref d] ∧ SqT K H t (tab.map V.int) ∧ SqT K H k (key.map V.int) ∧ SqT K H d (ds.map V.int) ∧
  IsTab tab ∧ (∃ n, DN n ds ∧ 2 ≤ n ∧ n ≤ 8) ∧ key.length ≤ 8 ∧ ∀ (p : Addr) (H' : Hp), Same H H' → H p = none → H' p = some (.tup ((decodedL (backL tab) key ds).map V.int)) → Q (.ref p) H'
abbrev N_decoded : List Str := ["table", "key", "digits", "back", "made", "turn", "place"]
theorem sc_decoded : FnScope N_decoded ["table", "key", "digits"] (defScope s_decoded) := ⟨rfl, rfl, rfl, by decide +kernel, rfl, by decide +kernel, by decide +kernel⟩
theorem c_decoded (T : Tx P w K mg base) : Cal P w K mg base "decoded" 2 ["table", "key", "digits"] (spDecoded K) := by
  refine cal_mk T.df_decoded T.g_decoded sc_decoded (fun _ _ _ _ _ _ us hl => match us, hl with | [_, _, _], _ => rfl) ?len (fun f cdv A outer s H vs Q E hr h => ?body)
  case len => walk_at "len"
  have nd := sc_decoded.nd
  refine ⟨_, (pss_cons (ps_set (i := 3) nd rfl (Or.inl rfl) (pe_c (c_backTable T) (hr.mono (by decide)) (pa_cons (pv 0) pa_nil)))
    (pss_cons (ps_set (i := 4) nd rfl (Or.inl rfl) (pe_callTy (T := "list") call_list_of (by rfl) T.f_list (by decide +kernel) (pa_cons (pv 2) pa_nil)))
    (pss_cons (ps_for PassesOwn.never rfl (RT.pi_revA (by rfl) T.f_reversed (pv 1)) (pg_name (i := 5) nd rfl (Or.inl rfl))
    (pss_one (ps_for PassesOwn.never rfl (pi_revR (by rfl) T.f_reversed (prg_1 (by rfl) T.f_range (pe_callB call_len_seq (by rfl) T.f_len (by decide +kernel) (pa_cons (pv 4) pa_nil)))) (pg_name (i := 6) nd rfl (Or.inl rfl))
    (pss_one (ps_asg (pe_op op_mod (pe_op op_sub (pe_op op_sub (pe_op op_sub (pe_ix ix_tup (pv 3) (pe_ix ix_list (pv 4) (pv 6) (fun _ _ => rfl)) (fun _ _ => rfl)) (pv 5)) (pv 6)) (pe_ix ix_list (pv 4) (pe_op op_sub (pv 6) pe_int) (fun _ _ => rfl))) (pe_gi T.i_DIGITS_tables)) (pg_sub (pv 4) (pv 6) set_list))))))
    (pss_one (ps_ret (pe_callTy (T := "tuple") call_tuple_of (by rfl) T.f_tuple (by decide +kernel) (pa_cons (pv 4) pa_nil))))))), ?_⟩
  obtain ⟨t, k, d, tab, key, ds, rfl, ht, hk, hd, hT, ⟨n, hn, h2, h8⟩, hl, kq⟩ := h
  refine ⟨_, rfl, t, tab, rfl, ht, hT, fun b H0 s0 hb0 hb => ?_⟩
  have hBl : (backL tab).length = 16 := backN_len tab 16
  refine ⟨_, rfl, d, _, rfl, Or.inr (same_seqT s0 hd), fun l hl0 => ?_⟩
  have hl0' : H l = none := s0.free hl0
  have e0 : Same H0 (upd H0 l (.lst (ds.map V.int))) := same_new hl0
  have eb : ∀ H', Same H0 H' → SqT K H' b ((backL tab).map V.int) := fun H' s => SqT.of (s _ _ hb)
  have hk0 : ∀ H', Same H0 H' → SqT K H' k (key.map V.int) := fun H' s => same_seqT (s0.trans s) hk
  refine ⟨_, rfl, k, _, rfl, Or.inr ⟨hk0 _ e0, for_it (walk_revT (xs := key.map V.int)) (fun i σ H' => ∃ (v5 v6 : Option V), σ = [some (.ref t), some (.ref k), some (.ref d), some (.ref b), some (.ref l), v5, v6] ∧ Same H0 H' ∧ H' l = some (.lst (((key.reverse.take i).foldl (decK (backL tab)) ds).map V.int))) ⟨none, none, rfl, e0, upd_same⟩ (fun i σ H' _ ⟨_, _, _, e, _⟩ => hk0 _ e) ?_ ?_⟩⟩
  · rintro i x σ H1 H1' hi ⟨v5, v6, rfl, e1, h1⟩ ⟨rfl, hx⟩
    rw [List.length_map] at hi hx
    obtain ⟨z, hz, rfl⟩ := map_get hx
    have hzr := rev_get hz hi
    have hc : DN n ((key.reverse.take i).foldl (decK (backL tab)) ds) := keep_fold (P := DN n) _ _ (fun s b _ hs => decK_dn hs) hn
    revert h1 hc
    rw [foldl_take hzr]
    generalize (key.reverse.take i).foldl (decK (backL tab)) ds = cur
    intro h1 hc
    refine ⟨_, rfl, l, _, rfl, Or.inl (SqL.of h1), _, rfl, ?_, ?_, ?_, ?_, for_rev0 (n := (cur.map V.int).length) (fun j σ H' => ∃ (v6 : Option V), σ = [some (.ref t), some (.ref k), some (.ref d), some (.ref b), some (.ref l), some (.int z), v6] ∧ Same H0 H' ∧ H' l = some (.lst ((((List.range cur.length).reverse.take j).foldl (dec1 (backL tab) z) cur).map V.int))) ⟨_, rfl, e1, h1⟩ ?_ ?_⟩
    · decide
    · decide
    · omega
    · rw [List.length_map, hc.1]; omega
    · rintro j0 σ H2 hj0 ⟨v6, rfl, e2, h2'⟩
      rw [List.length_map] at hj0 ⊢
      have hr := range_rev cur.length j0 hj0
      have hd2 : DN n (((List.range cur.length).reverse.take j0).foldl (dec1 (backL tab) z) cur) := keep_fold (P := DN n) _ _ (fun s b _ hs => ⟨by rw [dec1_len]; exact hs.1, dec1_digs hs.2⟩) hc
      revert h2' hd2
      rw [foldl_take hr]
      generalize ((List.range cur.length).reverse.take j0).foldl (dec1 (backL tab) z) cur = c2
      intro h2' hd2
      have hj2 : cur.length - 1 - j0 < c2.length := by rw [hd2.1, ← hc.1]; omega
      generalize cur.length - 1 - j0 = j at hj2
      have m := digs_getD hd2.2 hj2
      refine ⟨_, rfl, _, rfl, _, rfl, l, _, _, _, rfl, rfl, SqL.of h2', atI_int rfl hj2, b, _, _, _, rfl, rfl, eb _ e2, atI_int (j := (c2.getD j 0).toNat) (by omega) (by rw [hBl]; omega), _, rfl, _, _, rfl, rfl, _, rfl, _, _, rfl, rfl, _, rfl, _, rfl, _, _, rfl, rfl, l, _, _, _, rfl, rfl, SqL.of h2', atI_prv hj2, _, _, rfl, rfl, _, _, rfl, rfl, (by show (0 : Int) < 16; decide),
        _, rfl, _, rfl, l, _, _, j, rfl, rfl, h2', ixN_of rfl (by rw [List.length_map]; exact hj2), ?_⟩
      refine ⟨_, rfl, same_mut e2 hl0, ?_⟩
      rw [set_int]
      exact upd_same
    · rintro σ H2 ⟨v6, rfl, e2, h2'⟩
      rw [List.length_map, List.take_of_length_le (by rw [List.length_reverse, List.length_range]; exact Nat.le_refl _)] at h2'
      exact ⟨_, _, rfl, e2, h2'⟩
  · rintro σ H1 ⟨v5, v6, rfl, e1, h1⟩
    rw [List.length_map, List.take_of_length_le (by rw [List.length_reverse]; exact Nat.le_refl _)] at h1
    refine ⟨_, rfl, l, _, rfl, Or.inl ⟨SqL.of h1, fun p hp => ?_⟩⟩
    exact kq p _ ((s0.trans e1).trans (same_new hp)) ((s0.trans e1).free hp) upd_same
end
end K69
end
section
set_option Elab.async false
set_option linter.all false
set_option maxRecDepth 100000
set_option maxHeartbeats 4000000
local macro_rules | `(tactic| walk_at "len") => `(tactic| (intro vs H Q E h; first
  | (obtain ⟨e, _⟩ := h; subst e; rfl) | (obtain ⟨_, e, _⟩ := h; subst e; rfl) | (obtain ⟨_, _, e, _⟩ := h; subst e; rfl) | (obtain ⟨_, _, _, e, _⟩ := h; subst e; rfl) | (obtain ⟨_, _, _, _, e, _⟩ := h; subst e; rfl)
  | (obtain ⟨_, _, _, _, _, e, _⟩ := h; subst e; rfl) | (obtain ⟨_, _, _, _, _, _, e, _⟩ := h; subst e; rfl) | (obtain ⟨_, _, _, _, _, _, _, e, _⟩ := h; subst e; rfl) | (obtain ⟨_, _, _, _, _, _, _, _, e, _⟩ := h; subst e; rfl)
  | (obtain ⟨_, _, _, _, _, _, _, _, _, e, _⟩ := h; subst e; rfl) | (obtain ⟨_, _, _, _, _, _, _, _, _, _, e, _⟩ := h; subst e; rfl) | (obtain ⟨_, _, _, _, _, _, _, _, _, _, _, e, _⟩ := h; subst e; rfl)))
local macro_rules | `(tactic| walk_at "hh") => `(tactic| first
  | assumption
  | exact L2.upd_same
  | (refine (L2.upd_ne (by walk_at "ne")).trans ?_; walk_at "hh")
  | (refine (‹L2.Same _ _› : L2.Same _ _) _ _ ?_; walk_at "hh"))
local macro_rules | `(tactic| walk_at "ne") => `(tactic| first
  | assumption
  | (apply Ne.symm; assumption)
  | exact L2.ne_of_none (by walk_at "hh") (by assumption)
  | exact (L2.ne_of_none (by walk_at "hh") (by assumption)).symm)
local macro_rules | `(tactic| walk_at "s") => `(tactic| first
  | refine ⟨_, rfl, ?_⟩
  | refine ⟨_, _, _, rfl, (by walk_at "hh"), ?_⟩
  | refine ⟨rfl, ?_⟩
  | refine ⟨_, _, rfl, rfl, ?_⟩)
local macro_rules | `(tactic| walk_at "isi int") => `(tactic| refine ⟨_, _, _, _, true, rfl, .ty "int", .base (.int _), L2.kit_ty (by decide +kernel), ?_⟩)
local macro_rules | `(tactic| walk_at "isi bool") => `(tactic| refine ⟨_, _, _, _, false, rfl, .ty "bool", .base (.int _), L2.kit_ty (by decide +kernel), ?_⟩)
local macro_rules | `(tactic| walk_at "isi tuple") => `(tactic| refine ⟨_, _, _, _, true, rfl, .ty "tuple", .base (.tup (by assumption)), L2.kit_ty (by decide +kernel), ?_⟩)
local macro_rules | `(tactic| walk_at "isi str") => `(tactic| refine ⟨_, _, _, _, true, rfl, .ty "str", .base (.str _), L2.kit_ty (by decide +kernel), ?_⟩)
local macro_rules | `(tactic| walk_at "v") => `(tactic| refine ⟨_, rfl, ?_⟩)
local macro_rules | `(tactic| walk_at "ii") => `(tactic| refine ⟨_, _, rfl, rfl, ?_⟩)
namespace K69
open PySem PySem.Spec PyProof.Rows L2
section
variable {P : Program} {w : World} {K : PySem.W.Frag} {mg : Str → Option Value} {base : Heap}
/-! ### presses.py -/
structure IsNm (z : Str) : Prop where
  lo : 1 ≤ z.length
  hi : z.length ≤ 8
  low : ∀ c ∈ z.cps.toList, 97 ≤ c ∧ c < 123
abbrev abc : Str := "abcdefghijklmnopqrstuvwxyz"
theorem abc_all : ∀ k : Nat, k < 26 → decide ((97 + k) ∈ abc.cps.toList) = true ∧ (Builtin.Str.occurrences abc ⟨#[97 + k]⟩ 0 abc.length 1).head? = some k := by decide +kernel
theorem abc_mem {c : Nat} (h : 97 ≤ c ∧ c < 123) : c ∈ abc.cps.toList := by
  have e := (abc_all (c - 97) (by omega)).1
  rw [show 97 + (c - 97) = c by omega] at e
  exact of_decide_eq_true e
theorem abc_at {c : Nat} (h : 97 ≤ c ∧ c < 123) : ∃ rest, Builtin.Str.occurrences abc ⟨#[c]⟩ 0 abc.length 1 = (c - 97) :: rest := by
  have e := (abc_all (c - 97) (by omega)).2
  rw [show 97 + (c - 97) = c by omega] at e
  cases q : Builtin.Str.occurrences abc ⟨#[c]⟩ 0 abc.length 1 with
  | nil =>
    rw [q] at e
    cases e
  | cons x r =>
    rw [q] at e
    exact ⟨r, by rw [Option.some.inj e]⟩
theorem nm_sz {z : Str} (h : IsNm z) : z.length ≤ sizeLine := Nat.le_trans h.hi (by decide)
theorem get_cps {z : Str} {i c : Nat} (h : z.cps[i]? = some c) : z.cps.toList[i]? = some c := by rw [Array.getElem?_toList]; exact h
def spName : Sp := fun vs H Q _ => ∃ (z : Str), vs = [.str z] ∧ IsNm z ∧ ∀ H', Same H H' → Q (.bl true) H'
abbrev N_isNameP : List Str := ["thing", "sign"]
theorem sc_isNameP : FnScope N_isNameP ["thing"] (defScope s_isNameP) := ⟨rfl, rfl, rfl, by decide +kernel, rfl, by decide +kernel, by decide +kernel⟩
theorem c_isNameP (T : Tx P w K mg base) : Cal P w K mg base "is_name_presses" 1 ["thing"] (spName) := by
  refine cal_mk T.df_isNameP T.g_isNameP sc_isNameP (fun _ _ _ _ _ _ us hl => match us, hl with | [_], _ => rfl) ?len (fun f cdv A outer s H vs Q E hr h => ?body)
  case len => walk_at "len"
  have nd := sc_isNameP.nd
  refine ⟨_, (pss_cons (ps_if (PW.pt (pw_or (pt_not (pt_val (pe_callB call_isi (by rfl) T.f_isinstance (by decide +kernel) (pa_cons (pv 0) (pa_cons (pe_ty (T := "str") T.f_str) pa_nil))))) (pw_or1 (pt_not (pt_chain op_le op_le pe_int (pe_callB call_len_str (by rfl) T.f_len (by decide +kernel) (pa_cons (pv 0) pa_nil)) (pe_gi T.i_LONGEST_NAME)))))) (pss_one (ps_ret pe_bl)) pss_nil)
    (pss_one (ps_ret (pe_callB (cr_all rfl) (by rfl) T.f_all (by decide +kernel) (pa_cons (pe_lc (own := [("sign", 1)]) (g := gName 1) (tt := tYes) rfl nd (pi_str (pv 0)) (blkOk_by (own := [("sign", 1)]) (N := N_isNameP) (sc := defScope s_isNameP) (by decide +kernel)) (fun _ _ _ _ _ => (pg_name (i := 1) nd rfl (Or.inl rfl))) (fun _ _ _ _ _ => pts_nil) (fun _ _ _ _ _ => (pe_cmpR op_in_sign (pv 1) (pe_gs T.z_LETTERS_presses) rfl))) pa_nil))))), ?_⟩
  obtain ⟨z, rfl, hz, q⟩ := h
  have h1 := hz.lo
  have h2 := hz.hi
  walk_at "v"; walk_at "isi str"; walk_at "v"
  refine iteF ?_
  refine ⟨_, rfl, _, rfl, nm_sz hz, _, _, rfl, rfl, _, rfl, ?_⟩
  refine ifD (by omega) ?_
  refine ⟨_, _, rfl, rfl, _, rfl, ?_⟩
  refine ifnD (by omega) ?_
  refine ⟨_, rfl, z, rfl, fun D hD => lcm_str hD (by omega) (fun _ => rfl) (fun _ => .bl true) (fun i c H1 hi s1 Q k => ?_) (fun H1 s1 h1 => ?_)⟩
  · refine ⟨_, rfl, c, abc, rfl, rfl, ?_⟩
    rw [decide_eq_true (abc_mem (hz.low c (List.mem_of_getElem? (get_cps hi))))]
    exact k H1 (Same.refl _)
  · refine ⟨D, _, rfl, lst_true h1, ?_⟩
    rw [all_rng]
    exact q H1 s1
abbrev N_isNameD : List Str := ["thing", "sign"]
theorem sc_isNameD : FnScope N_isNameD ["thing"] (defScope s_isNameD) := ⟨rfl, rfl, rfl, by decide +kernel, rfl, by decide +kernel, by decide +kernel⟩
theorem c_isNameD (T : Tx P w K mg base) : Cal P w K mg base "is_name_doors" 1 ["thing"] (spName) := by
  refine cal_mk T.df_isNameD T.g_isNameD sc_isNameD (fun _ _ _ _ _ _ us hl => match us, hl with | [_], _ => rfl) ?len (fun f cdv A outer s H vs Q E hr h => ?body)
  case len => walk_at "len"
  have nd := sc_isNameD.nd
  refine ⟨_, (pss_cons (ps_if (PW.pt (pw_or (pt_not (pt_val (pe_callB call_isi (by rfl) T.f_isinstance (by decide +kernel) (pa_cons (pv 0) (pa_cons (pe_ty (T := "str") T.f_str) pa_nil))))) (pw_or1 (pt_not (pt_chain op_le op_le pe_int (pe_callB call_len_str (by rfl) T.f_len (by decide +kernel) (pa_cons (pv 0) pa_nil)) (pe_gi T.i_MOST_LETTERS)))))) (pss_one (ps_ret pe_bl)) pss_nil)
    (pss_one (ps_ret (pe_callB (cr_all rfl) (by rfl) T.f_all (by decide +kernel) (pa_cons (pe_lc (own := [("sign", 1)]) (g := gName 1) (tt := tYes) rfl nd (pi_str (pv 0)) (blkOk_by (own := [("sign", 1)]) (N := N_isNameD) (sc := defScope s_isNameD) (by decide +kernel)) (fun _ _ _ _ _ => (pg_name (i := 1) nd rfl (Or.inl rfl))) (fun _ _ _ _ _ => pts_nil) (fun _ _ _ _ _ => (pe_cmpR op_in_sign (pv 1) (pe_gs T.z_LETTERS_doors) rfl))) pa_nil))))), ?_⟩
  obtain ⟨z, rfl, hz, q⟩ := h
  have h1 := hz.lo
  have h2 := hz.hi
  walk_at "v"; walk_at "isi str"; walk_at "v"
  refine iteF ?_
  refine ⟨_, rfl, _, rfl, nm_sz hz, _, _, rfl, rfl, _, rfl, ?_⟩
  refine ifD (by omega) ?_
  refine ⟨_, _, rfl, rfl, _, rfl, ?_⟩
  refine ifnD (by omega) ?_
  refine ⟨_, rfl, z, rfl, fun D hD => lcm_str hD (by omega) (fun _ => rfl) (fun _ => .bl true) (fun i c H1 hi s1 Q k => ?_) (fun H1 s1 h1 => ?_)⟩
  · refine ⟨_, rfl, c, abc, rfl, rfl, ?_⟩
    rw [decide_eq_true (abc_mem (hz.low c (List.mem_of_getElem? (get_cps hi))))]
    exact k H1 (Same.refl _)
  · refine ⟨D, _, rfl, lst_true h1, ?_⟩
    rw [all_rng]
    exact q H1 s1
/-- a name's codes -/
abbrev cd (z : Str) : List Nat := z.cps.toList
def spNameDigits : Sp := fun vs H Q _ => ∃ (z : Str), vs = [.str z] ∧ IsNm z ∧ ∀ (p : Addr) (H' : Hp), Same H H' → H p = none → H' p = some (.lst ((nameDigs (cd z)).map V.int)) → Q (.ref p) H'
theorem nameDigs_more {l : List Nat} {i c : Nat} (h : l[i]? = some c) : nameDigs (l.take (i + 1)) = nameDigs (l.take i) ++ [((c : Int) - 97) % 16, ((c : Int) - 97) / 16] := by
  rw [take_more h]
  unfold nameDigs
  rw [List.flatMap_append]
  rfl
theorem nameDigs_len (l : List Nat) : (nameDigs l).length = 2 * l.length := by
  induction l with
  | nil => rfl
  | cons c r ih =>
    show (_ :: _ :: nameDigs r).length = _
    rw [List.length_cons, List.length_cons, ih, List.length_cons]
    omega
abbrev N_nameDigits : List Str := ["name", "found", "sign", "place"]
theorem sc_nameDigits : FnScope N_nameDigits ["name"] (defScope s_nameDigits) := ⟨rfl, rfl, rfl, by decide +kernel, rfl, by decide +kernel, by decide +kernel⟩
theorem c_nameDigits (T : Tx P w K mg base) : Cal P w K mg base "name_digits" 1 ["name"] (spNameDigits) := by
  refine cal_mk T.df_nameDigits T.g_nameDigits sc_nameDigits (fun _ _ _ _ _ _ us hl => match us, hl with | [_], _ => rfl) ?len (fun f cdv A outer s H vs Q E hr h => ?body)
  case len => walk_at "len"
  have nd := sc_nameDigits.nd
  refine ⟨_, (pss_cons (ps_set (i := 1) nd rfl (Or.inl rfl) (pe_lst pa_nil))
    (pss_cons (ps_for PassesOwn.never rfl (pi_str (pv 0)) (pg_name (i := 2) nd rfl (Or.inl rfl))
    (pss_cons (ps_set (i := 3) nd rfl (Or.inl rfl) (pe_m1 PySem.F.slot_str_index PySem.F.type_str_index mt_sindex (pe_gs T.z_LETTERS_presses) (pv 2)))
    (pss_one (ps_expr (pe_bm PySem.F.plainAttrs_list PySem.F.slot_list_extend PySem.F.type_list_extend mt_extend (pv 1) (pa_cons (pe_lst (pa_cons (pe_op op_mod (pv 3) (pe_gi T.i_DIGITS_tables)) (pa_cons (pe_op op_fdiv (pv 3) (pe_gi T.i_DIGITS_tables)) pa_nil))) pa_nil))))))
    (pss_one (ps_ret (pv 1))))), ?_⟩
  obtain ⟨z, rfl, hz, q⟩ := h
  have h2 := hz.hi
  refine ⟨by show 0 ≤ sizeLine; decide, fun l hl0 => ?_⟩
  have s0 : Same H (upd H l (.lst [])) := same_new hl0
  refine ⟨_, rfl, z, rfl, for_it walk_str (fun i σ H' => ∃ (v2 v3 : Option V), σ = [some (.str z), some (.ref l), v2, v3] ∧ Same H H' ∧ H' l = some (.lst ((nameDigs ((cd z).take i)).map V.int))) ⟨none, none, rfl, s0, upd_same⟩ (fun _ _ _ _ _ => trivial) ?_ ?_⟩
  · rintro i x σ H1 H1' hi ⟨v2, v3, rfl, s1, h1⟩ ⟨rfl, c, hc, rfl⟩
    have hcl := hz.low c (List.mem_of_getElem? (get_cps hc))
    obtain ⟨rest, hr⟩ := abc_at hcl
    have e1 : ((c - 97 : Nat) : Int) = (c : Int) - 97 := by omega
    refine ⟨⟨_, rfl⟩, _, rfl, _, _, _, _, rfl, rfl, hr, ?_⟩
    refine ⟨_, rfl, Or.inl ⟨rfl, _, SqL.of h1⟩, _, rfl, _, _, rfl, rfl, (by show (0 : Int) < 16; decide), _, rfl, _, _, rfl, rfl, ⟨by decide, by decide⟩, (by show 2 ≤ sizeLine; decide), fun b hb => ?_⟩
    have nb : l ≠ b := ne_of_none h1 hb
    refine ⟨l, b, _, _, rfl, rfl, (upd_ne nb).trans h1, upd_same, ?_, ?_⟩
    · rw [List.length_map, nameDigs_len, List.length_take]
      have e : (cd z).length = z.length := (Array.length_toList ..)
      show _ + 2 ≤ _
      exact sz_of (by omega)
    · refine ⟨_, _, rfl, same_mut (s1.trans (same_new hb)) hl0, ?_⟩
      rw [nameDigs_more (get_cps hc), List.map_append, e1]
      exact upd_same
  · rintro σ H1 ⟨v2, v3, rfl, s1, h1⟩
    have e : z.cps.size = (cd z).length := (Array.length_toList ..).symm
    rw [e, List.take_length] at h1
    exact ⟨_, rfl, q l H1 s1 hl0 h1⟩
def spKeyOf (K : PySem.W.Frag) : Sp := fun vs H Q _ => ∃ (t k : Addr) (tab key : List Int) (z : Str), vs = [.ref t, .ref k, .str z] ∧ SqT K H t (tab.map V.int) ∧ SqT K H k (key.map V.int) ∧ IsTab tab ∧ key.length ≤ 8 ∧ IsNm z ∧
  ∀ (p : Addr) (H' : Hp), Same H H' → H p = none → H' p = some (.tup ((keyOfL tab key (cd z)).map V.int)) → Q (.ref p) H'
abbrev N_keyOf : List Str := ["table", "key", "name", "own", "place", "digit"]
theorem sc_keyOf : FnScope N_keyOf ["table", "key", "name"] (defScope s_keyOf) := ⟨rfl, rfl, rfl, by decide +kernel, rfl, by decide +kernel, by decide +kernel⟩
theorem c_keyOf (T : Tx P w K mg base) : Cal P w K mg base "key_of" 2 ["table", "key", "name"] (spKeyOf K) := by
  refine cal_mk T.df_keyOf T.g_keyOf sc_keyOf (fun _ _ _ _ _ _ us hl => match us, hl with | [_, _, _], _ => rfl) ?len (fun f cdv A outer s H vs Q E hr h => ?body)
  case len => walk_at "len"
  have nd := sc_keyOf.nd
  refine ⟨_, (pss_cons (ps_set (i := 3) nd rfl (Or.inl rfl) (pe_op op_rep (pe_lst (pa_cons pe_int pa_nil)) (pe_gi T.i_KEY_PLACES)))
    (pss_cons (ps_for PassesOwn.never rfl (pi_enumK true (by rfl) T.f_enumerate (pa_cons (pe_c (c_nameDigits T) (hr.mono (by decide)) (pa_cons (pv 2) pa_nil)) pa_nil)) (pg_tup rfl (pgs_cons (pg_name (i := 4) nd rfl (Or.inl rfl)) (pgs_cons (pg_name (i := 5) nd rfl (Or.inl rfl)) pgs_nil)))
    (pss_one (ps_asg (pe_op op_mod (pe_op op_add (pe_ix ix_list (pv 3) (pe_op op_mod (pv 4) (pe_gi T.i_KEY_PLACES)) (fun _ _ => rfl)) (pv 5)) (pe_gi T.i_DIGITS_tables)) (pg_sub (pv 3) (pe_op op_mod (pv 4) (pe_gi T.i_KEY_PLACES)) set_list))))
    (pss_one (ps_ret (pe_c (c_coded T) (hr.mono (by decide)) (pa_cons (pv 0) (pa_cons (pv 1) (pa_cons (pv 3) pa_nil)))))))), ?_⟩
  obtain ⟨t, k, tab, key, z, rfl, ht, hk, hT, hl, hz, q⟩ := h
  refine ⟨by show 1 ≤ sizeLine; decide, fun l0 hl0 => ⟨l0, _, _, rfl, rfl, upd_same, by decide, by decide, by decide, fun l hl1 => ?_⟩⟩
  have s0 : Same H (upd (upd H l0 (.lst [.int 0])) l (.lst (List.replicate (4 : Int).toNat [V.int 0]).flatten)) := (same_new hl0).trans (same_new hl1)
  have hlf : H l = none := (same_new hl0).free hl1
  have hl2 : (upd (upd H l0 (.lst [.int 0])) l (.lst (List.replicate (4 : Int).toNat [V.int 0]).flatten)) l = some (.lst ((ownN (nameDigs (cd z)) 0).map V.int)) := upd_same
  revert s0 hl2
  generalize upd (upd H l0 (.lst [.int 0])) l (.lst (List.replicate (4 : Int).toNat [V.int 0]).flatten) = H0
  intro s0 hl2
  refine ⟨_, rfl, z, rfl, hz, fun d H1 s1 hd0 hd => ?_⟩
  have nld : l ≠ d := ne_of_none hl2 hd0
  have hdf : H d = none := s0.free hd0
  refine ⟨d, _, rfl, SqL.of hd, for_it (walk_enumK (k := true)) (fun i σ H' => ∃ (v4 v5 : Option V), σ = [some (.ref t), some (.ref k), some (.str z), some (.ref l), v4, v5] ∧ Same H H' ∧ H' d = some (.lst ((nameDigs (cd z)).map V.int)) ∧ H' l = some (.lst ((ownN (nameDigs (cd z)) i).map V.int))) ⟨none, none, rfl, s0.trans s1, hd, s1 _ _ hl2⟩ (fun i σ H' _ ⟨_, _, _, _, e, _⟩ => SqL.of e) ?_ ?_⟩
  · rintro i x σ H2 H3 hi ⟨v4, v5, rfl, s2, h2, h3⟩ ⟨T0, x1, y1, rfl, hT0, rfl, e1, e2⟩
    obtain rfl := Option.some.inj e1
    obtain ⟨y, hy, rfl⟩ := map_get e2
    have ey : (nameDigs (cd z)).getD i 0 = y := by simp [List.getD, hy]
    have nl : l ≠ T0 := ne_of_none h3 hT0
    have nd2 : d ≠ T0 := ne_of_none h2 hT0
    have h3' : (upd H2 T0 (.tup [.int (i : Nat), .int y])) l = _ := (upd_ne nl).trans h3
    have ho := ownN_dn (nameDigs (cd z)) i
    have hm : i % 4 < (ownN (nameDigs (cd z)) i).length := by rw [ho.1]; omega
    refine ⟨T0, _, rfl, SqT.of upd_same, rfl, _, _, rfl, _, _, rfl, rfl, ?_⟩
    refine ⟨_, rfl, _, rfl, _, _, rfl, rfl, (by show (0 : Int) < 4; decide), l, _, _, _, rfl, rfl, SqL.of h3', atI_int (j := i % 4) (by omega) hm, _, rfl, _, _, rfl, rfl, _, _, rfl, rfl, (by show (0 : Int) < 16; decide), _, rfl, _, rfl, _, _, rfl, rfl, (by show (0 : Int) < 4; decide), l, _, _, i % 4, rfl, rfl, h3', ixN_of (by omega) (by rw [List.length_map]; exact hm), ?_⟩
    refine ⟨_, _, rfl, same_mut (s2.trans (same_new hT0)) hlf, ?_, ?_⟩
    · rw [upd_ne nld.symm, upd_ne nd2]
      exact h2
    · rw [set_int, ownN_succ]
      unfold own1
      rw [ey]
      exact upd_same
  · rintro σ H2 ⟨v4, v5, rfl, s2, h2, h3⟩
    rw [List.length_map] at h3
    refine ⟨_, rfl, _, rfl, _, rfl, t, k, l, tab, key, _, rfl, same_seqT s2 ht, same_seqT s2 hk, Or.inl (SqL.of h3), hT, ⟨4, ownN_dn _ _, by decide, by decide⟩, hl, fun p H' s hp h => ?_⟩
    exact q p H' (s2.trans s) (s2.free hp) h
def spPressOf (K : PySem.W.Frag) : Sp := fun vs H Q _ => ∃ (t k : Addr) (tab key : List Int) (z : Str) (age count deed : Int), vs = [.ref t, .ref k, .str z, .int age, .int count, .int deed] ∧ SqT K H t (tab.map V.int) ∧ SqT K H k (key.map V.int) ∧ IsTab tab ∧ key.length ≤ 8 ∧ IsNm z ∧
  0 ≤ count ∧ count < 4096 ∧ (0 ≤ deed ∧ deed < 16) ∧
  ∀ (p c : Addr) (H' : Hp), Same H H' → H p = none → H' p = some (.tup [.str z, .int age, .ref c]) → H' c = some (.tup ((codeL tab key (cd z) count deed).map V.int)) → Q (.ref p) H'
abbrev N_pressOf : List Str := ["table", "key", "name", "age", "count", "deed", "digits"]
theorem sc_pressOf : FnScope N_pressOf ["table", "key", "name", "age", "count", "deed"] (defScope s_pressOf) := ⟨rfl, rfl, rfl, by decide +kernel, rfl, by decide +kernel, by decide +kernel⟩
theorem c_pressOf (T : Tx P w K mg base) : Cal P w K mg base "press_of" 3 ["table", "key", "name", "age", "count", "deed"] (spPressOf K) := by
  refine cal_mk T.df_pressOf T.g_pressOf sc_pressOf (fun _ _ _ _ _ _ us hl => match us, hl with | [_, _, _, _, _, _], _ => rfl) ?len (fun f cdv A outer s H vs Q E hr h => ?body)
  case len => walk_at "len"
  have nd := sc_pressOf.nd
  refine ⟨_, (pss_cons (ps_set (i := 6) nd rfl (Or.inl rfl) (pe_lst (pa_cons (pe_op op_mod (pv 4) (pe_gi T.i_DIGITS_tables)) (pa_cons (pe_op op_mod (pe_op op_fdiv (pv 4) (pe_gi T.i_DIGITS_tables)) (pe_gi T.i_DIGITS_tables)) (pa_cons (pe_op op_fdiv (pv 4) (pe_op op_mul (pe_gi T.i_DIGITS_tables) (pe_gi T.i_DIGITS_tables))) (pa_cons (pv 5) pa_nil))))))
    (pss_one (ps_ret (pe_tup (pa_cons (pv 2) (pa_cons (pv 3) (pa_cons (pe_c (c_coded T) (hr.mono (by decide)) (pa_cons (pv 0) (pa_cons (pe_c (c_keyOf T) (hr.mono (by decide)) (pa_cons (pv 0) (pa_cons (pv 1) (pa_cons (pv 2) pa_nil)))) (pa_cons (pe_op op_cat (pv 6) (pe_lst (pa_cons (pe_op op_mod (pe_callB (cr_sum rfl) (by rfl) T.f_sum (by decide +kernel) (pa_cons (pv 6) pa_nil)) (pe_gi T.i_DIGITS_tables)) pa_nil))) pa_nil)))) pa_nil))))))), ?_⟩
  obtain ⟨t, k, tab, key, z, age, count, deed, rfl, ht, hk, hT, hl, hz, h0, h1, hdd, q⟩ := h
  refine ⟨_, rfl, _, _, rfl, rfl, (by show (0 : Int) < 16; decide), _, rfl, _, _, rfl, rfl, ⟨by decide, by decide⟩, _, _, rfl, rfl, (by show (0 : Int) < 16; decide), _, rfl, _, _, rfl, rfl, Or.inl ⟨by decide, by decide⟩, _, _, rfl, rfl, ⟨by decide, by decide⟩, _, rfl, (by show 4 ≤ sizeLine; decide), fun l hl0 => ?_⟩
  have s0 : Same H _ := same_new (o := .lst ([count % 16, count / 16 % 16, count / (16 * 16), deed].map V.int)) hl0
  refine ⟨_, rfl, _, rfl, _, rfl, _, rfl, _, rfl, _, rfl, t, k, tab, key, z, rfl, same_seqT s0 ht, same_seqT s0 hk, hT, hl, hz, fun kk H1 s1 hk0 hkk => ?_⟩
  have hl1 : H1 l = some (.lst ([count % 16, count / 16 % 16, count / (16 * 16), deed].map V.int)) := s1 _ _ upd_same
  refine ⟨_, rfl, _, rfl, l, [count % 16, count / 16 % 16, count / (16 * 16), deed], rfl, SqL.of hl1, _, _, rfl, rfl, (by show (0 : Int) < 16; decide), (by show 1 ≤ sizeLine; decide), fun l2 hl2 => ?_⟩
  have nl : l ≠ l2 := ne_of_none hl1 hl2
  refine ⟨l, l2, _, _, rfl, rfl, (upd_ne nl).trans hl1, upd_same, (by show 5 ≤ sizeLine; decide), fun l3 hl3 => ?_⟩
  have s2 : Same H1 _ := same_new (o := .lst [V.int ([count % 16, count / 16 % 16, count / (16 * 16), deed].sum % 16)]) hl2
  have s3 := same_new (o := .lst ((five count deed).map V.int)) hl3
  have s13 := s2.trans s3
  have s03 := s0.trans (s1.trans s13)
  refine ⟨t, kk, l3, tab, keyOfL tab key (cd z), five count deed, rfl, same_seqT s03 ht, SqT.of (s13 _ _ hkk), Or.inl (SqL.of upd_same), hT, ⟨5, five_dn h0 h1 hdd, by decide, by decide⟩, by rw [(keyOf_dn hT).1]; decide, fun c H4 s4 hc0 hc => ?_⟩
  refine ⟨(by show 3 ≤ sizeLine; decide), fun p hp => ?_⟩
  have s04 := s03.trans s4
  refine q p c _ (s04.trans (same_new hp)) (s04.free hp) upd_same ?_
  rw [upd_ne (ne_of_none hc hp)]
  exact hc
/-- a press of a button's count, as the heap holds it -/
structure PrAt (H : Hp) (tab key : List Int) (p : Addr) (z : Str) (count deed : Int) : Prop where
  at_ : ∃ c : Addr, H p = some (.tup [.str z, .int 0, .ref c]) ∧ H c = some (.tup ((codeL tab key (cd z) count deed).map V.int))
  nm : IsNm z
  lo : 0 ≤ count
  hi : count < 4096
  dd : 0 ≤ deed ∧ deed < 16
def spReadPress (K : PySem.W.Frag) : Sp := fun vs H Q _ => ∃ (t k p : Addr) (tab key : List Int) (z : Str) (count deed : Int), vs = [.ref t, .ref k, .ref p] ∧ SqT K H t (tab.map V.int) ∧ SqT K H k (key.map V.int) ∧ IsTab tab ∧ key.length ≤ 8 ∧
  PrAt H tab key p z count deed ∧ ∀ (r : Addr) (H' : Hp), Same H H' → H r = none → H' r = some (.tup [.int count, .int deed]) → Q (.ref r) H'
abbrev N_readPress : List Str := ["table", "key", "press", "name", "age", "code", "digits"]
theorem sc_readPress : FnScope N_readPress ["table", "key", "press"] (defScope s_readPress) := ⟨rfl, rfl, rfl, by decide +kernel, rfl, by decide +kernel, by decide +kernel⟩
theorem c_readPress (T : Tx P w K mg base) : Cal P w K mg base "read_press" 3 ["table", "key", "press"] (spReadPress K) := by
  refine cal_mk T.df_readPress T.g_readPress sc_readPress (fun _ _ _ _ _ _ us hl => match us, hl with | [_, _, _], _ => rfl) ?len (fun f cdv A outer s H vs Q E hr h => ?body)
  case len => walk_at "len"
  have nd := sc_readPress.nd
  refine ⟨_, (pss_cons (ps_asg (pv 2) (pg_tup rfl (pgs_cons (pg_name (i := 3) nd rfl (Or.inl rfl)) (pgs_cons (pg_name (i := 4) nd rfl (Or.inl rfl)) (pgs_cons (pg_name (i := 5) nd rfl (Or.inl rfl)) pgs_nil)))))
    (pss_cons (ps_set (i := 6) nd rfl (Or.inl rfl) (pe_c (c_decoded T) (hr.mono (by decide)) (pa_cons (pv 0) (pa_cons (pe_c (c_keyOf T) (hr.mono (by decide)) (pa_cons (pv 0) (pa_cons (pv 1) (pa_cons (pv 3) pa_nil)))) (pa_cons (pv 5) pa_nil)))))
    (pss_cons (ps_if (pt_cmpR op_ne (pe_op op_mod (pe_callB (cr_sumT rfl) (by rfl) T.f_sum (by decide +kernel) (pa_cons (pe_slice sl_tupA (pv 6) po_none (po_some pe_int)) pa_nil)) (pe_gi T.i_DIGITS_tables)) (pe_ix ix_tup (pv 6) pe_int (fun _ _ => rfl)) (nomark _)) (pss_one (ps_ret pe_non)) pss_nil)
    (pss_one (ps_ret (pe_tup (pa_cons (pe_op op_add (pe_ix ix_tup (pv 6) pe_int (fun _ _ => rfl)) (pe_op op_mul (pe_gi T.i_DIGITS_tables) (pe_op op_add (pe_ix ix_tup (pv 6) pe_int (fun _ _ => rfl)) (pe_op op_mul (pe_gi T.i_DIGITS_tables) (pe_ix ix_tup (pv 6) pe_int (fun _ _ => rfl)))))) (pa_cons (pe_ix ix_tup (pv 6) pe_int (fun _ _ => rfl)) pa_nil)))))))), ?_⟩
  obtain ⟨t, k, p, tab, key, z, count, deed, rfl, ht, hk, hT, hl, ⟨⟨c, hp, hc⟩, hz, h0, h1, hdd⟩, q⟩ := h
  refine ⟨_, rfl, p, _, rfl, SqT.of hp, rfl, _, _, rfl, _, _, rfl, _, _, rfl, rfl, ?_⟩
  refine ⟨_, rfl, _, rfl, _, rfl, _, rfl, t, k, tab, key, z, rfl, ht, hk, hT, hl, hz, fun kk H1 s1 hk0 hkk => ?_⟩
  refine ⟨_, rfl, t, kk, c, tab, keyOfL tab key (cd z), codeL tab key (cd z) count deed, rfl, same_seqT s1 ht, SqT.of hkk, SqT.of (s1 _ _ hc), hT, ⟨5, code_dn hT h0 h1 hdd, by decide, by decide⟩, by rw [(keyOf_dn hT).1]; decide, fun d H2 s2 hd0 hd => ?_⟩
  rw [code_back hT h0 h1 hdd] at hd
  have s02 := s1.trans s2
  refine ⟨_, rfl, _, rfl, d, _, rfl, SqT.of hd, (fun x => absurd x.2 (by show ¬ ((4 : Nat) = 5); decide)), fun _ f hf => ?_⟩
  have nf : d ≠ f := ne_of_none hd hf
  refine ⟨f, four count deed, rfl, SqT.of upd_same, _, _, rfl, rfl, (by show (0 : Int) < 16; decide), _, rfl, d, _, _, V.int ((count % 16 + (count / 16 % 16 + (count / 256 + (deed + 0)))) % 16), rfl, rfl, SqT.of ((upd_ne nf).trans hd), rfl, rfl, _, rfl, ?_⟩
  refine ifnD rfl ?_
  have hd3 : SqT K (upd H2 f (.tup ((four count deed).map V.int))) d ((five count deed).map V.int) := SqT.of ((upd_ne nf).trans hd)
  refine ⟨_, rfl, d, _, _, V.int (count % 16), rfl, rfl, hd3, rfl, _, rfl, d, _, _, V.int (count / 16 % 16), rfl, rfl, hd3, rfl, _, rfl, d, _, _, V.int (count / 256), rfl, rfl, hd3, rfl, _, _, rfl, rfl, Or.inl ⟨by decide, by decide⟩, _, _, rfl, rfl, _, _, rfl, rfl, Or.inl ⟨by decide, by decide⟩, _, _, rfl, rfl, _, rfl, d, _, _, V.int deed, rfl, rfl, hd3, rfl, (by show 2 ≤ sizeLine; decide), fun r hr => ?_⟩
  have e : count % 16 + 16 * (count / 16 % 16 + 16 * (count / 256)) = count := by omega
  have s3 := s02.trans (same_new (o := .tup ((four count deed).map V.int)) hf)
  refine q r _ (s3.trans (same_new hr)) (s3.free hr) ?_
  rw [upd_same]
  show some (HO.tup [V.int (count % 16 + 16 * (count / 16 % 16 + 16 * (count / 256))), V.int deed]) = _
  rw [e]
/-! ### windows.py -/
def wordS (c l n f : Int) : Str := if c ≤ l then "old" else if c ≤ l + n then "near" else if c ≤ l + f then "far" else "beyond"
def spWord : Sp := fun vs H Q _ => ∃ (c l n f : Int), vs = [.int c, .int l, .int n, .int f] ∧ Q (.str (wordS c l n f)) H
abbrev N_wordOf : List Str := ["count", "last", "near", "far"]
theorem sc_wordOf : FnScope N_wordOf ["count", "last", "near", "far"] (defScope s_wordOf) := ⟨rfl, rfl, rfl, by decide +kernel, rfl, by decide +kernel, by decide +kernel⟩
theorem c_wordOf (T : Tx P w K mg base) : Cal P w K mg base "word_of" 1 ["count", "last", "near", "far"] (spWord) := by
  refine cal_mk T.df_wordOf T.g_wordOf sc_wordOf (fun _ _ _ _ _ _ us hl => match us, hl with | [_, _, _, _], _ => rfl) ?len (fun f cdv A outer s H vs Q E hr h => ?body)
  case len => walk_at "len"
  have nd := sc_wordOf.nd
  refine ⟨_, (pss_cons (ps_if (pt_cmpR op_le (pv 0) (pv 1) (nomark _)) (pss_one (ps_ret pe_str)) pss_nil)
    (pss_cons (ps_if (pt_cmpR op_le (pv 0) (pe_op op_add (pv 1) (pv 2)) (nomark _)) (pss_one (ps_ret pe_str)) pss_nil)
    (pss_one (ps_ret (pe_ifExp (pt_cmpR op_le (pv 0) (pe_op op_add (pv 1) (pv 3)) (nomark _)) pe_str pe_str))))), ?_⟩
  obtain ⟨c, l, n, f, rfl, q⟩ := h
  unfold wordS at q
  refine ⟨_, rfl, _, rfl, _, _, rfl, rfl, _, rfl, ?_⟩
  by_cases h1 : c ≤ l
  · rw [if_pos h1] at q
    refine ifD h1 ?_
    exact q
  · rw [if_neg h1] at q
    refine ifND h1 ?_
    refine ⟨_, rfl, _, rfl, _, rfl, _, _, rfl, rfl, _, _, rfl, rfl, _, rfl, ?_⟩
    by_cases h2 : c ≤ l + n
    · rw [if_pos h2] at q
      refine ifD h2 ?_
      exact q
    · rw [if_neg h2] at q
      refine ifND h2 ?_
      refine ⟨_, rfl, _, rfl, _, rfl, _, _, rfl, rfl, _, _, rfl, rfl, _, rfl, ?_⟩
      by_cases h3 : c ≤ l + f
      · rw [if_pos h3] at q
        refine ifD h3 ?_
        exact q
      · rw [if_neg h3] at q
        refine ifND h3 ?_
        exact q
/-! ### doors.py: what a press is -/
def spWhole : Sp := fun vs H Q _ => ∃ (i : Int), vs = [.int i] ∧ Q (.bl true) H
abbrev N_isWhole : List Str := ["thing"]
theorem sc_isWhole : FnScope N_isWhole ["thing"] (defScope s_isWhole) := ⟨rfl, rfl, rfl, by decide +kernel, rfl, by decide +kernel, by decide +kernel⟩
theorem c_isWhole (T : Tx P w K mg base) : Cal P w K mg base "is_whole" 1 ["thing"] (spWhole) := by
  refine cal_mk T.df_isWhole T.g_isWhole sc_isWhole (fun _ _ _ _ _ _ us hl => match us, hl with | [_], _ => rfl) ?len (fun f cdv A outer s H vs Q E hr h => ?body)
  case len => walk_at "len"
  have nd := sc_isWhole.nd
  refine ⟨_, (pss_one (ps_ret (pe_and (pe_callB call_isi (by rfl) T.f_isinstance (by decide +kernel) (pa_cons (pv 0) (pa_cons (pe_ty (T := "int") T.f_int) pa_nil))) (pe_one (pe_not (pe_callB call_isi (by rfl) T.f_isinstance (by decide +kernel) (pa_cons (pv 0) (pa_cons (pe_ty (T := "bool") T.f_bool) pa_nil)))))))), ?_⟩
  obtain ⟨i, rfl, q⟩ := h
  walk_at "v"; walk_at "isi int"; walk_at "v"
  refine iteT ?_
  walk_at "v"; walk_at "isi bool"; walk_at "v"
  exact q
abbrev N_isDigitD : List Str := ["thing"]
theorem sc_isDigitD : FnScope N_isDigitD ["thing"] (defScope s_isDigitD) := ⟨rfl, rfl, rfl, by decide +kernel, rfl, by decide +kernel, by decide +kernel⟩
theorem c_isDigitD (T : Tx P w K mg base) : Cal P w K mg base "is_digit_doors" 2 ["thing"] (spDig) := by
  refine cal_mk T.df_isDigitD T.g_isDigitD sc_isDigitD (fun _ _ _ _ _ _ us hl => match us, hl with | [_], _ => rfl) ?len (fun f cdv A outer s H vs Q E hr h => ?body)
  case len => walk_at "len"
  have nd := sc_isDigitD.nd
  refine ⟨_, (pss_one (ps_ret (pe_and (pe_c (c_isWhole T) (hr.mono (by decide)) (pa_cons (pv 0) pa_nil)) (pe_one (pe_chain op_le op_lt pe_int (pv 0) (pe_gi T.i_SIXTEEN)))))), ?_⟩
  obtain ⟨i, rfl, ⟨h0, h1⟩, q⟩ := h
  refine ⟨_, rfl, i, rfl, _, rfl, ?_⟩
  refine iteT ?_
  refine ⟨_, rfl, _, _, rfl, rfl, _, rfl, ?_⟩
  refine ifD h0 ?_
  refine ⟨_, _, rfl, rfl, ?_⟩
  show Q (.bl (decide (i < 16))) H
  rw [decide_eq_true h1]
  exact q
def spIsPress : Sp := fun vs H Q _ => ∃ (p : Addr) (tab key : List Int) (z : Str) (count deed : Int), vs = [.ref p] ∧ IsTab tab ∧ PrAt H tab key p z count deed ∧ ∀ H', Same H H' → Q (.bl true) H'
abbrev N_isPress : List Str := ["thing", "code", "digit"]
theorem sc_isPress : FnScope N_isPress ["thing"] (defScope s_isPress) := ⟨rfl, rfl, rfl, by decide +kernel, rfl, by decide +kernel, by decide +kernel⟩
theorem c_isPress (T : Tx P w K mg base) : Cal P w K mg base "is_press" 3 ["thing"] (spIsPress) := by
  refine cal_mk T.df_isPress T.g_isPress sc_isPress (fun _ _ _ _ _ _ us hl => match us, hl with | [_], _ => rfl) ?len (fun f cdv A outer s H vs Q E hr h => ?body)
  case len => walk_at "len"
  have nd := sc_isPress.nd
  refine ⟨_, (pss_cons (ps_if (PW.pt (pw_or (pt_not (pt_val (pe_callB call_isi (by rfl) T.f_isinstance (by decide +kernel) (pa_cons (pv 0) (pa_cons (pe_ty (T := "tuple") T.f_tuple) pa_nil))))) (pw_or (pt_cmpR op_ne (pe_callB call_len_seq (by rfl) T.f_len (by decide +kernel) (pa_cons (pv 0) pa_nil)) pe_int (nomark _)) (pw_or (pt_not (pt_val (pe_c (c_isNameD T) (hr.mono (by decide)) (pa_cons (pe_ix ix_tup (pv 0) pe_int (fun _ _ => rfl)) pa_nil)))) (pw_or1 (pt_not (pt_val (pe_c (c_isWhole T) (hr.mono (by decide)) (pa_cons (pe_ix ix_tup (pv 0) pe_int (fun _ _ => rfl)) pa_nil))))))))) (pss_one (ps_ret pe_bl)) pss_nil)
    (pss_cons (ps_set (i := 1) nd rfl (Or.inl rfl) (pe_ix ix_tup (pv 0) pe_int (fun _ _ => rfl)))
    (pss_one (ps_ret (pe_and (pe_callB call_isi (by rfl) T.f_isinstance (by decide +kernel) (pa_cons (pv 1) (pa_cons (pe_ty (T := "tuple") T.f_tuple) pa_nil))) (pe_and (pe_cmpR op_eq (pe_callB call_len_seq (by rfl) T.f_len (by decide +kernel) (pa_cons (pv 1) pa_nil)) (pe_gi T.i_DIGITS_doors) (nomark _)) (pe_one (pe_callB (cr_all rfl) (by rfl) T.f_all (by decide +kernel) (pa_cons (pe_lc (own := [("digit", 2)]) (g := gName 2) (tt := tYes) rfl nd (pi_tup (pv 1)) (blkOk_by (own := [("digit", 2)]) (N := N_isPress) (sc := defScope s_isPress) (by decide +kernel)) (fun _ _ _ _ _ => (pg_name (i := 2) nd rfl (Or.inl rfl))) (fun _ _ _ _ _ => pts_nil) (fun _ _ _ _ _ => (pe_c (c_isDigitD T) (hr.mono (by decide)) (pa_cons (pv 2) pa_nil)))) pa_nil))))))))), ?_⟩
  obtain ⟨p, tab, key, z, count, deed, rfl, hT, ⟨⟨c, hp, hc⟩, hz, h0, h1, hdd⟩, q⟩ := h
  have hD := code_dn (key := key) (name := cd z) hT h0 h1 hdd
  walk_at "v"; walk_at "isi tuple"; walk_at "v"
  refine iteF ?_
  refine ⟨_, rfl, _, _, rfl, Or.inr (SqT.of hp), rfl, _, rfl, ?_⟩
  refine ifnD rfl ?_
  refine ⟨_, rfl, p, _, _, V.str z, rfl, rfl, SqT.of hp, rfl, z, rfl, hz, fun H1 s1 => ⟨_, rfl, ?_⟩⟩
  refine iteF ?_
  refine ⟨_, rfl, p, _, _, V.int 0, rfl, rfl, SqT.of (s1 _ _ hp), rfl, 0, rfl, _, rfl, ?_⟩
  refine iteF ?_
  refine ⟨_, rfl, p, _, _, V.ref c, rfl, rfl, SqT.of (s1 _ _ hp), rfl, ?_⟩
  have hc1 := s1 _ _ hc
  walk_at "v"; walk_at "isi tuple"; walk_at "v"
  refine iteT ?_
  refine ⟨_, rfl, _, _, rfl, Or.inr (SqT.of hc1), rfl, _, rfl, ?_⟩
  refine ifD (by rw [List.length_map, hD.1]; rfl) ?_
  refine ⟨_, rfl, c, rfl, ⟨_, SqT.of hc1⟩, fun D hD0 => lcm_tup (SqT.of hc1) hD0 (by rw [List.length_map, hD.1]; decide) (fun _ => rfl) (fun _ => .bl true) (fun i x H2 hi s2 Q k => ?_) (fun H2 s2 h2 => ?_)⟩
  · obtain ⟨y, hy, rfl⟩ := map_get hi
    exact ⟨_, rfl, y, rfl, hD.2 y (List.mem_of_getElem? hy), k H2 (Same.refl _)⟩
  · refine ⟨D, _, rfl, lst_true h2, ?_⟩
    rw [all_rng]
    exact q H2 (s1.trans s2)
end
end K69
end
section
set_option Elab.async false
set_option linter.all false
set_option maxRecDepth 100000
set_option maxHeartbeats 4000000
local macro_rules | `(tactic| walk_at "len") => `(tactic| (intro vs H Q E h; first
  | (obtain ⟨e, _⟩ := h; subst e; rfl) | (obtain ⟨_, e, _⟩ := h; subst e; rfl) | (obtain ⟨_, _, e, _⟩ := h; subst e; rfl) | (obtain ⟨_, _, _, e, _⟩ := h; subst e; rfl) | (obtain ⟨_, _, _, _, e, _⟩ := h; subst e; rfl)
  | (obtain ⟨_, _, _, _, _, e, _⟩ := h; subst e; rfl) | (obtain ⟨_, _, _, _, _, _, e, _⟩ := h; subst e; rfl) | (obtain ⟨_, _, _, _, _, _, _, e, _⟩ := h; subst e; rfl) | (obtain ⟨_, _, _, _, _, _, _, _, e, _⟩ := h; subst e; rfl)
  | (obtain ⟨_, _, _, _, _, _, _, _, _, e, _⟩ := h; subst e; rfl) | (obtain ⟨_, _, _, _, _, _, _, _, _, _, e, _⟩ := h; subst e; rfl) | (obtain ⟨_, _, _, _, _, _, _, _, _, _, _, e, _⟩ := h; subst e; rfl)))
local macro_rules | `(tactic| walk_at "hh") => `(tactic| first
  | assumption
  | exact L2.upd_same
  | (refine (L2.upd_ne (by walk_at "ne")).trans ?_; walk_at "hh")
  | (refine (‹L2.Same _ _› : L2.Same _ _) _ _ ?_; walk_at "hh"))
local macro_rules | `(tactic| walk_at "ne") => `(tactic| first
  | assumption
  | (apply Ne.symm; assumption)
  | exact L2.ne_of_none (by walk_at "hh") (by assumption)
  | exact (L2.ne_of_none (by walk_at "hh") (by assumption)).symm)
local macro_rules | `(tactic| walk_at "s") => `(tactic| first
  | refine ⟨_, rfl, ?_⟩
  | refine ⟨_, _, _, rfl, (by walk_at "hh"), ?_⟩
  | refine ⟨rfl, ?_⟩
  | refine ⟨_, _, rfl, rfl, ?_⟩)
local macro_rules | `(tactic| walk_at "isi int") => `(tactic| refine ⟨_, _, _, _, true, rfl, .ty "int", .base (.int _), L2.kit_ty (by decide +kernel), ?_⟩)
local macro_rules | `(tactic| walk_at "isi bool") => `(tactic| refine ⟨_, _, _, _, false, rfl, .ty "bool", .base (.int _), L2.kit_ty (by decide +kernel), ?_⟩)
local macro_rules | `(tactic| walk_at "isi tuple") => `(tactic| refine ⟨_, _, _, _, true, rfl, .ty "tuple", .base (.tup (by assumption)), L2.kit_ty (by decide +kernel), ?_⟩)
local macro_rules | `(tactic| walk_at "isi str") => `(tactic| refine ⟨_, _, _, _, true, rfl, .ty "str", .base (.str _), L2.kit_ty (by decide +kernel), ?_⟩)
local macro_rules | `(tactic| walk_at "v") => `(tactic| refine ⟨_, rfl, ?_⟩)
local macro_rules | `(tactic| walk_at "ii") => `(tactic| refine ⟨_, _, rfl, rfl, ?_⟩)
namespace K69
open PySem PySem.Spec PyProof.Rows L2
/-! ### buttons.py -/
/-- a button, by its numbers -/
structure PB where
  name : Str
  step : Int
  cnt : Int
  alw : Int
  c0 : Option Int
  c1 : Option Int
structure PBok (s : PB) : Prop where
  nm : IsNm s.name
  st : 1 ≤ s.step ∧ s.step ≤ 64
  lo : 0 ≤ s.cnt
  mid : s.cnt ≤ s.alw
  hi : s.alw ≤ 4096
  has : s.c0 = some s.alw ∨ s.c1 = some s.alw
  le0 : ∀ c, s.c0 = some c → 0 ≤ c ∧ c ≤ s.alw
  le1 : ∀ c, s.c1 = some c → 0 ≤ c ∧ c ≤ s.alw
def PB.wb (s : PB) : PB := if s.c0 = some s.alw then { s with alw := min (s.alw + s.step) 4096, c1 := some (min (s.alw + s.step) 4096) } else { s with alw := min (s.alw + s.step) 4096, c0 := some (min (s.alw + s.step) 4096) }
def PB.po (s : PB) : PB := { (if s.cnt = s.alw then s.wb else s) with cnt := s.cnt + 1 }
def PB.co (s : PB) : PB := { s with cnt := s.alw }
def PB.ct (s : PB) : PB := if s.cnt = s.alw ∧ s.cnt < 4096 then (if s.c0 = some s.alw then { s with c1 := none } else { s with c0 := none }) else { s with cnt := s.alw }
def PB.new (name : Str) (step : Int) : PB := ⟨name, step, 0, 0, some 0, none⟩
theorem PBok.wb {s : PB} (h : PBok s) : PBok s.wb := by
  obtain ⟨nm, st, lo, mid, hi, has, le0, le1⟩ := h
  unfold PB.wb
  split
  · refine ⟨nm, st, lo, ?_, ?_, Or.inr rfl, fun c hc => ?_, fun c hc => ?_⟩
    · show s.cnt ≤ min (s.alw + s.step) 4096; omega
    · show min (s.alw + s.step) 4096 ≤ 4096; omega
    · show 0 ≤ c ∧ c ≤ min (s.alw + s.step) 4096; have := le0 c hc; omega
    · show 0 ≤ c ∧ c ≤ min (s.alw + s.step) 4096; have e := Option.some.inj hc; omega
  · refine ⟨nm, st, lo, ?_, ?_, Or.inl rfl, fun c hc => ?_, fun c hc => ?_⟩
    · show s.cnt ≤ min (s.alw + s.step) 4096; omega
    · show min (s.alw + s.step) 4096 ≤ 4096; omega
    · show 0 ≤ c ∧ c ≤ min (s.alw + s.step) 4096; have e := Option.some.inj hc; omega
    · show 0 ≤ c ∧ c ≤ min (s.alw + s.step) 4096; have := le1 c hc; omega
theorem wb_name (s : PB) : s.wb.name = s.name := by unfold PB.wb; split <;> rfl
theorem wb_cnt (s : PB) : s.wb.cnt = s.cnt := by unfold PB.wb; split <;> rfl
theorem wb_alw (s : PB) : s.wb.alw = min (s.alw + s.step) 4096 := by unfold PB.wb; split <;> rfl
theorem po_name (s : PB) : s.po.name = s.name := by
  unfold PB.po
  show (if s.cnt = s.alw then s.wb else s).name = s.name
  split
  · exact wb_name s
  · rfl
theorem po_cnt (s : PB) : s.po.cnt = s.cnt + 1 := rfl
theorem PBok.po {s : PB} (h : PBok s) (hc : s.cnt < 4096) : PBok s.po := by
  unfold PB.po
  by_cases e : s.cnt = s.alw
  · rw [if_pos e]
    obtain ⟨nm, st, lo, mid, hi, has, le0, le1⟩ := h.wb
    have h1 := wb_alw s
    have h2 := h.st
    rw [wb_cnt] at lo
    exact ⟨nm, st, (by show 0 ≤ s.cnt + 1; omega), (by show s.cnt + 1 ≤ s.wb.alw; omega), hi, has, le0, le1⟩
  · rw [if_neg e]
    obtain ⟨nm, st, lo, mid, hi, has, le0, le1⟩ := h
    exact ⟨nm, st, (by show 0 ≤ s.cnt + 1; omega), (by show s.cnt + 1 ≤ s.alw; omega), hi, has, le0, le1⟩
theorem PBok.co {s : PB} (h : PBok s) : PBok s.co := by
  obtain ⟨nm, st, lo, mid, hi, has, le0, le1⟩ := h
  exact ⟨nm, st, (by show 0 ≤ s.alw; omega), (by show s.alw ≤ s.alw; omega), hi, has, le0, le1⟩
theorem PBok.ct {s : PB} (h : PBok s) : PBok s.ct := by
  unfold PB.ct
  split
  · next e =>
    obtain ⟨nm, st, lo, mid, hi, has, le0, le1⟩ := h
    split
    · next e2 => exact ⟨nm, st, lo, mid, hi, Or.inl e2, le0, (fun c hc => by cases hc)⟩
    · next e2 => exact ⟨nm, st, lo, mid, hi, Or.inr (has.resolve_left e2), (fun c hc => by cases hc), le1⟩
  · exact h.co
theorem co_name (s : PB) : s.co.name = s.name := rfl
theorem ct_name (s : PB) : s.ct.name = s.name := by
  unfold PB.ct
  split
  · split <;> rfl
  · rfl
theorem PBok.new {name : Str} {step : Int} (h : IsNm name) (hs : 1 ≤ step ∧ step ≤ 64) : PBok (.new name step) :=
  ⟨h, hs, Int.le_refl 0, Int.le_refl 0, (by show (0 : Int) ≤ 4096; decide), Or.inl rfl, (fun c hc => by have e := Option.some.inj hc; show 0 ≤ c ∧ c ≤ 0; omega), (fun c hc => by cases hc)⟩
theorem lp0 : ([] : List (Str × V)).length ≤ 0 := Nat.le_refl 0
theorem lp {f : Str} {v : V} {fs : List (Str × V)} {n : Nat} (h : fs.length ≤ n) : (putF f v fs).length ≤ n + 1 := Nat.le_trans (length_putF f v fs) (Nat.succ_le_succ h)
def cellV : Option Int → V
  | none => .non
  | some i => .int i
/-- where a button stands, and its numbers -/
structure BtnR where
  p : Addr
  dx : Addr
  t : Addr
  k : Addr
  cl : Addr
  s : PB
def BtnR.V (b : BtnR) : ButtonV := ⟨.str b.s.name, .ref b.t, .ref b.k, .int 0, .int b.s.step, .int b.s.cnt, .int b.s.alw, .ref b.cl⟩
structure BtnAt (K : PySem.W.Frag) (H : Hp) (tab key : List Int) (b : BtnR) : Prop where
  ob : H b.p = some (.ins (He.ga K "Button") b.dx (fButton b.V))
  tb : H b.t = some (.tup (tab.map V.int))
  ky : H b.k = some (.tup (key.map V.int))
  ce : H b.cl = some (.lst [cellV b.s.c0, cellV b.s.c1])
  ok : PBok b.s
/-- all stays but two objects -/
def Fr2 (a b : Addr) (H H' : Hp) : Prop := ∀ c o, H c = some o → c ≠ a → c ≠ b → H' c = some o
theorem Fr2.of {a b : Addr} {H H' : Hp} (s : Same H H') : Fr2 a b H H' := fun c o h _ _ => s c o h
theorem Fr2.trans {a b : Addr} {H H' H'' : Hp} (s : Fr2 a b H H') (t : Fr2 a b H' H'') : Fr2 a b H H'' := fun c o h n m => t c o (s c o h n m) n m
section
variable {P : Program} {w : World} {K : PySem.W.Frag} {mg : Str → Option Value} {base : Heap}
theorem BtnAt.same {H H' : Hp} {tab key : List Int} {b : BtnR} (h : BtnAt K H tab key b) (s : Same H H') : BtnAt K H' tab key b := ⟨s _ _ h.ob, s _ _ h.tb, s _ _ h.ky, s _ _ h.ce, h.ok⟩
theorem BtnAt.ne {H : Hp} {tab key : List Int} {b : BtnR} (h : BtnAt K H tab key b) : b.p ≠ b.cl ∧ b.t ≠ b.p ∧ b.t ≠ b.cl ∧ b.k ≠ b.p ∧ b.k ≠ b.cl :=
  ⟨ne_of h.ob h.ce (by intro z; cases z), ne_of h.tb h.ob (by intro z; cases z), ne_of h.tb h.ce (by intro z; cases z), ne_of h.ky h.ob (by intro z; cases z), ne_of h.ky h.ce (by intro z; cases z)⟩
theorem scal_cell (c : Option Int) (i : Int) : scal (cellV c) (.int i) = true := by cases c <;> rfl
theorem cell_eq (c : Option Int) (i : Int) : decide (cellV c = V.int i) = decide (c = some i) := by
  cases c with
  | none => rfl
  | some j =>
    by_cases e : j = i
    · subst e
      exact (decide_eq_true (rfl : V.int j = V.int j)).trans (decide_eq_true (rfl : some j = some j)).symm
    · exact (decide_eq_false (fun h : V.int j = V.int i => e (V.int.inj h))).trans (decide_eq_false (fun h : some j = some i => e (Option.some.inj h))).symm
def spBtnInit (K : PySem.W.Frag) : Sp := fun vs H Q _ => ∃ (p dx t k : Addr) (tab key : List Int) (name : Str) (step : Int), vs = [.ref p, .str name, .ref t, .ref k, .int 0, .int step] ∧ H p = some (.ins (He.ga K "Button") dx []) ∧
  H t = some (.tup (tab.map V.int)) ∧ H k = some (.tup (key.map V.int)) ∧ IsNm name ∧ (1 ≤ step ∧ step ≤ 64) ∧
  ∀ (cl : Addr) (H' : Hp), H cl = none → BtnAt K H' tab key ⟨p, dx, t, k, cl, .new name step⟩ → (∀ b o, H b = some o → b ≠ p → H' b = some o) → Q .non H'
abbrev N_Button_Init : List Str := ["self", "name", "table", "key", "age", "step"]
theorem sc_Button_Init : FnScope N_Button_Init ["self", "name", "table", "key", "age", "step"] (defScope s_Button_Init) := ⟨rfl, rfl, rfl, by decide +kernel, rfl, by decide +kernel, by decide +kernel⟩
theorem c_Button_Init (T : Tx P w K mg base) : CalI P w K mg base (He.ga K "Button") 1 ["self", "name", "table", "key", "age", "step"] (spBtnInit K) := by
  refine calI_mk T.df_Button_Init T.mk_Button sc_Button_Init (fun _ _ _ _ _ _ us hl => match us, hl with | [_, _, _, _, _, _], _ => rfl) ?len (fun f cdv A outer s H vs Q E hr h => ?body)
  case len => walk_at "len"
  have nd := sc_Button_Init.nd
  refine ⟨_, (pss_cons (ps_fld (pv 0) (pv 1) rfl)
    (pss_cons (ps_fld (pv 0) (pe_callTy (T := "tuple") call_tuple_of (by rfl) T.f_tuple (by decide +kernel) (pa_cons (pv 2) pa_nil)) rfl)
    (pss_cons (ps_fld (pv 0) (pe_callTy (T := "tuple") call_tuple_of (by rfl) T.f_tuple (by decide +kernel) (pa_cons (pv 3) pa_nil)) rfl)
    (pss_cons (ps_fld (pv 0) (pv 4) rfl)
    (pss_cons (ps_fld (pv 0) (pv 5) rfl)
    (pss_cons (ps_fld (pv 0) pe_int rfl)
    (pss_cons (ps_fld (pv 0) pe_int rfl)
    (pss_one (ps_fld (pv 0) (pe_lst (pa_cons pe_int (pa_cons pe_non pa_nil))) rfl))))))))), ?_⟩
  obtain ⟨p, dx, t, k, tab, key, name, step, rfl, hp, ht, hk, hnm, hst, q⟩ := h
  have npt : t ≠ p := ne_of ht hp (by intro z; cases z)
  have npk : k ≠ p := ne_of hk hp (by intro z; cases z)
  refine ⟨_, rfl, _, rfl, p, _, dx, _, rfl, hp, T.cls_Button, T.na_Button_own_name, (Nat.lt_of_le_of_lt (lp0) (by decide)), ?_⟩
  refine ⟨_, rfl, t, _, rfl, Or.inr ⟨SqT.of ((upd_ne npt).trans ht), _, rfl, p, _, dx, _, rfl, upd_same, T.cls_Button, T.na_Button_own_table, (Nat.lt_of_le_of_lt (lp (lp0)) (by decide)), ?_⟩⟩
  rw [upd_upd]
  refine ⟨_, rfl, k, _, rfl, Or.inr ⟨SqT.of ((upd_ne npk).trans hk), _, rfl, p, _, dx, _, rfl, upd_same, T.cls_Button, T.na_Button_own_key, (Nat.lt_of_le_of_lt (lp (lp (lp0))) (by decide)), ?_⟩⟩
  rw [upd_upd]
  refine ⟨_, rfl, _, rfl, p, _, dx, _, rfl, upd_same, T.cls_Button, T.na_Button_own_age, (Nat.lt_of_le_of_lt (lp (lp (lp (lp0)))) (by decide)), ?_⟩
  rw [upd_upd]
  refine ⟨_, rfl, _, rfl, p, _, dx, _, rfl, upd_same, T.cls_Button, T.na_Button_own_step, (Nat.lt_of_le_of_lt (lp (lp (lp (lp (lp0))))) (by decide)), ?_⟩
  rw [upd_upd]
  refine ⟨_, rfl, p, _, dx, _, rfl, upd_same, T.cls_Button, T.na_Button_so_many, (Nat.lt_of_le_of_lt (lp (lp (lp (lp (lp (lp0)))))) (by decide)), ?_⟩
  rw [upd_upd]
  refine ⟨_, rfl, p, _, dx, _, rfl, upd_same, T.cls_Button, T.na_Button_allowed, (Nat.lt_of_le_of_lt (lp (lp (lp (lp (lp (lp (lp0))))))) (by decide)), ?_⟩
  rw [upd_upd]
  refine ⟨by show 2 ≤ sizeLine; decide, fun cl hcl => ?_⟩
  have npc : p ≠ cl := fun e => by rw [e, upd_same] at hcl; cases hcl
  have hcl0 : H cl = none := by rw [upd_ne npc.symm] at hcl; exact hcl
  refine ⟨_, rfl, p, _, dx, _, rfl, (upd_ne npc).trans upd_same, T.cls_Button, T.na_Button_cells, (Nat.lt_of_le_of_lt (lp (lp (lp (lp (lp (lp (lp (lp0)))))))) (by decide)), ?_⟩
  refine q cl _ hcl0 ⟨upd_same, ?_, ?_, ?_, .new hnm hst⟩ fun b o hb hbp => ?_
  · rw [upd_ne npt, upd_ne (ne_of_none ht hcl0), upd_ne npt]; exact ht
  · rw [upd_ne npk, upd_ne (ne_of_none hk hcl0), upd_ne npk]; exact hk
  · rw [upd_ne npc.symm]; exact upd_same
  · rw [upd_ne hbp, upd_ne (ne_of_none hb hcl0), upd_ne hbp]; exact hb
def spBtnNext (K : PySem.W.Frag) : Sp := fun vs H Q _ => ∃ (b : BtnR) (tab key : List Int), vs = [.ref b.p] ∧ BtnAt K H tab key b ∧ Q (.int (if b.s.c0 = some b.s.alw then 1 else 0)) H
abbrev N_Button_WrittenNext : List Str := ["self"]
theorem sc_Button_WrittenNext : FnScope N_Button_WrittenNext ["self"] (defScope s_Button_WrittenNext) := ⟨rfl, rfl, rfl, by decide +kernel, rfl, by decide +kernel, by decide +kernel⟩
theorem c_Button_WrittenNext (T : Tx P w K mg base) : CalM P w K mg base (He.ga K "Button") "written_next" 1 ["self"] (spBtnNext K) := by
  refine calM_mk T.df_Button_WrittenNext T.m_Button_WrittenNext sc_Button_WrittenNext (fun _ _ _ _ _ _ us hl => match us, hl with | [_], _ => rfl) ?len (fun f cdv A outer s H vs Q E hr h => ?body)
  case len => walk_at "len"
  have nd := sc_Button_WrittenNext.nd
  refine ⟨_, (pss_one (ps_ret (pe_callTy (T := "int") call_int1 (by rfl) T.f_int (by decide +kernel) (pa_cons (pe_cmpR op_eq (pe_ix ix_list (pe_at T.cls_Button T.na_Button_cells lk_Button_cells (pv 0)) pe_int (fun _ _ => rfl)) (pe_at T.cls_Button T.na_Button_allowed lk_Button_allowed (pv 0)) (nomark _)) pa_nil)))), ?_⟩
  obtain ⟨b, tab, key, rfl, hb, q⟩ := h
  refine ⟨_, rfl, _, _, b.V, rfl, hb.ob, b.cl, _, _, _, rfl, rfl, SqL.of hb.ce, rfl, _, rfl, _, _, b.V, rfl, hb.ob, scal_cell _ _, Or.inr ⟨_, rfl, ?_⟩⟩
  show Q (.int (if decide (cellV b.s.c0 = V.int b.s.alw) = true then 1 else 0)) H
  rw [cell_eq]
  by_cases e : b.s.c0 = some b.s.alw
  · rw [if_pos e] at q
    rw [decide_eq_true e]
    exact q
  · rw [if_neg e] at q
    rw [decide_eq_false e]
    exact q
def spBtnVoid (K : PySem.W.Frag) (f : PB → PB) : Sp := fun vs H Q _ => ∃ (b : BtnR) (tab key : List Int), vs = [.ref b.p] ∧ BtnAt K H tab key b ∧ ∀ H', Fr2 b.p b.cl H H' → BtnAt K H' tab key { b with s := f b.s } → Q .non H'
abbrev N_Button_WriteBound : List Str := ["self", "place"]
theorem sc_Button_WriteBound : FnScope N_Button_WriteBound ["self"] (defScope s_Button_WriteBound) := ⟨rfl, rfl, rfl, by decide +kernel, rfl, by decide +kernel, by decide +kernel⟩
theorem c_Button_WriteBound (T : Tx P w K mg base) : CalM P w K mg base (He.ga K "Button") "write_bound" 2 ["self"] (spBtnVoid K PB.wb) := by
  refine calM_mk T.df_Button_WriteBound T.m_Button_WriteBound sc_Button_WriteBound (fun _ _ _ _ _ _ us hl => match us, hl with | [_], _ => rfl) ?len (fun f cdv A outer s H vs Q E hr h => ?body)
  case len => walk_at "len"
  have nd := sc_Button_WriteBound.nd
  refine ⟨_, (pss_cons (ps_set (i := 1) nd rfl (Or.inl rfl) (pe_mt0 (c_Button_WrittenNext T) T.cls_Button lm_Button_WrittenNext (hr.mono (by decide)) (pv 0)))
    (pss_cons (ps_at T.cls_Button T.na_Button_allowed pf_Button_allowed lz_Button (pv 0) (pe_callB (call_min2 rfl) (by rfl) T.f_min (by decide +kernel) (pa_cons (pe_op op_add (pe_at T.cls_Button T.na_Button_allowed lk_Button_allowed (pv 0)) (pe_at T.cls_Button T.na_Button_own_step lk_Button_own_step (pv 0))) (pa_cons (pe_gi T.i_MOST_COUNT_buttons) pa_nil))))
    (pss_one (ps_asg (pe_at T.cls_Button T.na_Button_allowed lk_Button_allowed (pv 0)) (pg_sub (pe_at T.cls_Button T.na_Button_cells lk_Button_cells (pv 0)) (pv 1) set_list))))), ?_⟩
  obtain ⟨b, tab, key, rfl, hb, q⟩ := h
  obtain ⟨n1, n2, n3, n4, n5⟩ := hb.ne
  refine ⟨_, rfl, _, _, b.V, rfl, hb.ob, b, tab, key, rfl, hb, ?_⟩
  refine ⟨_, rfl, _, _, b.V, rfl, hb.ob, _, rfl, _, _, b.V, rfl, hb.ob, _, _, rfl, rfl, _, _, rfl, _, rfl, _, _, b.V, rfl, hb.ob, ?_⟩
  have em : (if (4096 : Int) < b.s.alw + b.s.step then (4096 : Int) else b.s.alw + b.s.step) = min (b.s.alw + b.s.step) 4096 := by
    split <;> omega
  refine ⟨_, rfl, _, _, _, rfl, upd_same, _, rfl, _, _, _, rfl, upd_same, ?_⟩
  have hce : ∀ o, upd H b.p o b.cl = some (.lst [cellV b.s.c0, cellV b.s.c1]) := fun o => (upd_ne n1.symm).trans hb.ce
  by_cases e : b.s.c0 = some b.s.alw
  · rw [if_pos e]
    refine ⟨_, rfl, b.cl, _, _, 1, rfl, rfl, hce _, rfl, ?_⟩
    refine q _ (fun c o h n m => by rw [upd_ne m, upd_ne n]; exact h) ⟨?_, ?_, ?_, ?_, hb.ok.wb⟩
    · rw [upd_ne n1, upd_same]
      unfold PB.wb
      rw [if_pos e]
      show some (HO.ins (He.ga K "Button") b.dx (fButton (pt_Button_allowed b.V (.int (if (4096 : Int) < b.s.alw + b.s.step then (4096 : Int) else b.s.alw + b.s.step))))) = _
      rw [em]
      rfl
    · rw [upd_ne n3, upd_ne n2]; exact hb.tb
    · rw [upd_ne n5, upd_ne n4]; exact hb.ky
    · rw [upd_same]
      unfold PB.wb
      rw [if_pos e]
      show some (HO.lst [cellV b.s.c0, V.int (if (4096 : Int) < b.s.alw + b.s.step then (4096 : Int) else b.s.alw + b.s.step)]) = _
      rw [em]
      rfl
  · rw [if_neg e]
    refine ⟨_, rfl, b.cl, _, _, 0, rfl, rfl, hce _, rfl, ?_⟩
    refine q _ (fun c o h n m => by rw [upd_ne m, upd_ne n]; exact h) ⟨?_, ?_, ?_, ?_, hb.ok.wb⟩
    · rw [upd_ne n1, upd_same]
      unfold PB.wb
      rw [if_neg e]
      show some (HO.ins (He.ga K "Button") b.dx (fButton (pt_Button_allowed b.V (.int (if (4096 : Int) < b.s.alw + b.s.step then (4096 : Int) else b.s.alw + b.s.step))))) = _
      rw [em]
      rfl
    · rw [upd_ne n3, upd_ne n2]; exact hb.tb
    · rw [upd_ne n5, upd_ne n4]; exact hb.ky
    · rw [upd_same]
      unfold PB.wb
      rw [if_neg e]
      show some (HO.lst [V.int (if (4096 : Int) < b.s.alw + b.s.step then (4096 : Int) else b.s.alw + b.s.step), cellV b.s.c1]) = _
      rw [em]
      rfl
def spBtnPress (K : PySem.W.Frag) : Sp := fun vs H Q _ => ∃ (b : BtnR) (tab key : List Int) (deed : Int), vs = [.ref b.p, .int deed] ∧ BtnAt K H tab key b ∧ IsTab tab ∧ key.length ≤ 8 ∧ b.s.cnt < 4096 ∧ (0 ≤ deed ∧ deed < 16) ∧
  ∀ (p : Addr) H', Fr2 b.p b.cl H H' → H p = none → BtnAt K H' tab key { b with s := b.s.po } → PrAt H' tab key p b.s.name b.s.cnt deed → Q (.ref p) H'
abbrev N_Button_PressOnce : List Str := ["self", "deed", "told"]
theorem sc_Button_PressOnce : FnScope N_Button_PressOnce ["self", "deed"] (defScope s_Button_PressOnce) := ⟨rfl, rfl, rfl, by decide +kernel, rfl, by decide +kernel, by decide +kernel⟩
theorem c_Button_PressOnce (T : Tx P w K mg base) : CalM P w K mg base (He.ga K "Button") "press_once" 4 ["self", "deed"] (spBtnPress K) := by
  refine calM_mk T.df_Button_PressOnce T.m_Button_PressOnce sc_Button_PressOnce (fun _ _ _ _ _ _ us hl => match us, hl with | [_, _], _ => rfl) ?len (fun f cdv A outer s H vs Q E hr h => ?body)
  case len => walk_at "len"
  have nd := sc_Button_PressOnce.nd
  refine ⟨_, (pss_cons (ps_if (pt_cmpR op_ge (pe_at T.cls_Button T.na_Button_so_many lk_Button_so_many (pv 0)) (pe_gi T.i_MOST_COUNT_buttons) (nomark _)) (pss_one ps_never) pss_nil)
    (pss_cons (ps_if (pt_cmpR op_eq (pe_at T.cls_Button T.na_Button_so_many lk_Button_so_many (pv 0)) (pe_at T.cls_Button T.na_Button_allowed lk_Button_allowed (pv 0)) (nomark _)) (pss_one (ps_expr (pe_mt0 (c_Button_WriteBound T) T.cls_Button lm_Button_WriteBound (hr.mono (by decide)) (pv 0)))) pss_nil)
    (pss_cons (ps_set (i := 2) nd rfl (Or.inl rfl) (pe_c (c_pressOf T) (hr.mono (by decide)) (pa_cons (pe_at T.cls_Button T.na_Button_own_table lk_Button_own_table (pv 0)) (pa_cons (pe_at T.cls_Button T.na_Button_own_key lk_Button_own_key (pv 0)) (pa_cons (pe_at T.cls_Button T.na_Button_own_name lk_Button_own_name (pv 0)) (pa_cons (pe_at T.cls_Button T.na_Button_own_age lk_Button_own_age (pv 0)) (pa_cons (pe_at T.cls_Button T.na_Button_so_many lk_Button_so_many (pv 0)) (pa_cons (pv 1) pa_nil))))))))
    (pss_cons (ps_atAdd T.cls_Button T.na_Button_so_many lk_Button_so_many pf_Button_so_many lz_Button (pv 0) pe_int)
    (pss_one (ps_ret (pv 2))))))), ?_⟩
  obtain ⟨b, tab, key, deed, rfl, hb, hT, hl, hc, hdd, q⟩ := h
  obtain ⟨n1, n2, n3, n4, n5⟩ := hb.ne
  refine ⟨_, rfl, _, _, b.V, rfl, hb.ob, _, _, rfl, rfl, _, rfl, ?_⟩
  refine ifND (by show ¬ (4096 : Int) ≤ b.s.cnt; omega) ?_
  refine ⟨_, rfl, _, _, b.V, rfl, hb.ob, _, rfl, _, _, b.V, rfl, hb.ob, rfl, _, rfl, ?_⟩
  have rest : ∀ (s1 : PB) (H1 : Hp), Fr2 b.p b.cl H H1 → BtnAt K H1 tab key { b with s := s1 } → s1.name = b.s.name → s1.cnt = b.s.cnt → b.s.po = { s1 with cnt := b.s.cnt + 1 } →
      ∀ t : TS, t = tSeq (tAsg (tCall (spPressOf K) [] E0 (tCons (tAt (He.ga K "Button") fButton ButtonV.own_table (tVar 0)) (tCons (tAt (He.ga K "Button") fButton ButtonV.own_key (tVar 0)) (tCons (tAt (He.ga K "Button") fButton ButtonV.own_name (tVar 0)) (tCons (tAt (He.ga K "Button") fButton ButtonV.own_age (tVar 0)) (tCons (tAt (He.ga K "Button") fButton ButtonV.so_many (tVar 0)) (tCons (tVar 1) tNil))))))) (gName 2))
        (tSeq (tStAdd (He.ga K "Button") fButton ButtonV.so_many pt_Button_so_many (tVar 0) (tC (.int 1))) (tRet (tVar 2))) →
      t { nx := fun _ H' => Q .non H', rt := Q } [some (.ref b.p), some (.int deed), none] H1 := by
    rintro s1 H1 f1 hb1 en ec ep t rfl
    have hok := hb1.ok
    refine ⟨_, rfl, _, _, _, rfl, hb1.ob, _, rfl, _, _, _, rfl, hb1.ob, _, rfl, _, _, _, rfl, hb1.ob, _, rfl, _, _, _, rfl, hb1.ob, _, rfl, _, _, _, rfl, hb1.ob, _, rfl, ?_⟩
    refine ⟨b.t, b.k, tab, key, s1.name, 0, s1.cnt, deed, rfl, SqT.of hb1.tb, SqT.of hb1.ky, hT, hl, hok.nm, hok.lo, by rw [ec]; exact hc, hdd, fun p c H2 s2 hp0 hp hc2 => ?_⟩
    have hb2 := hb1.same s2
    refine ⟨_, rfl, _, _, _, rfl, hb2.ob, _, _, rfl, rfl, _, _, hb2.ob, ?_⟩
    have npb : p ≠ b.p := fun e => by rw [e, hb1.ob] at hp0; cases hp0
    have npl : p ≠ b.cl := fun e => by rw [e, hb1.ce] at hp0; cases hp0
    have hf0 : H p = none := by
      cases e : H p with
      | none => rfl
      | some o =>
        rw [f1 p o e npb npl] at hp0
        cases hp0
    refine ⟨_, rfl, q p _ (fun c o h n m => by rw [upd_ne n]; exact s2 _ _ (f1 c o h n m)) hf0 ⟨?_, ?_, ?_, ?_, hb.ok.po hc⟩ ?_⟩
    · rw [upd_same]
      show some (HO.ins (He.ga K "Button") b.dx (fButton (pt_Button_so_many (BtnR.V { b with s := s1 }) (.int (s1.cnt + 1))))) = some (HO.ins (He.ga K "Button") b.dx (fButton (BtnR.V { b with s := b.s.po })))
      rw [ep, ec]
      rfl
    · rw [upd_ne n2]; exact hb2.tb
    · rw [upd_ne n4]; exact hb2.ky
    · rw [upd_ne n1.symm]
      show H2 b.cl = some (.lst [cellV b.s.po.c0, cellV b.s.po.c1])
      rw [ep]
      exact hb2.ce
    · have ncb : c ≠ b.p := ne_of hc2 hb2.ob (by intro z; cases z)
      have g := And.intro hp hc2
      rw [en, ec] at g
      exact ⟨⟨c, (upd_ne npb).trans g.1, (upd_ne ncb).trans g.2⟩, by rw [← en]; exact hok.nm, hb.ok.lo, hc, hdd⟩
  by_cases e : b.s.cnt = b.s.alw
  · refine ifD (congrArg V.int e) ?_
    refine ⟨_, rfl, _, _, b.V, rfl, hb.ob, b, tab, key, rfl, hb, fun H1 f1 hb1 => ?_⟩
    exact rest b.s.wb H1 f1 hb1 (wb_name _) (wb_cnt _) (by unfold PB.po; rw [if_pos e]) _ rfl
  · refine ifND (fun z => e (V.int.inj z)) ?_
    exact rest b.s H (Fr2.of (Same.refl H)) hb rfl rfl (by unfold PB.po; rw [if_neg e]) _ rfl
theorem pick_more {cs : List (Option Int)} {i : Nat} {c : Option Int} (h : cs[i]? = some c) : (cs.take (i + 1)).filterMap id = (cs.take i).filterMap id ++ c.toList := by
  rw [take_more h, List.filterMap_append]
  cases c <;> rfl
abbrev N_Button_CellOut : List Str := ["self", "cell"]
theorem sc_Button_CellOut : FnScope N_Button_CellOut ["self"] (defScope s_Button_CellOut) := ⟨rfl, rfl, rfl, by decide +kernel, rfl, by decide +kernel, by decide +kernel⟩
theorem c_Button_CellOut (T : Tx P w K mg base) : CalM P w K mg base (He.ga K "Button") "cell_out" 1 ["self"] (spBtnVoid K PB.co) := by
  refine calM_mk T.df_Button_CellOut T.m_Button_CellOut sc_Button_CellOut (fun _ _ _ _ _ _ us hl => match us, hl with | [_], _ => rfl) ?len (fun f cdv A outer s H vs Q E hr h => ?body)
  case len => walk_at "len"
  have nd := sc_Button_CellOut.nd
  refine ⟨_, (pss_cons (ps_at T.cls_Button T.na_Button_allowed pf_Button_allowed lz_Button (pv 0) (pe_callB (cr_max rfl) (by rfl) T.f_max (by decide +kernel) (pa_cons (pe_lc (own := [("cell", 1)]) (g := gName 1) rfl nd (pi_list (pe_at T.cls_Button T.na_Button_cells lk_Button_cells (pv 0))) (blkOk_by (own := [("cell", 1)]) (N := N_Button_CellOut) (sc := defScope s_Button_CellOut) (by decide +kernel)) (fun _ _ _ _ _ => (pg_name (i := 1) nd rfl (Or.inl rfl))) (fun _ _ _ _ _ => (pts_one (pt_cmp (pc_notN (pv 1))))) (fun _ _ _ _ _ => (pv 1))) pa_nil)))
    (pss_one (ps_at T.cls_Button T.na_Button_so_many pf_Button_so_many lz_Button (pv 0) (pe_at T.cls_Button T.na_Button_allowed lk_Button_allowed (pv 0))))), ?_⟩
  obtain ⟨b, tab, key, rfl, hb, q⟩ := h
  obtain ⟨n1, n2, n3, n4, n5⟩ := hb.ne
  refine ⟨_, rfl, _, _, b.V, rfl, hb.ob, b.cl, rfl, ⟨_, SqL.of hb.ce⟩, fun D hD => lc_list (K := K) (a := b.cl) (xs := [cellV b.s.c0, cellV b.s.c1]) (fun i H' => Same H H' ∧ H' D = some (.lst ((([b.s.c0, b.s.c1].take i).filterMap id).map V.int))) ⟨same_new hD, upd_same⟩ (fun i H' _ p => p.1.seq (SqL.of hb.ce)) (fun i x H1 hi p => ⟨rfl, ?_⟩) (fun H1 p => ?_)⟩
  · obtain ⟨c, hc, rfl⟩ : ∃ c, [b.s.c0, b.s.c1][i]? = some c ∧ x = cellV c := by
      match i, hi with
      | 0, hi => exact ⟨_, rfl, (Option.some.inj hi).symm⟩
      | 1, hi => exact ⟨_, rfl, (Option.some.inj hi).symm⟩
    have e2 := pick_more hc
    refine ⟨_, rfl, _, rfl, ?_⟩
    cases c with
    | none =>
      refine ifF rfl ?_
      rw [e2]
      exact ⟨p.1, by rw [p.2]; show _ = some (HO.lst (List.map V.int (_ ++ []))); rw [List.append_nil]⟩
    | some j =>
      refine ifT rfl ?_
      refine ⟨_, rfl, _, p.2, ?_, same_mut p.1 hD, ?_⟩
      · rw [List.length_map]
        have := List.length_filterMap_le id ([b.s.c0, b.s.c1].take i)
        rw [List.length_take] at this
        exact sz_lt (by have : ([b.s.c0, b.s.c1]).length = 2 := rfl; omega)
      · rw [e2, List.map_append]
        exact upd_same
  · have hns : ([b.s.c0, b.s.c1].take [cellV b.s.c0, cellV b.s.c1].length).filterMap id = [b.s.c0, b.s.c1].filterMap id := rfl
    rw [hns] at p
    have hin : b.s.alw ∈ [b.s.c0, b.s.c1].filterMap id := by
      rw [List.mem_filterMap]
      rcases hb.ok.has with h | h
      · exact ⟨_, List.mem_cons_self, h⟩
      · exact ⟨_, List.mem_cons_of_mem _ List.mem_cons_self, h⟩
    have hle : ∀ y, y ∈ [b.s.c0, b.s.c1].filterMap id → y ≤ b.s.alw := fun y hy => by
      obtain ⟨z, hz, e⟩ := List.mem_filterMap.mp hy
      rcases List.mem_cons.mp hz with h | h
      · exact (hb.ok.le0 y (h.symm.trans e)).2
      · exact (hb.ok.le1 y ((List.mem_singleton.mp h).symm.trans e)).2
    refine ⟨D, _, rfl, SqL.of p.2, List.length_pos_of_mem hin, fun m hm hmax => ?_⟩
    have em : m = b.s.alw := Int.le_antisymm (hle m hm) (hmax _ hin)
    subst em
    have hb1 := hb.same p.1
    refine ⟨_, rfl, _, _, b.V, rfl, hb1.ob, _, rfl, _, _, _, rfl, upd_same, _, rfl, _, _, _, rfl, upd_same, ?_⟩
    rw [upd_upd]
    refine q _ (fun c o h n m => by rw [upd_ne n]; exact p.1 _ _ h) ⟨upd_same, ?_, ?_, ?_, hb.ok.co⟩
    · rw [upd_ne n2]; exact hb1.tb
    · rw [upd_ne n4]; exact hb1.ky
    · rw [upd_ne n1.symm]; exact hb1.ce
abbrev N_Button_CellTorn : List Str := ["self"]
theorem sc_Button_CellTorn : FnScope N_Button_CellTorn ["self"] (defScope s_Button_CellTorn) := ⟨rfl, rfl, rfl, by decide +kernel, rfl, by decide +kernel, by decide +kernel⟩
theorem c_Button_CellTorn (T : Tx P w K mg base) : CalM P w K mg base (He.ga K "Button") "cell_torn" 2 ["self"] (spBtnVoid K PB.ct) := by
  refine calM_mk T.df_Button_CellTorn T.m_Button_CellTorn sc_Button_CellTorn (fun _ _ _ _ _ _ us hl => match us, hl with | [_], _ => rfl) ?len (fun f cdv A outer s H vs Q E hr h => ?body)
  case len => walk_at "len"
  have nd := sc_Button_CellTorn.nd
  refine ⟨_, (pss_cons (ps_if (PW.pt (pw_and (pt_cmpR op_eq (pe_at T.cls_Button T.na_Button_so_many lk_Button_so_many (pv 0)) (pe_at T.cls_Button T.na_Button_allowed lk_Button_allowed (pv 0)) (nomark _)) (pw_and1 (pt_cmpR op_lt (pe_at T.cls_Button T.na_Button_so_many lk_Button_so_many (pv 0)) (pe_gi T.i_MOST_COUNT_buttons) (nomark _))))) (pss_one (ps_asg pe_non (pg_sub (pe_at T.cls_Button T.na_Button_cells lk_Button_cells (pv 0)) (pe_mt0 (c_Button_WrittenNext T) T.cls_Button lm_Button_WrittenNext (hr.mono (by decide)) (pv 0)) set_list))) pss_nil)
    (pss_one (ps_expr (pe_mt0 (c_Button_CellOut T) T.cls_Button lm_Button_CellOut (hr.mono (by decide)) (pv 0))))), ?_⟩
  obtain ⟨b, tab, key, rfl, hb, q⟩ := h
  obtain ⟨n1, n2, n3, n4, n5⟩ := hb.ne
  refine ⟨_, rfl, _, _, b.V, rfl, hb.ob, _, rfl, _, _, b.V, rfl, hb.ob, rfl, _, rfl, ?_⟩
  have fin : ∀ (s1 : PB) (H1 : Hp), Fr2 b.p b.cl H H1 → BtnAt K H1 tab key { b with s := s1 } → s1.co = b.s.ct → ∀ t : TS, t = tDrop (tMt (He.ga K "Button") fButton (spBtnVoid K PB.co) (tVar 0) tNil) → t { nx := fun _ H' => Q .non H', rt := Q } [some (.ref b.p)] H1 := by
    rintro s1 H1 f1 hb1 es t rfl
    refine ⟨_, rfl, _, _, _, rfl, hb1.ob, { b with s := s1 }, tab, key, rfl, hb1, fun H2 f2 hb2 => ?_⟩
    refine q H2 (f1.trans f2) ?_
    rw [← es]
    exact hb2
  by_cases e : b.s.cnt = b.s.alw
  · refine ifD (congrArg V.int e) ?_
    refine ⟨_, rfl, _, _, b.V, rfl, hb.ob, _, _, rfl, rfl, _, rfl, ?_⟩
    by_cases e2 : b.s.cnt < 4096
    · refine ifD e2 ?_
      refine ⟨_, rfl, _, _, b.V, rfl, hb.ob, _, rfl, _, _, b.V, rfl, hb.ob, b, tab, key, rfl, hb, ?_⟩
      by_cases e3 : b.s.c0 = some b.s.alw
      · rw [if_pos e3]
        refine ⟨b.cl, _, _, 1, rfl, rfl, hb.ce, rfl, ?_⟩
        refine fin { b.s with c1 := none } _ (fun c o h n m => by rw [upd_ne m]; exact h) ⟨(upd_ne n1).trans hb.ob, (upd_ne n3).trans hb.tb, (upd_ne n5).trans hb.ky, upd_same, ?_⟩ ?_ _ rfl
        · have h := hb.ok.ct
          unfold PB.ct at h
          rw [if_pos ⟨e, e2⟩, if_pos e3] at h
          exact h
        · unfold PB.ct PB.co
          rw [if_pos ⟨e, e2⟩, if_pos e3]
          show (⟨b.s.name, b.s.step, b.s.alw, b.s.alw, b.s.c0, none⟩ : PB) = ⟨b.s.name, b.s.step, b.s.cnt, b.s.alw, b.s.c0, none⟩
          rw [e]
      · rw [if_neg e3]
        refine ⟨b.cl, _, _, 0, rfl, rfl, hb.ce, rfl, ?_⟩
        refine fin { b.s with c0 := none } _ (fun c o h n m => by rw [upd_ne m]; exact h) ⟨(upd_ne n1).trans hb.ob, (upd_ne n3).trans hb.tb, (upd_ne n5).trans hb.ky, upd_same, ?_⟩ ?_ _ rfl
        · have h := hb.ok.ct
          unfold PB.ct at h
          rw [if_pos ⟨e, e2⟩, if_neg e3] at h
          exact h
        · unfold PB.ct PB.co
          rw [if_pos ⟨e, e2⟩, if_neg e3]
          show (⟨b.s.name, b.s.step, b.s.alw, b.s.alw, none, b.s.c1⟩ : PB) = ⟨b.s.name, b.s.step, b.s.cnt, b.s.alw, none, b.s.c1⟩
          rw [e]
    · refine ifND e2 ?_
      refine fin b.s H (Fr2.of (Same.refl H)) hb ?_ _ rfl
      unfold PB.ct PB.co
      rw [if_neg (fun h => e2 h.2)]
  · refine ifND (fun z => e (V.int.inj z)) ?_
    refine fin b.s H (Fr2.of (Same.refl H)) hb ?_ _ rfl
    unfold PB.ct PB.co
    rw [if_neg (fun h => e h.1)]
def spBtnAge (K : PySem.W.Frag) : Sp := fun vs H Q _ => ∃ (b : BtnR) (tab key : List Int), vs = [.ref b.p] ∧ BtnAt K H tab key b ∧ Q (.int 0) H
abbrev N_Button_AgeNow : List Str := ["self"]
theorem sc_Button_AgeNow : FnScope N_Button_AgeNow ["self"] (defScope s_Button_AgeNow) := ⟨rfl, rfl, rfl, by decide +kernel, rfl, by decide +kernel, by decide +kernel⟩
theorem c_Button_AgeNow (T : Tx P w K mg base) : CalM P w K mg base (He.ga K "Button") "age_now" 1 ["self"] (spBtnAge K) := by
  refine calM_mk T.df_Button_AgeNow T.m_Button_AgeNow sc_Button_AgeNow (fun _ _ _ _ _ _ us hl => match us, hl with | [_], _ => rfl) ?len (fun f cdv A outer s H vs Q E hr h => ?body)
  case len => walk_at "len"
  have nd := sc_Button_AgeNow.nd
  refine ⟨_, (pss_one (ps_ret (pe_at T.cls_Button T.na_Button_own_age lk_Button_own_age (pv 0)))), ?_⟩
  obtain ⟨b, tab, key, rfl, hb, q⟩ := h
  exact ⟨_, rfl, _, _, b.V, rfl, hb.ob, q⟩
def spBtnCount (K : PySem.W.Frag) : Sp := fun vs H Q _ => ∃ (b : BtnR) (tab key : List Int), vs = [.ref b.p] ∧ BtnAt K H tab key b ∧ Q (.int b.s.cnt) H
abbrev N_Button_CountNow : List Str := ["self"]
theorem sc_Button_CountNow : FnScope N_Button_CountNow ["self"] (defScope s_Button_CountNow) := ⟨rfl, rfl, rfl, by decide +kernel, rfl, by decide +kernel, by decide +kernel⟩
theorem c_Button_CountNow (T : Tx P w K mg base) : CalM P w K mg base (He.ga K "Button") "count_now" 1 ["self"] (spBtnCount K) := by
  refine calM_mk T.df_Button_CountNow T.m_Button_CountNow sc_Button_CountNow (fun _ _ _ _ _ _ us hl => match us, hl with | [_], _ => rfl) ?len (fun f cdv A outer s H vs Q E hr h => ?body)
  case len => walk_at "len"
  have nd := sc_Button_CountNow.nd
  refine ⟨_, (pss_one (ps_ret (pe_at T.cls_Button T.na_Button_so_many lk_Button_so_many (pv 0)))), ?_⟩
  obtain ⟨b, tab, key, rfl, hb, q⟩ := h
  exact ⟨_, rfl, _, _, b.V, rfl, hb.ob, q⟩
def spBtnCells (K : PySem.W.Frag) : Sp := fun vs H Q _ => ∃ (b : BtnR) (tab key : List Int), vs = [.ref b.p] ∧ BtnAt K H tab key b ∧ ∀ (p : Addr) H', Same H H' → H' p = some (.tup [cellV b.s.c0, cellV b.s.c1]) → Q (.ref p) H'
abbrev N_Button_CellsNow : List Str := ["self"]
theorem sc_Button_CellsNow : FnScope N_Button_CellsNow ["self"] (defScope s_Button_CellsNow) := ⟨rfl, rfl, rfl, by decide +kernel, rfl, by decide +kernel, by decide +kernel⟩
theorem c_Button_CellsNow (T : Tx P w K mg base) : CalM P w K mg base (He.ga K "Button") "cells_now" 1 ["self"] (spBtnCells K) := by
  refine calM_mk T.df_Button_CellsNow T.m_Button_CellsNow sc_Button_CellsNow (fun _ _ _ _ _ _ us hl => match us, hl with | [_], _ => rfl) ?len (fun f cdv A outer s H vs Q E hr h => ?body)
  case len => walk_at "len"
  have nd := sc_Button_CellsNow.nd
  refine ⟨_, (pss_one (ps_ret (pe_callTy (T := "tuple") call_tuple_of (by rfl) T.f_tuple (by decide +kernel) (pa_cons (pe_at T.cls_Button T.na_Button_cells lk_Button_cells (pv 0)) pa_nil)))), ?_⟩
  obtain ⟨b, tab, key, rfl, hb, q⟩ := h
  exact ⟨_, rfl, _, _, b.V, rfl, hb.ob, b.cl, _, rfl, Or.inl ⟨SqL.of hb.ce, fun p hp => q p _ (same_new hp) upd_same⟩⟩
end
end K69
end
section
set_option Elab.async false
set_option linter.all false
set_option maxRecDepth 100000
set_option maxHeartbeats 4000000
local macro_rules | `(tactic| walk_at "len") => `(tactic| (intro vs H Q E h; first
  | (obtain ⟨e, _⟩ := h; subst e; rfl) | (obtain ⟨_, e, _⟩ := h; subst e; rfl) | (obtain ⟨_, _, e, _⟩ := h; subst e; rfl) | (obtain ⟨_, _, _, e, _⟩ := h; subst e; rfl) | (obtain ⟨_, _, _, _, e, _⟩ := h; subst e; rfl)
  | (obtain ⟨_, _, _, _, _, e, _⟩ := h; subst e; rfl) | (obtain ⟨_, _, _, _, _, _, e, _⟩ := h; subst e; rfl) | (obtain ⟨_, _, _, _, _, _, _, e, _⟩ := h; subst e; rfl) | (obtain ⟨_, _, _, _, _, _, _, _, e, _⟩ := h; subst e; rfl)
  | (obtain ⟨_, _, _, _, _, _, _, _, _, e, _⟩ := h; subst e; rfl) | (obtain ⟨_, _, _, _, _, _, _, _, _, _, e, _⟩ := h; subst e; rfl) | (obtain ⟨_, _, _, _, _, _, _, _, _, _, _, e, _⟩ := h; subst e; rfl)))
local macro_rules | `(tactic| walk_at "hh") => `(tactic| first
  | assumption
  | exact L2.upd_same
  | (refine (L2.upd_ne (by walk_at "ne")).trans ?_; walk_at "hh")
  | (refine (‹L2.Same _ _› : L2.Same _ _) _ _ ?_; walk_at "hh"))
local macro_rules | `(tactic| walk_at "ne") => `(tactic| first
  | assumption
  | (apply Ne.symm; assumption)
  | exact L2.ne_of_none (by walk_at "hh") (by assumption)
  | exact (L2.ne_of_none (by walk_at "hh") (by assumption)).symm)
local macro_rules | `(tactic| walk_at "s") => `(tactic| first
  | refine ⟨_, rfl, ?_⟩
  | refine ⟨_, _, _, rfl, (by walk_at "hh"), ?_⟩
  | refine ⟨rfl, ?_⟩
  | refine ⟨_, _, rfl, rfl, ?_⟩)
local macro_rules | `(tactic| walk_at "isi int") => `(tactic| refine ⟨_, _, _, _, true, rfl, .ty "int", .base (.int _), L2.kit_ty (by decide +kernel), ?_⟩)
local macro_rules | `(tactic| walk_at "isi bool") => `(tactic| refine ⟨_, _, _, _, false, rfl, .ty "bool", .base (.int _), L2.kit_ty (by decide +kernel), ?_⟩)
local macro_rules | `(tactic| walk_at "isi tuple") => `(tactic| refine ⟨_, _, _, _, true, rfl, .ty "tuple", .base (.tup (by assumption)), L2.kit_ty (by decide +kernel), ?_⟩)
local macro_rules | `(tactic| walk_at "isi str") => `(tactic| refine ⟨_, _, _, _, true, rfl, .ty "str", .base (.str _), L2.kit_ty (by decide +kernel), ?_⟩)
local macro_rules | `(tactic| walk_at "v") => `(tactic| refine ⟨_, rfl, ?_⟩)
local macro_rules | `(tactic| walk_at "ii") => `(tactic| refine ⟨_, _, rfl, rfl, ?_⟩)
namespace K69
open PySem PySem.Spec PyProof.Rows L2
/-! ### a list or a tuple, walked -/
section
variable {X : Cx} {tg : Expr}
def rTupOf (K : PySem.W.Frag) : List V → Hp → VK → Prop := fun xs H Q => ∃ p ys, xs = [V.ref p] ∧ ((SqL K H p ys ∧ ∀ l, H l = none → Q (.ref l) (upd H l (.tup ys))) ∨ (SqT K H p ys ∧ Q (.ref p) H))
theorem call_tuple_ofK : CallR X (.type "tuple") (rTupOf X.K) := call_tuple_of
def iSeqK (K : PySem.W.Frag) (tl : TE) : TI := fun σ H R => tl σ H fun x H1 => ∃ (k : Bool) (a : Addr), x = .ref a ∧ (∃ xs, SqK k K H1 a xs) ∧ R (cond k (Itl K a) (Itt K a)) H1
theorem pi_seqK {l : Expr} {tl : TE} (hl : PE X l tl) : PI X tg l (iSeqK X.K tl) := by
  refine ⟨fun pins s σ H R I h => ?_⟩
  refine thn (hl.run pins s σ H _ I h) fun v s1 ⟨x, H1, I1, r1, q1⟩ => ?_
  obtain ⟨k, a, e, ⟨xs, hq⟩, q⟩ := q1
  subst e
  cases r1
  have fo : ∀ b, b ∈ [s1.heap.objs.size] → s1.heap.objs.size ≤ b := fun b hb => Nat.le_of_eq (List.mem_singleton.mp hb).symm
  cases k with
  | true =>
    obtain ⟨its, rv, p, hz⟩ := I1.list hq
    exact wpAny_pyIter_list p.isList ⟨s1.heap.objs.size, [s1.heap.objs.size], _, _, H1, rfl, I1.kept (t' := s1.toks) fun b o e => Heap.get?_push_of_some _ e, turn_list a _, ⟨_, Heap.get?_push_size _ rfl, rfl, rfl⟩, fun b hb => I1.fpOk (fo b hb) (I1.hok.fresh (fo b hb)), q⟩
  | false =>
    obtain ⟨its, rv, p, hz⟩ := I1.tuple hq
    exact wpAny_pyIter_tuple (show s1.heap.IsTuple a its.toArray from p) ⟨s1.heap.objs.size, [s1.heap.objs.size], _, _, H1, rfl, I1.kept (t' := s1.toks) fun b o e => Heap.get?_push_of_some _ e, turn_tuple a _, ⟨_, Heap.get?_push_size _ rfl, rfl, rfl⟩, fun b hb => I1.fpOk (fo b hb) (I1.hok.fresh (fo b hb)), q⟩
theorem lcm_seq {k : Bool} {K : PySem.W.Frag} {a : Addr} {xs : List V} {te : TE} {vs : List Nat} {σ : L2.St} {H1 : Hp} {D : Addr} {Qd : Hp → Prop} {j : Nat} (hx : SqK k K H1 a xs) (hD : H1 D = none) (hn : xs.length ≤ 10000) (hw : ∀ x, wipe ((wipe σ vs).set j (some x)) vs = wipe σ vs) (f : Nat → V)
    (hs : ∀ i x H, xs[i]? = some x → Same H1 H → ∀ Q : VK, (∀ H4, Same H H4 → Q (f i) H4) → te ((wipe σ vs).set j (some x)) H Q)
    (hd : ∀ H, Same H1 H → H D = some (.lst ((List.range xs.length).map f)) → Qd H) :
    ∃ W : Nat → Nat → Hp → Prop, (∃ m, W 0 m (upd H1 D (.lst []))) ∧ ∀ i m H, W i m H →
      ((cond k (Itl K a) (Itt K a)).stop i H ∧ Qd H) ∨ ((cond k (Itl K a) (Itt K a)).go i H ∧ ∃ Nx : Hp → Prop, (∀ H', Nx H' → ∃ m', m' < m ∧ W (i + 1) m' H') ∧ ∀ x H', (cond k (Itl K a) (Itt K a)).yld i H x H' → gName j x (wipe σ vs) H' fun σ2 H2 => wipe σ2 vs = wipe σ vs ∧ tYes σ2 H2 fun b H3 =>
        if b = true then te σ2 H3 fun y H4 => ∃ acc, H4 D = some (.lst acc) ∧ acc.length < sizeLine ∧ Nx (upd H4 D (.lst (acc ++ [y]))) else Nx H3) := by
  cases k with
  | true => exact lcm_list hx hD hn hw f hs hd
  | false => exact lcm_tup hx hD hn hw f hs hd
end
/-! ### lists of named things as dicts -/
section
variable {α : Type} (nm : α → Str) (ad : α → Addr)
def dk (l : List α) : List (Key × V) := l.map fun e => (Sum.inr (nm e), V.ref (ad e))
def fnd (l : List α) (z : Str) : Option α := l.find? fun e => decide (nm e = z)
def setN (l : List α) (z : Str) (e' : α) : List α := l.map fun x => if nm x = z then e' else x
variable {nm ad}
theorem fnd_ok {l : List α} {z : Str} {e : α} (h : fnd nm l z = some e) : e ∈ l ∧ nm e = z := ⟨List.mem_of_find?_eq_some h, of_decide_eq_true (List.find?_some (p := fun e => decide (nm e = z)) h)⟩
theorem fnd_no {l : List α} {z : Str} (h : fnd nm l z = none) : ∀ e, e ∈ l → nm e ≠ z := fun e he hz => by
  have := List.find?_eq_none.mp h e he
  exact this (decide_eq_true hz)
theorem val_dk (l : List α) (z : Str) : valV (dk nm ad l) (Sum.inr z) = (fnd nm l z).map fun e => V.ref (ad e) := by
  induction l with
  | nil => rfl
  | cons x r ih =>
    by_cases e : nm x = z
    · have h1 : fnd nm (x :: r) z = some x := by
        show List.find? _ (x :: r) = _
        rw [List.find?_cons, decide_eq_true e]
      rw [h1]
      exact valV_pos (p := (Sum.inr (nm x), V.ref (ad x))) (congrArg Sum.inr e)
    · have h1 : fnd nm (x :: r) z = fnd nm r z := by
        show List.find? _ (x :: r) = _
        rw [List.find?_cons, decide_eq_false e]
        rfl
      rw [h1, ← ih]
      exact valV_neg (p := (Sum.inr (nm x), V.ref (ad x))) (fun h => e (Sum.inr.inj h))
theorem put_old {l : List α} {z : Str} {e e' : α} (h : fnd nm l z = some e) (hz : nm e' = z) : putK (dk nm ad l) (Sum.inr z) (.ref (ad e')) = dk nm ad (setN nm l z e') := by
  unfold putK
  rw [valV_any, val_dk, h]
  refine (if_pos rfl).trans ?_
  unfold dk setN
  rw [List.map_map, List.map_map]
  refine List.map_congr_left fun x _ => ?_
  show (if (Sum.inr (nm x) : Key) = Sum.inr z then ((Sum.inr (nm x) : Key), V.ref (ad e')) else (Sum.inr (nm x), V.ref (ad x))) = (Sum.inr (nm (if nm x = z then e' else x)), V.ref (ad (if nm x = z then e' else x)))
  by_cases e : nm x = z
  · rw [if_pos e, if_pos (congrArg Sum.inr e), e, hz]
  · rw [if_neg e, if_neg (fun h => e (Sum.inr.inj h))]
theorem put_new {l : List α} {z : Str} {e' : α} (h : fnd nm l z = none) (hz : nm e' = z) : putK (dk nm ad l) (Sum.inr z) (.ref (ad e')) = dk nm ad (l ++ [e']) := by
  rw [putK_new _ (by rw [val_dk, h] <;> rfl)]
  unfold dk
  rw [List.map_append, ← hz] <;> rfl
theorem dk_len (l : List α) : (dk nm ad l).length = l.length := List.length_map ..
theorem dk_keys (l : List α) : (dk nm ad l).map (·.1) = (l.map nm).map Sum.inr := by
  unfold dk
  rw [List.map_map, List.map_map] <;> rfl
theorem setN_len (l : List α) (z : Str) (e' : α) : (setN nm l z e').length = l.length := List.length_map ..
theorem setN_nm (l : List α) (z : Str) (e' : α) (h : nm e' = z) : (setN nm l z e').map nm = l.map nm := by
  unfold setN
  rw [List.map_map]
  refine List.map_congr_left fun x _ => ?_
  show nm (if nm x = z then e' else x) = nm x
  split
  · next e => rw [h, e]
  · rfl
theorem mem_setN {l : List α} {z : Str} {e' x : α} (h : x ∈ setN nm l z e') : x = e' ∨ (x ∈ l ∧ nm x ≠ z) := by
  obtain ⟨y, hy, e⟩ := List.mem_map.mp h
  by_cases c : nm y = z
  · rw [if_pos c] at e
    exact .inl e.symm
  · rw [if_neg c] at e
    subst e
    exact .inr ⟨hy, c⟩
theorem nm_inj {l : List α} (hn : (l.map nm).Nodup) {x y : α} (hx : x ∈ l) (hy : y ∈ l) (e : nm x = nm y) : x = y := by
  induction l with
  | nil => cases hx
  | cons a r ih =>
    rw [List.map_cons, List.nodup_cons] at hn
    rcases List.mem_cons.mp hx with h1 | h1 <;> rcases List.mem_cons.mp hy with h2 | h2
    · rw [h1, h2]
    · subst h1
      exact absurd (e ▸ List.mem_map.mpr ⟨y, h2, rfl⟩) hn.1
    · subst h2
      exact absurd (e ▸ List.mem_map.mpr ⟨x, h1, rfl⟩) hn.1
    · exact ih hn.2 h1 h2
theorem fnd_mem {l : List α} (hn : (l.map nm).Nodup) {x : α} (hx : x ∈ l) : fnd nm l (nm x) = some x := by
  cases e : fnd nm l (nm x) with
  | none => exact absurd rfl (fnd_no e x hx)
  | some y =>
    obtain ⟨h1, h2⟩ := fnd_ok e
    rw [nm_inj hn h1 hx h2]
theorem fnd_perm {l m : List α} (hp : l.Perm m) (hn : (m.map nm).Nodup) (z : Str) : fnd nm l z = fnd nm m z := by
  have hnl : (l.map nm).Nodup := (hp.map nm).nodup_iff.mpr hn
  cases e : fnd nm m z with
  | none =>
    cases e2 : fnd nm l z with
    | none => rfl
    | some y =>
      obtain ⟨h1, h2⟩ := fnd_ok e2
      exact absurd h2 (fnd_no e y (hp.mem_iff.mp h1))
  | some y =>
    obtain ⟨h1, h2⟩ := fnd_ok e
    rw [← h2]
    exact fnd_mem hnl (hp.mem_iff.mpr h1)
theorem rng_get {β : Type} (l : List β) (d : β) : ((List.range l.length).map fun i => l.getD i d) = l := by
  refine List.ext_getElem (by simp) fun i h1 h2 => ?_
  simp [List.getD, h2]
end
/-! ### what holds of tuples -/
def TupK (H H' : Hp) : Prop := ∀ b xs, H b = some (.tup xs) → H' b = some (.tup xs)
theorem TupK.of {H H' : Hp} (s : Same H H') : TupK H H' := fun b _ h => s b _ h
theorem TupK.refl (H : Hp) : TupK H H := fun _ _ h => h
theorem TupK.trans {H H' H'' : Hp} (s : TupK H H') (t : TupK H' H'') : TupK H H'' := fun b xs h => t b xs (s b xs h)
theorem TupK.upd {H H' : Hp} {a : Addr} {o : HO} (s : TupK H H') (h : ∀ xs, H a ≠ some (.tup xs)) : TupK H (upd H' a o) := fun b xs e => by
  rw [upd_ne (fun z => h xs (by rw [← z]; exact e))]
  exact s b xs e
theorem Fr2.tk {a b : Addr} {H H' : Hp} (s : Fr2 a b H H') (ha : ∀ xs, H a ≠ some (.tup xs)) (hb : ∀ xs, H b ≠ some (.tup xs)) : TupK H H' := fun c xs h => s c _ h (fun e => ha xs (by rw [← e]; exact h)) (fun e => hb xs (by rw [← e]; exact h))
theorem PrAt.tk {H H' : Hp} {tab key : List Int} {p : Addr} {z : Str} {count deed : Int} (s : TupK H H') (h : PrAt H tab key p z count deed) : PrAt H' tab key p z count deed := by
  obtain ⟨⟨c, h1, h2⟩, h3, h4, h5, h6⟩ := h
  exact ⟨⟨c, s _ _ h1, s _ _ h2⟩, h3, h4, h5, h6⟩
/-! ### doors.py -/
/-- what a door keeps of a button: where, its name, the last count, the waiting one -/
structure Ent where
  a : Addr
  nm : Str
  last : Int
  w : Option (Addr × Int)
def Ent.wV (e : Ent) : V := match e.w with
  | none => .non
  | some p => .ref p.1
abbrev PE3 := Str × Int × Option Int
def Ent.pu (e : Ent) : PE3 := (e.nm, e.last, e.w.map Prod.snd)
structure EntAt (H : Hp) (e : Ent) : Prop where
  ob : H e.a = some (.tup [.int 0, .int e.last, e.wV])
  wa : ∀ p, e.w = some p → H p.1 = some (.tup [.int 0, .int p.2]) ∧ 0 ≤ p.2 ∧ p.2 < 4096
  lo : 0 ≤ e.last
  hi : e.last < 4096
  nmo : IsNm e.nm
theorem EntAt.tk {H H' : Hp} {e : Ent} (s : TupK H H') (h : EntAt H e) : EntAt H' e := ⟨s _ _ h.ob, fun p hp => ⟨s _ _ (h.wa p hp).1, (h.wa p hp).2⟩, h.lo, h.hi, h.nmo⟩
structure KeysAt (H : Hp) (key : List Int) (keys : List Addr) : Prop where
  len : keys.length ≤ 8
  k0 : ∃ k r, keys = k :: r ∧ H k = some (.tup (key.map V.int))
  all : ∀ a, a ∈ keys → ∃ ks : List Int, H a = some (.tup (ks.map V.int))
theorem KeysAt.tk {H H' : Hp} {key : List Int} {keys : List Addr} (s : TupK H H') (h : KeysAt H key keys) : KeysAt H' key keys := by
  obtain ⟨h1, ⟨k, r, e, h2⟩, h3⟩ := h
  exact ⟨h1, ⟨k, r, e, s _ _ h2⟩, fun a ha => (h3 a ha).elim fun ks e => ⟨ks, s _ _ e⟩⟩
structure DoorR where
  nm : Str
  p : Addr
  dx : Addr
  t : Addr
  kl : Addr
  bd : Addr
  en : Addr
  rw' : Addr
  op : Addr
  near : Int
  far : Int
  most : Int
  fk : Int
  keys : List Addr
  ents : List Ent
def DoorR.V (d : DoorR) : DoorV := ⟨.ref d.t, .ref d.kl, .ref d.bd, .int d.fk, .int 0, .ref d.en, .ref d.rw'⟩
structure DoorAt (K : PySem.W.Frag) (H : Hp) (tab key : List Int) (n : Nat) (d : DoorR) : Prop where
  ob : H d.p = some (.ins (He.ga K "Door") d.dx (fDoor d.V))
  tb : H d.t = some (.tup (tab.map V.int))
  kls : H d.kl = some (.lst (d.keys.map V.ref))
  bo : H d.bd = some (.tup [.int d.near, .int d.far, .int d.most])
  ens : H d.en = some (.dK (dk Ent.nm Ent.a d.ents))
  rws : ∃ xs, H d.rw' = some (.lst xs) ∧ xs.length ≤ n
  kz : KeysAt H key d.keys
  ent : ∀ e, e ∈ d.ents → EntAt H e
  nd : (d.ents.map Ent.nm).Nodup
  el : d.ents.length ≤ 12
  ne : d.kl ≠ d.rw'
section
variable {P : Program} {w : World} {K : PySem.W.Frag} {mg : Str → Option Value} {base : Heap}
theorem DoorAt.same {H H' : Hp} {tab key : List Int} {n : Nat} {d : DoorR} (h : DoorAt K H tab key n d) (s : Same H H') : DoorAt K H' tab key n d :=
  ⟨s _ _ h.ob, s _ _ h.tb, s _ _ h.kls, s _ _ h.bo, s _ _ h.ens, h.rws.elim fun xs e => ⟨xs, s _ _ e.1, e.2⟩, h.kz.tk (.of s), fun e he => (h.ent e he).tk (.of s), h.nd, h.el, h.ne⟩
theorem DoorAt.more {H : Hp} {tab key : List Int} {n m : Nat} {d : DoorR} (h : DoorAt K H tab key n d) (hm : n ≤ m) : DoorAt K H tab key m d :=
  ⟨h.ob, h.tb, h.kls, h.bo, h.ens, h.rws.elim fun xs e => ⟨xs, e.1, Nat.le_trans e.2 hm⟩, h.kz, h.ent, h.nd, h.el, h.ne⟩
/-- the entries and the rows changed -/
theorem DoorAt.put {H H' : Hp} {tab key : List Int} {n m : Nat} {d : DoorR} {es : List Ent} (h : DoorAt K H tab key n d) (f : Fr2 d.en d.rw' H H') (h1 : H' d.en = some (.dK (dk Ent.nm Ent.a es))) (h2 : ∃ xs, H' d.rw' = some (.lst xs) ∧ xs.length ≤ m)
    (h3 : ∀ e, e ∈ es → EntAt H' e) (h4 : (es.map Ent.nm).Nodup) (h5 : es.length ≤ 12) : DoorAt K H' tab key m { d with ents := es } := by
  obtain ⟨xs, hr, _⟩ := h.rws
  have tk : TupK H H' := f.tk (fun xs e => by rw [h.ens] at e; cases e) (fun xs e => by rw [hr] at e; cases e)
  have hr := hr
  exact ⟨f _ _ h.ob (ne_of h.ob h.ens (by intro z; cases z)) (ne_of h.ob hr (by intro z; cases z)), tk _ _ h.tb, f _ _ h.kls (ne_of h.kls h.ens (by intro z; cases z)) h.ne, tk _ _ h.bo, h1, h2, h.kz.tk tk, h3, h4, h5, h.ne⟩
theorem DoorAt.tkOf {H H' : Hp} {tab key : List Int} {n : Nat} {d : DoorR} (h : DoorAt K H tab key n d) (f : Fr2 d.en d.rw' H H') : TupK H H' := by
  obtain ⟨xs, hr, _⟩ := h.rws
  exact f.tk (fun xs e => by rw [h.ens] at e; cases e) (fun xs e => by rw [hr] at e; cases e)
def spDoorInit (K : PySem.W.Frag) : Sp := fun vs H Q _ => ∃ (p dx t kk : Addr) (tab key : List Int) (keys : List Addr) (near far most : Int), vs = [.ref p, .ref t, .ref kk, .int near, .int far, .int most] ∧ H p = some (.ins (He.ga K "Door") dx []) ∧ H t = some (.tup (tab.map V.int)) ∧
  (H kk = some (.lst (keys.map V.ref)) ∨ H kk = some (.tup (keys.map V.ref))) ∧ KeysAt H key keys ∧
  ∀ (nm : Str) (kl bd en rw' op : Addr) (fk : Int) (H' : Hp), H kl = none → H bd = none → H en = none → H rw' = none → DoorAt K H' tab key 0 ⟨nm, p, dx, t, kl, bd, en, rw', op, near, far, most, fk, keys, []⟩ → (∀ b o, H b = some o → b ≠ p → H' b = some o) → Q .non H'
abbrev N_Door_Init : List Str := ["self", "table", "keys", "near", "far", "most", "key"]
theorem sc_Door_Init : FnScope N_Door_Init ["self", "table", "keys", "near", "far", "most"] (defScope s_Door_Init) := ⟨rfl, rfl, rfl, by decide +kernel, rfl, by decide +kernel, by decide +kernel⟩
theorem c_Door_Init (T : Tx P w K mg base) : CalI P w K mg base (He.ga K "Door") 1 ["self", "table", "keys", "near", "far", "most"] (spDoorInit K) := by
  refine calI_mk T.df_Door_Init T.mk_Door sc_Door_Init (fun _ _ _ _ _ _ us hl => match us, hl with | [_, _, _, _, _, _], _ => rfl) ?len (fun f cdv A outer s H vs Q E hr h => ?body)
  case len => walk_at "len"
  have nd := sc_Door_Init.nd
  refine ⟨_, (pss_cons (ps_fld (pv 0) (pe_callTy (T := "tuple") call_tuple_of (by rfl) T.f_tuple (by decide +kernel) (pa_cons (pv 1) pa_nil)) rfl)
    (pss_cons (ps_fld (pv 0) (pe_lc (own := [("key", 6)]) (g := gName 6) (tt := tYes) rfl nd (pi_seqK (pv 2)) (blkOk_by (own := [("key", 6)]) (N := N_Door_Init) (sc := defScope s_Door_Init) (by decide +kernel)) (fun _ _ _ _ _ => (pg_name (i := 6) nd rfl (Or.inl rfl))) (fun _ _ _ _ _ => pts_nil) (fun _ _ _ _ _ => (pe_callTy (T := "tuple") (r := rTupOf K) call_tuple_ofK (by rfl) T.f_tuple (by decide +kernel) (pa_cons (pv 6) pa_nil)))) rfl)
    (pss_cons (ps_fld (pv 0) (pe_tup (pa_cons (pv 3) (pa_cons (pv 4) (pa_cons (pv 5) pa_nil)))) rfl)
    (pss_cons (ps_fld (pv 0) (pe_callB call_len_seq (by rfl) T.f_len (by decide +kernel) (pa_cons (pe_fld (pv 0) rfl) pa_nil)) rfl)
    (pss_cons (ps_fld (pv 0) pe_int rfl)
    (pss_cons (ps_fld (pv 0) pe_dnewK rfl)
    (pss_one (ps_fld (pv 0) (pe_lst pa_nil) rfl)))))))), ?_⟩
  obtain ⟨p, dx, t, kk, tab, key, keys, near, far, most, rfl, hp, ht, hkk, hk, q⟩ := h
  have npt : t ≠ p := ne_of ht hp (by intro z; cases z)
  have npk : kk ≠ p := by
    rcases hkk with e | e <;> exact ne_of e hp (by intro z; cases z)
  have tk0 : ∀ o, TupK H (upd H p o) := fun o => (TupK.refl H).upd (fun xs e => by rw [hp] at e; cases e)
  refine ⟨_, rfl, t, _, rfl, Or.inr ⟨SqT.of ht, _, rfl, p, _, dx, _, rfl, hp, T.cls_Door, T.na_Door_table, (Nat.lt_of_le_of_lt lp0 (by decide)), ?_⟩⟩
  generalize e1 : upd H p _ = H1
  have h1p : H1 p = some (.ins (He.ga K "Door") dx (putF "table" (.ref t) [])) := by rw [← e1]; exact upd_same
  have tk1 : TupK H H1 := by rw [← e1]; exact tk0 _
  have fr1 : ∀ b o, H b = some o → b ≠ p → H1 b = some o := fun b o hb hne => by rw [← e1, upd_ne hne]; exact hb
  have fn1 : ∀ b, H1 b = none → H b = none := fun b hb => by
    rw [← e1] at hb
    by_cases e : b = p
    · rw [e, upd_same] at hb; cases hb
    · rw [upd_ne e] at hb; exact hb
  clear e1
  obtain ⟨kb, hkb⟩ : ∃ kb, SqK kb K H1 kk (keys.map V.ref) := by
    rcases hkk with e | e
    · exact ⟨true, SqL.of (fr1 _ _ e npk)⟩
    · exact ⟨false, SqT.of (fr1 _ _ e npk)⟩
  refine ⟨_, rfl, kb, kk, rfl, ⟨_, hkb⟩, fun D hD => lcm_seq hkb hD (by rw [List.length_map]; have := hk.len; omega) (fun _ => rfl) (fun i => (keys.map V.ref).getD i .non) (fun i x H2 hi s2 Q2 k2 => ?_) (fun H2 s2 h2 => ?_)⟩
  · obtain ⟨a, ha, rfl⟩ := map_get hi
    obtain ⟨ks, he⟩ := hk.all a (List.mem_of_getElem? ha)
    have e : (keys.map V.ref).getD i .non = .ref a := by rw [List.getD, hi] <;> rfl
    rw [e] at k2
    exact ⟨_, rfl, a, _, rfl, Or.inr ⟨SqT.of (s2 _ _ (tk1 _ _ he)), k2 _ (Same.refl _)⟩⟩
  rw [rng_get] at h2
  refine ⟨_, rfl, p, _, dx, _, rfl, s2 _ _ h1p, T.cls_Door, T.na_Door_house_keys, (Nat.lt_of_le_of_lt (lp (lp0)) (by decide)), ?_⟩
  have npD : D ≠ p := fun e => by rw [e, h1p] at hD; cases hD
  have hDn := fn1 _ hD
  refine ⟨_, rfl, _, rfl, _, rfl, (by show 3 ≤ sizeLine; decide), fun bd hbd => ?_⟩
  have npb : bd ≠ p := fun e => by rw [e, upd_same] at hbd; cases hbd
  rw [upd_ne npb] at hbd
  have nDb : D ≠ bd := ne_of_none h2 hbd
  refine ⟨_, rfl, p, _, dx, _, rfl, (upd_ne npb.symm).trans upd_same, T.cls_Door, T.na_Door_bounds, (Nat.lt_of_le_of_lt (lp (lp (lp0))) (by decide)), ?_⟩
  refine ⟨_, rfl, p, _, dx, _, _, rfl, upd_same, T.cls_Door, T.na_Door_house_keys, (by kernel_rfl : _ = some (V.ref D)), _, _, rfl, Or.inl (SqL.of ((upd_ne npD).trans ((upd_ne nDb).trans ((upd_ne npD).trans h2)))), _, rfl, p, _, dx, _, rfl, upd_same, T.cls_Door, T.na_Door_first_keys, (Nat.lt_of_le_of_lt (lp (lp (lp (lp0)))) (by decide)), ?_⟩
  rw [upd_upd]
  refine ⟨_, rfl, p, _, dx, _, rfl, upd_same, T.cls_Door, T.na_Door_least_age, (Nat.lt_of_le_of_lt (lp (lp (lp (lp (lp0))))) (by decide)), ?_⟩
  rw [upd_upd]
  refine fun en hen => ?_
  have npe : en ≠ p := fun e => by rw [e, upd_same] at hen; cases hen
  rw [upd_ne npe] at hen
  have nbe : en ≠ bd := fun e => by rw [e, upd_same] at hen; cases hen
  rw [upd_ne nbe, upd_ne npe] at hen
  have nDe : D ≠ en := ne_of_none h2 hen
  refine ⟨_, rfl, p, _, dx, _, rfl, (upd_ne npe.symm).trans upd_same, T.cls_Door, T.na_Door_entries, (Nat.lt_of_le_of_lt (lp (lp (lp (lp (lp (lp0)))))) (by decide)), ?_⟩
  refine ⟨(by show 0 ≤ sizeLine; decide), fun rw' hrw => ?_⟩
  have npr : rw' ≠ p := fun e => by rw [e, upd_same] at hrw; cases hrw
  rw [upd_ne npr] at hrw
  have ner : rw' ≠ en := fun e => by rw [e, upd_same] at hrw; cases hrw
  rw [upd_ne ner, upd_ne npr] at hrw
  have nbr : rw' ≠ bd := fun e => by rw [e, upd_same] at hrw; cases hrw
  rw [upd_ne nbr, upd_ne npr] at hrw
  have nDr : D ≠ rw' := ne_of_none h2 hrw
  refine ⟨_, rfl, p, _, dx, _, rfl, (upd_ne npr.symm).trans upd_same, T.cls_Door, T.na_Door_rows, (Nat.lt_of_le_of_lt (lp (lp (lp (lp (lp (lp (lp0))))))) (by decide)), ?_⟩
  have keep : ∀ (o1 o2 o3 o4 o5 o6 o7 : HO) (b : Addr) (o : HO), H b = some o → b ≠ p → upd (upd (upd (upd (upd (upd (upd H2 p o1) bd o2) p o3) en o4) p o5) rw' o6) p o7 b = some o := by
    intro o1 o2 o3 o4 o5 o6 o7 b o hb hne
    have h2b := s2 _ _ (fr1 _ _ hb hne)
    rw [upd_ne hne, upd_ne (ne_of_none h2b hrw), upd_ne hne, upd_ne (ne_of_none h2b hen), upd_ne hne, upd_ne (ne_of_none h2b hbd), upd_ne hne]
    exact h2b
  have up : ∀ {b : Addr}, H2 b = none → H b = none := fun hb => fn1 _ (s2.free hb)
  have tkE : ∀ (o1 o2 o3 o4 o5 o6 o7 : HO), TupK H (upd (upd (upd (upd (upd (upd (upd H2 p o1) bd o2) p o3) en o4) p o5) rw' o6) p o7) := fun o1 o2 o3 o4 o5 o6 o7 b xs hb => keep _ _ _ _ _ _ _ b _ hb (ne_of hb hp (by intro z; cases z))
  refine q "" D bd en rw' p _ _ hDn (up hbd) (up hen) (up hrw) ⟨upd_same, tkE _ _ _ _ _ _ _ _ _ ht, ?_, ?_, ?_, ⟨[], ?_, Nat.le_refl _⟩, hk.tk (tkE _ _ _ _ _ _ _), (fun e he => by cases he), List.nodup_nil, Nat.zero_le _, nDr⟩ (keep _ _ _ _ _ _ _)
  · show _ = some (HO.lst _)
    rw [upd_ne npD, upd_ne nDr, upd_ne npD, upd_ne nDe, upd_ne npD, upd_ne nDb, upd_ne npD]
    exact h2
  · rw [upd_ne npb, upd_ne nbr.symm, upd_ne npb, upd_ne nbe.symm, upd_ne npb]
    exact upd_same
  · rw [upd_ne npe, upd_ne ner.symm, upd_ne npe]
    exact upd_same
  · rw [upd_ne npr]
    exact upd_same
def spDoorTakes (K : PySem.W.Frag) : Sp := fun vs H Q _ => ∃ (d : DoorR) (tab key : List Int) (n : Nat), vs = [.ref d.p, .int 0] ∧ DoorAt K H tab key n d ∧ Q (.bl true) H
abbrev N_Door_TakesAge : List Str := ["self", "age"]
theorem sc_Door_TakesAge : FnScope N_Door_TakesAge ["self", "age"] (defScope s_Door_TakesAge) := ⟨rfl, rfl, rfl, by decide +kernel, rfl, by decide +kernel, by decide +kernel⟩
theorem c_Door_TakesAge (T : Tx P w K mg base) : CalM P w K mg base (He.ga K "Door") "takes_age" 1 ["self", "age"] (spDoorTakes K) := by
  refine calM_mk T.df_Door_TakesAge T.m_Door_TakesAge sc_Door_TakesAge (fun _ _ _ _ _ _ us hl => match us, hl with | [_, _], _ => rfl) ?len (fun f cdv A outer s H vs Q E hr h => ?body)
  case len => walk_at "len"
  have nd := sc_Door_TakesAge.nd
  refine ⟨_, (pss_one (ps_ret (pe_chain op_le op_lt (pe_at T.cls_Door T.na_Door_least_age lk_Door_least_age (pv 0)) (pv 1) (pe_callB call_len_seq (by rfl) T.f_len (by decide +kernel) (pa_cons (pe_at T.cls_Door T.na_Door_house_keys lk_Door_house_keys (pv 0)) pa_nil))))), ?_⟩
  obtain ⟨d, tab, key, n, rfl, hd, q⟩ := h
  refine ⟨_, rfl, _, _, d.V, rfl, hd.ob, _, rfl, _, _, rfl, rfl, _, rfl, ?_⟩
  obtain ⟨hk1, ⟨k, r, hk2, hk3⟩, hk4⟩ := hd.kz
  refine ifD (Int.le_refl 0) ?_
  refine ⟨_, rfl, _, _, d.V, rfl, hd.ob, _, _, rfl, Or.inl (SqL.of hd.kls), _, _, rfl, rfl, ?_⟩
  refine dT ?_ q
  rw [List.length_map, hk2, List.length_cons]
  omega
/-- the key of age 0 -/
theorem DoorAt.key0 {H : Hp} {tab key : List Int} {n : Nat} {d : DoorR} (h : DoorAt K H tab key n d) : ∃ k : Addr, atI (d.keys.map V.ref) 0 = some (.ref k) ∧ H k = some (.tup (key.map V.int)) := by
  obtain ⟨hk1, ⟨k, r, hk2, hk3⟩, hk4⟩ := h.kz
  refine ⟨k, ?_, hk3⟩
  rw [hk2]
  exact at_of (j := 0) rfl rfl
def spDoorRead (K : PySem.W.Frag) : Sp := fun vs H Q _ => ∃ (d : DoorR) (pr : Addr) (tab key : List Int) (n : Nat) (z : Str) (count deed : Int), vs = [.ref d.p, .ref pr] ∧ DoorAt K H tab key n d ∧ IsTab tab ∧ key.length ≤ 8 ∧ PrAt H tab key pr z count deed ∧
  ∀ (r : Addr) (H' : Hp), Same H H' → H r = none → H' r = some (.tup [.int count, .int deed]) → Q (.ref r) H'
abbrev N_Door_Read : List Str := ["self", "press"]
theorem sc_Door_Read : FnScope N_Door_Read ["self", "press"] (defScope s_Door_Read) := ⟨rfl, rfl, rfl, by decide +kernel, rfl, by decide +kernel, by decide +kernel⟩
theorem c_Door_Read (T : Tx P w K mg base) : CalM P w K mg base (He.ga K "Door") "read" 4 ["self", "press"] (spDoorRead K) := by
  refine calM_mk T.df_Door_Read T.m_Door_Read sc_Door_Read (fun _ _ _ _ _ _ us hl => match us, hl with | [_, _], _ => rfl) ?len (fun f cdv A outer s H vs Q E hr h => ?body)
  case len => walk_at "len"
  have nd := sc_Door_Read.nd
  refine ⟨_, (pss_cons (ps_if (PW.pt (pw_or (pt_not (pt_val (pe_c (c_isPress T) (hr.mono (by decide)) (pa_cons (pv 1) pa_nil)))) (pw_or1 (pt_not (pt_val (pe_mt (c_Door_TakesAge T) T.cls_Door lm_Door_TakesAge (hr.mono (by decide)) (pv 0) (pa_cons (pe_ix ix_tup (pv 1) pe_int (fun _ _ => rfl)) pa_nil))))))) (pss_one (ps_ret pe_non)) pss_nil)
    (pss_one (ps_ret (pe_c (c_readPress T) (hr.mono (by decide)) (pa_cons (pe_at T.cls_Door T.na_Door_table lk_Door_table (pv 0)) (pa_cons (pe_ix ix_list (pe_at T.cls_Door T.na_Door_house_keys lk_Door_house_keys (pv 0)) (pe_ix ix_tup (pv 1) pe_int (fun _ _ => rfl)) (fun _ _ => rfl)) (pa_cons (pv 1) pa_nil))))))), ?_⟩
  obtain ⟨d, pr, tab, key, n, z, count, deed, rfl, hd, hT, hl, hp, q⟩ := h
  refine ⟨_, rfl, pr, tab, key, z, count, deed, rfl, hT, hp, fun H1 s1 => ⟨_, rfl, ?_⟩⟩
  have hd1 := hd.same s1
  have hp1 := hp.tk (.of s1)
  obtain ⟨c, hpo, hpc⟩ := hp1.at_
  refine iteF ?_
  refine ⟨_, rfl, _, _, d.V, rfl, hd1.ob, _, rfl, pr, _, _, V.int 0, rfl, rfl, SqT.of hpo, rfl, d, tab, key, n, rfl, hd1, _, rfl, ?_⟩
  refine iteF ?_
  obtain ⟨k, hk1, hk2⟩ := hd1.key0
  refine ⟨_, rfl, _, _, d.V, rfl, hd1.ob, _, rfl, _, _, d.V, rfl, hd1.ob, _, rfl, pr, _, _, V.int 0, rfl, rfl, SqT.of hpo, rfl, d.kl, _, _, _, rfl, rfl, SqL.of hd1.kls, hk1, _, rfl, ?_⟩
  exact ⟨d.t, k, pr, tab, key, z, count, deed, rfl, SqT.of hd1.tb, SqT.of hk2, hT, hl, hp1, fun r H2 s2 h0 hr2 => q r H2 (s1.trans s2) (s1.free h0) hr2⟩
theorem nm_strOk {z : Str} (h : IsNm z) : PyData.strOk z = true := by
  unfold PyData.strOk
  rw [Array.all_eq_true_iff_forall_mem]
  intro c hc
  have := h.low c (Array.mem_toList_iff.mpr hc)
  exact decide_eq_true (by omega)
theorem sh_nm {z : Str} (h : IsNm z) : SeqAt.shaped (.tuple [.str z, .int 0]) = true := by
  simp [SeqAt.shaped, PyData.canLay0, PyData.canLayAll0, PyData.depth, PyData.depthAll, nm_strOk h]
def spDoorLearn (K : PySem.W.Frag) : Sp := fun vs H Q _ => ∃ (d : DoorR) (pa pb : Addr) (tab key : List Int) (n : Nat) (z : Str) (count : Int), vs = [.ref d.p, .ref pa, .ref pb] ∧ DoorAt K H tab key n d ∧ IsTab tab ∧ key.length ≤ 8 ∧
  PrAt H tab key pa z count 0 ∧ PrAt H tab key pb z (count + 1) 0 ∧ fnd Ent.nm d.ents z = none ∧ (d.ents.length : Int) < d.most ∧ d.most ≤ 12 ∧ n ≤ 10000 ∧
  ∀ (a : Addr) (H' : Hp), Fr2 d.en d.rw' H H' → DoorAt K H' tab key (n + 1) { d with ents := d.ents ++ [⟨a, z, count + 1, none⟩] } → Q .non H'
abbrev N_Door_Learn : List Str := ["self", "one", "other", "first", "second"]
theorem sc_Door_Learn : FnScope N_Door_Learn ["self", "one", "other"] (defScope s_Door_Learn) := ⟨rfl, rfl, rfl, by decide +kernel, rfl, by decide +kernel, by decide +kernel⟩
theorem c_Door_Learn (T : Tx P w K mg base) : CalM P w K mg base (He.ga K "Door") "learn" 5 ["self", "one", "other"] (spDoorLearn K) := by
  refine calM_mk T.df_Door_Learn T.m_Door_Learn sc_Door_Learn (fun _ _ _ _ _ _ us hl => match us, hl with | [_, _, _], _ => rfl) ?len (fun f cdv A outer s H vs Q E hr h => ?body)
  case len => walk_at "len"
  have nd := sc_Door_Learn.nd
  refine ⟨_, (pss_cons (ps_par (i := 3) (j := 4) rfl nd rfl rfl (by decide) rfl rfl (pa_cons (pe_mt (c_Door_Read T) T.cls_Door lm_Door_Read (hr.mono (by decide)) (pv 0) (pa_cons (pv 1) pa_nil)) (pa_cons (pe_mt (c_Door_Read T) T.cls_Door lm_Door_Read (hr.mono (by decide)) (pv 0) (pa_cons (pv 2) pa_nil)) pa_nil)) (by rfl))
    (pss_cons (ps_if (pt_cmp (pc_isN (pv 3))) (pss_one ps_never) pss_nil)
    (pss_cons (ps_if (PW.pt (pw_or (pt_cmp (pc_isN (pv 4))) (pw_or (pt_cmpR (op_neD hr.units) (pe_slice sl_tupA (pv 1) po_none (po_some pe_int)) (pe_slice sl_tupA (pv 2) po_none (po_some pe_int)) (nomark _)) (pw_or1 (pt_cmpR op_ne (pe_ix ix_tup (pv 4) pe_int (fun _ _ => rfl)) (pe_op op_add (pe_ix ix_tup (pv 3) pe_int (fun _ _ => rfl)) pe_int) (nomark _)))))) (pss_one ps_never) pss_nil)
    (pss_cons (ps_if (pt_cmp (pc_din (hu_of hr) (pe_ix ix_tup (pv 1) pe_int (fun _ _ => rfl)) (pe_at T.cls_Door T.na_Door_entries lk_Door_entries (pv 0)))) (pss_one ps_never) pss_nil)
    (pss_cons (ps_if (pt_cmpR op_ge (pe_callB call_lenD (by rfl) T.f_len (by decide +kernel) (pa_cons (pe_at T.cls_Door T.na_Door_entries lk_Door_entries (pv 0)) pa_nil)) (pe_ix ix_tup (pe_at T.cls_Door T.na_Door_bounds lk_Door_bounds (pv 0)) pe_int (fun _ _ => rfl)) (nomark _)) (pss_one ps_never) pss_nil)
    (pss_cons (ps_dput (hu_of hr) (pe_at T.cls_Door T.na_Door_entries lk_Door_entries (pv 0)) (pe_ix ix_tup (pv 1) pe_int (fun _ _ => rfl)) (pe_tup (pa_cons (pe_ix ix_tup (pv 1) pe_int (fun _ _ => rfl)) (pa_cons (pe_ix ix_tup (pv 4) pe_int (fun _ _ => rfl)) (pa_cons pe_non pa_nil)))) rfl)
    (pss_one (ps_expr (pe_bm PySem.F.plainAttrs_list PySem.F.slot_list_append PySem.F.type_list_append mt_append (pe_at T.cls_Door T.na_Door_rows lk_Door_rows (pv 0)) (pa_cons (pe_tup (pa_cons pe_str (pa_cons (pv 1) (pa_cons (pv 2) pa_nil)))) pa_nil)))))))))), ?_⟩
  obtain ⟨d, pa, pb, tab, key, n, z, count, rfl, hd, hT, hl, hpa, hpb, hf, hm, hm2, hn, q⟩ := h
  refine ⟨_, rfl, _, _, d.V, rfl, hd.ob, _, rfl, d, pa, tab, key, n, z, count, 0, rfl, hd, hT, hl, hpa, fun r1 H1 s1 hr10 hr1 => ?_⟩
  have hd1 := hd.same s1
  refine ⟨_, rfl, _, _, d.V, rfl, hd1.ob, _, rfl, d, pb, tab, key, n, z, count + 1, 0, rfl, hd1, hT, hl, hpb.tk (.of s1), fun r2 H2 s2 hr20 hr2 => ?_⟩
  have hd2 := hd1.same s2
  have s12 := s1.trans s2
  have hr12 := s2 _ _ hr1
  refine ⟨_, _, rfl, ?_⟩
  refine ⟨_, rfl, _, rfl, ?_⟩
  refine ifND (fun z => by cases z) ?_
  refine ⟨_, rfl, _, rfl, ?_⟩
  refine ifND (fun z => by cases z) ?_
  obtain ⟨⟨c1, hpa1, hpa2⟩, hz, hc0, hc1, hdd⟩ := hpa.tk (.of s12)
  obtain ⟨⟨c2, hpb1, hpb2⟩, _, hc2, hc3, _⟩ := hpb.tk (.of s12)
  refine ⟨_, rfl, _, rfl, pa, _, rfl, SqT.of hpa1, (fun x => absurd x.2 (by show ¬ ((2 : Nat) = 3); decide)), fun _ f hf1 => ?_⟩
  have g1 : ∀ {b : Addr} {o : HO}, H2 b = some o → b ≠ f := fun hb => ne_of_none hb hf1
  refine ⟨_, rfl, _, rfl, pb, _, rfl, SqT.of ((upd_ne (g1 hpb1)).trans hpb1), (fun x => absurd x.2 (by show ¬ ((2 : Nat) = 3); decide)), fun _ f2 hf2 => ?_⟩
  have nff : f ≠ f2 := ne_of_none upd_same hf2
  have s3 : ∀ o, Same H2 (upd (upd H2 f (.tup (cutV [V.str z, V.int 0, V.ref c1] none (some 2)))) f2 o) := fun o => (same_new hf1).trans (same_new hf2)
  refine ⟨.tuple [.str z, .int 0], .tuple [.str z, .int 0], .tup (xs := [.str z, .int 0]) (SqT.of ((upd_ne nff).trans upd_same)) (.cons (.str z) (.cons (.int 0) .nil)), .tup (xs := [.str z, .int 0]) (SqT.of upd_same) (.cons (.str z) (.cons (.int 0) .nil)), sh_nm hz, sh_nm hz, ?_⟩
  refine ⟨_, rfl, ?_⟩
  refine ifF (by simp [PyData.eqv, PyData.eqvAll]) ?_
  generalize eo : upd (upd H2 f _) f2 _ = H3
  have s3 : Same H2 H3 := by rw [← eo]; exact s3 _
  clear eo
  have hr13 := s3 _ _ hr12
  have hr23 := s3 _ _ hr2
  refine ⟨_, rfl, r2, _, _, V.int (count + 1), rfl, rfl, SqT.of hr23, rfl, _, rfl, r1, _, _, V.int count, rfl, rfl, SqT.of hr13, rfl, _, _, rfl, rfl, rfl, _, rfl, ?_⟩
  refine ifnD rfl ?_
  have hd3 := hd2.same s3
  have hpa3 := s3 _ _ hpa1
  have hpb3 := s3 _ _ hpb1
  refine ⟨_, rfl, pa, _, _, V.str z, rfl, rfl, SqT.of hpa3, rfl, _, rfl, _, _, d.V, rfl, hd3.ob, d.en, _, rfl, DGet.k (k := Sum.inr z) hd3.ens, _, rfl, ?_⟩
  refine ifF (by rw [val_dk, hf] <;> rfl) ?_
  refine ⟨_, rfl, _, _, d.V, rfl, hd3.ob, d.en, _, rfl, hd3.ens, _, rfl, _, _, d.V, rfl, hd3.ob, d.bd, _, _, V.int d.most, rfl, rfl, SqT.of hd3.bo, rfl, _, _, rfl, rfl, _, rfl, ?_⟩
  refine ifND (by rw [dk_len]; omega) ?_
  refine ⟨_, rfl, pa, _, _, V.int 0, rfl, rfl, SqT.of hpa3, rfl, _, rfl, r2, _, _, V.int (count + 1), rfl, rfl, SqT.of hr23, rfl, (by show 3 ≤ sizeLine; decide), fun a ha => ?_⟩
  have n1 : d.p ≠ a := ne_of_none hd3.ob ha
  have n2 : pa ≠ a := ne_of_none hpa3 ha
  have n3 : d.en ≠ a := ne_of_none hd3.ens ha
  have n4 : d.p ≠ d.en := ne_of hd3.ob hd3.ens (by intro z; cases z)
  obtain ⟨xs, hxs, hxl⟩ := hd3.rws
  have n5 : d.rw' ≠ a := ne_of_none hxs ha
  have n6 : d.rw' ≠ d.en := ne_of hxs hd3.ens (by intro z; cases z)
  have n7 : pa ≠ d.en := ne_of hpa3 hd3.ens (by intro z; cases z)
  refine ⟨_, rfl, _, _, d.V, rfl, (upd_ne n1).trans hd3.ob, _, rfl, pa, _, _, V.str z, rfl, rfl, SqT.of ((upd_ne n2).trans hpa3), rfl, d.en, _, rfl, DPut.k (k := Sum.inr z) ((upd_ne n3).trans hd3.ens) (by rw [dk_len]; have := hd3.el; exact sz_lt (by omega)), ?_⟩
  rw [show putK (dk Ent.nm Ent.a d.ents) (Sum.inr z) (V.ref a) = dk Ent.nm Ent.a (d.ents ++ [⟨a, z, count + 1, none⟩]) from put_new (e' := (⟨a, z, count + 1, none⟩ : Ent)) hf rfl]
  refine ⟨_, rfl, _, _, d.V, rfl, (upd_ne n4).trans ((upd_ne n1).trans hd3.ob), Or.inl ⟨rfl, _, SqL.of ((upd_ne n6).trans ((upd_ne n5).trans hxs))⟩, _, rfl, _, rfl, (by show 3 ≤ sizeLine; decide), fun b hb => ?_⟩
  have n8 : d.rw' ≠ b := ne_of_none ((upd_ne n6).trans ((upd_ne n5).trans hxs)) hb
  refine ⟨d.rw', _, _, rfl, rfl, (upd_ne n8).trans ((upd_ne n6).trans ((upd_ne n5).trans hxs)), sz_lt (by omega), ?_⟩
  have n9 : d.en ≠ b := ne_of_none upd_same hb
  have nba : a ≠ b := ne_of_none ((upd_ne n3.symm).trans upd_same) hb
  have nra : a ≠ d.rw' := n5.symm
  have fr : ∀ (o1 o2 o3 o4 : HO), Fr2 d.en d.rw' H3 (upd (upd (upd (upd H3 a o1) d.en o2) b o3) d.rw' o4) := fun o1 o2 o3 o4 c o hc hx hy => by
    have hca := ne_of_none hc ha
    have hcb : c ≠ b := fun e => by
      rw [← e, upd_ne hx, upd_ne hca, hc] at hb
      cases hb
    rw [upd_ne hy, upd_ne hcb, upd_ne hx, upd_ne hca]
    exact hc
  have s03 := s12.trans s3
  refine q a _ ((Fr2.of s03).trans (fr _ _ _ _)) (hd3.put (fr _ _ _ _) ?_ ⟨_, upd_same, ?_⟩ (fun e he => ?_) ?_ ?_)
  · rw [upd_ne n6.symm, upd_ne n9]
    exact upd_same
  · rw [List.length_append]
    show xs.length + 1 ≤ n + 1
    omega
  · rcases List.mem_append.mp he with h | h
    · exact (hd3.ent e h).tk (hd3.tkOf (fr _ _ _ _))
    · rw [List.mem_singleton.mp h]
      refine ⟨?_, (fun p hp => by cases hp), (by show 0 ≤ count + 1; omega), (by show count + 1 < 4096; omega), hz⟩
      show upd _ _ _ a = _
      rw [upd_ne nra, upd_ne nba, upd_ne n3.symm]
      exact upd_same
  · rw [List.map_append]
    refine List.nodup_append.mpr ⟨hd.nd, (List.nodup_cons.mpr ⟨List.not_mem_nil, List.nodup_nil⟩), fun x hx y hy => ?_⟩
    obtain ⟨e, he, rfl⟩ := List.mem_map.mp hx
    rw [show y = z from List.mem_singleton.mp hy]
    exact fnd_no hf e he
  · rw [List.length_append]
    show d.ents.length + 1 ≤ 12
    omega
def spDoorTurn (K : PySem.W.Frag) : Sp := fun vs H Q _ => ∃ (d : DoorR) (k : Addr) (tab key ks : List Int) (n : Nat), vs = [.ref d.p, .ref k] ∧ DoorAt K H tab key n d ∧ H k = some (.tup (ks.map V.int)) ∧ d.keys.length < 8 ∧ n ≤ 10000 ∧
  ∀ (H' : Hp), Fr2 d.kl d.rw' H H' → DoorAt K H' tab key (n + 1) { d with keys := d.keys ++ [k] } → Q .non H'
abbrev N_Door_TurnKey : List Str := ["self", "key"]
theorem sc_Door_TurnKey : FnScope N_Door_TurnKey ["self", "key"] (defScope s_Door_TurnKey) := ⟨rfl, rfl, rfl, by decide +kernel, rfl, by decide +kernel, by decide +kernel⟩
theorem c_Door_TurnKey (T : Tx P w K mg base) : CalM P w K mg base (He.ga K "Door") "turn_key" 1 ["self", "key"] (spDoorTurn K) := by
  refine calM_mk T.df_Door_TurnKey T.m_Door_TurnKey sc_Door_TurnKey (fun _ _ _ _ _ _ us hl => match us, hl with | [_, _], _ => rfl) ?len (fun f cdv A outer s H vs Q E hr h => ?body)
  case len => walk_at "len"
  have nd := sc_Door_TurnKey.nd
  refine ⟨_, (pss_cons (ps_if (pt_cmpR op_ge (pe_callB call_len_seq (by rfl) T.f_len (by decide +kernel) (pa_cons (pe_at T.cls_Door T.na_Door_house_keys lk_Door_house_keys (pv 0)) pa_nil)) (pe_gi T.i_MOST_KEYS_doors) (nomark _)) (pss_one ps_never) pss_nil)
    (pss_cons (ps_expr (pe_bm PySem.F.plainAttrs_list PySem.F.slot_list_append PySem.F.type_list_append mt_append (pe_at T.cls_Door T.na_Door_house_keys lk_Door_house_keys (pv 0)) (pa_cons (pe_callTy (T := "tuple") call_tuple_of (by rfl) T.f_tuple (by decide +kernel) (pa_cons (pv 1) pa_nil)) pa_nil)))
    (pss_one (ps_expr (pe_bm PySem.F.plainAttrs_list PySem.F.slot_list_append PySem.F.type_list_append mt_append (pe_at T.cls_Door T.na_Door_rows lk_Door_rows (pv 0)) (pa_cons (pe_tup (pa_cons pe_str (pa_cons (pe_callTy (T := "tuple") call_tuple_of (by rfl) T.f_tuple (by decide +kernel) (pa_cons (pv 1) pa_nil)) pa_nil))) pa_nil)))))), ?_⟩
  obtain ⟨d, k, tab, key, ks, n, rfl, hd, hk, hl, hn, q⟩ := h
  have n1 : d.p ≠ d.kl := ne_of hd.ob hd.kls (by intro z; cases z)
  obtain ⟨xs, hxs, hxl⟩ := hd.rws
  have n2 : k ≠ d.kl := ne_of hk hd.kls (by intro z; cases z)
  refine ⟨_, rfl, _, _, d.V, rfl, hd.ob, _, _, rfl, Or.inl (SqL.of hd.kls), _, _, rfl, rfl, _, rfl, ?_⟩
  refine ifND (by rw [List.length_map]; omega) ?_
  refine ⟨_, rfl, _, _, d.V, rfl, hd.ob, Or.inl ⟨rfl, _, SqL.of hd.kls⟩, _, rfl, k, _, rfl, Or.inr ⟨SqT.of hk, d.kl, _, _, rfl, rfl, hd.kls, ?_, ?_⟩⟩
  · rw [List.length_map]; exact sz_lt (by omega)
  refine ⟨_, rfl, _, _, d.V, rfl, (upd_ne n1).trans hd.ob, Or.inl ⟨rfl, _, SqL.of ((upd_ne hd.ne.symm).trans hxs)⟩, _, rfl, k, _, rfl, Or.inr ⟨SqT.of ((upd_ne n2).trans hk), (by show 2 ≤ sizeLine; decide), fun b hb => ?_⟩⟩
  have n3 : d.rw' ≠ b := ne_of_none ((upd_ne hd.ne.symm).trans hxs) hb
  refine ⟨d.rw', _, _, rfl, rfl, (upd_ne n3).trans ((upd_ne hd.ne.symm).trans hxs), sz_lt (by omega), ?_⟩
  have n4 : d.kl ≠ b := ne_of_none upd_same hb
  have fr : ∀ (o1 o2 o3 : HO), Fr2 d.kl d.rw' H (upd (upd (upd H d.kl o1) b o2) d.rw' o3) := fun o1 o2 o3 c o hc hx hy => by
    have hcb : c ≠ b := fun e => by
      rw [← e, upd_ne hx, hc] at hb
      cases hb
    rw [upd_ne hy, upd_ne hcb, upd_ne hx]
    exact hc
  have tk : ∀ (o1 o2 o3 : HO), TupK H (upd (upd (upd H d.kl o1) b o2) d.rw' o3) := fun o1 o2 o3 => (fr o1 o2 o3).tk (fun xs e => by rw [hd.kls] at e; cases e) (fun xs e => by rw [hxs] at e; cases e)
  refine q _ (fr _ _ _) ⟨fr _ _ _ _ _ hd.ob n1 (ne_of hd.ob hxs (by intro z; cases z)), tk _ _ _ _ _ hd.tb, ?_, tk _ _ _ _ _ hd.bo, fr _ _ _ _ _ hd.ens (ne_of hd.ens hd.kls (by intro z; cases z)) (ne_of hd.ens hxs (by intro z; cases z)), ⟨_, upd_same, ?_⟩, ?_, fun e he => (hd.ent e he).tk (tk _ _ _), hd.nd, hd.el, hd.ne⟩
  · rw [upd_ne hd.ne, upd_ne n4]
    show upd _ _ _ _ = some (HO.lst ((d.keys ++ [k]).map V.ref))
    rw [List.map_append]
    exact upd_same
  · rw [List.length_append]
    show xs.length + 1 ≤ n + 1
    omega
  · obtain ⟨h1, ⟨k0, r, h2, h3⟩, h4⟩ := hd.kz.tk (tk _ _ _)
    refine ⟨?_, ⟨k0, r ++ [k], ?_, h3⟩, fun a ha => ?_⟩
    · show (d.keys ++ [k]).length ≤ 8
      rw [List.length_append]
      show d.keys.length + 1 ≤ 8
      omega
    · show d.keys ++ [k] = _
      rw [h2] <;> rfl
    · rcases List.mem_append.mp ha with h | h
      · exact h4 a h
      · rw [List.mem_singleton.mp h]
        exact ⟨ks, tk _ _ _ _ _ hk⟩
end
end K69
end
section
set_option Elab.async false
set_option linter.all false
set_option maxRecDepth 100000
set_option maxHeartbeats 4000000
local macro_rules | `(tactic| walk_at "len") => `(tactic| (intro vs H Q E h; first
  | (obtain ⟨e, _⟩ := h; subst e; rfl) | (obtain ⟨_, e, _⟩ := h; subst e; rfl) | (obtain ⟨_, _, e, _⟩ := h; subst e; rfl) | (obtain ⟨_, _, _, e, _⟩ := h; subst e; rfl) | (obtain ⟨_, _, _, _, e, _⟩ := h; subst e; rfl)
  | (obtain ⟨_, _, _, _, _, e, _⟩ := h; subst e; rfl) | (obtain ⟨_, _, _, _, _, _, e, _⟩ := h; subst e; rfl) | (obtain ⟨_, _, _, _, _, _, _, e, _⟩ := h; subst e; rfl) | (obtain ⟨_, _, _, _, _, _, _, _, e, _⟩ := h; subst e; rfl)
  | (obtain ⟨_, _, _, _, _, _, _, _, _, e, _⟩ := h; subst e; rfl) | (obtain ⟨_, _, _, _, _, _, _, _, _, _, e, _⟩ := h; subst e; rfl) | (obtain ⟨_, _, _, _, _, _, _, _, _, _, _, e, _⟩ := h; subst e; rfl)))
local macro_rules | `(tactic| walk_at "hh") => `(tactic| first
  | assumption
  | exact L2.upd_same
  | (refine (L2.upd_ne (by walk_at "ne")).trans ?_; walk_at "hh")
  | (refine (‹L2.Same _ _› : L2.Same _ _) _ _ ?_; walk_at "hh"))
local macro_rules | `(tactic| walk_at "ne") => `(tactic| first
  | assumption
  | (apply Ne.symm; assumption)
  | exact L2.ne_of_none (by walk_at "hh") (by assumption)
  | exact (L2.ne_of_none (by walk_at "hh") (by assumption)).symm)
local macro_rules | `(tactic| walk_at "s") => `(tactic| first
  | refine ⟨_, rfl, ?_⟩
  | refine ⟨_, _, _, rfl, (by walk_at "hh"), ?_⟩
  | refine ⟨rfl, ?_⟩
  | refine ⟨_, _, rfl, rfl, ?_⟩)
local macro_rules | `(tactic| walk_at "isi int") => `(tactic| refine ⟨_, _, _, _, true, rfl, .ty "int", .base (.int _), L2.kit_ty (by decide +kernel), ?_⟩)
local macro_rules | `(tactic| walk_at "isi bool") => `(tactic| refine ⟨_, _, _, _, false, rfl, .ty "bool", .base (.int _), L2.kit_ty (by decide +kernel), ?_⟩)
local macro_rules | `(tactic| walk_at "isi tuple") => `(tactic| refine ⟨_, _, _, _, true, rfl, .ty "tuple", .base (.tup (by assumption)), L2.kit_ty (by decide +kernel), ?_⟩)
local macro_rules | `(tactic| walk_at "isi str") => `(tactic| refine ⟨_, _, _, _, true, rfl, .ty "str", .base (.str _), L2.kit_ty (by decide +kernel), ?_⟩)
local macro_rules | `(tactic| walk_at "v") => `(tactic| refine ⟨_, rfl, ?_⟩)
local macro_rules | `(tactic| walk_at "ii") => `(tactic| refine ⟨_, _, rfl, rfl, ?_⟩)
namespace K69
open PySem PySem.Spec PyProof.Rows L2
/-! ### doors.py: hearing -/
/-- what a door answers (none: it opens; some word: held) and keeps of a button, the last count and the waiting one given -/
def hearE (near far last : Int) (wt : Option Int) (count : Int) : Option Str × Int × Option Int :=
  if wordS count last near far = "near" ∨ (wordS count last near far = "far" ∧ wt = some (count - 1)) then (none, count, none)
  else if wordS count last near far = "far" then (some (wordS count last near far), last, some count)
  else (some (wordS count last near far), last, wt)
def fE (es : List PE3) (z : Str) : Option PE3 := es.find? fun e => decide (e.1 = z)
def hearA (near far : Int) (es : List PE3) (z : Str) (count : Int) : Option Str := match fE es z with
  | none => some "unknown"
  | some e => (hearE near far e.2.1 e.2.2 count).1
def hearL (near far : Int) (es : List PE3) (z : Str) (count : Int) : List PE3 := match fE es z with
  | none => es
  | some e => es.map fun x => if x.1 = z then (z, (hearE near far e.2.1 e.2.2 count).2) else x
def AnsAt (H : Hp) (r : Addr) (ans : Option Str) (z : Str) (deed : Int) : Prop := match ans with
  | none => H r = some (.tup [.str "open", .str z, .int deed])
  | some x => H r = some (.tup [.str "held", .str x])
theorem AnsAt.tk {H H' : Hp} {r : Addr} {ans : Option Str} {z : Str} {deed : Int} (s : TupK H H') (h : AnsAt H r ans z deed) : AnsAt H' r ans z deed := by
  cases ans with
  | none => exact s _ _ h
  | some x => exact s _ _ h
theorem fE_pu (es : List Ent) (z : Str) : fE (es.map Ent.pu) z = (fnd Ent.nm es z).map Ent.pu := by
  unfold fE fnd
  rw [List.find?_map] <;> rfl
theorem setN_pu {es : List Ent} {z : Str} {e' : Ent} {r : Int × Option Int} (h : e'.pu = (z, r)) : (setN Ent.nm es z e').map Ent.pu = (es.map Ent.pu).map fun x => if x.1 = z then (z, r) else x := by
  unfold setN
  rw [List.map_map, List.map_map]
  refine List.map_congr_left fun x _ => ?_
  show Ent.pu (if x.nm = z then e' else x) = if x.nm = z then (z, r) else x.pu
  split
  · exact h
  · rfl
section
variable {P : Program} {w : World} {K : PySem.W.Frag} {mg : Str → Option Value} {base : Heap}
def spDoorAns (K : PySem.W.Frag) : Sp := fun vs H Q _ => ∃ (d : DoorR) (pr : Addr) (tab key : List Int) (n : Nat) (z : Str) (count deed : Int) (e : Ent), vs = [.ref d.p, .ref pr] ∧ DoorAt K H tab key n d ∧ IsTab tab ∧ key.length ≤ 8 ∧ PrAt H tab key pr z count deed ∧ fnd Ent.nm d.ents z = some e ∧
  ∀ (r a : Addr) (e' : Ent) (H' : Hp), Same H H' → H' r = some (.tup [.ref a, .ref e'.a]) → AnsAt H' a (hearE d.near d.far e.last (e.w.map Prod.snd) count).1 z deed → EntAt H' e' → e'.pu = (z, (hearE d.near d.far e.last (e.w.map Prod.snd) count).2) → Q (.ref r) H'
abbrev N_Door_AnswerTo : List Str := ["self", "press", "name", "age", "code", "entry", "told", "count", "deed", "word"]
theorem sc_Door_AnswerTo : FnScope N_Door_AnswerTo ["self", "press"] (defScope s_Door_AnswerTo) := ⟨rfl, rfl, rfl, by decide +kernel, rfl, by decide +kernel, by decide +kernel⟩
theorem c_Door_AnswerTo (T : Tx P w K mg base) : CalM P w K mg base (He.ga K "Door") "answer_to" 4 ["self", "press"] (spDoorAns K) := by
  refine calM_mk T.df_Door_AnswerTo T.m_Door_AnswerTo sc_Door_AnswerTo (fun _ _ _ _ _ _ us hl => match us, hl with | [_, _], _ => rfl) ?len (fun f cdv A outer s H vs Q E hr h => ?body)
  case len => walk_at "len"
  have nd := sc_Door_AnswerTo.nd
  refine ⟨_, (pss_cons (ps_asg (pv 1) (pg_tup rfl (pgs_cons (pg_name (i := 2) nd rfl (Or.inl rfl)) (pgs_cons (pg_name (i := 3) nd rfl (Or.inl rfl)) (pgs_cons (pg_name (i := 4) nd rfl (Or.inl rfl)) pgs_nil)))))
    (pss_cons (ps_set (i := 5) nd rfl (Or.inl rfl) (pe_dget (hu_of hr) (pe_at T.cls_Door T.na_Door_entries lk_Door_entries (pv 0)) (pv 2) (fun _ _ => rfl)))
    (pss_cons (ps_if (PW.pt (pw_or (pt_not (pt_val (pe_mt (c_Door_TakesAge T) T.cls_Door lm_Door_TakesAge (hr.mono (by decide)) (pv 0) (pa_cons (pv 3) pa_nil)))) (pw_or1 (pt_cmpR op_lt (pv 3) (pe_ix ix_tup (pv 5) pe_int (fun _ _ => rfl)) (nomark _))))) (pss_one (ps_ret (pe_tup (pa_cons (pe_tup (pa_cons pe_str (pa_cons pe_str pa_nil))) (pa_cons (pv 5) pa_nil))))) pss_nil)
    (pss_cons (ps_set (i := 6) nd rfl (Or.inl rfl) (pe_c (c_readPress T) (hr.mono (by decide)) (pa_cons (pe_at T.cls_Door T.na_Door_table lk_Door_table (pv 0)) (pa_cons (pe_ix ix_list (pe_at T.cls_Door T.na_Door_house_keys lk_Door_house_keys (pv 0)) (pv 3) (fun _ _ => rfl)) (pa_cons (pv 1) pa_nil)))))
    (pss_cons (ps_if (pt_cmp (pc_isN (pv 6))) (pss_one (ps_ret (pe_tup (pa_cons (pe_tup (pa_cons pe_str (pa_cons pe_str pa_nil))) (pa_cons (pv 5) pa_nil))))) pss_nil)
    (pss_cons (ps_asg (pv 6) (pg_tup rfl (pgs_cons (pg_name (i := 7) nd rfl (Or.inl rfl)) (pgs_cons (pg_name (i := 8) nd rfl (Or.inl rfl)) pgs_nil))))
    (pss_cons (ps_set (i := 9) nd rfl (Or.inl rfl) (pe_c (c_wordOf T) (hr.mono (by decide)) (pa_cons (pv 7) (pa_cons (pe_ix ix_tup (pv 5) pe_int (fun _ _ => rfl)) (pa_cons (pe_ix ix_tup (pe_at T.cls_Door T.na_Door_bounds lk_Door_bounds (pv 0)) pe_int (fun _ _ => rfl)) (pa_cons (pe_ix ix_tup (pe_at T.cls_Door T.na_Door_bounds lk_Door_bounds (pv 0)) pe_int (fun _ _ => rfl)) pa_nil))))))
    (pss_cons (ps_if (PW.pt (pw_or (pt_cmpR op_eq (pv 9) pe_str (nomark _)) (pw_or1 (PW.pt (pw_and (pt_cmpR op_eq (pv 9) pe_str (nomark _)) (pw_and1 (pt_cmpR (op_eqD hr.units) (pe_ix ix_tup (pv 5) pe_int (fun _ _ => rfl)) (pe_tup (pa_cons (pv 3) (pa_cons (pe_op op_sub (pv 7) pe_int) pa_nil))) (nomark _)))))))) (pss_one (ps_ret (pe_tup (pa_cons (pe_tup (pa_cons pe_str (pa_cons (pv 2) (pa_cons (pv 8) pa_nil)))) (pa_cons (pe_tup (pa_cons (pv 3) (pa_cons (pv 7) (pa_cons pe_non pa_nil)))) pa_nil))))) pss_nil)
    (pss_cons (ps_if (pt_cmpR op_eq (pv 9) pe_str (nomark _)) (pss_one (ps_ret (pe_tup (pa_cons (pe_tup (pa_cons pe_str (pa_cons (pv 9) pa_nil))) (pa_cons (pe_tup (pa_cons (pe_ix ix_tup (pv 5) pe_int (fun _ _ => rfl)) (pa_cons (pe_ix ix_tup (pv 5) pe_int (fun _ _ => rfl)) (pa_cons (pe_tup (pa_cons (pv 3) (pa_cons (pv 7) pa_nil))) pa_nil)))) pa_nil))))) pss_nil)
    (pss_one (ps_ret (pe_tup (pa_cons (pe_tup (pa_cons pe_str (pa_cons (pv 9) pa_nil))) (pa_cons (pv 5) pa_nil)))))))))))))), ?_⟩
  obtain ⟨d, pr, tab, key, n, z, count, deed, e, rfl, hd, hT, hl, hp, hf, q⟩ := h
  obtain ⟨⟨c, hpo, hpc⟩, hz, hc0, hc1, hdd⟩ := hp
  obtain ⟨hem, hen⟩ := fnd_ok hf
  have hE := hd.ent e hem
  refine ⟨_, rfl, pr, _, rfl, SqT.of hpo, rfl, _, _, rfl, _, _, rfl, _, _, rfl, rfl, ?_⟩
  refine ⟨_, rfl, _, _, d.V, rfl, hd.ob, _, rfl, d.en, _, rfl, (by have g := DGet.k (k := Sum.inr z) hd.ens; rw [val_dk, hf] at g; exact g), ?_⟩
  refine ⟨_, rfl, _, _, d.V, rfl, hd.ob, _, rfl, d, tab, key, n, rfl, hd, _, rfl, ?_⟩
  refine iteF ?_
  refine ⟨_, rfl, _, rfl, e.a, _, _, V.int 0, rfl, rfl, SqT.of hE.ob, rfl, _, _, rfl, rfl, _, rfl, ?_⟩
  refine ifND (by omega) ?_
  obtain ⟨k, hk1, hk2⟩ := hd.key0
  refine ⟨_, rfl, _, _, d.V, rfl, hd.ob, _, rfl, _, _, d.V, rfl, hd.ob, _, rfl, d.kl, _, _, _, rfl, rfl, SqL.of hd.kls, hk1, _, rfl, ?_⟩
  refine ⟨d.t, k, pr, tab, key, z, count, deed, rfl, SqT.of hd.tb, SqT.of hk2, hT, hl, ⟨⟨c, hpo, hpc⟩, hz, hc0, hc1, hdd⟩, fun r0 H1 s1 h0 hr0 => ?_⟩
  have hd1 := hd.same s1
  have hE1 := hE.tk (.of s1)
  refine ⟨_, rfl, _, rfl, ?_⟩
  refine ifND (fun z => by cases z) ?_
  refine ⟨_, rfl, r0, _, rfl, SqT.of hr0, rfl, _, _, rfl, _, _, rfl, rfl, ?_⟩
  refine ⟨_, rfl, _, rfl, e.a, _, _, V.int e.last, rfl, rfl, SqT.of hE1.ob, rfl, _, rfl, _, _, d.V, rfl, hd1.ob, d.bd, _, _, V.int d.near, rfl, rfl, SqT.of hd1.bo, rfl, _, rfl, _, _, d.V, rfl, hd1.ob, d.bd, _, _, V.int d.far, rfl, rfl, SqT.of hd1.bo, rfl, ?_⟩
  refine ⟨count, e.last, d.near, d.far, rfl, ?_⟩
  unfold hearE at q
  have hp1 : H1 pr = some (.tup [.str z, .int 0, .ref c]) := s1 _ _ hpo
  generalize hwd : wordS count e.last d.near d.far = wd at q ⊢
  have opn : ∀ (D : Ends) (H2 : Hp), D.rt = Q → Same H1 H2 → (wd = "near" ∨ (wd = "far" ∧ e.w.map Prod.snd = some (count - 1))) →
      tRet (tTup (tCons (tTup (tCons (tC (.str "open")) (tCons (tVar 2) (tCons (tVar 8) tNil)))) (tCons (tTup (tCons (tVar 3) (tCons (tVar 7) (tCons (tC .non) tNil)))) tNil))) D
        [some (.ref d.p), some (.ref pr), some (.str z), some (.int 0), some (.ref c), some (.ref e.a), some (.ref r0), some (.int count), some (.int deed), some (.str wd)] H2 := by
    intro D H2 hD s2 hC
    refine ⟨_, rfl, _, rfl, (by show 3 ≤ sizeLine; decide), fun a ha => ⟨_, rfl, _, rfl, (by show 3 ≤ sizeLine; decide), fun b hb => ⟨(by show 2 ≤ sizeLine; decide), fun r hr => ?_⟩⟩⟩
    have nab : a ≠ b := ne_of_none upd_same hb
    have nbr : b ≠ r := ne_of_none upd_same hr
    have nar : a ≠ r := ne_of_none ((upd_ne nab).trans upd_same) hr
    have s3 : ∀ o1 o2 o3, (upd (upd H2 a o1) b o2) r = none → Same H (upd (upd (upd H2 a o1) b o2) r o3) := fun o1 o2 o3 hr => s1.trans (s2.trans ((same_new ha).trans ((same_new (by rw [upd_ne nab.symm] at hb ⊢; exact hb)).trans (same_new hr))))
    have k := q r a ⟨b, z, count, none⟩ _ (s3 _ _ (.tup [.ref a, .ref b]) hr) upd_same
    rw [if_pos hC] at k
    rw [hD]
    refine k ((upd_ne nar).trans ((upd_ne nab).trans upd_same)) ⟨(upd_ne nbr).trans upd_same, (fun p hp => by cases hp), hc0, hc1, hz⟩ rfl
  refine ⟨_, rfl, rfl, _, rfl, ?_⟩
  by_cases h1 : wd = "near"
  · refine ifD (congrArg V.str h1) ?_
    exact opn _ _ rfl (Same.refl _) (Or.inl h1)
  refine ifND (fun z => h1 (V.str.inj z)) ?_
  refine ⟨_, rfl, rfl, _, rfl, ?_⟩
  have held : ∀ (D : Ends) (H2 : Hp), D.rt = Q → Same H1 H2 → wd ≠ "far" →
      tRet (tTup (tCons (tTup (tCons (tC (.str "held")) (tCons (tVar 9) tNil))) (tCons (tVar 5) tNil))) D
        [some (.ref d.p), some (.ref pr), some (.str z), some (.int 0), some (.ref c), some (.ref e.a), some (.ref r0), some (.int count), some (.int deed), some (.str wd)] H2 := by
    intro D H2 hD s2 h2
    refine ⟨_, rfl, (by show 2 ≤ sizeLine; decide), fun a ha => ⟨_, rfl, (by show 2 ≤ sizeLine; decide), fun r hr => ?_⟩⟩
    have nar : a ≠ r := ne_of_none upd_same hr
    have s3 : ∀ o1 o2, (upd H2 a o1) r = none → Same H (upd (upd H2 a o1) r o2) := fun o1 o2 hr => s1.trans (s2.trans ((same_new ha).trans (same_new hr)))
    have k := q r a e _ (s3 _ (.tup [.ref a, .ref e.a]) hr) upd_same
    rw [if_neg (fun h => h.elim h1 fun h => h2 h.1), if_neg h2] at k
    rw [hD]
    refine k ((upd_ne nar).trans upd_same) (hE.tk (.of (s3 _ _ hr))) (by unfold Ent.pu; rw [hen])
  by_cases h2 : wd = "far"
  · refine ifD (congrArg V.str h2) ?_
    refine ⟨_, rfl, e.a, _, _, e.wV, rfl, rfl, SqT.of hE1.ob, rfl, _, rfl, _, rfl, _, _, rfl, rfl, (by show 2 ≤ sizeLine; decide), fun b hb => ?_⟩
    have s2 : ∀ o, Same H1 (upd H1 b o) := fun o => same_new hb
    have far : ∀ (D : Ends) (H2 : Hp), D.rt = Q → Same H1 H2 → e.w.map Prod.snd ≠ some (count - 1) →
        tRet (tTup (tCons (tTup (tCons (tC (.str "held")) (tCons (tVar 9) tNil))) (tCons (tTup (tCons (tOp (rIxT K) (tVar 5) (tC (.int 0))) (tCons (tOp (rIxT K) (tVar 5) (tC (.int 1))) (tCons (tTup (tCons (tVar 3) (tCons (tVar 7) tNil))) tNil)))) tNil))) D
          [some (.ref d.p), some (.ref pr), some (.str z), some (.int 0), some (.ref c), some (.ref e.a), some (.ref r0), some (.int count), some (.int deed), some (.str wd)] H2 := by
      intro D H2 hD s2 h3
      refine ⟨_, rfl, (by show 2 ≤ sizeLine; decide), fun a ha => ?_⟩
      have hEo := s2 _ _ hE1.ob
      have nea : e.a ≠ a := ne_of_none hEo ha
      refine ⟨_, rfl, e.a, _, _, V.int 0, rfl, rfl, SqT.of ((upd_ne nea).trans hEo), rfl, _, rfl, e.a, _, _, V.int e.last, rfl, rfl, SqT.of ((upd_ne nea).trans hEo), rfl, _, rfl, _, rfl, (by show 2 ≤ sizeLine; decide), fun x hx => ⟨(by show 3 ≤ sizeLine; decide), fun b hb => ⟨(by show 2 ≤ sizeLine; decide), fun r hr => ?_⟩⟩⟩
      have nax : a ≠ x := ne_of_none upd_same hx
      have nxb : x ≠ b := ne_of_none upd_same hb
      have nab : a ≠ b := ne_of_none ((upd_ne nax).trans upd_same) hb
      have nbr : b ≠ r := ne_of_none upd_same hr
      have nxr : x ≠ r := ne_of_none ((upd_ne nxb).trans upd_same) hr
      have nar : a ≠ r := ne_of_none ((upd_ne nab).trans ((upd_ne nax).trans upd_same)) hr
      have s3 : ∀ o1 o2 o3 o4, (upd (upd (upd H2 a o1) x o2) b o3) r = none → Same H (upd (upd (upd (upd H2 a o1) x o2) b o3) r o4) := fun o1 o2 o3 o4 hr => s1.trans (s2.trans ((same_new ha).trans ((same_new (by rw [upd_ne nax.symm] at hx ⊢; exact hx)).trans ((same_new (by rw [upd_ne nxb.symm, upd_ne nab.symm] at hb ⊢; exact hb)).trans (same_new hr)))))
      have k := q r a ⟨b, z, e.last, some (x, count)⟩ _ (s3 _ _ _ (.tup [.ref a, .ref b]) hr) upd_same
      rw [if_neg (fun h => h.elim h1 fun h => h3 h.2), if_pos h2] at k
      rw [hD]
      refine k ((upd_ne nar).trans ((upd_ne nab).trans ((upd_ne nax).trans upd_same))) ⟨(upd_ne nbr).trans upd_same, (fun p hp => ?_), hE.lo, hE.hi, hz⟩ rfl
      cases hp
      exact ⟨(upd_ne nxr).trans ((upd_ne nxb).trans upd_same), hc0, hc1⟩
    have hv : ∃ dd, Dp K (upd H1 b (.tup [.int 0, .int (count - 1)])) e.wV dd ∧ SeqAt.shaped dd = true ∧ PyData.eqv dd (.tuple [.int 0, .int (count - 1)]) = decide (e.w.map Prod.snd = some (count - 1)) := by
      unfold Ent.wV
      cases hw : e.w with
      | none => exact ⟨.none, .non, rfl, by simp [PyData.eqv]⟩
      | some p =>
        refine ⟨.tuple [.int 0, .int p.2], .tup (xs := [.int 0, .int p.2]) (SqT.of (s2 _ _ _ (hE1.wa p hw).1)) (.cons (.int 0) (.cons (.int p.2) .nil)), by simp [SeqAt.shaped, PyData.canLay0, PyData.canLayAll0, PyData.depth, PyData.depthAll], ?_⟩
        by_cases h : p.2 = count - 1 <;> simp [PyData.eqv, PyData.eqvAll, h]
    obtain ⟨dd, hv1, hv2, hv3⟩ := hv
    refine ⟨dd, .tuple [.int 0, .int (count - 1)], hv1, .tup (xs := [.int 0, .int (count - 1)]) (SqT.of upd_same) (.cons (.int 0) (.cons (.int (count - 1)) .nil)), hv2, by simp [SeqAt.shaped, PyData.canLay0, PyData.canLayAll0, PyData.depth, PyData.depthAll], ?_⟩
    refine ⟨_, rfl, ?_⟩
    rw [hv3]
    by_cases h3 : e.w.map Prod.snd = some (count - 1)
    · refine ifD h3 ?_
      exact opn _ _ rfl (s2 _) (Or.inr ⟨h2, h3⟩)
    · refine ifND h3 ?_
      refine ⟨_, rfl, rfl, _, rfl, ?_⟩
      refine ifD (congrArg V.str h2) ?_
      exact far _ _ rfl (s2 _) h3
  · refine ifND (fun z => h2 (V.str.inj z)) ?_
    refine ⟨_, rfl, rfl, _, rfl, ?_⟩
    refine ifND (fun z => h2 (V.str.inj z)) ?_
    exact held _ _ rfl (Same.refl _) h2
def spDoorHear (K : PySem.W.Frag) : Sp := fun vs H Q _ => ∃ (d : DoorR) (pr : Addr) (tab key : List Int) (n : Nat) (z : Str) (count deed : Int), vs = [.ref d.p, .ref pr] ∧ DoorAt K H tab key n d ∧ IsTab tab ∧ key.length ≤ 8 ∧ PrAt H tab key pr z count deed ∧ n ≤ 10000 ∧
  ∀ (r : Addr) (es' : List Ent) (H' : Hp), Fr2 d.en d.rw' H H' → DoorAt K H' tab key (n + 1) { d with ents := es' } → es'.map Ent.pu = hearL d.near d.far (d.ents.map Ent.pu) z count → AnsAt H' r (hearA d.near d.far (d.ents.map Ent.pu) z count) z deed → Q (.ref r) H'
abbrev N_Door_Hear : List Str := ["self", "thing", "answer"]
theorem sc_Door_Hear : FnScope N_Door_Hear ["self", "thing"] (defScope s_Door_Hear) := ⟨rfl, rfl, rfl, by decide +kernel, rfl, by decide +kernel, by decide +kernel⟩
theorem c_Door_Hear (T : Tx P w K mg base) : CalM P w K mg base (He.ga K "Door") "hear" 5 ["self", "thing"] (spDoorHear K) := by
  refine calM_mk T.df_Door_Hear T.m_Door_Hear sc_Door_Hear (fun _ _ _ _ _ _ us hl => match us, hl with | [_, _], _ => rfl) ?len (fun f cdv A outer s H vs Q E hr h => ?body)
  case len => walk_at "len"
  have nd := sc_Door_Hear.nd
  refine ⟨_, (pss_cons (ps_if (pt_not (pt_val (pe_c (c_isPress T) (hr.mono (by decide)) (pa_cons (pv 1) pa_nil)))) (pss_one (ps_ret (pe_tup (pa_cons pe_str (pa_cons pe_str pa_nil))))) pss_nil)
    (pss_cons (ps_set (i := 2) nd rfl (Or.inl rfl) (pe_tup (pa_cons pe_str (pa_cons pe_str pa_nil))))
    (pss_cons (ps_if (pt_cmp (pc_din (hu_of hr) (pe_ix ix_tup (pv 1) pe_int (fun _ _ => rfl)) (pe_at T.cls_Door T.na_Door_entries lk_Door_entries (pv 0)))) (pss_one (ps_asg (pe_mt (c_Door_AnswerTo T) T.cls_Door lm_Door_AnswerTo (hr.mono (by decide)) (pv 0) (pa_cons (pv 1) pa_nil)) (pg_tup rfl (pgs_cons (pg_name (i := 2) nd rfl (Or.inl rfl)) (pgs_cons (pg_sub (pe_at T.cls_Door T.na_Door_entries lk_Door_entries (pv 0)) (pe_ix ix_tup (pv 1) pe_int (fun _ _ => rfl)) (set_dict (hu_of hr))) pgs_nil))))) pss_nil)
    (pss_cons (ps_expr (pe_bm PySem.F.plainAttrs_list PySem.F.slot_list_append PySem.F.type_list_append mt_append (pe_at T.cls_Door T.na_Door_rows lk_Door_rows (pv 0)) (pa_cons (pe_tup (pa_cons pe_str (pa_cons (pv 1) (pa_cons (pv 2) pa_nil)))) pa_nil)))
    (pss_one (ps_ret (pv 2))))))), ?_⟩
  obtain ⟨d, pr, tab, key, n, z, count, deed, rfl, hd, hT, hl, hp, hn, q⟩ := h
  refine ⟨_, rfl, pr, tab, key, z, count, deed, rfl, hT, hp, fun H1 s1 => ⟨_, rfl, ?_⟩⟩
  refine iteF ?_
  refine ⟨(by show 2 ≤ sizeLine; decide), fun u hu => ?_⟩
  generalize eu : upd H1 u _ = H2
  have s2 : Same H1 H2 := by rw [← eu]; exact same_new hu
  have hu2 : H2 u = some (.tup [.str "held", .str "unknown"]) := by rw [← eu]; exact upd_same
  clear eu
  have s02 := s1.trans s2
  have hd2 := hd.same s02
  have hp2 := hp.tk (.of s02)
  obtain ⟨⟨c, hpo, hpc⟩, hz, hc0, hc1, hdd⟩ := hp2
  obtain ⟨xs, hxs, hxl⟩ := hd2.rws
  have n1 : d.p ≠ d.en := ne_of hd2.ob hd2.ens (by intro z; cases z)
  have n2 : d.rw' ≠ d.en := ne_of hxs hd2.ens (by intro z; cases z)
  have fin : ∀ (D : Ends) (H3 : Hp) (r : Addr) (es' : List Ent), D.rt = Q → (∀ b o, H2 b = some o → b ≠ d.en → H3 b = some o) → H3 d.en = some (.dK (dk Ent.nm Ent.a es')) → (∀ e, e ∈ es' → EntAt H3 e) → (es'.map Ent.nm).Nodup → es'.length ≤ 12 →
      es'.map Ent.pu = hearL d.near d.far (d.ents.map Ent.pu) z count → AnsAt H3 r (hearA d.near d.far (d.ents.map Ent.pu) z count) z deed →
      tSeq (tDrop (tBM K "list" rAppend (tAt (He.ga K "Door") fDoor DoorV.rows (tVar 0)) (tCons (tTup (tCons (tC (.str "hear")) (tCons (tVar 1) (tCons (tVar 2) tNil)))) tNil))) (tRet (tVar 2)) D
        [some (.ref d.p), some (.ref pr), some (.ref r)] H3 := by
    intro D H3 r es' hD f3 h1 h2 h3 h4 h5 h6
    have hx3 := f3 _ _ hxs n2
    refine ⟨_, rfl, _, _, d.V, rfl, f3 _ _ hd2.ob n1, Or.inl ⟨rfl, _, SqL.of hx3⟩, _, rfl, _, rfl, (by show 3 ≤ sizeLine; decide), fun b hb => ?_⟩
    have n3 : d.rw' ≠ b := ne_of_none hx3 hb
    refine ⟨d.rw', _, _, rfl, rfl, (upd_ne n3).trans hx3, sz_lt (by omega), ?_⟩
    have n4 : d.en ≠ b := ne_of_none h1 hb
    have fr : ∀ o1 o2, Fr2 d.en d.rw' H2 (upd (upd H3 b o1) d.rw' o2) := fun o1 o2 c o hc hx hy => by
      have h := f3 _ _ hc hx
      rw [upd_ne hy, upd_ne (ne_of_none h hb)]
      exact h
    have tk : ∀ o1 o2, TupK H3 (upd (upd H3 b o1) d.rw' o2) := fun o1 o2 => (TupK.of (same_new hb)).upd (fun xs e => by rw [hx3] at e; cases e)
    rw [← hD] at q
    refine ⟨_, rfl, q r es' _ ((Fr2.of s02).trans (fr _ _)) (hd2.put (fr _ _) ((upd_ne n2.symm).trans ((upd_ne n4).trans h1)) ⟨_, upd_same, ?_⟩ (fun e he => (h2 e he).tk (tk _ _)) h3 h4) h5 (h6.tk (tk _ _))⟩
    rw [List.length_append]
    show xs.length + 1 ≤ n + 1
    omega
  refine ⟨_, rfl, pr, _, _, V.str z, rfl, rfl, SqT.of hpo, rfl, _, rfl, _, _, d.V, rfl, hd2.ob, d.en, _, rfl, DGet.k (k := Sum.inr z) hd2.ens, _, rfl, ?_⟩
  rw [val_dk]
  have hfe := fE_pu d.ents z
  cases hf : fnd Ent.nm d.ents z with
  | none =>
    rw [hf] at hfe
    refine ifF rfl ?_
    refine fin _ H2 u d.ents rfl (fun b o h _ => h) hd2.ens hd2.ent hd2.nd hd2.el ?_ ?_
    · unfold hearL
      rw [hfe] <;> rfl
    · unfold hearA
      rw [hfe]
      exact hu2
  | some e =>
    rw [hf] at hfe
    obtain ⟨hem, hen⟩ := fnd_ok hf
    refine ifT rfl ?_
    refine ⟨_, rfl, _, _, d.V, rfl, hd2.ob, _, rfl, d, pr, tab, key, n, z, count, deed, e, rfl, hd2, hT, hl, ⟨⟨c, hpo, hpc⟩, hz, hc0, hc1, hdd⟩, hf, fun r a e' H3 s3 hr ha he' hpu => ?_⟩
    have hd3 := hd2.same s3
    have hnm : e'.nm = z := congrArg Prod.fst hpu
    refine ⟨r, _, rfl, SqT.of hr, rfl, _, _, rfl, _, _, rfl, _, rfl, _, _, d.V, rfl, hd3.ob, _, rfl, pr, _, _, V.str z, rfl, rfl, SqT.of (s3 _ _ hpo), rfl, d.en, _, rfl, DPut.k (k := Sum.inr z) hd3.ens (by rw [dk_len]; have := hd3.el; exact sz_lt (by omega)), rfl, ?_⟩
    rw [show putK (dk Ent.nm Ent.a d.ents) (Sum.inr z) (V.ref e'.a) = dk Ent.nm Ent.a (setN Ent.nm d.ents z e') from put_old hf hnm]
    have tk : ∀ o, TupK H3 (upd H3 d.en o) := fun o => (TupK.refl H3).upd (fun xs e => by rw [hd3.ens] at e; cases e)
    refine fin _ _ a (setN Ent.nm d.ents z e') rfl (fun b o h hne => (upd_ne hne).trans (s3 _ _ h)) upd_same (fun x hx => ?_) (by rw [setN_nm _ _ _ hnm]; exact hd2.nd) (by rw [setN_len]; exact hd2.el) ?_ ?_
    · rcases mem_setN hx with h | h
      · rw [h]; exact he'.tk (tk _)
      · exact (hd3.ent x h.1).tk (tk _)
    · unfold hearL
      rw [hfe]
      exact setN_pu hpu
    · unfold hearA
      rw [hfe]
      exact ha.tk (tk _)
/-- a row told of a button -/
def RowAt (H : Hp) (t : Addr) (e : Ent) : Prop := H t = some (.tup [.str e.nm, .int 0, .int e.last, e.wV])
def RowsAt (H : Hp) (ts : List Addr) (es : List Ent) : Prop := ts.length = es.length ∧ ∀ (i : Nat) (t : Addr) (e : Ent), ts[i]? = some t → es[i]? = some e → RowAt H t e
theorem RowsAt.tk {H H' : Hp} {ts : List Addr} {es : List Ent} (s : TupK H H') (h : RowsAt H ts es) : RowsAt H' ts es := ⟨h.1, fun i t e h1 h2 => s _ _ (h.2 i t e h1 h2)⟩
def spDoorKnown (K : PySem.W.Frag) : Sp := fun vs H Q _ => ∃ (d : DoorR) (tab key : List Int) (n : Nat), vs = [.ref d.p] ∧ DoorAt K H tab key n d ∧
  ∀ (r : Addr) (ts : List Addr) (es : List Ent) (H' : Hp), Same H H' → es.Perm d.ents → sortedS (es.map Ent.nm) = true → H' r = some (.tup (ts.map V.ref)) → RowsAt H' ts es → Q (.ref r) H'
theorem fm_congr {α β : Type} {f g : α → Option β} : ∀ {l : List α}, (∀ x, x ∈ l → f x = g x) → l.filterMap f = l.filterMap g
  | [], _ => rfl
  | x :: r, h => by rw [List.filterMap_cons, List.filterMap_cons, h x List.mem_cons_self, fm_congr fun y hy => h y (List.mem_cons_of_mem _ hy)]
theorem perm_of_names {es : List Ent} {ys : List Str} (hn : (es.map Ent.nm).Nodup) (hp : ys.Perm (es.map Ent.nm)) : ∃ fs : List Ent, fs.Perm es ∧ fs.map Ent.nm = ys := by
  refine ⟨ys.filterMap fun y => fnd Ent.nm es y, ?_, ?_⟩
  · refine ((hp.filterMap _).trans ?_)
    rw [List.filterMap_map]
    rw [fm_congr (f := (fun y => fnd Ent.nm es y) ∘ Ent.nm) (g := some) fun e he => fnd_mem hn he, List.filterMap_some]
  · have all : ∀ y, y ∈ ys → ∃ e, fnd Ent.nm es y = some e := fun y hy => by
      obtain ⟨e, he, rfl⟩ := List.mem_map.mp (hp.mem_iff.mp hy)
      exact ⟨e, fnd_mem hn he⟩
    clear hp
    induction ys with
    | nil => rfl
    | cons y r ih =>
      obtain ⟨e, he⟩ := all y List.mem_cons_self
      rw [List.filterMap_cons, he, List.map_cons, (fnd_ok he).2, ih fun y hy => all y (List.mem_cons_of_mem _ hy)]
abbrev N_Door_KnownNow : List Str := ["self", "name"]
theorem sc_Door_KnownNow : FnScope N_Door_KnownNow ["self"] (defScope s_Door_KnownNow) := ⟨rfl, rfl, rfl, by decide +kernel, rfl, by decide +kernel, by decide +kernel⟩
theorem c_Door_KnownNow (T : Tx P w K mg base) : CalM P w K mg base (He.ga K "Door") "known_now" 1 ["self"] (spDoorKnown K) := by
  refine calM_mk T.df_Door_KnownNow T.m_Door_KnownNow sc_Door_KnownNow (fun _ _ _ _ _ _ us hl => match us, hl with | [_], _ => rfl) ?len (fun f cdv A outer s H vs Q E hr h => ?body)
  case len => walk_at "len"
  have nd := sc_Door_KnownNow.nd
  refine ⟨_, (pss_one (ps_ret (pe_callTy (T := "tuple") call_tuple_of (by rfl) T.f_tuple (by decide +kernel) (pa_cons (pe_lc (own := [("name", 1)]) (g := gName 1) (tt := tYes) rfl nd (pi_list (pe_callB (call_sortedD rfl) (by rfl) T.f_sorted (by decide +kernel) (pa_cons (pe_at T.cls_Door T.na_Door_entries lk_Door_entries (pv 0)) pa_nil))) (blkOk_by (own := [("name", 1)]) (N := N_Door_KnownNow) (sc := defScope s_Door_KnownNow) (by decide +kernel)) (fun _ _ _ _ _ => (pg_name (i := 1) nd rfl (Or.inl rfl))) (fun _ _ _ _ _ => pts_nil) (fun _ _ _ _ _ => (pe_op (r := rCatA K) op_catA (pe_tup (pa_cons (pv 1) pa_nil)) (pe_dget (hu_of hr) (pe_at T.cls_Door T.na_Door_entries lk_Door_entries (pv 0)) (pv 1) (fun _ _ => rfl))))) pa_nil)))), ?_⟩
  obtain ⟨d, tab, key, n, rfl, hd, q⟩ := h
  refine ⟨_, rfl, _, _, d.V, rfl, hd.ob, d.en, _, d.ents.map Ent.nm, rfl, Or.inl hd.ens, dk_keys _, (by rw [List.length_map]; have := hd.el; omega), fun ys p hp hs hp0 => ?_⟩
  obtain ⟨es, he1, he2⟩ := perm_of_names hd.nd hp
  subst he2
  have hel : es.length ≤ 12 := by rw [he1.length_eq]; exact hd.el
  generalize eu : upd H p _ = H1
  have s1 : Same H H1 := by rw [← eu]; exact same_new hp0
  have hp1 : H1 p = some (.lst ((es.map Ent.nm).map V.str)) := by rw [← eu]; exact upd_same
  clear eu
  have hd1 := hd.same s1
  refine ⟨p, rfl, ⟨_, SqL.of hp1⟩, fun D hD => lc_list (K := K) (a := p) (xs := (es.map Ent.nm).map V.str) (fun i H' => Same H1 H' ∧ ∃ ts : List Addr, H' D = some (.lst (ts.map V.ref)) ∧ RowsAt H' ts (es.take i)) ⟨same_new hD, [], upd_same, rfl, fun i t e h => by cases h⟩ (fun i H' _ p => p.1.seq (SqL.of hp1)) (fun i x H2 hi p => ⟨rfl, ?_⟩) (fun H2 p => ?_)⟩
  · obtain ⟨s2, ts, hts, hr⟩ := p
    obtain ⟨y, hy, rfl⟩ := map_get hi
    obtain ⟨e, hei, rfl⟩ := map_get hy
    have hem := he1.mem_iff.mp (List.mem_of_getElem? hei)
    have hd2 := hd1.same s2
    have hE := hd2.ent e hem
    refine ⟨_, rfl, (by show 1 ≤ sizeLine; decide), fun t0 ht0 => ?_⟩
    have s3 : ∀ o, Same H2 (upd H2 t0 o) := fun o => same_new ht0
    have hE3 := hE.tk (.of (s3 (.tup [.str e.nm])))
    refine ⟨_, rfl, _, _, d.V, rfl, s3 _ _ _ hd2.ob, _, rfl, d.en, _, rfl, (by have g := DGet.k (k := Sum.inr e.nm) (s3 (.tup [.str e.nm]) _ _ hd2.ens); rw [val_dk, fnd_mem hd.nd hem] at g; exact g), t0, e.a, _, _, rfl, rfl, SqT.of upd_same, SqT.of hE3.ob, (by show 1 + 3 ≤ sizeLine; decide), (fun h => by cases h), (fun _ h => by cases h), fun _ _ t ht => ?_⟩
    have ts2 : ∀ o1 o2, (upd H2 t0 o1) t = none → Same H2 (upd (upd H2 t0 o1) t o2) := fun o1 o2 h => (same_new ht0).trans (same_new h)
    have hl : ts.length = i := by
      rw [hr.1, List.length_take]
      have := (List.getElem?_eq_some_iff.mp hei).1
      omega
    have nD : ∀ o, H2 D = some o → D ≠ t0 ∧ D ≠ t := fun o h => ⟨ne_of_none h ht0, ne_of_none (s3 _ _ _ h) ht⟩
    obtain ⟨nD1, nD2⟩ := nD _ hts
    refine ⟨ts.map V.ref, (upd_ne nD2).trans ((upd_ne nD1).trans hts), ?_, same_mut (s2.trans (ts2 _ _ ht)) hD, ts ++ [t], ?_, ?_⟩
    · rw [List.length_map]
      have := (List.getElem?_eq_some_iff.mp hei).1
      exact sz_lt (by omega)
    · rw [List.map_append]
      exact upd_same
    · have tk : ∀ o1 o2 o3, (upd H2 t0 o1) t = none → TupK H2 (upd (upd (upd H2 t0 o1) t o2) D o3) := fun o1 o2 o3 h => (TupK.of (ts2 _ _ h)).upd (fun xs e => by rw [hts] at e; cases e)
      refine ⟨?_, fun j t1 e1 h1 h2 => ?_⟩
      · rw [take_more hei, List.length_append, List.length_append, hr.1] <;> rfl
      · rw [take_more hei] at h2
        by_cases hj : j < ts.length
        · rw [List.getElem?_append_left hj] at h1
          rw [List.getElem?_append_left (by rw [← hr.1]; exact hj)] at h2
          exact tk _ _ _ ht _ _ (hr.2 j t1 e1 h1 h2)
        · rw [List.getElem?_append_right (by omega)] at h1
          rw [List.getElem?_append_right (by rw [← hr.1]; omega), ← hr.1] at h2
          have hj0 : j - ts.length = 0 := by
            have := (List.getElem?_eq_some_iff.mp h1).1
            simp at this
            omega
          rw [hj0] at h1 h2
          obtain rfl : t = t1 := Option.some.inj h1
          obtain rfl : e = e1 := Option.some.inj h2
          show upd _ _ _ t = _
          rw [upd_ne nD2.symm]
          exact upd_same
  · obtain ⟨s2, ts, hts, hr⟩ := p
    rw [List.length_map, List.length_map, List.take_length] at hr
    refine ⟨D, _, rfl, Or.inl ⟨SqL.of hts, fun r hr0 => ?_⟩⟩
    exact q r ts es _ (s1.trans (s2.trans (same_new hr0))) he1 hs upd_same (hr.tk (.of (same_new hr0)))
def spDoorClosed (K : PySem.W.Frag) : Sp := fun vs H Q _ => ∃ (d : DoorR) (tab key : List Int) (n : Nat), vs = [.ref d.p] ∧ DoorAt K H tab key n d ∧ Q (.int 0) H
abbrev N_Door_ClosedNow : List Str := ["self"]
theorem sc_Door_ClosedNow : FnScope N_Door_ClosedNow ["self"] (defScope s_Door_ClosedNow) := ⟨rfl, rfl, rfl, by decide +kernel, rfl, by decide +kernel, by decide +kernel⟩
theorem c_Door_ClosedNow (T : Tx P w K mg base) : CalM P w K mg base (He.ga K "Door") "closed_now" 1 ["self"] (spDoorClosed K) := by
  refine calM_mk T.df_Door_ClosedNow T.m_Door_ClosedNow sc_Door_ClosedNow (fun _ _ _ _ _ _ us hl => match us, hl with | [_], _ => rfl) ?len (fun f cdv A outer s H vs Q E hr h => ?body)
  case len => walk_at "len"
  have nd := sc_Door_ClosedNow.nd
  refine ⟨_, (pss_one (ps_ret (pe_at T.cls_Door T.na_Door_least_age lk_Door_least_age (pv 0)))), ?_⟩
  obtain ⟨d, tab, key, n, rfl, hd, q⟩ := h
  exact ⟨_, rfl, _, _, d.V, rfl, hd.ob, q⟩
def spDoorBounds (K : PySem.W.Frag) : Sp := fun vs H Q _ => ∃ (d : DoorR) (tab key : List Int) (n : Nat), vs = [.ref d.p] ∧ DoorAt K H tab key n d ∧ Q (.ref d.bd) H
abbrev N_Door_BoundsTold : List Str := ["self"]
theorem sc_Door_BoundsTold : FnScope N_Door_BoundsTold ["self"] (defScope s_Door_BoundsTold) := ⟨rfl, rfl, rfl, by decide +kernel, rfl, by decide +kernel, by decide +kernel⟩
theorem c_Door_BoundsTold (T : Tx P w K mg base) : CalM P w K mg base (He.ga K "Door") "bounds_told" 1 ["self"] (spDoorBounds K) := by
  refine calM_mk T.df_Door_BoundsTold T.m_Door_BoundsTold sc_Door_BoundsTold (fun _ _ _ _ _ _ us hl => match us, hl with | [_], _ => rfl) ?len (fun f cdv A outer s H vs Q E hr h => ?body)
  case len => walk_at "len"
  have nd := sc_Door_BoundsTold.nd
  refine ⟨_, (pss_one (ps_ret (pe_at T.cls_Door T.na_Door_bounds lk_Door_bounds (pv 0)))), ?_⟩
  obtain ⟨d, tab, key, n, rfl, hd, q⟩ := h
  exact ⟨_, rfl, _, _, d.V, rfl, hd.ob, q⟩
def spDoorTwin (K : PySem.W.Frag) : Sp := fun vs H Q _ => ∃ (d : DoorR) (tab key : List Int) (n : Nat), vs = [.ref d.p] ∧ DoorAt K H tab key n d ∧ n ≤ 10000 ∧
  ∀ (d2 : DoorR) (H' : Hp), Same H H' → DoorAt K H' tab key n d2 → d2.ents = d.ents → Q (.ref d2.p) H'
abbrev N_Door_TwinDoor : List Str := ["self", "made"]
theorem sc_Door_TwinDoor : FnScope N_Door_TwinDoor ["self"] (defScope s_Door_TwinDoor) := ⟨rfl, rfl, rfl, by decide +kernel, rfl, by decide +kernel, by decide +kernel⟩
theorem c_Door_TwinDoor (T : Tx P w K mg base) : CalM P w K mg base (He.ga K "Door") "twin_door" 3 ["self"] (spDoorTwin K) := by
  refine calM_mk T.df_Door_TwinDoor T.m_Door_TwinDoor sc_Door_TwinDoor (fun _ _ _ _ _ _ us hl => match us, hl with | [_], _ => rfl) ?len (fun f cdv A outer s H vs Q E hr h => ?body)
  case len => walk_at "len"
  have nd := sc_Door_TwinDoor.nd
  refine ⟨_, (pss_cons (ps_set (i := 1) nd rfl (Or.inl rfl) (pe_mk (c_Door_Init T) (hr.mono (by decide)) T.g_Door (pa_cons (pe_at T.cls_Door T.na_Door_table lk_Door_table (pv 0)) (pa_cons (pe_at T.cls_Door T.na_Door_house_keys lk_Door_house_keys (pv 0)) (pa_cons (pe_ix ix_tup (pe_at T.cls_Door T.na_Door_bounds lk_Door_bounds (pv 0)) pe_int (fun _ _ => rfl)) (pa_cons (pe_ix ix_tup (pe_at T.cls_Door T.na_Door_bounds lk_Door_bounds (pv 0)) pe_int (fun _ _ => rfl)) (pa_cons (pe_ix ix_tup (pe_at T.cls_Door T.na_Door_bounds lk_Door_bounds (pv 0)) pe_int (fun _ _ => rfl)) pa_nil)))))))
    (pss_cons (ps_at T.cls_Door T.na_Door_first_keys pf_Door_first_keys lz_Door (pv 1) (pe_at T.cls_Door T.na_Door_first_keys lk_Door_first_keys (pv 0)))
    (pss_cons (ps_at T.cls_Door T.na_Door_least_age pf_Door_least_age lz_Door (pv 1) (pe_at T.cls_Door T.na_Door_least_age lk_Door_least_age (pv 0)))
    (pss_cons (ps_at T.cls_Door T.na_Door_entries pf_Door_entries lz_Door (pv 1) (pe_callTy (T := "dict") call_dictD (by rfl) T.f_dict (by decide +kernel) (pa_cons (pe_at T.cls_Door T.na_Door_entries lk_Door_entries (pv 0)) pa_nil)))
    (pss_cons (ps_at T.cls_Door T.na_Door_rows pf_Door_rows lz_Door (pv 1) (pe_callTy (T := "list") call_list_of (by rfl) T.f_list (by decide +kernel) (pa_cons (pe_at T.cls_Door T.na_Door_rows lk_Door_rows (pv 0)) pa_nil)))
    (pss_one (ps_ret (pv 1)))))))), ?_⟩
  obtain ⟨d, tab, key, n, rfl, hd, hn, q⟩ := h
  have hb : SqT K H d.bd [.int d.near, .int d.far, .int d.most] := SqT.of hd.bo
  refine ⟨_, rfl, _, _, d.V, rfl, hd.ob, _, rfl, _, _, d.V, rfl, hd.ob, _, rfl, _, _, d.V, rfl, hd.ob, d.bd, _, _, V.int d.near, rfl, rfl, hb, rfl, _, rfl, _, _, d.V, rfl, hd.ob, d.bd, _, _, V.int d.far, rfl, rfl, hb, rfl, _, rfl, _, _, d.V, rfl, hd.ob, d.bd, _, _, V.int d.most, rfl, rfl, hb, rfl, fun x dx hx hdx hne => ?_⟩
  have s1 : ∀ o1 o2, Same H (upd (upd H dx o1) x o2) := fun o1 o2 => (same_new hdx).trans (same_new (by rw [upd_ne hne.symm]; exact hx))
  refine ⟨x, dx, d.t, d.kl, tab, key, d.keys, d.near, d.far, d.most, rfl, upd_same, s1 _ _ _ _ hd.tb, Or.inl (s1 _ _ _ _ hd.kls), hd.kz.tk (.of (s1 _ _)), fun nm kl bd en rw' op fk H2 hkl hbd hen hrw hd2 fr => ⟨rfl, ?_⟩⟩
  have s2 : Same H H2 := fun b o hb => fr b o (s1 _ _ _ _ hb) (ne_of_none hb hx)
  have hd' := hd.same s2
  refine ⟨_, rfl, _, _, d.V, rfl, hd'.ob, _, rfl, _, _, DoorR.V _, rfl, hd2.ob, ?_⟩
  have hdx := hd'.ob
  have nx : ∀ {b : Addr} {o : HO}, H b = some o → b ≠ x := fun hb => ne_of_none hb hx
  refine ⟨_, rfl, _, _, d.V, rfl, (upd_ne (nx hd.ob)).trans hd'.ob, _, rfl, _, _, _, rfl, upd_same, ?_⟩
  rw [upd_upd]
  refine ⟨_, rfl, _, _, d.V, rfl, (upd_ne (nx hd.ob)).trans hd'.ob, d.en, _, rfl, Or.inl ((upd_ne (nx hd.ens)).trans hd'.ens), fun en2 hen2 => ?_⟩
  have ne2 : x ≠ en2 := ne_of_none upd_same hen2
  refine ⟨_, rfl, _, _, _, rfl, (upd_ne ne2).trans upd_same, ?_⟩
  obtain ⟨xs, hxs, hxl⟩ := hd.rws
  have f2 : ∀ {b : Addr} {o : HO} (o1 : HO), H2 b = some o → upd H2 x o1 en2 = none → b ≠ en2 := fun {b o} o1 hb he => by
    intro e
    rw [← e] at he
    by_cases c : b = x
    · rw [c, upd_same] at he; cases he
    · rw [upd_ne c, hb] at he; cases he
  have nen : ∀ {b : Addr} {o : HO}, H2 b = some o → b ≠ en2 := fun hb => f2 _ hb hen2
  have nrx := nx hxs
  have hx2 := s2 _ _ hxs
  refine ⟨_, rfl, _, _, d.V, rfl, (upd_ne (nx hd.ob)).trans ((upd_ne (nen hd'.ob)).trans ((upd_ne (nx hd.ob)).trans hd'.ob)), d.rw', _, rfl, Or.inl (SqL.of ((upd_ne nrx).trans ((upd_ne (nen hx2)).trans ((upd_ne nrx).trans hx2)))), fun l hl => ?_⟩
  have nlx : x ≠ l := ne_of_none upd_same hl
  have nle : en2 ≠ l := ne_of_none ((upd_ne ne2.symm).trans upd_same) hl
  have nl : ∀ {b : Addr} {o : HO}, H2 b = some o → b ≠ l := fun {b o} hb e => by
    by_cases c : b = x
    · exact nlx (by rw [← c]; exact e)
    · rw [← e, upd_ne c, upd_ne (nen hb), upd_ne c, hb] at hl
      cases hl
  refine ⟨_, rfl, _, _, _, rfl, (upd_ne nlx).trans upd_same, ?_⟩
  have kp : ∀ (o1 o2 o3 o4 o5 : HO) (b : Addr) (o : HO), H2 b = some o → b ≠ x → upd (upd (upd (upd (upd H2 x o1) en2 o2) x o3) l o4) x o5 b = some o := fun o1 o2 o3 o4 o5 b o hb c => by
    rw [upd_ne c, upd_ne (nl hb), upd_ne c, upd_ne (nen hb), upd_ne c]
    exact hb
  have sm : ∀ (o1 o2 o3 o4 o5 : HO), Same H (upd (upd (upd (upd (upd H2 x o1) en2 o2) x o3) l o4) x o5) := fun o1 o2 o3 o4 o5 b o hb => kp _ _ _ _ _ _ _ (s2 _ _ hb) (nx hb)
  have tk : ∀ (o1 o2 o3 o4 o5 : HO), TupK H2 (upd (upd (upd (upd (upd H2 x o1) en2 o2) x o3) l o4) x o5) := fun o1 o2 o3 o4 o5 b xs hb => kp _ _ _ _ _ _ _ hb (ne_of hb hd2.ob (by intro z; cases z))
  refine ⟨_, rfl, q ⟨nm, x, dx, d.t, kl, bd, en2, l, op, d.near, d.far, d.most, d.fk, d.keys, d.ents⟩ _ (sm _ _ _ _ _) ⟨upd_same, sm _ _ _ _ _ _ _ hd.tb, kp _ _ _ _ _ _ _ hd2.kls (ne_of hd2.kls hd2.ob (by intro z; cases z)), tk _ _ _ _ _ _ _ hd2.bo, ?_, ⟨xs, ?_, hxl⟩, hd2.kz.tk (tk _ _ _ _ _), fun e he => (hd'.ent e he).tk (tk _ _ _ _ _), hd.nd, hd.el, nl hd2.kls⟩ rfl⟩
  · show upd _ _ _ en2 = _
    rw [upd_ne ne2.symm, upd_ne nle, upd_ne ne2.symm]
    exact upd_same
  · show upd _ _ _ l = _
    rw [upd_ne nlx.symm]
    exact upd_same
end
end K69
end
section
set_option Elab.async false
set_option linter.all false
set_option maxRecDepth 100000
set_option maxHeartbeats 4000000
local macro_rules | `(tactic| walk_at "len") => `(tactic| (intro vs H Q E h; first
  | (obtain ⟨e, _⟩ := h; subst e; rfl) | (obtain ⟨_, e, _⟩ := h; subst e; rfl) | (obtain ⟨_, _, e, _⟩ := h; subst e; rfl) | (obtain ⟨_, _, _, e, _⟩ := h; subst e; rfl) | (obtain ⟨_, _, _, _, e, _⟩ := h; subst e; rfl)
  | (obtain ⟨_, _, _, _, _, e, _⟩ := h; subst e; rfl) | (obtain ⟨_, _, _, _, _, _, e, _⟩ := h; subst e; rfl) | (obtain ⟨_, _, _, _, _, _, _, e, _⟩ := h; subst e; rfl) | (obtain ⟨_, _, _, _, _, _, _, _, e, _⟩ := h; subst e; rfl)
  | (obtain ⟨_, _, _, _, _, _, _, _, _, e, _⟩ := h; subst e; rfl) | (obtain ⟨_, _, _, _, _, _, _, _, _, _, e, _⟩ := h; subst e; rfl) | (obtain ⟨_, _, _, _, _, _, _, _, _, _, _, e, _⟩ := h; subst e; rfl)))
local macro_rules | `(tactic| walk_at "hh") => `(tactic| first
  | assumption
  | exact L2.upd_same
  | (refine (L2.upd_ne (by walk_at "ne")).trans ?_; walk_at "hh")
  | (refine (‹L2.Same _ _› : L2.Same _ _) _ _ ?_; walk_at "hh"))
local macro_rules | `(tactic| walk_at "ne") => `(tactic| first
  | assumption
  | (apply Ne.symm; assumption)
  | exact L2.ne_of_none (by walk_at "hh") (by assumption)
  | exact (L2.ne_of_none (by walk_at "hh") (by assumption)).symm)
local macro_rules | `(tactic| walk_at "s") => `(tactic| first
  | refine ⟨_, rfl, ?_⟩
  | refine ⟨_, _, _, rfl, (by walk_at "hh"), ?_⟩
  | refine ⟨rfl, ?_⟩
  | refine ⟨_, _, rfl, rfl, ?_⟩)
local macro_rules | `(tactic| walk_at "isi int") => `(tactic| refine ⟨_, _, _, _, true, rfl, .ty "int", .base (.int _), L2.kit_ty (by decide +kernel), ?_⟩)
local macro_rules | `(tactic| walk_at "isi bool") => `(tactic| refine ⟨_, _, _, _, false, rfl, .ty "bool", .base (.int _), L2.kit_ty (by decide +kernel), ?_⟩)
local macro_rules | `(tactic| walk_at "isi tuple") => `(tactic| refine ⟨_, _, _, _, true, rfl, .ty "tuple", .base (.tup (by assumption)), L2.kit_ty (by decide +kernel), ?_⟩)
local macro_rules | `(tactic| walk_at "isi str") => `(tactic| refine ⟨_, _, _, _, true, rfl, .ty "str", .base (.str _), L2.kit_ty (by decide +kernel), ?_⟩)
local macro_rules | `(tactic| walk_at "v") => `(tactic| refine ⟨_, rfl, ?_⟩)
local macro_rules | `(tactic| walk_at "ii") => `(tactic| refine ⟨_, _, rfl, rfl, ?_⟩)
namespace K69
open PySem PySem.Spec PyProof.Rows L2
/-! ### house.py: what a house is -/
inductive Tag where
  | no
  | hs (i : Nat)
  | dr (k : Str) (i : Nat)
  | bt (k : Str) (i : Nat)
def tg (a : Addr) (x : Tag) (t : Addr → Tag) : Addr → Tag := fun c => if c = a then x else t c
theorem tg_same {a : Addr} {x : Tag} {t : Addr → Tag} : tg a x t a = x := if_pos rfl
theorem tg_ne {a c : Addr} {x : Tag} {t : Addr → Tag} (h : c ≠ a) : tg a x t c = t c := if_neg h
structure PD where
  nm : Str
  near : Int
  far : Int
  most : Int
  es : List PE3
def DoorR.pu (d : DoorR) : PD := ⟨d.nm, d.near, d.far, d.most, d.ents.map Ent.pu⟩
structure PH where
  doors : List PD
  btns : List PB
  kept : List (Str × Int × Int)
  nk : Nat
structure HouseR where
  p : Addr
  dx : Addr
  t : Addr
  kl : Addr
  dd : Addr
  bd : Addr
  kp : Addr
  od : Addr
  keys : List Addr
  doors : List DoorR
  btns : List BtnR
  kept : List (Addr × Str × Int × Int)
  tag : Addr → Tag
  n : Nat
def HouseR.V (h : HouseR) : HouseV := ⟨.ref h.t, .ref h.kl, .int 0, .ref h.dd, .ref h.bd, .ref h.kp, .ref h.od⟩
def HouseR.pu (h : HouseR) : PH := ⟨h.doors.map DoorR.pu, h.btns.map BtnR.s, h.kept.map Prod.snd, h.keys.length⟩
def lockO : Option Obj → HO → HO
  | none, u => u
  | some o, u => .frz o u
def BtnR.nm (b : BtnR) : Str := b.s.name
def NT (H : Hp) (a : Addr) : Prop := ∃ o, H a = some o ∧ ∀ xs, o ≠ .tup xs
structure DrAt (K : PySem.W.Frag) (H : Hp) (tab key : List Int) (n kn : Nat) (tag : Addr → Tag) (d : DoorR) : Prop where
  at_ : DoorAt K H tab key n d
  kq : d.keys.length ≤ kn
  opo : ∃ xs, H d.op = some (.lst xs) ∧ xs.length ≤ n
  t0 : tag d.p = .dr d.nm 0
  t1 : tag d.kl = .dr d.nm 1
  t2 : tag d.en = .dr d.nm 2
  t3 : tag d.rw' = .dr d.nm 3
  t4 : tag d.op = .dr d.nm 4
  mst : d.most ≤ 12
structure BtAt (K : PySem.W.Frag) (H : Hp) (tab key : List Int) (tag : Addr → Tag) (b : BtnR) : Prop where
  at_ : BtnAt K H tab key b
  t0 : tag b.p = .bt b.nm 0
  t1 : tag b.cl = .bt b.nm 1
structure HouseAt (K : PySem.W.Frag) (lk : Option Obj) (H : Hp) (tab key : List Int) (h : HouseR) : Prop where
  ob : H h.p = some (.ins (He.ga K "House") h.dx (fHouse h.V))
  tb : H h.t = some (.tup (tab.map V.int))
  kls : H h.kl = some (.lst (h.keys.map V.ref))
  ddo : H h.dd = some (lockO lk (.dK (dk DoorR.nm DoorR.p h.doors)))
  bdo : H h.bd = some (.dK (dk BtnR.nm BtnR.p h.btns))
  odo : H h.od = some (.dK (dk DoorR.nm DoorR.op h.doors))
  kpo : H h.kp = some (.lst (h.kept.map fun x => V.ref x.1))
  kz : KeysAt H key h.keys
  drs : ∀ d, d ∈ h.doors → DrAt K H tab key h.n h.keys.length h.tag d
  brs : ∀ b, b ∈ h.btns → BtAt K H tab key h.tag b
  kpt : ∀ x, x ∈ h.kept → PrAt H tab key x.1 x.2.1 x.2.2.1 x.2.2.2
  ndd : (h.doors.map DoorR.nm).Nodup
  ndb : (h.btns.map BtnR.nm).Nodup
  ht0 : h.tag h.p = .hs 0
  ht1 : h.tag h.kl = .hs 1
  ht2 : h.tag h.dd = .hs 2
  ht3 : h.tag h.bd = .hs 3
  ht4 : h.tag h.kp = .hs 4
  ht5 : h.tag h.od = .hs 5
  ow : ∀ c, h.tag c ≠ .no → NT H c
  tT : IsTab tab
  kl8 : key.length ≤ 8
  kn : h.kept.length ≤ h.n
  dn : h.doors.length ≤ 12
  bn : h.btns.length ≤ 12
/-- what is not the house's stays -/
def HFr (h h' : HouseR) (H H' : Hp) : Prop := ∀ c o, H c = some o → h.tag c = .no → H' c = some o ∧ h'.tag c = .no
theorem HFr.trans {h h' h'' : HouseR} {H H' H'' : Hp} (s : HFr h h' H H') (t : HFr h' h'' H' H'') : HFr h h'' H H'' := fun c o e n => t c o (s c o e n).1 (s c o e n).2
theorem HFr.of {h h' : HouseR} {H H' : Hp} (s : Same H H') (e : h'.tag = h.tag) : HFr h h' H H' := fun c o hc n => ⟨s c o hc, by rw [e]; exact n⟩
theorem NT.upd {H : Hp} {a c : Addr} {o : HO} (h : NT H c) (ho : ∀ xs, o ≠ .tup xs) : NT (upd H a o) c := by
  by_cases e : c = a
  · rw [e]; exact ⟨o, upd_same, ho⟩
  · obtain ⟨u, h1, h2⟩ := h
    exact ⟨u, (upd_ne e).trans h1, h2⟩
theorem NT.same {H H' : Hp} {c : Addr} (h : NT H c) (s : Same H H') : NT H' c := h.elim fun u e => ⟨u, s _ _ e.1, e.2⟩
theorem lock_nt (lk : Option Obj) (kvs : List (Key × V)) : ∀ xs, lockO lk (.dK kvs) ≠ .tup xs := by
  intro xs h
  cases lk <;> cases h
section
variable {K : PySem.W.Frag} {lk : Option Obj} {H H' : Hp} {tab key : List Int} {h : HouseR} {n m kn : Nat} {tag tag' : Addr → Tag} {d : DoorR} {b : BtnR}
theorem HouseAt.notag (hh : HouseAt K lk H tab key h) {c : Addr} (hc : H c = none) : h.tag c = .no := by
  cases e : h.tag c with
  | no => rfl
  | _ =>
    obtain ⟨o, h1, _⟩ := hh.ow c (by rw [e]; intro z; cases z)
    rw [hc] at h1
    cases h1
theorem HouseAt.tupno (hh : HouseAt K lk H tab key h) {c : Addr} {xs : List V} (hc : H c = some (.tup xs)) : h.tag c = .no := by
  cases e : h.tag c with
  | no => rfl
  | _ =>
    obtain ⟨o, h1, h2⟩ := hh.ow c (by rw [e]; intro z; cases z)
    rw [hc] at h1
    exact absurd (Option.some.inj h1).symm (h2 xs)
theorem HFr.tk {h' : HouseR} (hh : HouseAt K lk H tab key h) (s : HFr h h' H H') : TupK H H' := fun c xs e => (s c _ e (hh.tupno e)).1
theorem DrAt.same (hd : DrAt K H tab key n kn tag d) (s : Same H H') : DrAt K H' tab key n kn tag d :=
  ⟨hd.at_.same s, hd.kq, hd.opo.elim fun xs e => ⟨xs, s _ _ e.1, e.2⟩, hd.t0, hd.t1, hd.t2, hd.t3, hd.t4, hd.mst⟩
theorem DrAt.more (hd : DrAt K H tab key n kn tag d) (hm : n ≤ m) : DrAt K H tab key m kn tag d :=
  ⟨hd.at_.more hm, hd.kq, hd.opo.elim fun xs e => ⟨xs, e.1, Nat.le_trans e.2 hm⟩, hd.t0, hd.t1, hd.t2, hd.t3, hd.t4, hd.mst⟩
theorem DrAt.wide (hd : DrAt K H tab key n kn tag d) {km : Nat} (hm : kn ≤ km) : DrAt K H tab key n km tag d :=
  ⟨hd.at_, Nat.le_trans hd.kq hm, hd.opo, hd.t0, hd.t1, hd.t2, hd.t3, hd.t4, hd.mst⟩
theorem tag_up (s : ∀ c, tag c ≠ .no → tag' c = tag c) {c : Addr} {x : Tag} (h : tag c = x) (hx : x ≠ .no) : tag' c = x := (s c (by rw [h]; exact hx)).trans h
theorem DrAt.tg (hd : DrAt K H tab key n kn tag d) (s : ∀ c, tag c ≠ .no → tag' c = tag c) : DrAt K H tab key n kn tag' d :=
  ⟨hd.at_, hd.kq, hd.opo, tag_up s hd.t0 (by intro z; cases z), tag_up s hd.t1 (by intro z; cases z), tag_up s hd.t2 (by intro z; cases z), tag_up s hd.t3 (by intro z; cases z), tag_up s hd.t4 (by intro z; cases z), hd.mst⟩
theorem BtAt.same (hb : BtAt K H tab key tag b) (s : Same H H') : BtAt K H' tab key tag b := ⟨hb.at_.same s, hb.t0, hb.t1⟩
theorem BtAt.tg (hb : BtAt K H tab key tag b) (s : ∀ c, tag c ≠ .no → tag' c = tag c) : BtAt K H tab key tag' b := ⟨hb.at_, tag_up s hb.t0 (by intro z; cases z), tag_up s hb.t1 (by intro z; cases z)⟩
/-- a door that keeps its own objects and every tuple -/
theorem DrAt.fr (hd : DrAt K H tab key n kn tag d) (f : ∀ c o, H c = some o → (∃ i, tag c = .dr d.nm i) → H' c = some o) (tk : TupK H H') : DrAt K H' tab key n kn tag d := by
  obtain ⟨⟨ob, tb, kls, bo, ens, rws, kz, ent, nd, el, ne⟩, kq, opo, t0, t1, t2, t3, t4, mst⟩ := hd
  exact ⟨⟨f _ _ ob ⟨_, t0⟩, tk _ _ tb, f _ _ kls ⟨_, t1⟩, tk _ _ bo, f _ _ ens ⟨_, t2⟩, rws.elim fun xs e => ⟨xs, f _ _ e.1 ⟨_, t3⟩, e.2⟩, kz.tk tk, fun e he => (ent e he).tk tk, nd, el, ne⟩, kq, opo.elim fun xs e => ⟨xs, f _ _ e.1 ⟨_, t4⟩, e.2⟩, t0, t1, t2, t3, t4, mst⟩
theorem BtAt.fr (hb : BtAt K H tab key tag b) (f : ∀ c o, H c = some o → (∃ i, tag c = .bt b.nm i) → H' c = some o) (tk : TupK H H') : BtAt K H' tab key tag b := by
  obtain ⟨⟨ob, tb, ky, ce, ok⟩, t0, t1⟩ := hb
  exact ⟨⟨f _ _ ob ⟨_, t0⟩, tk _ _ tb, tk _ _ ky, f _ _ ce ⟨_, t1⟩, ok⟩, t0, t1⟩
theorem HouseAt.same (hh : HouseAt K lk H tab key h) (s : Same H H') : HouseAt K lk H' tab key h :=
  ⟨s _ _ hh.ob, s _ _ hh.tb, s _ _ hh.kls, s _ _ hh.ddo, s _ _ hh.bdo, s _ _ hh.odo, s _ _ hh.kpo, hh.kz.tk (.of s), fun d hd => (hh.drs d hd).same s, fun b hb => (hh.brs b hb).same s, fun x hx => (hh.kpt x hx).tk (.of s), hh.ndd, hh.ndb,
    hh.ht0, hh.ht1, hh.ht2, hh.ht3, hh.ht4, hh.ht5, fun c hc => (hh.ow c hc).same s, hh.tT, hh.kl8, hh.kn, hh.dn, hh.bn⟩
theorem HouseAt.more (hh : HouseAt K lk H tab key h) (hm : h.n ≤ m) : HouseAt K lk H tab key { h with n := m } :=
  ⟨hh.ob, hh.tb, hh.kls, hh.ddo, hh.bdo, hh.odo, hh.kpo, hh.kz, fun d hd => (hh.drs d hd).more hm, hh.brs, hh.kpt, hh.ndd, hh.ndb, hh.ht0, hh.ht1, hh.ht2, hh.ht3, hh.ht4, hh.ht5, hh.ow, hh.tT, hh.kl8, Nat.le_trans hh.kn hm, hh.dn, hh.bn⟩
theorem fr2_tk {a c : Addr} (hh : HouseAt K lk H tab key h) (f : Fr2 a c H H') (ta : h.tag a ≠ .no) (tc : h.tag c ≠ .no) : TupK H H' :=
  f.tk (fun xs e => ta (hh.tupno e)) (fun xs e => tc (hh.tupno e))
theorem HouseAt.ow2 {a c : Addr} (hh : HouseAt K lk H tab key h) (f : Fr2 a c H H') (na : NT H' a) (nc : NT H' c) : ∀ x, h.tag x ≠ .no → NT H' x := fun x hx => by
  by_cases e1 : x = a
  · rw [e1]; exact na
  by_cases e2 : x = c
  · rw [e2]; exact nc
  obtain ⟨o, h1, h2⟩ := hh.ow x hx
  exact ⟨o, f _ _ h1 e1 e2, h2⟩
/-- two objects of one door changed -/
theorem HouseAt.door_upd (hh : HouseAt K lk H tab key h) (hd : d ∈ h.doors) {a c : Addr} {i j : Nat} (f : Fr2 a c H H') (ta : h.tag a = .dr d.nm i) (tc : h.tag c = .dr d.nm j) (na : NT H' a) (nc : NT H' c) {d' : DoorR}
    (hd' : DrAt K H' tab key m h.keys.length h.tag d') (e1 : d'.nm = d.nm) (e2 : d'.p = d.p) (e3 : d'.op = d.op) (hm : h.n ≤ m) :
    HouseAt K lk H' tab key { h with doors := setN DoorR.nm h.doors d.nm d', n := m } ∧ HFr h { h with doors := setN DoorR.nm h.doors d.nm d', n := m } H H' := by
  have tk : TupK H H' := fr2_tk hh f (by rw [ta]; intro z; cases z) (by rw [tc]; intro z; cases z)
  have k1 : ∀ {x : Addr} {o : HO} {t : Tag}, H x = some o → h.tag x = t → (∀ i, t ≠ .dr d.nm i) → H' x = some o := fun {x o t} hx ht hn => f _ _ hx (fun e => hn i (by rw [← ht, e, ta])) (fun e => hn j (by rw [← ht, e, tc]))
  have dke : ∀ ad : DoorR → Addr, ad d' = ad d → dk DoorR.nm ad (setN DoorR.nm h.doors d.nm d') = dk DoorR.nm ad h.doors := fun ad ha => by
    unfold dk setN
    rw [List.map_map]
    refine List.map_congr_left fun x hx => ?_
    show (Sum.inr (DoorR.nm (if x.nm = d.nm then d' else x)), V.ref (ad (if x.nm = d.nm then d' else x))) = (Sum.inr x.nm, V.ref (ad x))
    by_cases e : x.nm = d.nm
    · rw [if_pos e, nm_inj hh.ndd hx hd e, e1, ha]
    · rw [if_neg e]
  refine ⟨⟨k1 hh.ob hh.ht0 (fun i z => by cases z), tk _ _ hh.tb, k1 hh.kls hh.ht1 (fun i z => by cases z), ?_, k1 hh.bdo hh.ht3 (fun i z => by cases z), ?_, k1 hh.kpo hh.ht4 (fun i z => by cases z), hh.kz.tk tk, ?_, fun b hb => (hh.brs b hb).fr (fun c o hc ht => ?_) tk,
    fun x hx => (hh.kpt x hx).tk tk, (by show (List.map DoorR.nm (setN DoorR.nm h.doors d.nm d')).Nodup; rw [setN_nm _ _ _ e1]; exact hh.ndd), hh.ndb, hh.ht0, hh.ht1, hh.ht2, hh.ht3, hh.ht4, hh.ht5, hh.ow2 f na nc, hh.tT, hh.kl8, Nat.le_trans hh.kn hm, (by show (setN DoorR.nm h.doors d.nm d').length ≤ 12; rw [setN_len]; exact hh.dn), hh.bn⟩, ?_⟩
  · show _ = some (lockO lk (HO.dK (dk DoorR.nm DoorR.p (setN DoorR.nm h.doors d.nm d'))))
    rw [dke _ e2]
    exact k1 hh.ddo hh.ht2 (fun i z => by cases z)
  · show _ = some (HO.dK (dk DoorR.nm DoorR.op (setN DoorR.nm h.doors d.nm d')))
    rw [dke _ e3]
    exact k1 hh.odo hh.ht5 (fun i z => by cases z)
  · intro x hx
    rcases mem_setN hx with e | ⟨e, ne⟩
    · rw [e]; exact hd'
    · refine ((hh.drs x e).fr (fun c o hc ht => ?_) tk).more hm
      obtain ⟨i2, ht⟩ := ht
      exact k1 hc ht (fun i3 z => ne (by injection z))
  · obtain ⟨i2, ht⟩ := ht
    exact k1 hc ht (fun i3 z => by cases z)
  · exact fun x o hx hn => ⟨k1 hx hn (fun i z => by cases z), hn⟩
/-- two objects of one button changed -/
theorem HouseAt.btn_upd (hh : HouseAt K lk H tab key h) (hb : b ∈ h.btns) {a c : Addr} {i j : Nat} (f : Fr2 a c H H') (ta : h.tag a = .bt b.nm i) (tc : h.tag c = .bt b.nm j) (na : NT H' a) (nc : NT H' c) {b' : BtnR}
    (hb' : BtAt K H' tab key h.tag b') (e1 : b'.nm = b.nm) (e2 : b'.p = b.p) :
    HouseAt K lk H' tab key { h with btns := setN BtnR.nm h.btns b.nm b' } ∧ HFr h { h with btns := setN BtnR.nm h.btns b.nm b' } H H' := by
  have tk : TupK H H' := fr2_tk hh f (by rw [ta]; intro z; cases z) (by rw [tc]; intro z; cases z)
  have k1 : ∀ {x : Addr} {o : HO} {t : Tag}, H x = some o → h.tag x = t → (∀ i, t ≠ .bt b.nm i) → H' x = some o := fun {x o t} hx ht hn => f _ _ hx (fun e => hn i (by rw [← ht, e, ta])) (fun e => hn j (by rw [← ht, e, tc]))
  have dke : dk BtnR.nm BtnR.p (setN BtnR.nm h.btns b.nm b') = dk BtnR.nm BtnR.p h.btns := by
    unfold dk setN
    rw [List.map_map]
    refine List.map_congr_left fun x hx => ?_
    show (Sum.inr (BtnR.nm (if x.nm = b.nm then b' else x)), V.ref (BtnR.p (if x.nm = b.nm then b' else x))) = (Sum.inr x.nm, V.ref x.p)
    by_cases e : x.nm = b.nm
    · rw [if_pos e, nm_inj hh.ndb hx hb e, e1, e2]
    · rw [if_neg e]
  refine ⟨⟨k1 hh.ob hh.ht0 (fun i z => by cases z), tk _ _ hh.tb, k1 hh.kls hh.ht1 (fun i z => by cases z), k1 hh.ddo hh.ht2 (fun i z => by cases z), ?_, k1 hh.odo hh.ht5 (fun i z => by cases z), k1 hh.kpo hh.ht4 (fun i z => by cases z), hh.kz.tk tk, fun d hd => (hh.drs d hd).fr (fun c o hc ht => ?_) tk, ?_,
    fun x hx => (hh.kpt x hx).tk tk, hh.ndd, (by show (List.map BtnR.nm (setN BtnR.nm h.btns b.nm b')).Nodup; rw [setN_nm _ _ _ e1]; exact hh.ndb), hh.ht0, hh.ht1, hh.ht2, hh.ht3, hh.ht4, hh.ht5, hh.ow2 f na nc, hh.tT, hh.kl8, hh.kn, hh.dn, (by show (setN BtnR.nm h.btns b.nm b').length ≤ 12; rw [setN_len]; exact hh.bn)⟩, ?_⟩
  · show _ = some (HO.dK (dk BtnR.nm BtnR.p (setN BtnR.nm h.btns b.nm b')))
    rw [dke]
    exact k1 hh.bdo hh.ht3 (fun i z => by cases z)
  · obtain ⟨i2, ht⟩ := ht
    exact k1 hc ht (fun i3 z => by cases z)
  · intro x hx
    rcases mem_setN hx with e | ⟨e, ne⟩
    · rw [e]; exact hb'
    · refine (hh.brs x e).fr (fun c o hc ht => ?_) tk
      obtain ⟨i2, ht⟩ := ht
      exact k1 hc ht (fun i3 z => ne (by injection z))
  · exact fun x o hx hn => ⟨k1 hx hn (fun i z => by cases z), hn⟩
/-- one of the house's own objects changed -/
theorem HouseAt.own_fr (hh : HouseAt K lk H tab key h) {a : Addr} {i : Nat} {o : HO} (ta : h.tag a = .hs i) (ho : ∀ xs, o ≠ .tup xs) :
    TupK H (upd H a o) ∧ (∀ {x : Addr} {u : HO} {t : Tag}, H x = some u → h.tag x = t → t ≠ .hs i → upd H a o x = some u) ∧ (∀ d, d ∈ h.doors → DrAt K (upd H a o) tab key h.n h.keys.length h.tag d) ∧ (∀ b, b ∈ h.btns → BtAt K (upd H a o) tab key h.tag b) ∧ (∀ c, h.tag c ≠ .no → NT (upd H a o) c) := by
  have tk : TupK H (upd H a o) := (TupK.refl H).upd (fun xs e => by
    have := hh.tupno e
    rw [ta] at this
    cases this)
  have k1 : ∀ {x : Addr} {u : HO} {t : Tag}, H x = some u → h.tag x = t → t ≠ .hs i → upd H a o x = some u := fun {x u t} hx ht hn => (upd_ne (fun e => hn (by rw [← ht, e, ta]))).trans hx
  refine ⟨tk, k1, fun d hd => (hh.drs d hd).fr (fun c o hc ht => ?_) tk, fun b hb => (hh.brs b hb).fr (fun c o hc ht => ?_) tk, fun c hc => (hh.ow c hc).upd ho⟩
  · obtain ⟨i2, ht⟩ := ht
    exact k1 hc ht (fun z => by cases z)
  · obtain ⟨i2, ht⟩ := ht
    exact k1 hc ht (fun z => by cases z)
theorem HouseAt.kept_add (hh : HouseAt K lk H tab key h) {xs : List (Addr × Str × Int × Int)} (hx : ∀ x, x ∈ xs → PrAt H tab key x.1 x.2.1 x.2.2.1 x.2.2.2) (hm : h.n + xs.length ≤ m) :
    HouseAt K lk (upd H h.kp (.lst ((h.kept ++ xs).map fun x => V.ref x.1))) tab key { h with kept := h.kept ++ xs, n := m } ∧ HFr h { h with kept := h.kept ++ xs, n := m } H (upd H h.kp (.lst ((h.kept ++ xs).map fun x => V.ref x.1))) := by
  obtain ⟨tk, k1, f1, f2, f3⟩ := hh.own_fr (o := .lst ((h.kept ++ xs).map fun x => V.ref x.1)) hh.ht4 (fun xs e => by cases e)
  refine ⟨⟨k1 hh.ob hh.ht0 (fun z => by cases z), tk _ _ hh.tb, k1 hh.kls hh.ht1 (fun z => by cases z), k1 hh.ddo hh.ht2 (fun z => by cases z), k1 hh.bdo hh.ht3 (fun z => by cases z), k1 hh.odo hh.ht5 (fun z => by cases z), upd_same, hh.kz.tk tk, fun d hd => (f1 d hd).more (show h.n ≤ m by omega), f2,
    fun x hxm => ?_, hh.ndd, hh.ndb, hh.ht0, hh.ht1, hh.ht2, hh.ht3, hh.ht4, hh.ht5, f3, hh.tT, hh.kl8, (by show (h.kept ++ xs).length ≤ m; rw [List.length_append]; have := hh.kn; omega), hh.dn, hh.bn⟩, fun c o hc hn => ⟨k1 hc hn (fun z => by cases z), hn⟩⟩
  rcases List.mem_append.mp hxm with e | e
  · exact (hh.kpt x e).tk tk
  · exact (hx x e).tk tk
end
end K69
end
section
set_option Elab.async false
set_option linter.all false
set_option maxRecDepth 100000
set_option maxHeartbeats 4000000
local macro_rules | `(tactic| walk_at "len") => `(tactic| (intro vs H Q E h; first
  | (obtain ⟨e, _⟩ := h; subst e; rfl) | (obtain ⟨_, e, _⟩ := h; subst e; rfl) | (obtain ⟨_, _, e, _⟩ := h; subst e; rfl) | (obtain ⟨_, _, _, e, _⟩ := h; subst e; rfl) | (obtain ⟨_, _, _, _, e, _⟩ := h; subst e; rfl)
  | (obtain ⟨_, _, _, _, _, e, _⟩ := h; subst e; rfl) | (obtain ⟨_, _, _, _, _, _, e, _⟩ := h; subst e; rfl) | (obtain ⟨_, _, _, _, _, _, _, e, _⟩ := h; subst e; rfl) | (obtain ⟨_, _, _, _, _, _, _, _, e, _⟩ := h; subst e; rfl)
  | (obtain ⟨_, _, _, _, _, _, _, _, _, e, _⟩ := h; subst e; rfl) | (obtain ⟨_, _, _, _, _, _, _, _, _, _, e, _⟩ := h; subst e; rfl) | (obtain ⟨_, _, _, _, _, _, _, _, _, _, _, e, _⟩ := h; subst e; rfl)))
local macro_rules | `(tactic| walk_at "hh") => `(tactic| first
  | assumption
  | exact L2.upd_same
  | (refine (L2.upd_ne (by walk_at "ne")).trans ?_; walk_at "hh")
  | (refine (‹L2.Same _ _› : L2.Same _ _) _ _ ?_; walk_at "hh"))
local macro_rules | `(tactic| walk_at "ne") => `(tactic| first
  | assumption
  | (apply Ne.symm; assumption)
  | exact L2.ne_of_none (by walk_at "hh") (by assumption)
  | exact (L2.ne_of_none (by walk_at "hh") (by assumption)).symm)
local macro_rules | `(tactic| walk_at "s") => `(tactic| first
  | refine ⟨_, rfl, ?_⟩
  | refine ⟨_, _, _, rfl, (by walk_at "hh"), ?_⟩
  | refine ⟨rfl, ?_⟩
  | refine ⟨_, _, rfl, rfl, ?_⟩)
local macro_rules | `(tactic| walk_at "isi int") => `(tactic| refine ⟨_, _, _, _, true, rfl, .ty "int", .base (.int _), L2.kit_ty (by decide +kernel), ?_⟩)
local macro_rules | `(tactic| walk_at "isi bool") => `(tactic| refine ⟨_, _, _, _, false, rfl, .ty "bool", .base (.int _), L2.kit_ty (by decide +kernel), ?_⟩)
local macro_rules | `(tactic| walk_at "isi tuple") => `(tactic| refine ⟨_, _, _, _, true, rfl, .ty "tuple", .base (.tup (by assumption)), L2.kit_ty (by decide +kernel), ?_⟩)
local macro_rules | `(tactic| walk_at "isi str") => `(tactic| refine ⟨_, _, _, _, true, rfl, .ty "str", .base (.str _), L2.kit_ty (by decide +kernel), ?_⟩)
local macro_rules | `(tactic| walk_at "v") => `(tactic| refine ⟨_, rfl, ?_⟩)
local macro_rules | `(tactic| walk_at "ii") => `(tactic| refine ⟨_, _, rfl, rfl, ?_⟩)
namespace K69
open PySem PySem.Spec PyProof.Rows L2
theorem init_eq {H H2 : Hp} {a p : Addr} {o u v : HO} (e : upd (upd H a o) p v = H2) (ha : H a = none) (hp : H p = some u) : a ≠ p ∧ (∀ b x, H b = some x → b ≠ p → H2 b = some x) ∧ H2 p = some v ∧ H2 a = some o ∧ (∀ b, H2 b = none → H b = none) := by
  have n : a ≠ p := fun z => by rw [z, hp] at ha; cases ha
  have fr : ∀ b x, H b = some x → b ≠ p → H2 b = some x := fun b x hb hne => by rw [← e, upd_ne hne, upd_ne (ne_of_none hb ha)]; exact hb
  refine ⟨n, fr, by rw [← e]; exact upd_same, by rw [← e, upd_ne n]; exact upd_same, fun b hb => ?_⟩
  cases c : H b with
  | none => rfl
  | some x =>
    by_cases z : b = p
    · rw [z, ← e, upd_same] at hb; cases hb
    · rw [fr b x c z] at hb; cases hb
theorem init_eq0 {H H2 : Hp} {p : Addr} {u v : HO} (e : upd H p v = H2) (hp : H p = some u) : (∀ b x, H b = some x → b ≠ p → H2 b = some x) ∧ H2 p = some v ∧ (∀ b, H2 b = none → H b = none) := by
  refine ⟨fun b x hb hne => by rw [← e, upd_ne hne]; exact hb, by rw [← e]; exact upd_same, fun b hb => ?_⟩
  rw [← e] at hb
  by_cases z : b = p
  · rw [z, upd_same] at hb; cases hb
  · rw [upd_ne z] at hb; exact hb
/-- what a step of the house leaves -/
structure Nx (K : PySem.W.Frag) (H H' : Hp) (tab key : List Int) (h h' : HouseR) (m : Nat) : Prop where
  at_ : HouseAt K none H' tab key h'
  fr : HFr h h' H H'
  pp : h'.p = h.p
  nn : h'.n ≤ h.n + m
theorem Nx.same {K : PySem.W.Frag} {H H' : Hp} {tab key : List Int} {h : HouseR} (hh : HouseAt K none H tab key h) (s : Same H H') {m : Nat} : Nx K H H' tab key h h m := ⟨hh.same s, .of s rfl, rfl, Nat.le_add_right _ _⟩
theorem Nx.trans {K : PySem.W.Frag} {H H' H'' : Hp} {tab key : List Int} {h h' h'' : HouseR} {m m' : Nat} (a : Nx K H H' tab key h h' m) (b : Nx K H' H'' tab key h' h'' m') : Nx K H H'' tab key h h'' (m + m') :=
  ⟨b.at_, a.fr.trans b.fr, b.pp.trans a.pp, by have := a.nn; have := b.nn; omega⟩
theorem Nx.thenS {K : PySem.W.Frag} {H H' H'' : Hp} {tab key : List Int} {h h' : HouseR} {m : Nat} (a : Nx K H H' tab key h h' m) (s : Same H' H'') : Nx K H H'' tab key h h' m := a.trans (m' := 0) (.same a.at_ s)
section
variable {P : Program} {w : World} {K : PySem.W.Frag} {mg : Str → Option Value} {base : Heap}
def spHouseInit (K : PySem.W.Frag) : Sp := fun vs H Q _ => ∃ (p dx t k : Addr) (tab key : List Int), vs = [.ref p, .ref t, .ref k] ∧ H p = some (.ins (He.ga K "House") dx []) ∧ H t = some (.tup (tab.map V.int)) ∧ H k = some (.tup (key.map V.int)) ∧ IsTab tab ∧ key.length ≤ 8 ∧
  ∀ (h : HouseR) (H' : Hp), HouseAt K none H' tab key h → h.p = p → h.n = 0 → h.pu = ⟨[], [], [], 1⟩ → (∀ c o, H c = some o → c ≠ p → H' c = some o ∧ h.tag c = .no) → Q .non H'
abbrev N_House_Init : List Str := ["self", "table", "key"]
theorem sc_House_Init : FnScope N_House_Init ["self", "table", "key"] (defScope s_House_Init) := ⟨rfl, rfl, rfl, by decide +kernel, rfl, by decide +kernel, by decide +kernel⟩
theorem c_House_Init (T : Tx P w K mg base) : CalI P w K mg base (He.ga K "House") 1 ["self", "table", "key"] (spHouseInit K) := by
  refine calI_mk T.df_House_Init T.mk_House sc_House_Init (fun _ _ _ _ _ _ us hl => match us, hl with | [_, _, _], _ => rfl) ?len (fun f cdv A outer s H vs Q E hr h => ?body)
  case len => walk_at "len"
  have nd := sc_House_Init.nd
  refine ⟨_, (pss_cons (ps_fld (pv 0) (pe_callTy (T := "tuple") call_tuple_of (by rfl) T.f_tuple (by decide +kernel) (pa_cons (pv 1) pa_nil)) rfl)
    (pss_cons (ps_fld (pv 0) (pe_lst (pa_cons (pe_callTy (T := "tuple") call_tuple_of (by rfl) T.f_tuple (by decide +kernel) (pa_cons (pv 2) pa_nil)) pa_nil)) rfl)
    (pss_cons (ps_fld (pv 0) pe_int rfl)
    (pss_cons (ps_fld (pv 0) pe_dnewK rfl)
    (pss_cons (ps_fld (pv 0) pe_dnewK rfl)
    (pss_cons (ps_fld (pv 0) (pe_lst pa_nil) rfl)
    (pss_one (ps_fld (pv 0) pe_dnewK rfl)))))))), ?_⟩
  obtain ⟨p, dx, t, k, tab, key, rfl, hp, ht, hk, hT, hl, q⟩ := h
  have npt : t ≠ p := ne_of ht hp (by intro z; cases z)
  have npk : k ≠ p := ne_of hk hp (by intro z; cases z)
  refine ⟨_, rfl, t, _, rfl, Or.inr ⟨SqT.of ht, _, rfl, p, _, dx, _, rfl, hp, T.cls_House, T.na_House_table, (Nat.lt_of_le_of_lt lp0 (by decide)), ?_⟩⟩
  generalize e1 : upd H p _ = H1
  obtain ⟨f1, p1, n1⟩ := init_eq0 e1 hp
  refine ⟨_, rfl, k, _, rfl, Or.inr ⟨SqT.of (f1 _ _ hk npk), (by show 1 ≤ sizeLine; decide), fun kl hkl => ⟨_, rfl, p, _, dx, _, rfl, (upd_ne (ne_of_none p1 hkl)).trans p1, T.cls_House, T.na_House_house_keys, (Nat.lt_of_le_of_lt (lp (lp0)) (by decide)), ?_⟩⟩⟩
  generalize e2 : upd (upd H1 kl _) p _ = H2
  obtain ⟨m2, f2, p2, k2, n2⟩ := init_eq e2 hkl p1
  refine ⟨_, rfl, p, _, dx, _, rfl, p2, T.cls_House, T.na_House_closed, (Nat.lt_of_le_of_lt (lp (lp (lp0))) (by decide)), ?_⟩
  generalize e3 : upd H2 p _ = H3
  obtain ⟨f3, p3, n3⟩ := init_eq0 e3 p2
  refine fun dd hdd => ⟨_, rfl, p, _, dx, _, rfl, (upd_ne (ne_of_none p3 hdd)).trans p3, T.cls_House, T.na_House_doors, (Nat.lt_of_le_of_lt (lp (lp (lp (lp0)))) (by decide)), ?_⟩
  generalize e4 : upd (upd H3 dd _) p _ = H4
  obtain ⟨m4, f4, p4, k4, n4⟩ := init_eq e4 hdd p3
  refine fun bd hbd => ⟨_, rfl, p, _, dx, _, rfl, (upd_ne (ne_of_none p4 hbd)).trans p4, T.cls_House, T.na_House_buttons, (Nat.lt_of_le_of_lt (lp (lp (lp (lp (lp0))))) (by decide)), ?_⟩
  generalize e5 : upd (upd H4 bd _) p _ = H5
  obtain ⟨m5, f5, p5, k5, n5⟩ := init_eq e5 hbd p4
  refine ⟨(by show 0 ≤ sizeLine; decide), fun kp hkp => ⟨_, rfl, p, _, dx, _, rfl, (upd_ne (ne_of_none p5 hkp)).trans p5, T.cls_House, T.na_House_kept, (Nat.lt_of_le_of_lt (lp (lp (lp (lp (lp (lp0)))))) (by decide)), ?_⟩⟩
  generalize e6 : upd (upd H5 kp _) p _ = H6
  obtain ⟨m6, f6, p6, k6, n6⟩ := init_eq e6 hkp p5
  refine fun od hod => ⟨_, rfl, p, _, dx, _, rfl, (upd_ne (ne_of_none p6 hod)).trans p6, T.cls_House, T.na_House_opened, (Nat.lt_of_le_of_lt (lp (lp (lp (lp (lp (lp (lp0))))))) (by decide)), ?_⟩
  generalize e7 : upd (upd H6 od _) p _ = H7
  obtain ⟨m7, f7, p7, k7, n7⟩ := init_eq e7 hod p6
  clear e1 e2 e3 e4 e5 e6 e7
  have kl7 := f7 _ _ (f6 _ _ (f5 _ _ (f4 _ _ (f3 _ _ k2 m2) m2) m2) m2) m2
  have dd7 := f7 _ _ (f6 _ _ (f5 _ _ k4 m4) m4) m4
  have bd7 := f7 _ _ (f6 _ _ k5 m5) m5
  have kp7 := f7 _ _ k6 m6
  have fr : ∀ c o, H c = some o → c ≠ p → H7 c = some o := fun c o hc hne => f7 _ _ (f6 _ _ (f5 _ _ (f4 _ _ (f3 _ _ (f2 _ _ (f1 _ _ hc hne) hne) hne) hne) hne) hne) hne
  have gkl := n1 _ hkl
  have gdd := n1 _ (n2 _ (n3 _ hdd))
  have gbd := n1 _ (n2 _ (n3 _ (n4 _ hbd)))
  have gkp := n1 _ (n2 _ (n3 _ (n4 _ (n5 _ hkp))))
  have god := n1 _ (n2 _ (n3 _ (n4 _ (n5 _ (n6 _ hod)))))
  have a1 : kl ≠ dd := ne_of kl7 dd7 (by intro z; cases z)
  have a2 : kl ≠ bd := ne_of kl7 bd7 (by intro z; cases z)
  have a3 : kl ≠ kp := ne_of_none (f5 _ _ (f4 _ _ (f3 _ _ k2 m2) m2) m2) hkp
  have a4 : kl ≠ od := ne_of kl7 k7 (by intro z; cases z)
  have a5 : dd ≠ bd := ne_of_none k4 hbd
  have a6 : dd ≠ kp := ne_of_none (f5 _ _ k4 m4) hkp
  have a7 : dd ≠ od := ne_of_none (f6 _ _ (f5 _ _ k4 m4) m4) hod
  have a8 : bd ≠ kp := ne_of_none k5 hkp
  have a9 : bd ≠ od := ne_of_none (f6 _ _ k5 m5) hod
  have a10 : kp ≠ od := ne_of_none k6 hod
  let tag : Addr → Tag := tg p (.hs 0) (tg kl (.hs 1) (tg dd (.hs 2) (tg bd (.hs 3) (tg kp (.hs 4) (tg od (.hs 5) fun _ => .no)))))
  have tagE : ∀ c, tag c = tg p (.hs 0) (tg kl (.hs 1) (tg dd (.hs 2) (tg bd (.hs 3) (tg kp (.hs 4) (tg od (.hs 5) fun _ => .no))))) c := fun _ => rfl
  refine q ⟨p, dx, t, kl, dd, bd, kp, od, [k], [], [], [], tag, 0⟩ H7 ⟨p7, fr _ _ ht npt, kl7, dd7, bd7, k7, kp7, ⟨by show 1 ≤ 8; decide, ⟨k, [], rfl, fr _ _ hk npk⟩, fun a ha => ⟨key, by rw [List.mem_singleton.mp ha]; exact fr _ _ hk npk⟩⟩,
    (fun d hd => by cases hd), (fun b hb => by cases hb), (fun x hx => by cases hx), List.nodup_nil, List.nodup_nil, ?_, ?_, ?_, ?_, ?_, ?_, fun c hc => ?_, hT, hl, Nat.le_refl _, by show 0 ≤ 12; decide, by show 0 ≤ 12; decide⟩ rfl rfl rfl fun c o hc hne => ⟨fr c o hc hne, ?_⟩
  · exact tg_same
  · exact (tg_ne m2).trans tg_same
  · exact (tg_ne m4).trans ((tg_ne a1.symm).trans tg_same)
  · exact (tg_ne m5).trans ((tg_ne a2.symm).trans ((tg_ne a5.symm).trans tg_same))
  · exact (tg_ne m6).trans ((tg_ne a3.symm).trans ((tg_ne a6.symm).trans ((tg_ne a8.symm).trans tg_same)))
  · exact (tg_ne m7).trans ((tg_ne a4.symm).trans ((tg_ne a7.symm).trans ((tg_ne a9.symm).trans ((tg_ne a10.symm).trans tg_same))))
  · by_cases c1 : c = p
    · rw [c1]; exact ⟨_, p7, by intro xs z; cases z⟩
    by_cases c2 : c = kl
    · rw [c2]; exact ⟨_, kl7, by intro xs z; cases z⟩
    by_cases c3 : c = dd
    · rw [c3]; exact ⟨_, dd7, by intro xs z; cases z⟩
    by_cases c4 : c = bd
    · rw [c4]; exact ⟨_, bd7, by intro xs z; cases z⟩
    by_cases c5 : c = kp
    · rw [c5]; exact ⟨_, kp7, by intro xs z; cases z⟩
    by_cases c6 : c = od
    · rw [c6]; exact ⟨_, k7, by intro xs z; cases z⟩
    exact absurd ((tg_ne c1).trans ((tg_ne c2).trans ((tg_ne c3).trans ((tg_ne c4).trans ((tg_ne c5).trans (tg_ne c6)))))) hc
  · exact (tg_ne hne).trans ((tg_ne (ne_of_none hc gkl)).trans ((tg_ne (ne_of_none hc gdd)).trans ((tg_ne (ne_of_none hc gbd)).trans ((tg_ne (ne_of_none hc gkp)).trans (tg_ne (ne_of_none hc god))))))
def spLookDoor (K : PySem.W.Frag) : Sp := fun vs H Q _ => ∃ (h : HouseR) (tab key : List Int) (z : Str) (d : DoorR), vs = [.ref h.p, .str z] ∧ HouseAt K none H tab key h ∧ fnd DoorR.nm h.doors z = some d ∧ Q (.ref d.p) H
abbrev N_House_LookDoor : List Str := ["self", "door"]
theorem sc_House_LookDoor : FnScope N_House_LookDoor ["self", "door"] (defScope s_House_LookDoor) := ⟨rfl, rfl, rfl, by decide +kernel, rfl, by decide +kernel, by decide +kernel⟩
theorem c_House_LookDoor (T : Tx P w K mg base) : CalM P w K mg base (He.ga K "House") "look_door" 1 ["self", "door"] (spLookDoor K) := by
  refine calM_mk T.df_House_LookDoor T.m_House_LookDoor sc_House_LookDoor (fun _ _ _ _ _ _ us hl => match us, hl with | [_, _], _ => rfl) ?len (fun f cdv A outer s H vs Q E hr h => ?body)
  case len => walk_at "len"
  have nd := sc_House_LookDoor.nd
  refine ⟨_, (pss_cons (ps_if (pt_cmp (pc_dnotin (hu_of hr) (pv 1) (pe_at T.cls_House T.na_House_doors lk_House_doors (pv 0)))) (pss_one ps_never) pss_nil)
    (pss_one (ps_ret (pe_dget (hu_of hr) (pe_at T.cls_House T.na_House_doors lk_House_doors (pv 0)) (pv 1) (fun _ _ => rfl))))), ?_⟩
  obtain ⟨h, tab, key, z, d, rfl, hh, hf, q⟩ := h
  have g : DGet H h.dd (.str z) (some (.ref d.p)) := by
    have g := DGet.k (k := Sum.inr z) (show H h.dd = some (.dK _) from hh.ddo)
    rw [val_dk, hf] at g
    exact g
  refine ⟨_, rfl, _, rfl, _, _, h.V, rfl, hh.ob, h.dd, _, rfl, g, _, rfl, ?_⟩
  refine ifF rfl ?_
  exact ⟨_, rfl, _, _, h.V, rfl, hh.ob, _, rfl, h.dd, _, rfl, g, q⟩
def spLookButton (K : PySem.W.Frag) : Sp := fun vs H Q _ => ∃ (h : HouseR) (tab key : List Int) (z : Str) (b : BtnR), vs = [.ref h.p, .str z] ∧ HouseAt K none H tab key h ∧ fnd BtnR.nm h.btns z = some b ∧ Q (.ref b.p) H
abbrev N_House_LookButton : List Str := ["self", "button"]
theorem sc_House_LookButton : FnScope N_House_LookButton ["self", "button"] (defScope s_House_LookButton) := ⟨rfl, rfl, rfl, by decide +kernel, rfl, by decide +kernel, by decide +kernel⟩
theorem c_House_LookButton (T : Tx P w K mg base) : CalM P w K mg base (He.ga K "House") "look_button" 1 ["self", "button"] (spLookButton K) := by
  refine calM_mk T.df_House_LookButton T.m_House_LookButton sc_House_LookButton (fun _ _ _ _ _ _ us hl => match us, hl with | [_, _], _ => rfl) ?len (fun f cdv A outer s H vs Q E hr h => ?body)
  case len => walk_at "len"
  have nd := sc_House_LookButton.nd
  refine ⟨_, (pss_cons (ps_if (pt_cmp (pc_dnotin (hu_of hr) (pv 1) (pe_at T.cls_House T.na_House_buttons lk_House_buttons (pv 0)))) (pss_one ps_never) pss_nil)
    (pss_one (ps_ret (pe_dget (hu_of hr) (pe_at T.cls_House T.na_House_buttons lk_House_buttons (pv 0)) (pv 1) (fun _ _ => rfl))))), ?_⟩
  obtain ⟨h, tab, key, z, b, rfl, hh, hf, q⟩ := h
  have g : DGet H h.bd (.str z) (some (.ref b.p)) := by
    have g := DGet.k (k := Sum.inr z) hh.bdo
    rw [val_dk, hf] at g
    exact g
  refine ⟨_, rfl, _, rfl, _, _, h.V, rfl, hh.ob, h.bd, _, rfl, g, _, rfl, ?_⟩
  refine ifF rfl ?_
  exact ⟨_, rfl, _, _, h.V, rfl, hh.ob, _, rfl, h.bd, _, rfl, g, q⟩
end
end K69
end
section
set_option Elab.async false
set_option linter.all false
set_option maxRecDepth 100000
set_option maxHeartbeats 4000000
local macro_rules | `(tactic| walk_at "len") => `(tactic| (intro vs H Q E h; first
  | (obtain ⟨e, _⟩ := h; subst e; rfl) | (obtain ⟨_, e, _⟩ := h; subst e; rfl) | (obtain ⟨_, _, e, _⟩ := h; subst e; rfl) | (obtain ⟨_, _, _, e, _⟩ := h; subst e; rfl) | (obtain ⟨_, _, _, _, e, _⟩ := h; subst e; rfl)
  | (obtain ⟨_, _, _, _, _, e, _⟩ := h; subst e; rfl) | (obtain ⟨_, _, _, _, _, _, e, _⟩ := h; subst e; rfl) | (obtain ⟨_, _, _, _, _, _, _, e, _⟩ := h; subst e; rfl) | (obtain ⟨_, _, _, _, _, _, _, _, e, _⟩ := h; subst e; rfl)
  | (obtain ⟨_, _, _, _, _, _, _, _, _, e, _⟩ := h; subst e; rfl) | (obtain ⟨_, _, _, _, _, _, _, _, _, _, e, _⟩ := h; subst e; rfl) | (obtain ⟨_, _, _, _, _, _, _, _, _, _, _, e, _⟩ := h; subst e; rfl)))
local macro_rules | `(tactic| walk_at "hh") => `(tactic| first
  | assumption
  | exact L2.upd_same
  | (refine (L2.upd_ne (by walk_at "ne")).trans ?_; walk_at "hh")
  | (refine (‹L2.Same _ _› : L2.Same _ _) _ _ ?_; walk_at "hh"))
local macro_rules | `(tactic| walk_at "ne") => `(tactic| first
  | assumption
  | (apply Ne.symm; assumption)
  | exact L2.ne_of_none (by walk_at "hh") (by assumption)
  | exact (L2.ne_of_none (by walk_at "hh") (by assumption)).symm)
local macro_rules | `(tactic| walk_at "s") => `(tactic| first
  | refine ⟨_, rfl, ?_⟩
  | refine ⟨_, _, _, rfl, (by walk_at "hh"), ?_⟩
  | refine ⟨rfl, ?_⟩
  | refine ⟨_, _, rfl, rfl, ?_⟩)
local macro_rules | `(tactic| walk_at "isi int") => `(tactic| refine ⟨_, _, _, _, true, rfl, .ty "int", .base (.int _), L2.kit_ty (by decide +kernel), ?_⟩)
local macro_rules | `(tactic| walk_at "isi bool") => `(tactic| refine ⟨_, _, _, _, false, rfl, .ty "bool", .base (.int _), L2.kit_ty (by decide +kernel), ?_⟩)
local macro_rules | `(tactic| walk_at "isi tuple") => `(tactic| refine ⟨_, _, _, _, true, rfl, .ty "tuple", .base (.tup (by assumption)), L2.kit_ty (by decide +kernel), ?_⟩)
local macro_rules | `(tactic| walk_at "isi str") => `(tactic| refine ⟨_, _, _, _, true, rfl, .ty "str", .base (.str _), L2.kit_ty (by decide +kernel), ?_⟩)
local macro_rules | `(tactic| walk_at "v") => `(tactic| refine ⟨_, rfl, ?_⟩)
local macro_rules | `(tactic| walk_at "ii") => `(tactic| refine ⟨_, _, rfl, rfl, ?_⟩)
namespace K69
open PySem PySem.Spec PyProof.Rows L2
section
variable {P : Program} {w : World} {K : PySem.W.Frag} {mg : Str → Option Value} {base : Heap}
def spAddDoor (K : PySem.W.Frag) : Sp := fun vs H Q _ => ∃ (h : HouseR) (tab key : List Int) (z : Str) (near far most : Int), vs = [.ref h.p, .str z, .int near, .int far, .int most] ∧ HouseAt K none H tab key h ∧ fnd DoorR.nm h.doors z = none ∧ h.doors.length < 12 ∧ most ≤ 12 ∧
  ∀ (h' : HouseR) (H' : Hp), Nx K H H' tab key h h' 0 → h'.pu = { h.pu with doors := h.pu.doors ++ [⟨z, near, far, most, []⟩] } → Q .non H'
abbrev N_House_AddDoor : List Str := ["self", "name", "near", "far", "most", "door"]
theorem sc_House_AddDoor : FnScope N_House_AddDoor ["self", "name", "near", "far", "most"] (defScope s_House_AddDoor) := ⟨rfl, rfl, rfl, by decide +kernel, rfl, by decide +kernel, by decide +kernel⟩
theorem c_House_AddDoor (T : Tx P w K mg base) : CalM P w K mg base (He.ga K "House") "add_door" 3 ["self", "name", "near", "far", "most"] (spAddDoor K) := by
  refine calM_mk T.df_House_AddDoor T.m_House_AddDoor sc_House_AddDoor (fun _ _ _ _ _ _ us hl => match us, hl with | [_, _, _, _, _], _ => rfl) ?len (fun f cdv A outer s H vs Q E hr h => ?body)
  case len => walk_at "len"
  have nd := sc_House_AddDoor.nd
  refine ⟨_, (pss_cons (ps_if (pt_cmp (pc_din (hu_of hr) (pv 1) (pe_at T.cls_House T.na_House_doors lk_House_doors (pv 0)))) (pss_one ps_never) pss_nil)
    (pss_cons (ps_set (i := 5) nd rfl (Or.inl rfl) (pe_mk (c_Door_Init T) (hr.mono (by decide)) T.g_Door (pa_cons (pe_at T.cls_House T.na_House_table lk_House_table (pv 0)) (pa_cons (pe_callTy (T := "tuple") call_tuple_of (by rfl) T.f_tuple (by decide +kernel) (pa_cons (pe_at T.cls_House T.na_House_house_keys lk_House_house_keys (pv 0)) pa_nil)) (pa_cons (pv 2) (pa_cons (pv 3) (pa_cons (pv 4) pa_nil)))))))
    (pss_cons (ps_if (pt_cmpR op_gt (pe_at T.cls_House T.na_House_closed lk_House_closed (pv 0)) pe_int (nomark _)) (pss_one ps_never) pss_nil)
    (pss_cons (ps_dput (hu_of hr) (pe_at T.cls_House T.na_House_doors lk_House_doors (pv 0)) (pv 1) (pv 5) rfl)
    (pss_one (ps_dput (hu_of hr) (pe_at T.cls_House T.na_House_opened lk_House_opened (pv 0)) (pv 1) (pe_lst pa_nil) rfl)))))), ?_⟩
  obtain ⟨h, tab, key, z, near, far, most, rfl, hh, hf, hdl, hmo, q⟩ := h
  refine ⟨_, rfl, _, rfl, _, _, h.V, rfl, hh.ob, h.dd, _, rfl, DGet.k (k := Sum.inr z) (show H h.dd = some (.dK _) from hh.ddo), _, rfl, ?_⟩
  refine ifF (by rw [val_dk, hf] <;> rfl) ?_
  refine ⟨_, rfl, _, _, h.V, rfl, hh.ob, _, rfl, _, _, h.V, rfl, hh.ob, h.kl, _, rfl, Or.inl ⟨SqL.of hh.kls, fun kk hkk => ?_⟩⟩
  generalize e1 : upd H kk _ = H1
  have s1 : Same H H1 := by rw [← e1]; exact same_new hkk
  have kk1 : H1 kk = some (.tup (h.keys.map V.ref)) := by rw [← e1]; exact upd_same
  clear e1
  have hh1 := hh.same s1
  refine ⟨_, rfl, _, rfl, _, rfl, fun x dx hx hdx hne => ?_⟩
  have s2 : ∀ o1 o2, Same H1 (upd (upd H1 dx o1) x o2) := fun o1 o2 => (same_new hdx).trans (same_new (by rw [upd_ne hne.symm]; exact hx))
  refine ⟨x, dx, h.t, kk, tab, key, h.keys, near, far, most, rfl, upd_same, s2 _ _ _ _ hh1.tb, Or.inr (s2 _ _ _ _ kk1), hh1.kz.tk (.of (s2 _ _)), fun _ kl bd en rw' _ fk H2 hkl hbd hen hrw hd2 fr => ⟨rfl, ?_⟩⟩
  have s3 : Same H1 H2 := fun b o hb => fr b o (s2 _ _ _ _ hb) (ne_of_none hb hx)
  have s13 := s1.trans s3
  have hh2 := hh.same s13
  have ffree : ∀ {b : Addr}, upd (upd H1 dx (.own x)) x (.ins (He.ga K "Door") dx []) b = none → H b = none := fun {b} hb => s1.free ((s2 _ _).free hb)
  have gx := s1.free hx
  have gkl := ffree hkl
  have gen := ffree hen
  have grw := ffree hrw
  refine ⟨_, rfl, _, _, h.V, rfl, hh2.ob, _, _, rfl, rfl, _, rfl, ?_⟩
  refine ifND (by show ¬ (0 : Int) < 0; decide) ?_
  refine ⟨_, rfl, _, rfl, _, _, h.V, rfl, hh2.ob, _, rfl, h.dd, _, rfl, DPut.k (k := Sum.inr z) (show H2 h.dd = some (.dK _) from hh2.ddo) (by rw [dk_len]; exact sz_lt (by omega)), ?_⟩
  have epd : putK (dk DoorR.nm DoorR.p h.doors) (Sum.inr z) (V.ref x) = dk DoorR.nm DoorR.p (h.doors ++ [⟨z, x, dx, h.t, kl, bd, en, rw', x, near, far, most, fk, h.keys, []⟩]) := put_new (e' := (⟨z, x, dx, h.t, kl, bd, en, rw', x, near, far, most, fk, h.keys, []⟩ : DoorR)) hf rfl
  rw [epd]
  have ndo : ∀ {c : Addr} {t : Tag}, h.tag c = t → t ≠ .hs 2 → c ≠ h.dd := fun hc ht e => ht (by rw [← hc, e]; exact hh.ht2)
  have ndo5 : ∀ {c : Addr} {t : Tag}, h.tag c = t → t ≠ .hs 5 → c ≠ h.od := fun hc ht e => ht (by rw [← hc, e]; exact hh.ht5)
  refine ⟨(by show 0 ≤ sizeLine; decide), fun op hop => ?_⟩
  have hop2 : H2 op = none := by
    by_cases e : op = h.dd
    · rw [e, upd_same] at hop; cases hop
    · rw [upd_ne e] at hop; exact hop
  have gop := s13.free hop2
  have npd : h.p ≠ h.dd := ndo hh.ht0 (fun z => by cases z)
  have nod : h.od ≠ h.dd := ndo hh.ht5 (fun z => by cases z)
  have npo : h.p ≠ op := ne_of_none hh2.ob hop2
  have noo : h.od ≠ op := ne_of_none hh2.odo hop2
  refine ⟨_, rfl, _, _, h.V, rfl, (upd_ne npo).trans ((upd_ne npd).trans hh2.ob), _, rfl, h.od, _, rfl, DPut.k (k := Sum.inr z) ((upd_ne noo).trans ((upd_ne nod).trans hh2.odo)) (by rw [dk_len]; exact sz_lt (by omega)), ?_⟩
  have epo : putK (dk DoorR.nm DoorR.op h.doors) (Sum.inr z) (V.ref op) = dk DoorR.nm DoorR.op (h.doors ++ [⟨z, x, dx, h.t, kl, bd, en, rw', op, near, far, most, fk, h.keys, []⟩]) := put_new (e' := (⟨z, x, dx, h.t, kl, bd, en, rw', op, near, far, most, fk, h.keys, []⟩ : DoorR)) hf rfl
  rw [epo]
  have epd2 : dk DoorR.nm DoorR.p (h.doors ++ [⟨z, x, dx, h.t, kl, bd, en, rw', x, near, far, most, fk, h.keys, []⟩]) = dk DoorR.nm DoorR.p (h.doors ++ [⟨z, x, dx, h.t, kl, bd, en, rw', op, near, far, most, fk, h.keys, []⟩]) := by
    unfold dk
    rw [List.map_append, List.map_append] <;> rfl
  rw [epd2]
  generalize ed : (⟨z, x, dx, h.t, kl, bd, en, rw', op, near, far, most, fk, h.keys, []⟩ : DoorR) = d
  generalize e3 : upd (upd (upd H2 h.dd _) op _) h.od _ = H3
  have k1 : ∀ {c : Addr} {o : HO}, H2 c = some o → c ≠ h.dd → c ≠ h.od → H3 c = some o := fun {c o} hc c1 c2 => by
    rw [← e3, upd_ne c2, upd_ne (ne_of_none hc hop2), upd_ne c1]
    exact hc
  have k2 : ∀ {c : Addr} {o : HO} {t : Tag}, H2 c = some o → h.tag c = t → t ≠ .hs 2 → t ≠ .hs 5 → H3 c = some o := fun hc ht c1 c2 => k1 hc (ndo ht c1) (ndo5 ht c2)
  have tk : TupK H2 H3 := fun c xs hc => k2 hc (hh2.tupno hc) (fun z => by cases z) (fun z => by cases z)
  have h3dd : H3 h.dd = some (.dK (dk DoorR.nm DoorR.p (h.doors ++ [d]))) := by
    rw [← e3, upd_ne nod.symm, upd_ne (ne_of_none (show H2 h.dd = some (.dK _) from hh2.ddo) hop2)]
    exact upd_same
  have h3od : H3 h.od = some (.dK (dk DoorR.nm DoorR.op (h.doors ++ [d]))) := by rw [← e3]; exact upd_same
  have h3op : H3 op = some (.lst []) := by
    rw [← e3, upd_ne noo.symm]
    exact upd_same
  clear e3
  have fresh : ∀ {c : Addr} {o : HO}, H c = none → H2 c = some o → H3 c = some o := fun {c o} h0 h2 => k2 h2 (hh.notag h0) (fun z => by cases z) (fun z => by cases z)
  have hkl3 : H3 kl = some (.lst (h.keys.map V.ref)) := fresh gkl hd2.kls
  have hx3 := fresh gx hd2.ob
  have hen3 : H3 en = some (.dK (dk Ent.nm Ent.a [])) := fresh gen hd2.ens
  obtain ⟨xs, hxs, hxl⟩ := hd2.rws
  have hrw3 : H3 rw' = some (.lst xs) := fresh grw hxs
  have a1 : x ≠ kl := ne_of hx3 hkl3 (by intro z; cases z)
  have a2 : x ≠ en := ne_of hx3 hen3 (by intro z; cases z)
  have a3 : x ≠ rw' := ne_of hx3 hrw3 (by intro z; cases z)
  have a4 : x ≠ op := ne_of hx3 h3op (by intro z; cases z)
  have a5 : kl ≠ en := ne_of hkl3 hen3 (by intro z; cases z)
  have a6 : kl ≠ rw' := hd2.ne
  have a7 : kl ≠ op := ne_of_none hd2.kls hop2
  have a8 : en ≠ rw' := ne_of hen3 hrw3 (by intro z; cases z)
  have a9 : en ≠ op := ne_of hen3 h3op (by intro z; cases z)
  have a10 : rw' ≠ op := ne_of_none hxs hop2
  have tp : ∀ (tag : Addr → Tag), tag = tg x (.dr z 0) (tg kl (.dr z 1) (tg en (.dr z 2) (tg rw' (.dr z 3) (tg op (.dr z 4) h.tag)))) → HouseAt K none H3 tab key { h with doors := h.doors ++ [d], tag := tag } ∧ (∀ c o, H c = some o → tag c = h.tag c) := by
    intro tag et
    have old : ∀ c o, H c = some o → tag c = h.tag c := fun c o hc => by
      rw [et]
      exact (tg_ne (ne_of_none hc gx)).trans ((tg_ne (ne_of_none hc gkl)).trans ((tg_ne (ne_of_none hc gen)).trans ((tg_ne (ne_of_none hc grw)).trans (tg_ne (ne_of_none hc gop)))))
    have oldn : ∀ c, h.tag c ≠ .no → tag c = h.tag c := fun c hc => by
      obtain ⟨o, ho, _⟩ := hh.ow c hc
      exact old c o ho
    refine ⟨⟨k2 hh2.ob hh.ht0 (fun z => by cases z) (fun z => by cases z), tk _ _ hh2.tb, k2 hh2.kls hh.ht1 (fun z => by cases z) (fun z => by cases z), h3dd, k2 hh2.bdo hh.ht3 (fun z => by cases z) (fun z => by cases z), h3od, k2 hh2.kpo hh.ht4 (fun z => by cases z) (fun z => by cases z), hh2.kz.tk tk,
      fun d' hd' => ?_, fun b hb => ?_, fun y hy => (hh2.kpt y hy).tk tk, ?_, hh.ndb, tag_up oldn hh.ht0 (fun z => by cases z), tag_up oldn hh.ht1 (fun z => by cases z), tag_up oldn hh.ht2 (fun z => by cases z), tag_up oldn hh.ht3 (fun z => by cases z), tag_up oldn hh.ht4 (fun z => by cases z), tag_up oldn hh.ht5 (fun z => by cases z), fun c hc => ?_, hh.tT, hh.kl8, hh.kn, ?_, hh.bn⟩, old⟩
    · rcases List.mem_append.mp hd' with e | e
      · refine (((hh2.drs d' e).fr (fun c o hc ht => ?_) tk)).tg oldn
        obtain ⟨i, ht⟩ := ht
        exact k2 hc ht (fun z => by cases z) (fun z => by cases z)
      · rw [List.mem_singleton.mp e, ← ed]
        refine ⟨⟨hx3, tk _ _ hh2.tb, hkl3, tk _ _ hd2.bo, hen3, ⟨xs, hrw3, Nat.le_trans hxl (Nat.zero_le _)⟩, hd2.kz.tk tk, (fun e he => by cases he), List.nodup_nil, Nat.zero_le _, a6⟩, Nat.le_refl _, ⟨[], h3op, Nat.zero_le _⟩, ?_, ?_, ?_, ?_, ?_, hmo⟩
        · rw [et]; exact tg_same
        · rw [et]; exact (tg_ne a1.symm).trans tg_same
        · rw [et]; exact (tg_ne a2.symm).trans ((tg_ne a5.symm).trans tg_same)
        · rw [et]; exact (tg_ne a3.symm).trans ((tg_ne a6.symm).trans ((tg_ne a8.symm).trans tg_same))
        · rw [et]; exact (tg_ne a4.symm).trans ((tg_ne a7.symm).trans ((tg_ne a9.symm).trans ((tg_ne a10.symm).trans tg_same)))
    · refine ((hh2.brs b hb).fr (fun c o hc ht => ?_) tk).tg oldn
      obtain ⟨i, ht⟩ := ht
      exact k2 hc ht (fun z => by cases z) (fun z => by cases z)
    · rw [List.map_append]
      refine List.nodup_append.mpr ⟨hh.ndd, (List.nodup_cons.mpr ⟨List.not_mem_nil, List.nodup_nil⟩), fun y hy y2 hy2 => ?_⟩
      obtain ⟨e, he, rfl⟩ := List.mem_map.mp hy
      rw [show y2 = z from by rw [← ed] at hy2; exact List.mem_singleton.mp hy2]
      exact fnd_no hf e he
    · by_cases c1 : c = x
      · rw [c1]; exact ⟨_, hx3, by intro xs z; cases z⟩
      by_cases c2 : c = kl
      · rw [c2]; exact ⟨_, hkl3, by intro xs z; cases z⟩
      by_cases c3 : c = en
      · rw [c3]; exact ⟨_, hen3, by intro xs z; cases z⟩
      by_cases c4 : c = rw'
      · rw [c4]; exact ⟨_, hrw3, by intro xs z; cases z⟩
      by_cases c5 : c = op
      · rw [c5]; exact ⟨_, h3op, by intro xs z; cases z⟩
      have e : tag c = h.tag c := by rw [et]; exact (tg_ne c1).trans ((tg_ne c2).trans ((tg_ne c3).trans ((tg_ne c4).trans (tg_ne c5))))
      have hc' : h.tag c ≠ .no := by rw [← e]; exact hc
      by_cases c6 : c = h.dd
      · rw [c6]; exact ⟨_, h3dd, by intro xs z; cases z⟩
      by_cases c7 : c = h.od
      · rw [c7]; exact ⟨_, h3od, by intro xs z; cases z⟩
      obtain ⟨o, ho, hn⟩ := hh2.ow c hc'
      exact ⟨o, k1 ho c6 c7, hn⟩
    · show (h.doors ++ [d]).length ≤ 12
      rw [List.length_append]
      exact hdl
  obtain ⟨t1, t2⟩ := tp _ rfl
  refine q _ H3 ⟨t1, fun c o hc hn => ⟨k2 (s13 _ _ hc) hn (fun z => by cases z) (fun z => by cases z), (t2 c o hc).trans hn⟩, rfl, Nat.le_refl _⟩ ?_
  unfold HouseR.pu
  show (⟨(h.doors ++ [d]).map DoorR.pu, _, _, _⟩ : PH) = _
  rw [List.map_append, ← ed] <;> rfl
def spAddButton (K : PySem.W.Frag) : Sp := fun vs H Q _ => ∃ (h : HouseR) (tab key : List Int) (z : Str) (step : Int), vs = [.ref h.p, .str z, .int step] ∧ HouseAt K none H tab key h ∧ fnd BtnR.nm h.btns z = none ∧ h.btns.length < 12 ∧ h.keys.length = 1 ∧ IsNm z ∧ (1 ≤ step ∧ step ≤ 64) ∧
  ∀ (h' : HouseR) (H' : Hp), Nx K H H' tab key h h' 0 → h'.pu = { h.pu with btns := h.pu.btns ++ [.new z step] } → Q .non H'
abbrev N_House_AddButton : List Str := ["self", "name", "step"]
theorem sc_House_AddButton : FnScope N_House_AddButton ["self", "name", "step"] (defScope s_House_AddButton) := ⟨rfl, rfl, rfl, by decide +kernel, rfl, by decide +kernel, by decide +kernel⟩
theorem c_House_AddButton (T : Tx P w K mg base) : CalM P w K mg base (He.ga K "House") "add_button" 3 ["self", "name", "step"] (spAddButton K) := by
  refine calM_mk T.df_House_AddButton T.m_House_AddButton sc_House_AddButton (fun _ _ _ _ _ _ us hl => match us, hl with | [_, _, _], _ => rfl) ?len (fun f cdv A outer s H vs Q E hr h => ?body)
  case len => walk_at "len"
  have nd := sc_House_AddButton.nd
  refine ⟨_, (pss_cons (ps_if (pt_cmp (pc_din (hu_of hr) (pv 1) (pe_at T.cls_House T.na_House_buttons lk_House_buttons (pv 0)))) (pss_one ps_never) pss_nil)
    (pss_one (ps_dput (hu_of hr) (pe_at T.cls_House T.na_House_buttons lk_House_buttons (pv 0)) (pv 1) (pe_mk (c_Button_Init T) (hr.mono (by decide)) T.g_Button (pa_cons (pv 1) (pa_cons (pe_at T.cls_House T.na_House_table lk_House_table (pv 0)) (pa_cons (pe_ix ix_list (pe_at T.cls_House T.na_House_house_keys lk_House_house_keys (pv 0)) (pe_un un_neg pe_int) (fun _ _ => rfl)) (pa_cons (pe_op op_sub (pe_callB call_len_seq (by rfl) T.f_len (by decide +kernel) (pa_cons (pe_at T.cls_House T.na_House_house_keys lk_House_house_keys (pv 0)) pa_nil)) pe_int) (pa_cons (pv 2) pa_nil)))))) rfl))), ?_⟩
  obtain ⟨h, tab, key, z, step, rfl, hh, hf, hbl, hk1, hz, hst, q⟩ := h
  obtain ⟨_, ⟨k0, r, hke, hk0⟩, _⟩ := hh.kz
  have hr0 : r = [] := by
    rw [hke, List.length_cons] at hk1
    exact List.length_eq_zero_iff.mp (by omega)
  subst hr0
  refine ⟨_, rfl, _, rfl, _, _, h.V, rfl, hh.ob, h.bd, _, rfl, DGet.k (k := Sum.inr z) hh.bdo, _, rfl, ?_⟩
  refine ifF (by rw [val_dk, hf] <;> rfl) ?_
  have hkls := hh.kls
  rw [hke] at hkls
  refine ⟨_, rfl, _, rfl, _, _, h.V, rfl, hh.ob, _, rfl, _, _, h.V, rfl, hh.ob, _, rfl, h.kl, _, _, V.ref k0, rfl, rfl, SqL.of hkls, rfl, _, rfl, _, _, h.V, rfl, hh.ob, _, _, rfl, Or.inl (SqL.of hkls), _, _, rfl, rfl, _, rfl, fun x dx hx hdx hne => ?_⟩
  have s2 : ∀ o1 o2, Same H (upd (upd H dx o1) x o2) := fun o1 o2 => (same_new hdx).trans (same_new (by rw [upd_ne hne.symm]; exact hx))
  refine ⟨x, dx, h.t, k0, tab, key, z, step, rfl, upd_same, s2 _ _ _ _ hh.tb, s2 _ _ _ _ hk0, hz, hst, fun cl H2 hcl hb2 fr => ⟨rfl, ?_⟩⟩
  have s3 : Same H H2 := fun b o hb => fr b o (s2 _ _ _ _ hb) (ne_of_none hb hx)
  have hh2 := hh.same s3
  have gcl := (s2 _ _).free hcl
  refine ⟨_, rfl, _, _, h.V, rfl, hh2.ob, _, rfl, h.bd, _, rfl, DPut.k (k := Sum.inr z) hh2.bdo (by rw [dk_len]; exact sz_lt (by omega)), ?_⟩
  rw [show putK (dk BtnR.nm BtnR.p h.btns) (Sum.inr z) (V.ref x) = dk BtnR.nm BtnR.p (h.btns ++ [⟨x, dx, h.t, k0, cl, .new z step⟩]) from put_new (e' := (⟨x, dx, h.t, k0, cl, .new z step⟩ : BtnR)) hf rfl]
  generalize eb : (⟨x, dx, h.t, k0, cl, .new z step⟩ : BtnR) = b
  obtain ⟨tk, k2, f1, f2, f3⟩ := hh2.own_fr (o := .dK (dk BtnR.nm BtnR.p (h.btns ++ [b]))) hh2.ht3 (fun xs e => by cases e)
  have nbx : ∀ {c : Addr} {o : HO}, H2 c = some o → H c = none → upd H2 h.bd (.dK (dk BtnR.nm BtnR.p (h.btns ++ [b]))) c = some o := fun hc h0 => k2 hc (hh.notag h0) (fun z => by cases z)
  have hx3 := nbx hb2.ob hx
  have hcl3 := nbx hb2.ce gcl
  have a1 : x ≠ cl := ne_of hx3 hcl3 (by intro z; cases z)
  have tp : ∀ (tag : Addr → Tag), tag = tg x (.bt z 0) (tg cl (.bt z 1) h.tag) → HouseAt K none (upd H2 h.bd (.dK (dk BtnR.nm BtnR.p (h.btns ++ [b])))) tab key { h with btns := h.btns ++ [b], tag := tag } ∧ (∀ c o, H c = some o → tag c = h.tag c) := by
    intro tag et
    have old : ∀ c o, H c = some o → tag c = h.tag c := fun c o hc => by
      rw [et]
      exact (tg_ne (ne_of_none hc hx)).trans (tg_ne (ne_of_none hc gcl))
    have oldn : ∀ c, h.tag c ≠ .no → tag c = h.tag c := fun c hc => by
      obtain ⟨o, ho, _⟩ := hh.ow c hc
      exact old c o ho
    refine ⟨⟨k2 hh2.ob hh.ht0 (fun z => by cases z), tk _ _ hh2.tb, k2 hh2.kls hh.ht1 (fun z => by cases z), k2 hh2.ddo hh.ht2 (fun z => by cases z), upd_same, k2 hh2.odo hh.ht5 (fun z => by cases z), k2 hh2.kpo hh.ht4 (fun z => by cases z), hh2.kz.tk tk,
      fun d hd => (f1 d hd).tg oldn, fun b' hb' => ?_, fun y hy => (hh2.kpt y hy).tk tk, hh.ndd, ?_, tag_up oldn hh.ht0 (fun z => by cases z), tag_up oldn hh.ht1 (fun z => by cases z), tag_up oldn hh.ht2 (fun z => by cases z), tag_up oldn hh.ht3 (fun z => by cases z), tag_up oldn hh.ht4 (fun z => by cases z), tag_up oldn hh.ht5 (fun z => by cases z), fun c hc => ?_, hh.tT, hh.kl8, hh.kn, hh.dn, ?_⟩, old⟩
    · rcases List.mem_append.mp hb' with e | e
      · exact (f2 b' e).tg oldn
      · rw [List.mem_singleton.mp e, ← eb]
        rw [← eb] at hx3 hcl3 tk
        refine ⟨⟨hx3, tk _ _ hh2.tb, tk _ _ (s3 _ _ hk0), hcl3, hb2.ok⟩, ?_, ?_⟩
        · rw [et]; exact tg_same
        · rw [et]; exact (tg_ne a1.symm).trans tg_same
    · rw [List.map_append]
      refine List.nodup_append.mpr ⟨hh.ndb, (List.nodup_cons.mpr ⟨List.not_mem_nil, List.nodup_nil⟩), fun y hy y2 hy2 => ?_⟩
      obtain ⟨e, he, rfl⟩ := List.mem_map.mp hy
      rw [show y2 = z from by rw [← eb] at hy2; exact List.mem_singleton.mp hy2]
      exact fnd_no hf e he
    · by_cases c1 : c = x
      · rw [c1]; exact ⟨_, hx3, by intro xs z; cases z⟩
      by_cases c2 : c = cl
      · rw [c2]; exact ⟨_, hcl3, by intro xs z; cases z⟩
      have e : tag c = h.tag c := by rw [et]; exact (tg_ne c1).trans (tg_ne c2)
      exact f3 c (by rw [← e]; exact hc)
    · show (h.btns ++ [b]).length ≤ 12
      rw [List.length_append]
      exact hbl
  obtain ⟨t1, t2⟩ := tp _ rfl
  refine q _ _ ⟨t1, fun c o hc hn => ⟨k2 (s3 _ _ hc) hn (fun z => by cases z), (t2 c o hc).trans hn⟩, rfl, Nat.le_refl _⟩ ?_
  unfold HouseR.pu
  show (⟨_, (h.btns ++ [b]).map BtnR.s, _, _⟩ : PH) = _
  rw [List.map_append, ← eb] <;> rfl
end
end K69
end
section
set_option Elab.async false
set_option linter.all false
set_option maxRecDepth 100000
set_option maxHeartbeats 4000000
local macro_rules | `(tactic| walk_at "len") => `(tactic| (intro vs H Q E h; first
  | (obtain ⟨e, _⟩ := h; subst e; rfl) | (obtain ⟨_, e, _⟩ := h; subst e; rfl) | (obtain ⟨_, _, e, _⟩ := h; subst e; rfl) | (obtain ⟨_, _, _, e, _⟩ := h; subst e; rfl) | (obtain ⟨_, _, _, _, e, _⟩ := h; subst e; rfl)
  | (obtain ⟨_, _, _, _, _, e, _⟩ := h; subst e; rfl) | (obtain ⟨_, _, _, _, _, _, e, _⟩ := h; subst e; rfl) | (obtain ⟨_, _, _, _, _, _, _, e, _⟩ := h; subst e; rfl) | (obtain ⟨_, _, _, _, _, _, _, _, e, _⟩ := h; subst e; rfl)
  | (obtain ⟨_, _, _, _, _, _, _, _, _, e, _⟩ := h; subst e; rfl) | (obtain ⟨_, _, _, _, _, _, _, _, _, _, e, _⟩ := h; subst e; rfl) | (obtain ⟨_, _, _, _, _, _, _, _, _, _, _, e, _⟩ := h; subst e; rfl)))
local macro_rules | `(tactic| walk_at "hh") => `(tactic| first
  | assumption
  | exact L2.upd_same
  | (refine (L2.upd_ne (by walk_at "ne")).trans ?_; walk_at "hh")
  | (refine (‹L2.Same _ _› : L2.Same _ _) _ _ ?_; walk_at "hh"))
local macro_rules | `(tactic| walk_at "ne") => `(tactic| first
  | assumption
  | (apply Ne.symm; assumption)
  | exact L2.ne_of_none (by walk_at "hh") (by assumption)
  | exact (L2.ne_of_none (by walk_at "hh") (by assumption)).symm)
local macro_rules | `(tactic| walk_at "s") => `(tactic| first
  | refine ⟨_, rfl, ?_⟩
  | refine ⟨_, _, _, rfl, (by walk_at "hh"), ?_⟩
  | refine ⟨rfl, ?_⟩
  | refine ⟨_, _, rfl, rfl, ?_⟩)
local macro_rules | `(tactic| walk_at "isi int") => `(tactic| refine ⟨_, _, _, _, true, rfl, .ty "int", .base (.int _), L2.kit_ty (by decide +kernel), ?_⟩)
local macro_rules | `(tactic| walk_at "isi bool") => `(tactic| refine ⟨_, _, _, _, false, rfl, .ty "bool", .base (.int _), L2.kit_ty (by decide +kernel), ?_⟩)
local macro_rules | `(tactic| walk_at "isi tuple") => `(tactic| refine ⟨_, _, _, _, true, rfl, .ty "tuple", .base (.tup (by assumption)), L2.kit_ty (by decide +kernel), ?_⟩)
local macro_rules | `(tactic| walk_at "isi str") => `(tactic| refine ⟨_, _, _, _, true, rfl, .ty "str", .base (.str _), L2.kit_ty (by decide +kernel), ?_⟩)
local macro_rules | `(tactic| walk_at "v") => `(tactic| refine ⟨_, rfl, ?_⟩)
local macro_rules | `(tactic| walk_at "ii") => `(tactic| refine ⟨_, _, rfl, rfl, ?_⟩)
namespace K69
open PySem PySem.Spec PyProof.Rows L2
/-! ### house.py: what is done -/
def PH.hear (p : PH) (dn z : Str) (c : Int) : PH := match fnd PD.nm p.doors dn with
  | none => p
  | some d => { p with doors := setN PD.nm p.doors dn { d with es := hearL d.near d.far d.es z c } }
def PH.ans (p : PH) (dn z : Str) (c : Int) : Option Str := match fnd PD.nm p.doors dn with
  | none => none
  | some d => hearA d.near d.far d.es z c
theorem fnd_map {α β : Type} {nm : α → Str} {nb : β → Str} {f : α → β} (hf : ∀ x, nb (f x) = nm x) (l : List α) (z : Str) : fnd nb (l.map f) z = (fnd nm l z).map f := by
  unfold fnd
  rw [List.find?_map]
  congr 1
  refine congrArg (fun q => List.find? q l) (funext fun x => ?_)
  show decide (nb (f x) = z) = _
  rw [hf]
theorem setN_map {α β : Type} {nm : α → Str} {nb : β → Str} {f : α → β} (hf : ∀ x, nb (f x) = nm x) (l : List α) (z : Str) (e : α) : (setN nm l z e).map f = setN nb (l.map f) z (f e) := by
  unfold setN
  rw [List.map_map, List.map_map]
  refine List.map_congr_left fun x _ => ?_
  show f (if nm x = z then e else x) = if nb (f x) = z then f e else f x
  rw [hf]
  split <;> rfl
theorem pu_fnd {h : HouseR} {z : Str} {d : DoorR} (hf : fnd DoorR.nm h.doors z = some d) : fnd PD.nm h.pu.doors z = some d.pu := by
  show fnd PD.nm (h.doors.map DoorR.pu) z = _
  rw [fnd_map (nm := DoorR.nm) (nb := PD.nm) (f := DoorR.pu) (fun _ => rfl), hf] <;> rfl
theorem pu_bfnd {h : HouseR} {z : Str} {b : BtnR} (hf : fnd BtnR.nm h.btns z = some b) : fnd PB.name h.pu.btns z = some b.s := by
  show fnd PB.name (h.btns.map BtnR.s) z = _
  rw [fnd_map (nm := BtnR.nm) (nb := PB.name) (f := BtnR.s) (fun _ => rfl), hf] <;> rfl
/-- the other way -/
theorem fnd_pu {h : HouseR} {z : Str} {d : PD} (hf : fnd PD.nm h.pu.doors z = some d) : ∃ d', fnd DoorR.nm h.doors z = some d' ∧ d'.pu = d := by
  change fnd PD.nm (h.doors.map DoorR.pu) z = _ at hf
  rw [fnd_map (nm := DoorR.nm) (nb := PD.nm) (f := DoorR.pu) (fun _ => rfl)] at hf
  cases e : fnd DoorR.nm h.doors z with
  | none => rw [e] at hf; cases hf
  | some d' => rw [e] at hf; exact ⟨d', rfl, Option.some.inj hf⟩
theorem fnd_bpu {h : HouseR} {z : Str} {b : PB} (hf : fnd PB.name h.pu.btns z = some b) : ∃ b', fnd BtnR.nm h.btns z = some b' ∧ b'.s = b := by
  change fnd PB.name (h.btns.map BtnR.s) z = _ at hf
  rw [fnd_map (nm := BtnR.nm) (nb := PB.name) (f := BtnR.s) (fun _ => rfl)] at hf
  cases e : fnd BtnR.nm h.btns z with
  | none => rw [e] at hf; cases hf
  | some d' => rw [e] at hf; exact ⟨d', rfl, Option.some.inj hf⟩
section
variable {P : Program} {w : World} {K : PySem.W.Frag} {mg : Str → Option Value} {base : Heap}
/-- a button at work in the house -/
theorem HouseAt.btn_step {H H' : Hp} {tab key : List Int} {h : HouseR} (hh : HouseAt K none H tab key h) {b : BtnR} (hb : b ∈ h.btns) (f : Fr2 b.p b.cl H H') {s' : PB} (hb' : BtnAt K H' tab key { b with s := s' }) (e : s'.name = b.s.name) :
    Nx K H H' tab key h { h with btns := setN BtnR.nm h.btns b.nm { b with s := s' } } 0 ∧ ({ h with btns := setN BtnR.nm h.btns b.nm { b with s := s' } } : HouseR).pu = { h.pu with btns := setN PB.name h.pu.btns b.nm s' } := by
  have B := hh.brs b hb
  obtain ⟨h1, h2⟩ := hh.btn_upd hb f B.t0 B.t1 ⟨_, hb'.ob, by intro xs z; cases z⟩ ⟨_, hb'.ce, by intro xs z; cases z⟩ (b' := { b with s := s' }) ⟨hb', B.t0.trans (congrArg (Tag.bt · 0) e.symm), B.t1.trans (congrArg (Tag.bt · 1) e.symm)⟩ e rfl
  refine ⟨⟨h1, h2, rfl, Nat.le_refl _⟩, ?_⟩
  show (⟨_, (setN BtnR.nm h.btns b.nm { b with s := s' }).map BtnR.s, _, _⟩ : PH) = _
  rw [setN_map (nm := BtnR.nm) (nb := PB.name) (f := BtnR.s) (fun _ => rfl)] <;> rfl
theorem HouseAt.door_step {H H' : Hp} {tab key : List Int} {h : HouseR} (hh : HouseAt K none H tab key h) {d : DoorR} (hd : d ∈ h.doors) (f : Fr2 d.en d.rw' H H') {es' : List Ent} (hd' : DoorAt K H' tab key (h.n + 1) { d with ents := es' }) :
    Nx K H H' tab key h { h with doors := setN DoorR.nm h.doors d.nm { d with ents := es' }, n := h.n + 1 } 1 ∧
      ({ h with doors := setN DoorR.nm h.doors d.nm { d with ents := es' }, n := h.n + 1 } : HouseR).pu = { h.pu with doors := setN PD.nm h.pu.doors d.nm { d.pu with es := es'.map Ent.pu } } := by
  have D := hh.drs d hd
  obtain ⟨xs, hx, hxl⟩ := hd'.rws
  obtain ⟨ys, hy, hyl⟩ := D.opo
  have o1 : d.op ≠ d.en := fun e => by have := D.t4; rw [e, D.t2] at this; injection this with _ z; cases z
  have o2 : d.op ≠ d.rw' := fun e => by have := D.t4; rw [e, D.t3] at this; injection this with _ z; cases z
  obtain ⟨h1, h2⟩ := hh.door_upd hd (m := h.n + 1) f D.t2 D.t3 ⟨_, hd'.ens, by intro xs z; cases z⟩ ⟨_, hx, by intro xs z; cases z⟩ (d' := { d with ents := es' }) ⟨hd', D.kq, ⟨ys, f _ _ hy o1 o2, Nat.le_succ_of_le hyl⟩, D.t0, D.t1, D.t2, D.t3, D.t4, D.mst⟩ rfl rfl rfl (Nat.le_succ _)
  refine ⟨⟨h1, h2, rfl, Nat.le_refl _⟩, ?_⟩
  show (⟨(setN DoorR.nm h.doors d.nm { d with ents := es' }).map DoorR.pu, _, _, _⟩ : PH) = _
  rw [setN_map (nm := DoorR.nm) (nb := PD.nm) (f := DoorR.pu) (fun _ => rfl)] <;> rfl
theorem setN_self {α : Type} {nm : α → Str} {l : List α} (hn : (l.map nm).Nodup) {d : α} (hd : d ∈ l) : setN nm l (nm d) d = l := by
  unfold setN
  refine (List.map_congr_left fun x hx => ?_).trans (List.map_id l)
  show (if nm x = nm d then d else x) = x
  split
  · next e => exact (nm_inj hn hx hd e).symm
  · rfl
theorem setN_has {α : Type} {nm : α → Str} {l : List α} {z : Str} {e e' : α} (h : fnd nm l z = some e) (hz : nm e' = z) : e' ∈ setN nm l z e' := by
  obtain ⟨h1, h2⟩ := fnd_ok h
  exact List.mem_map.mpr ⟨e, h1, if_pos h2⟩
theorem HouseAt.op_step {H : Hp} {tab key : List Int} {h : HouseR} (hh : HouseAt K none H tab key h) {d : DoorR} (hd : d ∈ h.doors) {ys : List V} (hy : H d.op = some (.lst ys)) (hl : ys.length ≤ h.n) (v : V) :
    Nx K H (upd H d.op (.lst (ys ++ [v]))) tab key h { h with n := h.n + 1 } 1 := by
  have D := hh.drs d hd
  have nt : ∀ {i : Nat} {c : Addr}, h.tag c = .dr d.nm i → i ≠ 4 → c ≠ d.op := fun {i c} hc hi e => hi (by rw [e, D.t4] at hc; injection hc with _ z; exact z.symm)
  have tk : TupK H (upd H d.op (.lst (ys ++ [v]))) := (TupK.refl H).upd (fun xs e => by rw [hy] at e; cases e)
  have A := D.at_
  obtain ⟨xs, hx, hxl⟩ := A.rws
  obtain ⟨h1, h2⟩ := hh.door_upd hd (m := h.n + 1) (a := d.op) (c := d.op) (H' := upd H d.op (.lst (ys ++ [v]))) (fun c o hc n1 _ => (upd_ne n1).trans hc) D.t4 D.t4 ⟨_, upd_same, by intro xs z; cases z⟩ ⟨_, upd_same, by intro xs z; cases z⟩ (d' := d)
    ⟨⟨(upd_ne (nt D.t0 (by decide))).trans A.ob, tk _ _ A.tb, (upd_ne (nt D.t1 (by decide))).trans A.kls, tk _ _ A.bo, (upd_ne (nt D.t2 (by decide))).trans A.ens, ⟨xs, (upd_ne (nt D.t3 (by decide))).trans hx, Nat.le_succ_of_le hxl⟩, A.kz.tk tk, fun e he => (A.ent e he).tk tk, A.nd, A.el, A.ne⟩,
      D.kq, ⟨_, upd_same, by rw [List.length_append]; exact Nat.succ_le_succ hl⟩, D.t0, D.t1, D.t2, D.t3, D.t4, D.mst⟩ rfl rfl rfl (Nat.le_succ _)
  rw [setN_self hh.ndd hd] at h1 h2
  exact ⟨h1, h2, rfl, Nat.le_refl _⟩
def spListen (K : PySem.W.Frag) : Sp := fun vs H Q _ => ∃ (h : HouseR) (tab key : List Int) (dn : Str) (num : Nat) (d : DoorR) (a : Addr) (z : Str) (c deed : Int), vs = [.ref h.p, .str dn, .int num] ∧ HouseAt K none H tab key h ∧ fnd DoorR.nm h.doors dn = some d ∧ h.kept[num]? = some (a, z, c, deed) ∧ h.n ≤ 9000 ∧
  ∀ (r : Addr) (h' : HouseR) (H' : Hp), Nx K H H' tab key h h' 2 → h'.pu = h.pu.hear dn z c → AnsAt H' r (h.pu.ans dn z c) z deed → Q (.ref r) H'
abbrev N_House_Listen : List Str := ["self", "door", "number", "answer"]
theorem sc_House_Listen : FnScope N_House_Listen ["self", "door", "number"] (defScope s_House_Listen) := ⟨rfl, rfl, rfl, by decide +kernel, rfl, by decide +kernel, by decide +kernel⟩
theorem c_House_Listen (T : Tx P w K mg base) : CalM P w K mg base (He.ga K "House") "listen" 6 ["self", "door", "number"] (spListen K) := by
  refine calM_mk T.df_House_Listen T.m_House_Listen sc_House_Listen (fun _ _ _ _ _ _ us hl => match us, hl with | [_, _, _], _ => rfl) ?len (fun f cdv A outer s H vs Q E hr h => ?body)
  case len => walk_at "len"
  have nd := sc_House_Listen.nd
  refine ⟨_, (pss_cons (ps_set (i := 3) nd rfl (Or.inl rfl) (pe_mt (c_Door_Hear T) T.cls_Door lm_Door_Hear (hr.mono (by decide)) (pe_dget (hu_of hr) (pe_at T.cls_House T.na_House_doors lk_House_doors (pv 0)) (pv 1) (fun _ _ => rfl)) (pa_cons (pe_ix ix_list (pe_at T.cls_House T.na_House_kept lk_House_kept (pv 0)) (pv 2) (fun _ _ => rfl)) pa_nil)))
    (pss_cons (ps_if (pt_cmpR op_eq (pe_ix ix_tup (pv 3) pe_int (fun _ _ => rfl)) (pe_gs T.z_OPEN) (nomark _)) (pss_one (ps_expr (pe_bm PySem.F.plainAttrs_list PySem.F.slot_list_append PySem.F.type_list_append mt_append (pe_dget (hu_of hr) (pe_at T.cls_House T.na_House_opened lk_House_opened (pv 0)) (pv 1) (fun _ _ => rfl)) (pa_cons (pv 2) pa_nil)))) pss_nil)
    (pss_one (ps_ret (pv 3))))), ?_⟩
  obtain ⟨h, tab, key, dn, num, d, a, z, c, deed, rfl, hh, hf, hk, hn, q⟩ := h
  obtain ⟨hdm, hdn⟩ := fnd_ok hf
  have D := hh.drs d hdm
  have g : DGet H h.dd (.str dn) (some (.ref d.p)) := by
    have g := DGet.k (k := Sum.inr dn) (show H h.dd = some (.dK _) from hh.ddo)
    rw [val_dk, hf] at g
    exact g
  refine ⟨_, rfl, _, _, h.V, rfl, hh.ob, _, rfl, h.dd, _, rfl, g, _, _, d.V, rfl, D.at_.ob, _, rfl, _, _, h.V, rfl, hh.ob, _, rfl, h.kp, _, _, V.ref a, rfl, rfl, SqL.of hh.kpo, at_of rfl (by rw [List.getElem?_map, hk] <;> rfl), ?_⟩
  refine ⟨d, a, tab, key, h.n, z, c, deed, rfl, D.at_, hh.tT, hh.kl8, hh.kpt _ (List.mem_of_getElem? hk), by omega, fun r es' H1 f1 hd1 hpu ha => ?_⟩
  obtain ⟨N1, hpu1⟩ := hh.door_step hdm f1 hd1
  have hpuf := pu_fnd hf
  have epu : h.pu.hear dn z c = { h.pu with doors := setN PD.nm h.pu.doors d.nm { d.pu with es := es'.map Ent.pu } } := by
    unfold PH.hear
    rw [hpuf, hpu, hdn] <;> rfl
  have eans : h.pu.ans dn z c = hearA d.near d.far (d.ents.map Ent.pu) z c := by
    unfold PH.ans
    rw [hpuf] <;> rfl
  rw [← epu] at hpu1
  rw [← eans] at ha
  have hT : ∃ x ys, H1 r = some (.tup (.str x :: ys)) := by
    cases e : h.pu.ans dn z c with
    | none => rw [e] at ha; exact ⟨_, _, ha⟩
    | some x => rw [e] at ha; exact ⟨_, _, ha⟩
  obtain ⟨x0, ys0, hr⟩ := hT
  refine ⟨_, rfl, r, _, _, V.str x0, rfl, rfl, SqT.of hr, at_of (j := 0) rfl rfl, rfl, _, rfl, ?_⟩
  by_cases e : x0 = "open"
  · refine ifD (congrArg V.str e) ?_
    have hh1 := N1.at_
    have hm1 : ({ d with ents := es' } : DoorR) ∈ setN DoorR.nm h.doors d.nm { d with ents := es' } := setN_has (z := d.nm) (e := d) (by rw [hdn]; exact hf) rfl
    have hdo : dk DoorR.nm DoorR.op (setN DoorR.nm h.doors d.nm { d with ents := es' }) = _ := rfl
    obtain ⟨ys, hy, hyl⟩ := (hh1.drs _ hm1).opo
    have g1 : DGet H1 h.od (.str dn) (some (.ref d.op)) := by
      have g := DGet.k (k := Sum.inr dn) hh1.odo
      rw [val_dk] at g
      have g2 : fnd DoorR.nm (setN DoorR.nm h.doors d.nm { d with ents := es' }) dn = some { d with ents := es' } := hdn ▸ fnd_mem hh1.ndd hm1
      rw [show (HouseR.doors { h with doors := setN DoorR.nm h.doors d.nm { d with ents := es' }, n := h.n + 1 }) = setN DoorR.nm h.doors d.nm { d with ents := es' } from rfl, g2] at g
      exact g
    refine ⟨_, rfl, _, _, h.V, rfl, hh1.ob, _, rfl, h.od, _, rfl, g1, Or.inl ⟨rfl, _, SqL.of hy⟩, _, rfl, d.op, _, _, rfl, rfl, hy, sz_lt (by have : ys.length ≤ h.n + 1 := hyl; omega), ?_⟩
    have N2 := hh1.op_step hm1 hy hyl (.int num)
    refine ⟨_, rfl, q r _ _ (N1.trans N2) hpu1 (ha.tk ?_)⟩
    exact HFr.tk hh1 N2.fr
  · refine ifND (fun z => e (V.str.inj z)) ?_
    exact ⟨_, rfl, q r _ _ ⟨N1.at_, N1.fr, rfl, by have := N1.nn; omega⟩ hpu1 ha⟩
end
end K69
end
section
set_option Elab.async false
set_option linter.all false
set_option maxRecDepth 100000
set_option maxHeartbeats 4000000
local macro_rules | `(tactic| walk_at "len") => `(tactic| (intro vs H Q E h; first
  | (obtain ⟨e, _⟩ := h; subst e; rfl) | (obtain ⟨_, e, _⟩ := h; subst e; rfl) | (obtain ⟨_, _, e, _⟩ := h; subst e; rfl) | (obtain ⟨_, _, _, e, _⟩ := h; subst e; rfl) | (obtain ⟨_, _, _, _, e, _⟩ := h; subst e; rfl)
  | (obtain ⟨_, _, _, _, _, e, _⟩ := h; subst e; rfl) | (obtain ⟨_, _, _, _, _, _, e, _⟩ := h; subst e; rfl) | (obtain ⟨_, _, _, _, _, _, _, e, _⟩ := h; subst e; rfl) | (obtain ⟨_, _, _, _, _, _, _, _, e, _⟩ := h; subst e; rfl)
  | (obtain ⟨_, _, _, _, _, _, _, _, _, e, _⟩ := h; subst e; rfl) | (obtain ⟨_, _, _, _, _, _, _, _, _, _, e, _⟩ := h; subst e; rfl) | (obtain ⟨_, _, _, _, _, _, _, _, _, _, _, e, _⟩ := h; subst e; rfl)))
local macro_rules | `(tactic| walk_at "hh") => `(tactic| first
  | assumption
  | exact L2.upd_same
  | (refine (L2.upd_ne (by walk_at "ne")).trans ?_; walk_at "hh")
  | (refine (‹L2.Same _ _› : L2.Same _ _) _ _ ?_; walk_at "hh"))
local macro_rules | `(tactic| walk_at "ne") => `(tactic| first
  | assumption
  | (apply Ne.symm; assumption)
  | exact L2.ne_of_none (by walk_at "hh") (by assumption)
  | exact (L2.ne_of_none (by walk_at "hh") (by assumption)).symm)
local macro_rules | `(tactic| walk_at "s") => `(tactic| first
  | refine ⟨_, rfl, ?_⟩
  | refine ⟨_, _, _, rfl, (by walk_at "hh"), ?_⟩
  | refine ⟨rfl, ?_⟩
  | refine ⟨_, _, rfl, rfl, ?_⟩)
local macro_rules | `(tactic| walk_at "isi int") => `(tactic| refine ⟨_, _, _, _, true, rfl, .ty "int", .base (.int _), L2.kit_ty (by decide +kernel), ?_⟩)
local macro_rules | `(tactic| walk_at "isi bool") => `(tactic| refine ⟨_, _, _, _, false, rfl, .ty "bool", .base (.int _), L2.kit_ty (by decide +kernel), ?_⟩)
local macro_rules | `(tactic| walk_at "isi tuple") => `(tactic| refine ⟨_, _, _, _, true, rfl, .ty "tuple", .base (.tup (by assumption)), L2.kit_ty (by decide +kernel), ?_⟩)
local macro_rules | `(tactic| walk_at "isi str") => `(tactic| refine ⟨_, _, _, _, true, rfl, .ty "str", .base (.str _), L2.kit_ty (by decide +kernel), ?_⟩)
local macro_rules | `(tactic| walk_at "v") => `(tactic| refine ⟨_, rfl, ?_⟩)
local macro_rules | `(tactic| walk_at "ii") => `(tactic| refine ⟨_, _, rfl, rfl, ?_⟩)
namespace K69
open PySem PySem.Spec PyProof.Rows L2
def PH.po (p : PH) (z : Str) (deed : Int) : PH := match fnd PB.name p.btns z with
  | none => p
  | some b => { p with btns := setN PB.name p.btns z b.po, kept := p.kept ++ [(z, b.cnt, deed)] }
def PH.hears (p : PH) (dns : List Str) (z : Str) (c : Int) : PH := dns.foldl (fun p dn => p.hear dn z c) p
def PH.teach (p : PH) (dn z : Str) : PH := match fnd PD.nm p.doors dn, fnd PB.name p.btns z with
  | some d, some b => { p with doors := setN PD.nm p.doors dn { d with es := d.es ++ [(z, b.cnt + 1, none)] }, btns := setN PB.name p.btns z b.po.po, kept := p.kept ++ [(z, b.cnt, 0), (z, b.cnt + 1, 0)] }
  | _, _ => p
def PH.btn (p : PH) (z : Str) (f : PB → PB) : PH := match fnd PB.name p.btns z with
  | none => p
  | some b => { p with btns := setN PB.name p.btns z (f b) }
theorem hear_kept (p : PH) (dn z : Str) (c : Int) : (p.hear dn z c).kept = p.kept := by
  unfold PH.hear
  split <;> rfl
theorem hear_btns (p : PH) (dn z : Str) (c : Int) : (p.hear dn z c).btns = p.btns := by
  unfold PH.hear
  split <;> rfl
theorem hears_kept (dns : List Str) (z : Str) (c : Int) : ∀ p : PH, (p.hears dns z c).kept = p.kept := by
  induction dns with
  | nil => exact fun _ => rfl
  | cons x r ih => exact fun p => (ih _).trans (hear_kept p x z c)
theorem hears_more {p : PH} {dns : List Str} {i : Nat} {dn z : Str} {c : Int} (h : dns[i]? = some dn) : p.hears (dns.take (i + 1)) z c = (p.hears (dns.take i) z c).hear dn z c := by
  unfold PH.hears
  rw [foldl_take h]
theorem fnd_setN {α : Type} {nm : α → Str} {l : List α} {z x : Str} {e' : α} (hz : nm e' = z) : fnd nm (setN nm l z e') x = (fnd nm l x).map fun e => if x = z then e' else e := by
  induction l with
  | nil => rfl
  | cons a r ih =>
    have ih2 : List.find? (fun e => decide (nm e = x)) (setN nm r z e') = _ := ih
    show List.find? _ ((if nm a = z then e' else a) :: setN nm r z e') = (List.find? _ (a :: r)).map _
    rw [List.find?_cons, List.find?_cons, ih2]
    by_cases h1 : nm a = z
    · rw [if_pos h1]
      by_cases h2 : nm a = x
      · rw [decide_eq_true h2, decide_eq_true (by rw [hz, ← h1]; exact h2)]
        show some e' = some (if x = z then e' else a)
        rw [if_pos (h2.symm.trans h1)]
      · rw [decide_eq_false h2, decide_eq_false (by rw [hz, ← h1]; exact h2)]
        rfl
    · rw [if_neg h1]
      by_cases h2 : nm a = x
      · rw [decide_eq_true h2]
        show some a = some (if x = z then e' else a)
        rw [if_neg (fun h => h1 (h2.trans h))]
      · rw [decide_eq_false h2]
        rfl
theorem hear_has {p : PH} {dn x z : Str} {c : Int} (h : (fnd PD.nm p.doors dn).isSome = true) (hx : ∀ d, fnd PD.nm p.doors x = some d → d.nm = x) : (fnd PD.nm (p.hear x z c).doors dn).isSome = true := by
  unfold PH.hear
  cases e : fnd PD.nm p.doors x with
  | none => exact h
  | some d =>
    show (fnd PD.nm (setN PD.nm p.doors x { d with es := hearL d.near d.far d.es z c }) dn).isSome = true
    rw [fnd_setN (show PD.nm { d with es := hearL d.near d.far d.es z c } = x from hx d e)]
    rw [Option.isSome_map]
    exact h
theorem hears_has {z dn : Str} {c : Int} : ∀ (dns : List Str) (p : PH), (fnd PD.nm p.doors dn).isSome = true → (fnd PD.nm (p.hears dns z c).doors dn).isSome = true
  | [], _, h => h
  | x :: r, p, h => hears_has r _ (hear_has h fun d hd => (fnd_ok hd).2)
section
variable {P : Program} {w : World} {K : PySem.W.Frag} {mg : Str → Option Value} {base : Heap}
/-- an object that is not the house's changes -/
theorem HouseAt.other {H : Hp} {tab key : List Int} {h : HouseR} (hh : HouseAt K none H tab key h) {a : Addr} {o : HO} (ht : h.tag a = .no) (hn : ∀ xs, H a ≠ some (.tup xs)) (ho : ∀ xs, o ≠ .tup xs) : HouseAt K none (upd H a o) tab key h := by
  have tk : TupK H (upd H a o) := (TupK.refl H).upd hn
  have k1 : ∀ {x : Addr} {u : HO} {t : Tag}, H x = some u → h.tag x = t → t ≠ .no → upd H a o x = some u := fun {x u t} hx hxt hne => (upd_ne (fun e => hne (by rw [← hxt, e, ht]))).trans hx
  exact ⟨k1 hh.ob hh.ht0 (fun z => by cases z), tk _ _ hh.tb, k1 hh.kls hh.ht1 (fun z => by cases z), k1 hh.ddo hh.ht2 (fun z => by cases z), k1 hh.bdo hh.ht3 (fun z => by cases z), k1 hh.odo hh.ht5 (fun z => by cases z), k1 hh.kpo hh.ht4 (fun z => by cases z), hh.kz.tk tk,
    fun d hd => (hh.drs d hd).fr (fun c u hc hi => hi.elim fun i hi => k1 hc hi (fun z => by cases z)) tk, fun b hb => (hh.brs b hb).fr (fun c u hc hi => hi.elim fun i hi => k1 hc hi (fun z => by cases z)) tk, fun x hx => (hh.kpt x hx).tk tk, hh.ndd, hh.ndb,
    hh.ht0, hh.ht1, hh.ht2, hh.ht3, hh.ht4, hh.ht5, fun c hc => (hh.ow c hc).upd ho, hh.tT, hh.kl8, hh.kn, hh.dn, hh.bn⟩
theorem Nx.free {H H' : Hp} {tab key : List Int} {h h' : HouseR} {m : Nat} (n : Nx K H H' tab key h h' m) {a : Addr} {o : HO} (h0 : H a = none) (ht : h'.tag a = .no) (hn : ∀ xs, H' a ≠ some (.tup xs)) (ho : ∀ xs, o ≠ .tup xs) : Nx K H (upd H' a o) tab key h h' m :=
  ⟨n.at_.other ht hn ho, fun c u hc hct => ⟨(upd_ne (ne_of_none hc h0)).trans (n.fr c u hc hct).1, (n.fr c u hc hct).2⟩, n.pp, n.nn⟩
theorem HouseAt.kept_step {H : Hp} {tab key : List Int} {h : HouseR} (hh : HouseAt K none H tab key h) {xs : List (Addr × Str × Int × Int)} (hx : ∀ x, x ∈ xs → PrAt H tab key x.1 x.2.1 x.2.2.1 x.2.2.2) :
    Nx K H (upd H h.kp (.lst ((h.kept ++ xs).map fun x => V.ref x.1))) tab key h { h with kept := h.kept ++ xs, n := h.n + xs.length } xs.length ∧ ({ h with kept := h.kept ++ xs, n := h.n + xs.length } : HouseR).pu = { h.pu with kept := h.pu.kept ++ xs.map Prod.snd } := by
  obtain ⟨h1, h2⟩ := hh.kept_add hx (m := h.n + xs.length) (Nat.le_refl _)
  refine ⟨⟨h1, h2, rfl, Nat.le_refl _⟩, ?_⟩
  show (⟨_, _, (h.kept ++ xs).map Prod.snd, _⟩ : PH) = _
  rw [List.map_append] <;> rfl
def spPress (K : PySem.W.Frag) : Sp := fun vs H Q _ => ∃ (h : HouseR) (tab key : List Int) (z : Str) (deed : Int) (t : Addr) (dns : List Str) (b : PB), vs = [.ref h.p, .str z, .int deed, .ref t] ∧ HouseAt K none H tab key h ∧ fnd PB.name h.pu.btns z = some b ∧ b.cnt < 4096 ∧ (0 ≤ deed ∧ deed < 16) ∧ H t = some (.tup (dns.map V.str)) ∧
  (∀ dn, dn ∈ dns → (fnd PD.nm h.pu.doors dn).isSome = true) ∧ dns.length ≤ 100 ∧ h.n ≤ 8000 ∧
  ∀ (r t2 : Addr) (rs : List Addr) (h' : HouseR) (H' : Hp), Nx K H H' tab key h h' (1 + 2 * dns.length) → h'.pu = (h.pu.po z deed).hears dns z b.cnt → H' r = some (.tup [.int h.kept.length, .ref t2]) → H' t2 = some (.tup (rs.map V.ref)) → rs.length = dns.length →
    (∀ i a dn, rs[i]? = some a → dns[i]? = some dn → AnsAt H' a (((h.pu.po z deed).hears (dns.take i) z b.cnt).ans dn z b.cnt) z deed) → Q (.ref r) H'
abbrev N_House_PressButton : List Str := ["self", "button", "deed", "doors", "own", "door", "number"]
theorem sc_House_PressButton : FnScope N_House_PressButton ["self", "button", "deed", "doors"] (defScope s_House_PressButton) := ⟨rfl, rfl, rfl, by decide +kernel, rfl, by decide +kernel, by decide +kernel⟩
theorem c_House_PressButton (T : Tx P w K mg base) : CalM P w K mg base (He.ga K "House") "press_button" 7 ["self", "button", "deed", "doors"] (spPress K) := by
  refine calM_mk T.df_House_PressButton T.m_House_PressButton sc_House_PressButton (fun _ _ _ _ _ _ us hl => match us, hl with | [_, _, _, _], _ => rfl) ?len (fun f cdv A outer s H vs Q E hr h => ?body)
  case len => walk_at "len"
  have nd := sc_House_PressButton.nd
  refine ⟨_, (pss_cons (ps_set (i := 4) nd rfl (Or.inl rfl) (pe_mt (c_House_LookButton T) T.cls_House lm_House_LookButton (hr.mono (by decide)) (pv 0) (pa_cons (pv 1) pa_nil)))
    (pss_cons (ps_for PassesOwn.never rfl (pi_tup (pv 3)) (pg_name (i := 5) nd rfl (Or.inl rfl))
    (pss_one (ps_expr (pe_mt (c_House_LookDoor T) T.cls_House lm_House_LookDoor (hr.mono (by decide)) (pv 0) (pa_cons (pv 5) pa_nil)))))
    (pss_cons (ps_expr (pe_bm PySem.F.plainAttrs_list PySem.F.slot_list_append PySem.F.type_list_append mt_append (pe_at T.cls_House T.na_House_kept lk_House_kept (pv 0)) (pa_cons (pe_mt (c_Button_PressOnce T) T.cls_Button lm_Button_PressOnce (hr.mono (by decide)) (pv 4) (pa_cons (pv 2) pa_nil)) pa_nil)))
    (pss_cons (ps_set (i := 6) nd rfl (Or.inr rfl) (pe_op op_sub (pe_callB call_len_seq (by rfl) T.f_len (by decide +kernel) (pa_cons (pe_at T.cls_House T.na_House_kept lk_House_kept (pv 0)) pa_nil)) pe_int))
    (pss_one (ps_ret (pe_tup (pa_cons (pv 6) (pa_cons (pe_callTy (T := "tuple") call_tuple_of (by rfl) T.f_tuple (by decide +kernel) (pa_cons (pe_lc (own := [("door", 5)]) (g := gName 5) (tt := tYes) rfl nd (pi_tup (pv 3)) (blkOk_by (own := [("door", 5)]) (N := N_House_PressButton) (sc := defScope s_House_PressButton) (by decide +kernel)) (fun _ _ _ _ _ => (pg_name (i := 5) nd rfl (Or.inl rfl))) (fun _ _ _ _ _ => pts_nil) (fun _ _ _ _ _ => (pe_mt (c_House_Listen T) T.cls_House lm_House_Listen (hr.mono (by decide)) (pv 0) (pa_cons (pv 5) (pa_cons (pv 6) pa_nil))))) pa_nil)) pa_nil))))))))), ?_⟩
  obtain ⟨h, tab, key, z, deed, t, dns, bs, rfl, hh, hfb, hcn, hdd, ht, hds, hdl, hn, q⟩ := h
  obtain ⟨b, hf, rfl⟩ := fnd_bpu hfb
  obtain ⟨hbm, hbn⟩ := fnd_ok hf
  have B := hh.brs b hbm
  refine ⟨_, rfl, _, _, h.V, rfl, hh.ob, _, rfl, h, tab, key, z, b, rfl, hh, hf, ?_⟩
  refine ⟨_, rfl, t, rfl, ⟨_, SqT.of ht⟩, for_tup (xs := dns.map V.str) (fun i σ H' => H' = H ∧ ∃ v, σ = [some (.ref h.p), some (.str z), some (.int deed), some (.ref t), some (.ref b.p), v, none]) ⟨rfl, none, rfl⟩ (fun i σ H' _ p => by rw [p.1]; exact SqT.of ht) (fun i x σ H' hi p => ?_) (fun σ H' p => ?_)⟩
  · obtain ⟨rfl, v, rfl⟩ := p
    obtain ⟨dn, hdn, rfl⟩ := map_get hi
    obtain ⟨d, hd⟩ := Option.isSome_iff_exists.mp (hds dn (List.mem_of_getElem? hdn))
    obtain ⟨d', hd', _⟩ := fnd_pu hd
    exact ⟨_, rfl, _, _, h.V, rfl, hh.ob, _, rfl, h, tab, key, dn, d', rfl, hh, hd', rfl, _, rfl⟩
  obtain ⟨rfl, v, rfl⟩ := p
  refine ⟨_, rfl, _, _, h.V, rfl, hh.ob, Or.inl ⟨rfl, _, SqL.of hh.kpo⟩, _, rfl, _, _, b.V, rfl, B.at_.ob, _, rfl, b, tab, key, deed, rfl, B.at_, hh.tT, hh.kl8, hcn, hdd, fun p H1 f1 hp0 hb1 hp1 => ?_⟩
  obtain ⟨N1, e1⟩ := hh.btn_step hbm f1 hb1 (po_name _)
  have hh1 := N1.at_
  refine ⟨h.kp, _, _, rfl, rfl, hh1.kpo, (by rw [List.length_map]; have : h.kept.length ≤ h.n := hh.kn; exact sz_lt (Nat.lt_of_le_of_lt this (by omega))), ?_⟩
  obtain ⟨N2, e2⟩ := hh1.kept_step (xs := [(p, z, b.s.cnt, deed)]) (fun x hx => by rw [List.mem_singleton.mp hx]; rw [← show b.s.name = z from hbn]; exact hp1)
  rw [e1] at e2
  have eH : (upd H1 h.kp (HO.lst ((h.kept.map fun x => V.ref x.1) ++ [V.ref p]))) = upd H1 h.kp (.lst ((h.kept ++ [(p, z, b.s.cnt, deed)]).map fun x => V.ref x.1)) := by rw [List.map_append] <;> rfl
  rw [show (upd H1 h.kp (HO.lst (List.map (fun x => V.ref x.1) (HouseR.kept { h with btns := setN BtnR.nm h.btns b.nm { b with s := b.s.po } }) ++ [V.ref p]))) = _ from eH]
  generalize eHs : upd H1 h.kp _ = Hs
  have N2' : Nx K H1 Hs tab key _ _ _ := eHs ▸ N2
  have N := N1.trans N2'
  clear eHs N2 eH
  generalize ehs : ({ ({ h with btns := setN BtnR.nm h.btns b.nm { b with s := b.s.po } } : HouseR) with kept := _, n := _ } : HouseR) = hs at e2 N
  have epu : hs.pu = h.pu.po z deed := by
    rw [e2]
    unfold PH.po
    rw [hfb, ← show b.nm = z from hbn] <;> rfl
  have ehk : hs.kept.length = h.kept.length + 1 := by
    rw [← ehs]
    show (h.kept ++ [(p, z, b.s.cnt, deed)]).length = _
    rw [List.length_append] <;> rfl
  have enum : hs.kept[h.kept.length]? = some (p, z, b.s.cnt, deed) := by
    rw [← ehs]
    show (h.kept ++ [(p, z, b.s.cnt, deed)])[h.kept.length]? = _
    rw [List.getElem?_append_right (Nat.le_refl _), Nat.sub_self] <;> rfl
  have hhs := N.at_
  have epp : hs.p = h.p := N.pp
  have hsn : hs.n ≤ h.n + (0 + 1) := N.nn
  have hob := hhs.ob
  rw [epp] at hob
  have hts : Hs t = some (.tup (dns.map V.str)) := HFr.tk hh N.fr _ _ ht
  clear ehs
  refine ⟨_, rfl, _, _, hs.V, rfl, hob, _, _, rfl, Or.inl (SqL.of hhs.kpo), _, _, rfl, rfl, ?_⟩
  have en : ((hs.kept.map fun x => V.ref x.1).length : Int) - 1 = (h.kept.length : Int) := by rw [List.length_map, ehk]; omega
  dsimp only
  rw [en]
  refine ⟨_, rfl, _, rfl, t, rfl, ⟨_, SqT.of hts⟩, fun D hD => lc_tup (K := K) (a := t) (xs := dns.map V.str) (fun i Hc => ∃ (hi : HouseR) (rs : List Addr), Nx K Hs Hc tab key hs hi (2 * i) ∧ hi.tag D = .no ∧ hi.pu = hs.pu.hears (dns.take i) z b.s.cnt ∧ Hc D = some (.lst (rs.map V.ref)) ∧ rs.length = i ∧
    ∀ j a dn, rs[j]? = some a → dns[j]? = some dn → AnsAt Hc a ((hs.pu.hears (dns.take j) z b.s.cnt).ans dn z b.s.cnt) z deed) ⟨hs, [], Nx.same hhs (same_new hD), hhs.notag hD, rfl, upd_same, rfl, fun j a dn h1 => by cases h1⟩ (fun i Hc _ p => ?_) (fun i x Hc hi p => ⟨rfl, ?_⟩) (fun Hc p => ?_)⟩
  · obtain ⟨hi, rs, Ni, _⟩ := p
    exact SqT.of (HFr.tk hhs Ni.fr _ _ hts)
  · obtain ⟨hi', rs, Ni, htD, hpi, hDl, hrl, hans⟩ := p
    obtain ⟨dn, hdn, rfl⟩ := map_get hi
    have hil := (List.getElem?_eq_some_iff.mp hdn).1
    have hhi := Ni.at_
    have hob := hhi.ob
    have epi : hi'.p = h.p := Ni.pp.trans epp
    have hhas : (fnd PD.nm hi'.pu.doors dn).isSome = true := by
      rw [hpi, epu]
      refine hears_has _ _ ?_
      have e : (h.pu.po z deed).doors = h.pu.doors := by unfold PH.po; split <;> rfl
      rw [e]
      exact hds dn (List.mem_of_getElem? hdn)
    obtain ⟨d0, hd0⟩ := Option.isSome_iff_exists.mp hhas
    obtain ⟨d', hd', _⟩ := fnd_pu hd0
    have hkp : hi'.pu.kept = hs.pu.kept := by rw [hpi, hears_kept]
    have hk1 : (hi'.kept.map Prod.snd)[h.kept.length]? = some (z, b.s.cnt, deed) := by
      rw [show hi'.kept.map Prod.snd = hs.kept.map Prod.snd from hkp, List.getElem?_map, enum] <;> rfl
    obtain ⟨⟨pa, tr⟩, hk2, hk3⟩ := map_get hk1
    obtain rfl : (z, b.s.cnt, deed) = tr := hk3
    have hnn := Ni.nn
    have hob2 : Hc h.p = some (.ins (He.ga K "House") hi'.dx (fHouse hi'.V)) := by rw [← epi]; exact hob
    refine ⟨_, rfl, _, _, hi'.V, rfl, hob2, _, rfl, _, rfl, hi', tab, key, dn, h.kept.length, d', pa, z, b.s.cnt, deed, (by rw [epi]), hhi, hd', hk2, (by omega), fun a h4 H4 N4 hp4 ha4 => ?_⟩
    obtain ⟨hD4, ht4⟩ := N4.fr _ _ hDl htD
    have tk4 := HFr.tk hhi N4.fr
    have nDa : ∀ xs, H4 D ≠ some (.tup xs) := fun xs e => by rw [hD4] at e; cases e
    have Nn := (Ni.trans N4).free (o := .lst (rs.map V.ref ++ [V.ref a])) hD ht4 nDa (by intro xs e; cases e)
    have tk5 : TupK H4 (upd H4 D (.lst (rs.map V.ref ++ [V.ref a]))) := (TupK.refl H4).upd nDa
    refine ⟨_, hD4, ?_, h4, rs ++ [a], ⟨Nn.at_, Nn.fr, Nn.pp, by have := Nn.nn; omega⟩, ht4, ?_, ?_, ?_, fun j a' dn' h1 h2 => ?_⟩
    · rw [List.length_map]
      exact sz_lt (by omega)
    · rw [hp4, hpi, hears_more hdn]
    · rw [List.map_append]
      exact upd_same
    · rw [List.length_append, hrl] <;> rfl
    · by_cases hj : j < rs.length
      · rw [List.getElem?_append_left hj] at h1
        exact ((hans j a' dn' h1 h2).tk tk4).tk tk5
      · rw [List.getElem?_append_right (by omega)] at h1
        have hj0 : j - rs.length = 0 := by
          have := (List.getElem?_eq_some_iff.mp h1).1
          simp at this
          omega
        rw [hj0] at h1
        obtain rfl : a = a' := Option.some.inj h1
        have ej : j = i := by omega
        subst ej
        rw [hdn] at h2
        obtain rfl : dn = dn' := Option.some.inj h2
        rw [← hpi]
        exact ha4.tk tk5
  · obtain ⟨hi, rs, Ni, htD, hpi, hDl, hrl, hans⟩ := p
    rw [List.length_map] at Ni hpi hrl
    refine ⟨D, _, rfl, Or.inl ⟨SqL.of hDl, fun t2 ht2 => ⟨(by show 2 ≤ sizeLine; decide), fun r hr => ?_⟩⟩⟩
    have n1 : t2 ≠ r := ne_of_none upd_same hr
    have s1 : ∀ o1 o2, (upd Hc t2 o1) r = none → Same Hc (upd (upd Hc t2 o1) r o2) := fun o1 o2 h => (same_new ht2).trans (same_new h)
    have NF := ((N.trans Ni).thenS (s1 (.tup (rs.map V.ref)) (.tup [.int (h.kept.length : Int), .ref t2]) hr))
    refine q r t2 rs hi _ ⟨NF.at_, NF.fr, NF.pp, ?_⟩ ?_ upd_same ((upd_ne n1).trans upd_same) hrl fun j a dn h1 h2 => ?_
    · have h9 : hi.n ≤ h.n + (0 + 1 + 2 * dns.length) := NF.nn
      omega
    · rw [hpi, epu, List.take_length]
    · have g := hans j a dn h1 h2
      rw [epu] at g
      exact g.tk (.of (s1 _ _ hr))
end
end K69
end
section
set_option Elab.async false
set_option linter.all false
set_option maxRecDepth 100000
set_option maxHeartbeats 4000000
local macro_rules | `(tactic| walk_at "len") => `(tactic| (intro vs H Q E h; first
  | (obtain ⟨e, _⟩ := h; subst e; rfl) | (obtain ⟨_, e, _⟩ := h; subst e; rfl) | (obtain ⟨_, _, e, _⟩ := h; subst e; rfl) | (obtain ⟨_, _, _, e, _⟩ := h; subst e; rfl) | (obtain ⟨_, _, _, _, e, _⟩ := h; subst e; rfl)
  | (obtain ⟨_, _, _, _, _, e, _⟩ := h; subst e; rfl) | (obtain ⟨_, _, _, _, _, _, e, _⟩ := h; subst e; rfl) | (obtain ⟨_, _, _, _, _, _, _, e, _⟩ := h; subst e; rfl) | (obtain ⟨_, _, _, _, _, _, _, _, e, _⟩ := h; subst e; rfl)
  | (obtain ⟨_, _, _, _, _, _, _, _, _, e, _⟩ := h; subst e; rfl) | (obtain ⟨_, _, _, _, _, _, _, _, _, _, e, _⟩ := h; subst e; rfl) | (obtain ⟨_, _, _, _, _, _, _, _, _, _, _, e, _⟩ := h; subst e; rfl)))
local macro_rules | `(tactic| walk_at "hh") => `(tactic| first
  | assumption
  | exact L2.upd_same
  | (refine (L2.upd_ne (by walk_at "ne")).trans ?_; walk_at "hh")
  | (refine (‹L2.Same _ _› : L2.Same _ _) _ _ ?_; walk_at "hh"))
local macro_rules | `(tactic| walk_at "ne") => `(tactic| first
  | assumption
  | (apply Ne.symm; assumption)
  | exact L2.ne_of_none (by walk_at "hh") (by assumption)
  | exact (L2.ne_of_none (by walk_at "hh") (by assumption)).symm)
local macro_rules | `(tactic| walk_at "s") => `(tactic| first
  | refine ⟨_, rfl, ?_⟩
  | refine ⟨_, _, _, rfl, (by walk_at "hh"), ?_⟩
  | refine ⟨rfl, ?_⟩
  | refine ⟨_, _, rfl, rfl, ?_⟩)
local macro_rules | `(tactic| walk_at "isi int") => `(tactic| refine ⟨_, _, _, _, true, rfl, .ty "int", .base (.int _), L2.kit_ty (by decide +kernel), ?_⟩)
local macro_rules | `(tactic| walk_at "isi bool") => `(tactic| refine ⟨_, _, _, _, false, rfl, .ty "bool", .base (.int _), L2.kit_ty (by decide +kernel), ?_⟩)
local macro_rules | `(tactic| walk_at "isi tuple") => `(tactic| refine ⟨_, _, _, _, true, rfl, .ty "tuple", .base (.tup (by assumption)), L2.kit_ty (by decide +kernel), ?_⟩)
local macro_rules | `(tactic| walk_at "isi str") => `(tactic| refine ⟨_, _, _, _, true, rfl, .ty "str", .base (.str _), L2.kit_ty (by decide +kernel), ?_⟩)
local macro_rules | `(tactic| walk_at "v") => `(tactic| refine ⟨_, rfl, ?_⟩)
local macro_rules | `(tactic| walk_at "ii") => `(tactic| refine ⟨_, _, rfl, rfl, ?_⟩)
namespace K69
open PySem PySem.Spec PyProof.Rows L2
section
variable {P : Program} {w : World} {K : PySem.W.Frag} {mg : Str → Option Value} {base : Heap}
theorem in_strs {z : Str} {l : List Str} (h : ∀ x, x ∈ l → x ≠ z) : inV (V.str z) (l.map V.str) = false := by
  unfold inV
  rw [List.any_map, List.any_eq_false]
  intro x hx he
  exact h x hx (beq_iff_eq.mp he)
def spTeach (K : PySem.W.Frag) : Sp := fun vs H Q _ => ∃ (h : HouseR) (tab key : List Int) (dn z : Str) (d : PD) (b : PB), vs = [.ref h.p, .str dn, .str z] ∧ HouseAt K none H tab key h ∧ fnd PD.nm h.pu.doors dn = some d ∧ fnd PB.name h.pu.btns z = some b ∧ (∀ e, e ∈ d.es → e.1 ≠ z) ∧ (d.es.length : Int) < d.most ∧ b.cnt ≤ 4000 ∧ h.n ≤ 8000 ∧
  ∀ (h' : HouseR) (H' : Hp), Nx K H H' tab key h h' 3 → h'.pu = h.pu.teach dn z → Q .non H'
abbrev N_House_Teach : List Str := ["self", "door", "button", "gate", "own", "known", "pair", "row"]
theorem sc_House_Teach : FnScope N_House_Teach ["self", "door", "button"] (defScope s_House_Teach) := ⟨rfl, rfl, rfl, by decide +kernel, rfl, by decide +kernel, by decide +kernel⟩
theorem c_House_Teach (T : Tx P w K mg base) : CalM P w K mg base (He.ga K "House") "teach" 6 ["self", "door", "button"] (spTeach K) := by
  refine calM_mk T.df_House_Teach T.m_House_Teach sc_House_Teach (fun _ _ _ _ _ _ us hl => match us, hl with | [_, _, _], _ => rfl) ?len (fun f cdv A outer s H vs Q E hr h => ?body)
  case len => walk_at "len"
  have nd := sc_House_Teach.nd
  refine ⟨_, (pss_cons (ps_set (i := 3) nd rfl (Or.inl rfl) (pe_mt (c_House_LookDoor T) T.cls_House lm_House_LookDoor (hr.mono (by decide)) (pv 0) (pa_cons (pv 1) pa_nil)))
    (pss_cons (ps_set (i := 4) nd rfl (Or.inl rfl) (pe_mt (c_House_LookButton T) T.cls_House lm_House_LookButton (hr.mono (by decide)) (pv 0) (pa_cons (pv 2) pa_nil)))
    (pss_cons (ps_setLc (i := 5) (own := [("row", 7)]) (g := gName 7) (tt := tYes) rfl nd rfl rfl (sw_true rfl rfl rfl (by decide +kernel)) (pi_tup (pe_mt0 (c_Door_KnownNow T) T.cls_Door lm_Door_KnownNow (hr.mono (by decide)) (pv 3))) (blkOk_by (own := [("row", 7)]) (N := N_House_Teach) (sc := defScope s_House_Teach) (by decide +kernel)) (fun _ _ _ _ _ => (pg_name (i := 7) nd rfl (Or.inl rfl))) (fun _ _ _ _ _ => pts_nil) (fun _ _ _ _ _ => (pe_ix (r := rIxT K) ix_tup (pv 7) pe_int (fun _ _ => rfl))))
    (pss_cons (ps_if (pt_cmpR op_in_seq (pv 2) (pv 5) (by with_unfolding_all rfl)) (pss_one ps_never) pss_nil)
    (pss_cons (ps_if (pt_cmpR op_ge (pe_callB call_len_seq (by rfl) T.f_len (by decide +kernel) (pa_cons (pv 5) pa_nil)) (pe_ix ix_tup (pe_mt0 (c_Door_BoundsTold T) T.cls_Door lm_Door_BoundsTold (hr.mono (by decide)) (pv 3)) pe_int (fun _ _ => rfl)) (nomark _)) (pss_one ps_never) pss_nil)
    (pss_cons (ps_if (pt_cmpR op_gt (pe_mt0 (c_Button_CountNow T) T.cls_Button lm_Button_CountNow (hr.mono (by decide)) (pv 4)) (pe_gi T.i_LAST_PAIR) (nomark _)) (pss_one ps_never) pss_nil)
    (pss_cons (ps_if (pt_cmpR op_lt (pe_mt0 (c_Button_AgeNow T) T.cls_Button lm_Button_AgeNow (hr.mono (by decide)) (pv 4)) (pe_mt0 (c_Door_ClosedNow T) T.cls_Door lm_Door_ClosedNow (hr.mono (by decide)) (pv 3)) (nomark _)) (pss_one ps_never) pss_nil)
    (pss_cons (ps_set (i := 6) nd rfl (Or.inl rfl) (pe_lst (pa_cons (pe_mt (c_Button_PressOnce T) T.cls_Button lm_Button_PressOnce (hr.mono (by decide)) (pv 4) (pa_cons pe_int pa_nil)) (pa_cons (pe_mt (c_Button_PressOnce T) T.cls_Button lm_Button_PressOnce (hr.mono (by decide)) (pv 4) (pa_cons pe_int pa_nil)) pa_nil))))
    (pss_cons (ps_expr (pe_bm PySem.F.plainAttrs_list PySem.F.slot_list_extend PySem.F.type_list_extend mt_extend (pe_at T.cls_House T.na_House_kept lk_House_kept (pv 0)) (pa_cons (pv 6) pa_nil)))
    (pss_one (ps_expr (pe_mt (c_Door_Learn T) T.cls_Door lm_Door_Learn (hr.mono (by decide)) (pv 3) (pa_cons (pe_ix ix_list (pv 6) pe_int (fun _ _ => rfl)) (pa_cons (pe_ix ix_list (pv 6) pe_int (fun _ _ => rfl)) pa_nil)))))))))))))), ?_⟩
  obtain ⟨h, tab, key, dn, z, pd, pb, rfl, hh, hfd, hfb, hne, hml, hcn, hn, q⟩ := h
  obtain ⟨d, hf, rfl⟩ := fnd_pu hfd
  obtain ⟨b, hg, rfl⟩ := fnd_bpu hfb
  obtain ⟨hdm, hdn⟩ := fnd_ok hf
  obtain ⟨hbm, hbn⟩ := fnd_ok hg
  have hbn : b.s.name = z := hbn
  have D := hh.drs d hdm
  have B := hh.brs b hbm
  have hml2 : (d.ents.length : Int) < d.most := by
    have e : d.pu.es.length = d.ents.length := List.length_map ..
    rw [← e]
    exact hml
  have hne2 : ∀ e, e ∈ d.ents → e.nm ≠ z := fun e he => hne e.pu (List.mem_map.mpr ⟨e, he, rfl⟩)
  have hfn : fnd Ent.nm d.ents z = none := by
    cases e : fnd Ent.nm d.ents z with
    | none => rfl
    | some x => exact absurd (fnd_ok e).2 (hne2 x (fnd_ok e).1)
  refine ⟨_, rfl, _, _, h.V, rfl, hh.ob, _, rfl, h, tab, key, dn, d, rfl, hh, hf, ?_⟩
  refine ⟨_, rfl, _, _, h.V, rfl, hh.ob, _, rfl, h, tab, key, z, b, rfl, hh, hg, ?_⟩
  refine ⟨_, rfl, _, _, d.V, rfl, D.at_.ob, d, tab, key, h.n, rfl, D.at_, fun r ts es H1 s1 hperm hsort hr hrows => ?_⟩
  have hel : es.length ≤ 12 := by rw [hperm.length_eq]; exact D.at_.el
  have htl : ts.length ≤ 12 := by rw [hrows.1]; exact hel
  refine ⟨r, rfl, ⟨_, SqT.of hr⟩, fun L hL => lcm_tup (SqT.of hr) hL (by rw [List.length_map]; omega) (fun _ => rfl) (fun i => V.str ((es.map Ent.nm).getD i "")) (fun i x H2 hi s2 Q2 k2 => ?_) (fun H2 s2 h2 => ?_)⟩
  · obtain ⟨t, hti, rfl⟩ := map_get hi
    have hil := (List.getElem?_eq_some_iff.mp hti).1
    have hei : es[i]? = some (es[i]'(by rw [← hrows.1]; exact hil)) := List.getElem?_eq_getElem _
    have hrow := hrows.2 i t _ hti hei
    have e : (es.map Ent.nm).getD i "" = (es[i]'(by rw [← hrows.1]; exact hil)).nm := by
      rw [List.getD, List.getElem?_map, hei] <;> rfl
    rw [e] at k2
    exact ⟨_, rfl, t, _, _, V.str _, rfl, rfl, SqT.of (s2 _ _ hrow), at_of (j := 0) rfl rfl, k2 _ (Same.refl _)⟩
  have hl2 : H2 L = some (.lst ((es.map Ent.nm).map V.str)) := by
    rw [h2, List.length_map, hrows.1]
    have e := rng_get (es.map Ent.nm) ("" : Str)
    rw [List.length_map] at e
    congr 2
    conv => rhs; rw [← e]
    rw [List.map_map] <;> rfl
  have s12 := s1.trans s2
  have hh2 := hh.same s12
  have D2 := D.same s12
  have B2 := B.same s12
  refine ⟨_, rfl, _, rfl, L, _, rfl, Or.inl (SqL.of hl2), rfl, (by rw [List.all_eq_true]; intro x hx; obtain ⟨y, _, rfl⟩ := List.mem_map.mp hx; rfl), _, rfl, ?_⟩
  refine ifF (in_strs fun x hx => ?_) ?_
  · obtain ⟨e, he, rfl⟩ := List.mem_map.mp hx
    exact hne2 e (hperm.mem_iff.mp he)
  refine ⟨_, rfl, _, _, rfl, Or.inl (SqL.of hl2), _, rfl, _, _, d.V, rfl, D2.at_.ob, d, tab, key, h.n, rfl, D2.at_, d.bd, _, _, V.int d.most, rfl, rfl, SqT.of D2.at_.bo, rfl, _, _, rfl, rfl, _, rfl, ?_⟩
  refine ifND (by rw [List.length_map, List.length_map, hperm.length_eq]; omega) ?_
  refine ⟨_, rfl, _, _, b.V, rfl, B2.at_.ob, b, tab, key, rfl, B2.at_, _, _, rfl, rfl, _, rfl, ?_⟩
  refine ifND (by omega) ?_
  refine ⟨_, rfl, _, _, b.V, rfl, B2.at_.ob, b, tab, key, rfl, B2.at_, _, rfl, _, _, d.V, rfl, D2.at_.ob, d, tab, key, h.n, rfl, D2.at_, _, _, rfl, rfl, _, rfl, ?_⟩
  refine ifND (by omega) ?_
  refine ⟨_, rfl, _, _, b.V, rfl, B2.at_.ob, b, tab, key, 0, rfl, B2.at_, hh.tT, hh.kl8, by omega, by decide, fun p1 H3 f3 hp10 hb3 hp1 => ?_⟩
  obtain ⟨N1, e1⟩ := hh2.btn_step hbm f3 hb3 (po_name _)
  have hh3 := N1.at_
  have hm3 : ({ b with s := b.s.po } : BtnR) ∈ setN BtnR.nm h.btns b.nm { b with s := b.s.po } := setN_has (z := b.nm) (e := b) (by rw [show b.nm = z from hbn]; exact hg) (po_name _)
  refine ⟨_, rfl, _, _, BtnR.V _, rfl, hb3.ob, { b with s := b.s.po }, tab, key, 0, rfl, hb3, hh.tT, hh.kl8, (by show b.s.cnt + 1 < 4096; omega), by decide, fun p2 H4 f4 hp20 hb4 hp2 => ?_⟩
  obtain ⟨N2, e2⟩ := hh3.btn_step hm3 f4 hb4 (po_name _)
  have hh4 := N2.at_
  have N12 := N1.trans N2
  have tk4 : TupK H3 H4 := HFr.tk hh3 N2.fr
  rw [e1] at e2
  have hp1' := hp1.tk tk4
  have hp2' : PrAt H4 tab key p2 z (b.s.cnt + 1) 0 := by
    have g := hp2
    rw [show PB.name (BtnR.s { b with s := b.s.po }) = z from (po_name _).trans hbn] at g
    exact g
  rw [hbn] at hp1'
  generalize eh4 : ({ ({ h with btns := setN BtnR.nm h.btns b.nm { b with s := b.s.po } } : HouseR) with btns := _ } : HouseR) = h4 at e2 hh4 N12
  have ek4 : h4.kept = h.kept := by rw [← eh4]
  have en4 : h4.n = h.n := by rw [← eh4]
  have ep4 : h4.p = h.p := by rw [← eh4]
  have ekp4 : h4.kp = h.kp := by rw [← eh4]
  have edo4 : h4.doors = h.doors := by rw [← eh4]
  clear eh4 N2 hh3 hm3
  refine ⟨(by show 2 ≤ sizeLine; decide), fun pr hpr => ?_⟩
  generalize eH5 : upd H4 pr _ = H5
  have s5 : Same H4 H5 := by rw [← eH5]; exact same_new hpr
  have hpr5 : H5 pr = some (.lst [.ref p1, .ref p2]) := by rw [← eH5]; exact upd_same
  have hh5 := hh4.same s5
  have hprn : h4.tag pr = .no := hh4.notag hpr
  clear eH5
  have hob5 := hh5.ob
  rw [ep4] at hob5
  have hkp5 := hh5.kpo
  refine ⟨_, rfl, _, _, h4.V, rfl, hob5, Or.inl ⟨rfl, _, SqL.of hkp5⟩, _, rfl, h4.kp, pr, _, _, rfl, rfl, hkp5, hpr5, (by rw [List.length_map]; have := hh4.kn; show _ + 2 ≤ _; exact sz_of (by omega)), ?_⟩
  obtain ⟨N3, e3⟩ := hh5.kept_step (xs := [(p1, z, b.s.cnt, 0), (p2, z, b.s.cnt + 1, 0)]) (fun x hx => by
    rcases List.mem_cons.mp hx with h | h
    · rw [h]; exact hp1'.tk (.of s5)
    · rw [List.mem_singleton.mp h]; exact hp2'.tk (.of s5))
  have eH : (upd H5 h4.kp (HO.lst ((h4.kept.map fun x : Addr × Str × Int × Int => V.ref x.1) ++ [V.ref p1, V.ref p2]))) = upd H5 h4.kp (.lst ((h4.kept ++ [(p1, z, b.s.cnt, 0), (p2, z, b.s.cnt + 1, 0)]).map fun x : Addr × Str × Int × Int => V.ref x.1)) := by rw [List.map_append] <;> rfl
  rw [eH]
  generalize eH6 : upd H5 h4.kp _ = H6
  rw [eH6] at N3
  have hpr6 : H6 pr = some (.lst [.ref p1, .ref p2]) := (N3.fr _ _ hpr5 hprn).1
  clear eH6 eH
  rw [e2] at e3
  generalize eh6 : ({ h4 with kept := _, n := _ } : HouseR) = h6 at e3 N3
  have ed6 : h6.doors = h4.doors := by rw [← eh6]
  have en6 : h6.n = h.n + 2 := by rw [← eh6]; show h4.n + 2 = _; omega
  clear eh6
  have hh6 := N3.at_
  have hd6 : d ∈ h6.doors := by rw [ed6, edo4]; exact hdm
  have D6 := hh6.drs d hd6
  have tk56 := HFr.tk hh5 N3.fr
  refine ⟨_, rfl, _, _, d.V, rfl, D6.at_.ob, _, rfl, pr, _, _, V.ref p1, rfl, rfl, SqL.of hpr6, rfl, _, rfl, pr, _, _, V.ref p2, rfl, rfl, SqL.of hpr6, rfl, ?_⟩
  refine ⟨d, p1, p2, tab, key, h6.n, z, b.s.cnt, rfl, D6.at_, hh.tT, hh.kl8, (hp1'.tk (.of s5)).tk tk56, (hp2'.tk (.of s5)).tk tk56, hfn, hml2, D.mst, by omega, fun a H7 f7 hd7 => ?_⟩
  obtain ⟨N4, e4⟩ := hh6.door_step hd6 f7 hd7
  rw [e3] at e4
  have NF := (((Nx.same hh s12 (m := 0)).trans N12).thenS s5).trans (N3.trans N4)
  refine q _ H7 ⟨NF.at_, NF.fr, NF.pp, ?_⟩ ?_
  · show h6.n + 1 ≤ h.n + 3
    omega
  · rw [e4]
    unfold PH.teach
    rw [hfd, hfb]
    show (⟨_, _, _, _⟩ : PH) = ⟨_, _, _, _⟩
    congr 1
    · show setN PD.nm h.pu.doors d.nm _ = setN PD.nm h.pu.doors dn _
      rw [hdn, List.map_append] <;> rfl
    · show setN PB.name (setN PB.name h.pu.btns b.nm b.s.po) (BtnR.nm { b with s := b.s.po }) b.s.po.po = _
      rw [show BtnR.nm { b with s := b.s.po } = z from (po_name _).trans hbn, show b.nm = z from hbn]
      unfold setN
      rw [List.map_map]
      refine List.map_congr_left fun x _ => ?_
      show (if (if x.name = z then b.s.po else x).name = z then b.s.po.po else (if x.name = z then b.s.po else x)) = if x.name = z then b.s.po.po else x
      by_cases e : x.name = z
      · rw [if_pos e, if_pos e, if_pos ((po_name _).trans hbn)]
      · simp only [if_neg e]
def spPlay (K : PySem.W.Frag) : Sp := fun vs H Q _ => ∃ (h : HouseR) (tab key : List Int) (dn : Str) (num : Nat) (d : PD) (z : Str) (c deed : Int), vs = [.ref h.p, .int num, .str dn] ∧ HouseAt K none H tab key h ∧ fnd PD.nm h.pu.doors dn = some d ∧ h.pu.kept[num]? = some (z, c, deed) ∧ h.n ≤ 9000 ∧
  ∀ (r : Addr) (h' : HouseR) (H' : Hp), Nx K H H' tab key h h' 2 → h'.pu = h.pu.hear dn z c → AnsAt H' r (h.pu.ans dn z c) z deed → Q (.ref r) H'
abbrev N_House_PlayKept : List Str := ["self", "number", "door"]
theorem sc_House_PlayKept : FnScope N_House_PlayKept ["self", "number", "door"] (defScope s_House_PlayKept) := ⟨rfl, rfl, rfl, by decide +kernel, rfl, by decide +kernel, by decide +kernel⟩
theorem c_House_PlayKept (T : Tx P w K mg base) : CalM P w K mg base (He.ga K "House") "play_kept" 7 ["self", "number", "door"] (spPlay K) := by
  refine calM_mk T.df_House_PlayKept T.m_House_PlayKept sc_House_PlayKept (fun _ _ _ _ _ _ us hl => match us, hl with | [_, _, _], _ => rfl) ?len (fun f cdv A outer s H vs Q E hr h => ?body)
  case len => walk_at "len"
  have nd := sc_House_PlayKept.nd
  refine ⟨_, (pss_cons (ps_expr (pe_mt (c_House_LookDoor T) T.cls_House lm_House_LookDoor (hr.mono (by decide)) (pv 0) (pa_cons (pv 2) pa_nil)))
    (pss_cons (ps_if (pt_not (pt_chain op_le op_lt pe_int (pv 1) (pe_callB call_len_seq (by rfl) T.f_len (by decide +kernel) (pa_cons (pe_at T.cls_House T.na_House_kept lk_House_kept (pv 0)) pa_nil)))) (pss_one ps_never) pss_nil)
    (pss_one (ps_ret (pe_mt (c_House_Listen T) T.cls_House lm_House_Listen (hr.mono (by decide)) (pv 0) (pa_cons (pv 2) (pa_cons (pv 1) pa_nil))))))), ?_⟩
  obtain ⟨h, tab, key, dn, num, pd, z, c, deed, rfl, hh, hfd, hk, hn, q⟩ := h
  obtain ⟨d, hf, rfl⟩ := fnd_pu hfd
  obtain ⟨⟨a, tr⟩, hk2, hk3⟩ := map_get (f := Prod.snd) (l := h.kept) hk
  obtain rfl : (z, c, deed) = tr := hk3
  refine ⟨_, rfl, _, _, h.V, rfl, hh.ob, _, rfl, h, tab, key, dn, d, rfl, hh, hf, ?_⟩
  refine ⟨_, rfl, _, _, rfl, rfl, _, rfl, ?_⟩
  have hl := (List.getElem?_eq_some_iff.mp hk2).1
  refine ifD (by show (0 : Int) ≤ num; omega) ?_
  refine ⟨_, rfl, _, _, h.V, rfl, hh.ob, _, _, rfl, Or.inl (SqL.of hh.kpo), _, _, rfl, rfl, _, rfl, ?_⟩
  refine ifF (by rw [decide_eq_true (by rw [List.length_map]; omega)] <;> rfl) ?_
  exact ⟨_, rfl, _, _, h.V, rfl, hh.ob, _, rfl, _, rfl, h, tab, key, dn, num, d, a, z, c, deed, rfl, hh, hf, hk2, hn, q⟩
def spCell (K : PySem.W.Frag) (f : PB → PB) : Sp := fun vs H Q _ => ∃ (h : HouseR) (tab key : List Int) (z : Str) (b : PB), vs = [.ref h.p, .str z] ∧ HouseAt K none H tab key h ∧ fnd PB.name h.pu.btns z = some b ∧
  ∀ (h' : HouseR) (H' : Hp), Nx K H H' tab key h h' 0 → h'.pu = h.pu.btn z f → Q .non H'
theorem btn_pu {h : HouseR} {z : Str} {b : BtnR} {f : PB → PB} (hfb : fnd PB.name h.pu.btns z = some b.s) (hbn : b.nm = z) {p : PH} (e : p = { h.pu with btns := setN PB.name h.pu.btns b.nm (f b.s) }) : p = h.pu.btn z f := by
  rw [e]
  unfold PH.btn
  rw [hfb, hbn]
abbrev N_House_LoseCell : List Str := ["self", "button"]
theorem sc_House_LoseCell : FnScope N_House_LoseCell ["self", "button"] (defScope s_House_LoseCell) := ⟨rfl, rfl, rfl, by decide +kernel, rfl, by decide +kernel, by decide +kernel⟩
theorem c_House_LoseCell (T : Tx P w K mg base) : CalM P w K mg base (He.ga K "House") "lose_cell" 2 ["self", "button"] (spCell K PB.co) := by
  refine calM_mk T.df_House_LoseCell T.m_House_LoseCell sc_House_LoseCell (fun _ _ _ _ _ _ us hl => match us, hl with | [_, _], _ => rfl) ?len (fun f cdv A outer s H vs Q E hr h => ?body)
  case len => walk_at "len"
  have nd := sc_House_LoseCell.nd
  refine ⟨_, (pss_one (ps_expr (pe_mt0 (c_Button_CellOut T) T.cls_Button lm_Button_CellOut (hr.mono (by decide)) (pe_mt (c_House_LookButton T) T.cls_House lm_House_LookButton (hr.mono (by decide)) (pv 0) (pa_cons (pv 1) pa_nil))))), ?_⟩
  obtain ⟨h, tab, key, z, pb, rfl, hh, hfb, q⟩ := h
  obtain ⟨b, hg, rfl⟩ := fnd_bpu hfb
  obtain ⟨hbm, hbn⟩ := fnd_ok hg
  have B := hh.brs b hbm
  refine ⟨_, rfl, _, _, h.V, rfl, hh.ob, _, rfl, h, tab, key, z, b, rfl, hh, hg, _, _, b.V, rfl, B.at_.ob, b, tab, key, rfl, B.at_, fun H1 f1 hb1 => ?_⟩
  obtain ⟨N1, e1⟩ := hh.btn_step hbm f1 hb1 (co_name _)
  exact q _ H1 N1 (btn_pu hfb hbn e1)
abbrev N_House_TearCell : List Str := ["self", "button"]
theorem sc_House_TearCell : FnScope N_House_TearCell ["self", "button"] (defScope s_House_TearCell) := ⟨rfl, rfl, rfl, by decide +kernel, rfl, by decide +kernel, by decide +kernel⟩
theorem c_House_TearCell (T : Tx P w K mg base) : CalM P w K mg base (He.ga K "House") "tear_cell" 3 ["self", "button"] (spCell K PB.ct) := by
  refine calM_mk T.df_House_TearCell T.m_House_TearCell sc_House_TearCell (fun _ _ _ _ _ _ us hl => match us, hl with | [_, _], _ => rfl) ?len (fun f cdv A outer s H vs Q E hr h => ?body)
  case len => walk_at "len"
  have nd := sc_House_TearCell.nd
  refine ⟨_, (pss_one (ps_expr (pe_mt0 (c_Button_CellTorn T) T.cls_Button lm_Button_CellTorn (hr.mono (by decide)) (pe_mt (c_House_LookButton T) T.cls_House lm_House_LookButton (hr.mono (by decide)) (pv 0) (pa_cons (pv 1) pa_nil))))), ?_⟩
  obtain ⟨h, tab, key, z, pb, rfl, hh, hfb, q⟩ := h
  obtain ⟨b, hg, rfl⟩ := fnd_bpu hfb
  obtain ⟨hbm, hbn⟩ := fnd_ok hg
  have B := hh.brs b hbm
  refine ⟨_, rfl, _, _, h.V, rfl, hh.ob, _, rfl, h, tab, key, z, b, rfl, hh, hg, _, _, b.V, rfl, B.at_.ob, b, tab, key, rfl, B.at_, fun H1 f1 hb1 => ?_⟩
  obtain ⟨N1, e1⟩ := hh.btn_step hbm f1 hb1 (ct_name _)
  exact q _ H1 N1 (btn_pu hfb hbn e1)
def spDoorNow (K : PySem.W.Frag) : Sp := fun vs H Q _ => ∃ (h : HouseR) (tab key : List Int) (dn : Str) (d : PD), vs = [.ref h.p, .str dn] ∧ HouseAt K none H tab key h ∧ fnd PD.nm h.pu.doors dn = some d ∧ h.n ≤ 9000 ∧
  ∀ (d2 : DoorR) (H' : Hp), Same H H' → DoorAt K H' tab key h.n d2 → d2.ents.map Ent.pu = d.es → Q (.ref d2.p) H'
abbrev N_House_DoorNow : List Str := ["self", "door"]
theorem sc_House_DoorNow : FnScope N_House_DoorNow ["self", "door"] (defScope s_House_DoorNow) := ⟨rfl, rfl, rfl, by decide +kernel, rfl, by decide +kernel, by decide +kernel⟩
theorem c_House_DoorNow (T : Tx P w K mg base) : CalM P w K mg base (He.ga K "House") "door_now" 4 ["self", "door"] (spDoorNow K) := by
  refine calM_mk T.df_House_DoorNow T.m_House_DoorNow sc_House_DoorNow (fun _ _ _ _ _ _ us hl => match us, hl with | [_, _], _ => rfl) ?len (fun f cdv A outer s H vs Q E hr h => ?body)
  case len => walk_at "len"
  have nd := sc_House_DoorNow.nd
  refine ⟨_, (pss_one (ps_ret (pe_mt0 (c_Door_TwinDoor T) T.cls_Door lm_Door_TwinDoor (hr.mono (by decide)) (pe_mt (c_House_LookDoor T) T.cls_House lm_House_LookDoor (hr.mono (by decide)) (pv 0) (pa_cons (pv 1) pa_nil))))), ?_⟩
  obtain ⟨h, tab, key, dn, pd, rfl, hh, hfd, hn, q⟩ := h
  obtain ⟨d, hf, rfl⟩ := fnd_pu hfd
  have D := hh.drs d (fnd_ok hf).1
  refine ⟨_, rfl, _, _, h.V, rfl, hh.ob, _, rfl, h, tab, key, dn, d, rfl, hh, hf, _, _, d.V, rfl, D.at_.ob, d, tab, key, h.n, rfl, D.at_, by omega, fun d2 H1 s1 hd2 he => ?_⟩
  exact q d2 H1 s1 hd2 (by rw [he] <;> rfl)
def spButtonNow (K : PySem.W.Frag) : Sp := fun vs H Q _ => ∃ (h : HouseR) (tab key : List Int) (z : Str) (b : PB), vs = [.ref h.p, .str z] ∧ HouseAt K none H tab key h ∧ fnd PB.name h.pu.btns z = some b ∧
  ∀ (r c : Addr) (H' : Hp), Same H H' → H' r = some (.tup [.int 0, .int b.cnt, .ref c]) → H' c = some (.tup [cellV b.c0, cellV b.c1]) → Q (.ref r) H'
abbrev N_House_ButtonNow : List Str := ["self", "button", "own"]
theorem sc_House_ButtonNow : FnScope N_House_ButtonNow ["self", "button"] (defScope s_House_ButtonNow) := ⟨rfl, rfl, rfl, by decide +kernel, rfl, by decide +kernel, by decide +kernel⟩
theorem c_House_ButtonNow (T : Tx P w K mg base) : CalM P w K mg base (He.ga K "House") "button_now" 2 ["self", "button"] (spButtonNow K) := by
  refine calM_mk T.df_House_ButtonNow T.m_House_ButtonNow sc_House_ButtonNow (fun _ _ _ _ _ _ us hl => match us, hl with | [_, _], _ => rfl) ?len (fun f cdv A outer s H vs Q E hr h => ?body)
  case len => walk_at "len"
  have nd := sc_House_ButtonNow.nd
  refine ⟨_, (pss_cons (ps_set (i := 2) nd rfl (Or.inl rfl) (pe_mt (c_House_LookButton T) T.cls_House lm_House_LookButton (hr.mono (by decide)) (pv 0) (pa_cons (pv 1) pa_nil)))
    (pss_one (ps_ret (pe_tup (pa_cons (pe_mt0 (c_Button_AgeNow T) T.cls_Button lm_Button_AgeNow (hr.mono (by decide)) (pv 2)) (pa_cons (pe_mt0 (c_Button_CountNow T) T.cls_Button lm_Button_CountNow (hr.mono (by decide)) (pv 2)) (pa_cons (pe_mt0 (c_Button_CellsNow T) T.cls_Button lm_Button_CellsNow (hr.mono (by decide)) (pv 2)) pa_nil))))))), ?_⟩
  obtain ⟨h, tab, key, z, pb, rfl, hh, hfb, q⟩ := h
  obtain ⟨b, hg, rfl⟩ := fnd_bpu hfb
  obtain ⟨hbm, hbn⟩ := fnd_ok hg
  have B := (hh.brs b hbm).at_
  refine ⟨_, rfl, _, _, h.V, rfl, hh.ob, _, rfl, h, tab, key, z, b, rfl, hh, hg, ?_⟩
  refine ⟨_, rfl, _, _, b.V, rfl, B.ob, b, tab, key, rfl, B, _, rfl, _, _, b.V, rfl, B.ob, b, tab, key, rfl, B, _, rfl, _, _, b.V, rfl, B.ob, b, tab, key, rfl, B, fun c H1 s1 hc => ?_⟩
  refine ⟨(by show 3 ≤ sizeLine; decide), fun r hr => q r c _ (s1.trans (same_new hr)) upd_same ?_⟩
  exact (upd_ne (ne_of_none hc hr)).trans hc
end
end K69
end
section
set_option Elab.async false
set_option linter.all false
set_option maxRecDepth 100000
set_option maxHeartbeats 4000000
local macro_rules | `(tactic| walk_at "len") => `(tactic| (intro vs H Q E h; first
  | (obtain ⟨e, _⟩ := h; subst e; rfl) | (obtain ⟨_, e, _⟩ := h; subst e; rfl) | (obtain ⟨_, _, e, _⟩ := h; subst e; rfl) | (obtain ⟨_, _, _, e, _⟩ := h; subst e; rfl) | (obtain ⟨_, _, _, _, e, _⟩ := h; subst e; rfl)
  | (obtain ⟨_, _, _, _, _, e, _⟩ := h; subst e; rfl) | (obtain ⟨_, _, _, _, _, _, e, _⟩ := h; subst e; rfl) | (obtain ⟨_, _, _, _, _, _, _, e, _⟩ := h; subst e; rfl) | (obtain ⟨_, _, _, _, _, _, _, _, e, _⟩ := h; subst e; rfl)
  | (obtain ⟨_, _, _, _, _, _, _, _, _, e, _⟩ := h; subst e; rfl) | (obtain ⟨_, _, _, _, _, _, _, _, _, _, e, _⟩ := h; subst e; rfl) | (obtain ⟨_, _, _, _, _, _, _, _, _, _, _, e, _⟩ := h; subst e; rfl)))
local macro_rules | `(tactic| walk_at "hh") => `(tactic| first
  | assumption
  | exact L2.upd_same
  | (refine (L2.upd_ne (by walk_at "ne")).trans ?_; walk_at "hh")
  | (refine (‹L2.Same _ _› : L2.Same _ _) _ _ ?_; walk_at "hh"))
local macro_rules | `(tactic| walk_at "ne") => `(tactic| first
  | assumption
  | (apply Ne.symm; assumption)
  | exact L2.ne_of_none (by walk_at "hh") (by assumption)
  | exact (L2.ne_of_none (by walk_at "hh") (by assumption)).symm)
local macro_rules | `(tactic| walk_at "s") => `(tactic| first
  | refine ⟨_, rfl, ?_⟩
  | refine ⟨_, _, _, rfl, (by walk_at "hh"), ?_⟩
  | refine ⟨rfl, ?_⟩
  | refine ⟨_, _, rfl, rfl, ?_⟩)
local macro_rules | `(tactic| walk_at "isi int") => `(tactic| refine ⟨_, _, _, _, true, rfl, .ty "int", .base (.int _), L2.kit_ty (by decide +kernel), ?_⟩)
local macro_rules | `(tactic| walk_at "isi bool") => `(tactic| refine ⟨_, _, _, _, false, rfl, .ty "bool", .base (.int _), L2.kit_ty (by decide +kernel), ?_⟩)
local macro_rules | `(tactic| walk_at "isi tuple") => `(tactic| refine ⟨_, _, _, _, true, rfl, .ty "tuple", .base (.tup (by assumption)), L2.kit_ty (by decide +kernel), ?_⟩)
local macro_rules | `(tactic| walk_at "isi str") => `(tactic| refine ⟨_, _, _, _, true, rfl, .ty "str", .base (.str _), L2.kit_ty (by decide +kernel), ?_⟩)
local macro_rules | `(tactic| walk_at "v") => `(tactic| refine ⟨_, rfl, ?_⟩)
local macro_rules | `(tactic| walk_at "ii") => `(tactic| refine ⟨_, _, rfl, rfl, ?_⟩)
namespace K69
open PySem PySem.Spec PyProof.Rows L2
/-! ### defs that may raise -/
structure CalX (P : Program) (w : World) (K : PySem.W.Frag) (mg : Str → Option Value) (base : Heap) (x : Str) (k : Nat) (ps : List Str) (sp : Sp) : Prop where
  ex : ∃ (f : Addr) (fd : FuncData), FnOk P w K mg base (L2N.CX P w) k f fd ps sp ∧ mg x = some (.ref f) ∧ PySem.W.keepIn K (.ref f) = true ∧ Binds K fd ps []
structure CalMX (P : Program) (w : World) (K : PySem.W.Frag) (mg : Str → Option Value) (base : Heap) (C : Addr) (m : Str) (k : Nat) (ps : List Str) (sp : Sp) : Prop where
  ex : ∃ (f : Addr) (fd : FuncData), FnOk P w K mg base (L2N.CX P w) k f fd ps sp ∧ Meth K C m f ∧ Binds K fd ps []
section
variable {P : Program} {w : World} {K : PySem.W.Frag} {mg : Str → Option Value} {base : Heap}
theorem calX_mk {x nm qual : Str} {st : Stmt} {N ps : List Str} {k : Nat} {sp : Sp} (hd : ∃ fd, FunD K nm qual (defArgs st) (defBody st) (defScope st) [] [] (He.fAd K (x, none)) fd) (hm : mg x = some (.ref (He.ga K x))) (S : FnScope N ps (defScope st))
    (hb : ∀ (kV doc pm : Value) (an : Option Addr) (cdv ct : Value) (us : List Value), us.length = ps.length → bindArgs (PySem.W.fnOf nm qual (defArgs st) (defBody st) (defScope st) .none kV doc pm an cdv ct) ⟨us, []⟩ = pure (ps.zip us))
    (len : ∀ vs H Q E, sp vs H Q E → vs.length = ps.length)
    (hbody : ∀ (f : Addr) (cdv : Value) (A : Around) (outer : List Env) (s : Shared) (H : Hp) (vs : List V) (Q : VK) (E : XK), Room k (A.deeper (envOfC qual (defScope st) s.heap.objs.size f cdv)) → sp vs H Q E →
      ∃ t, PSs (cxOf (L2N.CX P w) P w K mg base N qual (defScope st) f cdv A outer s H E) (defBody st) t ∧ t { nx := fun _ H' => Q .non H', rt := Q } (start N vs) H) : CalX P w K mg base x (k + 1) ps sp := by
  obtain ⟨fd, F⟩ := hd
  exact ⟨_, fd, F.ok S len fun cdv A outer s H vs Q E hr h => hbody _ cdv A outer s H vs Q E hr h, hm, F.kp, F.bindsN hb⟩
theorem calMX_mk {C m nm qual : Str} {st : Stmt} {N ps : List Str} {k : Nat} {sp : Sp} (hd : ∃ fd, FunD K nm qual (defArgs st) (defBody st) (defScope st) [] [] (He.fAd K (C, some m)) fd) (hm : Meth K (He.ga K C) m (He.ma K (He.ga K C) m)) (S : FnScope N ps (defScope st))
    (hb : ∀ (kV doc pm : Value) (an : Option Addr) (cdv ct : Value) (us : List Value), us.length = ps.length → bindArgs (PySem.W.fnOf nm qual (defArgs st) (defBody st) (defScope st) .none kV doc pm an cdv ct) ⟨us, []⟩ = pure (ps.zip us))
    (len : ∀ vs H Q E, sp vs H Q E → vs.length = ps.length)
    (hbody : ∀ (f : Addr) (cdv : Value) (A : Around) (outer : List Env) (s : Shared) (H : Hp) (vs : List V) (Q : VK) (E : XK), Room k (A.deeper (envOfC qual (defScope st) s.heap.objs.size f cdv)) → sp vs H Q E →
      ∃ t, PSs (cxOf (L2N.CX P w) P w K mg base N qual (defScope st) f cdv A outer s H E) (defBody st) t ∧ t { nx := fun _ H' => Q .non H', rt := Q } (start N vs) H) : CalMX P w K mg base (He.ga K C) m (k + 1) ps sp := by
  obtain ⟨fd, F⟩ := hd
  exact ⟨_, fd, F.ok S len fun cdv A outer s H vs Q E hr h => hbody _ cdv A outer s H vs Q E hr h, hm, F.bindsN hb⟩
theorem Tx.tm (T : Tx P w K mg base) : PySem.W.excIn K (He.ga K "TooMany") He.veBase "ValueError.__new__" = true ∧ PySem.W.keepIn K (.ref (He.ga K "TooMany")) = true ∧ PySem.W.subIn K (.ref (He.ga K "TooMany")) (.type "BaseException") = some true ∧ PySem.W.typeIn K (.ref (He.ga K "TooMany")) = some (.type "type") := He.exc_ok T.exc_TooMany
/-- the dict of the doors, locked or not -/
theorem HouseAt.relock {lk lk' : Option Obj} {H : Hp} {tab key : List Int} {h : HouseR} (hh : HouseAt K lk H tab key h) : HouseAt K lk' (upd H h.dd (lockO lk' (.dK (dk DoorR.nm DoorR.p h.doors)))) tab key h := by
  obtain ⟨tk, k1, f1, f2, f3⟩ := hh.own_fr (o := lockO lk' (.dK (dk DoorR.nm DoorR.p h.doors))) hh.ht2 (lock_nt _ _)
  exact ⟨k1 hh.ob hh.ht0 (fun z => by cases z), tk _ _ hh.tb, k1 hh.kls hh.ht1 (fun z => by cases z), upd_same, k1 hh.bdo hh.ht3 (fun z => by cases z), k1 hh.odo hh.ht5 (fun z => by cases z), k1 hh.kpo hh.ht4 (fun z => by cases z), hh.kz.tk tk, f1, f2, fun x hx => (hh.kpt x hx).tk tk, hh.ndd, hh.ndb,
    hh.ht0, hh.ht1, hh.ht2, hh.ht3, hh.ht4, hh.ht5, f3, hh.tT, hh.kl8, hh.kn, hh.dn, hh.bn⟩
theorem HouseAt.key_add {H : Hp} {tab key ks : List Int} {h : HouseR} (hh : HouseAt K none H tab key h) {k : Addr} (hk : H k = some (.tup (ks.map V.int))) (hl : h.keys.length < 8) : HouseAt K none (upd H h.kl (.lst ((h.keys ++ [k]).map V.ref))) tab key { h with keys := h.keys ++ [k] } ∧
    HFr h { h with keys := h.keys ++ [k] } H (upd H h.kl (.lst ((h.keys ++ [k]).map V.ref))) := by
  obtain ⟨tk, k1, f1, f2, f3⟩ := hh.own_fr (o := .lst ((h.keys ++ [k]).map V.ref)) hh.ht1 (fun xs e => by cases e)
  refine ⟨⟨k1 hh.ob hh.ht0 (fun z => by cases z), tk _ _ hh.tb, upd_same, k1 hh.ddo hh.ht2 (fun z => by cases z), k1 hh.bdo hh.ht3 (fun z => by cases z), k1 hh.odo hh.ht5 (fun z => by cases z), k1 hh.kpo hh.ht4 (fun z => by cases z), ?_, fun d hd => (f1 d hd).wide (by show h.keys.length ≤ (h.keys ++ [k]).length; rw [List.length_append]; exact Nat.le_add_right _ _), f2, fun x hx => (hh.kpt x hx).tk tk, hh.ndd, hh.ndb,
    hh.ht0, hh.ht1, hh.ht2, hh.ht3, hh.ht4, hh.ht5, f3, hh.tT, hh.kl8, hh.kn, hh.dn, hh.bn⟩, fun c o hc hn => ⟨k1 hc hn (fun z => by cases z), hn⟩⟩
  obtain ⟨h1, ⟨k0, r, h2, h3⟩, h4⟩ := hh.kz.tk tk
  refine ⟨?_, ⟨k0, r ++ [k], ?_, h3⟩, fun a ha => ?_⟩
  · show (h.keys ++ [k]).length ≤ 8
    rw [List.length_append]
    exact hl
  · show h.keys ++ [k] = _
    rw [h2] <;> rfl
  · rcases List.mem_append.mp ha with e | e
    · exact h4 a e
    · rw [List.mem_singleton.mp e]
      exact ⟨ks, tk _ _ hk⟩
def spTurn (K : PySem.W.Frag) : Sp := fun vs H Q E => ∃ (h : HouseR) (tab key ks : List Int) (k : Addr), vs = [.ref h.p, .ref k] ∧ HouseAt K none H tab key h ∧ H k = some (.tup (ks.map V.int)) ∧ h.n ≤ 9000 ∧
  (h.keys.length < 8 → ∀ (h' : HouseR) (H' : Hp), Nx K H H' tab key h h' 12 → h'.pu = { h.pu with nk := h.pu.nk + 1 } → Q .non H') ∧ (8 ≤ h.keys.length → E (.ref (He.ga K "TooMany")) none H)
abbrev N_House_TurnHouse : List Str := ["self", "key", "door"]
theorem sc_House_TurnHouse : FnScope N_House_TurnHouse ["self", "key"] (defScope s_House_TurnHouse) := ⟨rfl, rfl, rfl, by decide +kernel, rfl, by decide +kernel, by decide +kernel⟩
theorem c_House_TurnHouse (T : Tx P w K mg base) : CalMX P w K mg base (He.ga K "House") "turn_house" 2 ["self", "key"] (spTurn K) := by
  refine calMX_mk T.df_House_TurnHouse T.m_House_TurnHouse sc_House_TurnHouse (fun _ _ _ _ _ _ us hl => match us, hl with | [_, _], _ => rfl) ?len (fun f cdv A outer s H vs Q E hr h => ?body)
  case len => walk_at "len"
  have nd := sc_House_TurnHouse.nd
  refine ⟨_, (pss_cons (ps_if (pt_cmpR op_ge (pe_callB call_len_seq (by rfl) T.f_len (by decide +kernel) (pa_cons (pe_at T.cls_House T.na_House_house_keys lk_House_house_keys (pv 0)) pa_nil)) (pe_gi T.i_MOST_KEYS_house) (nomark _)) (pss_one (L2N.ps_raise rfl (L2N.takes_of rfl rfl rfl rfl) (L2N.pmk_own PySem.F.excBase_ValueError T.tm.1 T.g_TooMany T.tm.2.1 (raises_own T.tm.2.2.1 T.tm.2.2.2) rfl))) pss_nil)
    (PSs.nox (pss_cons (ps_expr (pe_bm PySem.F.plainAttrs_list PySem.F.slot_list_append PySem.F.type_list_append mt_append (pe_at T.cls_House T.na_House_house_keys lk_House_house_keys (pv 0)) (pa_cons (pe_callTy (T := "tuple") call_tuple_of (by rfl) T.f_tuple (by decide +kernel) (pa_cons (pv 1) pa_nil)) pa_nil)))
    (pss_one (ps_lock (ps_for PassesOwn.never rfl (pi_values (pe_at T.cls_House T.na_House_doors lk_House_doors (pv 0))) (pg_name (i := 2) nd rfl (Or.inl rfl))
    (pss_one (ps_expr (pe_mt (c_Door_TurnKey T) T.cls_Door lm_Door_TurnKey (hr.mono (by decide)) (pv 2) (pa_cons (pv 1) pa_nil)))))))))), ?_⟩
  obtain ⟨h, tab, key, ks, k, rfl, hh, hk, hn, q, qe⟩ := h
  refine ⟨_, rfl, _, _, h.V, rfl, hh.ob, _, _, rfl, Or.inl (SqL.of hh.kls), _, _, rfl, rfl, _, rfl, ?_⟩
  by_cases hlen : h.keys.length < 8
  · refine ifND (by rw [List.length_map]; omega) ?_
    have q := q hlen
    refine ⟨_, rfl, _, _, h.V, rfl, hh.ob, Or.inl ⟨rfl, _, SqL.of hh.kls⟩, _, rfl, k, _, rfl, Or.inr ⟨SqT.of hk, h.kl, _, _, rfl, rfl, hh.kls, (by rw [List.length_map]; exact sz_lt (by omega)), ?_⟩⟩
    obtain ⟨hh1, fr1⟩ := hh.key_add hk hlen
    have eH : upd H h.kl (HO.lst (h.keys.map V.ref ++ [V.ref k])) = upd H h.kl (.lst ((h.keys ++ [k]).map V.ref)) := by rw [List.map_append] <;> rfl
    rw [eH]
    generalize upd H h.kl _ = H1 at hh1 fr1 ⊢
    have hk1 : H1 k = some (.tup (ks.map V.int)) := HFr.tk hh fr1 _ _ hk
    refine ⟨h.dd, .dK (dk DoorR.nm DoorR.p h.doors), hh1.ddo, trivial, fun od => ?_⟩
    have hhL : HouseAt K (some od) (upd H1 h.dd (.frz od (.dK (dk DoorR.nm DoorR.p h.doors)))) tab key { h with keys := h.keys ++ [k] } := hh1.relock (lk' := some od)
    have frL : HFr h { h with keys := h.keys ++ [k] } H (upd H1 h.dd (.frz od (.dK (dk DoorR.nm DoorR.p h.doors)))) := fun c o hc hn => ⟨(upd_ne (fun e => by rw [e, hh.ht2] at hn; cases hn)).trans (fr1 c o hc hn).1, hn⟩
    generalize upd H1 h.dd _ = HL at hhL frL ⊢
    refine ⟨_, rfl, _, _, h.V, rfl, hhL.ob, h.dd, od, _, rfl, hhL.ddo, for_it walk_values (fun i σ H' => ∃ (hi : HouseR) (v : Option V), σ = [some (.ref h.p), some (.ref k), v] ∧ HouseAt K (some od) H' tab key hi ∧ HFr h hi H H' ∧ hi.p = h.p ∧ hi.dd = h.dd ∧ dk DoorR.nm DoorR.p hi.doors = dk DoorR.nm DoorR.p h.doors ∧
      hi.pu = { h.pu with nk := h.pu.nk + 1 } ∧ hi.n ≤ h.n + i ∧ hi.keys = h.keys ++ [k] ∧ ∀ j d, i ≤ j → hi.doors[j]? = some d → d.keys.length ≤ h.keys.length) ⟨{ h with keys := h.keys ++ [k] }, none, rfl, hhL, frL, rfl, rfl, rfl, ?_, Nat.le_refl _, rfl, fun j d _ hd => (hh.drs d (List.mem_of_getElem? hd)).kq⟩ (fun i σ H' _ p => ?_) (fun i x σ H2 H3 hi p y => ?_) (fun σ H' p => ?_)⟩
    · show (⟨_, _, _, (h.keys ++ [k]).length⟩ : PH) = _
      rw [List.length_append] <;> rfl
    · obtain ⟨hi, v, _, hhi, _, _, e1, e2, _⟩ := p
      have g := hhi.ddo
      rw [e1, e2] at g
      exact g
    · obtain ⟨hi', v, rfl, hhi, fri, ep, edd, edk, epu, enn, eks, hlt⟩ := p
      obtain ⟨rfl, kk, hkv⟩ := y
      rw [← edk] at hkv
      obtain ⟨d, hd, he⟩ := map_get (f := fun e : DoorR => ((Sum.inr e.nm : Key), V.ref e.p)) hkv
      obtain ⟨rfl, rfl⟩ : kk = Sum.inr d.nm ∧ x = V.ref d.p := ⟨congrArg Prod.fst he, congrArg Prod.snd he⟩
      have hdm := List.mem_of_getElem? hd
      have D := hhi.drs d hdm
      have hkq := hlt i d (Nat.le_refl _) hd
      have hik := hi
      rw [← edk, dk_len] at hik
      have hidn := hhi.dn
      refine ⟨_, rfl, _, _, d.V, rfl, D.at_.ob, _, rfl, d, k, tab, key, ks, hi'.n, rfl, D.at_, HFr.tk hh fri _ _ hk, by omega, by omega, fun H4 f4 hd4 => ?_⟩
      obtain ⟨xs, hxs, hxl⟩ := hd4.rws
      obtain ⟨ys, hy, hyl⟩ := D.opo
      have o1 : d.op ≠ d.kl := fun e => by have := D.t4; rw [e, D.t1] at this; injection this with _ z; cases z
      have o2 : d.op ≠ d.rw' := fun e => by have := D.t4; rw [e, D.t3] at this; injection this with _ z; cases z
      have hkl4 := hd4.kls
      obtain ⟨n1, n2⟩ := hhi.door_upd hdm (m := hi'.n + 1) f4 D.t1 D.t3 ⟨_, hkl4, by intro xs z; cases z⟩ ⟨_, hxs, by intro xs z; cases z⟩ (d' := { d with keys := d.keys ++ [k] })
        ⟨hd4, (by show (d.keys ++ [k]).length ≤ _; rw [eks, List.length_append, List.length_append]; exact Nat.add_le_add_right hkq _), ⟨ys, f4 _ _ hy o1 o2, Nat.le_succ_of_le hyl⟩, D.t0, D.t1, D.t2, D.t3, D.t4, D.mst⟩ rfl rfl rfl (Nat.le_succ _)
      refine ⟨_, some (.ref d.p), rfl, n1, fri.trans n2, ep, edd, ?_, ?_, (by show hi'.n + 1 ≤ _; omega), eks, fun j d2 hj hd2 => ?_⟩
      · rw [← edk]
        unfold dk setN
        rw [List.map_map]
        refine List.map_congr_left fun x hx => ?_
        show (Sum.inr (DoorR.nm (if x.nm = d.nm then { d with keys := d.keys ++ [k] } else x)), V.ref (DoorR.p (if x.nm = d.nm then { d with keys := d.keys ++ [k] } else x))) = (Sum.inr x.nm, V.ref x.p)
        by_cases e : x.nm = d.nm
        · rw [if_pos e, nm_inj hhi.ndd hx hdm e]
        · rw [if_neg e]
      · rw [← epu]
        show (⟨(setN DoorR.nm hi'.doors d.nm { d with keys := d.keys ++ [k] }).map DoorR.pu, _, _, _⟩ : PH) = ⟨hi'.doors.map DoorR.pu, _, _, _⟩
        congr 1
        unfold setN
        rw [List.map_map]
        refine List.map_congr_left fun x hx => ?_
        show DoorR.pu (if x.nm = d.nm then { d with keys := d.keys ++ [k] } else x) = x.pu
        by_cases e : x.nm = d.nm
        · rw [if_pos e, nm_inj hhi.ndd hx hdm e] <;> rfl
        · rw [if_neg e]
      · obtain ⟨x2, hx2, e⟩ := map_get (f := fun x : DoorR => if x.nm = d.nm then { d with keys := d.keys ++ [k] } else x) hd2
        by_cases c : x2.nm = d.nm
        · have hx3 := nm_inj hhi.ndd (List.mem_of_getElem? hx2) hdm c
          rw [hx3] at hx2
          have ij : i = j := (List.getElem?_inj (l := hi'.doors.map DoorR.nm) (by rw [List.length_map]; exact hik) hhi.ndd).mp (by rw [List.getElem?_map, List.getElem?_map, hd, hx2])
          omega
        · rw [if_neg c] at e
          rw [e]
          exact hlt j x2 (by omega) hx2
    · obtain ⟨hi', v, rfl, hhi, fri, ep, edd, edk, epu, enn, eks, hlt⟩ := p
      have hhU : HouseAt K none (upd H' h.dd (.dK (dk DoorR.nm DoorR.p h.doors))) tab key hi' := by
        have g := hhi.relock (lk' := none)
        rw [edd, edk] at g
        exact g
      have hdd := hhi.ddo
      rw [edd, edk] at hdd
      have hdl := hh.dn
      rw [dk_len] at enn
      have enn : hi'.n ≤ h.n + h.doors.length := enn
      refine ⟨hdd, q hi' _ ⟨hhU, fun c o hc hn => ⟨(upd_ne (fun e => by rw [e, hh.ht2] at hn; cases hn)).trans (fri c o hc hn).1, (fri c o hc hn).2⟩, ep, by omega⟩ epu⟩
  · refine ifD (by rw [List.length_map]; omega) ?_
    exact qe (by omega)
end
end K69
end
section
set_option Elab.async false
set_option linter.all false
set_option maxRecDepth 100000
set_option maxHeartbeats 4000000
local macro_rules | `(tactic| walk_at "len") => `(tactic| (intro vs H Q E h; first
  | (obtain ⟨e, _⟩ := h; subst e; rfl) | (obtain ⟨_, e, _⟩ := h; subst e; rfl) | (obtain ⟨_, _, e, _⟩ := h; subst e; rfl) | (obtain ⟨_, _, _, e, _⟩ := h; subst e; rfl) | (obtain ⟨_, _, _, _, e, _⟩ := h; subst e; rfl)
  | (obtain ⟨_, _, _, _, _, e, _⟩ := h; subst e; rfl) | (obtain ⟨_, _, _, _, _, _, e, _⟩ := h; subst e; rfl) | (obtain ⟨_, _, _, _, _, _, _, e, _⟩ := h; subst e; rfl) | (obtain ⟨_, _, _, _, _, _, _, _, e, _⟩ := h; subst e; rfl)
  | (obtain ⟨_, _, _, _, _, _, _, _, _, e, _⟩ := h; subst e; rfl) | (obtain ⟨_, _, _, _, _, _, _, _, _, _, e, _⟩ := h; subst e; rfl) | (obtain ⟨_, _, _, _, _, _, _, _, _, _, _, e, _⟩ := h; subst e; rfl)))
local macro_rules | `(tactic| walk_at "hh") => `(tactic| first
  | assumption
  | exact L2.upd_same
  | (refine (L2.upd_ne (by walk_at "ne")).trans ?_; walk_at "hh")
  | (refine (‹L2.Same _ _› : L2.Same _ _) _ _ ?_; walk_at "hh"))
local macro_rules | `(tactic| walk_at "ne") => `(tactic| first
  | assumption
  | (apply Ne.symm; assumption)
  | exact L2.ne_of_none (by walk_at "hh") (by assumption)
  | exact (L2.ne_of_none (by walk_at "hh") (by assumption)).symm)
local macro_rules | `(tactic| walk_at "s") => `(tactic| first
  | refine ⟨_, rfl, ?_⟩
  | refine ⟨_, _, _, rfl, (by walk_at "hh"), ?_⟩
  | refine ⟨rfl, ?_⟩
  | refine ⟨_, _, rfl, rfl, ?_⟩)
local macro_rules | `(tactic| walk_at "isi int") => `(tactic| refine ⟨_, _, _, _, true, rfl, .ty "int", .base (.int _), L2.kit_ty (by decide +kernel), ?_⟩)
local macro_rules | `(tactic| walk_at "isi bool") => `(tactic| refine ⟨_, _, _, _, false, rfl, .ty "bool", .base (.int _), L2.kit_ty (by decide +kernel), ?_⟩)
local macro_rules | `(tactic| walk_at "isi tuple") => `(tactic| refine ⟨_, _, _, _, true, rfl, .ty "tuple", .base (.tup (by assumption)), L2.kit_ty (by decide +kernel), ?_⟩)
local macro_rules | `(tactic| walk_at "isi str") => `(tactic| refine ⟨_, _, _, _, true, rfl, .ty "str", .base (.str _), L2.kit_ty (by decide +kernel), ?_⟩)
local macro_rules | `(tactic| walk_at "v") => `(tactic| refine ⟨_, rfl, ?_⟩)
local macro_rules | `(tactic| walk_at "ii") => `(tactic| refine ⟨_, _, rfl, rfl, ?_⟩)
namespace K69
open PySem PySem.Spec PyProof.Rows L2
/-! ### run.py: texts -/
def numS (i : Int) : Str := toString i
def hexC (d : Int) : Nat := (("0123456789abcdef" : Str).cps.toList).getD d.toNat 0
def hex1 (d : Int) : Str := ⟨#[hexC d]⟩
def ansS (ans : Option Str) (deed : Int) : Str := match ans with
  | none => "open:" ++ hex1 deed
  | some x => "held" ++ ":" ++ x
def waitS : Option Int → List Str
  | none => []
  | some c => [numS 0 ++ ":" ++ numS c]
def rowS (e : PE3) : Str := Txt.join " " ([e.1, numS 0, numS e.2.1] ++ waitS e.2.2)
def knownS (es : List PE3) : Str := if es = [] then "-" else Txt.join " ; " (es.map rowS)
def cellS : Option Int → Str
  | none => "-"
  | some i => numS i
def btnS (b : PB) : Str := Txt.join " " [numS 0, numS b.cnt, cellS b.c0, cellS b.c1]
def pressS (num : Nat) (as : List Str) : Str := Txt.join " " (numS num :: as)
theorem log_ok {i : Int} (h0 : 0 ≤ i) (h1 : i < 100000) : i.natAbs.log2 < 1920 := by
  by_cases e : i.natAbs = 0
  · rw [e]; decide
  · refine (Nat.log2_lt e).mpr ?_
    have h2 : i.natAbs < 2 ^ 17 := by
      have : (2 : Nat) ^ 17 = 131072 := by decide
      omega
    exact Nat.lt_of_lt_of_le h2 (Nat.pow_le_pow_right (by decide) (by decide))
/-- the signs of a number, not many -/
theorem numS_len {i : Int} (h0 : 0 ≤ i) (h1 : i < 100000) : (numS i).length ≤ 5 := toString_length_le h0 (by decide) (by omega)
theorem hex_at {d : Int} (h : 0 ≤ d ∧ d < 16) : atI ("0123456789abcdef" : Str).cps.toList d = some (hexC d) := by
  have hl : ("0123456789abcdef" : Str).cps.toList.length = 16 := by decide +kernel
  have hd : d.toNat < ("0123456789abcdef" : Str).cps.toList.length := by omega
  show ((ixN ("0123456789abcdef" : Str).cps.toList.length d).bind fun j => ("0123456789abcdef" : Str).cps.toList[j]?) = _
  rw [ixN_of (show d = ((d.toNat : Nat) : Int) by omega) hd]
  show ("0123456789abcdef" : Str).cps.toList[d.toNat]? = some (hexC d)
  unfold hexC
  rw [List.getD, List.getElem?_eq_getElem hd] <;> rfl
section
variable {P : Program} {w : World} {K : PySem.W.Frag} {mg : Str → Option Value} {base : Heap}
def spAnsTx : Sp := fun vs H Q _ => ∃ (r : Addr) (ans : Option Str) (z : Str) (deed : Int), vs = [.ref r] ∧ AnsAt H r ans z deed ∧ (0 ≤ deed ∧ deed < 16) ∧ (∀ x, ans = some x → x.length ≤ 100) ∧ Q (.str (ansS ans deed)) H
abbrev N_answerText : List Str := ["answer"]
theorem sc_answerText : FnScope N_answerText ["answer"] (defScope s_answerText) := ⟨rfl, rfl, rfl, by decide +kernel, rfl, by decide +kernel, by decide +kernel⟩
theorem c_answerText (T : Tx P w K mg base) : Cal P w K mg base "answer_text" 1 ["answer"] (spAnsTx) := by
  refine cal_mk T.df_answerText T.g_answerText sc_answerText (fun _ _ _ _ _ _ us hl => match us, hl with | [_], _ => rfl) ?len (fun f cdv A outer s H vs Q E hr h => ?body)
  case len => walk_at "len"
  have nd := sc_answerText.nd
  refine ⟨_, (pss_cons (ps_if (pt_cmpR op_eq (pe_ix ix_tup (pv 0) pe_int (fun _ _ => rfl)) pe_str (nomark _)) (pss_one (ps_ret (pe_op op_add_str pe_str (pe_ix ix_str (pe_gs T.z_SIGNS) (pe_ix ix_tup (pv 0) pe_int (fun _ _ => rfl)) (fun _ _ => rfl))))) pss_nil)
    (pss_one (ps_ret (pe_op op_add_str (pe_op op_add_str (pe_ix ix_tup (pv 0) pe_int (fun _ _ => rfl)) pe_str) (pe_ix ix_tup (pv 0) pe_int (fun _ _ => rfl)))))), ?_⟩
  obtain ⟨r, ans, z, deed, rfl, ha, hdd, hx, q⟩ := h
  cases ans with
  | none =>
    have ha : H r = some (.tup [.str "open", .str z, .int deed]) := ha
    refine ⟨_, rfl, r, _, _, V.str "open", rfl, rfl, SqT.of ha, rfl, rfl, _, rfl, ?_⟩
    refine ifD rfl ?_
    exact ⟨_, rfl, r, _, _, V.int deed, rfl, rfl, SqT.of ha, rfl, _, _, _, rfl, rfl, by decide +kernel, hex_at hdd, _, _, rfl, rfl, sz_of (Nat.le_trans (show ("open:" : Str).length + 1 ≤ 100 by decide +kernel) (by decide)), q⟩
  | some x =>
    have ha : H r = some (.tup [.str "held", .str x]) := ha
    refine ⟨_, rfl, r, _, _, V.str "held", rfl, rfl, SqT.of ha, rfl, rfl, _, rfl, ?_⟩
    refine ifND (fun e => absurd (V.str.inj e) (by decide +kernel)) ?_
    have hl := hx x rfl
    have h5 : ("held" ++ ":" : Str).length = 5 := by decide +kernel
    exact ⟨_, rfl, r, _, _, V.str "held", rfl, rfl, SqT.of ha, rfl, _, _, rfl, rfl, by decide +kernel, _, rfl, r, _, _, V.str x, rfl, rfl, SqT.of ha, rfl, _, _, rfl, rfl, sz_of (by rw [h5]; omega), q⟩
def spMany (K : PySem.W.Frag) : Sp := fun vs H Q _ => ∃ (l : Addr) (b : Str) (ys : List Str), vs = [.ref l, .str b] ∧ SqL K H l (ys.map V.str) ∧ (ys.map (·.length)).sum + ys.length * b.length ≤ 16777216 ∧ Q (.str (if ys = [] then "-" else Txt.join b ys)) H
abbrev N_manyText : List Str := ["words", "between"]
theorem sc_manyText : FnScope N_manyText ["words", "between"] (defScope s_manyText) := ⟨rfl, rfl, rfl, by decide +kernel, rfl, by decide +kernel, by decide +kernel⟩
theorem c_manyText (T : Tx P w K mg base) : Cal P w K mg base "many_text" 1 ["words", "between"] (spMany K) := by
  refine cal_mk T.df_manyText T.g_manyText sc_manyText (fun _ _ _ _ _ _ us hl => match us, hl with | [_, _], _ => rfl) ?len (fun f cdv A outer s H vs Q E hr h => ?body)
  case len => walk_at "len"
  have nd := sc_manyText.nd
  refine ⟨_, (pss_one (ps_ret (pe_ifExp (pt_cmpR op_gt (pe_callB call_len_seq (by rfl) T.f_len (by decide +kernel) (pa_cons (pv 0) pa_nil)) pe_int (nomark _)) (pe_join (pv 1) (pv 0)) (pe_gs T.z_NOTHING)))), ?_⟩
  obtain ⟨l, b, ys, rfl, hl, hs, q⟩ := h
  refine ⟨_, rfl, _, _, rfl, Or.inl hl, _, _, rfl, rfl, _, rfl, ?_⟩
  cases ys with
  | nil => exact ifND (by show ¬ (0 : Int) < 0; decide) (by rw [if_pos rfl] at q; exact q)
  | cons y r =>
    rw [if_neg (List.cons_ne_nil _ _)] at q
    refine ifD (by show (0 : Int) < ((List.map V.str (y :: r)).length : Nat); rw [List.length_map, List.length_cons]; omega) ?_
    exact ⟨_, rfl, ⟨_, rfl⟩, _, rfl, _, _, y :: r, rfl, rfl, Or.inl hl, hs, q⟩
def spKnownTx : Sp := fun vs H Q _ => ∃ (t : Addr) (e : Ent), vs = [.ref t] ∧ RowAt H t e ∧ EntAt H e ∧ ∀ H', Same H H' → Q (.str (rowS e.pu)) H'
abbrev N_knownText : List Str := ["row", "name", "age", "last", "waiting", "words"]
theorem sc_knownText : FnScope N_knownText ["row"] (defScope s_knownText) := ⟨rfl, rfl, rfl, by decide +kernel, rfl, by decide +kernel, by decide +kernel⟩
theorem c_knownText (T : Tx P w K mg base) : Cal P w K mg base "known_text" 1 ["row"] (spKnownTx) := by
  refine cal_mk T.df_knownText T.g_knownText sc_knownText (fun _ _ _ _ _ _ us hl => match us, hl with | [_], _ => rfl) ?len (fun f cdv A outer s H vs Q E hr h => ?body)
  case len => walk_at "len"
  have nd := sc_knownText.nd
  refine ⟨_, (pss_cons (ps_asg (pv 0) (pg_tup rfl (pgs_cons (pg_name (i := 1) nd rfl (Or.inl rfl)) (pgs_cons (pg_name (i := 2) nd rfl (Or.inl rfl)) (pgs_cons (pg_name (i := 3) nd rfl (Or.inl rfl)) (pgs_cons (pg_name (i := 4) nd rfl (Or.inl rfl)) pgs_nil))))))
    (pss_cons (ps_set (i := 5) nd rfl (Or.inl rfl) (pe_lst (pa_cons (pv 1) (pa_cons (pe_callTy (T := "str") call_str_int (by rfl) T.f_str (by decide +kernel) (pa_cons (pv 2) pa_nil)) (pa_cons (pe_callTy (T := "str") call_str_int (by rfl) T.f_str (by decide +kernel) (pa_cons (pv 3) pa_nil)) pa_nil)))))
    (pss_cons (ps_if (pt_cmp (pc_notN (pv 4))) (pss_one (ps_expr (pe_bm PySem.F.plainAttrs_list PySem.F.slot_list_append PySem.F.type_list_append mt_append (pv 5) (pa_cons (pe_op op_add_str (pe_op op_add_str (pe_callTy (T := "str") call_str_any (by rfl) T.f_str (by decide +kernel) (pa_cons (pe_ix ix_tup (pv 4) pe_int (fun _ _ => rfl)) pa_nil)) pe_str) (pe_callTy (T := "str") call_str_any (by rfl) T.f_str (by decide +kernel) (pa_cons (pe_ix ix_tup (pv 4) pe_int (fun _ _ => rfl)) pa_nil))) pa_nil)))) pss_nil)
    (pss_one (ps_ret (pe_join pe_str (pv 5))))))), ?_⟩
  obtain ⟨t, e, rfl, ht, hE, q⟩ := h
  have hnl : e.nm.length ≤ 8 := hE.nmo.hi
  have h0 := numS_len (i := 0) (by decide) (by decide)
  have hll := numS_len hE.lo (show e.last < 100000 by have := hE.hi; omega)
  refine ⟨_, rfl, t, _, rfl, SqT.of ht, rfl, _, _, rfl, _, _, rfl, _, _, rfl, _, _, rfl, rfl, ?_⟩
  refine ⟨_, rfl, _, rfl, _, rfl, by decide, _, rfl, _, rfl, log_ok hE.lo (by have := hE.hi; omega), (by show 3 ≤ sizeLine; decide), fun l hl => ?_⟩
  generalize e1 : upd H l _ = H1
  have s1 : Same H H1 := by rw [← e1]; exact same_new hl
  have hl1 : H1 l = some (.lst ([e.nm, numS 0, numS e.last].map V.str)) := by rw [← e1]; exact upd_same
  clear e1
  refine ⟨_, rfl, _, rfl, ?_⟩
  have e2 : e.pu.2.2 = e.w.map Prod.snd := rfl
  unfold rowS at q
  rw [e2] at q
  cases hw : e.w with
  | none =>
    rw [hw] at q
    refine ifF (by show (!decide (e.wV = V.non)) = false; unfold Ent.wV; rw [hw] <;> rfl) ?_
    refine ⟨⟨_, rfl⟩, _, rfl, _, _, [e.nm, numS 0, numS e.last], rfl, rfl, Or.inl (SqL.of hl1), ?_, q H1 s1⟩
    show (e.nm.length + ((numS 0).length + ((numS e.last).length + 0))) + 3 * 1 ≤ 16777216
    omega
  | some p =>
    rw [hw] at q
    obtain ⟨hp, hp0, hp1⟩ := hE.wa p hw
    have hpl := numS_len hp0 (show p.2 < 100000 by omega)
    have hp2 := s1 _ _ hp
    have ewv : e.wV = V.ref p.1 := by unfold Ent.wV; rw [hw]
    have h6 : (numS 0 ++ ":" ++ numS p.2).length = (numS 0).length + 1 + (numS p.2).length := by
      rw [TL.len_tl, TL.tl_append, TL.tl_append, List.length_append, List.length_append, ← TL.len_tl, ← TL.len_tl] <;> rfl
    have h7 : (numS 0 ++ ":").length = (numS 0).length + 1 := by
      rw [TL.len_tl, TL.tl_append, List.length_append, ← TL.len_tl] <;> rfl
    refine ifT (by show (!decide (e.wV = V.non)) = true; rw [ewv] <;> rfl) ?_
    refine ⟨_, rfl, Or.inl ⟨rfl, _, SqL.of hl1⟩, _, rfl, p.1, _, _, V.int 0, ewv, rfl, SqT.of hp2, rfl, Or.inl ⟨0, rfl, by decide, _, _, rfl, rfl, sz_of (by show (numS 0).length + 1 ≤ _; omega), _, rfl, p.1, _, _, V.int p.2, ewv, rfl, SqT.of hp2, rfl, Or.inl ⟨p.2, rfl, log_ok hp0 (by omega), _, _, rfl, rfl, sz_of (by show (numS 0 ++ ":").length + (numS p.2).length ≤ _; rw [h7]; omega), l, _, _, rfl, rfl, hl1, (by show 3 < sizeLine; decide), ?_⟩⟩⟩
    refine ⟨⟨_, rfl⟩, _, rfl, _, _, [e.nm, numS 0, numS e.last, numS 0 ++ ":" ++ numS p.2], rfl, rfl, Or.inl (SqL.of upd_same), ?_, q _ (same_mut s1 hl)⟩
    show (e.nm.length + ((numS 0).length + ((numS e.last).length + ((numS 0 ++ ":" ++ numS p.2).length + 0)))) + 4 * 1 ≤ 16777216
    rw [h6]
    omega
def spCellTx : Sp := fun vs H Q _ => ∃ (c : Option Int), vs = [cellV c] ∧ (∀ i, c = some i → 0 ≤ i ∧ i < 100000) ∧ Q (.str (cellS c)) H
abbrev N_cellText : List Str := ["cell"]
theorem sc_cellText : FnScope N_cellText ["cell"] (defScope s_cellText) := ⟨rfl, rfl, rfl, by decide +kernel, rfl, by decide +kernel, by decide +kernel⟩
theorem c_cellText (T : Tx P w K mg base) : Cal P w K mg base "cell_text" 1 ["cell"] (spCellTx) := by
  refine cal_mk T.df_cellText T.g_cellText sc_cellText (fun _ _ _ _ _ _ us hl => match us, hl with | [_], _ => rfl) ?len (fun f cdv A outer s H vs Q E hr h => ?body)
  case len => walk_at "len"
  have nd := sc_cellText.nd
  refine ⟨_, (pss_one (ps_ret (pe_ifExp (pt_cmp (pc_isN (pv 0))) (pe_gs T.z_NOTHING) (pe_callTy (T := "str") call_str_int (by rfl) T.f_str (by decide +kernel) (pa_cons (pv 0) pa_nil))))), ?_⟩
  obtain ⟨c, rfl, hc, q⟩ := h
  cases c with
  | none => exact ⟨_, rfl, _, rfl, ifD rfl q⟩
  | some i =>
    obtain ⟨h0, h1⟩ := hc i rfl
    exact ⟨_, rfl, _, rfl, ifND (fun z => by cases z) ⟨_, rfl, _, rfl, log_ok h0 h1, q⟩⟩
def spBtnTx : Sp := fun vs H Q _ => ∃ (r c : Addr) (b : PB), vs = [.ref r] ∧ H r = some (.tup [.int 0, .int b.cnt, .ref c]) ∧ H c = some (.tup [cellV b.c0, cellV b.c1]) ∧ (0 ≤ b.cnt ∧ b.cnt < 100000) ∧ (∀ i, b.c0 = some i → 0 ≤ i ∧ i < 100000) ∧ (∀ i, b.c1 = some i → 0 ≤ i ∧ i < 100000) ∧ ∀ H', Same H H' → Q (.str (btnS b)) H'
abbrev N_buttonText : List Str := ["now", "age", "count", "cells", "cell"]
theorem sc_buttonText : FnScope N_buttonText ["now"] (defScope s_buttonText) := ⟨rfl, rfl, rfl, by decide +kernel, rfl, by decide +kernel, by decide +kernel⟩
theorem c_buttonText (T : Tx P w K mg base) : Cal P w K mg base "button_text" 2 ["now"] (spBtnTx) := by
  refine cal_mk T.df_buttonText T.g_buttonText sc_buttonText (fun _ _ _ _ _ _ us hl => match us, hl with | [_], _ => rfl) ?len (fun f cdv A outer s H vs Q E hr h => ?body)
  case len => walk_at "len"
  have nd := sc_buttonText.nd
  refine ⟨_, (pss_cons (ps_asg (pv 0) (pg_tup rfl (pgs_cons (pg_name (i := 1) nd rfl (Or.inl rfl)) (pgs_cons (pg_name (i := 2) nd rfl (Or.inl rfl)) (pgs_cons (pg_name (i := 3) nd rfl (Or.inl rfl)) pgs_nil)))))
    (pss_one (ps_ret (pe_join pe_str (pe_op op_cat (pe_lst (pa_cons (pe_callTy (T := "str") call_str_int (by rfl) T.f_str (by decide +kernel) (pa_cons (pv 1) pa_nil)) (pa_cons (pe_callTy (T := "str") call_str_int (by rfl) T.f_str (by decide +kernel) (pa_cons (pv 2) pa_nil)) pa_nil))) (pe_lc (own := [("cell", 4)]) (g := gName 4) (tt := tYes) rfl nd (pi_tup (pv 3)) (blkOk_by (own := [("cell", 4)]) (N := N_buttonText) (sc := defScope s_buttonText) (by decide +kernel)) (fun _ _ _ _ _ => (pg_name (i := 4) nd rfl (Or.inl rfl))) (fun _ _ _ _ _ => pts_nil) (fun _ _ _ _ _ => (pe_c (c_cellText T) (hr.mono (by decide)) (pa_cons (pv 4) pa_nil))))))))), ?_⟩
  obtain ⟨r, c, b, rfl, hr0, hc0, ⟨h0, h1⟩, hc1, hc2, q⟩ := h
  refine ⟨_, rfl, r, _, rfl, SqT.of hr0, rfl, _, _, rfl, _, _, rfl, _, _, rfl, rfl, ?_⟩
  refine ⟨⟨_, rfl⟩, _, rfl, _, rfl, by decide, _, rfl, _, rfl, log_ok h0 h1, (by show 2 ≤ sizeLine; decide), fun l hl => ?_⟩
  generalize e1 : upd H l _ = H1
  have s1 : Same H H1 := by rw [← e1]; exact same_new hl
  have hl1 : H1 l = some (.lst ([numS 0, numS b.cnt].map V.str)) := by rw [← e1]; exact upd_same
  clear e1
  have hcl : ∀ x : Option Int, (∀ i, x = some i → 0 ≤ i ∧ i < 100000) → (cellS x).length ≤ 5 := fun x hx => by
    cases x with
    | none => decide
    | some i => exact numS_len (hx i rfl).1 (hx i rfl).2
  have g0 := hcl _ hc1
  have g1 := hcl _ hc2
  have n0 := numS_len (i := 0) (by decide) (by decide)
  have n1 := numS_len h0 h1
  refine ⟨_, rfl, c, rfl, ⟨_, SqT.of (s1 _ _ hc0)⟩, fun D hD => lcm_tup (SqT.of (s1 _ _ hc0)) hD (by show 2 ≤ 10000; decide) (fun _ => rfl) (fun i => V.str ([cellS b.c0, cellS b.c1].getD i "")) (fun i x H2 hi s2 Q2 k2 => ?_) (fun H2 s2 h2 => ?_)⟩
  · match i, hi with
    | 0, hi =>
      obtain rfl := Option.some.inj hi
      exact ⟨_, rfl, b.c0, rfl, hc1, k2 _ (Same.refl _)⟩
    | 1, hi =>
      obtain rfl := Option.some.inj hi
      exact ⟨_, rfl, b.c1, rfl, hc2, k2 _ (Same.refl _)⟩
  have hl2 := s2 _ _ hl1
  refine ⟨l, D, _, _, rfl, rfl, hl2, h2, (by show 4 ≤ sizeLine; decide), fun m hm => ?_⟩
  refine ⟨_, _, [numS 0, numS b.cnt, cellS b.c0, cellS b.c1], rfl, rfl, Or.inl (SqL.of upd_same), ?_, q _ (s1.trans (s2.trans (same_new hm)))⟩
  show ((numS 0).length + ((numS b.cnt).length + ((cellS b.c0).length + ((cellS b.c1).length + 0)))) + 4 * 1 ≤ 16777216
  omega
def spPressTx (K : PySem.W.Frag) : Sp := fun vs H Q _ => ∃ (r t : Addr) (num : Nat) (rs : List Addr) (as : List (Option Str)) (z : Str) (deed : Int), vs = [.ref r] ∧ H r = some (.tup [.int num, .ref t]) ∧ H t = some (.tup (rs.map V.ref)) ∧ num < 100000 ∧ rs.length = as.length ∧ as.length ≤ 100 ∧ (0 ≤ deed ∧ deed < 16) ∧
  (∀ (i : Nat) (a : Addr) (x : Option Str), rs[i]? = some a → as[i]? = some x → AnsAt H a x z deed ∧ ∀ y, x = some y → y.length ≤ 100) ∧ ∀ H', Same H H' → Q (.str (pressS num (as.map fun x => ansS x deed))) H'
theorem ansS_len {x : Option Str} {deed : Int} (h : ∀ y, x = some y → y.length ≤ 100) : (ansS x deed).length ≤ 110 := by
  cases x with
  | none =>
    show ("open:" ++ hex1 deed : Str).length ≤ 110
    rw [TL.len_tl, TL.tl_append, List.length_append]
    have h1 : (TL.tl "open:").length = 5 := by decide +kernel
    have h2 : (TL.tl (hex1 deed)).length = 1 := rfl
    omega
  | some y =>
    show ("held" ++ ":" ++ y : Str).length ≤ 110
    rw [TL.len_tl, TL.tl_append, List.length_append, ← TL.len_tl y]
    have h1 : (TL.tl ("held" ++ ":")).length = 5 := by decide +kernel
    have h2 := h y rfl
    omega
theorem sum_le {l : List Nat} {k : Nat} (h : ∀ x, x ∈ l → x ≤ k) : l.sum ≤ l.length * k := by
  induction l with
  | nil => simp
  | cons a r ih =>
    rw [List.sum_cons, List.length_cons, Nat.succ_mul]
    have h1 := h a List.mem_cons_self
    have h2 := ih fun x hx => h x (List.mem_cons_of_mem _ hx)
    omega
abbrev N_pressedText : List Str := ["told", "number", "answers", "answer"]
theorem sc_pressedText : FnScope N_pressedText ["told"] (defScope s_pressedText) := ⟨rfl, rfl, rfl, by decide +kernel, rfl, by decide +kernel, by decide +kernel⟩
theorem c_pressedText (T : Tx P w K mg base) : Cal P w K mg base "pressed_text" 2 ["told"] ((spPressTx K)) := by
  refine cal_mk T.df_pressedText T.g_pressedText sc_pressedText (fun _ _ _ _ _ _ us hl => match us, hl with | [_], _ => rfl) ?len (fun f cdv A outer s H vs Q E hr h => ?body)
  case len => walk_at "len"
  have nd := sc_pressedText.nd
  refine ⟨_, (pss_cons (ps_asg (pv 0) (pg_tup rfl (pgs_cons (pg_name (i := 1) nd rfl (Or.inl rfl)) (pgs_cons (pg_name (i := 2) nd rfl (Or.inl rfl)) pgs_nil))))
    (pss_one (ps_ret (pe_join pe_str (pe_op op_cat (pe_lst (pa_cons (pe_callTy (T := "str") call_str_int (by rfl) T.f_str (by decide +kernel) (pa_cons (pv 1) pa_nil)) pa_nil)) (pe_lc (own := [("answer", 3)]) (g := gName 3) (tt := tYes) rfl nd (pi_tup (pv 2)) (blkOk_by (own := [("answer", 3)]) (N := N_pressedText) (sc := defScope s_pressedText) (by decide +kernel)) (fun _ _ _ _ _ => (pg_name (i := 3) nd rfl (Or.inl rfl))) (fun _ _ _ _ _ => pts_nil) (fun _ _ _ _ _ => (pe_c (c_answerText T) (hr.mono (by decide)) (pa_cons (pv 3) pa_nil))))))))), ?_⟩
  obtain ⟨r, t, num, rs, as, z, deed, rfl, hr0, ht, hnum, hrl, hal, hdd, hans, q⟩ := h
  refine ⟨_, rfl, r, _, rfl, SqT.of hr0, rfl, _, _, rfl, _, _, rfl, rfl, ?_⟩
  have hn := numS_len (show (0 : Int) ≤ (num : Int) by omega) (show (num : Int) < 100000 by omega)
  refine ⟨⟨_, rfl⟩, _, rfl, _, rfl, log_ok (by omega) (by omega), (by show 1 ≤ sizeLine; decide), fun l hl => ?_⟩
  generalize e1 : upd H l _ = H1
  have s1 : Same H H1 := by rw [← e1]; exact same_new hl
  have hl1 : H1 l = some (.lst ([numS num].map V.str)) := by rw [← e1]; exact upd_same
  clear e1
  refine ⟨_, rfl, t, rfl, ⟨_, SqT.of (s1 _ _ ht)⟩, fun D hD => lcm_tup (SqT.of (s1 _ _ ht)) hD (by rw [List.length_map]; omega) (fun _ => rfl) (fun i => V.str ((as.map fun x => ansS x deed).getD i "")) (fun i x H2 hi s2 Q2 k2 => ?_) (fun H2 s2 h2 => ?_)⟩
  · obtain ⟨a, ha, rfl⟩ := map_get hi
    have hil := (List.getElem?_eq_some_iff.mp ha).1
    have hx : as[i]? = some (as[i]'(by omega)) := List.getElem?_eq_getElem _
    obtain ⟨h1, h2⟩ := hans i a _ ha hx
    have e : (as.map fun x => ansS x deed).getD i "" = ansS (as[i]'(by omega)) deed := by rw [List.getD, List.getElem?_map, hx] <;> rfl
    rw [e] at k2
    exact ⟨_, rfl, a, _, z, deed, rfl, h1.tk (.of (s1.trans s2)), hdd, h2, k2 _ (Same.refl _)⟩
  have hl2 := s2 _ _ hl1
  have hD2 : H2 D = some (.lst ((as.map fun x => ansS x deed).map V.str)) := by
    rw [h2, List.length_map, hrl]
    have e := rng_get (as.map fun x => ansS x deed) ("" : Str)
    rw [List.length_map] at e
    congr 2
    conv => rhs; rw [← e]
    rw [List.map_map] <;> rfl
  refine ⟨l, D, _, _, rfl, rfl, hl2, hD2, (by show 1 + ((as.map fun x => ansS x deed).map V.str).length ≤ sizeLine; rw [List.length_map, List.length_map]; exact sz_of (by omega)), fun m hm => ?_⟩
  refine ⟨_, _, numS num :: as.map fun x => ansS x deed, rfl, rfl, Or.inl (SqL.of (by rw [upd_same, List.map_cons] <;> rfl)), ?_, q _ (s1.trans (s2.trans (same_new hm)))⟩
  have hs := sum_le (l := (as.map fun x => ansS x deed).map (·.length)) (k := 110) (fun x hx => by
    obtain ⟨y, hy, rfl⟩ := List.mem_map.mp hx
    obtain ⟨o, ho, rfl⟩ := List.mem_map.mp hy
    obtain ⟨i, hi, e⟩ := List.mem_iff_getElem.mp ho
    refine ansS_len ((hans i (rs[i]'(by omega)) o (List.getElem?_eq_getElem _) ?_).2)
    rw [← e]
    exact List.getElem?_eq_getElem _)
  rw [List.length_map, List.length_map] at hs
  rw [List.map_cons, List.sum_cons, List.length_cons, List.length_map]
  have h1 : (" " : Str).length = 1 := rfl
  rw [h1]
  omega
end
end K69
end
section
set_option Elab.async false
set_option linter.all false
set_option maxRecDepth 100000
set_option maxHeartbeats 4000000
local macro_rules | `(tactic| walk_at "len") => `(tactic| (intro vs H Q E h; first
  | (obtain ⟨e, _⟩ := h; subst e; rfl) | (obtain ⟨_, e, _⟩ := h; subst e; rfl) | (obtain ⟨_, _, e, _⟩ := h; subst e; rfl) | (obtain ⟨_, _, _, e, _⟩ := h; subst e; rfl) | (obtain ⟨_, _, _, _, e, _⟩ := h; subst e; rfl)
  | (obtain ⟨_, _, _, _, _, e, _⟩ := h; subst e; rfl) | (obtain ⟨_, _, _, _, _, _, e, _⟩ := h; subst e; rfl) | (obtain ⟨_, _, _, _, _, _, _, e, _⟩ := h; subst e; rfl) | (obtain ⟨_, _, _, _, _, _, _, _, e, _⟩ := h; subst e; rfl)
  | (obtain ⟨_, _, _, _, _, _, _, _, _, e, _⟩ := h; subst e; rfl) | (obtain ⟨_, _, _, _, _, _, _, _, _, _, e, _⟩ := h; subst e; rfl) | (obtain ⟨_, _, _, _, _, _, _, _, _, _, _, e, _⟩ := h; subst e; rfl)))
local macro_rules | `(tactic| walk_at "hh") => `(tactic| first
  | assumption
  | exact L2.upd_same
  | (refine (L2.upd_ne (by walk_at "ne")).trans ?_; walk_at "hh")
  | (refine (‹L2.Same _ _› : L2.Same _ _) _ _ ?_; walk_at "hh"))
local macro_rules | `(tactic| walk_at "ne") => `(tactic| first
  | assumption
  | (apply Ne.symm; assumption)
  | exact L2.ne_of_none (by walk_at "hh") (by assumption)
  | exact (L2.ne_of_none (by walk_at "hh") (by assumption)).symm)
local macro_rules | `(tactic| walk_at "s") => `(tactic| first
  | refine ⟨_, rfl, ?_⟩
  | refine ⟨_, _, _, rfl, (by walk_at "hh"), ?_⟩
  | refine ⟨rfl, ?_⟩
  | refine ⟨_, _, rfl, rfl, ?_⟩)
local macro_rules | `(tactic| walk_at "isi int") => `(tactic| refine ⟨_, _, _, _, true, rfl, .ty "int", .base (.int _), L2.kit_ty (by decide +kernel), ?_⟩)
local macro_rules | `(tactic| walk_at "isi bool") => `(tactic| refine ⟨_, _, _, _, false, rfl, .ty "bool", .base (.int _), L2.kit_ty (by decide +kernel), ?_⟩)
local macro_rules | `(tactic| walk_at "isi tuple") => `(tactic| refine ⟨_, _, _, _, true, rfl, .ty "tuple", .base (.tup (by assumption)), L2.kit_ty (by decide +kernel), ?_⟩)
local macro_rules | `(tactic| walk_at "isi str") => `(tactic| refine ⟨_, _, _, _, true, rfl, .ty "str", .base (.str _), L2.kit_ty (by decide +kernel), ?_⟩)
local macro_rules | `(tactic| walk_at "v") => `(tactic| refine ⟨_, rfl, ?_⟩)
local macro_rules | `(tactic| walk_at "ii") => `(tactic| refine ⟨_, _, rfl, rfl, ?_⟩)
local macro_rules | `(tactic| walk_at "no") => `(tactic| (refine ⟨_, rfl, rfl, _, rfl, ?_⟩; refine K69.ifND (fun e => absurd (L2.V.str.inj e) (by decide +kernel)) ?_))
local macro_rules | `(tactic| walk_at "yes") => `(tactic| (refine ⟨_, rfl, rfl, _, rfl, ?_⟩; refine K69.ifD rfl ?_))
namespace K69
open PySem PySem.Spec PyProof.Rows L2
/-! ### the rows of a sheet -/
inductive Rw where
  | house (tab key : List Int)
  | door (z : Str) (near far most : Int)
  | button (z : Str) (step : Int)
  | teach (dn z : Str)
  | press (z : Str) (deed : Int) (dns : List Str)
  | play (num : Nat) (dn : Str)
  | lose (z : Str)
  | tear (z : Str)
  | turn (ks : List Int)
  | known (dn : Str)
  | now (z : Str)
/-- a row as the heap holds it -/
def RowV (H : Hp) (a : Addr) : Rw → Prop
  | .house tab key => ∃ t k : Addr, H a = some (.tup [.str "house", .ref t, .ref k]) ∧ H t = some (.tup (tab.map V.int)) ∧ H k = some (.tup (key.map V.int))
  | .door z n f m => H a = some (.tup [.str "door", .str z, .int n, .int f, .int m])
  | .button z s => H a = some (.tup [.str "button", .str z, .int s])
  | .teach d z => H a = some (.tup [.str "teach", .str d, .str z])
  | .press z deed dns => H a = some (.tup (.str "press" :: .str z :: .int deed :: dns.map V.str))
  | .play num dn => H a = some (.tup [.str "play", .int num, .str dn])
  | .lose z => H a = some (.tup [.str "lose", .str z])
  | .tear z => H a = some (.tup [.str "tear", .str z])
  | .turn ks => ∃ k : Addr, H a = some (.tup [.str "turn", .ref k]) ∧ H k = some (.tup (ks.map V.int))
  | .known dn => H a = some (.tup [.str "known", .str dn])
  | .now z => H a = some (.tup [.str "now", .str z])
theorem RowV.tk {H H' : Hp} {a : Addr} {r : Rw} (s : TupK H H') (h : RowV H a r) : RowV H' a r := by
  cases r with
  | house tab key => obtain ⟨t, k, h1, h2, h3⟩ := h; exact ⟨t, k, s _ _ h1, s _ _ h2, s _ _ h3⟩
  | turn ks => obtain ⟨k, h1, h2⟩ := h; exact ⟨k, s _ _ h1, s _ _ h2⟩
  | _ => exact s _ _ h
def Rw.word : Rw → Str
  | .house _ _ => "house"
  | .door _ _ _ _ => "door"
  | .button _ _ => "button"
  | .teach _ _ => "teach"
  | .press _ _ _ => "press"
  | .play _ _ => "play"
  | .lose _ => "lose"
  | .tear _ => "tear"
  | .turn _ => "turn"
  | .known _ => "known"
  | .now _ => "now"
theorem RowV.tup {H : Hp} {a : Addr} {r : Rw} (h : RowV H a r) : ∃ xs, H a = some (.tup (.str r.word :: xs)) := by
  cases r with
  | house tab key => obtain ⟨t, k, h1, h2, h3⟩ := h; exact ⟨_, h1⟩
  | turn ks => obtain ⟨k, h1, h2⟩ := h; exact ⟨_, h1⟩
  | _ => exact ⟨_, h⟩
/-- what a row does -/
def PH.next (p : PH) : Rw → PH
  | .door z n f m => { p with doors := p.doors ++ [⟨z, n, f, m, []⟩] }
  | .button z s => { p with btns := p.btns ++ [.new z s] }
  | .teach dn z => p.teach dn z
  | .press z deed dns => match fnd PB.name p.btns z with
    | none => p
    | some b => (p.po z deed).hears dns z b.cnt
  | .play num dn => match p.kept[num]? with
    | none => p
    | some t => p.hear dn t.1 t.2.1
  | .lose z => p.btn z PB.co
  | .tear z => p.btn z PB.ct
  | .turn _ => if p.nk < 8 then { p with nk := p.nk + 1 } else p
  | _ => p
/-- the answers of doors that hear a press, one behind another -/
def PH.anss (p : PH) (dns : List Str) (z : Str) (c : Int) : List (Option Str) := (List.range dns.length).map fun i => (p.hears (dns.take i) z c).ans (dns.getD i "") z c
/-- what a row is answered -/
def PH.Told (p : PH) (r : Rw) (t : Str) : Prop := match r with
  | .press z deed dns => ∃ b, fnd PB.name p.btns z = some b ∧ t = pressS p.kept.length (((p.po z deed).anss dns z b.cnt).map fun x => ansS x deed)
  | .play num dn => ∃ z c deed, p.kept[num]? = some (z, c, deed) ∧ t = ansS (p.ans dn z c) deed
  | .known dn => ∃ d es, fnd PD.nm p.doors dn = some d ∧ es.Perm d.es ∧ sortedS (es.map Prod.fst) = true ∧ t = knownS es
  | .now z => ∃ b, fnd PB.name p.btns z = some b ∧ t = btnS b
  | _ => True
/-- a row that the house can take -/
def PH.ok (p : PH) (r : Rw) : Prop := match r with
  | .house _ _ => False
  | .door z n f m => fnd PD.nm p.doors z = none ∧ p.doors.length < 12 ∧ m ≤ 12
  | .button z s => fnd PB.name p.btns z = none ∧ p.btns.length < 12 ∧ p.nk = 1 ∧ IsNm z ∧ 1 ≤ s ∧ s ≤ 64
  | .teach dn z => ∃ d b, fnd PD.nm p.doors dn = some d ∧ fnd PB.name p.btns z = some b ∧ (∀ e, e ∈ d.es → e.1 ≠ z) ∧ (d.es.length : Int) < d.most ∧ b.cnt ≤ 4000
  | .press z deed dns => (∃ b, fnd PB.name p.btns z = some b ∧ b.cnt < 4096) ∧ (0 ≤ deed ∧ deed < 16) ∧ (∀ dn, dn ∈ dns → (fnd PD.nm p.doors dn).isSome = true) ∧ dns.length ≤ 10
  | .play num dn => (∃ d, fnd PD.nm p.doors dn = some d) ∧ num < p.kept.length
  | .lose z => ∃ b, fnd PB.name p.btns z = some b
  | .tear z => ∃ b, fnd PB.name p.btns z = some b
  | .turn _ => True
  | .known dn => ∃ d, fnd PD.nm p.doors dn = some d
  | .now z => ∃ b, fnd PB.name p.btns z = some b
theorem word_len (c l n f : Int) : (wordS c l n f).length ≤ 100 := by
  unfold wordS
  split
  · decide
  · split
    · decide
    · split <;> decide
theorem ans_len (p : PH) (dn z : Str) (c : Int) : ∀ y, p.ans dn z c = some y → y.length ≤ 100 := by
  intro y hy
  unfold PH.ans at hy
  split at hy
  · cases hy
  · unfold hearA at hy
    split at hy
    · rw [← Option.some.inj hy]; decide
    · unfold hearE at hy
      split at hy
      · cases hy
      · split at hy
        · rw [← Option.some.inj hy]; exact word_len _ _ _ _
        · rw [← Option.some.inj hy]; exact word_len _ _ _ _
theorem fnd_none_map {α β : Type} {nm : α → Str} {nb : β → Str} {f : α → β} (hf : ∀ x, nb (f x) = nm x) {l : List α} {z : Str} (h : fnd nb (l.map f) z = none) : fnd nm l z = none := by
  rw [fnd_map hf] at h
  cases e : fnd nm l z with
  | none => rfl
  | some x => rw [e] at h; cases h
def tMtX {α : Type} (C : Addr) (fr : α → List (Str × V)) (sp : Sp) (E : XK) (ta : TE) (t : TA) : TE := fun σ H Q => ta σ H fun x H1 => ∃ (a dx : Addr) (r : α), x = V.ref a ∧ H1 a = some (.ins C dx (fr r)) ∧ t σ H1 fun vs H2 => sp (x :: vs) H2 Q E
theorem pe_mtX {α : Type} {X : Cx} {o e : Expr} {m : Str} {pos apos : Pos} {ta : TE} {C : Addr} {fr : α → List (Str × V)} {k : Nat} {ps : List Str} {sp : Sp} {es : List Expr} {t : TA} {E : XK} {pl : Sem Bool} (F : CalMX X.prog X.w X.K X.mg X.base C m k ps sp) (c : Cls X.K C) (hl : ∀ r, (fr r).lookup m = none) (hr : Room k X.A)
    (hx : Passes (L2N.CX X.prog X.w) X E) (ho : PE X o ta) (ha : PA X (e :: es) t)
    (hst : starEach (e :: es) X.env = (false, eval e X.env) :: starEach es X.env := by rfl) (hpl : (backTo pos (starEach es X.env)).any (·.1) = false := by rfl)
    (ht : eval (.Call (.Attribute o m apos) (e :: es) [] pos) X.env = (do
      let ov ← eval o X.env
      standAt apos.atName
      let (f, first) ← holding [ov] (getMethod ov m pl)
      callWith pos f first (backTo pos (starEach (e :: es) X.env)) (backToKw pos (keywordEach [] X.env))) := by rfl) : PE X (.Call (.Attribute o m apos) (e :: es) [] pos) (tMtX C fr sp E ta t) := by
  obtain ⟨f, fd, F, hm, b⟩ := F.ex
  refine ⟨fun pins s σ H Q I h => ?_⟩
  refine PySem.W.methodCall_KW (pl := pl) (thn (ho.run pins s σ H _ I h) fun u s1 ⟨x, H1, I1, rx, a, dx, r, ex, ea, q⟩ => ?_) ht
  subst ex
  obtain rfl : u = Value.ref a := rx
  refine getmeth_ok I1 ea c hm (hl r) ?_
  refine PySem.W.callWith_K (first := [.ref a]) (h₀ := X.base) I.ok.mod.kin hm.kp (thn (ha.run pos pins s1 σ H1 _ I1 q) fun us s2 ⟨vs, H2, I2, r, q2⟩ => ⟨I2.kIn, ?_⟩) hst hpl
  exact run_fn (us := .ref a :: us) (vs := .ref a :: vs) (dvs := []) F hr b .nil hx I2 (.cons rfl r) (by rw [List.append_nil]; exact q2)
section
variable {P : Program} {w : World} {K : PySem.W.Frag} {mg : Str → Option Value} {base : Heap}
theorem cut3 (x y z : V) (l : List V) : HT.sIx (x :: y :: z :: l).length 0 (some 3) = 3 := by
  show HT.sIx _ 0 (some ((3 : Nat) : Int)) = 3
  rw [HT.sIx_nat]
  show min 3 (l.length + 3) = 3
  omega
theorem cutV3 (x y z : V) (l : List V) : cutV (x :: y :: z :: l) (some 3) none = l := by
  unfold cutV
  rw [cut3, HT.sIx_none]
  exact List.take_of_length_le (Nat.le_refl _)
theorem anss_len (p : PH) (dns : List Str) (z : Str) (c : Int) : (p.anss dns z c).length = dns.length := by
  unfold PH.anss
  rw [List.length_map, List.length_range]
theorem anss_at {p : PH} {dns : List Str} {z : Str} {c : Int} {i : Nat} {dn : Str} (h : dns[i]? = some dn) : (p.anss dns z c)[i]? = some ((p.hears (dns.take i) z c).ans dn z c) := by
  have hl := (List.getElem?_eq_some_iff.mp h).1
  unfold PH.anss
  rw [List.getElem?_map, List.getElem?_eq_getElem (by rw [List.length_range]; exact hl), List.getElem_range]
  show some ((p.hears (dns.take i) z c).ans (dns.getD i "") z c) = _
  rw [List.getD, h] <;> rfl
def Rw.deed : Rw → Bool
  | .house _ _ => false
  | .known _ => false
  | .now _ => false
  | _ => true
def spDeed (K : PySem.W.Frag) : Sp := fun vs H Q E => ∃ (h : HouseR) (tab key : List Int) (a : Addr) (r : Rw), vs = [.ref h.p, .ref a] ∧ HouseAt K none H tab key h ∧ RowV H a r ∧ h.pu.ok r ∧ r.deed = true ∧ h.n ≤ 8000 ∧
  (∀ (t : Str) (h' : HouseR) (H' : Hp), Nx K H H' tab key h h' 30 → h'.pu = h.pu.next r → h.pu.Told r t → Q (.str t) H') ∧ (h.pu.next r = h.pu → (∀ t, h.pu.Told r t) → E (.ref (He.ga K "TooMany")) none H)
abbrev N_deedDone : List Str := ["house", "row", "word"]
theorem sc_deedDone : FnScope N_deedDone ["house", "row"] (defScope s_deedDone) := ⟨rfl, rfl, rfl, by decide +kernel, rfl, by decide +kernel, by decide +kernel⟩
theorem c_deedDone (T : Tx P w K mg base) : CalX P w K mg base "deed_done" 8 ["house", "row"] (spDeed K) := by
  refine calX_mk T.df_deedDone T.g_deedDone sc_deedDone (fun _ _ _ _ _ _ us hl => match us, hl with | [_, _], _ => rfl) ?len (fun f cdv A outer s H vs Q E hr h => ?body)
  case len => walk_at "len"
  have nd := sc_deedDone.nd
  refine ⟨_, (pss_cons (ps_set (i := 2) nd rfl (Or.inl rfl) (pe_ix ix_tup (pv 1) pe_int (fun _ _ => rfl)))
    (pss_cons (ps_if (pt_cmpR op_eq (pv 2) pe_str (nomark _)) (pss_one (ps_ret (pe_c (c_pressedText T) (hr.mono (by decide)) (pa_cons (pe_mt (c_House_PressButton T) T.cls_House lm_House_PressButton (hr.mono (by decide)) (pv 0) (pa_cons (pe_ix ix_tup (pv 1) pe_int (fun _ _ => rfl)) (pa_cons (pe_ix ix_tup (pv 1) pe_int (fun _ _ => rfl)) (pa_cons (pe_slice sl_tupA (pv 1) (po_some pe_int) po_none) pa_nil)))) pa_nil)))) pss_nil)
    (pss_cons (ps_if (pt_cmpR op_eq (pv 2) pe_str (nomark _)) (pss_one (ps_ret (pe_c (c_answerText T) (hr.mono (by decide)) (pa_cons (pe_mt (c_House_PlayKept T) T.cls_House lm_House_PlayKept (hr.mono (by decide)) (pv 0) (pa_cons (pe_ix ix_tup (pv 1) pe_int (fun _ _ => rfl)) (pa_cons (pe_ix ix_tup (pv 1) pe_int (fun _ _ => rfl)) pa_nil))) pa_nil)))) pss_nil)
    (pss_cons (ps_if (pt_cmpR op_eq (pv 2) pe_str (nomark _)) (pss_one (ps_expr (pe_mt (c_House_AddDoor T) T.cls_House lm_House_AddDoor (hr.mono (by decide)) (pv 0) (pa_cons (pe_ix ix_tup (pv 1) pe_int (fun _ _ => rfl)) (pa_cons (pe_ix ix_tup (pv 1) pe_int (fun _ _ => rfl)) (pa_cons (pe_ix ix_tup (pv 1) pe_int (fun _ _ => rfl)) (pa_cons (pe_ix ix_tup (pv 1) pe_int (fun _ _ => rfl)) pa_nil))))))) (pss_one (ps_if (pt_cmpR op_eq (pv 2) pe_str (nomark _)) (pss_one (ps_expr (pe_mt (c_House_AddButton T) T.cls_House lm_House_AddButton (hr.mono (by decide)) (pv 0) (pa_cons (pe_ix ix_tup (pv 1) pe_int (fun _ _ => rfl)) (pa_cons (pe_ix ix_tup (pv 1) pe_int (fun _ _ => rfl)) pa_nil))))) (pss_one (ps_if (pt_cmpR op_eq (pv 2) pe_str (nomark _)) (pss_one (ps_expr (pe_mt (c_House_Teach T) T.cls_House lm_House_Teach (hr.mono (by decide)) (pv 0) (pa_cons (pe_ix ix_tup (pv 1) pe_int (fun _ _ => rfl)) (pa_cons (pe_ix ix_tup (pv 1) pe_int (fun _ _ => rfl)) pa_nil))))) (pss_one (ps_if (pt_cmpR op_eq (pv 2) pe_str (nomark _)) (pss_one (ps_expr (pe_mt (c_House_LoseCell T) T.cls_House lm_House_LoseCell (hr.mono (by decide)) (pv 0) (pa_cons (pe_ix ix_tup (pv 1) pe_int (fun _ _ => rfl)) pa_nil)))) (pss_one (ps_if (pt_cmpR op_eq (pv 2) pe_str (nomark _)) (pss_one (ps_expr (pe_mt (c_House_TearCell T) T.cls_House lm_House_TearCell (hr.mono (by decide)) (pv 0) (pa_cons (pe_ix ix_tup (pv 1) pe_int (fun _ _ => rfl)) pa_nil)))) (pss_one (ps_if (pt_cmpR op_eq (pv 2) pe_str (nomark _)) (pss_one (ps_expr (pe_mtX (c_House_TurnHouse T) T.cls_House lm_House_TurnHouse (hr.mono (by decide)) (L2N.passes_call (L2N.takes_of rfl rfl rfl rfl) (fun _ _ _ _ h => h)) (pv 0) (pa_cons (pe_ix ix_tup (pv 1) pe_int (fun _ _ => rfl)) pa_nil)))) (pss_one (ps_if (pt_cmpR op_eq (pv 2) pe_str (nomark _)) (pss_one ps_never) (pss_one (ps_if (pt_cmpR op_eq (pv 2) pe_str (nomark _)) (pss_one ps_never) (pss_one ps_never))))))))))))))))
    (pss_one (ps_ret (pe_gs T.z_DONE))))))), ?_⟩
  obtain ⟨h, tab, key, a, r, rfl, hh, hr0, hok, hde, hn, q, qe⟩ := h
  obtain ⟨xs, hxs⟩ := hr0.tup
  obtain ⟨wd, hwd⟩ : ∃ wd, wd = r.word := ⟨_, rfl⟩
  rw [← hwd] at hxs
  refine ⟨_, rfl, a, _, _, V.str wd, rfl, rfl, SqT.of hxs, at_of (j := 0) rfl rfl, ?_⟩
  have nx : ∀ {m : Nat} {h' : HouseR} {H' : Hp}, m ≤ 30 → Nx K H H' tab key h h' m → Nx K H H' tab key h h' 30 := fun hm n => ⟨n.at_, n.fr, n.pp, Nat.le_trans n.nn (Nat.add_le_add_left hm _)⟩
  have hnn := hh.kn
  cases r with
  | house tab key => cases hde
  | known dn => cases hde
  | now z => cases hde
  | press z deed dns =>
    obtain ⟨⟨b, hb, hbc⟩, hdd, hds, hdl⟩ := hok
    have hr : H a = some (.tup (.str "press" :: .str z :: .int deed :: dns.map V.str)) := hr0
    obtain rfl : wd = "press" := hwd
    walk_at "yes"
    have s1 : SqT K H a (.str "press" :: .str z :: .int deed :: dns.map V.str) := SqT.of hr
    refine ⟨_, rfl, _, _, h.V, rfl, hh.ob, _, rfl, a, _, _, V.str z, rfl, rfl, s1, at_of (j := 1) rfl rfl, _, rfl, a, _, _, V.int deed, rfl, rfl, s1, at_of (j := 2) rfl rfl, _, rfl, _, rfl, a, _, rfl, s1, (fun x => absurd x.1 (by rw [cut3]; decide)), fun _ f hf => ?_⟩
    generalize e1 : upd H f _ = H1
    have sm : Same H H1 := by rw [← e1]; exact same_new hf
    have hf1 : H1 f = some (.tup (dns.map V.str)) := by rw [← e1, upd_same, cutV3]
    clear e1
    refine ⟨h, tab, key, z, deed, f, dns, b, rfl, hh.same sm, hb, hbc, hdd, hf1, hds, Nat.le_trans hdl (by decide), hn, fun r t2 rs h' H2 N hpu hr2 ht2 hrl hans => ?_⟩
    have hkl : h.kept.length = h.pu.kept.length := (List.length_map ..).symm
    refine ⟨r, t2, h.kept.length, rs, (h.pu.po z deed).anss dns z b.cnt, z, deed, rfl, hr2, ht2, by omega, (by rw [anss_len]; exact hrl), (by rw [anss_len]; omega), hdd, fun i x y h1 h2 => ?_, fun H3 s3 => ?_⟩
    · have hil : i < dns.length := by
        have := (List.getElem?_eq_some_iff.mp h2).1
        rw [anss_len] at this
        exact this
      have hdn := List.getElem?_eq_getElem hil
      rw [anss_at hdn] at h2
      rw [← Option.some.inj h2]
      exact ⟨hans i x _ h1 hdn, ans_len _ _ _ _⟩
    · refine q _ h' H3 (nx (m := 0 + (1 + 2 * dns.length)) (by omega) ((Nx.same hh sm (m := 0)).trans N |>.thenS s3)) ?_ ⟨b, hb, by rw [← hkl]⟩
      rw [hpu]
      show _ = (match fnd PB.name h.pu.btns z with
        | none => h.pu
        | some b => (h.pu.po z deed).hears dns z b.cnt)
      rw [hb]
  | play num dn =>
    obtain ⟨⟨d, hd⟩, hnum⟩ := hok
    have hr : H a = some (.tup [.str "play", .int num, .str dn]) := hr0
    obtain rfl : wd = "play" := hwd
    walk_at "no"
    walk_at "yes"
    have hk := List.getElem?_eq_getElem hnum
    generalize h.pu.kept[num] = tr at hk
    obtain ⟨z, c, deed⟩ := tr
    have hdd : 0 ≤ deed ∧ deed < 16 := by
      obtain ⟨⟨pa, tr⟩, hk2, hk3⟩ := map_get (f := Prod.snd) (l := h.kept) hk
      obtain rfl : (z, c, deed) = tr := hk3
      exact (hh.kpt _ (List.mem_of_getElem? hk2)).dd
    refine ⟨_, rfl, _, _, h.V, rfl, hh.ob, _, rfl, a, _, _, V.int num, rfl, rfl, SqT.of hr, rfl, _, rfl, a, _, _, V.str dn, rfl, rfl, SqT.of hr, rfl, h, tab, key, dn, num, d, z, c, deed, rfl, hh, hd, hk, by omega, fun r h' H2 N hpu ha => ?_⟩
    refine ⟨r, _, z, deed, rfl, ha, hdd, ans_len _ _ _ _, q _ h' H2 (nx (by decide) N) ?_ ⟨z, c, deed, hk, rfl⟩⟩
    rw [hpu]
    show _ = (match h.pu.kept[num]? with
        | none => h.pu
        | some t => h.pu.hear dn t.1 t.2.1)
    rw [hk]
  | door z n f m =>
    obtain ⟨hz, hdl, hm⟩ := hok
    have hr : H a = some (.tup [.str "door", .str z, .int n, .int f, .int m]) := hr0
    obtain rfl : wd = "door" := hwd
    walk_at "no"
    walk_at "no"
    walk_at "yes"
    refine ⟨_, rfl, _, _, h.V, rfl, hh.ob, _, rfl, a, _, _, V.str z, rfl, rfl, SqT.of hr, rfl, _, rfl, a, _, _, V.int n, rfl, rfl, SqT.of hr, rfl, _, rfl, a, _, _, V.int f, rfl, rfl, SqT.of hr, rfl, _, rfl, a, _, _, V.int m, rfl, rfl, SqT.of hr, rfl, ?_⟩
    refine ⟨h, tab, key, z, n, f, m, rfl, hh, fnd_none_map (nb := PD.nm) (f := DoorR.pu) (fun _ => rfl) hz, (by have e : h.pu.doors.length = h.doors.length := List.length_map ..; omega), hm, fun h' H2 N hpu => ?_⟩
    exact q _ h' H2 (nx (by decide) N) hpu trivial
  | button z s =>
    obtain ⟨hz, hbl, hnk, hnm, hs⟩ := hok
    have hr : H a = some (.tup [.str "button", .str z, .int s]) := hr0
    obtain rfl : wd = "button" := hwd
    walk_at "no"
    walk_at "no"
    walk_at "no"
    walk_at "yes"
    refine ⟨_, rfl, _, _, h.V, rfl, hh.ob, _, rfl, a, _, _, V.str z, rfl, rfl, SqT.of hr, rfl, _, rfl, a, _, _, V.int s, rfl, rfl, SqT.of hr, rfl, ?_⟩
    refine ⟨h, tab, key, z, s, rfl, hh, fnd_none_map (nb := PB.name) (f := BtnR.s) (fun _ => rfl) hz, (by have e : h.pu.btns.length = h.btns.length := List.length_map ..; omega), hnk, hnm, hs, fun h' H2 N hpu => ?_⟩
    exact q _ h' H2 (nx (by decide) N) hpu trivial
  | teach dn z =>
    obtain ⟨d, b, hd, hb, h1, h2, h3⟩ := hok
    have hr : H a = some (.tup [.str "teach", .str dn, .str z]) := hr0
    obtain rfl : wd = "teach" := hwd
    walk_at "no"
    walk_at "no"
    walk_at "no"
    walk_at "no"
    walk_at "yes"
    refine ⟨_, rfl, _, _, h.V, rfl, hh.ob, _, rfl, a, _, _, V.str dn, rfl, rfl, SqT.of hr, rfl, _, rfl, a, _, _, V.str z, rfl, rfl, SqT.of hr, rfl, ?_⟩
    refine ⟨h, tab, key, dn, z, d, b, rfl, hh, hd, hb, h1, h2, h3, hn, fun h' H2 N hpu => ?_⟩
    exact q _ h' H2 (nx (by decide) N) hpu trivial
  | lose z =>
    obtain ⟨b, hb⟩ := hok
    have hr : H a = some (.tup [.str "lose", .str z]) := hr0
    obtain rfl : wd = "lose" := hwd
    walk_at "no"
    walk_at "no"
    walk_at "no"
    walk_at "no"
    walk_at "no"
    walk_at "yes"
    refine ⟨_, rfl, _, _, h.V, rfl, hh.ob, _, rfl, a, _, _, V.str z, rfl, rfl, SqT.of hr, rfl, ?_⟩
    refine ⟨h, tab, key, z, b, rfl, hh, hb, fun h' H2 N hpu => ?_⟩
    exact q _ h' H2 (nx (by decide) N) hpu trivial
  | tear z =>
    obtain ⟨b, hb⟩ := hok
    have hr : H a = some (.tup [.str "tear", .str z]) := hr0
    obtain rfl : wd = "tear" := hwd
    walk_at "no"
    walk_at "no"
    walk_at "no"
    walk_at "no"
    walk_at "no"
    walk_at "no"
    walk_at "yes"
    refine ⟨_, rfl, _, _, h.V, rfl, hh.ob, _, rfl, a, _, _, V.str z, rfl, rfl, SqT.of hr, rfl, ?_⟩
    refine ⟨h, tab, key, z, b, rfl, hh, hb, fun h' H2 N hpu => ?_⟩
    exact q _ h' H2 (nx (by decide) N) hpu trivial
  | turn ks =>
    obtain ⟨k, hr, hk⟩ := hr0
    obtain rfl : wd = "turn" := hwd
    walk_at "no"
    walk_at "no"
    walk_at "no"
    walk_at "no"
    walk_at "no"
    walk_at "no"
    walk_at "no"
    walk_at "yes"
    refine ⟨_, rfl, _, _, h.V, rfl, hh.ob, _, rfl, a, _, _, V.ref k, rfl, rfl, SqT.of hr, rfl, ?_⟩
    refine ⟨h, tab, key, ks, k, rfl, hh, hk, by omega, fun hl h' H2 N hpu => ?_, fun hl => ?_⟩
    · refine q _ h' H2 (nx (by decide) N) ?_ trivial
      rw [hpu]
      show _ = (if h.pu.nk < 8 then { h.pu with nk := h.pu.nk + 1 } else h.pu)
      rw [if_pos (show h.pu.nk < 8 from hl)]
    · refine qe ?_ (fun _ => trivial)
      show (if h.pu.nk < 8 then { h.pu with nk := h.pu.nk + 1 } else h.pu) = h.pu
      rw [if_neg (show ¬ h.pu.nk < 8 from by show ¬ h.keys.length < 8; omega)]
end
end K69
end
section
set_option Elab.async false
set_option linter.all false
set_option maxRecDepth 100000
set_option maxHeartbeats 4000000
local macro_rules | `(tactic| walk_at "len") => `(tactic| (intro vs H Q E h; first
  | (obtain ⟨e, _⟩ := h; subst e; rfl) | (obtain ⟨_, e, _⟩ := h; subst e; rfl) | (obtain ⟨_, _, e, _⟩ := h; subst e; rfl) | (obtain ⟨_, _, _, e, _⟩ := h; subst e; rfl) | (obtain ⟨_, _, _, _, e, _⟩ := h; subst e; rfl)
  | (obtain ⟨_, _, _, _, _, e, _⟩ := h; subst e; rfl) | (obtain ⟨_, _, _, _, _, _, e, _⟩ := h; subst e; rfl) | (obtain ⟨_, _, _, _, _, _, _, e, _⟩ := h; subst e; rfl) | (obtain ⟨_, _, _, _, _, _, _, _, e, _⟩ := h; subst e; rfl)
  | (obtain ⟨_, _, _, _, _, _, _, _, _, e, _⟩ := h; subst e; rfl) | (obtain ⟨_, _, _, _, _, _, _, _, _, _, e, _⟩ := h; subst e; rfl) | (obtain ⟨_, _, _, _, _, _, _, _, _, _, _, e, _⟩ := h; subst e; rfl)))
local macro_rules | `(tactic| walk_at "hh") => `(tactic| first
  | assumption
  | exact L2.upd_same
  | (refine (L2.upd_ne (by walk_at "ne")).trans ?_; walk_at "hh")
  | (refine (‹L2.Same _ _› : L2.Same _ _) _ _ ?_; walk_at "hh"))
local macro_rules | `(tactic| walk_at "ne") => `(tactic| first
  | assumption
  | (apply Ne.symm; assumption)
  | exact L2.ne_of_none (by walk_at "hh") (by assumption)
  | exact (L2.ne_of_none (by walk_at "hh") (by assumption)).symm)
local macro_rules | `(tactic| walk_at "s") => `(tactic| first
  | refine ⟨_, rfl, ?_⟩
  | refine ⟨_, _, _, rfl, (by walk_at "hh"), ?_⟩
  | refine ⟨rfl, ?_⟩
  | refine ⟨_, _, rfl, rfl, ?_⟩)
local macro_rules | `(tactic| walk_at "isi int") => `(tactic| refine ⟨_, _, _, _, true, rfl, .ty "int", .base (.int _), L2.kit_ty (by decide +kernel), ?_⟩)
local macro_rules | `(tactic| walk_at "isi bool") => `(tactic| refine ⟨_, _, _, _, false, rfl, .ty "bool", .base (.int _), L2.kit_ty (by decide +kernel), ?_⟩)
local macro_rules | `(tactic| walk_at "isi tuple") => `(tactic| refine ⟨_, _, _, _, true, rfl, .ty "tuple", .base (.tup (by assumption)), L2.kit_ty (by decide +kernel), ?_⟩)
local macro_rules | `(tactic| walk_at "isi str") => `(tactic| refine ⟨_, _, _, _, true, rfl, .ty "str", .base (.str _), L2.kit_ty (by decide +kernel), ?_⟩)
local macro_rules | `(tactic| walk_at "v") => `(tactic| refine ⟨_, rfl, ?_⟩)
local macro_rules | `(tactic| walk_at "ii") => `(tactic| refine ⟨_, _, rfl, rfl, ?_⟩)
namespace K69
open PySem PySem.Spec PyProof.Rows L2
/-! ### isinstance of the error that is handled, behind a call -/
theorem call_isP {X : Cx} {a D : Addr} {oe : Obj} (hm : (a, oe) ∈ X.pn) (hc : ExcC X.K D) (hz : Zc (.ref D) none oe) (hf : ∃ fs, oe.data = .fields fs) : CallR X (.builtin "isinstance") (rIsE X.K D a) := by
  intro ps s0 σ0 H0 vals us Qk Iv rv hh
  obtain ⟨cc, cval, bb, rfl, hall, hk, hq⟩ := hh
  cases rv with
  | cons ra rest =>
    cases rest with
    | cons rb rest2 =>
      cases rest2
      cases ra
      have ecv := hall _ rb
      subst ecv
      have there := (Iv.pin (a, oe) (List.mem_append.mpr (.inl hm))).1
      obtain ⟨fs, hfs⟩ := hf
      have inst : PySem.W.InstAt s0.heap a oe D none := by
        obtain ⟨kc, kd, kdata, ks⟩ := oe
        obtain ⟨z1, z2⟩ := hz
        dsimp only at z1 z2 hfs
        subst z1 z2 hfs
        exact ⟨there, rfl, rfl, trivial⟩
      have kx := PySem.W.handS_kitx_exc (x := a) (ox := oe) hc.hg hc.hk hc.hs hc.hd hc.ha hc.hn hc.ht hc.hm
      exact PySem.W.kia_one kx Iv.kIn inst hk (fun z => nomatch z) fun t1 => ⟨V.bl bb, H0, Iv.kept (t' := t1) fun _ _ z => z, rfl, hq⟩
theorem takes0N {X : Cx} : L2N.Takes X (fun _ _ _ _ => False) := fun _ _ xe => by
  obtain ⟨_, _, _, _, _, _, _, _, _, _, _, _, _, _, _, _, no⟩ := xe
  exact no.elim
/-- a def of one parameter, called in an except suite with the error itself, that gives a text -/
def FnE (P : Program) (w : World) (K : PySem.W.Frag) (mg : Str → Option Value) (base : Heap) (D : Addr) (k : Nat) (f : Addr) (fd : FuncData) (ps : List Str) (z : Str) : Prop :=
  ∀ (A : Around) (outer : List Env) (s : Shared) (H : Hp) (args : Args) (p : Addr × Obj) (Q : VK) (E : XK), L2H.RoomH k A → L2H.Hot1 A p → Zc (.ref D) none p.2 → L2H.PinOk outer H s p → Env0 P w K mg base A outer s H → BindsTo s fd args (ps.zip [.ref p.1]) → Q (.str z) H →
    codeAny (model P w) A (.call (.ref f) args) (CR CX0 outer P w H s Q E) s
structure CalE (P : Program) (w : World) (K : PySem.W.Frag) (mg : Str → Option Value) (base : Heap) (x : Str) (D : Addr) (k : Nat) (z : Str) : Prop where
  ex : ∃ (f : Addr) (fd : FuncData) (q : Str), FnE P w K mg base D k f fd [q] z ∧ mg x = some (.ref f) ∧ PySem.W.keepIn K (.ref f) = true ∧ Binds K fd [q] []
theorem calE_mk {P : Program} {w : World} {K : PySem.W.Frag} {mg : Str → Option Value} {base : Heap} {x nm qual q z : Str} {D : Addr} {st : Stmt} {N : List Str} {k : Nat} (hd : ∃ fd, FunD K nm qual (defArgs st) (defBody st) (defScope st) [] [] (He.fAd K (x, none)) fd) (hm : mg x = some (.ref (He.ga K x))) (S : FnScope N [q] (defScope st))
    (hb : ∀ (kV doc pm : Value) (an : Option Addr) (cdv ct : Value) (us : List Value), us.length = [q].length → bindArgs (PySem.W.fnOf nm qual (defArgs st) (defBody st) (defScope st) .none kV doc pm an cdv ct) ⟨us, []⟩ = pure ([q].zip us))
    (hbody : ∀ (f : Addr) (cdv : Value) (A : Around) (outer : List Env) (s : Shared) (H : Hp) (Q : VK) (E : XK) (p : Addr × Obj), L2H.Hot1 A p → Zc (.ref D) none p.2 → L2H.RoomH k (A.deeper (envOfC qual (defScope st) s.heap.objs.size f cdv)) → Q (.str z) H →
      ∃ t, PSs (L2H.cxH CX0 P w K mg base N qual (defScope st) f cdv A outer s H E p) (defBody st) t ∧ t { nx := fun _ H' => Q .non H', rt := Q } (L2.start N [.ref p.1]) H) : CalE P w K mg base x D (k + 1) z := by
  obtain ⟨fd, F⟩ := hd
  refine ⟨_, fd, q, ?_, hm, F.kp, F.bindsN hb⟩
  obtain ⟨_, _, _, _, _, _, _, cdv, _, _, rfl, look, hcode, _, _⟩ := F.ex
  intro A outer s H args p Q E room hot hz pinned envs bnd hQ
  have stays : ∀ b o, _ → s.heap.get? b = some o := fun b o e => (envs.bs b o e).1
  have inK : K.In s.heap := envs.mod.kin.keeps stays
  have nolim : s.heap.NoLimit := envs.mod.nolimit.keeps stays
  have rels : Vals [V.ref p.1] [Value.ref p.1] := .cons rfl .nil
  refine codeAny_call_function room.depth (inK _ _ look) rfl S.co S.gen rfl (PySem.W.codeRec_of inK hcode) (bnd _ _ _ _ ?_)
  refine wpAny_newFunctionEnv_cells S.kind (fun ⟨y, v⟩ hy => ?_) fun env he s1 made => ?_
  · rcases S.par y (List.of_mem_zip hy).1 with loc | cell
    · exact .inl loc
    · exact .inr ⟨cell, PySem.W.cellsFrom_some _ _ _ (.inl cell)⟩
  subst he
  refine ⟨nolim.keeps made.toInCall.keep, codeAny_func ?_⟩
  obtain ⟨t, ht, hread⟩ := hbody _ cdv A outer s H Q E p hot hz (room.deeper _) hQ
  have start := L2H.inv_startH (CX := CX0) (f := He.ga K x) (E := E) S pinned envs rfl rels made
  refine wpAny_mono (ht.run [] s1 _ H _ start hread) (fun fl s2 out => ?_) fun _ _ out => out
  have done : ∀ {σ' : L2.St} {H' : Hp} {v : V} {u : Value}, Inv (L2H.cxH CX0 P w K mg base N qual (defScope st) (He.ga K x) cdv A outer s H E p) [] σ' H' s2 → RelV v u → Q v H' → CE outer P w H s Q u s2 := fun {_ H'} {v} {_} J rv qv => ⟨v, H', J.os, J.bare, J.base, J.hok, rv, qv⟩
  cases fl with
  | ret u => obtain ⟨_, _, _, J, rv, qv⟩ := out; exact done J rv qv
  | next => obtain ⟨_, _, J, qv⟩ := out; exact done (v := V.non) (u := Value.none) J rfl qv
  | brk => obtain ⟨_, _, _, no⟩ := out; exact no.elim
  | cont => obtain ⟨_, _, _, no⟩ := out; exact no.elim
def tCallE (a : Addr) (cls : Value) (d : Option Addr) (D : Addr) (z : Str) (t : TA) : TE := fun σ H Q => t σ H fun vs H1 => vs = [V.ref a] ∧ cls = .ref D ∧ d = none ∧ Q (.str z) H1
theorem pe_cE {X : Cx} {a D : Addr} {oe : Obj} {cls : Value} {d : Option Addr} {pn : List (Addr × Obj)} {k : Nat} {x z : Str} {p pos : Pos} {e : Expr} {t : TA} (F : CalE X.prog X.w X.K X.mg X.base x D k z) (hr : L2H.RoomH k X.A) (hz : L2N.Zn cls d oe) (hf : ∃ fs, oe.data = .fields fs)
    (ha : PA (X.suite a ((a, oe) :: pn)) [e] t) (hg : Gl (X.suite a ((a, oe) :: pn)) x := by rfl) (hdb : (x == ("__debug__" : Str)) = false := by decide)
    (he : starEach [e] X.env = (false, eval e X.env) :: starEach [] X.env := by rfl) (hpl : (backTo pos (starEach [] X.env)).any (·.1) = false := by rfl) :
    PE (X.suite a ((a, oe) :: pn)) (.Call (.Name x p) [e] [] pos) (tCallE a cls d D z t) := by
  obtain ⟨f, fd, q, F, hm, kp, b⟩ := F.ex
  refine ⟨fun pins s σ H Q I h => ?_⟩
  refine wpAny_Call_Name_kw (ld_glob I hg hm ?_ hdb)
  refine PySem.W.callWith_K (h₀ := X.base) I.ok.mod.kin kp (thn (ha.run pos pins s σ H _ I h) fun us s1 ⟨vs, H1, I1, r, ev, ec, ed, hq⟩ => ⟨I1.kIn, ?_⟩) he hpl
  subst ev ec ed
  obtain ⟨fs, hfs⟩ := hf
  have hot : L2H.Hot1 (X.suite a ((a, oe) :: pn)).A (a, oe) := ⟨rfl, fs, hfs, hz.2.2 fs hfs⟩
  have pinA := I1.pin (a, oe) (List.mem_append_left _ List.mem_cons_self)
  have pinned : L2H.PinOk X.stack H1 s1 (a, oe) := ⟨pinA.1, pinA.2.1, fun hin => (List.mem_cons.mp (I1.stkSub a hin)).elim pinA.2.2.1 pinA.2.2.2.1, pinA.2.2.2.2⟩
  have eu : us = [Value.ref a] := by
    cases r with
    | cons r1 r2 => cases r2; cases r1; rfl
  subst eu
  have hbind := b s1 [Value.ref a] I1.kIn rfl
  refine wpAny_call (codeAny_mono (F _ X.stack s1 H1 ⟨[Value.ref a], []⟩ (a, oe) Q E0 ⟨hr.dp, hr.un⟩ hot hz.zc pinned I1.env0 hbind hq) fun res s2 out => ?_)
  cases res with
  | error e => exact out.elim
  | ok fl =>
    cases fl with
    | ret u => exact I1.after out
    | next => exact out.elim
    | brk => exact out.elim
    | cont => exact out.elim
theorem pe_cX {X : Cx} {k : Nat} {ps : List Str} {sp : Sp} {x : Str} {p pos : Pos} {e : Expr} {es : List Expr} {t : TA} {W : WX} (F : CalX X.prog X.w X.K X.mg X.base x k ps sp) (hr : Room k X.A) (tk : L2N.Takes X W) (ha : PA X (e :: es) t) (hg : Gl X x := by rfl) (hdb : (x == ("__debug__" : Str)) = false := by decide)
    (he : starEach (e :: es) X.env = (false, eval e X.env) :: starEach es X.env := by rfl) (hpl : (backTo pos (starEach es X.env)).any (·.1) = false := by rfl) : PE X (.Call (.Name x p) (e :: es) [] pos) (tCallS sp (WE W) t) := by
  obtain ⟨f, fd, F, m, kp, b⟩ := F.ex
  exact pe_callS F hr hg m kp b (fun σ => L2N.passAt tk σ) ha hdb he hpl
section
variable {P : Program} {w : World} {K : PySem.W.Frag} {mg : Str → Option Value} {base : Heap}
theorem joinL_len (S : List Nat) : ∀ ps : List (List Nat), (TL.joinL S ps).length ≤ (ps.map List.length).sum + ps.length * S.length
  | [] => Nat.zero_le _
  | [a] => by simp [TL.joinL]
  | a :: b :: r => by
    have ih := joinL_len S (b :: r)
    have e : TL.joinL S (a :: b :: r) = a ++ (S ++ TL.joinL S (b :: r)) := rfl
    rw [e, List.length_append, List.length_append, List.map_cons, List.sum_cons, List.length_cons, Nat.succ_mul]
    omega
theorem join_len (y : Str) (ps : List Str) : (Txt.join y ps).length ≤ (ps.map (·.length)).sum + ps.length * y.length := by
  rw [TL.join_eq, TL.len_tl, TL.tl_join]
  have h := joinL_len (TL.tl y) (ps.map TL.tl)
  rw [List.map_map, List.length_map] at h
  exact h
abbrev N_classTold : List Str := ["refusal"]
theorem sc_classTold : FnScope N_classTold ["refusal"] (defScope s_classTold) := ⟨rfl, rfl, rfl, by decide +kernel, rfl, by decide +kernel, by decide +kernel⟩
theorem c_classTold (T : Tx P w K mg base) : CalE P w K mg base "class_told" (He.ga K "TooMany") 1 "TooMany" := by
  refine calE_mk T.df_classTold T.g_classTold sc_classTold (fun _ _ _ _ _ _ us hl => match us, hl with | [_], _ => rfl) (fun f cdv A outer s H Q E p hot hz hr q => ?_)
  have hf : ∃ fs, p.2.data = .fields fs := hot.2.elim fun fs h => ⟨fs, h.1⟩
  have nd := sc_classTold.nd
  obtain ⟨k1, h2⟩ := He.ba T.ex5
  obtain ⟨k2, h3⟩ := He.ba h2
  obtain ⟨k3, h4⟩ := He.ba h3
  obtain ⟨k4, k5⟩ := He.ba h4
  refine ⟨_, (pss_cons (ps_if (pt_val (pe_callB (call_isP (a := p.1) (oe := p.2) List.mem_cons_self T.exC hz hf) (by rfl) T.f_isinstance (by decide +kernel) (pa_cons (pv 0) (pa_cons (pe_gr T.g_Worn) pa_nil)))) (pss_one (ps_ret pe_str)) pss_nil)
    (pss_cons (ps_if (pt_val (pe_callB (call_isP (a := p.1) (oe := p.2) List.mem_cons_self T.exC hz hf) (by rfl) T.f_isinstance (by decide +kernel) (pa_cons (pv 0) (pa_cons (pe_gr T.g_Known) pa_nil)))) (pss_one (ps_ret pe_str)) pss_nil)
    (pss_cons (ps_if (pt_val (pe_callB (call_isP (a := p.1) (oe := p.2) List.mem_cons_self T.exC hz hf) (by rfl) T.f_isinstance (by decide +kernel) (pa_cons (pv 0) (pa_cons (pe_gr T.g_Full) pa_nil)))) (pss_one (ps_ret pe_str)) pss_nil)
    (pss_cons (ps_if (pt_val (pe_callB (call_isP (a := p.1) (oe := p.2) List.mem_cons_self T.exC hz hf) (by rfl) T.f_isinstance (by decide +kernel) (pa_cons (pv 0) (pa_cons (pe_gr T.g_Unknown) pa_nil)))) (pss_one (ps_ret pe_str)) pss_nil)
    (pss_cons (ps_if (pt_val (pe_callB (call_isP (a := p.1) (oe := p.2) List.mem_cons_self T.exC hz hf) (by rfl) T.f_isinstance (by decide +kernel) (pa_cons (pv 0) (pa_cons (pe_gr T.g_TooMany) pa_nil)))) (pss_one (ps_ret pe_str)) pss_nil)
    (pss_cons ps_never (pss_one ps_never))))))), ?_⟩
  refine ⟨_, rfl, _, _, false, rfl, (fun u h => h), of_decide_eq_true k1, _, rfl, ?_⟩
  refine iteF ?_
  refine ⟨_, rfl, _, _, false, rfl, (fun u h => h), of_decide_eq_true k2, _, rfl, ?_⟩
  refine iteF ?_
  refine ⟨_, rfl, _, _, false, rfl, (fun u h => h), of_decide_eq_true k3, _, rfl, ?_⟩
  refine iteF ?_
  refine ⟨_, rfl, _, _, false, rfl, (fun u h => h), of_decide_eq_true k4, _, rfl, ?_⟩
  refine iteF ?_
  refine ⟨_, rfl, _, _, true, rfl, (fun u h => h), of_decide_eq_true k5, _, rfl, ?_⟩
  refine iteT ?_
  exact q
theorem rowS_len {e : Ent} {H : Hp} (hE : EntAt H e) : (rowS e.pu).length ≤ 100 := by
  have hnl : e.nm.length ≤ 8 := hE.nmo.hi
  have h0 := numS_len (i := 0) (by decide) (by decide)
  have hll := numS_len hE.lo (show e.last < 100000 by have := hE.hi; omega)
  unfold rowS
  refine Nat.le_trans (join_len _ _) ?_
  have e2 : e.pu.2.2 = e.w.map Prod.snd := rfl
  rw [e2]
  cases hw : e.w with
  | none =>
    show (e.nm.length + ((numS 0).length + ((numS e.last).length + 0))) + 3 * 1 ≤ 100
    omega
  | some p =>
    obtain ⟨_, hp0, hp1⟩ := hE.wa p hw
    have hpl := numS_len hp0 (show p.2 < 100000 by omega)
    have h6 : (numS 0 ++ ":" ++ numS p.2).length = (numS 0).length + 1 + (numS p.2).length := by
      rw [TL.len_tl, TL.tl_append, TL.tl_append, List.length_append, List.length_append, ← TL.len_tl, ← TL.len_tl] <;> rfl
    show (e.nm.length + ((numS 0).length + ((numS e.last).length + ((numS 0 ++ ":" ++ numS p.2).length + 0)))) + 4 * 1 ≤ 100
    rw [h6]
    omega
def spAsked (K : PySem.W.Frag) : Sp := fun vs H Q _ => ∃ (h : HouseR) (tab key : List Int) (a : Addr) (r : Rw), vs = [.ref h.p, .ref a] ∧ HouseAt K none H tab key h ∧ RowV H a r ∧ h.pu.ok r ∧ r.deed = false ∧ h.n ≤ 8000 ∧
  ∀ (t : Str) (H' : Hp), Same H H' → h.pu.Told r t → Q (.str t) H'
abbrev N_asked : List Str := ["house", "row", "word", "many", "one", "number"]
theorem sc_asked : FnScope N_asked ["house", "row"] (defScope s_asked) := ⟨rfl, rfl, rfl, by decide +kernel, rfl, by decide +kernel, by decide +kernel⟩
theorem c_asked (T : Tx P w K mg base) : Cal P w K mg base "asked" 5 ["house", "row"] (spAsked K) := by
  refine cal_mk T.df_asked T.g_asked sc_asked (fun _ _ _ _ _ _ us hl => match us, hl with | [_, _], _ => rfl) ?len (fun f cdv A outer s H vs Q E hr h => ?body)
  case len => walk_at "len"
  have nd := sc_asked.nd
  refine ⟨_, (pss_cons (ps_set (i := 2) nd rfl (Or.inl rfl) (pe_ix ix_tup (pv 1) pe_int (fun _ _ => rfl)))
    (pss_cons (ps_if (pt_cmpR op_eq (pv 2) pe_str (nomark _)) (pss_one (ps_ret (pe_c (c_manyText T) (hr.mono (by decide)) (pa_cons (pe_lc (own := [("one", 4)]) (g := gName 4) (tt := tYes) rfl nd (pi_tup (pe_mt0 (c_Door_KnownNow T) T.cls_Door lm_Door_KnownNow (hr.mono (by decide)) (pe_mt (c_House_DoorNow T) T.cls_House lm_House_DoorNow (hr.mono (by decide)) (pv 0) (pa_cons (pe_ix ix_tup (pv 1) pe_int (fun _ _ => rfl)) pa_nil)))) (blkOk_by (own := [("one", 4)]) (N := N_asked) (sc := defScope s_asked) (by decide +kernel)) (fun _ _ _ _ _ => (pg_name (i := 4) nd rfl (Or.inl rfl))) (fun _ _ _ _ _ => pts_nil) (fun _ _ _ _ _ => (pe_c (c_knownText T) (hr.mono (by decide)) (pa_cons (pv 4) pa_nil)))) (pa_cons pe_str pa_nil))))) pss_nil)
    (pss_cons (ps_if (pt_cmpR op_eq (pv 2) pe_str (nomark _)) (pss_one (ps_ret (pe_c (c_buttonText T) (hr.mono (by decide)) (pa_cons (pe_mt (c_House_ButtonNow T) T.cls_House lm_House_ButtonNow (hr.mono (by decide)) (pv 0) (pa_cons (pe_ix ix_tup (pv 1) pe_int (fun _ _ => rfl)) pa_nil)) pa_nil)))) pss_nil)
    (pss_cons ps_never (pss_cons ps_never (pss_cons ps_never (pss_one ps_never))))))), ?_⟩
  obtain ⟨h, tab, key, a, r, rfl, hh, hr0, hok, hde, hn, q⟩ := h
  cases r with
  | known dn =>
    obtain ⟨d, hd⟩ := hok
    have hr : H a = some (.tup [.str "known", .str dn]) := hr0
    refine ⟨_, rfl, a, _, _, V.str "known", rfl, rfl, SqT.of hr, rfl, ?_⟩
    refine ⟨_, rfl, rfl, _, rfl, ?_⟩
    refine ifD rfl ?_
    refine ⟨_, rfl, _, _, h.V, rfl, hh.ob, _, rfl, a, _, _, V.str dn, rfl, rfl, SqT.of hr, rfl, h, tab, key, dn, d, rfl, hh, hd, by omega, fun d2 H1 s1 hd2 he => ?_⟩
    refine ⟨_, _, d2.V, rfl, hd2.ob, d2, tab, key, h.n, rfl, hd2, fun r ts es H2 s2 hperm hsort hr2 hrows => ?_⟩
    have hel : es.length ≤ 12 := by rw [hperm.length_eq]; exact hd2.el
    have hent : ∀ e, e ∈ es → EntAt H2 e := fun e he => (hd2.ent e (hperm.mem_iff.mp he)).tk (.of s2)
    refine ⟨r, rfl, ⟨_, SqT.of hr2⟩, fun D hD => lcm_tup (SqT.of hr2) hD (by rw [List.length_map, hrows.1]; omega) (fun _ => rfl) (fun i => V.str ((es.map fun e => rowS e.pu).getD i "")) (fun i x H3 hi s3 Q2 k2 => ?_) (fun H3 s3 h3 => ?_)⟩
    · obtain ⟨t, ht, rfl⟩ := map_get hi
      have hil := (List.getElem?_eq_some_iff.mp ht).1
      have hx : es[i]? = some (es[i]'(by rw [← hrows.1]; exact hil)) := List.getElem?_eq_getElem _
      have hE := (hent _ (List.mem_of_getElem? hx)).tk (.of s3)
      have e : (es.map fun e => rowS e.pu).getD i "" = rowS (es[i]'(by rw [← hrows.1]; exact hil)).pu := by rw [List.getD, List.getElem?_map, hx] <;> rfl
      rw [e] at k2
      exact ⟨_, rfl, t, _, rfl, s3 _ _ (hrows.2 i t _ ht hx), hE, fun H4 s4 => k2 H4 s4⟩
    have hD3 : H3 D = some (.lst ((es.map fun e => rowS e.pu).map V.str)) := by
      rw [h3, List.length_map, hrows.1]
      have e := rng_get (es.map fun e => rowS e.pu) ("" : Str)
      rw [List.length_map] at e
      congr 2
      conv => rhs; rw [← e]
      rw [List.map_map] <;> rfl
    generalize hys : (es.map fun e => rowS e.pu) = ys at hD3
    refine ⟨D, " ; ", ys, rfl, SqL.of hD3, ?_, ?_⟩
    all_goals subst hys
    · have hs := sum_le (l := (es.map fun e => rowS e.pu).map (·.length)) (k := 100) (fun x hx => by
        obtain ⟨y, hy, rfl⟩ := List.mem_map.mp hx
        obtain ⟨o, ho, rfl⟩ := List.mem_map.mp hy
        exact rowS_len (hent o ho))
      rw [List.length_map, List.length_map] at hs
      rw [List.length_map]
      have h1 : (" ; " : Str).length = 3 := rfl
      rw [h1]
      omega
    · refine q _ H3 (s1.trans (s2.trans s3)) ⟨d, es.map Ent.pu, hd, ?_, ?_, ?_⟩
      · rw [← he]
        exact hperm.map _
      · rw [List.map_map]
        exact hsort
      · unfold knownS
        rw [List.map_map]
        cases es with
        | nil => rfl
        | cons e r => exact (if_neg (by simp)).trans (if_neg (by simp)).symm
  | now z =>
    obtain ⟨b, hb⟩ := hok
    have hr : H a = some (.tup [.str "now", .str z]) := hr0
    refine ⟨_, rfl, a, _, _, V.str "now", rfl, rfl, SqT.of hr, rfl, ?_⟩
    refine ⟨_, rfl, rfl, _, rfl, ?_⟩
    refine ifND (fun e => absurd (V.str.inj e) (by decide +kernel)) ?_
    refine ⟨_, rfl, rfl, _, rfl, ?_⟩
    refine ifD rfl ?_
    obtain ⟨b', hg, e⟩ := fnd_bpu hb
    have B := (hh.brs b' (fnd_ok hg).1).at_.ok
    rw [e] at B
    have hB := B.hi
    have hC := B.mid
    refine ⟨_, rfl, _, _, h.V, rfl, hh.ob, _, rfl, a, _, _, V.str z, rfl, rfl, SqT.of hr, rfl, h, tab, key, z, b, rfl, hh, hb, fun r c H1 s1 hr1 hc1 => ?_⟩
    exact ⟨r, c, b, rfl, hr1, hc1, ⟨B.lo, by omega⟩, (fun i hi => ⟨(B.le0 i hi).1, by have := (B.le0 i hi).2; omega⟩), (fun i hi => ⟨(B.le1 i hi).1, by have := (B.le1 i hi).2; omega⟩), fun H2 s2 => q _ H2 (s1.trans s2) ⟨b, hb, rfl⟩⟩
  | house _ _ => exact hok.elim
  | _ => cases hde
abbrev askWords : List V := [V.str "known", V.str "now", V.str "opened", V.str "apart", V.str "needs", V.str "log"]
theorem inV_word {p : PH} {r : Rw} (h : p.ok r) : inV (V.str r.word) askWords = !r.deed := by
  cases r with
  | house _ _ => exact h.elim
  | door _ _ _ _ => exact (by decide +kernel : inV (V.str "door") askWords = false)
  | button _ _ => exact (by decide +kernel : inV (V.str "button") askWords = false)
  | teach _ _ => exact (by decide +kernel : inV (V.str "teach") askWords = false)
  | press _ _ _ => exact (by decide +kernel : inV (V.str "press") askWords = false)
  | play _ _ => exact (by decide +kernel : inV (V.str "play") askWords = false)
  | lose _ => exact (by decide +kernel : inV (V.str "lose") askWords = false)
  | tear _ => exact (by decide +kernel : inV (V.str "tear") askWords = false)
  | turn _ => exact (by decide +kernel : inV (V.str "turn") askWords = false)
  | known _ => exact (by decide +kernel : inV (V.str "known") askWords = true)
  | now _ => exact (by decide +kernel : inV (V.str "now") askWords = true)
theorem next_ask {p : PH} {r : Rw} (h : r.deed = false) : p.next r = p := by
  cases r <;> first | rfl | cases h
def spAnswer (K : PySem.W.Frag) : Sp := fun vs H Q _ => ∃ (h : HouseR) (tab key : List Int) (a : Addr) (r : Rw), vs = [.ref h.p, .ref a] ∧ HouseAt K none H tab key h ∧ RowV H a r ∧ h.pu.ok r ∧ h.n ≤ 8000 ∧
  ∀ (t : Str) (h' : HouseR) (H' : Hp), Nx K H H' tab key h h' 30 → h'.pu = h.pu.next r → h.pu.Told r t → Q (.str t) H'
abbrev N_answerTo : List Str := ["house", "row", "refusal", "told"]
theorem sc_answerTo : FnScope N_answerTo ["house", "row"] (defScope s_answerTo) := ⟨rfl, rfl, rfl, by decide +kernel, rfl, by decide +kernel, by decide +kernel⟩
theorem c_answerTo (T : Tx P w K mg base) : Cal P w K mg base "answer_to" 9 ["house", "row"] (spAnswer K) := by
  refine cal_mk T.df_answerTo T.g_answerTo sc_answerTo (fun _ _ _ _ _ _ us hl => match us, hl with | [_, _], _ => rfl) ?len (fun f cdv A outer s H vs Q E hr h => ?body)
  case len => walk_at "len"
  have nd := sc_answerTo.nd
  refine ⟨_, (pss_cons (L2N.ps_try_as (i := 2) rfl rfl nd rfl rfl ⟨rfl, by decide, .inl T.g_CodeError⟩ takes0N (fun W pn xe tk _ => (pss_one (ps_if (pt_cmpR (r := rIn K false) op_in_seq (pe_ix (r := rIxT K) ix_tup (pv 1) pe_int (fun _ _ => rfl)) (pe_tup (pa_cons pe_str (pa_cons pe_str (pa_cons pe_str (pa_cons pe_str (pa_cons pe_str (pa_cons pe_str pa_nil))))))) (by with_unfolding_all rfl)) (pss_one (ps_set (i := 3) nd rfl (Or.inl rfl) (pe_c (c_asked T) (hr.mono (by decide)) (pa_cons (pv 0) (pa_cons (pv 1) pa_nil))))) (pss_one (ps_set (i := 3) nd rfl (Or.inl rfl) (pe_cX (c_deedDone T) (hr.mono (by decide)) tk (pa_cons (pv 0) (pa_cons (pv 1) pa_nil)))))))) (fun a oe cls d pn hz hf => (pss_one (ps_set (i := 3) nd rfl (Or.inl rfl) (pe_op op_add_str pe_str (pe_cE (c_classTold T) ⟨(Room.mono (j := 1) hr (by decide)).dp, (Room.mono (j := 1) hr (by decide)).un⟩ hz hf (pa_cons (pv 2) pa_nil)))))))
    (pss_one (ps_ret (pv 3)))), ?_⟩
  obtain ⟨h, tab, key, a, r, rfl, hh, hr0, hok, hn, q⟩ := h
  obtain ⟨xs, hxs⟩ := hr0.tup
  refine ⟨_, rfl, a, _, _, V.str r.word, rfl, rfl, SqT.of hxs, at_of (j := 0) rfl rfl, ?_⟩
  refine ⟨(by show 6 ≤ sizeLine; decide), fun u hu => ?_⟩
  generalize e1 : upd H u _ = H1
  have s1 : Same H H1 := by rw [← e1]; exact same_new hu
  have hu1 : H1 u = some (.tup askWords) := by rw [← e1]; exact upd_same
  clear e1
  have hh1 := hh.same s1
  have hr1 := hr0.tk (.of s1)
  refine ⟨u, askWords, rfl, Or.inr (SqT.of hu1), rfl, rfl, _, rfl, ?_⟩
  have hin : (if false = true then !inV (V.str r.word) askWords else inV (V.str r.word) askWords) = !r.deed := by
    rw [if_neg Bool.false_ne_true]
    exact inV_word hok
  rw [hin]
  have N1 : Nx K H H1 tab key h h 0 := Nx.same hh s1
  cases hde : r.deed with
  | false =>
    refine ifT rfl ?_
    refine ⟨_, rfl, _, rfl, h, tab, key, a, r, rfl, hh1, hr1, hok, hde, hn, fun t H2 s2 ht => ?_⟩
    have N2 := N1.thenS s2
    exact ⟨_, rfl, q t h H2 ⟨N2.at_, N2.fr, N2.pp, Nat.le_add_right _ _⟩ (next_ask hde).symm ht⟩
  | true =>
    refine ifF rfl ?_
    refine ⟨_, rfl, _, rfl, h, tab, key, a, r, rfl, hh1, hr1, hok, hde, hn, fun t h' H2 N hpu ht => ?_, fun hnx ht => ?_⟩
    · have N2 := N1.trans N
      exact ⟨_, rfl, q t h' H2 ⟨N2.at_, N2.fr, N2.pp, by have := N2.nn; omega⟩ hpu ht⟩
    · refine ⟨true, He.exm_ok T.exm_TooMany, fun _ ea hea => ?_, fun z => by cases z⟩
      refine ⟨_, rfl, rfl, rfl, rfl, _, _, rfl, rfl, (by decide +kernel), ?_⟩
      exact ⟨_, rfl, q _ h H1 ⟨N1.at_, N1.fr, N1.pp, Nat.le_add_right _ _⟩ hnx.symm (ht _)⟩
end
end K69
end
section
set_option Elab.async false
set_option linter.all false
set_option maxRecDepth 100000
set_option maxHeartbeats 4000000
local macro_rules | `(tactic| walk_at "len") => `(tactic| (intro vs H Q E h; first
  | (obtain ⟨e, _⟩ := h; subst e; rfl) | (obtain ⟨_, e, _⟩ := h; subst e; rfl) | (obtain ⟨_, _, e, _⟩ := h; subst e; rfl) | (obtain ⟨_, _, _, e, _⟩ := h; subst e; rfl) | (obtain ⟨_, _, _, _, e, _⟩ := h; subst e; rfl)
  | (obtain ⟨_, _, _, _, _, e, _⟩ := h; subst e; rfl) | (obtain ⟨_, _, _, _, _, _, e, _⟩ := h; subst e; rfl) | (obtain ⟨_, _, _, _, _, _, _, e, _⟩ := h; subst e; rfl) | (obtain ⟨_, _, _, _, _, _, _, _, e, _⟩ := h; subst e; rfl)
  | (obtain ⟨_, _, _, _, _, _, _, _, _, e, _⟩ := h; subst e; rfl) | (obtain ⟨_, _, _, _, _, _, _, _, _, _, e, _⟩ := h; subst e; rfl) | (obtain ⟨_, _, _, _, _, _, _, _, _, _, _, e, _⟩ := h; subst e; rfl)))
local macro_rules | `(tactic| walk_at "hh") => `(tactic| first
  | assumption
  | exact L2.upd_same
  | (refine (L2.upd_ne (by walk_at "ne")).trans ?_; walk_at "hh")
  | (refine (‹L2.Same _ _› : L2.Same _ _) _ _ ?_; walk_at "hh"))
local macro_rules | `(tactic| walk_at "ne") => `(tactic| first
  | assumption
  | (apply Ne.symm; assumption)
  | exact L2.ne_of_none (by walk_at "hh") (by assumption)
  | exact (L2.ne_of_none (by walk_at "hh") (by assumption)).symm)
local macro_rules | `(tactic| walk_at "s") => `(tactic| first
  | refine ⟨_, rfl, ?_⟩
  | refine ⟨_, _, _, rfl, (by walk_at "hh"), ?_⟩
  | refine ⟨rfl, ?_⟩
  | refine ⟨_, _, rfl, rfl, ?_⟩)
local macro_rules | `(tactic| walk_at "isi int") => `(tactic| refine ⟨_, _, _, _, true, rfl, .ty "int", .base (.int _), L2.kit_ty (by decide +kernel), ?_⟩)
local macro_rules | `(tactic| walk_at "isi bool") => `(tactic| refine ⟨_, _, _, _, false, rfl, .ty "bool", .base (.int _), L2.kit_ty (by decide +kernel), ?_⟩)
local macro_rules | `(tactic| walk_at "isi tuple") => `(tactic| refine ⟨_, _, _, _, true, rfl, .ty "tuple", .base (.tup (by assumption)), L2.kit_ty (by decide +kernel), ?_⟩)
local macro_rules | `(tactic| walk_at "isi str") => `(tactic| refine ⟨_, _, _, _, true, rfl, .ty "str", .base (.str _), L2.kit_ty (by decide +kernel), ?_⟩)
local macro_rules | `(tactic| walk_at "v") => `(tactic| refine ⟨_, rfl, ?_⟩)
local macro_rules | `(tactic| walk_at "ii") => `(tactic| refine ⟨_, _, rfl, rfl, ?_⟩)
namespace K69
open PySem PySem.Spec PyProof.Rows L2
/-! ### a tuple of one thing, so many times -/
theorem mul0_tuple (l : Addr) (itm : Value) (n : Nat) (dd : Option Addr) (sl : Array (Option Value)) (x : Int) (u : Tok) (hx : x = 0) :
    Meets (Builtin.«tuple.__mul__» ⟨[.ref l, .int x u], []⟩) (fun _ R s => s.heap.get? l = some { cls := .type "tuple", dict := dd, data := .seq #[itm] n, slots := sl } ∧
      R (.ok (.ret (Value.ref s.heap.objs.size))) { s with heap := s.heap.push { cls := Value.type "tuple", data := Data.seq #[] }, toks := s.toks }) :=
  .of_wp fun prog w A R s h => by
    subst hx
    obtain ⟨hp, g, d, tk, os⟩ := s
    obtain ⟨hl, h⟩ := h
    have f1 := AutoSeq1.idx_int
    wp_walk using wpAny_loadPart' hl
    exact ⟨_, rfl, h⟩
theorem mul1_tuple (l : Addr) (itm : Value) (n : Nat) (dd : Option Addr) (sl : Array (Option Value)) (x : Int) (u : Tok) (hx : x = 1) :
    Meets (Builtin.«tuple.__mul__» ⟨[.ref l, .int x u], []⟩) (fun _ R s => s.heap.get? l = some { cls := .type "tuple", dict := dd, data := .seq #[itm] n, slots := sl } ∧ R (.ok (.ret (Value.ref l))) s) :=
  .of_wp fun prog w A R s h => by
    subst hx
    obtain ⟨hp, g, d, tk, os⟩ := s
    obtain ⟨hl, h⟩ := h
    have f1 := AutoSeq1.idx_int
    wp_walk using wpAny_loadPart' hl
    exact ⟨_, rfl, h⟩
def rRepS (K : PySem.W.Frag) : R2 := fun x y H Q => ∃ (l : Addr) (k : Int) (z : V), x = .ref l ∧ y = .int k ∧ SqT K H l [z] ∧ 0 ≤ k ∧ k ≤ 1000 ∧ (k = 1 → Q (.ref l) H) ∧ (k ≠ 1 → ∀ p, H p = none → Q (.ref p) (upd H p (.tup (List.replicate k.toNat z))))
theorem op_repS {X : Cx} : OpR X (binaryOp .Mult) (rRepS X.K) := by
  intro pins s σ H x y v u Q I rx ry h
  obtain ⟨l, k, z, rfl, rfl, hT, h0, h1, q1, q2⟩ := h
  by_cases hk : 2 ≤ k
  · refine op_repT pins s σ H _ _ v u Q I rx ry ⟨l, k, [z], rfl, rfl, hT, (by intro e; cases e), hk, h1, (by show 1 ≤ 1000; decide), fun p hp => ?_⟩
    have e : (List.replicate k.toNat [z]).flatten = List.replicate k.toNat z := by
      generalize k.toNat = m
      induction m with
      | zero => rfl
      | succ m ih => rw [List.replicate_succ, List.flatten_cons, ih] <;> rfl
    rw [e]
    exact q2 (by omega) p hp
  cases rx
  obtain ⟨t, rfl⟩ := ry
  obtain ⟨its, r, ⟨⟨cls, dd, data, sl⟩, ho, hc, n, hd⟩, hs⟩ := I.tuple hT
  simp only at hc hd
  subst hc hd
  obtain ⟨itm, rfl⟩ := List.length_eq_one_iff.mp (show its.length = 1 from r.length.symm)
  have ho : s.heap.get? l = some { cls := .type "tuple", dict := dd, data := .seq #[itm] n, slots := sl } := ho
  have road : ∀ {Q2 : Value → Shared → Prop} {E2 : Value → Shared → Prop}, wpAny (model X.prog X.w) X.A (call (.builtin "tuple.__mul__") [.ref l, .int k t]) Q2 E2 s → wpAny (model X.prog X.w) X.A (binaryOp .Mult (.ref l) (.int k t)) Q2 E2 s := fun hcall =>
    wpAny_binaryOp_repeat_ref (T := "tuple") (U := "int") (by decide) ⟨_, ho, rfl⟩ (fun s' => typeIs_int s' k t) noFill_tuple_mul F.fills_int_mul F.slot_int_rmul repeat_tuple F.slot_int_index.lookup
      (call_meets F.slot_int_rmul (typeIs_int s k t) F.entry_int_rmul (F.args_int_rmul_2 _ _) (int_rmul_tuple k t l #[itm] n dd sl) ⟨ho, rfl, ⟨_, ho, rfl⟩, hcall⟩)
  by_cases k1 : k = 1
  · exact road (call_meets F.slot_tuple_mul ⟨_, ho, rfl⟩ F.entry_tuple_mul (F.args_tuple_mul_2 _ _) (mul1_tuple l itm n dd sl k t k1) ⟨ho, .ref l, H, I, rfl, q1 k1⟩)
  · have k0 : k = 0 := by omega
    refine road (call_meets F.slot_tuple_mul ⟨_, ho, rfl⟩ F.entry_tuple_mul (F.args_tuple_mul_2 _ _) (mul0_tuple l itm n dd sl k t k0) ⟨ho, ?_⟩)
    refine ⟨.ref s.heap.objs.size, _, I.laid (t' := s.toks) (o := .tup (List.replicate k.toNat z)) (fun b ob q => Heap.get?_push_of_some _ q) (Nat.le_refl _) ?_, rfl, q2 k1 _ (I.hok.fresh (Nat.le_refl _))⟩
    rw [k0]
    exact ⟨(by show 0 ≤ sizeLine; decide), [], .nil, IsTup.new _ _⟩
theorem u65 {k : Nat} {A : Around} (hr : Room k A) : A.units + 65 < cLine := by have := hr.un; omega
/-! ### sheet.py -/
def hexsS (ds : List Int) : Str := ⟨(ds.map hexC).toArray⟩
theorem hex_all : ∀ k : Nat, k < 16 → decide ((("0123456789abcdef" : Str).cps.toList.getD k 0) ∈ ("0123456789abcdef" : Str).cps.toList) = true ∧
    (Builtin.Str.occurrences "0123456789abcdef" ⟨#[("0123456789abcdef" : Str).cps.toList.getD k 0]⟩ 0 ("0123456789abcdef" : Str).length 1).head? = some k := by decide +kernel
theorem hexC_mem {d : Int} (h : 0 ≤ d ∧ d < 16) : hexC d ∈ ("0123456789abcdef" : Str).cps.toList := of_decide_eq_true (hex_all d.toNat (by omega)).1
theorem hexC_at {d : Int} (h : 0 ≤ d ∧ d < 16) : ∃ rest, Builtin.Str.occurrences "0123456789abcdef" ⟨#[hexC d]⟩ 0 ("0123456789abcdef" : Str).length 1 = d.toNat :: rest := by
  have e := (hex_all d.toNat (by omega)).2
  change (Builtin.Str.occurrences "0123456789abcdef" ⟨#[hexC d]⟩ 0 ("0123456789abcdef" : Str).length 1).head? = some d.toNat at e
  cases q : Builtin.Str.occurrences "0123456789abcdef" ⟨#[hexC d]⟩ 0 ("0123456789abcdef" : Str).length 1 with
  | nil => rw [q] at e; cases e
  | cons x r => rw [q] at e; exact ⟨r, by rw [Option.some.inj e]⟩
theorem fig_mem {c : Nat} (h : 48 ≤ c ∧ c ≤ 57) : c ∈ ("0123456789" : Str).cps.toList := by
  have all : ∀ k : Nat, k < 10 → decide ((48 + k) ∈ ("0123456789" : Str).cps.toList) = true := by decide +kernel
  have e := all (c - 48) (by omega)
  rw [show 48 + (c - 48) = c by omega] at e
  exact of_decide_eq_true e
/-! ### the signs of a number -/
theorem numL_head {n : Nat} (h : 1 ≤ n) : ∃ c r, TL.numL n = c :: r ∧ c ≠ 48 := by
  induction n using Nat.strongRecOn with
  | _ n ih =>
    by_cases h2 : n < 10
    · exact ⟨48 + n, [], TL.numL_lt h2, by omega⟩
    · obtain ⟨c, r, e, hc⟩ := ih (n / 10) (by omega) (by omega)
      rw [TL.numL_step (by omega), e]
      exact ⟨c, r ++ [48 + n % 10], rfl, hc⟩
theorem tl_numS {i : Int} (h0 : 0 ≤ i) : TL.tl (numS i) = TL.numL i.toNat := by
  have e : numS i = Str.ofString (toString ((i.toNat : Nat) : Int)) := by
    rw [Int.toNat_of_nonneg h0] <;> rfl
  rw [e, TL.tl_num]
theorem numS_int {i : Int} (h0 : 0 ≤ i) (h1 : i < 100000) : intText? (numS i) = some i := by
  have hl := numS_len h0 h1
  rw [TL.len_tl, tl_numS h0] at hl
  have e : numS i = Str.ofString (toString ((i.toNat : Nat) : Int)) := by
    rw [Int.toNat_of_nonneg h0] <;> rfl
  rw [e, TL.int_num (by omega), Int.toNat_of_nonneg h0]
theorem numS_ne {i : Int} (h0 : 0 ≤ i) : 1 ≤ (numS i).length := by
  rw [TL.len_tl, tl_numS h0]
  have := TL.numL_ne i.toNat
  cases e : TL.numL i.toNat with
  | nil => exact absurd e this
  | cons a b => exact Nat.le_add_left 1 _
section
variable {P : Program} {w : World} {K : PySem.W.Frag} {mg : Str → Option Value} {base : Heap}
def spNumberIn (K : PySem.W.Frag) (w : World) : Sp := fun vs H Q _ => ∃ (i lo hi : Int) (sort : Str), vs = [.str (numS i), .str sort] ∧ 0 ≤ i ∧ i < 100000 ∧ KDct K w (He.ga K "LEAST") sort (.int lo) ∧ KDct K w (He.ga K "MOST") sort (.int hi) ∧ lo ≤ i ∧ i ≤ hi ∧ ∀ H', Same H H' → Q (.int i) H'
abbrev N_numberIn : List Str := ["word", "sort", "sign"]
theorem sc_numberIn : FnScope N_numberIn ["word", "sort"] (defScope s_numberIn) := ⟨rfl, rfl, rfl, by decide +kernel, rfl, by decide +kernel, by decide +kernel⟩
theorem c_numberIn (T : Tx P w K mg base) : Cal P w K mg base "number_in" 1 ["word", "sort"] (spNumberIn K w) := by
  refine cal_mk T.df_numberIn T.g_numberIn sc_numberIn (fun _ _ _ _ _ _ us hl => match us, hl with | [_, _], _ => rfl) ?len (fun f cdv A outer s H vs Q E hr h => ?body)
  case len => walk_at "len"
  have nd := sc_numberIn.nd
  refine ⟨_, (pss_cons (ps_if (PW.pt (pw_or (pt_not (pt_chain op_lt op_le pe_int (pe_callB call_len_str (by rfl) T.f_len (by decide +kernel) (pa_cons (pv 0) pa_nil)) (pe_gi T.i_LONGEST_NUMBER))) (pw_or1 (pt_val (pe_callB (cr_any rfl) (by rfl) T.f_any (by decide +kernel) (pa_cons (pe_lc (own := [("sign", 2)]) (g := gName 2) (tt := tYes) rfl nd (pi_str (pv 0)) (blkOk_by (own := [("sign", 2)]) (N := N_numberIn) (sc := defScope s_numberIn) (by decide +kernel)) (fun _ _ _ _ _ => (pg_name (i := 2) nd rfl (Or.inl rfl))) (fun _ _ _ _ _ => pts_nil) (fun _ _ _ _ _ => (pe_cmpR op_notIn_sign (pv 2) (pe_gs T.z_FIGURES) rfl))) pa_nil)))))) (pss_one (ps_ret pe_non)) pss_nil)
    (pss_cons (ps_if (PW.pt (pw_or (PW.pt (pw_and (pt_cmpR op_eq (pe_ix ix_str (pv 0) pe_int (fun _ _ => rfl)) pe_str (nomark _)) (pw_and1 (pt_cmpR op_ne (pv 0) pe_str (nomark _))))) (pw_or1 (pt_not (pt_chain op_le op_le (pe_ix ix_kdict (pe_gr T.g_LEAST) (pv 1) (fun _ _ => rfl)) (pe_callTy (T := "int") call_int_str (by rfl) T.f_int (by decide +kernel) (pa_cons (pv 0) pa_nil)) (pe_ix ix_kdict (pe_gr T.g_MOST) (pv 1) (fun _ _ => rfl))))))) (pss_one (ps_ret pe_non)) pss_nil)
    (pss_one (ps_ret (pe_callTy (T := "int") call_int_str (by rfl) T.f_int (by decide +kernel) (pa_cons (pv 0) pa_nil)))))), ?_⟩
  obtain ⟨i, lo, hi, sort, rfl, h0, hi5, hlo, hhi, hli, hih, q⟩ := h
  have hl := numS_len h0 hi5
  have hn := numS_ne h0
  have hsz : (numS i).length ≤ sizeLine := sz_of (by omega)
  refine ⟨_, rfl, _, rfl, hsz, _, _, rfl, rfl, _, rfl, ?_⟩
  refine ifD (by show (0 : Int) < ((numS i).length : Nat); omega) ?_
  refine ⟨_, _, rfl, rfl, _, rfl, ?_⟩
  refine ifnD (by show ((numS i).length : Int) ≤ 6; omega) ?_
  refine ⟨_, rfl, numS i, rfl, fun D hD => lcm_str hD (by omega) (fun _ => rfl) (fun _ => .bl false) (fun j c H1 hj s1 Q2 k => ?_) (fun H1 s1 h1 => ?_)⟩
  · refine ⟨_, rfl, c, "0123456789", rfl, rfl, ?_⟩
    have hc : c ∈ TL.tl (numS i) := List.mem_of_getElem? (get_cps hj)
    rw [tl_numS h0] at hc
    rw [decide_eq_true (fig_mem (TL.numL_digits _ c hc))]
    exact k H1 (Same.refl _)
  refine ⟨D, _, rfl, lst_false h1, ?_⟩
  rw [any_rng]
  refine ⟨_, rfl, ?_⟩
  refine iteF ?_
  have hint := numS_int h0 hi5
  have h640 : (numS i).length ≤ 640 := by omega
  obtain ⟨c, r, hcr⟩ : ∃ c r, TL.tl (numS i) = c :: r := by
    cases e : TL.tl (numS i) with
    | nil => rw [TL.len_tl, e] at hn; cases hn
    | cons c r => exact ⟨c, r, rfl⟩
  have hat : atI (numS i).cps.toList 0 = some c := by
    show ((ixN (TL.tl (numS i)).length 0).bind fun j => (TL.tl (numS i))[j]?) = some c
    have e : ixN (c :: r).length 0 = some 0 := ixN_of (j := 0) rfl (Nat.zero_lt_succ _)
    rw [hcr, e] <;> rfl
  refine ⟨_, rfl, _, _, c, rfl, rfl, hsz, hat, rfl, _, rfl, ?_⟩
  by_cases hc : c = 48
  case' pos =>
    have hi0 : i = 0 := by
      by_cases hi : 1 ≤ i.toNat
      · obtain ⟨c', r', e, hne⟩ := numL_head hi
        rw [tl_numS h0, e] at hcr
        exact absurd ((List.cons.inj hcr).1.trans hc) hne
      · omega
    refine ifD (by rw [hc] <;> rfl) ?_
    refine ⟨_, rfl, rfl, _, rfl, ?_⟩
    refine ifnD (by rw [hi0] <;> rfl) ?_
  case' neg =>
    refine ifND (fun e => hc (by have e2 := congrArg Str.cps (V.str.inj e); exact (Array.singleton_inj.mp e2))) ?_
  all_goals
    refine ⟨_, rfl, _, _, _, rfl, rfl, hlo, _, rfl, _, i, rfl, hint, h640, _, _, rfl, rfl, _, rfl, ?_⟩
    refine ifD hli ?_
    refine ⟨_, rfl, _, _, _, rfl, rfl, hhi, _, _, rfl, rfl, _, rfl, ?_⟩
    refine ifnD hih ?_
    exact ⟨_, rfl, _, i, rfl, hint, h640, q H1 s1⟩
def spDigitsIn : Sp := fun vs H Q _ => ∃ (ds : List Int), vs = [.str (hexsS ds)] ∧ Digs ds ∧ ds.length ≤ 1000 ∧ ∀ (a : Addr) (H' : Hp), Same H H' → H' a = some (.tup (ds.map V.int)) → Q (.ref a) H'
theorem hexsS_at {ds : List Int} {j c : Nat} (h : (hexsS ds).cps[j]? = some c) : ∃ d, ds[j]? = some d ∧ c = hexC d := by
  have h2 : (ds.map hexC)[j]? = some c := by
    have e : (hexsS ds).cps = (ds.map hexC).toArray := rfl
    rw [e, List.getElem?_toArray] at h
    exact h
  rw [List.getElem?_map] at h2
  cases e : ds[j]? with
  | none => rw [e] at h2; cases h2
  | some d => rw [e] at h2; exact ⟨d, rfl, (Option.some.inj h2).symm⟩
theorem hexsS_len (ds : List Int) : (hexsS ds).length = ds.length := by
  show (ds.map hexC).toArray.size = _
  rw [List.size_toArray, List.length_map]
abbrev N_digitsIn : List Str := ["word", "sign"]
theorem sc_digitsIn : FnScope N_digitsIn ["word"] (defScope s_digitsIn) := ⟨rfl, rfl, rfl, by decide +kernel, rfl, by decide +kernel, by decide +kernel⟩
theorem c_digitsIn (T : Tx P w K mg base) : Cal P w K mg base "digits_in" 1 ["word"] (spDigitsIn) := by
  refine cal_mk T.df_digitsIn T.g_digitsIn sc_digitsIn (fun _ _ _ _ _ _ us hl => match us, hl with | [_], _ => rfl) ?len (fun f cdv A outer s H vs Q E hr h => ?body)
  case len => walk_at "len"
  have nd := sc_digitsIn.nd
  refine ⟨_, (pss_cons (ps_if (pt_val (pe_callB (cr_any rfl) (by rfl) T.f_any (by decide +kernel) (pa_cons (pe_lc (own := [("sign", 1)]) (g := gName 1) (tt := tYes) rfl nd (pi_str (pv 0)) (blkOk_by (own := [("sign", 1)]) (N := N_digitsIn) (sc := defScope s_digitsIn) (by decide +kernel)) (fun _ _ _ _ _ => (pg_name (i := 1) nd rfl (Or.inl rfl))) (fun _ _ _ _ _ => pts_nil) (fun _ _ _ _ _ => (pe_cmpR op_notIn_sign (pv 1) (pe_gs T.z_SIGNS) rfl))) pa_nil))) (pss_one (ps_ret pe_non)) pss_nil)
    (pss_one (ps_ret (pe_callTy (T := "tuple") call_tuple_of (by rfl) T.f_tuple (by decide +kernel) (pa_cons (pe_lc (own := [("sign", 1)]) (g := gName 1) (tt := tYes) rfl nd (pi_str (pv 0)) (blkOk_by (own := [("sign", 1)]) (N := N_digitsIn) (sc := defScope s_digitsIn) (by decide +kernel)) (fun _ _ _ _ _ => (pg_name (i := 1) nd rfl (Or.inl rfl))) (fun _ _ _ _ _ => pts_nil) (fun _ _ _ _ _ => (pe_m1 PySem.F.slot_str_index PySem.F.type_str_index mt_sindex (pe_gs T.z_SIGNS) (pv 1)))) pa_nil))))), ?_⟩
  obtain ⟨ds, rfl, hds, hl, q⟩ := h
  have hlen := hexsS_len ds
  refine ⟨_, rfl, hexsS ds, rfl, fun D hD => lcm_str hD (by omega) (fun _ => rfl) (fun _ => .bl false) (fun j c H1 hj s1 Q2 k => ?_) (fun H1 s1 h1 => ?_)⟩
  · refine ⟨_, rfl, c, "0123456789abcdef", rfl, rfl, ?_⟩
    obtain ⟨d, hd, rfl⟩ := hexsS_at hj
    rw [decide_eq_true (hexC_mem (hds d (List.mem_of_getElem? hd)))]
    exact k H1 (Same.refl _)
  refine ⟨D, _, rfl, lst_false h1, ?_⟩
  rw [any_rng]
  refine ⟨_, rfl, ?_⟩
  refine iteF ?_
  refine ⟨_, rfl, hexsS ds, rfl, fun D2 hD2 => lcm_str hD2 (by omega) (fun _ => rfl) (fun j => (ds.map V.int).getD j .non) (fun j c H2 hj s2 Q2 k => ?_) (fun H2 s2 h2 => ?_)⟩
  · obtain ⟨d, hd, rfl⟩ := hexsS_at hj
    have hdd := hds d (List.mem_of_getElem? hd)
    obtain ⟨rest, hr⟩ := hexC_at hdd
    have e : (ds.map V.int).getD j .non = .int ((d.toNat : Nat) : Int) := by
      rw [List.getD, List.getElem?_map, hd, Int.toNat_of_nonneg hdd.1] <;> rfl
    rw [e] at k
    exact ⟨⟨_, rfl⟩, _, rfl, _, _, _, _, rfl, rfl, hr, k H2 (Same.refl _)⟩
  have h2' : H2 D2 = some (.lst (ds.map V.int)) := by
    rw [h2]
    have e := rng_get (ds.map V.int) (V.non)
    rw [List.length_map] at e
    have e2 : (hexsS ds).cps.size = ds.length := hlen
    rw [e2, e]
  refine ⟨D2, _, rfl, Or.inl ⟨SqL.of h2', fun r hr => q r _ (s1.trans (s2.trans (same_new hr))) upd_same⟩⟩
end
end K69
end
section
set_option Elab.async false
set_option linter.all false
set_option maxRecDepth 100000
set_option maxHeartbeats 4000000
local macro_rules | `(tactic| walk_at "len") => `(tactic| (intro vs H Q E h; first
  | (obtain ⟨e, _⟩ := h; subst e; rfl) | (obtain ⟨_, e, _⟩ := h; subst e; rfl) | (obtain ⟨_, _, e, _⟩ := h; subst e; rfl) | (obtain ⟨_, _, _, e, _⟩ := h; subst e; rfl) | (obtain ⟨_, _, _, _, e, _⟩ := h; subst e; rfl)
  | (obtain ⟨_, _, _, _, _, e, _⟩ := h; subst e; rfl) | (obtain ⟨_, _, _, _, _, _, e, _⟩ := h; subst e; rfl) | (obtain ⟨_, _, _, _, _, _, _, e, _⟩ := h; subst e; rfl) | (obtain ⟨_, _, _, _, _, _, _, _, e, _⟩ := h; subst e; rfl)
  | (obtain ⟨_, _, _, _, _, _, _, _, _, e, _⟩ := h; subst e; rfl) | (obtain ⟨_, _, _, _, _, _, _, _, _, _, e, _⟩ := h; subst e; rfl) | (obtain ⟨_, _, _, _, _, _, _, _, _, _, _, e, _⟩ := h; subst e; rfl)))
local macro_rules | `(tactic| walk_at "hh") => `(tactic| first
  | assumption
  | exact L2.upd_same
  | (refine (L2.upd_ne (by walk_at "ne")).trans ?_; walk_at "hh")
  | (refine (‹L2.Same _ _› : L2.Same _ _) _ _ ?_; walk_at "hh"))
local macro_rules | `(tactic| walk_at "ne") => `(tactic| first
  | assumption
  | (apply Ne.symm; assumption)
  | exact L2.ne_of_none (by walk_at "hh") (by assumption)
  | exact (L2.ne_of_none (by walk_at "hh") (by assumption)).symm)
local macro_rules | `(tactic| walk_at "s") => `(tactic| first
  | refine ⟨_, rfl, ?_⟩
  | refine ⟨_, _, _, rfl, (by walk_at "hh"), ?_⟩
  | refine ⟨rfl, ?_⟩
  | refine ⟨_, _, rfl, rfl, ?_⟩)
local macro_rules | `(tactic| walk_at "isi int") => `(tactic| refine ⟨_, _, _, _, true, rfl, .ty "int", .base (.int _), L2.kit_ty (by decide +kernel), ?_⟩)
local macro_rules | `(tactic| walk_at "isi bool") => `(tactic| refine ⟨_, _, _, _, false, rfl, .ty "bool", .base (.int _), L2.kit_ty (by decide +kernel), ?_⟩)
local macro_rules | `(tactic| walk_at "isi tuple") => `(tactic| refine ⟨_, _, _, _, true, rfl, .ty "tuple", .base (.tup (by assumption)), L2.kit_ty (by decide +kernel), ?_⟩)
local macro_rules | `(tactic| walk_at "isi str") => `(tactic| refine ⟨_, _, _, _, true, rfl, .ty "str", .base (.str _), L2.kit_ty (by decide +kernel), ?_⟩)
local macro_rules | `(tactic| walk_at "v") => `(tactic| refine ⟨_, rfl, ?_⟩)
local macro_rules | `(tactic| walk_at "ii") => `(tactic| refine ⟨_, _, rfl, rfl, ?_⟩)
namespace K69
open PySem PySem.Spec PyProof.Rows L2
inductive Th where
  | nm (z : Str)
  | num (i : Int)
  | digs (ds : List Int)
  | dd (d : Int)
def Th.word : Th → Str
  | .nm z => z
  | .num i => numS i
  | .digs ds => hexsS ds
  | .dd d => hexsS [d]
def ThV (H : Hp) (v : V) : Th → Prop
  | .nm z => v = .str z
  | .num i => v = .int i
  | .digs ds => ∃ a : Addr, v = .ref a ∧ H a = some (.tup (ds.map V.int))
  | .dd d => v = .int d
theorem ThV.tk {H H' : Hp} {v : V} {t : Th} (s : TupK H H') (h : ThV H v t) : ThV H' v t := by
  cases t with
  | digs ds => obtain ⟨a, h1, h2⟩ := h; exact ⟨a, h1, s _ _ h2⟩
  | _ => exact h
def ThOk (sort : Str) : Th → Prop
  | .nm z => sort = "name" ∧ IsNm z
  | .num i => ∃ lo hi : Int, (sort, He.Dv.int lo) ∈ least ∧ (sort, He.Dv.int hi) ∈ mosts ∧ lo ≤ i ∧ i ≤ hi ∧ 0 ≤ i ∧ i < 100000
  | .digs ds => (sort = "table" ∧ IsTab ds) ∨ (sort = "key" ∧ IsKey ds)
  | .dd d => sort = "deed" ∧ 0 ≤ d ∧ d < 16
theorem least_name {sort : Str} {lo : Int} (h : (sort, He.Dv.int lo) ∈ least) : sort ≠ "name" := by
  intro e
  subst e
  have all : (least.all fun q => !(q.1 == "name")) = true := by decide +kernel
  have h2 := List.all_eq_true.mp all _ h
  simp at h2
section
variable {P : Program} {w : World} {K : PySem.W.Frag} {mg : Str → Option Value} {base : Heap}
def spThing : Sp := fun vs H Q _ => ∃ (t : Th) (sort : Str), vs = [.str t.word, .str sort] ∧ ThOk sort t ∧ ∀ v H', Same H H' → ThV H' v t → Q v H'
abbrev N_thingIn : List Str := ["word", "sort", "digits", "fits"]
theorem sc_thingIn : FnScope N_thingIn ["word", "sort"] (defScope s_thingIn) := ⟨rfl, rfl, rfl, by decide +kernel, rfl, by decide +kernel, by decide +kernel⟩
theorem c_thingIn (T : Tx P w K mg base) : Cal P w K mg base "thing_in" 3 ["word", "sort"] (spThing) := by
  refine cal_mk T.df_thingIn T.g_thingIn sc_thingIn (fun _ _ _ _ _ _ us hl => match us, hl with | [_, _], _ => rfl) ?len (fun f cdv A outer s H vs Q E hr h => ?body)
  case len => walk_at "len"
  have nd := sc_thingIn.nd
  obtain ⟨esLEAST, nLEAST, kd_LEAST⟩ := T.kd_LEAST
  refine ⟨_, (pss_cons (ps_if (pt_cmpR op_eq (pv 1) pe_str (nomark _)) (pss_one (ps_ret (pe_ifExp (pt_val (pe_c (c_isNameP T) (hr.mono (by decide)) (pa_cons (pv 0) pa_nil))) (pv 0) pe_non))) pss_nil)
    (pss_cons (ps_if (pt_cmpR (op_in_kd kd_LEAST) (pv 1) (pe_gr T.g_LEAST) (by with_unfolding_all rfl)) (pss_one (ps_ret (pe_c (c_numberIn T) (hr.mono (by decide)) (pa_cons (pv 0) (pa_cons (pv 1) pa_nil))))) pss_nil)
    (pss_cons (ps_set (i := 2) nd rfl (Or.inl rfl) (pe_c (c_digitsIn T) (hr.mono (by decide)) (pa_cons (pv 0) pa_nil)))
    (pss_cons (ps_if (pt_cmpR op_eq (pv 1) pe_str (nomark _)) (pss_one (ps_ret (pe_ifExp (PW.pt (pw_and (pt_cmp (pc_notN (pv 2))) (pw_and1 (pt_cmpR op_eq (pe_callB call_len_seq (by rfl) T.f_len (by decide +kernel) (pa_cons (pv 2) pa_nil)) pe_int (nomark _))))) (pe_ix ix_tup (pv 2) pe_int (fun _ _ => rfl)) pe_non))) pss_nil)
    (pss_cons (ps_set (i := 3) nd rfl (Or.inl rfl) (pe_and (pe_cmp (pc_notN (pv 2)) rfl) (pe_one (pe_ifExp (pt_cmpR op_eq (pv 1) pe_str (nomark _)) (pe_c (c_isTable T) (hr.mono (by decide)) (pa_cons (pv 2) pa_nil)) (pe_c (c_isKey T) (hr.mono (by decide)) (pa_cons (pv 2) pa_nil))))))
    (pss_one (ps_ret (pe_ifExp (pt_val (pv 3)) (pv 2) pe_non)))))))), ?_⟩
  obtain ⟨t, sort, rfl, ht, q⟩ := h
  have nostr : ∀ {a b : Str}, a ≠ b → ¬ V.str a = V.str b := fun hn e => hn (V.str.inj e)
  cases t with
  | nm z =>
    obtain ⟨rfl, hz⟩ := ht
    refine ⟨_, rfl, rfl, _, rfl, ?_⟩
    refine ifD rfl ?_
    refine ⟨_, rfl, z, rfl, hz, fun H1 s1 => ⟨_, rfl, ?_⟩⟩
    refine iteT ?_
    exact ⟨_, rfl, q _ H1 s1 rfl⟩
  | num i =>
    obtain ⟨lo, hi, hlo, hhi, h1, h2, h3, h4⟩ := ht
    refine ⟨_, rfl, rfl, _, rfl, ?_⟩
    refine ifND (nostr (least_name hlo)) ?_
    obtain ⟨u, hu⟩ := T.in_ hlo
    refine ⟨_, rfl, _, _, rfl, rfl, hu, _, rfl, ?_⟩
    refine ifT rfl ?_
    exact ⟨_, rfl, _, rfl, i, lo, hi, sort, rfl, h3, h4, T.least hlo, T.most hhi, h1, h2, fun H1 s1 => q _ H1 s1 rfl⟩
  | dd d =>
    obtain ⟨rfl, hd⟩ := ht
    refine ⟨_, rfl, rfl, _, rfl, ?_⟩
    refine ifND (nostr (by decide +kernel)) ?_
    refine ⟨_, rfl, _, _, rfl, rfl, T.out (by decide +kernel), _, rfl, ?_⟩
    refine ifF rfl ?_
    refine ⟨_, rfl, [d], rfl, (fun x hx => by rw [List.mem_singleton.mp hx]; exact hd), (by show 1 ≤ 1000; decide), fun a H1 s1 ha => ?_⟩
    refine ⟨_, rfl, rfl, _, rfl, ?_⟩
    refine ifD rfl ?_
    refine ⟨_, rfl, _, rfl, ?_⟩
    refine ifT rfl ?_
    refine ⟨_, rfl, _, _, rfl, Or.inr (SqT.of ha), rfl, _, rfl, ?_⟩
    refine ifD rfl ?_
    exact ⟨_, rfl, a, _, _, V.int d, rfl, rfl, SqT.of ha, rfl, q _ H1 s1 rfl⟩
  | digs ds =>
    have hds : Digs ds ∧ ds.length ≤ 1000 := by
      rcases ht with ⟨_, h⟩ | ⟨_, h⟩
      · exact ⟨h.dig, by rw [h.len]; decide⟩
      · exact ⟨h.dig, by have := h.hi; omega⟩
    have hs : sort = "table" ∨ sort = "key" := ht.imp (·.1) (·.1)
    have hsn : sort ≠ "name" ∧ sort ≠ "deed" ∧ sort ∈ outs := by
      rcases hs with rfl | rfl <;> decide +kernel
    refine ⟨_, rfl, rfl, _, rfl, ?_⟩
    refine ifND (nostr hsn.1) ?_
    refine ⟨_, rfl, _, _, rfl, rfl, T.out hsn.2.2, _, rfl, ?_⟩
    refine ifF rfl ?_
    refine ⟨_, rfl, ds, rfl, hds.1, hds.2, fun a H1 s1 ha => ?_⟩
    refine ⟨_, rfl, rfl, _, rfl, ?_⟩
    refine ifND (nostr hsn.2.1) ?_
    refine ⟨_, rfl, _, rfl, ?_⟩
    refine ifT rfl ?_
    refine ⟨_, rfl, rfl, _, rfl, ?_⟩
    rcases ht with ⟨rfl, h⟩ | ⟨rfl, h⟩
    · refine ifD rfl ?_
      refine ⟨_, rfl, a, ds, rfl, ha, h, fun H2 s2 => ?_⟩
      refine ⟨_, rfl, _, rfl, ?_⟩
      refine ifT rfl ?_
      exact ⟨_, rfl, q _ H2 (s1.trans s2) ⟨a, rfl, s2 _ _ ha⟩⟩
    · refine ifND (nostr (by decide +kernel)) ?_
      refine ⟨_, rfl, a, ds, rfl, ha, h, fun H2 s2 => ?_⟩
      refine ⟨_, rfl, _, rfl, ?_⟩
      refine ifT rfl ?_
      exact ⟨_, rfl, q _ H2 (s1.trans s2) ⟨a, rfl, s2 _ _ ha⟩⟩
def Rw.things : Rw → List (Str × Th)
  | .house tab key => [("table", .digs tab), ("key", .digs key)]
  | .door z n f m => [("name", .nm z), ("near", .num n), ("far", .num f), ("most", .num m)]
  | .button z s => [("name", .nm z), ("step", .num s)]
  | .teach d z => [("name", .nm d), ("name", .nm z)]
  | .press z deed dns => ("name", .nm z) :: ("deed", .dd deed) :: dns.map fun d => ("name", .nm d)
  | .play num dn => [("place", .num num), ("name", .nm dn)]
  | .lose z => [("name", .nm z)]
  | .tear z => [("name", .nm z)]
  | .turn ks => [("key", .digs ks)]
  | .known dn => [("name", .nm dn)]
  | .now z => [("name", .nm z)]
def Rw.words (r : Rw) : List Str := r.word :: r.things.map fun t => t.2.word
def Rw.sorts (r : Rw) : List Str := r.things.map Prod.fst
/-- a row as a sheet may hold it -/
def Rw.wf : Rw → Prop
  | .house tab key => IsTab tab ∧ IsKey key
  | .door z n f m => IsNm z ∧ (1 ≤ n ∧ n ≤ 64) ∧ (1 ≤ f ∧ f ≤ 1024) ∧ (1 ≤ m ∧ m ≤ 12) ∧ n ≤ f
  | .button z s => IsNm z ∧ 1 ≤ s ∧ s ≤ 64
  | .teach d z => IsNm d ∧ IsNm z
  | .press z deed dns => IsNm z ∧ (0 ≤ deed ∧ deed < 16) ∧ (∀ d, d ∈ dns → IsNm d) ∧ dns.length ≤ 50
  | .play num dn => num ≤ 9999 ∧ IsNm dn
  | .lose z => IsNm z
  | .tear z => IsNm z
  | .turn ks => IsKey ks
  | .known dn => IsNm dn
  | .now z => IsNm z
theorem wf_things {r : Rw} (h : r.wf) : ∀ t, t ∈ r.things → ThOk t.1 t.2 := by
  intro t ht
  have L : ∀ {s : Str} {i : Int}, (s, He.Dv.int i) ∈ least → (s, He.Dv.int i) ∈ least := fun h => h
  cases r with
  | house tab key =>
    rcases List.mem_cons.mp ht with e | e
    · rw [e]; exact Or.inl ⟨rfl, h.1⟩
    · rw [List.mem_singleton.mp e]; exact Or.inr ⟨rfl, h.2⟩
  | door z n f m =>
    obtain ⟨hz, ⟨n1, n2⟩, ⟨f1, f2⟩, ⟨m1, m2⟩, _⟩ := h
    rcases List.mem_cons.mp ht with e | e
    · rw [e]; exact ⟨rfl, hz⟩
    rcases List.mem_cons.mp e with e | e
    · rw [e]; exact ⟨1, 64, .head _, .head _, n1, n2, by omega, by omega⟩
    rcases List.mem_cons.mp e with e | e
    · rw [e]; exact ⟨1, 1024, .tail _ (.head _), .tail _ (.head _), f1, f2, by omega, by omega⟩
    · rw [List.mem_singleton.mp e]; exact ⟨1, 12, .tail _ (.tail _ (.head _)), .tail _ (.tail _ (.head _)), m1, m2, by omega, by omega⟩
  | button z s =>
    obtain ⟨hz, s1, s2⟩ := h
    rcases List.mem_cons.mp ht with e | e
    · rw [e]; exact ⟨rfl, hz⟩
    · rw [List.mem_singleton.mp e]; exact ⟨1, 64, .tail _ (.tail _ (.tail _ (.head _))), .tail _ (.tail _ (.tail _ (.head _))), s1, s2, by omega, by omega⟩
  | teach d z =>
    rcases List.mem_cons.mp ht with e | e
    · rw [e]; exact ⟨rfl, h.1⟩
    · rw [List.mem_singleton.mp e]; exact ⟨rfl, h.2⟩
  | press z deed dns =>
    rcases List.mem_cons.mp ht with e | e
    · rw [e]; exact ⟨rfl, h.1⟩
    rcases List.mem_cons.mp e with e | e
    · rw [e]; exact ⟨rfl, h.2.1⟩
    · obtain ⟨d, hd, rfl⟩ := List.mem_map.mp e
      exact ⟨rfl, h.2.2.1 d hd⟩
  | play num dn =>
    rcases List.mem_cons.mp ht with e | e
    · rw [e]; exact ⟨0, 9999, .tail _ (.tail _ (.tail _ (.tail _ (.head _)))), .tail _ (.tail _ (.tail _ (.tail _ (.head _)))), by omega, by have := h.1; omega, by omega, by have := h.1; omega⟩
    · rw [List.mem_singleton.mp e]; exact ⟨rfl, h.2⟩
  | turn ks => rw [List.mem_singleton.mp ht]; exact Or.inr ⟨rfl, h⟩
  | lose z => rw [List.mem_singleton.mp ht]; exact ⟨rfl, h⟩
  | tear z => rw [List.mem_singleton.mp ht]; exact ⟨rfl, h⟩
  | known z => rw [List.mem_singleton.mp ht]; exact ⟨rfl, h⟩
  | now z => rw [List.mem_singleton.mp ht]; exact ⟨rfl, h⟩
theorem things_len {r : Rw} (h : r.wf) : r.things.length ≤ 60 := by
  cases r with
  | press z deed dns =>
    show (dns.map _).length + 1 + 1 ≤ 60
    rw [List.length_map]
    have := h.2.2.2
    omega
  | _ => exact Nat.le_of_ble_eq_true rfl
def spSortsOf (K : PySem.W.Frag) : Sp := fun vs H Q _ => ∃ (l : Addr) (r : Rw), vs = [.ref l] ∧ H l = some (.lst (r.words.map V.str)) ∧ r.wf ∧ (∀ t k, r ≠ .house t k) ∧ ∀ a H', Same H H' → SqT K H' a (r.sorts.map V.str) → Q (.ref a) H'
theorem word_ord {r : Rw} (h : ∀ t k, r ≠ .house t k) (hp : ∀ z d ds, r ≠ .press z d ds) : (r.word, r.sorts) ∈ ords := by
  cases r with
  | house t k => exact absurd rfl (h t k)
  | press z d ds => exact absurd rfl (hp z d ds)
  | door z n f m => exact (by decide +kernel : (("door" : Str), (["name", "near", "far", "most"] : List Str)) ∈ ords)
  | button z s => exact (by decide +kernel : (("button" : Str), (["name", "step"] : List Str)) ∈ ords)
  | teach d z => exact (by decide +kernel : (("teach" : Str), (["name", "name"] : List Str)) ∈ ords)
  | play n d => exact (by decide +kernel : (("play" : Str), (["place", "name"] : List Str)) ∈ ords)
  | lose z => exact (by decide +kernel : (("lose" : Str), (["name"] : List Str)) ∈ ords)
  | tear z => exact (by decide +kernel : (("tear" : Str), (["name"] : List Str)) ∈ ords)
  | turn z => exact (by decide +kernel : (("turn" : Str), (["key"] : List Str)) ∈ ords)
  | known z => exact (by decide +kernel : (("known" : Str), (["name"] : List Str)) ∈ ords)
  | now z => exact (by decide +kernel : (("now" : Str), (["name"] : List Str)) ∈ ords)
theorem word_press {r : Rw} (hp : ∀ z d ds, r ≠ .press z d ds) : r.word ≠ "press" := by
  cases r with
  | press z d ds => exact absurd rfl (hp z d ds)
  | house t k => exact (by decide +kernel : ("house" : Str) ≠ "press")
  | door z n f m => exact (by decide +kernel : ("door" : Str) ≠ "press")
  | button z s => exact (by decide +kernel : ("button" : Str) ≠ "press")
  | teach d z => exact (by decide +kernel : ("teach" : Str) ≠ "press")
  | play n d => exact (by decide +kernel : ("play" : Str) ≠ "press")
  | lose z => exact (by decide +kernel : ("lose" : Str) ≠ "press")
  | tear z => exact (by decide +kernel : ("tear" : Str) ≠ "press")
  | turn z => exact (by decide +kernel : ("turn" : Str) ≠ "press")
  | known z => exact (by decide +kernel : ("known" : Str) ≠ "press")
  | now z => exact (by decide +kernel : ("now" : Str) ≠ "press")
abbrev N_sortsOf : List Str := ["words"]
theorem sc_sortsOf : FnScope N_sortsOf ["words"] (defScope s_sortsOf) := ⟨rfl, rfl, rfl, by decide +kernel, rfl, by decide +kernel, by decide +kernel⟩
theorem c_sortsOf (T : Tx P w K mg base) : Cal P w K mg base "sorts_of" 1 ["words"] (spSortsOf K) := by
  refine cal_mk T.df_sortsOf T.g_sortsOf sc_sortsOf (fun _ _ _ _ _ _ us hl => match us, hl with | [_], _ => rfl) ?len (fun f cdv A outer s H vs Q E hr h => ?body)
  case len => walk_at "len"
  have nd := sc_sortsOf.nd
  refine ⟨_, (pss_cons (ps_if (pt_cmpR op_eq (pe_ix ix_list (pv 0) pe_int (fun _ _ => rfl)) pe_str (nomark _)) (pss_one (ps_ret (pe_op op_catA (pe_tup (pa_cons pe_str (pa_cons pe_str pa_nil))) (pe_op op_repS (pe_tup (pa_cons pe_str pa_nil)) (pe_callB (call_max2 rfl) (by rfl) T.f_max (by decide +kernel) (pa_cons pe_int (pa_cons (pe_op op_sub (pe_callB call_len_seq (by rfl) T.f_len (by decide +kernel) (pa_cons (pv 0) pa_nil)) pe_int) pa_nil))))))) pss_nil)
    (pss_one (ps_ret (pe_kget (pe_gr T.g_ORDERS) (pe_ix ix_list (pv 0) pe_int (fun _ _ => rfl)) pe_non ⟨by rfl, by rfl, by rfl, by rfl⟩)))), ?_⟩
  obtain ⟨l, r, rfl, hl, hw, hnh, q⟩ := h
  by_cases hp : ∃ z d ds, r = .press z d ds
  · obtain ⟨z, d, ds, rfl⟩ := hp
    have hdl := hw.2.2.2
    refine ⟨_, rfl, l, _, _, V.str "press", rfl, rfl, SqL.of hl, at_of (j := 0) rfl rfl, rfl, _, rfl, ?_⟩
    refine ifD rfl ?_
    refine ⟨(by show 2 ≤ sizeLine; decide), fun a ha => ⟨(by show 1 ≤ sizeLine; decide), fun b hb => ?_⟩⟩
    generalize e1 : upd (upd H a _) b _ = H1
    have nab : a ≠ b := ne_of_none upd_same hb
    have s1 : Same H H1 := by rw [← e1]; exact (same_new ha).trans (same_new hb)
    have ha1 : H1 a = some (.tup [.str "name", .str "deed"]) := by rw [← e1, upd_ne nab]; exact upd_same
    have hb1 : H1 b = some (.tup [.str "name"]) := by rw [← e1]; exact upd_same
    clear e1
    have hl1 := s1 _ _ hl
    have hwl : ((Rw.press z d ds).words.map V.str).length = ds.length + 3 := by simp [Rw.words, Rw.things]
    have hso : (Rw.press z d ds).sorts.map V.str = [V.str "name", V.str "deed"] ++ List.replicate ds.length (V.str "name") := by
      show V.str "name" :: V.str "deed" :: ((ds.map fun d => (("name" : Str), Th.nm d)).map Prod.fst).map V.str = _
      rw [List.map_map, List.map_map]
      show V.str "name" :: V.str "deed" :: (ds.map fun _ => V.str "name") = _
      rw [List.map_const'] <;> rfl
    rw [hso] at q
    have ek : (if (((Rw.press z d ds).words.map V.str).length : Int) - 3 > 0 then (((Rw.press z d ds).words.map V.str).length : Int) - 3 else 0) = ds.length := by
      rw [hwl]
      split <;> omega
    refine ⟨_, rfl, l, _, rfl, Or.inl (SqL.of hl1), _, _, rfl, rfl, _, _, rfl, b, _, V.str "name", rfl, rfl, SqT.of hb1, ?_, ?_, fun k1 => ?_, fun k1 p hp => ?_⟩
    · rw [ek]; omega
    · rw [ek]; omega
    · rw [ek] at k1
      have e1 : ds.length = 1 := by omega
      rw [e1] at q
      exact ⟨a, b, _, _, rfl, rfl, SqT.of ha1, SqT.of hb1, (by show 3 ≤ sizeLine; decide), (fun h => by cases h), (fun _ h => by cases h), fun _ _ p hp => q p _ (s1.trans (same_new hp)) (SqT.of upd_same)⟩
    · rw [ek, Int.toNat_natCast]
      have nap : a ≠ p := ne_of_none ha1 hp
      have s2 : ∀ o, Same H1 (upd H1 p o) := fun o => same_new hp
      refine ⟨a, p, _, _, rfl, rfl, SqT.of ((upd_ne nap).trans ha1), SqT.of upd_same, (by rw [List.length_replicate]; show 2 + _ ≤ _; exact sz_of (by omega)), (fun h => by cases h), (fun _ h => ?_), fun _ _ p2 hp2 => q p2 _ (s1.trans ((s2 _).trans (same_new hp2))) (SqT.of upd_same)⟩
      refine q a _ (s1.trans (s2 _)) ?_
      rw [h, List.append_nil]
      exact SqT.of ((upd_ne nap).trans ha1)
  · have hp' : ∀ z d ds, r ≠ .press z d ds := fun z d ds e => hp ⟨z, d, ds, e⟩
    refine ⟨_, rfl, l, _, _, V.str r.word, rfl, rfl, SqL.of hl, at_of (j := 0) rfl rfl, rfl, _, rfl, ?_⟩
    refine ifND (fun e => word_press hp' (V.str.inj e)) ?_
    obtain ⟨o, ho1, ho2⟩ := T.ord (word_ord hnh hp') H
    obtain ⟨es, n, kd⟩ := T.kd_ORDERS
    refine ⟨_, es, n, rfl, kd, _, rfl, l, _, _, V.str r.word, rfl, rfl, SqL.of hl, at_of (j := 0) rfl rfl, r.word, _, V.ref o, rfl, ho1, rfl, ?_⟩
    exact q o H (Same.refl H) ho2
def thD : Th → PyData
  | .nm z => .str z
  | .num i => .int i
  | .digs ds => .tuple (ds.map .int)
  | .dd d => .int d
theorem thV_dp {H : Hp} {v : V} {t : Th} (h : ThV H v t) : Dp K H v (thD t) := by
  have dpa : ∀ ds : List Int, DpAll K H (ds.map V.int) (ds.map PyData.int) := fun ds => by
    induction ds with
    | nil => exact .nil
    | cons a r ih => exact .cons (.int a) ih
  cases t with
  | nm z => rw [show v = .str z from h]; exact .str z
  | num i => rw [show v = .int i from h]; exact .int i
  | dd d => rw [show v = .int d from h]; exact .int d
  | digs ds => obtain ⟨a, rfl, ha⟩ := h; exact .tup (SqT.of ha) (dpa ds)
theorem thD_lay {sort : Str} {t : Th} (h : ThOk sort t) : (thD t).canLay0 = true ∧ (thD t).depth ≤ 1 ∧ PyData.eqv (thD t) .none = false := by
  cases t with
  | nm z => exact ⟨nm_strOk h.2, Nat.zero_le _, rfl⟩
  | num i => exact ⟨rfl, Nat.zero_le _, rfl⟩
  | dd d => exact ⟨rfl, Nat.zero_le _, rfl⟩
  | digs ds =>
    refine ⟨PySem.W.ke_canLayAll0 ds, ?_, rfl⟩
    show (PyData.tuple (ds.map PyData.int)).depth ≤ 1
    simp [PyData.depth, PySem.W.ke_depthAll]
theorem lay_all : ∀ {ts : List (Str × Th)}, (∀ t, t ∈ ts → ThOk t.1 t.2) → PyData.canLayAll0 (ts.map fun t => thD t.2) = true ∧ PyData.depthAll (ts.map fun t => thD t.2) ≤ 1 ∧ ((ts.map fun t => thD t.2).any fun z => PyData.eqv z .none) = false
  | [], _ => ⟨rfl, Nat.zero_le _, rfl⟩
  | t :: r, h => by
    obtain ⟨h1, h2, h3⟩ := thD_lay (h t List.mem_cons_self)
    obtain ⟨g1, g2, g3⟩ := lay_all fun x hx => h x (List.mem_cons_of_mem _ hx)
    refine ⟨?_, ?_, ?_⟩
    · show ((thD t.2).canLay0 && PyData.canLayAll0 (r.map fun t => thD t.2)) = true
      rw [h1, g1] <;> rfl
    · show max (thD t.2).depth (PyData.depthAll (r.map fun t => thD t.2)) ≤ 1
      omega
    · rw [List.map_cons, List.any_cons, h3, g3] <;> rfl
def RowG (H : Hp) (a : Addr) (r : Rw) : Prop := ∃ vs : List V, H a = some (.tup (.str r.word :: vs)) ∧ vs.length = r.things.length ∧ ∀ (j : Nat) (v : V) (t : Str × Th), vs[j]? = some v → r.things[j]? = some t → ThV H v t.2
theorem RowG.one {H : Hp} {a : Addr} {r : Rw} {t0 : Str × Th} (h : RowG H a r) (e : r.things = [t0]) : ∃ v, H a = some (.tup [.str r.word, v]) ∧ ThV H v t0.2 := by
  obtain ⟨vs, h1, h2, h3⟩ := h
  rw [e] at h2 h3
  obtain ⟨v, rfl⟩ := List.length_eq_one_iff.mp h2
  exact ⟨v, h1, h3 0 v t0 rfl rfl⟩
theorem RowG.two {H : Hp} {a : Addr} {r : Rw} {t0 t1 : Str × Th} (h : RowG H a r) (e : r.things = [t0, t1]) : ∃ v u, H a = some (.tup [.str r.word, v, u]) ∧ ThV H v t0.2 ∧ ThV H u t1.2 := by
  obtain ⟨vs, h1, h2, h3⟩ := h
  rw [e] at h2 h3
  match vs, h2 with
  | [v, u], _ => exact ⟨v, u, h1, h3 0 v t0 rfl rfl, h3 1 u t1 rfl rfl⟩
theorem names_of {H : Hp} : ∀ {ds : List Str} {vs : List V}, vs.length = ds.length → (∀ (j : Nat) (v : V) (d : Str), vs[j]? = some v → ds[j]? = some d → v = .str d) → vs = ds.map V.str
  | [], [], _, _ => rfl
  | d :: r, v :: u, hl, h => by
    rw [List.map_cons, ← h 0 v d rfl rfl, ← names_of (H := H) (Nat.succ.inj hl) fun j v d h1 h2 => h (j + 1) v d h1 h2]
theorem RowG.row {H : Hp} {a : Addr} {r : Rw} (h : RowG H a r) : RowV H a r := by
  cases r with
  | house tab key =>
    obtain ⟨v, u, h1, ⟨t, rfl, h2⟩, ⟨k, rfl, h3⟩⟩ := h.two rfl
    exact ⟨t, k, h1, h2, h3⟩
  | door z n f m =>
    obtain ⟨vs, h1, h2, h3⟩ := h
    match vs, h2 with
    | [v, u, x, y], _ =>
      have e0 : v = .str z := h3 0 v _ rfl rfl
      have e1 : u = .int n := h3 1 u _ rfl rfl
      have e2 : x = .int f := h3 2 x _ rfl rfl
      have e3 : y = .int m := h3 3 y _ rfl rfl
      subst e0 e1 e2 e3
      exact h1
  | press z deed dns =>
    obtain ⟨vs, h1, h2, h3⟩ := h
    match vs, h2 with
    | v :: u :: r, h2 =>
      have e0 : v = .str z := h3 0 v _ rfl rfl
      have e1 : u = .int deed := h3 1 u _ rfl rfl
      have hrl : r.length = dns.length := by
        have e : (Rw.press z deed dns).things.length = dns.length + 2 := by simp [Rw.things]
        rw [e] at h2
        exact Nat.succ.inj (Nat.succ.inj h2)
      have e2 : r = dns.map V.str := names_of (H := H) hrl fun j x d g1 g2 => by
        refine h3 (j + 2) x ("name", .nm d) g1 ?_
        show (dns.map fun d => (("name" : Str), Th.nm d))[j]? = _
        rw [List.getElem?_map, g2] <;> rfl
      subst e0 e1 e2
      exact h1
  | button z s =>
    obtain ⟨v, u, h1, h2, h3⟩ := h.two rfl
    have h2 : v = .str z := h2
    have h3 : u = .int s := h3
    subst h2 h3
    exact h1
  | teach d z =>
    obtain ⟨v, u, h1, h2, h3⟩ := h.two rfl
    have h2 : v = .str d := h2
    have h3 : u = .str z := h3
    subst h2 h3
    exact h1
  | play n d =>
    obtain ⟨v, u, h1, h2, h3⟩ := h.two rfl
    have h2 : v = .int n := h2
    have h3 : u = .str d := h3
    subst h2 h3
    exact h1
  | turn ks =>
    obtain ⟨v, h1, k, rfl, h2⟩ := h.one rfl
    exact ⟨k, h1, h2⟩
  | lose z =>
    obtain ⟨v, h1, h2⟩ := h.one rfl
    have h2 : v = .str z := h2
    subst h2
    exact h1
  | tear z =>
    obtain ⟨v, h1, h2⟩ := h.one rfl
    have h2 : v = .str z := h2
    subst h2
    exact h1
  | known z =>
    obtain ⟨v, h1, h2⟩ := h.one rfl
    have h2 : v = .str z := h2
    subst h2
    exact h1
  | now z =>
    obtain ⟨v, h1, h2⟩ := h.one rfl
    have h2 : v = .str z := h2
    subst h2
    exact h1
theorem word_door {r : Rw} (hp : ∀ z n f m, r ≠ .door z n f m) : r.word ≠ "door" := by
  cases r with
  | door z n f m => exact absurd rfl (hp z n f m)
  | press z d ds => exact (by decide +kernel : ("press" : Str) ≠ "door")
  | house t k => exact (by decide +kernel : ("house" : Str) ≠ "door")
  | button z s => exact (by decide +kernel : ("button" : Str) ≠ "door")
  | teach d z => exact (by decide +kernel : ("teach" : Str) ≠ "door")
  | play n d => exact (by decide +kernel : ("play" : Str) ≠ "door")
  | lose z => exact (by decide +kernel : ("lose" : Str) ≠ "door")
  | tear z => exact (by decide +kernel : ("tear" : Str) ≠ "door")
  | turn z => exact (by decide +kernel : ("turn" : Str) ≠ "door")
  | known z => exact (by decide +kernel : ("known" : Str) ≠ "door")
  | now z => exact (by decide +kernel : ("now" : Str) ≠ "door")
theorem cutV1 (x : V) (l : List V) : cutV (x :: l) (some 1) none = l := by
  unfold cutV
  have e : HT.sIx (x :: l).length 0 (some 1) = 1 := by
    show HT.sIx _ 0 (some ((1 : Nat) : Int)) = 1
    rw [HT.sIx_nat]
    show min 1 (l.length + 1) = 1
    omega
  rw [e, HT.sIx_none]
  exact List.take_of_length_le (Nat.le_refl _)
def spRowIn (K : PySem.W.Frag) : Sp := fun vs H Q _ => ∃ (l st : Addr) (r : Rw), vs = [.ref l, .ref st] ∧ H l = some (.lst (r.words.map V.str)) ∧ SqT K H st (r.sorts.map V.str) ∧ r.wf ∧ ∀ a H', Same H H' → RowV H' a r → Q (.ref a) H'
abbrev N_rowIn : List Str := ["words", "sorts", "things", "word", "sort"]
theorem sc_rowIn : FnScope N_rowIn ["words", "sorts"] (defScope s_rowIn) := ⟨rfl, rfl, rfl, by decide +kernel, rfl, by decide +kernel, by decide +kernel⟩
theorem c_rowIn (T : Tx P w K mg base) : Cal P w K mg base "row_in" 4 ["words", "sorts"] (spRowIn K) := by
  refine cal_mk T.df_rowIn T.g_rowIn sc_rowIn (fun _ _ _ _ _ _ us hl => match us, hl with | [_, _], _ => rfl) ?len (fun f cdv A outer s H vs Q E hr h => ?body)
  case len => walk_at "len"
  have nd := sc_rowIn.nd
  refine ⟨_, (pss_cons (ps_if (PW.pt (pw_or (pt_cmp (pc_isN (pv 1))) (pw_or1 (pt_cmpR op_ne (pe_callB call_len_seq (by rfl) T.f_len (by decide +kernel) (pa_cons (pv 0) pa_nil)) (pe_op op_add (pe_callB call_len_seq (by rfl) T.f_len (by decide +kernel) (pa_cons (pv 1) pa_nil)) pe_int) (nomark _))))) (pss_one (ps_ret pe_non)) pss_nil)
    (pss_cons (ps_setLc (i := 2) (own := [("word", 3), ("sort", 4)]) (g := gTup K 2 (gCons (gName 3) (gCons (gName 4) gNil))) (tt := tYes) rfl nd rfl rfl (sw_true rfl rfl rfl (by decide +kernel)) (pi_zipK true false (by rfl) T.f_zip (pa_cons (pe_slice sl_list (pv 0) (po_some pe_int) po_none) (pa_cons (pv 1) pa_nil))) (blkOk_by (own := [("word", 3), ("sort", 4)]) (N := N_rowIn) (sc := defScope s_rowIn) (by decide +kernel)) (fun _ _ _ _ _ => (pg_tup rfl (pgs_cons (pg_name (i := 3) nd rfl (Or.inl rfl)) (pgs_cons (pg_name (i := 4) nd rfl (Or.inl rfl)) pgs_nil)))) (fun _ _ _ _ _ => pts_nil) (fun _ _ _ _ _ => (pe_c (c_thingIn T) (hr.mono (by decide)) (pa_cons (pv 3) (pa_cons (pv 4) pa_nil)))))
    (pss_cons (ps_if (PW.pt (pw_or (pt_cmpR (op_inD (u65 hr)) pe_non (pv 2) (by with_unfolding_all rfl)) (pw_or1 (PW.pt (pw_and (pt_cmpR op_eq (pe_ix ix_list (pv 0) pe_int (fun _ _ => rfl)) pe_str (nomark _)) (pw_and1 (pt_cmpR op_lt (pe_ix ix_list (pv 2) pe_int (fun _ _ => rfl)) (pe_ix ix_list (pv 2) pe_int (fun _ _ => rfl)) (nomark _)))))))) (pss_one (ps_ret pe_non)) pss_nil)
    (pss_one (ps_ret (pe_op op_catA (pe_tup (pa_cons (pe_ix ix_list (pv 0) pe_int (fun _ _ => rfl)) pa_nil)) (pe_callTy (T := "tuple") call_tuple_of (by rfl) T.f_tuple (by decide +kernel) (pa_cons (pv 2) pa_nil)))))))), ?_⟩
  obtain ⟨l, st, r, rfl, hl, hst, hw, q⟩ := h
  have hok := wf_things hw
  have htl := things_len hw
  have hwl : (r.words.map V.str).length = r.things.length + 1 := by simp [Rw.words]
  have hsl : (r.sorts.map V.str).length = r.things.length := by simp [Rw.sorts]
  refine ⟨_, rfl, _, rfl, ?_⟩
  refine ifND (fun z => by cases z) ?_
  refine ⟨_, rfl, _, _, rfl, Or.inl (SqL.of hl), _, rfl, _, _, rfl, Or.inr hst, _, _, rfl, rfl, rfl, _, rfl, ?_⟩
  refine ifnD (by rw [hwl, hsl] <;> rfl) ?_
  refine ⟨_, rfl, _, rfl, l, _, rfl, SqL.of hl, fun p hp => ?_⟩
  generalize e1 : upd H p _ = H1
  have s1 : Same H H1 := by rw [← e1]; exact same_new hp
  have hp1 : H1 p = some (.lst ((r.things.map fun t => t.2.word).map V.str)) := by
    rw [← e1, upd_same]
    show some (HO.lst (cutV (V.str r.word :: (r.things.map fun t => t.2.word).map V.str) (some 1) none)) = _
    rw [cutV1]
  clear e1
  have hst1 : SqT K H1 st (r.sorts.map V.str) := same_seqT s1 hst
  have hl1 := s1 _ _ hl
  have hzl : ((r.things.map fun t => t.2.word).map V.str).length = (r.sorts.map V.str).length := by simp [Rw.sorts]
  have hzl2 : ((r.things.map fun t => t.2.word).map V.str).length = r.things.length := by simp
  refine ⟨_, rfl, p, st, _, _, rfl, SqL.of hp1, hst1, fun D hD => lc_it (walk_zipK hzl) (fun i H' => Same H1 H' ∧ ∃ vs : List V, H' D = some (.lst vs) ∧ vs.length = i ∧ ∀ (j : Nat) (v : V) (t : Str × Th), vs[j]? = some v → r.things[j]? = some t → ThV H' v t.2) ⟨same_new hD, [], upd_same, rfl, fun j v t h => by cases h⟩
    (fun i H' _ g => ⟨g.1.seq (SqL.of hp1), same_seqT g.1 hst1⟩) (fun i x H2 H3 hi g y => ?_) (fun H2 g => ?_)⟩
  · obtain ⟨s2, vs, hvs, hvl, hv⟩ := g
    obtain ⟨Tp, x1, y1, rfl, hT, rfl, ex, ey⟩ := y
    obtain ⟨w1, hw1, rfl⟩ := map_get ex
    obtain ⟨t1, ht1, rfl⟩ := map_get hw1
    obtain ⟨w2, hw2, rfl⟩ := map_get ey
    obtain ⟨t2, ht2, rfl⟩ := map_get (f := Prod.fst) (l := r.things) hw2
    obtain rfl : t1 = t2 := Option.some.inj (ht1.symm.trans ht2)
    have nDT : D ≠ Tp := ne_of_none hvs hT
    refine ⟨Tp, _, rfl, SqT.of upd_same, rfl, _, _, rfl, _, _, rfl, rfl, rfl, ?_⟩
    refine ⟨_, rfl, _, rfl, t1.2, t1.1, rfl, hok t1 (List.mem_of_getElem? ht1), fun v H4 s4 hv4 => ?_⟩
    have s24 : Same H2 H4 := (same_new hT).trans s4
    have hD4 := s24 _ _ hvs
    have tkD : ∀ o, TupK H4 (upd H4 D o) := fun o => (TupK.refl H4).upd (fun xs e => by rw [hD4] at e; cases e)
    refine ⟨vs, hD4, ?_, same_mut (s2.trans s24) hD, vs ++ [v], upd_same, by rw [List.length_append, hvl] <;> rfl, fun j v' t' h1 h2 => ?_⟩
    · have := (List.getElem?_eq_some_iff.mp ht1).1
      exact sz_lt (by omega)
    · by_cases hj : j < vs.length
      · rw [List.getElem?_append_left hj] at h1
        exact ((hv j v' t' h1 h2).tk (.of s24)).tk (tkD _)
      · rw [List.getElem?_append_right (by omega)] at h1
        have hj0 : j - vs.length = 0 := by
          have := (List.getElem?_eq_some_iff.mp h1).1
          simp at this
          omega
        rw [hj0] at h1
        obtain rfl : v = v' := Option.some.inj h1
        have ej : j = i := by omega
        subst ej
        obtain rfl : t1 = t' := Option.some.inj (ht1.symm.trans h2)
        exact hv4.tk (tkD _)
  obtain ⟨s2, vs, hvs, hvl, hv⟩ := g
  rw [hzl2] at hvl
  have hdp : Dp K H2 (.ref D) (.list (r.things.map fun t => thD t.2)) := by
    refine .lst (SqL.of hvs) ?_
    have all : ∀ (us : List V) (ts : List (Str × Th)), us.length = ts.length → (∀ (j : Nat) (v : V) (t : Str × Th), us[j]? = some v → ts[j]? = some t → ThV H2 v t.2) → DpAll K H2 us (ts.map fun t => thD t.2) := by
      intro us
      induction us with
      | nil =>
        intro ts hlen _
        cases ts with
        | nil => exact .nil
        | cons a b => cases hlen
      | cons u us ih =>
        intro ts hlen hall
        cases ts with
        | nil => cases hlen
        | cons a b => exact .cons (thV_dp (hall 0 u a rfl rfl)) (ih b (Nat.succ.inj hlen) fun j v t h1 h2 => hall (j + 1) v t h1 h2)
    exact all vs r.things hvl hv
  obtain ⟨lay1, lay2, lay3⟩ := lay_all hok
  have hsh : SeqAt.shaped (.list (r.things.map fun t => thD t.2)) = true := by
    show (PyData.canLayAll0 _ && decide ((PyData.list (r.things.map fun t => thD t.2)).depth ≤ 64)) = true
    rw [lay1]
    have : (PyData.list (r.things.map fun t => thD t.2)).depth ≤ 64 := by
      simp only [PyData.depth]
      omega
    rw [decide_eq_true this] <;> rfl
  have hl2 := s2 _ _ hl1
  refine ⟨_, rfl, .none, _, .non, hdp, rfl, hsh, _, rfl, ?_⟩
  refine ifF lay3 ?_
  refine ⟨_, rfl, l, _, _, V.str r.word, rfl, rfl, SqL.of hl2, at_of (j := 0) rfl rfl, rfl, _, rfl, ?_⟩
  have fin : ∀ t : TS, t = tRet (tOp (rCatA K) (tTup (tCons (tOp (rIxL K) (tVar 0) (tC (.int 0))) tNil)) (tCB (rTupOf K) (tCons (tVar 2) tNil))) → ∀ D2 : Ends, D2.rt = Q → t D2 [some (.ref l), some (.ref st), some (.ref D), none, none] H2 := by
    rintro t rfl D2 hD2
    refine ⟨_, rfl, l, _, _, V.str r.word, rfl, rfl, SqL.of hl2, at_of (j := 0) rfl rfl, (by show 1 ≤ sizeLine; decide), fun a ha => ?_⟩
    have nDa : D ≠ a := ne_of_none hvs ha
    refine ⟨_, rfl, D, _, rfl, Or.inl ⟨SqL.of ((upd_ne nDa).trans hvs), fun b hb => ?_⟩⟩
    have nab : a ≠ b := ne_of_none upd_same hb
    refine ⟨a, b, _, _, rfl, rfl, SqT.of ((upd_ne nab).trans upd_same), SqT.of upd_same, (by show 1 + vs.length ≤ sizeLine; exact sz_of (by omega)), (fun h => by cases h), (fun _ h => ?_), fun _ _ c hc => ?_⟩
    · exfalso
      have : 1 ≤ r.things.length := by
        cases r <;> first | exact Nat.le_of_ble_eq_true rfl | exact Nat.le_add_left 1 _
      rw [h] at hvl
      rw [← hvl] at this
      cases this
    · have s3 : ∀ o1 o2 o3, (upd (upd H2 a o1) b o2) c = none → Same H2 (upd (upd (upd H2 a o1) b o2) c o3) := fun o1 o2 o3 h => (same_new ha).trans ((same_new (by rw [upd_ne nab.symm] at hb ⊢; exact hb)).trans (same_new h))
      rw [hD2]
      refine q c _ (s1.trans (s2.trans (s3 _ _ _ hc))) (RowG.row ⟨vs, upd_same, hvl, fun j v t h1 h2 => (hv j v t h1 h2).tk (.of (s3 _ _ _ hc))⟩)
  by_cases hp2 : ∃ z n f m, r = .door z n f m
  · obtain ⟨z, n, f, m, rfl⟩ := hp2
    have hnf := hw.2.2.2.2
    refine ifD rfl ?_
    match vs, hvl, hv, hvs, fin with
    | [v0, v1, v2, v3], _, hv, hvs, fin =>
      have e1 : v1 = .int n := hv 1 v1 _ rfl rfl
      have e2 : v2 = .int f := hv 2 v2 _ rfl rfl
      refine ⟨_, rfl, D, _, _, v2, rfl, rfl, SqL.of hvs, rfl, _, rfl, D, _, _, v1, rfl, rfl, SqL.of hvs, rfl, _, _, e2, e1, _, rfl, ?_⟩
      refine ifND (by omega) ?_
      exact fin _ rfl _ rfl
  · refine ifND (fun e => word_door (fun z n f m e => hp2 ⟨z, n, f, m, e⟩) (V.str.inj e)) ?_
    exact fin _ rfl _ rfl
end
end K69
end
section
set_option Elab.async false
set_option linter.all false
set_option maxRecDepth 100000
set_option maxHeartbeats 4000000
local macro_rules | `(tactic| walk_at "len") => `(tactic| (intro vs H Q E h; first
  | (obtain ⟨e, _⟩ := h; subst e; rfl) | (obtain ⟨_, e, _⟩ := h; subst e; rfl) | (obtain ⟨_, _, e, _⟩ := h; subst e; rfl) | (obtain ⟨_, _, _, e, _⟩ := h; subst e; rfl) | (obtain ⟨_, _, _, _, e, _⟩ := h; subst e; rfl)
  | (obtain ⟨_, _, _, _, _, e, _⟩ := h; subst e; rfl) | (obtain ⟨_, _, _, _, _, _, e, _⟩ := h; subst e; rfl) | (obtain ⟨_, _, _, _, _, _, _, e, _⟩ := h; subst e; rfl) | (obtain ⟨_, _, _, _, _, _, _, _, e, _⟩ := h; subst e; rfl)
  | (obtain ⟨_, _, _, _, _, _, _, _, _, e, _⟩ := h; subst e; rfl) | (obtain ⟨_, _, _, _, _, _, _, _, _, _, e, _⟩ := h; subst e; rfl) | (obtain ⟨_, _, _, _, _, _, _, _, _, _, _, e, _⟩ := h; subst e; rfl)))
local macro_rules | `(tactic| walk_at "hh") => `(tactic| first
  | assumption
  | exact L2.upd_same
  | (refine (L2.upd_ne (by walk_at "ne")).trans ?_; walk_at "hh")
  | (refine (‹L2.Same _ _› : L2.Same _ _) _ _ ?_; walk_at "hh"))
local macro_rules | `(tactic| walk_at "ne") => `(tactic| first
  | assumption
  | (apply Ne.symm; assumption)
  | exact L2.ne_of_none (by walk_at "hh") (by assumption)
  | exact (L2.ne_of_none (by walk_at "hh") (by assumption)).symm)
local macro_rules | `(tactic| walk_at "s") => `(tactic| first
  | refine ⟨_, rfl, ?_⟩
  | refine ⟨_, _, _, rfl, (by walk_at "hh"), ?_⟩
  | refine ⟨rfl, ?_⟩
  | refine ⟨_, _, rfl, rfl, ?_⟩)
local macro_rules | `(tactic| walk_at "isi int") => `(tactic| refine ⟨_, _, _, _, true, rfl, .ty "int", .base (.int _), L2.kit_ty (by decide +kernel), ?_⟩)
local macro_rules | `(tactic| walk_at "isi bool") => `(tactic| refine ⟨_, _, _, _, false, rfl, .ty "bool", .base (.int _), L2.kit_ty (by decide +kernel), ?_⟩)
local macro_rules | `(tactic| walk_at "isi tuple") => `(tactic| refine ⟨_, _, _, _, true, rfl, .ty "tuple", .base (.tup (by assumption)), L2.kit_ty (by decide +kernel), ?_⟩)
local macro_rules | `(tactic| walk_at "isi str") => `(tactic| refine ⟨_, _, _, _, true, rfl, .ty "str", .base (.str _), L2.kit_ty (by decide +kernel), ?_⟩)
local macro_rules | `(tactic| walk_at "v") => `(tactic| refine ⟨_, rfl, ?_⟩)
local macro_rules | `(tactic| walk_at "ii") => `(tactic| refine ⟨_, _, rfl, rfl, ?_⟩)
namespace K69
open PySem PySem.Spec PyProof.Rows L2
/-! ### a sheet's text -/
def rowTx (r : Rw) : Str := Txt.join " " r.words
def sheetTx (rs : List Rw) : Str := Txt.join "\n" (rs.map rowTx)
theorem nm_signs {z : Str} (h : IsNm z) : ∀ c ∈ TL.tl z, 48 ≤ c := fun c hc => by have := h.low c hc; omega
theorem hexC_ge {d : Int} (h : 0 ≤ d ∧ d < 16) : 48 ≤ hexC d := by
  have all : ("0123456789abcdef" : Str).cps.toList.all (fun c => decide (48 ≤ c)) = true := by decide +kernel
  exact of_decide_eq_true (List.all_eq_true.mp all _ (hexC_mem h))
theorem hexs_signs {ds : List Int} (h : Digs ds) : ∀ c ∈ TL.tl (hexsS ds), 48 ≤ c := fun c hc => by
  obtain ⟨d, hd, rfl⟩ := List.mem_map.mp (show c ∈ ds.map hexC from hc)
  exact hexC_ge (h d hd)
theorem num_signs {i : Int} (h : 0 ≤ i) : ∀ c ∈ TL.tl (numS i), 48 ≤ c := fun c hc => by
  rw [tl_numS h] at hc
  exact (TL.numL_digits _ c hc).1
theorem th_signs {sort : Str} {t : Th} (h : ThOk sort t) : ∀ c ∈ TL.tl t.word, 48 ≤ c := by
  cases t with
  | nm z => exact nm_signs h.2
  | num i =>
    obtain ⟨_, _, _, _, _, _, h0, _⟩ := h
    exact num_signs h0
  | digs ds =>
    rcases h with ⟨_, h⟩ | ⟨_, h⟩
    · exact hexs_signs h.dig
    · exact hexs_signs h.dig
  | dd d => exact hexs_signs fun x hx => by rw [List.mem_singleton.mp hx]; exact h.2
theorem word_signs (r : Rw) : (∀ c ∈ TL.tl r.word, 48 ≤ c) ∧ TL.tl r.word ≠ [] := by
  have f : ∀ z : Str, ((TL.tl z).all fun c => decide (48 ≤ c)) = true → ∀ c ∈ TL.tl z, 48 ≤ c := fun z h c hc => of_decide_eq_true (List.all_eq_true.mp h c hc)
  cases r with
  | door z n f' m => exact ⟨f "door" (by decide +kernel), (by decide +kernel : TL.tl ("door" : Str) ≠ [])⟩
  | press z d ds => exact ⟨f "press" (by decide +kernel), (by decide +kernel : TL.tl ("press" : Str) ≠ [])⟩
  | house t k => exact ⟨f "house" (by decide +kernel), (by decide +kernel : TL.tl ("house" : Str) ≠ [])⟩
  | button z s => exact ⟨f "button" (by decide +kernel), (by decide +kernel : TL.tl ("button" : Str) ≠ [])⟩
  | teach d z => exact ⟨f "teach" (by decide +kernel), (by decide +kernel : TL.tl ("teach" : Str) ≠ [])⟩
  | play n d => exact ⟨f "play" (by decide +kernel), (by decide +kernel : TL.tl ("play" : Str) ≠ [])⟩
  | lose z => exact ⟨f "lose" (by decide +kernel), (by decide +kernel : TL.tl ("lose" : Str) ≠ [])⟩
  | tear z => exact ⟨f "tear" (by decide +kernel), (by decide +kernel : TL.tl ("tear" : Str) ≠ [])⟩
  | turn z => exact ⟨f "turn" (by decide +kernel), (by decide +kernel : TL.tl ("turn" : Str) ≠ [])⟩
  | known z => exact ⟨f "known" (by decide +kernel), (by decide +kernel : TL.tl ("known" : Str) ≠ [])⟩
  | now z => exact ⟨f "now" (by decide +kernel), (by decide +kernel : TL.tl ("now" : Str) ≠ [])⟩
theorem words_signs {r : Rw} (h : r.wf) : ∀ w, w ∈ r.words → ∀ c ∈ TL.tl w, 48 ≤ c := fun w hw => by
  rcases List.mem_cons.mp hw with e | e
  · rw [e]; exact (word_signs r).1
  · obtain ⟨t, ht, rfl⟩ := List.mem_map.mp e
    exact th_signs (wf_things h t ht)
theorem split_row {r : Rw} (h : r.wf) : Txt.split (rowTx r) " " = r.words :=
  TL.split_join (s := 32) (S := []) rfl (by decide +kernel) (List.cons_ne_nil _ _) fun w hw hc => absurd (words_signs h w hw 32 hc) (by decide)
theorem joinL_mem {S : List Nat} {c : Nat} : ∀ {ps : List (List Nat)}, c ∈ TL.joinL S ps → (∃ p, p ∈ ps ∧ c ∈ p) ∨ c ∈ S
  | [], h => by cases h
  | [a], h => .inl ⟨a, List.mem_cons_self, h⟩
  | a :: b :: r, h => by
    rcases List.mem_append.mp (show c ∈ a ++ (S ++ TL.joinL S (b :: r)) from h) with h | h
    · exact .inl ⟨a, List.mem_cons_self, h⟩
    rcases List.mem_append.mp h with h | h
    · exact .inr h
    · rcases joinL_mem h with ⟨p, hp, hc⟩ | h
      · exact .inl ⟨p, List.mem_cons_of_mem _ hp, hc⟩
      · exact .inr h
theorem row_signs {r : Rw} (h : r.wf) : ∀ c ∈ TL.tl (rowTx r), 48 ≤ c ∨ c = 32 := fun c hc => by
  unfold rowTx at hc
  rw [TL.join_eq, TL.tl_join] at hc
  rcases joinL_mem hc with ⟨p, hp, h2⟩ | h2
  · obtain ⟨w, hw, rfl⟩ := List.mem_map.mp hp
    exact .inl (words_signs h w hw c h2)
  · exact .inr (List.mem_singleton.mp h2)
theorem row_ne (r : Rw) : rowTx r ≠ "" := by
  intro e
  have e2 : TL.tl (rowTx r) = [] := by rw [e] <;> rfl
  unfold rowTx at e2
  rw [TL.join_eq, TL.tl_join] at e2
  unfold Rw.words at e2
  have hw := (word_signs r).2
  cases hq : (r.things.map fun t => t.2.word) with
  | nil => rw [hq] at e2; exact hw e2
  | cons a b =>
    rw [hq] at e2
    exact hw (List.append_eq_nil_iff.mp e2).1
theorem split_sheet {rs : List Rw} (hne : rs ≠ []) (h : ∀ r, r ∈ rs → r.wf) : Txt.split (sheetTx rs) "\n" = rs.map rowTx :=
  TL.split_join (s := 10) (S := []) rfl (by decide +kernel) (fun e => hne (List.map_eq_nil_iff.mp e)) fun w hw hc => by
    obtain ⟨r, hr, rfl⟩ := List.mem_map.mp hw
    rcases row_signs (h r hr) 10 hc with h | h
    · exact absurd h (by decide)
    · exact absurd h (by decide)
/-- a sheet: a house, then rows of other kinds -/
structure Sheet (rs : List Rw) : Prop where
  hd : ∃ t k rest, rs = .house t k :: rest ∧ ∀ r, r ∈ rest → ∀ t k, r ≠ .house t k
  wf : ∀ r, r ∈ rs → r.wf
  len : rs.length ≤ 120
  sz : ∀ r, r ∈ rs → (rowTx r).length ≤ 1000
theorem Sheet.size {rs : List Rw} (h : Sheet rs) : (sheetTx rs).length + 2 ≤ sizeLine := by
  have h1 := join_len "\n" (rs.map rowTx)
  have h2 := sum_le (l := (rs.map rowTx).map (·.length)) (k := 1000) (fun x hx => by
    obtain ⟨y, hy, rfl⟩ := List.mem_map.mp hx
    obtain ⟨r, hr, rfl⟩ := List.mem_map.mp hy
    exact h.sz r hr)
  have h3 := h.len
  rw [List.length_map, List.length_map] at h2
  rw [List.length_map] at h1
  have h4 : ("\n" : Str).length = 1 := rfl
  rw [h4] at h1
  rw [sizeLine_eq]
  unfold sheetTx
  omega
section
variable {P : Program} {w : World} {K : PySem.W.Frag} {mg : Str → Option Value} {base : Heap}
def RowsV (H : Hp) (as : List Addr) (rs : List Rw) : Prop := as.length = rs.length ∧ ∀ (i : Nat) (x : Addr) (r : Rw), as[i]? = some x → rs[i]? = some r → RowV H x r
theorem RowsV.tk {H H' : Hp} {as : List Addr} {rs : List Rw} (s : TupK H H') (h : RowsV H as rs) : RowsV H' as rs := ⟨h.1, fun i x r h1 h2 => (h.2 i x r h1 h2).tk s⟩
def spReadSheet : Sp := fun vs H Q _ => ∃ (rs : List Rw), vs = [.str (sheetTx rs)] ∧ Sheet rs ∧ ∀ (a : Addr) (as : List Addr) (H' : Hp), Same H H' → H' a = some (.tup (as.map V.ref)) → RowsV H' as rs → Q (.ref a) H'
abbrev N_readSheet : List Str := ["text", "found", "rows", "number", "row", "words", "made"]
theorem sc_readSheet : FnScope N_readSheet ["text"] (defScope s_readSheet) := ⟨rfl, rfl, rfl, by decide +kernel, rfl, by decide +kernel, by decide +kernel⟩
theorem c_readSheet (T : Tx P w K mg base) : Cal P w K mg base "read_sheet" 5 ["text"] (spReadSheet) := by
  refine cal_mk T.df_readSheet T.g_readSheet sc_readSheet (fun _ _ _ _ _ _ us hl => match us, hl with | [_], _ => rfl) ?len (fun f cdv A outer s H vs Q E hr h => ?body)
  case len => walk_at "len"
  have nd := sc_readSheet.nd
  refine ⟨_, (pss_cons (ps_set (i := 1) nd rfl (Or.inl rfl) (pe_lst pa_nil))
    (pss_cons (ps_set (i := 2) nd rfl (Or.inl rfl) (pe_split (pv 0) pe_str))
    (pss_cons (ps_for PassesOwn.never rfl (pi_enumK true (by rfl) T.f_enumerate (pa_cons (pv 2) pa_nil)) (pg_tup rfl (pgs_cons (pg_name (i := 3) nd rfl (Or.inl rfl)) (pgs_cons (pg_name (i := 4) nd rfl (Or.inl rfl)) pgs_nil)))
    (pss_cons (ps_if (pt_cmpR op_ge (pv 3) (pe_gi T.i_MOST_ROWS) (nomark _)) (pss_one ps_never) pss_nil)
    (pss_cons (ps_if (pt_cmpR op_eq (pv 4) pe_str (nomark _)) (pss_one ps_continue) pss_nil)
    (pss_cons (ps_set (i := 5) nd rfl (Or.inl rfl) (pe_split (pv 4) pe_str))
    (pss_cons (ps_if (pt_cmpR op_eq (pe_callB call_len_seq (by rfl) T.f_len (by decide +kernel) (pa_cons (pv 1) pa_nil)) pe_int (nomark _)) (pss_one (ps_set (i := 6) nd rfl (Or.inl rfl) (pe_ifExp (pt_cmpR op_eq (pe_ix ix_list (pv 5) pe_int (fun _ _ => rfl)) pe_str (nomark _)) (pe_c (c_rowIn T) (hr.mono (by decide)) (pa_cons (pv 5) (pa_cons (pe_tup (pa_cons pe_str (pa_cons pe_str pa_nil))) pa_nil))) pe_non))) (pss_one (ps_set (i := 6) nd rfl (Or.inl rfl) (pe_c (c_rowIn T) (hr.mono (by decide)) (pa_cons (pv 5) (pa_cons (pe_c (c_sortsOf T) (hr.mono (by decide)) (pa_cons (pv 5) pa_nil)) pa_nil))))))
    (pss_cons (ps_if (pt_cmp (pc_isN (pv 6))) (pss_one ps_never) pss_nil)
    (pss_one (ps_expr (pe_bm PySem.F.plainAttrs_list PySem.F.slot_list_append PySem.F.type_list_append mt_append (pv 1) (pa_cons (pv 6) pa_nil))))))))))
    (pss_cons (ps_if (pt_cmpR op_eq (pe_callB call_len_seq (by rfl) T.f_len (by decide +kernel) (pa_cons (pv 1) pa_nil)) pe_int (nomark _)) (pss_one ps_never) pss_nil)
    (pss_one (ps_ret (pe_callTy (T := "tuple") call_tuple_of (by rfl) T.f_tuple (by decide +kernel) (pa_cons (pv 1) pa_nil)))))))), ?_⟩
  obtain ⟨rs, rfl, hS, q⟩ := h
  have hlen := hS.len
  obtain ⟨tb, ky, rest, hrs, hnh⟩ := hS.hd
  have hne : rs ≠ [] := by rw [hrs]; exact List.cons_ne_nil _ _
  have hsp := split_sheet hne hS.wf
  refine ⟨(by show 0 ≤ sizeLine; decide), fun l hl => ?_⟩
  refine ⟨_, rfl, ⟨_, rfl⟩, _, _, rfl, rfl, rfl, hS.size, fun p hp => ?_⟩
  rw [hsp] at *
  have nlp : l ≠ p := ne_of_none upd_same hp
  generalize e1 : upd (upd H l _) p _ = H1
  have s1 : Same H H1 := by rw [← e1]; exact (same_new hl).trans (same_new hp)
  have hl1 : H1 l = some (.lst []) := by rw [← e1, upd_ne nlp]; exact upd_same
  have hp1 : H1 p = some (.lst ((rs.map rowTx).map V.str)) := by rw [← e1]; exact upd_same
  clear e1
  have hpl : ((rs.map rowTx).map V.str).length = rs.length := by rw [List.length_map, List.length_map]
  refine ⟨_, rfl, p, _, rfl, SqL.of hp1, for_it (walk_enumK (xs := (rs.map rowTx).map V.str)) (fun i σ H' => ∃ (as : List Addr) (v3 v4 v5 v6 : Option V), σ = [some (.str (sheetTx rs)), some (.ref l), some (.ref p), v3, v4, v5, v6] ∧ Same H H' ∧ H' p = some (.lst ((rs.map rowTx).map V.str)) ∧ H' l = some (.lst (as.map V.ref)) ∧ as.length = i ∧
    ∀ (j : Nat) (x : Addr) (r : Rw), as[j]? = some x → rs[j]? = some r → RowV H' x r) ⟨[], none, none, none, none, rfl, s1, hp1, hl1, rfl, fun j x r h => by cases h⟩ (fun i σ H' _ g => ?_) (fun i x σ H2 H3 hi g y => ?_) (fun σ H2 g => ?_)⟩
  · obtain ⟨as, v3, v4, v5, v6, _, _, g1, _⟩ := g
    exact SqL.of g1
  · obtain ⟨as, v3, v4, v5, v6, rfl, s2, hp2, hl2, hal, hrows⟩ := g
    obtain ⟨Tp, x1, y1, rfl, hT, rfl, ex, ey⟩ := y
    obtain rfl : V.int (i : Nat) = x1 := Option.some.inj ex
    obtain ⟨tx, htx, rfl⟩ := map_get ey
    obtain ⟨r, hr, rfl⟩ := map_get htx
    rw [hpl] at hi
    have hrm := List.mem_of_getElem? hr
    have hw := hS.wf r hrm
    refine ⟨Tp, _, rfl, SqT.of upd_same, rfl, _, _, rfl, _, _, rfl, rfl, ?_⟩
    have s3 : Same H2 (upd H2 Tp (.tup [.int (i : Nat), .str (rowTx r)])) := same_new hT
    generalize upd H2 Tp _ = H3 at s3 ⊢
    refine ⟨_, rfl, _, _, rfl, rfl, _, rfl, ?_⟩
    refine ifND (by show ¬ (120 : Int) ≤ (i : Nat); omega) ?_
    refine ⟨_, rfl, rfl, _, rfl, ?_⟩
    refine ifND (fun e => row_ne r (V.str.inj e)) ?_
    have hrl := hS.sz r hrm
    refine ⟨_, rfl, ⟨_, rfl⟩, _, _, rfl, rfl, rfl, sz_of (by omega), fun p2 hp20 => ?_⟩
    rw [split_row hw]
    generalize e4 : upd H3 p2 _ = H4
    have s4 : Same H3 H4 := by rw [← e4]; exact same_new hp20
    have hp24 : H4 p2 = some (.lst (r.words.map V.str)) := by rw [← e4]; exact upd_same
    clear e4
    have s24 := s3.trans s4
    have hl4 := s24 _ _ hl2
    have app : ∀ (a : Addr) (H5 : Hp), Same H4 H5 → RowV H5 a r → ∀ t : TS, t = tSeq (tIfS (tB (tIsN (tVar 6))) tNever tNext) (tDrop (tBM K "list" rAppend (tVar 1) (tCons (tVar 6) tNil))) → ∀ D2 : Ends,
        D2.nx = (fun σ H' => ∃ (as : List Addr) (v3 v4 v5 v6 : Option V), σ = [some (.str (sheetTx rs)), some (.ref l), some (.ref p), v3, v4, v5, v6] ∧ Same H H' ∧ H' p = some (.lst ((rs.map rowTx).map V.str)) ∧ H' l = some (.lst (as.map V.ref)) ∧ as.length = i + 1 ∧
          ∀ (j : Nat) (x : Addr) (r : Rw), as[j]? = some x → rs[j]? = some r → RowV H' x r) →
        t D2 [some (.str (sheetTx rs)), some (.ref l), some (.ref p), some (.int (i : Nat)), some (.str (rowTx r)), some (.ref p2), some (.ref a)] H5 := by
      rintro a H5 s5 ha t rfl D2 hD2
      have s25 := s24.trans s5
      have hl5 := s25 _ _ hl2
      refine ⟨_, rfl, _, rfl, ?_⟩
      refine ifND (fun z => by cases z) ?_
      refine ⟨_, rfl, Or.inl ⟨rfl, _, SqL.of hl5⟩, _, rfl, l, _, _, rfl, rfl, hl5, (by rw [List.length_map]; exact sz_lt (by omega)), ?_⟩
      have tkl : ∀ o, TupK H5 (upd H5 l o) := fun o => (TupK.refl H5).upd (fun xs e => by rw [hl5] at e; cases e)
      rw [hD2]
      refine ⟨as ++ [a], _, _, _, _, rfl, same_mut (s2.trans s25) hl, (upd_ne nlp.symm).trans (s25 _ _ hp2), ?_, by rw [List.length_append, hal] <;> rfl, fun j x r' h1 h2 => ?_⟩
      · rw [List.map_append]
        exact upd_same
      · by_cases hj : j < as.length
        · rw [List.getElem?_append_left hj] at h1
          exact ((hrows j x r' h1 h2).tk (.of s25)).tk (tkl _)
        · rw [List.getElem?_append_right (by omega)] at h1
          have hj0 : j - as.length = 0 := by
            have := (List.getElem?_eq_some_iff.mp h1).1
            simp at this
            omega
          rw [hj0] at h1
          obtain rfl : a = x := Option.some.inj h1
          have ej : j = i := by omega
          subst ej
          obtain rfl : r = r' := Option.some.inj (hr.symm.trans h2)
          exact ha.tk (tkl _)
    refine ⟨_, rfl, l, _, rfl, Or.inl (SqL.of hl4), rfl, _, rfl, ?_⟩
    by_cases hi0 : i = 0
    · refine ifD (by rw [List.length_map, hal, hi0] <;> rfl) ?_
      rw [hrs, hi0] at hr
      obtain rfl : Rw.house tb ky = r := Option.some.inj hr
      refine ⟨_, rfl, p2, _, _, V.str "house", rfl, rfl, SqL.of hp24, at_of (j := 0) rfl rfl, rfl, _, rfl, ?_⟩
      refine ifD rfl ?_
      refine ⟨_, rfl, (by show 2 ≤ sizeLine; decide), fun st hst => ?_⟩
      have s5 : ∀ o, Same H4 (upd H4 st o) := fun o => same_new hst
      refine ⟨p2, st, .house tb ky, rfl, s5 _ _ _ hp24, SqT.of upd_same, hw, fun a H6 s6 ha => ?_⟩
      exact app a H6 ((s5 _).trans s6) ha _ rfl _ rfl
    · refine ifND (by rw [List.length_map, hal]; intro e; have := V.int.inj e; omega) ?_
      have hnhr : ∀ t k, r ≠ .house t k := by
        rw [hrs] at hr
        obtain ⟨j, rfl⟩ : ∃ j, i = j + 1 := ⟨i - 1, by omega⟩
        exact hnh r (List.mem_of_getElem? (show rest[j]? = some r from hr))
      refine ⟨_, rfl, _, rfl, p2, r, rfl, hp24, hw, hnhr, fun st H5 s5 hst => ?_⟩
      refine ⟨p2, st, r, rfl, s5 _ _ hp24, hst, hw, fun a H6 s6 ha => ?_⟩
      exact app a H6 (s5.trans s6) ha _ rfl _ rfl
  · obtain ⟨as, v3, v4, v5, v6, rfl, s2, hp2, hl2, hal, hrows⟩ := g
    rw [hpl] at hal
    have hpos : 1 ≤ rs.length := by rw [hrs]; exact Nat.le_add_left 1 _
    refine ⟨_, rfl, l, _, rfl, Or.inl (SqL.of hl2), rfl, _, rfl, ?_⟩
    refine ifND (by rw [List.length_map, hal]; intro e; have := V.int.inj e; omega) ?_
    refine ⟨_, rfl, l, _, rfl, Or.inl ⟨SqL.of hl2, fun a ha => ?_⟩⟩
    exact q a as _ (s2.trans (same_new ha)) upd_same ⟨hal, fun i x r h1 h2 => (hrows i x r h1 h2).tk (.of (same_new ha))⟩
end
end K69
end
section
set_option Elab.async false
set_option linter.all false
set_option maxRecDepth 100000
set_option maxHeartbeats 4000000
local macro_rules | `(tactic| walk_at "len") => `(tactic| (intro vs H Q E h; first
  | (obtain ⟨e, _⟩ := h; subst e; rfl) | (obtain ⟨_, e, _⟩ := h; subst e; rfl) | (obtain ⟨_, _, e, _⟩ := h; subst e; rfl) | (obtain ⟨_, _, _, e, _⟩ := h; subst e; rfl) | (obtain ⟨_, _, _, _, e, _⟩ := h; subst e; rfl)
  | (obtain ⟨_, _, _, _, _, e, _⟩ := h; subst e; rfl) | (obtain ⟨_, _, _, _, _, _, e, _⟩ := h; subst e; rfl) | (obtain ⟨_, _, _, _, _, _, _, e, _⟩ := h; subst e; rfl) | (obtain ⟨_, _, _, _, _, _, _, _, e, _⟩ := h; subst e; rfl)
  | (obtain ⟨_, _, _, _, _, _, _, _, _, e, _⟩ := h; subst e; rfl) | (obtain ⟨_, _, _, _, _, _, _, _, _, _, e, _⟩ := h; subst e; rfl) | (obtain ⟨_, _, _, _, _, _, _, _, _, _, _, e, _⟩ := h; subst e; rfl)))
local macro_rules | `(tactic| walk_at "hh") => `(tactic| first
  | assumption
  | exact L2.upd_same
  | (refine (L2.upd_ne (by walk_at "ne")).trans ?_; walk_at "hh")
  | (refine (‹L2.Same _ _› : L2.Same _ _) _ _ ?_; walk_at "hh"))
local macro_rules | `(tactic| walk_at "ne") => `(tactic| first
  | assumption
  | (apply Ne.symm; assumption)
  | exact L2.ne_of_none (by walk_at "hh") (by assumption)
  | exact (L2.ne_of_none (by walk_at "hh") (by assumption)).symm)
local macro_rules | `(tactic| walk_at "s") => `(tactic| first
  | refine ⟨_, rfl, ?_⟩
  | refine ⟨_, _, _, rfl, (by walk_at "hh"), ?_⟩
  | refine ⟨rfl, ?_⟩
  | refine ⟨_, _, rfl, rfl, ?_⟩)
local macro_rules | `(tactic| walk_at "isi int") => `(tactic| refine ⟨_, _, _, _, true, rfl, .ty "int", .base (.int _), L2.kit_ty (by decide +kernel), ?_⟩)
local macro_rules | `(tactic| walk_at "isi bool") => `(tactic| refine ⟨_, _, _, _, false, rfl, .ty "bool", .base (.int _), L2.kit_ty (by decide +kernel), ?_⟩)
local macro_rules | `(tactic| walk_at "isi tuple") => `(tactic| refine ⟨_, _, _, _, true, rfl, .ty "tuple", .base (.tup (by assumption)), L2.kit_ty (by decide +kernel), ?_⟩)
local macro_rules | `(tactic| walk_at "isi str") => `(tactic| refine ⟨_, _, _, _, true, rfl, .ty "str", .base (.str _), L2.kit_ty (by decide +kernel), ?_⟩)
local macro_rules | `(tactic| walk_at "v") => `(tactic| refine ⟨_, rfl, ?_⟩)
local macro_rules | `(tactic| walk_at "ii") => `(tactic| refine ⟨_, _, rfl, rfl, ?_⟩)
namespace K69
open PySem PySem.Spec PyProof.Rows L2
def PH.upto (p : PH) (rs : List Rw) : PH := rs.foldl PH.next p
theorem upto_more {p : PH} {rs : List Rw} {i : Nat} {r : Rw} (h : rs[i]? = some r) : p.upto (rs.take (i + 1)) = (p.upto (rs.take i)).next r := foldl_take h
def PH.zero : PH := ⟨[], [], [], 1⟩
section
variable {P : Program} {w : World} {K : PySem.W.Frag} {mg : Str → Option Value} {base : Heap}
def spRun : Sp := fun vs H Q _ => ∃ (t k : List Int) (rest : List Rw), vs = [.str (sheetTx (.house t k :: rest))] ∧ Sheet (.house t k :: rest) ∧ (∀ i r, rest[i]? = some r → (PH.zero.upto (rest.take i)).ok r) ∧
  ∀ (a : Addr) (ts : List Str) (H' : Hp), Same H H' → H' a = some (.tup (ts.map V.str)) → ts.length = rest.length → (∀ i t r, ts[i]? = some t → rest[i]? = some r → (PH.zero.upto (rest.take i)).Told r t) → Q (.ref a) H'
abbrev N_run : List Str := ["text", "rows", "house", "row"]
theorem sc_run : FnScope N_run ["text"] (defScope s_run) := ⟨rfl, rfl, rfl, by decide +kernel, rfl, by decide +kernel, by decide +kernel⟩
theorem c_run (T : Tx P w K mg base) : Cal P w K mg base "run" 10 ["text"] (spRun) := by
  refine cal_mk T.df_run T.g_run sc_run (fun _ _ _ _ _ _ us hl => match us, hl with | [_], _ => rfl) ?len (fun f cdv A outer s H vs Q E hr h => ?body)
  case len => walk_at "len"
  have nd := sc_run.nd
  refine ⟨_, (pss_cons (ps_set (i := 1) nd rfl (Or.inl rfl) (pe_c (c_readSheet T) (hr.mono (by decide)) (pa_cons (pv 0) pa_nil)))
    (pss_cons (ps_set (i := 2) nd rfl (Or.inr rfl) (pe_mk (c_House_Init T) (hr.mono (by decide)) T.g_House (pa_cons (pe_ix ix_tup (pe_ix ix_tup (pv 1) pe_int (fun _ _ => rfl)) pe_int (fun _ _ => rfl)) (pa_cons (pe_ix ix_tup (pe_ix ix_tup (pv 1) pe_int (fun _ _ => rfl)) pe_int (fun _ _ => rfl)) pa_nil))))
    (pss_one (ps_ret (pe_callTy (T := "tuple") call_tuple_of (by rfl) T.f_tuple (by decide +kernel) (pa_cons (pe_lc (own := [("row", 3)]) (g := gName 3) (tt := tYes) rfl nd (pi_tup (pe_slice sl_tupA (pv 1) (po_some pe_int) po_none)) (blkOk_by (own := [("row", 3)]) (N := N_run) (sc := defScope s_run) (by decide +kernel)) (fun _ _ _ _ _ => (pg_name (i := 3) nd rfl (Or.inl rfl))) (fun _ _ _ _ _ => pts_nil) (fun _ _ _ _ _ => (pe_c (c_answerTo T) (hr.mono (by decide)) (pa_cons (pv 2) (pa_cons (pv 3) pa_nil))))) pa_nil)))))), ?_⟩
  obtain ⟨tb, ky, rest, rfl, hS, hok, q⟩ := h
  have hlen := hS.len
  have hw0 := hS.wf _ List.mem_cons_self
  refine ⟨_, rfl, _, rfl, hS, fun ra as H1 s1 hra hrows => ?_⟩
  have hal := hrows.1
  obtain ⟨a0, ar, rfl⟩ : ∃ a0 ar, as = a0 :: ar := by
    cases as with
    | nil => cases hal
    | cons a b => exact ⟨a, b, rfl⟩
  obtain ⟨tA, kA, h0, ht, hk⟩ := hrows.2 0 a0 _ rfl rfl
  have hra' : SqT K H1 ra (V.ref a0 :: ar.map V.ref) := SqT.of hra
  refine ⟨_, rfl, ra, _, _, V.ref a0, rfl, rfl, hra', at_of (j := 0) rfl rfl, a0, _, _, V.ref tA, rfl, rfl, SqT.of h0, rfl, _, rfl, ra, _, _, V.ref a0, rfl, rfl, hra', at_of (j := 0) rfl rfl, a0, _, _, V.ref kA, rfl, rfl, SqT.of h0, rfl, fun x dx hx hdx hne => ?_⟩
  have s2 : ∀ o1 o2, Same H1 (upd (upd H1 dx o1) x o2) := fun o1 o2 => (same_new hdx).trans (same_new (by rw [upd_ne hne.symm]; exact hx))
  refine ⟨x, dx, tA, kA, tb, ky, rfl, upd_same, s2 _ _ _ _ ht, s2 _ _ _ _ hk, hw0.1, hw0.2.hi, fun h H2 hh ep en epu fr => ⟨rfl, ?_⟩⟩
  have f12 : ∀ c o, H1 c = some o → H2 c = some o ∧ h.tag c = .no := fun c o hc => fr c o (s2 _ _ _ _ hc) (ne_of_none hc hx)
  have s12 : Same H1 H2 := fun c o hc => (f12 c o hc).1
  have hra2 := s12 _ _ hra
  refine ⟨_, rfl, _, rfl, ra, _, rfl, SqT.of hra2, (fun y => absurd y.1 (by
    show ¬ HT.sIx (V.ref a0 :: ar.map V.ref).length 0 (some ((1 : Nat) : Int)) = 0
    rw [HT.sIx_nat]
    show ¬ min 1 ((ar.map V.ref).length + 1) = 0
    omega)), fun _ p hp => ?_⟩
  generalize e3 : upd H2 p _ = H3
  have s3 : Same H2 H3 := by rw [← e3]; exact same_new hp
  have hp3 : H3 p = some (.tup (ar.map V.ref)) := by
    rw [← e3, upd_same]
    show some (HO.tup (cutV (V.ref a0 :: ar.map V.ref) (some 1) none)) = _
    rw [cutV1]
  clear e3
  have hh3 := hh.same s3
  have arl : ar.length = rest.length := Nat.succ.inj hal
  have hrest : ∀ i y r, ar[i]? = some y → rest[i]? = some r → RowV H3 y r := fun i y r h1 h2 => (hrows.2 (i + 1) y r h1 h2).tk (.of (s12.trans s3))
  refine ⟨p, rfl, ⟨_, SqT.of hp3⟩, fun D hD => lc_tup (K := K) (a := p) (xs := ar.map V.ref) (fun i Hc => ∃ (hi : HouseR) (ts : List Str), Nx K H3 Hc tb ky h hi (30 * i) ∧ hi.tag D = .no ∧ hi.pu = PH.zero.upto (rest.take i) ∧ Hc D = some (.lst (ts.map V.str)) ∧ ts.length = i ∧
    ∀ j t r, ts[j]? = some t → rest[j]? = some r → (PH.zero.upto (rest.take j)).Told r t) ⟨h, [], Nx.same hh3 (same_new hD), hh3.notag hD, epu, upd_same, rfl, fun j t r h1 => by cases h1⟩ (fun i Hc _ g => ?_) (fun i y Hc hi g => ⟨rfl, ?_⟩) (fun Hc g => ?_)⟩
  · obtain ⟨hi, ts, N, _⟩ := g
    exact SqT.of (HFr.tk hh3 N.fr _ _ hp3)
  · obtain ⟨hi', ts, N, htD, hpi, hDl, htl, htold⟩ := g
    obtain ⟨y, hy, rfl⟩ := map_get hi
    have hil := (List.getElem?_eq_some_iff.mp hy).1
    obtain ⟨r, hr⟩ : ∃ r, rest[i]? = some r := ⟨_, List.getElem?_eq_getElem (show i < rest.length by omega)⟩
    have hhi := N.at_
    have hro := (hrest i y r hy hr).tk (HFr.tk hh3 N.fr)
    have hnn := N.nn
    have hln : (Rw.house tb ky :: rest).length = rest.length + 1 := rfl
    have hep : hi'.p = x := N.pp.trans ep
    refine ⟨_, rfl, _, rfl, hi', tb, ky, y, r, (by rw [hep] <;> rfl), hhi, hro, (by rw [hpi]; exact hok i r hr), (by omega), fun t h4 H4 N4 hp4 ht4 => ?_⟩
    obtain ⟨hD4, ht4'⟩ := N4.fr _ _ hDl htD
    have nDa : ∀ xs, H4 D ≠ some (.tup xs) := fun xs e => by rw [hD4] at e; cases e
    have Nn := (N.trans N4).free (o := .lst (ts.map V.str ++ [V.str t])) hD ht4' nDa (by intro xs e; cases e)
    refine ⟨_, hD4, ?_, h4, ts ++ [t], ⟨Nn.at_, Nn.fr, Nn.pp, by have := Nn.nn; omega⟩, ht4', ?_, ?_, ?_, fun j t' r' h1 h2 => ?_⟩
    · rw [List.length_map]
      exact sz_lt (by omega)
    · rw [hp4, hpi, upto_more hr]
    · rw [List.map_append]
      exact upd_same
    · rw [List.length_append, htl] <;> rfl
    · by_cases hj : j < ts.length
      · rw [List.getElem?_append_left hj] at h1
        exact htold j t' r' h1 h2
      · rw [List.getElem?_append_right (by omega)] at h1
        have hj0 : j - ts.length = 0 := by
          have := (List.getElem?_eq_some_iff.mp h1).1
          simp at this
          omega
        rw [hj0] at h1
        obtain rfl : t = t' := Option.some.inj h1
        have ej : j = i := by omega
        subst ej
        obtain rfl : r = r' := Option.some.inj (hr.symm.trans h2)
        rw [← hpi]
        exact ht4
  · obtain ⟨hi, ts, N, htD, hpi, hDl, htl, htold⟩ := g
    rw [List.length_map] at htl
    refine ⟨D, _, rfl, Or.inl ⟨SqL.of hDl, fun a ha => ?_⟩⟩
    refine q a ts _ (fun c o hc => ?_) upd_same (by omega) htold
    have hc1 := s1 _ _ hc
    have hc2 := f12 c o hc1
    have hc3 := (N.fr c o (s3 _ _ hc2.1) hc2.2).1
    exact (upd_ne (ne_of_none hc3 ha)).trans hc3
end
end K69
end
section
set_option Elab.async false
set_option linter.all false
set_option maxRecDepth 100000
set_option maxHeartbeats 4000000
local macro_rules | `(tactic| walk_at "len") => `(tactic| (intro vs H Q E h; first
  | (obtain ⟨e, _⟩ := h; subst e; rfl) | (obtain ⟨_, e, _⟩ := h; subst e; rfl) | (obtain ⟨_, _, e, _⟩ := h; subst e; rfl) | (obtain ⟨_, _, _, e, _⟩ := h; subst e; rfl) | (obtain ⟨_, _, _, _, e, _⟩ := h; subst e; rfl)
  | (obtain ⟨_, _, _, _, _, e, _⟩ := h; subst e; rfl) | (obtain ⟨_, _, _, _, _, _, e, _⟩ := h; subst e; rfl) | (obtain ⟨_, _, _, _, _, _, _, e, _⟩ := h; subst e; rfl) | (obtain ⟨_, _, _, _, _, _, _, _, e, _⟩ := h; subst e; rfl)
  | (obtain ⟨_, _, _, _, _, _, _, _, _, e, _⟩ := h; subst e; rfl) | (obtain ⟨_, _, _, _, _, _, _, _, _, _, e, _⟩ := h; subst e; rfl) | (obtain ⟨_, _, _, _, _, _, _, _, _, _, _, e, _⟩ := h; subst e; rfl)))
local macro_rules | `(tactic| walk_at "hh") => `(tactic| first
  | assumption
  | exact L2.upd_same
  | (refine (L2.upd_ne (by walk_at "ne")).trans ?_; walk_at "hh")
  | (refine (‹L2.Same _ _› : L2.Same _ _) _ _ ?_; walk_at "hh"))
local macro_rules | `(tactic| walk_at "ne") => `(tactic| first
  | assumption
  | (apply Ne.symm; assumption)
  | exact L2.ne_of_none (by walk_at "hh") (by assumption)
  | exact (L2.ne_of_none (by walk_at "hh") (by assumption)).symm)
local macro_rules | `(tactic| walk_at "s") => `(tactic| first
  | refine ⟨_, rfl, ?_⟩
  | refine ⟨_, _, _, rfl, (by walk_at "hh"), ?_⟩
  | refine ⟨rfl, ?_⟩
  | refine ⟨_, _, rfl, rfl, ?_⟩)
local macro_rules | `(tactic| walk_at "isi int") => `(tactic| refine ⟨_, _, _, _, true, rfl, .ty "int", .base (.int _), L2.kit_ty (by decide +kernel), ?_⟩)
local macro_rules | `(tactic| walk_at "isi bool") => `(tactic| refine ⟨_, _, _, _, false, rfl, .ty "bool", .base (.int _), L2.kit_ty (by decide +kernel), ?_⟩)
local macro_rules | `(tactic| walk_at "isi tuple") => `(tactic| refine ⟨_, _, _, _, true, rfl, .ty "tuple", .base (.tup (by assumption)), L2.kit_ty (by decide +kernel), ?_⟩)
local macro_rules | `(tactic| walk_at "isi str") => `(tactic| refine ⟨_, _, _, _, true, rfl, .ty "str", .base (.str _), L2.kit_ty (by decide +kernel), ?_⟩)
local macro_rules | `(tactic| walk_at "v") => `(tactic| refine ⟨_, rfl, ?_⟩)
local macro_rules | `(tactic| walk_at "ii") => `(tactic| refine ⟨_, _, rfl, rfl, ?_⟩)
namespace K69
open PySem PySem.Spec PyProof.Rows L2
/-! ### the law's draws -/
def Fr1 (a : Addr) (H H' : Hp) : Prop := ∀ c o, H c = some o → c ≠ a → H' c = some o
theorem Fr1.of {a : Addr} {H H' : Hp} (s : Same H H') : Fr1 a H H' := fun c o h _ => s c o h
theorem Fr1.trans {a : Addr} {H H' H'' : Hp} (s : Fr1 a H H') (t : Fr1 a H' H'') : Fr1 a H H'' := fun c o h n => t c o (s c o h n) n
def BoxAt (H : Hp) (a : Addr) : Prop := ∃ b0 b1 b2 : Int, H a = some (.lst [.int b0, .int b1, .int b2]) ∧ 0 ≤ b0
theorem BoxAt.same {H H' : Hp} {a : Addr} (h : BoxAt H a) (s : Same H H') : BoxAt H' a := by
  obtain ⟨b0, b1, b2, h1, h2⟩ := h
  exact ⟨b0, b1, b2, s _ _ h1, h2⟩
theorem BoxAt.nt {H : Hp} {a : Addr} (h : BoxAt H a) : ∀ xs, H a ≠ some (.tup xs) := fun xs e => by
  obtain ⟨b0, b1, b2, h1, h2⟩ := h
  rw [h1] at e
  cases e
theorem Fr1.tk {a : Addr} {H H' : Hp} (s : Fr1 a H H') (hb : BoxAt H a) : TupK H H' := fun c xs h => s c _ h (fun e => hb.nt xs (by rw [← e]; exact h))
section
variable {P : Program} {w : World} {K : PySem.W.Frag} {mg : Str → Option Value} {base : Heap}
theorem b01 (c : Bool) : (0 : Int) ≤ (if c = true then 1 else 0) ∧ (if c = true then (1 : Int) else 0) ≤ 1 := by
  cases c
  · exact ⟨by decide, by decide⟩
  · exact ⟨by decide, by decide⟩
theorem b64 {x : Int} (h : 0 ≤ x ∧ x ≤ 1) : -(2 ^ 64) < x ∧ x < 2 ^ 64 := by omega
theorem cut_ints (ns : List Int) (lo hi : Option Int) : cutV (ns.map V.int) lo hi = (((ns.drop (HT.sIx ns.length 0 lo)).take (HT.sIx ns.length ns.length hi - HT.sIx ns.length 0 lo)).map V.int) := by
  unfold cutV
  rw [List.length_map, ← List.map_drop, ← List.map_take]
def spBox (K : PySem.W.Frag) : Sp := fun vs H Q _ => ∃ (a : Addr) (ns : List Int) (k : Nat), vs = [.ref a, .int k] ∧ SqL K H a (ns.map V.int) ∧ ∀ b H', Same H H' → H b = none → BoxAt H' b → Q (.ref b) H'
abbrev N_lBox : List Str := ["_law_script", "_law_k", "_law_cell"]
theorem sc_lBox : FnScope N_lBox ["_law_script", "_law_k"] (defScope s_lBox) := ⟨rfl, rfl, rfl, by decide +kernel, rfl, by decide +kernel, by decide +kernel⟩
theorem c_lBox (T : Tx P w K mg base) : Cal P w K mg base "_law_box" 1 ["_law_script", "_law_k"] (spBox K) := by
  refine cal_mk T.df_lBox T.g_lBox sc_lBox (fun _ _ _ _ _ _ us hl => match us, hl with | [_, _], _ => rfl) ?len (fun f cdv A outer s H vs Q E hr h => ?body)
  case len => walk_at "len"
  have nd := sc_lBox.nd
  refine ⟨_, (pss_cons (ps_set (i := 2) nd rfl (Or.inl rfl) pe_int)
    (pss_cons (ps_if (pt_cmpR op_lt (pv 1) (pe_callB call_len_seq (by rfl) T.f_len (by decide +kernel) (pa_cons (pv 0) pa_nil)) (nomark _)) (pss_one (ps_set (i := 2) nd rfl (Or.inl rfl) (pe_ix ix_list (pv 0) (pv 1) (fun _ _ => rfl)))) pss_nil)
    (pss_one (ps_ret (pe_lst (pa_cons (pe_op op_mul (pe_callB call_abs (by rfl) T.f_abs (by decide +kernel) (pa_cons (pv 2) pa_nil)) (pe_callTy (T := "int") call_int1 (by rfl) T.f_int (by decide +kernel) (pa_cons (pe_cmpR op_ge (pe_callB call_abs (by rfl) T.f_abs (by decide +kernel) (pa_cons (pv 2) pa_nil)) (pe_op op_pow pe_int pe_int) (nomark _)) pa_nil))) (pa_cons (pe_op op_mod (pe_op op_add (pv 2) (pe_op op_mul pe_int (pv 1))) pe_int) (pa_cons pe_int pa_nil)))))))), ?_⟩
  obtain ⟨a, ns, k, rfl, ha, q⟩ := h
  have fin : ∀ (cell : Int) (t : TS), t = tRet (tLst (tCons (tOp (rI CMul fun i j => .int (i * j)) (tCB (fun xs H Q => ∃ i, xs = [.int i] ∧ Q (.int (if i < 0 then -i else i)) H) (tCons (tVar 2) tNil))
      (tCB (fun xs H Q => (∃ i, xs = [.int i] ∧ Q (.int i) H) ∨ ∃ k, xs = [.bl k] ∧ Q (.int (if k then 1 else 0)) H) (tCons (tOp (rI0 fun i j => .bl (decide (i ≥ j))) (tCB (fun xs H Q => ∃ i, xs = [.int i] ∧ Q (.int (if i < 0 then -i else i)) H) (tCons (tVar 2) tNil)) (tOp (rI CPow fun i j => .int (i ^ j.toNat)) (tC (.int 10)) (tC (.int 18)))) tNil)))
      (tCons (tOp (rI (fun _ j => 0 < j) fun i j => .int (i % j)) (tOp (rI0 fun i j => .int (i + j)) (tVar 2) (tOp (rI CMul fun i j => .int (i * j)) (tC (.int 7919)) (tVar 1))) (tC (.int 2147483647))) (tCons (tC (.int 0)) tNil)))) →
      ∀ D : Ends, D.rt = Q → t D [some (.ref a), some (.int k), some (.int cell)] H := by
    rintro cell t rfl D hD
    refine ⟨_, rfl, _, rfl, _, rfl, _, rfl, _, _, rfl, rfl, ⟨by decide, by decide, by decide⟩, _, _, rfl, rfl, Or.inr ⟨_, rfl, _, _, rfl, rfl, Or.inr ?_, _, rfl, _, rfl, _, _, rfl, rfl, Or.inl ⟨by decide, by decide⟩, _, _, rfl, rfl, _, _, rfl, rfl, (by show (0 : Int) < 2147483647; decide), (by show 3 ≤ sizeLine; decide), fun b hb => ?_⟩⟩
    · exact b64 (b01 _)
    · rw [hD]
      refine q b _ (same_new hb) hb ⟨_, _, _, upd_same, ?_⟩
      refine Int.mul_nonneg ?_ ?_
      · split <;> omega
      · exact (b01 _).1
  refine ⟨_, rfl, _, rfl, _, _, rfl, Or.inl ha, _, _, rfl, rfl, _, rfl, ?_⟩
  by_cases hk : k < ns.length
  · refine ifD (by rw [List.length_map]; omega) ?_
    refine ⟨_, rfl, _, rfl, a, _, _, V.int (ns.getD k 0), rfl, rfl, ha, atI_int rfl hk, ?_⟩
    exact fin _ _ rfl _ rfl
  · refine ifND (by rw [List.length_map]; omega) ?_
    exact fin 0 _ rfl _ rfl
def spTake : Sp := fun vs H Q _ => ∃ (a : Addr) (m : Int), vs = [.ref a, .int m] ∧ BoxAt H a ∧ 0 < m ∧ m < 100000 ∧ ∀ r H', 0 ≤ r → r < m → Fr1 a H H' → BoxAt H' a → Q (.int r) H'
abbrev N_lTake : List Str := ["_law_box_here", "_law_many", "_law_once", "_law_found"]
theorem sc_lTake : FnScope N_lTake ["_law_box_here", "_law_many"] (defScope s_lTake) := ⟨rfl, rfl, rfl, by decide +kernel, rfl, by decide +kernel, by decide +kernel⟩
theorem c_lTake (T : Tx P w K mg base) : Cal P w K mg base "_law_take" 1 ["_law_box_here", "_law_many"] (spTake) := by
  refine cal_mk T.df_lTake T.g_lTake sc_lTake (fun _ _ _ _ _ _ us hl => match us, hl with | [_, _], _ => rfl) ?len (fun f cdv A outer s H vs Q E hr h => ?body)
  case len => walk_at "len"
  have nd := sc_lTake.nd
  refine ⟨_, (pss_cons (ps_if (pt_cmpR op_gt (pe_ix ix_list (pv 0) pe_int (fun _ _ => rfl)) pe_int (nomark _)) (pss_cons (ps_asg (pe_callB call_divmod (by rfl) T.f_divmod (by decide +kernel) (pa_cons (pe_ix ix_list (pv 0) pe_int (fun _ _ => rfl)) (pa_cons (pv 1) pa_nil))) (pg_tup rfl (pgs_cons (pg_sub (pv 0) pe_int set_list) (pgs_cons (pg_name (i := 3) nd rfl (Or.inl rfl)) pgs_nil))))
    (pss_one (ps_ret (pv 3)))) pss_nil)
    (pss_cons (ps_asg (pe_op op_add (pe_ix ix_list (pv 0) pe_int (fun _ _ => rfl)) pe_int) (pg_sub (pv 0) pe_int set_list))
    (pss_cons (ps_set (i := 2) nd rfl (Or.inl rfl) (pe_op op_mod (pe_op op_mul (pe_op op_add (pe_ix ix_list (pv 0) pe_int (fun _ _ => rfl)) (pe_op op_mul pe_int (pe_ix ix_list (pv 0) pe_int (fun _ _ => rfl)))) pe_int) pe_int))
    (pss_one (ps_ret (pe_op op_mod (pe_op op_fdiv (pe_op op_mod (pe_op op_mul (pv 2) (pe_op op_add (pv 2) pe_int)) pe_int) pe_int) (pv 1))))))), ?_⟩
  obtain ⟨a, m, rfl, ⟨b0, b1, b2, ha, hb0⟩, hm, hm2, q⟩ := h
  have hs := SqL.of (K := K) ha
  refine ⟨_, rfl, a, _, _, V.int b0, rfl, rfl, hs, rfl, _, _, rfl, rfl, _, rfl, ?_⟩
  by_cases h0 : b0 > 0
  · refine ifD h0 ?_
    refine ⟨_, rfl, a, _, _, V.int b0, rfl, rfl, hs, rfl, _, rfl, _, _, rfl, ⟨hm, by omega⟩, fun p hp => ?_⟩
    have nap : a ≠ p := ne_of_none ha hp
    refine ⟨p, _, rfl, SqT.of upd_same, rfl, _, _, rfl, _, rfl, a, _, _, 0, rfl, rfl, (upd_ne nap).trans ha, rfl, _, _, rfl, rfl, _, rfl, ?_⟩
    refine q _ _ (Int.emod_nonneg _ (by omega)) (Int.emod_lt_of_pos _ hm) (fun c o hc hn => (upd_ne hn).trans ((upd_ne (ne_of_none hc hp)).trans hc)) ⟨_, _, _, upd_same, Int.ediv_nonneg hb0 (by omega)⟩
  · refine ifND h0 ?_
    refine ⟨_, rfl, a, _, _, V.int b2, rfl, rfl, hs, rfl, _, _, rfl, rfl, _, rfl, a, _, _, 2, rfl, rfl, ha, rfl, ?_⟩
    have hs2 : SqL K (upd H a (.lst [.int b0, .int b1, .int (b2 + 1)])) a [.int b0, .int b1, .int (b2 + 1)] := SqL.of upd_same
    refine ⟨_, rfl, a, _, _, V.int b1, rfl, rfl, hs2, rfl, _, rfl, a, _, _, V.int (b2 + 1), rfl, rfl, hs2, rfl, _, _, rfl, rfl, Or.inl ⟨by decide, by decide⟩, _, _, rfl, rfl, _, _, rfl, rfl, Or.inr ⟨by decide, by decide⟩, _, _, rfl, rfl, (by show (0 : Int) < 2147483647; decide), ?_⟩
    have ho1 : 0 ≤ (b1 + 39373 * (b2 + 1)) * 48271 % 2147483647 := Int.emod_nonneg _ (by decide)
    have ho2 : (b1 + 39373 * (b2 + 1)) * 48271 % 2147483647 < 2147483647 := Int.emod_lt_of_pos _ (by decide)
    refine ⟨_, rfl, _, rfl, _, _, rfl, rfl, _, _, rfl, rfl, Or.inl ⟨by omega, by omega⟩, _, _, rfl, rfl, (by show (0 : Int) < 2147483629; decide), _, _, rfl, rfl, ⟨by decide, by decide⟩, _, rfl, _, _, rfl, rfl, hm, ?_⟩
    exact q _ _ (Int.emod_nonneg _ (by omega)) (Int.emod_lt_of_pos _ hm) (fun c o hc hn => (upd_ne hn).trans hc) ⟨_, _, _, upd_same, hb0⟩
def spFolded (K : PySem.W.Frag) : Sp := fun vs H Q _ => ∃ (a : Addr) (ns : List Int), vs = [.ref a, .int 2] ∧ SqL K H a (ns.map V.int) ∧ ns.length ≤ 63 ∧ ∀ (b : Addr) (ms : List Int) H', Same H H' → H b = none → H' b = some (.lst (ms.map V.int)) → ms.length ≤ 2 → Q (.ref b) H'
abbrev N_lFolded : List Str := ["_law_script", "_law_many", "_law_cells", "_law_k", "_law_cell"]
theorem sc_lFolded : FnScope N_lFolded ["_law_script", "_law_many"] (defScope s_lFolded) := ⟨rfl, rfl, rfl, by decide +kernel, rfl, by decide +kernel, by decide +kernel⟩
theorem c_lFolded (T : Tx P w K mg base) : Cal P w K mg base "_law_folded" 1 ["_law_script", "_law_many"] (spFolded K) := by
  refine cal_mk T.df_lFolded T.g_lFolded sc_lFolded (fun _ _ _ _ _ _ us hl => match us, hl with | [_, _], _ => rfl) ?len (fun f cdv A outer s H vs Q E hr h => ?body)
  case len => walk_at "len"
  have nd := sc_lFolded.nd
  refine ⟨_, (pss_cons (ps_set (i := 2) nd rfl (Or.inl rfl) (pe_callTy (T := "list") call_list_of (by rfl) T.f_list (by decide +kernel) (pa_cons (pe_slice sl_list (pv 0) po_none (po_some (pv 1))) pa_nil)))
    (pss_cons (ps_for PassesOwn.never rfl (pi_enumK true (by rfl) T.f_enumerate (pa_cons (pe_slice sl_list (pv 0) (po_some (pv 1)) (po_some pe_int)) pa_nil)) (pg_tup rfl (pgs_cons (pg_name (i := 3) nd rfl (Or.inl rfl)) (pgs_cons (pg_name (i := 4) nd rfl (Or.inl rfl)) pgs_nil)))
    (pss_one (ps_asg (pe_op op_add (pe_ix ix_list (pv 2) (pe_op op_mod (pv 3) (pv 1)) (fun _ _ => rfl)) (pe_op op_mul (pv 4) (pe_op op_add (pv 3) pe_int))) (pg_sub (pv 2) (pe_op op_mod (pv 3) (pv 1)) set_list))))
    (pss_one (ps_ret (pv 2))))), ?_⟩
  obtain ⟨a, ns, rfl, ha, hl, q⟩ := h
  refine ⟨_, rfl, _, rfl, _, rfl, a, _, rfl, ha, fun p hp => ?_⟩
  rw [cut_ints]
  generalize hcs : (ns.drop (HT.sIx ns.length 0 none)).take (HT.sIx ns.length ns.length (some 2) - HT.sIx ns.length 0 none) = cs
  have hcl : cs.length = min 2 ns.length := by
    rw [← hcs, List.length_take, List.length_drop, HT.sIx_none]
    show min (HT.sIx ns.length ns.length (some ((2 : Nat) : Int)) - 0) (ns.length - 0) = _
    rw [HT.sIx_nat]
    omega
  clear hcs
  have s1 : Same H (upd H p (.lst (cs.map V.int))) := same_new hp
  refine ⟨p, _, rfl, Or.inl (SqL.of upd_same), fun l hl => ?_⟩
  generalize e2 : upd (upd H p _) l _ = H2
  have s2 : Same H H2 := by rw [← e2]; exact s1.trans (same_new hl)
  have hl2 : H2 l = some (.lst (cs.map V.int)) := by rw [← e2]; exact upd_same
  have hl0 : H l = none := s1.free hl
  clear e2
  have ha2 : SqL K H2 a (ns.map V.int) := s2.seq ha
  refine ⟨_, rfl, _, rfl, _, rfl, _, rfl, a, _, rfl, ha2, fun p2 hp2 => ?_⟩
  rw [cut_ints]
  generalize hds : (ns.drop (HT.sIx ns.length 0 (some 2))).take (HT.sIx ns.length ns.length (some 63) - HT.sIx ns.length 0 (some 2)) = ds
  have hdl : cs.length < 2 → ds.length = 0 := fun h => by
    rw [← hds, List.length_take, List.length_drop]
    show min _ (ns.length - HT.sIx ns.length 0 (some ((2 : Nat) : Int))) = 0
    rw [HT.sIx_nat]
    omega
  have hdl2 : ds.length ≤ 63 := by
    rw [← hds, List.length_take, List.length_drop]
    omega
  clear hds
  have nlp : l ≠ p2 := ne_of_none hl2 hp2
  refine ⟨p2, _, rfl, SqL.of upd_same, for_it (walk_enumK (xs := ds.map V.int)) (fun i σ H' => ∃ (ms : List Int) (v3 v4 : Option V), σ = [some (.ref a), some (.int 2), some (.ref l), v3, v4] ∧ Same H H' ∧ H' p2 = some (.lst (ds.map V.int)) ∧ H' l = some (.lst (ms.map V.int)) ∧ ms.length = cs.length)
    ⟨cs, none, none, rfl, s2.trans (same_new hp2), upd_same, (upd_ne nlp).trans hl2, rfl⟩ (fun i σ H' _ g => ?_) (fun i x σ H3 H4 hi g y => ?_) (fun σ H3 g => ?_)⟩
  · obtain ⟨ms, v3, v4, _, _, g1, _⟩ := g
    exact SqL.of g1
  · obtain ⟨ms, v3, v4, rfl, s3, hp3, hl3, hml⟩ := g
    obtain ⟨Tp, x1, y1, rfl, hT, rfl, ex, ey⟩ := y
    obtain rfl : V.int (i : Nat) = x1 := Option.some.inj ex
    obtain ⟨c, hc, rfl⟩ := map_get ey
    have hc2 : cs.length = 2 := by
      by_cases h : cs.length < 2
      · rw [List.length_map, hdl h] at hi
        cases hi
      · omega
    refine ⟨Tp, _, rfl, SqT.of upd_same, rfl, _, _, rfl, _, _, rfl, rfl, ?_⟩
    have s4 : Same H3 (upd H3 Tp (.tup [.int (i : Nat), .int c])) := same_new hT
    generalize upd H3 Tp _ = H4 at s4 ⊢
    have hl4 := s4 _ _ hl3
    have hm0 : (0 : Int) ≤ (i : Nat) % 2 := Int.emod_nonneg _ (by decide)
    have hm1 : ((i : Nat) : Int) % 2 < 2 := Int.emod_lt_of_pos _ (by decide)
    have hj : ((i : Nat) : Int) % 2 = (((i : Nat) % 2 : Nat) : Int) := by omega
    have hjl : (i : Nat) % 2 < ms.length := by omega
    refine ⟨_, rfl, _, rfl, _, rfl, _, _, rfl, rfl, (show (0 : Int) < 2 by decide), l, _, _, V.int (ms.getD (i % 2) 0), rfl, rfl, SqL.of hl4, atI_int hj hjl, _, rfl, _, rfl, _, _, rfl, rfl, _, _, rfl, rfl, Or.inr ⟨?_, ?_⟩, _, _, rfl, rfl, ?_⟩
    · omega
    · have := (List.getElem?_eq_some_iff.mp hc).1
      omega
    · refine ⟨_, rfl, _, rfl, _, rfl, _, _, rfl, rfl, (show (0 : Int) < 2 by decide), l, _, _, i % 2, rfl, rfl, hl4, ?_, ?_⟩
      · rw [List.length_map]
        exact ixN_of hj hjl
      · rw [set_int]
        exact ⟨_, _, _, rfl, same_mut (s3.trans s4) hl0, (upd_ne nlp.symm).trans (s4 _ _ hp3), upd_same, by rw [List.length_set]; exact hml⟩
  · obtain ⟨ms, v3, v4, rfl, s3, hp3, hl3, hml⟩ := g
    exact ⟨_, rfl, q l ms H3 s3 hl0 hl3 (by omega)⟩
/-! ### the law's tables and keys -/
def swapL (l : List Int) (i j : Nat) : List Int := (l.set i (l.getD j 0)).set j (l.getD i 0)
theorem swap_len (l : List Int) (i j : Nat) : (swapL l i j).length = l.length := by
  unfold swapL
  rw [List.length_set, List.length_set]
theorem swap_get {l : List Int} {i j k : Nat} (hi : i < l.length) (hj : j < l.length) (hk : k < l.length) : (swapL l i j).getD k 0 = if k = j then l.getD i 0 else if k = i then l.getD j 0 else l.getD k 0 := by
  unfold swapL
  by_cases h1 : k = j
  · rw [if_pos h1, h1, getD_set_eq (by rw [List.length_set]; exact hj)]
  · rw [if_neg h1, getD_set_ne (fun e => h1 e.symm)]
    by_cases h2 : k = i
    · rw [if_pos h2, h2, getD_set_eq hi]
    · rw [if_neg h2, getD_set_ne (fun e => h2 e.symm)]
structure Tab16 (l : List Int) : Prop where
  len : l.length = 16
  dig : ∀ k, k < 16 → 0 ≤ l.getD k 0 ∧ l.getD k 0 < 16
  inj : ∀ i j, i < 16 → j < 16 → l.getD i 0 = l.getD j 0 → i = j
theorem Tab16.tab {l : List Int} (h : Tab16 l) : IsTab l := by
  refine ⟨h.len, fun x hx => ?_, ?_⟩
  · obtain ⟨i, hi, e⟩ := List.mem_iff_getElem.mp hx
    have := h.dig i (by rw [← h.len]; exact hi)
    rw [getD_of hi, e] at this
    exact this
  · refine List.pairwise_iff_getElem.mpr fun i j hi hj hij e => ?_
    have := h.inj i j (by rw [← h.len]; exact hi) (by rw [← h.len]; exact hj) (by rw [getD_of hi, getD_of hj]; exact e)
    omega
theorem Tab16.swap {l : List Int} (h : Tab16 l) {i j : Nat} (hi : i < 16) (hj : j < 16) : Tab16 (swapL l i j) := by
  have g : ∀ k, k < 16 → (swapL l i j).getD k 0 = if k = j then l.getD i 0 else if k = i then l.getD j 0 else l.getD k 0 := fun k hk => swap_get (by rw [h.len]; exact hi) (by rw [h.len]; exact hj) (by rw [h.len]; exact hk)
  refine ⟨by rw [swap_len, h.len], fun k hk => ?_, fun a b ha hb e => ?_⟩
  · rw [g k hk]
    split
    · exact h.dig i hi
    · split
      · exact h.dig j hj
      · exact h.dig k hk
  · rw [g a ha, g b hb] at e
    have inj := h.inj
    by_cases a1 : a = j
    · rw [if_pos a1] at e
      by_cases b1 : b = j
      · omega
      · rw [if_neg b1] at e
        by_cases b2 : b = i
        · rw [if_pos b2] at e
          have := inj i j hi hj e
          omega
        · rw [if_neg b2] at e
          have := inj i b hi hb e
          omega
    · rw [if_neg a1] at e
      by_cases a2 : a = i
      · rw [if_pos a2] at e
        by_cases b1 : b = j
        · rw [if_pos b1] at e
          have := inj j i hj hi e
          omega
        · rw [if_neg b1] at e
          by_cases b2 : b = i
          · omega
          · rw [if_neg b2] at e
            have := inj j b hj hb e
            omega
      · rw [if_neg a2] at e
        by_cases b1 : b = j
        · rw [if_pos b1] at e
          have := inj a i ha hi e
          omega
        · rw [if_neg b1] at e
          by_cases b2 : b = i
          · rw [if_pos b2] at e
            have := inj a j ha hj e
            omega
          · rw [if_neg b2] at e
            exact inj a b ha hb e
def idL : List Int := [0, 1, 2, 3, 4, 5, 6, 7, 8, 9, 10, 11, 12, 13, 14, 15]
theorem id_tab : Tab16 idL := by
  have g : ∀ k, k < 16 → idL.getD k 0 = (k : Int) := by decide
  refine ⟨rfl, fun k hk => by rw [g k hk]; omega, fun i j hi hj e => ?_⟩
  rw [g i hi, g j hj] at e
  omega
def spTable : Sp := fun vs H Q _ => ∃ (a : Addr), vs = [.ref a] ∧ BoxAt H a ∧ ∀ (t : Addr) (tab : List Int) H', Fr1 a H H' → BoxAt H' a → H' t = some (.tup (tab.map V.int)) → IsTab tab → Q (.ref t) H'
abbrev N_lTable : List Str := ["_law_box_here", "_law_made", "_law_place", "_law_other"]
theorem sc_lTable : FnScope N_lTable ["_law_box_here"] (defScope s_lTable) := ⟨rfl, rfl, rfl, by decide +kernel, rfl, by decide +kernel, by decide +kernel⟩
theorem c_lTable (T : Tx P w K mg base) : Cal P w K mg base "_law_table" 2 ["_law_box_here"] (spTable) := by
  refine cal_mk T.df_lTable T.g_lTable sc_lTable (fun _ _ _ _ _ _ us hl => match us, hl with | [_], _ => rfl) ?len (fun f cdv A outer s H vs Q E hr h => ?body)
  case len => walk_at "len"
  have nd := sc_lTable.nd
  refine ⟨_, (pss_cons (ps_set (i := 1) nd rfl (Or.inl rfl) (pe_listRg rfl (by rfl) T.f_list (prg_1 (by rfl) T.f_range pe_int)))
    (pss_cons (ps_for PassesOwn.never rfl (pi_range1 rfl T.f_range (pa_cons pe_int pa_nil)) (pg_name (i := 2) nd rfl (Or.inl rfl))
    (pss_cons (ps_set (i := 3) nd rfl (Or.inl rfl) (pe_op op_add (pv 2) (pe_c (c_lTake T) (hr.mono (by decide)) (pa_cons (pv 0) (pa_cons (pe_op op_sub pe_int (pv 2)) pa_nil)))))
    (pss_one (ps_asg (pe_tup (pa_cons (pe_ix ix_list (pv 1) (pv 3) (fun _ _ => rfl)) (pa_cons (pe_ix ix_list (pv 1) (pv 2) (fun _ _ => rfl)) pa_nil))) (pg_tup rfl (pgs_cons (pg_sub (pv 1) (pv 2) set_list) (pgs_cons (pg_sub (pv 1) (pv 3) set_list) pgs_nil)))))))
    (pss_one (ps_ret (pe_callTy (T := "tuple") call_tuple_of (by rfl) T.f_tuple (by decide +kernel) (pa_cons (pv 1) pa_nil)))))), ?_⟩
  obtain ⟨a, rfl, hb, q⟩ := h
  refine ⟨_, rfl, ⟨by decide, by decide, by decide, by decide, by decide⟩, fun l hl => ?_⟩
  generalize e1 : upd H l _ = H1
  have s1 : Same H H1 := by rw [← e1]; exact same_new hl
  have hl1 : H1 l = some (.lst (idL.map V.int)) := by rw [← e1]; exact upd_same
  clear e1
  refine ⟨15, rfl, by decide, by decide, for_range0 (n := 15) (fun i σ H' => ∃ (ns : List Int) (v2 v3 : Option V), σ = [some (.ref a), some (.ref l), v2, v3] ∧ Fr1 a H H' ∧ BoxAt H' a ∧ H' l = some (.lst (ns.map V.int)) ∧ Tab16 ns) ⟨idL, none, none, rfl, .of s1, hb.same s1, hl1, id_tab⟩ (fun i σ H2 hi g => ?_) (fun σ H2 g => ?_)⟩
  · obtain ⟨ns, v2, v3, rfl, f2, hb2, hl2, ht⟩ := g
    refine ⟨_, rfl, _, rfl, _, rfl, _, _, rfl, rfl, a, 16 - (i : Int), rfl, hb2, by omega, by omega, fun r H3 r0 r1 f3 hb3 => ⟨_, _, rfl, rfl, ?_⟩⟩
    have nla : l ≠ a := fun e => by
      obtain ⟨b0, b1, b2, h1, _⟩ := hb
      rw [e, h1] at hl
      cases hl
    have hl3 := f3 _ _ hl2 nla
    have hj : (i : Int) + r = ((i + r.toNat : Nat) : Int) := by omega
    have hjl : i + r.toNat < ns.length := by rw [ht.len]; omega
    have hil : i < ns.length := by rw [ht.len]; omega
    refine ⟨_, rfl, _, rfl, l, _, _, V.int (ns.getD (i + r.toNat) 0), rfl, rfl, SqL.of hl3, atI_int hj hjl, _, rfl, _, rfl, l, _, _, V.int (ns.getD i 0), rfl, rfl, SqL.of hl3, atI_int rfl hil, (by show 2 ≤ sizeLine; decide), fun p hp => ?_⟩
    have nlp : l ≠ p := ne_of_none hl3 hp
    refine ⟨p, _, rfl, SqT.of upd_same, rfl, _, _, rfl, _, rfl, _, rfl, l, _, _, i, rfl, rfl, (upd_ne nlp).trans hl3, ixN_of rfl (by rw [List.length_map]; exact hil), _, _, rfl, _, rfl, _, rfl, l, _, _, i + r.toNat, rfl, rfl, upd_same, ixN_of hj (by rw [List.length_set, List.length_map]; exact hjl), rfl, ?_⟩
    rw [upd_upd, set_int, set_int]
    have nap : a ≠ p := by
      obtain ⟨b0, b1, b2, h1, _⟩ := hb3
      exact ne_of_none h1 hp
    refine ⟨swapL ns i (i + r.toNat), _, _, rfl, fun c o hc hn => ?_, ?_, upd_same, ht.swap (by omega) (by omega)⟩
    · have h3 := f3 c o (f2 c o hc hn) hn
      rw [upd_ne (ne_of_none hc hl), upd_ne (ne_of_none h3 hp)]
      exact h3
    · obtain ⟨b0, b1, b2, h1, h2⟩ := hb3
      exact ⟨b0, b1, b2, by rw [upd_ne nla.symm, upd_ne nap]; exact h1, h2⟩
  · obtain ⟨ns, v2, v3, rfl, f2, hb2, hl2, ht⟩ := g
    refine ⟨_, rfl, l, _, rfl, Or.inl ⟨SqL.of hl2, fun t ht0 => ?_⟩⟩
    exact q t ns _ (f2.trans (.of (same_new ht0))) (hb2.same (same_new ht0)) upd_same ht.tab
def spKey : Sp := fun vs H Q _ => ∃ (a : Addr), vs = [.ref a] ∧ BoxAt H a ∧ ∀ (t : Addr) (key : List Int) H', Fr1 a H H' → BoxAt H' a → H' t = some (.tup (key.map V.int)) → IsKey key → Q (.ref t) H'
abbrev N_lKey : List Str := ["_law_box_here", "_law_place"]
theorem sc_lKey : FnScope N_lKey ["_law_box_here"] (defScope s_lKey) := ⟨rfl, rfl, rfl, by decide +kernel, rfl, by decide +kernel, by decide +kernel⟩
theorem c_lKey (T : Tx P w K mg base) : Cal P w K mg base "_law_key" 2 ["_law_box_here"] (spKey) := by
  refine cal_mk T.df_lKey T.g_lKey sc_lKey (fun _ _ _ _ _ _ us hl => match us, hl with | [_], _ => rfl) ?len (fun f cdv A outer s H vs Q E hr h => ?body)
  case len => walk_at "len"
  have nd := sc_lKey.nd
  refine ⟨_, (pss_one (ps_ret (pe_callTy (T := "tuple") call_tuple_of (by rfl) T.f_tuple (by decide +kernel) (pa_cons (pe_lc (own := [("_law_place", 1)]) (g := gName 1) (tt := tYes) rfl nd (pi_range1 rfl T.f_range (pa_cons (pe_ix ix_list (pe_lst (pa_cons pe_int (pa_cons pe_int (pa_cons pe_int (pa_cons pe_int (pa_cons pe_int (pa_cons pe_int (pa_cons pe_int (pa_cons pe_int pa_nil))))))))) (pe_c (c_lTake T) (hr.mono (by decide)) (pa_cons (pv 0) (pa_cons pe_int pa_nil))) (fun _ _ => rfl)) pa_nil)) (blkOk_by (own := [("_law_place", 1)]) (N := N_lKey) (sc := defScope s_lKey) (by decide +kernel)) (fun _ _ _ _ _ => (pg_name (i := 1) nd rfl (Or.inl rfl))) (fun _ _ _ _ _ => pts_nil) (fun _ _ _ _ _ => (pe_c (c_lTake T) (hr.mono (by decide)) (pa_cons (pv 0) (pa_cons pe_int pa_nil))))) pa_nil)))), ?_⟩
  obtain ⟨a, rfl, hb, q⟩ := h
  have hb0 := hb
  obtain ⟨x0, x1, x2, hax, _⟩ := hb0
  refine ⟨(by show 8 ≤ sizeLine; decide), fun l hl => ?_⟩
  have s1 : ∀ o, Same H (upd H l o) := fun o => same_new hl
  refine ⟨_, rfl, a, 8, rfl, hb.same (s1 _), by decide, by decide, fun r H2 r0 r1 f2 hb2 => ?_⟩
  have nla : l ≠ a := fun e => by rw [e, hax] at hl; cases hl
  have hl2 := f2 _ _ upd_same nla
  have hr : r.toNat < ([1, 2, 3, 4, 5, 6, 7, 8] : List Int).length := by show r.toNat < 8; omega
  have hv : 1 ≤ ([1, 2, 3, 4, 5, 6, 7, 8] : List Int).getD r.toNat 0 ∧ ([1, 2, 3, 4, 5, 6, 7, 8] : List Int).getD r.toNat 0 ≤ 8 := by
    have all : ∀ k : Nat, k < 8 → 1 ≤ ([1, 2, 3, 4, 5, 6, 7, 8] : List Int).getD k 0 ∧ ([1, 2, 3, 4, 5, 6, 7, 8] : List Int).getD k 0 ≤ 8 := by decide
    exact all _ (by omega)
  refine ⟨l, _, _, V.int (([1, 2, 3, 4, 5, 6, 7, 8] : List Int).getD r.toNat 0), rfl, rfl, SqL.of hl2, atI_int (by omega) hr, ?_⟩
  generalize ([1, 2, 3, 4, 5, 6, 7, 8] : List Int).getD r.toNat 0 = m at hv
  refine ⟨m, rfl, by omega, by omega, fun D hD => ?_⟩
  have f02 : Fr1 a H H2 := (Fr1.of (s1 _)).trans f2
  have nDa : D ≠ a := fun e => by
    obtain ⟨y0, y1, y2, hay, _⟩ := hb2
    rw [e, hay] at hD
    cases hD
  refine lc_range (fun i H' => ∃ ds : List Int, Fr1 a H2 H' ∧ BoxAt H' a ∧ H' D = some (.lst (ds.map V.int)) ∧ ds.length = i ∧ Digs ds) ⟨[], .of (same_new hD), hb2.same (same_new hD), upd_same, rfl, fun x hx => by cases hx⟩ (fun i H3 hi g => ⟨rfl, ?_⟩) (fun H3 g => ?_)
  · obtain ⟨ds, f3, hb3, hD3, hdl, hdd⟩ := g
    refine ⟨_, rfl, a, 16, rfl, hb3, by decide, by decide, fun v H4 v0 v1 f4 hb4 => ?_⟩
    have hD4 := f4 _ _ hD3 nDa
    refine ⟨_, hD4, (by rw [List.length_map]; exact sz_lt (by omega)), ds ++ [v], fun c o hc hn => ?_, ?_, ?_, by rw [List.length_append, hdl] <;> rfl, fun x hx => ?_⟩
    · rw [upd_ne (ne_of_none hc hD)]
      exact f4 _ _ (f3 _ _ hc hn) hn
    · obtain ⟨y0, y1, y2, hay, hy⟩ := hb4
      exact ⟨y0, y1, y2, by rw [upd_ne nDa.symm]; exact hay, hy⟩
    · rw [List.map_append]
      exact upd_same
    · rcases List.mem_append.mp hx with h | h
      · exact hdd x h
      · rw [List.mem_singleton.mp h]
        exact ⟨v0, v1⟩
  · obtain ⟨ds, f3, hb3, hD3, hdl, hdd⟩ := g
    refine ⟨D, _, rfl, Or.inl ⟨SqL.of hD3, fun t ht => ?_⟩⟩
    exact q t ds _ (f02.trans (f3.trans (.of (same_new ht)))) (hb3.same (same_new ht)) upd_same ⟨by omega, by omega, hdd⟩
theorem hexsS_join (ds : List Int) : Txt.join "" (ds.map hex1) = hexsS ds := by
  refine TL.ext_tl ?_
  rw [TL.join_eq, TL.tl_join]
  have e : ∀ ds : List Int, TL.joinL [] ((ds.map hex1).map TL.tl) = ds.map hexC := fun ds => by
    induction ds with
    | nil => rfl
    | cons a r ih =>
      cases r with
      | nil => rfl
      | cons b u =>
        show [hexC a] ++ ([] ++ TL.joinL [] (((b :: u).map hex1).map TL.tl)) = _
        rw [ih] <;> rfl
  exact e ds
def spSigns (K : PySem.W.Frag) : Sp := fun vs H Q _ => ∃ (kb : Bool) (a : Addr) (ds : List Int), vs = [.ref a] ∧ SqK kb K H a (ds.map V.int) ∧ Digs ds ∧ ds.length ≤ 1000 ∧ ∀ H', Same H H' → Q (.str (hexsS ds)) H'
abbrev N_lSigns : List Str := ["_law_digits", "_law_digit"]
theorem sc_lSigns : FnScope N_lSigns ["_law_digits"] (defScope s_lSigns) := ⟨rfl, rfl, rfl, by decide +kernel, rfl, by decide +kernel, by decide +kernel⟩
theorem c_lSigns (T : Tx P w K mg base) : Cal P w K mg base "_law_signs" 1 ["_law_digits"] (spSigns K) := by
  refine cal_mk T.df_lSigns T.g_lSigns sc_lSigns (fun _ _ _ _ _ _ us hl => match us, hl with | [_], _ => rfl) ?len (fun f cdv A outer s H vs Q E hr h => ?body)
  case len => walk_at "len"
  have nd := sc_lSigns.nd
  refine ⟨_, (pss_one (ps_ret (pe_join pe_str (pe_lc (own := [("_law_digit", 1)]) (g := gName 1) (tt := tYes) rfl nd (pi_seqK (pv 0)) (blkOk_by (own := [("_law_digit", 1)]) (N := N_lSigns) (sc := defScope s_lSigns) (by decide +kernel)) (fun _ _ _ _ _ => (pg_name (i := 1) nd rfl (Or.inl rfl))) (fun _ _ _ _ _ => pts_nil) (fun _ _ _ _ _ => (pe_ix ix_str pe_str (pv 1) (fun _ _ => rfl))))))), ?_⟩
  obtain ⟨kb, a, ds, rfl, ha, hds, hl, q⟩ := h
  refine ⟨⟨_, rfl⟩, _, rfl, kb, a, rfl, ⟨_, ha⟩, fun D hD => lcm_seq ha hD (by rw [List.length_map]; omega) (fun _ => rfl) (fun i => V.str ((ds.map hex1).getD i "")) (fun i x H1 hi s1 Q2 k => ?_) (fun H1 s1 h1 => ?_)⟩
  · obtain ⟨d, hd, rfl⟩ := map_get hi
    have e : (ds.map hex1).getD i "" = hex1 d := by rw [List.getD, List.getElem?_map, hd] <;> rfl
    rw [e] at k
    exact ⟨_, rfl, _, _, _, rfl, rfl, by decide +kernel, hex_at (hds d (List.mem_of_getElem? hd)), k H1 (Same.refl _)⟩
  have hD1 : H1 D = some (.lst ((ds.map hex1).map V.str)) := by
    rw [h1, List.length_map]
    have e := rng_get (ds.map hex1) ("" : Str)
    rw [List.length_map] at e
    congr 2
    conv => rhs; rw [← e]
    rw [List.map_map] <;> rfl
  have hs := sum_le (l := (ds.map hex1).map (·.length)) (k := 1) (fun x hx => by
    obtain ⟨y, hy, rfl⟩ := List.mem_map.mp hx
    obtain ⟨d, _, rfl⟩ := List.mem_map.mp hy
    exact Nat.le_refl 1)
  rw [List.length_map, List.length_map] at hs
  refine ⟨_, _, ds.map hex1, rfl, rfl, Or.inl (SqL.of hD1), ?_, ?_⟩
  · have h0 : ("" : Str).length = 0 := rfl
    rw [h0]
    omega
  · rw [hexsS_join]
    exact q H1 s1
def spHead : Sp := fun vs H Q _ => ∃ (a : Addr), vs = [.ref a] ∧ BoxAt H a ∧ ∀ (r t k : Addr) (tab key : List Int) H', Fr1 a H H' → BoxAt H' a → H' r = some (.tup [.ref t, .ref k]) → H' t = some (.tup (tab.map V.int)) → H' k = some (.tup (key.map V.int)) → IsTab tab → IsKey key → Q (.ref r) H'
abbrev N_lHead : List Str := ["_law_box_here"]
theorem sc_lHead : FnScope N_lHead ["_law_box_here"] (defScope s_lHead) := ⟨rfl, rfl, rfl, by decide +kernel, rfl, by decide +kernel, by decide +kernel⟩
theorem c_lHead (T : Tx P w K mg base) : Cal P w K mg base "_law_head" 3 ["_law_box_here"] (spHead) := by
  refine cal_mk T.df_lHead T.g_lHead sc_lHead (fun _ _ _ _ _ _ us hl => match us, hl with | [_], _ => rfl) ?len (fun f cdv A outer s H vs Q E hr h => ?body)
  case len => walk_at "len"
  have nd := sc_lHead.nd
  refine ⟨_, (pss_one (ps_ret (pe_tup (pa_cons (pe_c (c_lTable T) (hr.mono (by decide)) (pa_cons (pv 0) pa_nil)) (pa_cons (pe_c (c_lKey T) (hr.mono (by decide)) (pa_cons (pv 0) pa_nil)) pa_nil))))), ?_⟩
  obtain ⟨a, rfl, hb, q⟩ := h
  refine ⟨_, rfl, a, rfl, hb, fun t tab H1 f1 hb1 ht hT => ?_⟩
  refine ⟨_, rfl, a, rfl, hb1, fun k key H2 f2 hb2 hk hK => ?_⟩
  have ht2 := f2.tk hb1 _ _ ht
  refine ⟨(by show 2 ≤ sizeLine; decide), fun r hr => ?_⟩
  exact q r t k tab key _ (f1.trans (f2.trans (.of (same_new hr)))) (hb2.same (same_new hr)) upd_same (same_new hr _ _ ht2) (same_new hr _ _ hk) hT hK
end
end K69
end
section
set_option Elab.async false
set_option linter.all false
set_option maxRecDepth 100000
set_option maxHeartbeats 4000000
local macro_rules | `(tactic| walk_at "len") => `(tactic| (intro vs H Q E h; first
  | (obtain ⟨e, _⟩ := h; subst e; rfl) | (obtain ⟨_, e, _⟩ := h; subst e; rfl) | (obtain ⟨_, _, e, _⟩ := h; subst e; rfl) | (obtain ⟨_, _, _, e, _⟩ := h; subst e; rfl) | (obtain ⟨_, _, _, _, e, _⟩ := h; subst e; rfl)
  | (obtain ⟨_, _, _, _, _, e, _⟩ := h; subst e; rfl) | (obtain ⟨_, _, _, _, _, _, e, _⟩ := h; subst e; rfl) | (obtain ⟨_, _, _, _, _, _, _, e, _⟩ := h; subst e; rfl) | (obtain ⟨_, _, _, _, _, _, _, _, e, _⟩ := h; subst e; rfl)
  | (obtain ⟨_, _, _, _, _, _, _, _, _, e, _⟩ := h; subst e; rfl) | (obtain ⟨_, _, _, _, _, _, _, _, _, _, e, _⟩ := h; subst e; rfl) | (obtain ⟨_, _, _, _, _, _, _, _, _, _, _, e, _⟩ := h; subst e; rfl)))
local macro_rules | `(tactic| walk_at "hh") => `(tactic| first
  | assumption
  | exact L2.upd_same
  | (refine (L2.upd_ne (by walk_at "ne")).trans ?_; walk_at "hh")
  | (refine (‹L2.Same _ _› : L2.Same _ _) _ _ ?_; walk_at "hh"))
local macro_rules | `(tactic| walk_at "ne") => `(tactic| first
  | assumption
  | (apply Ne.symm; assumption)
  | exact L2.ne_of_none (by walk_at "hh") (by assumption)
  | exact (L2.ne_of_none (by walk_at "hh") (by assumption)).symm)
local macro_rules | `(tactic| walk_at "s") => `(tactic| first
  | refine ⟨_, rfl, ?_⟩
  | refine ⟨_, _, _, rfl, (by walk_at "hh"), ?_⟩
  | refine ⟨rfl, ?_⟩
  | refine ⟨_, _, rfl, rfl, ?_⟩)
local macro_rules | `(tactic| walk_at "isi int") => `(tactic| refine ⟨_, _, _, _, true, rfl, .ty "int", .base (.int _), L2.kit_ty (by decide +kernel), ?_⟩)
local macro_rules | `(tactic| walk_at "isi bool") => `(tactic| refine ⟨_, _, _, _, false, rfl, .ty "bool", .base (.int _), L2.kit_ty (by decide +kernel), ?_⟩)
local macro_rules | `(tactic| walk_at "isi tuple") => `(tactic| refine ⟨_, _, _, _, true, rfl, .ty "tuple", .base (.tup (by assumption)), L2.kit_ty (by decide +kernel), ?_⟩)
local macro_rules | `(tactic| walk_at "isi str") => `(tactic| refine ⟨_, _, _, _, true, rfl, .ty "str", .base (.str _), L2.kit_ty (by decide +kernel), ?_⟩)
local macro_rules | `(tactic| walk_at "v") => `(tactic| refine ⟨_, rfl, ?_⟩)
local macro_rules | `(tactic| walk_at "ii") => `(tactic| refine ⟨_, _, rfl, rfl, ?_⟩)
namespace K69
open PySem PySem.Spec PyProof.Rows L2
theorem RowV.gen {H : Hp} {a : Addr} {r : Rw} (h : RowV H a r) : RowG H a r := by
  have one : ∀ {v : V} {t0 : Str × Th}, ThV H v t0.2 → ∀ (j : Nat) (v' : V) (t : Str × Th), [v][j]? = some v' → [t0][j]? = some t → ThV H v' t.2 := fun {v t0} h j v' t h1 h2 => by
    match j, h1, h2 with
    | 0, h1, h2 =>
      obtain rfl := Option.some.inj h1
      obtain rfl := Option.some.inj h2
      exact h
  have cons : ∀ {v : V} {vs : List V} {t0 : Str × Th} {ts : List (Str × Th)}, ThV H v t0.2 → (∀ (j : Nat) (v' : V) (t : Str × Th), vs[j]? = some v' → ts[j]? = some t → ThV H v' t.2) → ∀ (j : Nat) (v' : V) (t : Str × Th), (v :: vs)[j]? = some v' → (t0 :: ts)[j]? = some t → ThV H v' t.2 := fun {v vs t0 ts} h hs j v' t h1 h2 => by
    match j, h1, h2 with
    | 0, h1, h2 =>
      obtain rfl := Option.some.inj h1
      obtain rfl := Option.some.inj h2
      exact h
    | j + 1, h1, h2 => exact hs j v' t h1 h2
  cases r with
  | house tab key =>
    obtain ⟨t, k, h1, h2, h3⟩ := h
    exact ⟨_, h1, rfl, cons ⟨t, rfl, h2⟩ (one ⟨k, rfl, h3⟩)⟩
  | door z n f m => exact ⟨_, h, rfl, cons rfl (cons rfl (cons rfl (one rfl)))⟩
  | button z s => exact ⟨_, h, rfl, cons rfl (one rfl)⟩
  | teach d z => exact ⟨_, h, rfl, cons rfl (one rfl)⟩
  | press z deed dns =>
    refine ⟨_, h, by simp [Rw.things], cons rfl (cons rfl fun j v t h1 h2 => ?_)⟩
    obtain ⟨d, hd, rfl⟩ := map_get h1
    obtain ⟨d2, hd2, rfl⟩ := map_get h2
    obtain rfl : d = d2 := Option.some.inj (hd.symm.trans hd2)
    rfl
  | play n d => exact ⟨_, h, rfl, cons rfl (one rfl)⟩
  | turn ks =>
    obtain ⟨k, h1, h2⟩ := h
    exact ⟨_, h1, rfl, one ⟨k, rfl, h2⟩⟩
  | lose z => exact ⟨_, h, rfl, one rfl⟩
  | tear z => exact ⟨_, h, rfl, one rfl⟩
  | known z => exact ⟨_, h, rfl, one rfl⟩
  | now z => exact ⟨_, h, rfl, one rfl⟩
abbrev sigW : List V := [V.str "house", V.str "turn"]
/-- how the law writes the thing at a place -/
def HowW (r : Rw) (i : Nat) : Th → Prop
  | .digs _ => inV (V.str r.word) sigW = true
  | .dd _ => inV (V.str r.word) sigW = false ∧ r.word = "press" ∧ i = 1
  | _ => inV (V.str r.word) sigW = false ∧ (r.word = "press" → i ≠ 1)
theorem how_w (r : Rw) {i : Nat} {t : Str × Th} (h : r.things[i]? = some t) : HowW r i t.2 := by
  cases r with
  | house tab key =>
    have w : inV (V.str ("house" : Str)) sigW = true := by decide +kernel
    match i, h with
    | 0, h => obtain rfl := Option.some.inj h; exact w
    | 1, h => obtain rfl := Option.some.inj h; exact w
  | turn ks =>
    have w : inV (V.str ("turn" : Str)) sigW = true := by decide +kernel
    match i, h with
    | 0, h => obtain rfl := Option.some.inj h; exact w
  | press z deed dns =>
    have w : inV (V.str ("press" : Str)) sigW = false := by decide +kernel
    match i, h with
    | 0, h => obtain rfl := Option.some.inj h; exact ⟨w, fun _ => by decide⟩
    | 1, h => obtain rfl := Option.some.inj h; exact ⟨w, rfl, rfl⟩
    | i + 2, h =>
      obtain ⟨d, _, rfl⟩ := map_get (show (dns.map fun d => (("name" : Str), Th.nm d))[i]? = some t from h)
      exact ⟨w, fun _ => by omega⟩
  | door z n f m =>
    have w : inV (V.str ("door" : Str)) sigW = false := by decide +kernel
    have w2 : ("door" : Str) = "press" → i ≠ 1 := fun e => absurd e (by decide +kernel)
    match i, h with
    | 0, h => obtain rfl := Option.some.inj h; exact ⟨w, w2⟩
    | 1, h => obtain rfl := Option.some.inj h; exact ⟨w, w2⟩
    | 2, h => obtain rfl := Option.some.inj h; exact ⟨w, w2⟩
    | 3, h => obtain rfl := Option.some.inj h; exact ⟨w, w2⟩
  | button z s =>
    have w : inV (V.str ("button" : Str)) sigW = false := by decide +kernel
    have w2 : ("button" : Str) = "press" → i ≠ 1 := fun e => absurd e (by decide +kernel)
    match i, h with
    | 0, h => obtain rfl := Option.some.inj h; exact ⟨w, w2⟩
    | 1, h => obtain rfl := Option.some.inj h; exact ⟨w, w2⟩
  | teach d z =>
    have w : inV (V.str ("teach" : Str)) sigW = false := by decide +kernel
    have w2 : ("teach" : Str) = "press" → i ≠ 1 := fun e => absurd e (by decide +kernel)
    match i, h with
    | 0, h => obtain rfl := Option.some.inj h; exact ⟨w, w2⟩
    | 1, h => obtain rfl := Option.some.inj h; exact ⟨w, w2⟩
  | play n d =>
    have w : inV (V.str ("play" : Str)) sigW = false := by decide +kernel
    have w2 : ("play" : Str) = "press" → i ≠ 1 := fun e => absurd e (by decide +kernel)
    match i, h with
    | 0, h => obtain rfl := Option.some.inj h; exact ⟨w, w2⟩
    | 1, h => obtain rfl := Option.some.inj h; exact ⟨w, w2⟩
  | lose z =>
    have w : inV (V.str ("lose" : Str)) sigW = false := by decide +kernel
    have w2 : ("lose" : Str) = "press" → i ≠ 1 := fun e => absurd e (by decide +kernel)
    match i, h with
    | 0, h => obtain rfl := Option.some.inj h; exact ⟨w, w2⟩
  | tear z =>
    have w : inV (V.str ("tear" : Str)) sigW = false := by decide +kernel
    have w2 : ("tear" : Str) = "press" → i ≠ 1 := fun e => absurd e (by decide +kernel)
    match i, h with
    | 0, h => obtain rfl := Option.some.inj h; exact ⟨w, w2⟩
  | known z =>
    have w : inV (V.str ("known" : Str)) sigW = false := by decide +kernel
    have w2 : ("known" : Str) = "press" → i ≠ 1 := fun e => absurd e (by decide +kernel)
    match i, h with
    | 0, h => obtain rfl := Option.some.inj h; exact ⟨w, w2⟩
  | now z =>
    have w : inV (V.str ("now" : Str)) sigW = false := by decide +kernel
    have w2 : ("now" : Str) = "press" → i ≠ 1 := fun e => absurd e (by decide +kernel)
    match i, h with
    | 0, h => obtain rfl := Option.some.inj h; exact ⟨w, w2⟩
theorem word_le (r : Rw) : r.word.length ≤ 6 := by
  cases r <;> exact Nat.le_of_ble_eq_true rfl
theorem th_len {sort : Str} {t : Th} (h : ThOk sort t) : t.word.length ≤ 16 := by
  cases t with
  | nm z => exact Nat.le_trans h.2.hi (by decide)
  | num i =>
    obtain ⟨_, _, _, _, _, _, h0, h1⟩ := h
    exact Nat.le_trans (numS_len h0 h1) (by decide)
  | digs ds =>
    show (hexsS ds).length ≤ 16
    rw [hexsS_len]
    rcases h with ⟨_, h⟩ | ⟨_, h⟩
    · exact Nat.le_of_eq h.len
    · exact Nat.le_trans h.hi (by decide)
  | dd d =>
    show (hexsS [d]).length ≤ 16
    rw [hexsS_len]
    show 1 ≤ 16
    decide
theorem words_sum {r : Rw} (h : r.wf) : (r.words.map (·.length)).sum ≤ r.words.length * 16 := by
  have g := sum_le (l := r.words.map (·.length)) (k := 16) fun x hx => by
    obtain ⟨w, hw, rfl⟩ := List.mem_map.mp hx
    rcases List.mem_cons.mp hw with e | e
    · rw [e]; exact Nat.le_trans (word_le r) (show 6 ≤ 16 by decide)
    · obtain ⟨t, ht, rfl⟩ := List.mem_map.mp e
      exact th_len (wf_things h t ht)
  rw [List.length_map] at g
  exact g
section
variable {P : Program} {w : World} {K : PySem.W.Frag} {mg : Str → Option Value} {base : Heap}
def spWords : Sp := fun vs H Q _ => ∃ (a : Addr) (r : Rw), vs = [.ref a] ∧ RowV H a r ∧ r.wf ∧ ∀ H', Same H H' → Q (.str (rowTx r)) H'
abbrev N_lWords : List Str := ["_law_row_here", "_law_words_here", "_law_place", "_law_thing"]
theorem sc_lWords : FnScope N_lWords ["_law_row_here"] (defScope s_lWords) := ⟨rfl, rfl, rfl, by decide +kernel, rfl, by decide +kernel, by decide +kernel⟩
theorem c_lWords (T : Tx P w K mg base) : Cal P w K mg base "_law_words" 2 ["_law_row_here"] (spWords) := by
  refine cal_mk T.df_lWords T.g_lWords sc_lWords (fun _ _ _ _ _ _ us hl => match us, hl with | [_], _ => rfl) ?len (fun f cdv A outer s H vs Q E hr h => ?body)
  case len => walk_at "len"
  have nd := sc_lWords.nd
  refine ⟨_, (pss_cons (ps_set (i := 1) nd rfl (Or.inl rfl) (pe_lst (pa_cons (pe_ix ix_tup (pv 0) pe_int (fun _ _ => rfl)) pa_nil)))
    (pss_cons (ps_for PassesOwn.never rfl (pi_enumK false (by rfl) T.f_enumerate (pa_cons (pe_slice sl_tupA (pv 0) (po_some pe_int) po_none) pa_nil)) (pg_tup rfl (pgs_cons (pg_name (i := 2) nd rfl (Or.inl rfl)) (pgs_cons (pg_name (i := 3) nd rfl (Or.inl rfl)) pgs_nil)))
    (pss_one (ps_if (pt_cmpR op_in_seq (pe_ix ix_tup (pv 0) pe_int (fun _ _ => rfl)) (pe_tup (pa_cons pe_str (pa_cons pe_str pa_nil))) (by with_unfolding_all rfl)) (pss_one (ps_expr (pe_bm PySem.F.plainAttrs_list PySem.F.slot_list_append PySem.F.type_list_append mt_append (pv 1) (pa_cons (pe_c (c_lSigns T) (hr.mono (by decide)) (pa_cons (pv 3) pa_nil)) pa_nil)))) (pss_one (ps_if (PW.pt (pw_and (pt_cmpR op_eq (pe_ix ix_tup (pv 0) pe_int (fun _ _ => rfl)) pe_str (nomark _)) (pw_and1 (pt_cmpR op_eq (pv 2) pe_int (nomark _))))) (pss_one (ps_expr (pe_bm PySem.F.plainAttrs_list PySem.F.slot_list_append PySem.F.type_list_append mt_append (pv 1) (pa_cons (pe_c (c_lSigns T) (hr.mono (by decide)) (pa_cons (pe_lst (pa_cons (pv 3) pa_nil)) pa_nil)) pa_nil)))) (pss_one (ps_expr (pe_bm PySem.F.plainAttrs_list PySem.F.slot_list_append PySem.F.type_list_append mt_append (pv 1) (pa_cons (pe_callTy (T := "str") call_str_any (by rfl) T.f_str (by decide +kernel) (pa_cons (pv 3) pa_nil)) pa_nil)))))))))
    (pss_one (ps_ret (pe_join pe_str (pv 1)))))), ?_⟩
  obtain ⟨a, r, rfl, hr, hw, q⟩ := h
  obtain ⟨vs, hv, hvl, hvt⟩ := hr.gen
  have hvs := SqT.of (K := K) hv
  have hok := wf_things hw
  have htl := things_len hw
  refine ⟨_, rfl, a, _, _, V.str r.word, rfl, rfl, hvs, at_of (j := 0) rfl rfl, (by show 1 ≤ sizeLine; decide), fun l hl => ?_⟩
  generalize e1 : upd H l _ = H1
  have s1 : Same H H1 := by rw [← e1]; exact same_new hl
  have hl1 : H1 l = some (.lst ([r.word].map V.str)) := by rw [← e1]; exact upd_same
  clear e1
  have hv1 := s1 _ _ hv
  refine ⟨_, rfl, _, rfl, a, _, rfl, SqT.of hv1, (fun y => absurd y.1 (by
    show ¬ HT.sIx (V.str r.word :: vs).length 0 (some ((1 : Nat) : Int)) = 0
    rw [HT.sIx_nat]
    show ¬ min 1 (vs.length + 1) = 0
    omega)), fun _ p hp => ?_⟩
  rw [cutV1]
  have nlp : l ≠ p := ne_of_none hl1 hp
  refine ⟨p, _, rfl, SqT.of upd_same, for_it (walk_enumK (xs := vs)) (fun i σ H' => ∃ (v2 v3 : Option V), σ = [some (.ref a), some (.ref l), v2, v3] ∧ Same H H' ∧ H' p = some (.tup vs) ∧ H' l = some (.lst ((r.word :: (r.things.take i).map fun t => t.2.word).map V.str))) ⟨none, none, rfl, s1.trans (same_new hp), upd_same, (upd_ne nlp).trans hl1⟩
    (fun i σ H' _ g => ?_) (fun i x σ H2 H3 hi g y => ?_) (fun σ H2 g => ?_)⟩
  · obtain ⟨v2, v3, _, _, g1, _⟩ := g
    exact SqT.of g1
  · obtain ⟨v2, v3, rfl, s2, hp2, hl2⟩ := g
    obtain ⟨Tp, x1, y1, rfl, hT, rfl, ex, ey⟩ := y
    obtain rfl : V.int (i : Nat) = x1 := Option.some.inj ex
    have hit : i < r.things.length := by omega
    obtain ⟨t, ht⟩ : ∃ t, r.things[i]? = some t := ⟨_, List.getElem?_eq_getElem hit⟩
    have htv := (hvt i y1 t ey ht).tk (.of s2)
    have htk := hok t (List.mem_of_getElem? ht)
    have how := how_w r ht
    refine ⟨Tp, _, rfl, SqT.of upd_same, rfl, _, _, rfl, _, _, rfl, rfl, ?_⟩
    have s3 : Same H2 (upd H2 Tp (.tup [.int (i : Nat), y1])) := same_new hT
    generalize upd H2 Tp _ = H3 at s3 ⊢
    have hv3 := (s2.trans s3) _ _ hv
    refine ⟨_, rfl, a, _, _, V.str r.word, rfl, rfl, SqT.of hv3, at_of (j := 0) rfl rfl, (by show 2 ≤ sizeLine; decide), fun u hu => ?_⟩
    generalize e4 : upd H3 u _ = H4
    have s4 : Same H3 H4 := by rw [← e4]; exact same_new hu
    have hu4 : H4 u = some (.tup sigW) := by rw [← e4]; exact upd_same
    clear e4
    have s24 := s3.trans s4
    refine ⟨u, sigW, rfl, Or.inr (SqT.of hu4), rfl, rfl, _, rfl, ?_⟩
    rw [if_neg Bool.false_ne_true]
    have hl4 := s24 _ _ hl2
    have hlen : ((r.word :: (r.things.take i).map fun t => t.2.word).map V.str).length < sizeLine := by
      rw [List.length_map, List.length_cons, List.length_map, List.length_take]
      exact sz_lt (by omega)
    have app : ∀ H5, Same H4 H5 → ∃ v2 v3 : Option V, [some (V.ref a), some (.ref l), some (.int (i : Nat)), some y1] = [some (.ref a), some (.ref l), v2, v3] ∧ Same H (upd H5 l (.lst ((r.word :: (r.things.take i).map fun t => t.2.word).map V.str ++ [.str t.2.word]))) ∧ upd H5 l (.lst ((r.word :: (r.things.take i).map fun t => t.2.word).map V.str ++ [.str t.2.word])) p = some (.tup vs) ∧
        upd H5 l (.lst ((r.word :: (r.things.take i).map fun t => t.2.word).map V.str ++ [.str t.2.word])) l = some (.lst ((r.word :: (r.things.take (i + 1)).map fun t => t.2.word).map V.str)) := fun H5 s5 => by
      refine ⟨_, _, rfl, same_mut (s2.trans (s24.trans s5)) hl, (upd_ne nlp.symm).trans ((s24.trans s5) _ _ hp2), ?_⟩
      rw [upd_same, take_more ht, List.map_append, List.map_cons, List.map_cons, List.map_append] <;> rfl
    have hv4 := s24 _ _ (s2 _ _ hv)
    obtain ⟨sort, th⟩ := t
    cases th with
    | digs ds =>
      obtain ⟨b, rfl, hb⟩ := htv
      have hds : Digs ds ∧ ds.length ≤ 1000 := by
        rcases htk with ⟨_, h⟩ | ⟨_, h⟩
        · exact ⟨h.dig, by rw [h.len]; decide⟩
        · exact ⟨h.dig, by have := h.hi; omega⟩
      refine ifT how ?_
      exact ⟨_, rfl, Or.inl ⟨rfl, _, SqL.of hl4⟩, _, rfl, false, b, ds, rfl, SqT.of (s24 _ _ hb), hds.1, hds.2, fun H5 s5 => ⟨l, _, _, rfl, rfl, s5 _ _ hl4, hlen, app H5 s5⟩⟩
    | dd d =>
      obtain ⟨w1, w2, rfl⟩ := how
      have htv : y1 = .int d := htv
      subst htv
      refine ifF w1 ?_
      refine ⟨_, rfl, a, _, _, V.str r.word, rfl, rfl, SqT.of hv4, at_of (j := 0) rfl rfl, rfl, _, rfl, ?_⟩
      refine ifD (congrArg V.str w2) ?_
      refine ⟨_, rfl, rfl, _, rfl, ?_⟩
      refine ifD rfl ?_
      refine ⟨_, rfl, Or.inl ⟨rfl, _, SqL.of hl4⟩, _, rfl, (by show 1 ≤ sizeLine; decide), fun b hb => ?_⟩
      have s5 : ∀ o, Same H4 (upd H4 b o) := fun o => same_new hb
      exact ⟨true, b, [d], rfl, SqL.of upd_same, (fun x hx => by rw [List.mem_singleton.mp hx]; exact htk.2), (by show 1 ≤ 1000; decide), fun H6 s6 => ⟨l, _, _, rfl, rfl, ((s5 _).trans s6) _ _ hl4, hlen, app H6 ((s5 _).trans s6)⟩⟩
    | nm z =>
      obtain ⟨w1, w2⟩ := how
      have htv : y1 = .str z := htv
      subst htv
      have fin : ∀ t2 : TS, t2 = tDrop (tBM K "list" rAppend (tVar 1) (tCons (tCB (fun xs H Q => (∃ i : Int, xs = [.int i] ∧ i.natAbs.log2 < 1920 ∧ Q (.str (toString i)) H) ∨ ∃ a : Str, xs = [.str a] ∧ Q (.str a) H) (tCons (tVar 3) tNil)) tNil)) → ∀ D2 : Ends,
          D2.nx = (fun σ H' => ∃ (v2 v3 : Option V), σ = [some (.ref a), some (.ref l), v2, v3] ∧ Same H H' ∧ H' p = some (.tup vs) ∧ H' l = some (.lst ((r.word :: (r.things.take (i + 1)).map fun t => t.2.word).map V.str))) → t2 D2 [some (.ref a), some (.ref l), some (.int (i : Nat)), some (.str z)] H4 := by
        rintro t2 rfl D2 hD2
        refine ⟨_, rfl, Or.inl ⟨rfl, _, SqL.of hl4⟩, _, rfl, Or.inr ⟨z, rfl, l, _, _, rfl, rfl, hl4, hlen, ?_⟩⟩
        rw [hD2]
        exact app H4 (Same.refl _)
      refine ifF w1 ?_
      refine ⟨_, rfl, a, _, _, V.str r.word, rfl, rfl, SqT.of hv4, at_of (j := 0) rfl rfl, rfl, _, rfl, ?_⟩
      by_cases hpw : r.word = "press"
      · refine ifD (congrArg V.str hpw) ?_
        refine ⟨_, rfl, rfl, _, rfl, ?_⟩
        refine ifND (fun e => w2 hpw (by have := V.int.inj e; omega)) ?_
        exact fin _ rfl _ rfl
      · refine ifND (fun e => hpw (V.str.inj e)) ?_
        exact fin _ rfl _ rfl
    | num n =>
      obtain ⟨w1, w2⟩ := how
      have htv : y1 = .int n := htv
      subst htv
      obtain ⟨_, _, _, _, _, _, n0, n1⟩ := htk
      have fin : ∀ t2 : TS, t2 = tDrop (tBM K "list" rAppend (tVar 1) (tCons (tCB (fun xs H Q => (∃ i : Int, xs = [.int i] ∧ i.natAbs.log2 < 1920 ∧ Q (.str (toString i)) H) ∨ ∃ a : Str, xs = [.str a] ∧ Q (.str a) H) (tCons (tVar 3) tNil)) tNil)) → ∀ D2 : Ends,
          D2.nx = (fun σ H' => ∃ (v2 v3 : Option V), σ = [some (.ref a), some (.ref l), v2, v3] ∧ Same H H' ∧ H' p = some (.tup vs) ∧ H' l = some (.lst ((r.word :: (r.things.take (i + 1)).map fun t => t.2.word).map V.str))) → t2 D2 [some (.ref a), some (.ref l), some (.int (i : Nat)), some (.int n)] H4 := by
        rintro t2 rfl D2 hD2
        refine ⟨_, rfl, Or.inl ⟨rfl, _, SqL.of hl4⟩, _, rfl, Or.inl ⟨n, rfl, log_ok n0 n1, l, _, _, rfl, rfl, hl4, hlen, ?_⟩⟩
        rw [hD2]
        exact app H4 (Same.refl _)
      refine ifF w1 ?_
      refine ⟨_, rfl, a, _, _, V.str r.word, rfl, rfl, SqT.of hv4, at_of (j := 0) rfl rfl, rfl, _, rfl, ?_⟩
      by_cases hpw : r.word = "press"
      · refine ifD (congrArg V.str hpw) ?_
        refine ⟨_, rfl, rfl, _, rfl, ?_⟩
        refine ifND (fun e => w2 hpw (by have := V.int.inj e; omega)) ?_
        exact fin _ rfl _ rfl
      · refine ifND (fun e => hpw (V.str.inj e)) ?_
        exact fin _ rfl _ rfl
  · obtain ⟨v2, v3, rfl, s2, hp2, hl2⟩ := g
    rw [hvl, List.take_length] at hl2
    have hsum := words_sum hw
    have hwl : r.words.length = r.things.length + 1 := by simp [Rw.words]
    refine ⟨⟨_, rfl⟩, _, rfl, _, _, r.words, rfl, rfl, Or.inl (SqL.of hl2), ?_, q H2 s2⟩
    have h1 : (" " : Str).length = 1 := rfl
    rw [h1]
    omega
/-- a row of the law's walk -/
def WalkR (kept : Nat) : Rw → Prop
  | .press z deed dns => (z = "a" ∨ z = "ab") ∧ (0 ≤ deed ∧ deed < 16) ∧ (∀ d, d ∈ dns → d = "gate" ∨ d = "d") ∧ dns.length ≤ 3
  | .play num dn => num < kept ∧ (dn = "gate" ∨ dn = "d")
  | .lose z => z = "a" ∨ z = "ab"
  | .tear z => z = "a" ∨ z = "ab"
  | .turn ks => IsKey ks
  | _ => False
def spWalkRow : Sp := fun vs H Q _ => ∃ (a : Addr) (kept : Nat), vs = [.ref a, .int kept] ∧ BoxAt H a ∧ 0 < kept ∧ kept < 10000 ∧ ∀ (x : Addr) (r : Rw) H', Fr1 a H H' → BoxAt H' a → RowV H' x r → WalkR kept r → Q (.ref x) H'
theorem pick2 (x y : Str) {r : Int} (h0 : 0 ≤ r) (h1 : r < 2) : ∃ z, atI [V.str x, V.str y] r = some (.str z) ∧ (z = x ∨ z = y) := by
  by_cases h : r = 0
  · subst h
    exact ⟨x, rfl, .inl rfl⟩
  · have h : r = 1 := by omega
    subst h
    exact ⟨y, rfl, .inr rfl⟩
theorem cut_strs (ns : List Str) (hi : Option Int) : cutV (ns.map V.str) none hi = ((ns.take (HT.sIx ns.length ns.length hi)).map V.str) := by
  unfold cutV
  rw [List.length_map, HT.sIx_none, List.drop_zero, Nat.sub_zero, ← List.map_take]
abbrev N_lWalkRow : List Str := ["_law_box_here", "_law_kept", "_law_door", "_law_button", "_law_way"]
theorem sc_lWalkRow : FnScope N_lWalkRow ["_law_box_here", "_law_kept"] (defScope s_lWalkRow) := ⟨rfl, rfl, rfl, by decide +kernel, rfl, by decide +kernel, by decide +kernel⟩
theorem c_lWalkRow (T : Tx P w K mg base) : Cal P w K mg base "_law_walk_row" 3 ["_law_box_here", "_law_kept"] (spWalkRow) := by
  refine cal_mk T.df_lWalkRow T.g_lWalkRow sc_lWalkRow (fun _ _ _ _ _ _ us hl => match us, hl with | [_, _], _ => rfl) ?len (fun f cdv A outer s H vs Q E hr h => ?body)
  case len => walk_at "len"
  have nd := sc_lWalkRow.nd
  refine ⟨_, (pss_cons (ps_par (i := 2) (j := 3) rfl nd rfl rfl (by decide) rfl rfl (pa_cons (pe_ix ix_list (pe_lst (pa_cons pe_str (pa_cons pe_str pa_nil))) (pe_c (c_lTake T) (hr.mono (by decide)) (pa_cons (pv 0) (pa_cons pe_int pa_nil))) (fun _ _ => rfl)) (pa_cons (pe_ix ix_list (pe_lst (pa_cons pe_str (pa_cons pe_str pa_nil))) (pe_c (c_lTake T) (hr.mono (by decide)) (pa_cons (pv 0) (pa_cons pe_int pa_nil))) (fun _ _ => rfl)) pa_nil)) (by rfl))
    (pss_cons (ps_set (i := 4) nd rfl (Or.inl rfl) (pe_c (c_lTake T) (hr.mono (by decide)) (pa_cons (pv 0) (pa_cons pe_int pa_nil))))
    (pss_cons (ps_if (pt_cmpR op_lt (pv 4) pe_int (nomark _)) (pss_one (ps_ret (pe_op op_catA (pe_tup (pa_cons pe_str (pa_cons (pv 3) (pa_cons (pe_c (c_lTake T) (hr.mono (by decide)) (pa_cons (pv 0) (pa_cons pe_int pa_nil))) pa_nil)))) (pe_callTy (T := "tuple") call_tuple_of (by rfl) T.f_tuple (by decide +kernel) (pa_cons (pe_slice sl_list (pe_lst (pa_cons (pv 2) (pa_cons pe_str (pa_cons pe_str pa_nil)))) po_none (po_some (pe_c (c_lTake T) (hr.mono (by decide)) (pa_cons (pv 0) (pa_cons pe_int pa_nil))))) pa_nil))))) pss_nil)
    (pss_cons (ps_if (pt_cmpR op_lt (pv 4) pe_int (nomark _)) (pss_one (ps_ret (pe_tup (pa_cons pe_str (pa_cons (pe_c (c_lTake T) (hr.mono (by decide)) (pa_cons (pv 0) (pa_cons (pv 1) pa_nil))) (pa_cons (pv 2) pa_nil)))))) pss_nil)
    (pss_one (ps_ret (pe_ix ix_list (pe_lst (pa_cons (pe_tup (pa_cons pe_str (pa_cons (pv 3) pa_nil))) (pa_cons (pe_tup (pa_cons pe_str (pa_cons (pv 3) pa_nil))) (pa_cons (pe_tup (pa_cons pe_str (pa_cons (pe_c (c_lKey T) (hr.mono (by decide)) (pa_cons (pv 0) pa_nil)) pa_nil))) pa_nil)))) (pe_op op_sub (pv 4) pe_int) (fun _ _ => rfl)))))))), ?_⟩
  obtain ⟨a, kept, rfl, hb, hk0, hk1, q⟩ := h
  have ha : ∀ {H : Hp} {c : Addr}, BoxAt H a → H c = none → c ≠ a := fun {H c} hb hc e => by
    obtain ⟨x0, x1, x2, h1, _⟩ := hb
    rw [e, h1] at hc
    cases hc
  refine ⟨(by show 2 ≤ sizeLine; decide), fun l1 hl1 => ?_⟩
  refine ⟨_, rfl, a, 2, rfl, hb.same (same_new hl1), by decide, by decide, fun r1 H2 r10 r11 f2 hb2 => ?_⟩
  have hl12 := f2 _ _ upd_same (ha hb hl1)
  obtain ⟨door, hd1, hd2⟩ := pick2 "gate" "d" r10 r11
  refine ⟨l1, _, _, V.str door, rfl, rfl, SqL.of hl12, hd1, ?_⟩
  refine ⟨(by show 2 ≤ sizeLine; decide), fun l2 hl2 => ?_⟩
  refine ⟨_, rfl, a, 2, rfl, hb2.same (same_new hl2), by decide, by decide, fun r2 H3 r20 r21 f3 hb3 => ?_⟩
  have hl23 := f3 _ _ upd_same (ha hb2 hl2)
  obtain ⟨btn, hbt1, hbt2⟩ := pick2 "a" "ab" r20 r21
  refine ⟨l2, _, _, V.str btn, rfl, rfl, SqL.of hl23, hbt1, ?_⟩
  have f13 : Fr1 a H H3 := (Fr1.of (same_new hl1)).trans (f2.trans ((Fr1.of (same_new hl2)).trans f3))
  refine ⟨_, _, rfl, ?_⟩
  refine ⟨_, rfl, a, 12, rfl, hb3, by decide, by decide, fun way H4 w0 w1 f4 hb4 => ?_⟩
  have f14 := f13.trans f4
  refine ⟨_, rfl, _, _, rfl, rfl, _, rfl, ?_⟩
  by_cases hw5 : way < 5
  · refine ifD hw5 ?_
    refine ⟨_, rfl, _, rfl, a, 16, rfl, hb4, by decide, by decide, fun deed H5 d0 d1 f5 hb5 => ?_⟩
    refine ⟨(by show 3 ≤ sizeLine; decide), fun t1 ht1 => ?_⟩
    generalize e6 : upd H5 t1 _ = H6
    have s6 : Same H5 H6 := by rw [← e6]; exact same_new ht1
    have ht6 : H6 t1 = some (.tup [.str "press", .str btn, .int deed]) := by rw [← e6]; exact upd_same
    clear e6
    have hb6 := hb5.same s6
    refine ⟨_, rfl, (by show 3 ≤ sizeLine; decide), fun l3 hl3 => ?_⟩
    refine ⟨_, rfl, a, 4, rfl, hb6.same (same_new hl3), by decide, by decide, fun r4 H7 r40 r41 f7 hb7 => ?_⟩
    have hl37 := f7 _ _ upd_same (ha hb6 hl3)
    have f67 : Fr1 a H6 H7 := (Fr1.of (same_new hl3)).trans f7
    have ht7 := f67 _ _ ht6 (fun e => hb6.nt _ (by rw [← e]; exact ht6))
    refine ⟨_, rfl, l3, _, rfl, SqL.of hl37, fun p hp => ?_⟩
    have ecut : cutV [V.str door, V.str "gate", V.str "d"] none (some r4) = ((([door, "gate", "d"] : List Str).take (HT.sIx 3 3 (some r4))).map V.str) := cut_strs [door, "gate", "d"] (some r4)
    rw [ecut]
    generalize hdn : ([door, "gate", "d"] : List Str).take (HT.sIx 3 3 (some r4)) = dns
    have hdns : (∀ d, d ∈ dns → d = "gate" ∨ d = "d") ∧ dns.length ≤ 3 := by
      rw [← hdn]
      refine ⟨fun d hd => ?_, ?_⟩
      · have := List.mem_of_mem_take hd
        rcases List.mem_cons.mp this with e | e
        · rw [e]; exact hd2
        rcases List.mem_cons.mp e with e | e
        · exact .inl e
        · exact .inr (List.mem_singleton.mp e)
      · rw [List.length_take]
        exact Nat.min_le_right _ _
    refine ⟨p, _, rfl, Or.inl ⟨SqL.of upd_same, fun t2 ht2 => ?_⟩⟩
    have n1 : t1 ≠ p := ne_of_none ht7 hp
    have n2 : t1 ≠ t2 := ne_of_none ((upd_ne n1).trans ht7) ht2
    have s8 : ∀ o1 o2, (upd H7 p o1) t2 = none → Same H7 (upd (upd H7 p o1) t2 o2) := fun o1 o2 h => (same_new hp).trans (same_new h)
    have wr : WalkR kept (.press btn deed dns) := ⟨hbt2, ⟨d0, d1⟩, hdns⟩
    have f17 : Fr1 a H H7 := f14.trans (f5.trans ((Fr1.of s6).trans f67))
    refine ⟨t1, t2, _, _, rfl, rfl, SqT.of ((upd_ne n2).trans ((upd_ne n1).trans ht7)), SqT.of upd_same, (by rw [List.length_map]; show 3 + _ ≤ _; exact sz_of (by have := hdns.2; omega)), (fun h => by cases h), (fun _ h => ?_), fun _ _ x hx => ?_⟩
    · have hd0 : dns = [] := List.map_eq_nil_iff.mp h
      rw [hd0] at wr
      exact q t1 (.press btn deed []) _ (f17.trans (.of (s8 _ _ ht2))) (hb7.same (s8 _ _ ht2)) ((upd_ne n2).trans ((upd_ne n1).trans ht7)) wr
    · have s9 := (s8 _ (.tup (dns.map V.str)) ht2).trans (same_new (o := .tup ([.str "press", .str btn, .int deed] ++ dns.map V.str)) hx)
      exact q x (.press btn deed dns) _ (f17.trans (.of s9)) (hb7.same s9) upd_same wr
  · refine ifND hw5 ?_
    refine ⟨_, rfl, _, _, rfl, rfl, _, rfl, ?_⟩
    by_cases hw9 : way < 9
    · refine ifD hw9 ?_
      refine ⟨_, rfl, _, rfl, a, kept, rfl, hb4, by omega, by omega, fun r H5 r0 r1 f5 hb5 => ?_⟩
      refine ⟨_, rfl, (by show 3 ≤ sizeLine; decide), fun x hx => ?_⟩
      refine q x (.play r.toNat door) _ (f14.trans (f5.trans (.of (same_new hx)))) (hb5.same (same_new hx)) ?_ ⟨by omega, hd2⟩
      show upd H5 x _ x = some (.tup [.str "play", .int (r.toNat : Nat), .str door])
      rw [Int.toNat_of_nonneg r0]
      exact upd_same
    · refine ifND hw9 ?_
      refine ⟨_, rfl, (by show 2 ≤ sizeLine; decide), fun t1 ht1 => ⟨_, rfl, (by show 2 ≤ sizeLine; decide), fun t2 ht2 => ?_⟩⟩
      have n12 : t1 ≠ t2 := ne_of_none upd_same ht2
      generalize e5 : upd (upd H4 t1 _) t2 _ = H5
      have s5 : Same H4 H5 := by rw [← e5]; exact (same_new ht1).trans (same_new ht2)
      have ht15 : H5 t1 = some (.tup [.str "lose", .str btn]) := by rw [← e5, upd_ne n12]; exact upd_same
      have ht25 : H5 t2 = some (.tup [.str "tear", .str btn]) := by rw [← e5]; exact upd_same
      clear e5
      have hb5 := hb4.same s5
      refine ⟨_, rfl, a, rfl, hb5, fun k key H6 f6 hb6 hk hK => ?_⟩
      have tk := f6.tk hb5
      refine ⟨(by show 2 ≤ sizeLine; decide), fun t3 ht3 => ⟨(by show 3 ≤ sizeLine; decide), fun l hl => ?_⟩⟩
      have s7 : ∀ o1 o2, (upd H6 t3 o1) l = none → Same H6 (upd (upd H6 t3 o1) l o2) := fun o1 o2 h => (same_new ht3).trans (same_new h)
      have n3l : t3 ≠ l := ne_of_none upd_same hl
      have f17 : Fr1 a H (upd (upd H6 t3 (.tup [.str "turn", .ref k])) l (.lst [.ref t1, .ref t2, .ref t3])) := f14.trans ((Fr1.of s5).trans (f6.trans (.of (s7 _ _ hl))))
      have hb7 := hb6.same (s7 _ (.lst [.ref t1, .ref t2, .ref t3]) hl)
      have h1 := s7 _ (.lst [.ref t1, .ref t2, .ref t3]) hl _ _ (tk _ _ ht15)
      have h2 := s7 _ (.lst [.ref t1, .ref t2, .ref t3]) hl _ _ (tk _ _ ht25)
      have h3 : upd (upd H6 t3 (.tup [.str "turn", .ref k])) l (.lst [.ref t1, .ref t2, .ref t3]) t3 = some (.tup [.str "turn", .ref k]) := (upd_ne n3l).trans upd_same
      have h4 := s7 _ (.lst [.ref t1, .ref t2, .ref t3]) hl _ _ hk
      have hway : way = 9 ∨ way = 10 ∨ way = 11 := by omega
      rcases hway with rfl | rfl | rfl
      · exact ⟨_, rfl, _, _, rfl, rfl, l, _, _, V.ref t1, rfl, rfl, SqL.of upd_same, rfl, q t1 (.lose btn) _ f17 hb7 h1 hbt2⟩
      · exact ⟨_, rfl, _, _, rfl, rfl, l, _, _, V.ref t2, rfl, rfl, SqL.of upd_same, rfl, q t2 (.tear btn) _ f17 hb7 h2 hbt2⟩
      · exact ⟨_, rfl, _, _, rfl, rfl, l, _, _, V.ref t3, rfl, rfl, SqL.of upd_same, rfl, q t3 (.turn key) _ f17 hb7 ⟨k, h3, h4⟩ hK⟩
end
end K69
end
section
set_option Elab.async false
set_option linter.all false
set_option maxRecDepth 100000
set_option maxHeartbeats 400000
/-! what the house does, in plain numbers: no count opens twice, nothing falls -/
namespace K69
open PySem PySem.Spec PyProof.Rows L2
def lastOf (p : PH) (dn z : Str) : Option Int := (fnd PD.nm p.doors dn).bind fun d => (fE d.es z).map fun e => e.2.1
theorem hearE_none {near far last c : Int} {wt : Option Int} (h : (hearE near far last wt c).1 = none) : last < c ∧ (hearE near far last wt c).2.1 = c := by
  unfold hearE at h ⊢
  by_cases hC : wordS c last near far = "near" ∨ (wordS c last near far = "far" ∧ wt = some (c - 1))
  · rw [if_pos hC]
    refine ⟨?_, rfl⟩
    by_cases hl : c ≤ last
    · have e : wordS c last near far = "old" := by unfold wordS; rw [if_pos hl]
      rw [e] at hC
      rcases hC with h1 | ⟨h1, _⟩
      · exact absurd h1 (by decide +kernel)
      · exact absurd h1 (by decide +kernel)
    · omega
  · rw [if_neg hC] at h
    split at h <;> cases h
theorem hearE_some {near far last c : Int} {wt : Option Int} (h : (hearE near far last wt c).1 ≠ none) : (hearE near far last wt c).2.1 = last := by
  unfold hearE at h ⊢
  split
  · next hC => rw [if_pos hC] at h; exact absurd rfl h
  · split <;> rfl
theorem fE_hear {near far : Int} {es : List PE3} {z z' : Str} {c : Int} : (fE (hearL near far es z c) z').map (fun e => e.2.1) = if z' = z ∧ hearA near far es z c = none then some c else (fE es z').map fun e => e.2.1 := by
  unfold hearL hearA
  cases e : fE es z with
  | none =>
    rw [if_neg]
    intro h
    cases h.2
  | some x =>
    show (fnd Prod.fst (setN Prod.fst es z (z, (hearE near far x.2.1 x.2.2 c).2)) z').map _ = _
    rw [fnd_setN (show Prod.fst (z, (hearE near far x.2.1 x.2.2 c).2) = z from rfl)]
    by_cases hz : z' = z
    · subst hz
      have e2 : fnd Prod.fst es z' = some x := e
      rw [e2]
      show some (if z' = z' then (z', (hearE near far x.2.1 x.2.2 c).2) else x).2.1 = _
      rw [if_pos rfl]
      by_cases ha : (hearE near far x.2.1 x.2.2 c).1 = none
      · rw [if_pos ⟨rfl, ha⟩]
        exact congrArg some (hearE_none ha).2
      · rw [if_neg (fun h => ha h.2), e]
        exact congrArg some (hearE_some ha)
    · rw [if_neg (fun h => hz h.1)]
      have e3 : (fun e : PE3 => if z' = z then (z, (hearE near far x.2.1 x.2.2 c).2) else e) = id := by
        funext e
        rw [if_neg hz] <;> rfl
      rw [e3, Option.map_id] <;> rfl
theorem hear_last {p : PH} {dn z dn' z' : Str} {c : Int} (h : (fnd PD.nm p.doors dn).isSome = true) : lastOf (p.hear dn z c) dn' z' = if dn' = dn ∧ z' = z ∧ p.ans dn z c = none then some c else lastOf p dn' z' := by
  obtain ⟨d, hd⟩ := Option.isSome_iff_exists.mp h
  have hn := (fnd_ok hd).2
  have ea : p.ans dn z c = hearA d.near d.far d.es z c := by unfold PH.ans; rw [hd]
  have eh : p.hear dn z c = { p with doors := setN PD.nm p.doors dn { d with es := hearL d.near d.far d.es z c } } := by unfold PH.hear; rw [hd]
  rw [ea, eh]
  unfold lastOf
  show ((fnd PD.nm (setN PD.nm p.doors dn { d with es := hearL d.near d.far d.es z c }) dn').bind _) = _
  rw [fnd_setN (show PD.nm { d with es := hearL d.near d.far d.es z c } = dn from hn)]
  by_cases hdn : dn' = dn
  · subst hdn
    rw [hd]
    show (fE (if dn' = dn' then { d with es := hearL d.near d.far d.es z c } else d).es z').map (fun e => e.2.1) = _
    rw [if_pos rfl]
    show (fE (hearL d.near d.far d.es z c) z').map (fun e => e.2.1) = _
    rw [fE_hear]
    by_cases hz : z' = z ∧ hearA d.near d.far d.es z c = none
    · rw [if_pos hz, if_pos ⟨rfl, hz⟩]
    · rw [if_neg hz, if_neg (fun h => hz h.2)] <;> rfl
  · rw [if_neg (fun h => hdn h.1)]
    have e3 : (fun e : PD => if dn' = dn then { d with es := hearL d.near d.far d.es z c } else e) = id := by
      funext e
      rw [if_neg hdn] <;> rfl
    rw [e3, Option.map_id] <;> rfl
theorem ans_none {p : PH} {dn z : Str} {c : Int} (h : (fnd PD.nm p.doors dn).isSome = true) (ha : p.ans dn z c = none) : ∃ last, lastOf p dn z = some last ∧ last < c := by
  obtain ⟨d, hd⟩ := Option.isSome_iff_exists.mp h
  have ea : p.ans dn z c = hearA d.near d.far d.es z c := by unfold PH.ans; rw [hd]
  rw [ea] at ha
  unfold hearA at ha
  cases e : fE d.es z with
  | none => rw [e] at ha; cases ha
  | some x =>
    rw [e] at ha
    refine ⟨x.2.1, ?_, (hearE_none ha).1⟩
    unfold lastOf
    rw [hd]
    show (fE d.es z).map _ = _
    rw [e] <;> rfl
/-- the press of that number has opened that door -/
def Op (p : PH) (num : Int) (dn : Str) : Prop := ∃ (n : Nat) (z : Str) (c deed last : Int), num = n ∧ p.kept[n]? = some (z, c, deed) ∧ lastOf p dn z = some last ∧ c ≤ last
theorem Op.hear {p : PH} {num : Int} {dn x z : Str} {c : Int} (h : Op p num dn) (hx : (fnd PD.nm p.doors x).isSome = true) : Op (p.hear x z c) num dn := by
  obtain ⟨n, z1, c1, deed, last, h1, h2, h3, h4⟩ := h
  by_cases hc : dn = x ∧ z1 = z ∧ p.ans x z c = none
  · obtain ⟨rfl, rfl, ha⟩ := hc
    obtain ⟨l2, hl2, hlt⟩ := ans_none hx ha
    rw [hl2] at h3
    obtain rfl := Option.some.inj h3
    refine ⟨n, z1, c1, deed, c, h1, by rw [hear_kept]; exact h2, ?_, by omega⟩
    rw [hear_last hx, if_pos ⟨rfl, rfl, ha⟩]
  · refine ⟨n, z1, c1, deed, last, h1, by rw [hear_kept]; exact h2, ?_, h4⟩
    rw [hear_last hx, if_neg hc]
    exact h3
theorem Op.mono {p q : PH} {num : Int} {dn : Str} (h : Op p num dn) (hd : q.doors = p.doors) (hk : ∃ more, q.kept = p.kept ++ more) : Op q num dn := by
  obtain ⟨n, z, c, deed, last, h1, h2, h3, h4⟩ := h
  obtain ⟨more, hk⟩ := hk
  have hn := (List.getElem?_eq_some_iff.mp h2).1
  refine ⟨n, z, c, deed, last, h1, by rw [hk, List.getElem?_append_left hn]; exact h2, ?_, h4⟩
  unfold lastOf at h3 ⊢
  rw [hd]
  exact h3
theorem Op.new {p : PH} {n : Nat} {dn z : Str} {c deed : Int} (hx : (fnd PD.nm p.doors dn).isSome = true) (hk : p.kept[n]? = some (z, c, deed)) (ha : p.ans dn z c = none) : Op (p.hear dn z c) n dn := by
  refine ⟨n, z, c, deed, c, rfl, by rw [hear_kept]; exact hk, ?_, Int.le_refl _⟩
  rw [hear_last hx, if_pos ⟨rfl, rfl, ha⟩]
theorem Op.not {p : PH} {n : Nat} {dn z : Str} {c deed : Int} (hx : (fnd PD.nm p.doors dn).isSome = true) (hk : p.kept[n]? = some (z, c, deed)) (ha : p.ans dn z c = none) : ¬ Op p n dn := by
  rintro ⟨m, z1, c1, deed1, last, h1, h2, h3, h4⟩
  obtain rfl : n = m := by omega
  rw [hk] at h2
  cases Option.some.inj h2
  obtain ⟨l2, hl2, hlt⟩ := ans_none hx ha
  rw [hl2] at h3
  obtain rfl := Option.some.inj h3
  omega
/-- a count never falls -/
def LastLe (p q : PH) : Prop := ∀ dn z l, lastOf p dn z = some l → ∃ l', lastOf q dn z = some l' ∧ l ≤ l'
theorem LastLe.refl (p : PH) : LastLe p p := fun _ _ l h => ⟨l, h, Int.le_refl _⟩
theorem LastLe.trans {p q r : PH} (a : LastLe p q) (b : LastLe q r) : LastLe p r := fun dn z l h => by
  obtain ⟨l1, h1, g1⟩ := a dn z l h
  obtain ⟨l2, h2, g2⟩ := b dn z l1 h1
  exact ⟨l2, h2, by omega⟩
theorem LastLe.hear {p : PH} {x z : Str} {c : Int} (hx : (fnd PD.nm p.doors x).isSome = true) : LastLe p (p.hear x z c) := fun dn z1 l h => by
  by_cases hc : dn = x ∧ z1 = z ∧ p.ans x z c = none
  · obtain ⟨rfl, rfl, ha⟩ := hc
    obtain ⟨l2, hl2, hlt⟩ := ans_none hx ha
    rw [hl2] at h
    obtain rfl := Option.some.inj h
    exact ⟨c, by rw [hear_last hx, if_pos ⟨rfl, rfl, ha⟩], by omega⟩
  · exact ⟨l, by rw [hear_last hx, if_neg hc]; exact h, Int.le_refl _⟩
theorem LastLe.doors {p q : PH} (h : q.doors = p.doors) : LastLe p q := fun dn z l e => ⟨l, by unfold lastOf at e ⊢; rw [h]; exact e, Int.le_refl _⟩
theorem LastLe.hears {z : Str} {c : Int} : ∀ (dns : List Str) (p : PH), (∀ d, d ∈ dns → (fnd PD.nm p.doors d).isSome = true) → LastLe p (p.hears dns z c)
  | [], p, _ => LastLe.refl p
  | d :: r, p, h => (LastLe.hear (h d List.mem_cons_self)).trans (LastLe.hears r _ fun e he => hear_has (h e (List.mem_cons_of_mem _ he)) fun d hd => (fnd_ok hd).2)
/-! ### the state of the law's house -/
structure Btn (m : Int) (b : PB) : Prop where
  ok : PBok b
  al : b.alw ≤ m
  st : b.step ≤ 3
structure Good (m : Int) (p : PH) : Prop where
  dr : ∃ dg dd : PD, p.doors = [dg, dd] ∧ dg.nm = "gate" ∧ dd.nm = "d" ∧ dg.es.map Prod.fst = (["a", "ab"] : List Str) ∧ dd.es.map Prod.fst = (["ab"] : List Str)
  bt : ∃ ba bb : PB, p.btns = [ba, bb] ∧ ba.name = "a" ∧ bb.name = "ab" ∧ Btn m ba ∧ Btn m bb
theorem Good.door {m : Int} {p : PH} (h : Good m p) {dn : Str} (hd : dn = "gate" ∨ dn = "d") : (fnd PD.nm p.doors dn).isSome = true := by
  obtain ⟨dg, dd, e, e1, e2, _⟩ := h.dr
  rw [e]
  unfold fnd
  rcases hd with rfl | rfl
  · rw [List.find?_cons, decide_eq_true e1] <;> rfl
  · rw [List.find?_cons, decide_eq_false (by rw [e1]; decide +kernel), List.find?_cons, decide_eq_true e2] <;> rfl
theorem Good.btn {m : Int} {p : PH} (h : Good m p) {z : Str} (hz : z = "a" ∨ z = "ab") : ∃ b, fnd PB.name p.btns z = some b ∧ Btn m b := by
  obtain ⟨ba, bb, e, e1, e2, h1, h2⟩ := h.bt
  rw [e]
  unfold fnd
  rcases hz with rfl | rfl
  · exact ⟨ba, by rw [List.find?_cons, decide_eq_true e1], h1⟩
  · exact ⟨bb, by rw [List.find?_cons, decide_eq_false (by rw [e1]; decide +kernel), List.find?_cons, decide_eq_true e2], h2⟩
theorem Good.le {m n : Int} {p : PH} (h : Good m p) (hm : m ≤ n) : Good n p := by
  obtain ⟨hd, ba, bb, e, e1, e2, h1, h2⟩ := h
  exact ⟨hd, ba, bb, e, e1, e2, ⟨h1.ok, Int.le_trans h1.al hm, h1.st⟩, ⟨h2.ok, Int.le_trans h2.al hm, h2.st⟩⟩
theorem hearL_names {near far : Int} {es : List PE3} {z : Str} {c : Int} : (hearL near far es z c).map Prod.fst = es.map Prod.fst := by
  unfold hearL
  cases e : fE es z with
  | none => rfl
  | some x => exact setN_nm es z (z, (hearE near far x.2.1 x.2.2 c).2) rfl
theorem Good.hear {m : Int} {p : PH} (h : Good m p) (dn z : Str) (c : Int) : Good m (p.hear dn z c) := by
  refine ⟨?_, by rw [hear_btns]; exact h.bt⟩
  obtain ⟨dg, dd, e, e1, e2, e3, e4⟩ := h.dr
  unfold PH.hear
  cases hf : fnd PD.nm p.doors dn with
  | none => exact ⟨dg, dd, e, e1, e2, e3, e4⟩
  | some d =>
    obtain ⟨hm, hn⟩ := fnd_ok hf
    rw [e] at hm
    show ∃ dg dd : PD, setN PD.nm p.doors dn { d with es := hearL d.near d.far d.es z c } = [dg, dd] ∧ _
    rw [e]
    rcases List.mem_cons.mp hm with hd | hd
    · subst hd
      have h1 : dn = "gate" := hn.symm.trans e1
      refine ⟨{ d with es := hearL d.near d.far d.es z c }, dd, ?_, e1, e2, by show (hearL d.near d.far d.es z c).map Prod.fst = _; rw [hearL_names]; exact e3, e4⟩
      unfold setN
      rw [List.map_cons, List.map_cons, if_pos hn, if_neg (by rw [e2, h1]; decide +kernel)] <;> rfl
    · have hd := List.mem_singleton.mp hd
      subst hd
      have h1 : dn = "d" := hn.symm.trans e2
      refine ⟨dg, { d with es := hearL d.near d.far d.es z c }, ?_, e1, e2, e3, by show (hearL d.near d.far d.es z c).map Prod.fst = _; rw [hearL_names]; exact e4⟩
      unfold setN
      rw [List.map_cons, List.map_cons, if_neg (by rw [e1, h1]; decide +kernel), if_pos hn] <;> rfl
theorem Good.hears {m : Int} {z : Str} {c : Int} : ∀ (dns : List Str) {p : PH}, Good m p → Good m (p.hears dns z c)
  | [], _, h => h
  | d :: r, _, h => Good.hears r (h.hear d z c)
theorem wb_step (s : PB) : s.wb.step = s.step := by unfold PB.wb; split <;> rfl
theorem Btn.po {m : Int} {b : PB} (h : Btn m b) (hc : b.cnt < 4096) : Btn (m + 3) b.po := by
  refine ⟨h.ok.po hc, ?_, ?_⟩
  · unfold PB.po
    show (if b.cnt = b.alw then b.wb else b).alw ≤ m + 3
    split
    · rw [wb_alw]
      have := h.al
      have := h.st
      omega
    · have := h.al
      omega
  · unfold PB.po
    show (if b.cnt = b.alw then b.wb else b).step ≤ 3
    split
    · rw [wb_step]; exact h.st
    · exact h.st
theorem Btn.co {m : Int} {b : PB} (h : Btn m b) : Btn m b.co := ⟨h.ok.co, h.al, h.st⟩
theorem Btn.ct {m : Int} {b : PB} (h : Btn m b) : Btn m b.ct := by
  refine ⟨h.ok.ct, ?_, ?_⟩
  · unfold PB.ct
    split
    · split <;> exact h.al
    · exact h.al
  · unfold PB.ct
    split
    · split <;> exact h.st
    · exact h.st
theorem Btn.cnt {m : Int} {b : PB} (h : Btn m b) : 0 ≤ b.cnt ∧ b.cnt ≤ m := ⟨h.ok.lo, Int.le_trans h.ok.mid h.al⟩
/-- one button changes -/
theorem Good.set {m n : Int} {p : PH} (h : Good m p) (hmn : m ≤ n) {z : Str} {b b' : PB} (hf : fnd PB.name p.btns z = some b) (hb : Btn n b') (hn : b'.name = b.name) {q : PH} (hq1 : q.doors = p.doors) (hq2 : q.btns = setN PB.name p.btns z b') : Good n q := by
  refine ⟨by rw [hq1]; exact h.dr, ?_⟩
  obtain ⟨ba, bb, e, e1, e2, h1, h2⟩ := (h.le hmn).bt
  obtain ⟨hm, hz⟩ := fnd_ok hf
  rw [e] at hm
  rw [hq2, e]
  rcases List.mem_cons.mp hm with hd | hd
  · subst hd
    have hz1 : z = "a" := hz.symm.trans e1
    refine ⟨b', bb, ?_, hn.trans e1, e2, hb, h2⟩
    unfold setN
    rw [List.map_cons, List.map_cons, if_pos hz, if_neg (by rw [e2, hz1]; decide +kernel)] <;> rfl
  · have hd := List.mem_singleton.mp hd
    subst hd
    have hz1 : z = "ab" := hz.symm.trans e2
    refine ⟨ba, b', ?_, e1, hn.trans e2, h1, hb⟩
    unfold setN
    rw [List.map_cons, List.map_cons, if_neg (by rw [e1, hz1]; decide +kernel), if_pos hz] <;> rfl
theorem Good.po {m : Int} {p : PH} (h : Good m p) {z : Str} {deed : Int} {b : PB} (hf : fnd PB.name p.btns z = some b) (hb : Btn m b) (hc : b.cnt < 4096) : Good (m + 3) (p.po z deed) := by
  have e : p.po z deed = { p with btns := setN PB.name p.btns z b.po, kept := p.kept ++ [(z, b.cnt, deed)] } := by unfold PH.po; rw [hf]
  exact h.set (by omega) hf (hb.po hc) (po_name _) (by rw [e]) (by rw [e])
theorem Good.btnf {m : Int} {p : PH} (h : Good m p) {z : Str} {f : PB → PB} {b : PB} (hf : fnd PB.name p.btns z = some b) (hb : Btn m (f b)) (hn : (f b).name = b.name) : Good m (p.btn z f) := by
  have e : p.btn z f = { p with btns := setN PB.name p.btns z (f b) } := by unfold PH.btn; rw [hf]
  exact h.set (Int.le_refl _) hf hb hn (by rw [e]) (by rw [e])
/-- a row of the law's sheet behind its first seven -/
def LawR (kept : Nat) (r : Rw) : Prop := WalkR kept r ∨ r = .known "gate" ∨ r = .now "a" ∨ r = .known "d"
def Rw.isP : Rw → Bool
  | .press _ _ _ => true
  | _ => false
def pcnt (l : List Rw) : Nat := (l.filter Rw.isP).length
theorem pcnt_more {l : List Rw} {i : Nat} {r : Rw} (h : l[i]? = some r) : pcnt (l.take (i + 1)) = pcnt (l.take i) + (if r.isP = true then 1 else 0) := by
  unfold pcnt
  rw [take_more h, List.filter_append, List.length_append]
  congr 1
  cases hr : r.isP with
  | true => rw [List.filter_cons, hr] <;> rfl
  | false => rw [List.filter_cons, hr] <;> rfl
/-- what one row of the walk leaves -/
structure Step (p q : PH) (r : Rw) (m : Int) : Prop where
  ok : p.ok r
  good : Good (m + 3) q
  len : q.kept.length = p.kept.length + (if r.isP = true then 1 else 0)
  kept : ∃ more, q.kept = p.kept ++ more
  last : LastLe p q
  cnt : ∀ z b, fnd PB.name p.btns z = some b → ∃ b', fnd PB.name q.btns z = some b' ∧ b.cnt ≤ b'.cnt
theorem cnt_set {p q : PH} {z : Str} {b b' : PB} (hf : fnd PB.name p.btns z = some b) (hn : b'.name = b.name) (hc : b.cnt ≤ b'.cnt) (hq : q.btns = setN PB.name p.btns z b') : ∀ y c, fnd PB.name p.btns y = some c → ∃ c', fnd PB.name q.btns y = some c' ∧ c.cnt ≤ c'.cnt := by
  intro y c hy
  rw [hq, fnd_setN (show PB.name b' = z from hn.trans (fnd_ok hf).2), hy]
  refine ⟨_, rfl, ?_⟩
  by_cases e : y = z
  · subst e
    show c.cnt ≤ (if y = y then b' else c).cnt
    rw [if_pos rfl]
    rw [hf] at hy
    obtain rfl := Option.some.inj hy
    exact hc
  · show c.cnt ≤ (if y = z then b' else c).cnt
    rw [if_neg e]
    exact Int.le_refl _
theorem hears_btns {z : Str} {c : Int} : ∀ (dns : List Str) (p : PH), (p.hears dns z c).btns = p.btns
  | [], _ => rfl
  | d :: r, p => (hears_btns r _).trans (hear_btns p d z c)
theorem step {m : Int} {p : PH} {r : Rw} (h : Good m p) (hm : m ≤ 3900) (hr : LawR p.kept.length r) : Step p (p.next r) r m := by
  have rfl_cnt : ∀ z b, fnd PB.name p.btns z = some b → ∃ b', fnd PB.name p.btns z = some b' ∧ b.cnt ≤ b'.cnt := fun z b hb => ⟨b, hb, Int.le_refl _⟩
  rcases hr with hr | rfl | rfl | rfl
  · cases r with
    | press z deed dns =>
      obtain ⟨hz, hdd, hds, hdl⟩ := hr
      obtain ⟨b, hf, hb⟩ := h.btn hz
      have hc := hb.cnt
      have e : p.next (.press z deed dns) = (p.po z deed).hears dns z b.cnt := by
        show (match fnd PB.name p.btns z with
          | none => p
          | some b => (p.po z deed).hears dns z b.cnt) = _
        rw [hf]
      have epo : p.po z deed = { p with btns := setN PB.name p.btns z b.po, kept := p.kept ++ [(z, b.cnt, deed)] } := by unfold PH.po; rw [hf]
      have hg := h.po (deed := deed) hf hb (by omega)
      rw [e]
      refine ⟨⟨⟨b, hf, by omega⟩, hdd, fun d hd => h.door (hds d hd), by omega⟩, hg.hears dns, ?_, ?_, ?_, ?_⟩
      · rw [hears_kept, epo]
        show (p.kept ++ [(z, b.cnt, deed)]).length = _
        rw [List.length_append] <;> rfl
      · exact ⟨[(z, b.cnt, deed)], by rw [hears_kept, epo]⟩
      · refine (LastLe.doors (by rw [epo])).trans (LastLe.hears dns _ fun d hd => hg.door (hds d hd))
      · intro y c hy
        rw [hears_btns]
        exact cnt_set hf (po_name _) (by rw [po_cnt]; omega) (by rw [epo]) y c hy
    | play num dn =>
      obtain ⟨hn, hd⟩ := hr
      have hk := List.getElem?_eq_getElem hn
      have hdo := h.door hd
      have e : p.next (.play num dn) = p.hear dn (p.kept[num]).1 (p.kept[num]).2.1 := by
        show (match p.kept[num]? with
          | none => p
          | some t => p.hear dn t.1 t.2.1) = _
        rw [hk]
      rw [e]
      exact ⟨⟨Option.isSome_iff_exists.mp hdo, hn⟩, (h.hear _ _ _).le (by omega), by rw [hear_kept] <;> rfl, ⟨[], by rw [hear_kept, List.append_nil]⟩, LastLe.hear hdo, by rw [hear_btns]; exact rfl_cnt⟩
    | lose z =>
      obtain ⟨b, hf, hb⟩ := h.btn hr
      have e : p.btn z PB.co = { p with btns := setN PB.name p.btns z b.co } := by unfold PH.btn; rw [hf]
      refine ⟨⟨b, hf⟩, (h.btnf hf hb.co (co_name _)).le (by omega), ?_, ⟨[], ?_⟩, LastLe.doors ?_, cnt_set hf (co_name _) hb.ok.mid ?_⟩
      · show (p.btn z PB.co).kept.length = _
        rw [e] <;> rfl
      · show (p.btn z PB.co).kept = _
        rw [e, List.append_nil]
      · show (p.btn z PB.co).doors = _
        rw [e]
      · show (p.btn z PB.co).btns = _
        rw [e]
    | tear z =>
      obtain ⟨b, hf, hb⟩ := h.btn hr
      have e : p.btn z PB.ct = { p with btns := setN PB.name p.btns z b.ct } := by unfold PH.btn; rw [hf]
      have hcc : b.cnt ≤ b.ct.cnt := by
        unfold PB.ct
        split
        · split <;> exact Int.le_refl _
        · exact hb.ok.mid
      refine ⟨⟨b, hf⟩, (h.btnf hf hb.ct (ct_name _)).le (by omega), ?_, ⟨[], ?_⟩, LastLe.doors ?_, cnt_set hf (ct_name _) hcc ?_⟩
      · show (p.btn z PB.ct).kept.length = _
        rw [e] <;> rfl
      · show (p.btn z PB.ct).kept = _
        rw [e, List.append_nil]
      · show (p.btn z PB.ct).doors = _
        rw [e]
      · show (p.btn z PB.ct).btns = _
        rw [e]
    | turn ks =>
      have e : (p.next (.turn ks)).doors = p.doors ∧ (p.next (.turn ks)).btns = p.btns ∧ (p.next (.turn ks)).kept = p.kept := by
        show (if p.nk < 8 then { p with nk := p.nk + 1 } else p).doors = _ ∧ (if p.nk < 8 then { p with nk := p.nk + 1 } else p).btns = _ ∧ (if p.nk < 8 then { p with nk := p.nk + 1 } else p).kept = _
        split <;> exact ⟨rfl, rfl, rfl⟩
      obtain ⟨e1, e2, e3⟩ := e
      have hg := h.le (show m ≤ m + 3 by omega)
      exact ⟨trivial, ⟨by rw [e1]; exact hg.dr, by rw [e2]; exact hg.bt⟩, by rw [e3] <;> rfl, ⟨[], by rw [e3, List.append_nil]⟩, LastLe.doors e1, by rw [e2]; exact rfl_cnt⟩
    | _ => exact hr.elim
  · exact ⟨Option.isSome_iff_exists.mp (h.door (.inl rfl)), h.le (by omega), rfl, ⟨[], (List.append_nil _).symm⟩, LastLe.refl p, rfl_cnt⟩
  · obtain ⟨b, hf, _⟩ := h.btn (.inl rfl)
    exact ⟨⟨b, hf⟩, h.le (by omega), rfl, ⟨[], (List.append_nil _).symm⟩, LastLe.refl p, rfl_cnt⟩
  · exact ⟨Option.isSome_iff_exists.mp (h.door (.inr rfl)), h.le (by omega), rfl, ⟨[], (List.append_nil _).symm⟩, LastLe.refl p, rfl_cnt⟩
/-! ### the first seven rows -/
def headR (n f : Int) : List Rw := [.door "gate" n f 2, .door "d" 3 9 1, .button "a" 3, .button "ab" 1, .teach "gate" "a", .teach "d" "ab", .teach "gate" "ab"]
def st7 (n f : Int) : PH := ⟨[⟨"gate", n, f, 2, [("a", 1, none), ("ab", 3, none)]⟩, ⟨"d", 3, 9, 1, [("ab", 1, none)]⟩], [⟨"a", 3, 2, 3, some 0, some 3⟩, ⟨"ab", 1, 4, 4, some 4, some 3⟩], [("a", 0, 0), ("a", 1, 0), ("ab", 0, 0), ("ab", 1, 0), ("ab", 2, 0), ("ab", 3, 0)], 1⟩
theorem upto7 (n f : Int) : PH.zero.upto (headR n f) = st7 n f := by kernel_rfl
theorem nm_of {z : Str} (h : (decide (1 ≤ z.length) && (decide (z.length ≤ 8) && z.cps.toList.all fun c => decide (97 ≤ c ∧ c < 123))) = true) : IsNm z := by
  obtain ⟨h1, h2⟩ := He.ba h
  obtain ⟨h2, h3⟩ := He.ba h2
  exact ⟨of_decide_eq_true h1, of_decide_eq_true h2, fun c hc => of_decide_eq_true (List.all_eq_true.mp h3 c hc)⟩
theorem nm_gate : IsNm "gate" := nm_of (by decide +kernel)
theorem nm_d : IsNm "d" := nm_of (by decide +kernel)
theorem nm_a : IsNm "a" := nm_of (by decide +kernel)
theorem nm_ab : IsNm "ab" := nm_of (by decide +kernel)
theorem good7 (n f : Int) : Good 10 (st7 n f) := by
  refine ⟨⟨_, _, rfl, rfl, rfl, rfl, rfl⟩, _, _, rfl, rfl, rfl, ⟨⟨nm_a, by decide, by decide, by decide, by decide, .inr rfl, fun c h => ?_, fun c h => ?_⟩, by decide, by decide⟩, ⟨⟨nm_ab, by decide, by decide, by decide, by decide, .inl rfl, fun c h => ?_, fun c h => ?_⟩, by decide, by decide⟩⟩
  all_goals
    have e := Option.some.inj h
    subst e
    exact ⟨by decide, by decide⟩
theorem head_ok (n f : Int) : ∀ i r, (headR n f)[i]? = some r → (PH.zero.upto ((headR n f).take i)).ok r := by
  intro i r h
  match i, h with
  | 0, h => obtain rfl := Option.some.inj h; exact ⟨rfl, (by show (0 : Nat) < 12; decide), by decide⟩
  | 1, h => obtain rfl := Option.some.inj h; exact ⟨by kernel_rfl, (by show (1 : Nat) < 12; decide), by decide⟩
  | 2, h => obtain rfl := Option.some.inj h; exact ⟨by kernel_rfl, (by show (0 : Nat) < 12; decide), rfl, nm_a, by decide, by decide⟩
  | 3, h => obtain rfl := Option.some.inj h; exact ⟨by kernel_rfl, (by show (1 : Nat) < 12; decide), rfl, nm_ab, by decide, by decide⟩
  | 4, h => obtain rfl := Option.some.inj h; exact ⟨⟨"gate", n, f, 2, []⟩, .new "a" 3, by kernel_rfl, by kernel_rfl, (fun e he => by cases he), (by show ((0 : Nat) : Int) < 2; decide), by decide⟩
  | 5, h => obtain rfl := Option.some.inj h; exact ⟨⟨"d", 3, 9, 1, []⟩, .new "ab" 1, by kernel_rfl, by kernel_rfl, (fun e he => by cases he), by decide, by decide⟩
  | 6, h => obtain rfl := Option.some.inj h; exact ⟨⟨"gate", n, f, 2, [("a", 1, none)]⟩, ⟨"ab", 1, 2, 2, some 2, some 1⟩, by kernel_rfl, by kernel_rfl, (fun e he => by rw [List.mem_singleton.mp he]; decide +kernel), (by show ((1 : Nat) : Int) < 2; decide), by decide⟩
end K69
end
section
set_option Elab.async false
set_option linter.all false
set_option maxRecDepth 100000
set_option maxHeartbeats 4000000
local macro_rules | `(tactic| walk_at "len") => `(tactic| (intro vs H Q E h; first
  | (obtain ⟨e, _⟩ := h; subst e; rfl) | (obtain ⟨_, e, _⟩ := h; subst e; rfl) | (obtain ⟨_, _, e, _⟩ := h; subst e; rfl) | (obtain ⟨_, _, _, e, _⟩ := h; subst e; rfl) | (obtain ⟨_, _, _, _, e, _⟩ := h; subst e; rfl)
  | (obtain ⟨_, _, _, _, _, e, _⟩ := h; subst e; rfl) | (obtain ⟨_, _, _, _, _, _, e, _⟩ := h; subst e; rfl) | (obtain ⟨_, _, _, _, _, _, _, e, _⟩ := h; subst e; rfl) | (obtain ⟨_, _, _, _, _, _, _, _, e, _⟩ := h; subst e; rfl)
  | (obtain ⟨_, _, _, _, _, _, _, _, _, e, _⟩ := h; subst e; rfl) | (obtain ⟨_, _, _, _, _, _, _, _, _, _, e, _⟩ := h; subst e; rfl) | (obtain ⟨_, _, _, _, _, _, _, _, _, _, _, e, _⟩ := h; subst e; rfl)))
local macro_rules | `(tactic| walk_at "hh") => `(tactic| first
  | assumption
  | exact L2.upd_same
  | (refine (L2.upd_ne (by walk_at "ne")).trans ?_; walk_at "hh")
  | (refine (‹L2.Same _ _› : L2.Same _ _) _ _ ?_; walk_at "hh"))
local macro_rules | `(tactic| walk_at "ne") => `(tactic| first
  | assumption
  | (apply Ne.symm; assumption)
  | exact L2.ne_of_none (by walk_at "hh") (by assumption)
  | exact (L2.ne_of_none (by walk_at "hh") (by assumption)).symm)
local macro_rules | `(tactic| walk_at "s") => `(tactic| first
  | refine ⟨_, rfl, ?_⟩
  | refine ⟨_, _, _, rfl, (by walk_at "hh"), ?_⟩
  | refine ⟨rfl, ?_⟩
  | refine ⟨_, _, rfl, rfl, ?_⟩)
local macro_rules | `(tactic| walk_at "isi int") => `(tactic| refine ⟨_, _, _, _, true, rfl, .ty "int", .base (.int _), L2.kit_ty (by decide +kernel), ?_⟩)
local macro_rules | `(tactic| walk_at "isi bool") => `(tactic| refine ⟨_, _, _, _, false, rfl, .ty "bool", .base (.int _), L2.kit_ty (by decide +kernel), ?_⟩)
local macro_rules | `(tactic| walk_at "isi tuple") => `(tactic| refine ⟨_, _, _, _, true, rfl, .ty "tuple", .base (.tup (by assumption)), L2.kit_ty (by decide +kernel), ?_⟩)
local macro_rules | `(tactic| walk_at "isi str") => `(tactic| refine ⟨_, _, _, _, true, rfl, .ty "str", .base (.str _), L2.kit_ty (by decide +kernel), ?_⟩)
local macro_rules | `(tactic| walk_at "v") => `(tactic| refine ⟨_, rfl, ?_⟩)
local macro_rules | `(tactic| walk_at "ii") => `(tactic| refine ⟨_, _, rfl, rfl, ?_⟩)
namespace K69
open PySem PySem.Spec PyProof.Rows L2
/-! ### the answers' texts -/
theorem sw_false {x y : Str} {c d : Nat} {r s : List Nat} (hx : TL.tl x = c :: r) (hy : TL.tl y = d :: s) (h : c ≠ d) : Txt.startswith x y = false := by
  unfold Txt.startswith
  rw [StrLaws.subAt_eq]
  have e : ((x.cps.toList.drop 0).take y.length == y.cps.toList) = false := by
    have hl : y.length = s.length + 1 := by rw [TL.len_tl, hy] <;> rfl
    rw [List.drop_zero, show x.cps.toList = c :: r from hx, show y.cps.toList = d :: s from hy, hl, List.take_succ_cons]
    exact beq_eq_false_iff_ne.mpr (fun e => h (List.cons.inj e).1)
  rw [e, Bool.and_false]
theorem join_head {x : Str} {xs : List Str} {c : Nat} {r : List Nat} (h : TL.tl x = c :: r) (y : Str) : ∃ s, TL.tl (Txt.join y (x :: xs)) = c :: s := by
  rw [TL.join_eq, TL.tl_join]
  cases xs with
  | nil => exact ⟨r, h⟩
  | cons a b => exact ⟨_, by show TL.tl x ++ _ = _; rw [h] <;> rfl⟩
theorem numS_head {i : Int} (h0 : 0 ≤ i) : ∃ c r, TL.tl (numS i) = c :: r ∧ 48 ≤ c ∧ c ≤ 57 := by
  rw [tl_numS h0]
  cases e : TL.numL i.toNat with
  | nil => exact absurd e (TL.numL_ne _)
  | cons c r => exact ⟨c, r, rfl, TL.numL_digits i.toNat c (by rw [e]; exact List.mem_cons_self)⟩
abbrev refW : Str := "refused"
theorem ref_tl : TL.tl refW = 114 :: [101, 102, 117, 115, 101, 100] := by decide +kernel
theorem press_ref (num : Nat) (as : List Str) : Txt.startswith (pressS num as) refW = false := by
  obtain ⟨c, r, h, h1, h2⟩ := numS_head (show (0 : Int) ≤ (num : Int) by omega)
  obtain ⟨s, hs⟩ := join_head (xs := as) h " "
  exact sw_false hs ref_tl (by omega)
theorem open_app (d : Int) : ansS none d = "open:" ++ hex1 d := rfl
theorem held_app (x : Str) (d : Int) : ansS (some x) d = "held:" ++ x := by
  show ("held" ++ ":" : Str) ++ x = _
  rw [show ("held" ++ ":" : Str) = "held:" by decide +kernel]
theorem ans_head (x : Option Str) (d : Int) : ∃ c r, TL.tl (ansS x d) = c :: r ∧ (c = 111 ∨ c = 104) := by
  cases x with
  | none =>
    rw [open_app, TL.tl_append, show TL.tl ("open:" : Str) = 111 :: [112, 101, 110, 58] by decide +kernel]
    exact ⟨_, _, rfl, .inl rfl⟩
  | some x =>
    rw [held_app, TL.tl_append, show TL.tl ("held:" : Str) = 104 :: [101, 108, 100, 58] by decide +kernel]
    exact ⟨_, _, rfl, .inr rfl⟩
theorem ans_ref (x : Option Str) (d : Int) : Txt.startswith (ansS x d) refW = false := by
  obtain ⟨c, r, h, hc⟩ := ans_head x d
  exact sw_false h ref_tl (by omega)
theorem open_sw (d : Int) : Txt.startswith (ansS none d) "open:" = true := PySem.W.KT.starts_app _ _
theorem held_sw (x : Str) (d : Int) : Txt.startswith (ansS (some x) d) "open:" = false ∧ Txt.startswith (ansS (some x) d) "held:" = true := by
  refine ⟨?_, by rw [held_app]; exact PySem.W.KT.starts_app _ _⟩
  rw [held_app]
  refine sw_false (c := 104) (d := 111) (r := [101, 108, 100, 58] ++ TL.tl x) (s := [112, 101, 110, 58]) ?_ (by decide +kernel) (by decide)
  rw [TL.tl_append, show TL.tl ("held:" : Str) = 104 :: [101, 108, 100, 58] by decide +kernel] <;> rfl
/-- words of a held answer have no blank -/
theorem ans_word (p : PH) (dn z : Str) (c : Int) : ∀ y, p.ans dn z c = some y → 32 ∉ TL.tl y := by
  intro y hy
  have hw : ∀ a b c d : Int, 32 ∉ TL.tl (wordS a b c d) := fun a b c d => by
    unfold wordS
    split
    · exact (by decide +kernel)
    · split
      · exact (by decide +kernel)
      · split
        · exact (by decide +kernel)
        · exact (by decide +kernel)
  unfold PH.ans at hy
  split at hy
  · cases hy
  · unfold hearA at hy
    split at hy
    · rw [← Option.some.inj hy]; exact (by decide +kernel)
    · unfold hearE at hy
      split at hy
      · cases hy
      · split at hy
        · rw [← Option.some.inj hy]; exact hw _ _ _ _
        · rw [← Option.some.inj hy]; exact hw _ _ _ _
theorem ans_blank {p : PH} {dn z : Str} {c d : Int} (hd : 0 ≤ d ∧ d < 16) : 32 ∉ TL.tl (ansS (p.ans dn z c) d) := by
  cases e : p.ans dn z c with
  | none =>
    rw [open_app, TL.tl_append]
    intro h
    rcases List.mem_append.mp h with h | h
    · exact absurd h (by decide +kernel)
    · have := hexC_ge hd
      have := List.mem_singleton.mp h
      omega
  | some y =>
    rw [held_app, TL.tl_append]
    intro h
    rcases List.mem_append.mp h with h | h
    · exact absurd h (by decide +kernel)
    · exact ans_word p dn z c y e h
theorem press_split {num : Nat} {as : List Str} (h : ∀ x, x ∈ as → 32 ∉ TL.tl x) : Txt.split (pressS num as) " " = numS num :: as :=
  TL.split_join (s := 32) (S := []) rfl (by decide +kernel) (List.cons_ne_nil _ _) fun w hw hc => by
    rcases List.mem_cons.mp hw with e | e
    · rw [e] at hc
      exact absurd (num_signs (show (0 : Int) ≤ (num : Int) by omega) 32 hc) (by decide)
    · exact h w e hc
/-- what a row's answer tells: the press's number, the door, the word -/
def heardOf (p : PH) : Rw → List (Nat × Str × Str)
  | .press z deed dns => match fnd PB.name p.btns z with
    | none => []
    | some b => (List.range dns.length).map fun i => (p.kept.length, dns.getD i "", ansS (((p.po z deed).hears (dns.take i) z b.cnt).ans (dns.getD i "") z b.cnt) deed)
  | .play num dn => match p.kept[num]? with
    | none => []
    | some t => [(num, dn, ansS (p.ans dn t.1 t.2.1) t.2.2)]
  | _ => []
def HsAt (H : Hp) (xs : List Addr) (hs : List (Nat × Str × Str)) : Prop := xs.length = hs.length ∧ ∀ (i : Nat) (x : Addr) (h : Nat × Str × Str), xs[i]? = some x → hs[i]? = some h → H x = some (.tup [.int (h.1 : Nat), .str h.2.1, .str h.2.2])
theorem HsAt.tk {H H' : Hp} {xs : List Addr} {hs : List (Nat × Str × Str)} (s : TupK H H') (h : HsAt H xs hs) : HsAt H' xs hs := ⟨h.1, fun i x g h1 h2 => s _ _ (h.2 i x g h1 h2)⟩
def Rw.hearB : Rw → Bool
  | .press _ _ _ => true
  | .play _ _ => true
  | _ => false
section
variable {P : Program} {w : World} {K : PySem.W.Frag} {mg : Str → Option Value} {base : Heap}
def spHeard (K : PySem.W.Frag) : Sp := fun vs H Q _ => ∃ (a : Addr) (r : Rw) (p : PH) (t : Str), vs = [.ref a, .str t] ∧ RowV H a r ∧ p.ok r ∧ p.Told r t ∧ r.hearB = true ∧ p.kept.length < 10000 ∧ (∀ x, x ∈ p.kept → 0 ≤ x.2.2 ∧ x.2.2 < 16) ∧
  ∀ (l : Addr) (xs : List Addr) H', Same H H' → H' l = some (.lst (xs.map V.ref)) → HsAt H' xs (heardOf p r) → Q (.ref l) H'
abbrev N_lHeard : List Str := ["_law_row_here", "_law_answer", "_law_words_here", "_law_door", "_law_word"]
theorem sc_lHeard : FnScope N_lHeard ["_law_row_here", "_law_answer"] (defScope s_lHeard) := ⟨rfl, rfl, rfl, by decide +kernel, rfl, by decide +kernel, by decide +kernel⟩
theorem c_lHeard (T : Tx P w K mg base) : Cal P w K mg base "_law_heard" 1 ["_law_row_here", "_law_answer"] (spHeard K) := by
  refine cal_mk T.df_lHeard T.g_lHeard sc_lHeard (fun _ _ _ _ _ _ us hl => match us, hl with | [_, _], _ => rfl) ?len (fun f cdv A outer s H vs Q E hr h => ?body)
  case len => walk_at "len"
  have nd := sc_lHeard.nd
  refine ⟨_, (pss_cons (ps_if (pt_val (pe_m1 PySem.F.slot_str_startswith PySem.F.type_str_startswith mt_startswith (pv 1) pe_str)) (pss_one (ps_ret (pe_lst pa_nil))) pss_nil)
    (pss_cons (ps_if (pt_cmpR op_eq (pe_ix ix_tup (pv 0) pe_int (fun _ _ => rfl)) pe_str (nomark _)) (pss_one (ps_ret (pe_lst (pa_cons (pe_tup (pa_cons (pe_ix ix_tup (pv 0) pe_int (fun _ _ => rfl)) (pa_cons (pe_ix ix_tup (pv 0) pe_int (fun _ _ => rfl)) (pa_cons (pv 1) pa_nil)))) pa_nil)))) pss_nil)
    (pss_cons (ps_set (i := 2) nd rfl (Or.inr rfl) (pe_split (pv 1) pe_str))
    (pss_one (ps_ret (pe_lc (own := [("_law_door", 3), ("_law_word", 4)]) (g := gTup K 2 (gCons (gName 3) (gCons (gName 4) gNil))) (tt := tYes) rfl nd (pi_zipK false true (by rfl) T.f_zip (pa_cons (pe_slice sl_tupA (pv 0) (po_some pe_int) po_none) (pa_cons (pe_slice sl_list (pv 2) (po_some pe_int) po_none) pa_nil))) (blkOk_by (own := [("_law_door", 3), ("_law_word", 4)]) (N := N_lHeard) (sc := defScope s_lHeard) (by decide +kernel)) (fun _ _ _ _ _ => (pg_tup rfl (pgs_cons (pg_name (i := 3) nd rfl (Or.inl rfl)) (pgs_cons (pg_name (i := 4) nd rfl (Or.inl rfl)) pgs_nil)))) (fun _ _ _ _ _ => pts_nil) (fun _ _ _ _ _ => (pe_tup (pa_cons (pe_callTy (T := "int") call_int_str (by rfl) T.f_int (by decide +kernel) (pa_cons (pe_ix (r := rIxL K) ix_list (pv 2) pe_int (fun _ _ => rfl)) pa_nil)) (pa_cons (pv 3) (pa_cons (pv 4) pa_nil))))))))))), ?_⟩
  obtain ⟨a, r, p, t, rfl, hr0, hok, htold, hpw, hkl, hkd, q⟩ := h
  cases r with
  | press z deed dns =>
    obtain ⟨b, hb, ht⟩ := htold
    obtain ⟨_, hdd, _, hdl⟩ := hok
    have hr : H a = some (.tup (.str "press" :: .str z :: .int deed :: dns.map V.str)) := hr0
    have hrs := SqT.of (K := K) hr
    have hans : ∀ x, x ∈ ((p.po z deed).anss dns z b.cnt).map (fun x => ansS x deed) → 32 ∉ TL.tl x := fun x hx => by
      obtain ⟨y, hy, rfl⟩ := List.mem_map.mp hx
      obtain ⟨i, _, rfl⟩ := List.mem_map.mp hy
      exact ans_blank hdd
    have hal : (((p.po z deed).anss dns z b.cnt).map fun x => ansS x deed).length = dns.length := by rw [List.length_map, anss_len]
    have href := press_ref p.kept.length (((p.po z deed).anss dns z b.cnt).map fun x => ansS x deed)
    have hsplit := press_split (num := p.kept.length) hans
    rw [← ht] at href hsplit
    generalize has : ((p.po z deed).anss dns z b.cnt).map (fun x => ansS x deed) = as at hans hal hsplit ht
    have hasl : ∀ x, x ∈ as → x.length ≤ 110 := fun x hx => by
      rw [← has] at hx
      obtain ⟨y, hy, rfl⟩ := List.mem_map.mp hx
      obtain ⟨i, _, rfl⟩ := List.mem_map.mp hy
      exact ansS_len (ans_len _ _ _ _)
    have hnl := numS_len (show (0 : Int) ≤ (p.kept.length : Int) by omega) (show (p.kept.length : Int) < 100000 by omega)
    have htl : t.length ≤ 2000 := by
      rw [ht]
      refine Nat.le_trans (join_len _ _) ?_
      have hs := sum_le (l := as.map (·.length)) (k := 110) (fun x hx => by
        obtain ⟨y, hy, rfl⟩ := List.mem_map.mp hx
        exact hasl y hy)
      rw [List.length_map, hal] at hs
      rw [List.map_cons, List.sum_cons, List.length_cons, hal]
      have h1 : (" " : Str).length = 1 := rfl
      rw [h1]
      omega
    refine ⟨_, rfl, ⟨_, rfl⟩, _, _, rfl, rfl, _, rfl, ?_⟩
    refine ifF href ?_
    refine ⟨_, rfl, a, _, _, V.str "press", rfl, rfl, hrs, at_of (j := 0) rfl rfl, rfl, _, rfl, ?_⟩
    refine ifND (fun e => absurd (V.str.inj e) (by decide +kernel)) ?_
    refine ⟨_, rfl, ⟨_, rfl⟩, _, _, rfl, rfl, rfl, sz_of (by omega), fun p2 hp2 => ?_⟩
    rw [hsplit]
    generalize e1 : upd H p2 _ = H1
    have s1 : Same H H1 := by rw [← e1]; exact same_new hp2
    have hp21 : H1 p2 = some (.lst (V.str (numS p.kept.length) :: as.map V.str)) := by rw [← e1]; exact upd_same
    clear e1
    have hr1 := s1 _ _ hr
    refine ⟨_, rfl, _, rfl, a, _, rfl, SqT.of hr1, (fun x => absurd x.1 (by rw [cut3]; decide)), fun _ f hf => ?_⟩
    rw [cutV3]
    generalize e2 : upd H1 f _ = H2
    have s2 : Same H1 H2 := by rw [← e2]; exact same_new hf
    have hf2 : H2 f = some (.tup (dns.map V.str)) := by rw [← e2]; exact upd_same
    clear e2
    refine ⟨_, rfl, _, rfl, p2, _, rfl, SqL.of (s2 _ _ hp21), fun g hg => ?_⟩
    rw [cutV1]
    generalize e3 : upd H2 g _ = H3
    have s3 : Same H2 H3 := by rw [← e3]; exact same_new hg
    have hg3 : H3 g = some (.lst (as.map V.str)) := by rw [← e3]; exact upd_same
    clear e3
    have hf3 := s3 _ _ hf2
    have hp23 := s3 _ _ (s2 _ _ hp21)
    have hzl : (dns.map V.str).length = (as.map V.str).length := by rw [List.length_map, List.length_map, hal]
    have s03 := s1.trans (s2.trans s3)
    have eh : heardOf p (.press z deed dns) = (List.range dns.length).map fun i => (p.kept.length, dns.getD i "", as.getD i "") := by
      show (match fnd PB.name p.btns z with
        | none => []
        | some b => (List.range dns.length).map fun i => (p.kept.length, dns.getD i "", ansS (((p.po z deed).hears (dns.take i) z b.cnt).ans (dns.getD i "") z b.cnt) deed)) = _
      rw [hb]
      refine List.map_congr_left fun i hi => ?_
      have hil := List.mem_range.mp hi
      have hd := List.getElem?_eq_getElem hil
      have e1 : as.getD i "" = ansS (((p.po z deed).hears (dns.take i) z b.cnt).ans (dns.getD i "") z b.cnt) deed := by
        rw [← has, List.getD, List.getElem?_map, anss_at hd, List.getD, hd] <;> rfl
      rw [e1]
    rw [eh] at q
    refine ⟨f, g, _, _, rfl, SqT.of hf3, SqL.of hg3, fun D hD => lc_it (walk_zipK hzl) (fun i H' => Same H3 H' ∧ ∃ xs : List Addr, H' D = some (.lst (xs.map V.ref)) ∧ xs.length = i ∧ ∀ (j : Nat) (x : Addr), xs[j]? = some x → H' x = some (.tup [.int (p.kept.length : Nat), .str (dns.getD j ""), .str (as.getD j "")])) ⟨same_new hD, [], upd_same, rfl, fun j x h => by cases h⟩
      (fun i H' _ k => ⟨same_seqT k.1 (SqT.of hf3), k.1.seq (SqL.of hg3)⟩) (fun i x H4 H5 hi k y => ?_) (fun H4 k => ?_)⟩
    · obtain ⟨s4, xs, hxs, hxl, hx⟩ := k
      obtain ⟨Tp, x1, y1, rfl, hT, rfl, ex, ey⟩ := y
      obtain ⟨d1, hd1, rfl⟩ := map_get ex
      obtain ⟨w1, hw1, rfl⟩ := map_get ey
      have nDT : D ≠ Tp := ne_of_none hxs hT
      refine ⟨Tp, _, rfl, SqT.of upd_same, rfl, _, _, rfl, _, _, rfl, rfl, rfl, ?_⟩
      have s5 : Same H4 (upd H4 Tp (.tup [.str d1, .str w1])) := same_new hT
      generalize upd H4 Tp _ = H5 at s5 ⊢
      have hp25 := (s4.trans s5) _ _ hp23
      refine ⟨_, rfl, p2, _, _, V.str (numS p.kept.length), rfl, rfl, SqL.of hp25, at_of (j := 0) rfl rfl, _, p.kept.length, rfl, numS_int (by omega) (by omega), by omega, _, rfl, _, rfl, (by show 3 ≤ sizeLine; decide), fun u hu => ?_⟩
      have hD5 := s5 _ _ hxs
      have nDu : D ≠ u := ne_of_none hD5 hu
      have s6 : ∀ o, Same H5 (upd H5 u o) := fun o => same_new hu
      refine ⟨_, (upd_ne nDu).trans hD5, ?_, same_mut (s4.trans (s5.trans (s6 _))) hD, xs ++ [u], ?_, by rw [List.length_append, hxl] <;> rfl, fun j x' h1 => ?_⟩
      · rw [List.length_map]
        have := (List.getElem?_eq_some_iff.mp hd1).1
        have h10 : dns.length ≤ 10 := hdl
        exact sz_lt (by omega)
      · rw [List.map_append]
        exact upd_same
      · have tkD : ∀ o, TupK (upd H5 u (.tup [.int (p.kept.length : Nat), .str d1, .str w1])) (upd (upd H5 u (.tup [.int (p.kept.length : Nat), .str d1, .str w1])) D o) := fun o => (TupK.refl _).upd (fun zs e => by rw [upd_ne nDu, hD5] at e; cases e)
        by_cases hj : j < xs.length
        · rw [List.getElem?_append_left hj] at h1
          exact tkD _ _ _ ((s5.trans (s6 _)) _ _ (hx j x' h1))
        · rw [List.getElem?_append_right (by omega)] at h1
          have hj0 : j - xs.length = 0 := by
            have := (List.getElem?_eq_some_iff.mp h1).1
            simp at this
            omega
          rw [hj0] at h1
          obtain rfl : u = x' := Option.some.inj h1
          have ej : j = i := by omega
          subst ej
          rw [List.getD, hd1, List.getD, hw1]
          exact tkD _ _ _ upd_same
    · obtain ⟨s4, xs, hxs, hxl, hx⟩ := k
      rw [List.length_map] at hxl
      refine q D xs H4 (s03.trans s4) hxs ⟨by rw [hxl, List.length_map, List.length_range], fun i x h h1 h2 => ?_⟩
      have g1 := hx i x h1
      obtain ⟨j, hj, rfl⟩ := map_get h2
      have hji : j = i := by
        rw [List.getElem?_range (by have := (List.getElem?_eq_some_iff.mp hj).1; rw [List.length_range] at this; exact this)] at hj
        exact (Option.some.inj hj).symm
      subst hji
      exact g1
  | play num dn =>
    obtain ⟨z, c, deed, hk, ht⟩ := htold
    have hr : H a = some (.tup [.str "play", .int num, .str dn]) := hr0
    have href := ans_ref (p.ans dn z c) deed
    rw [← ht] at href
    refine ⟨_, rfl, ⟨_, rfl⟩, _, _, rfl, rfl, _, rfl, ?_⟩
    refine ifF href ?_
    refine ⟨_, rfl, a, _, _, V.str "play", rfl, rfl, SqT.of hr, rfl, rfl, _, rfl, ?_⟩
    refine ifD rfl ?_
    refine ⟨_, rfl, a, _, _, V.int num, rfl, rfl, SqT.of hr, rfl, _, rfl, a, _, _, V.str dn, rfl, rfl, SqT.of hr, rfl, _, rfl, (by show 3 ≤ sizeLine; decide), fun x hx => ⟨(by show 1 ≤ sizeLine; decide), fun l hl => ?_⟩⟩
    have nxl : x ≠ l := ne_of_none upd_same hl
    refine q l [x] _ ((same_new hx).trans (same_new hl)) upd_same ?_
    have eh : heardOf p (.play num dn) = [(num, dn, t)] := by
      show (match p.kept[num]? with
        | none => []
        | some t => [(num, dn, ansS (p.ans dn t.1 t.2.1) t.2.2)]) = _
      rw [hk, ht]
    rw [eh]
    refine ⟨rfl, fun i y h h1 h2 => ?_⟩
    match i, h1, h2 with
    | 0, h1, h2 =>
      obtain rfl := Option.some.inj h1
      obtain rfl := Option.some.inj h2
      exact (upd_ne nxl).trans upd_same
  | _ => cases hpw
end
end K69
end
section
set_option Elab.async false
set_option linter.all false
set_option maxRecDepth 100000
set_option maxHeartbeats 4000000
local macro_rules | `(tactic| walk_at "len") => `(tactic| (intro vs H Q E h; first
  | (obtain ⟨e, _⟩ := h; subst e; rfl) | (obtain ⟨_, e, _⟩ := h; subst e; rfl) | (obtain ⟨_, _, e, _⟩ := h; subst e; rfl) | (obtain ⟨_, _, _, e, _⟩ := h; subst e; rfl) | (obtain ⟨_, _, _, _, e, _⟩ := h; subst e; rfl)
  | (obtain ⟨_, _, _, _, _, e, _⟩ := h; subst e; rfl) | (obtain ⟨_, _, _, _, _, _, e, _⟩ := h; subst e; rfl) | (obtain ⟨_, _, _, _, _, _, _, e, _⟩ := h; subst e; rfl) | (obtain ⟨_, _, _, _, _, _, _, _, e, _⟩ := h; subst e; rfl)
  | (obtain ⟨_, _, _, _, _, _, _, _, _, e, _⟩ := h; subst e; rfl) | (obtain ⟨_, _, _, _, _, _, _, _, _, _, e, _⟩ := h; subst e; rfl) | (obtain ⟨_, _, _, _, _, _, _, _, _, _, _, e, _⟩ := h; subst e; rfl)))
local macro_rules | `(tactic| walk_at "hh") => `(tactic| first
  | assumption
  | exact L2.upd_same
  | (refine (L2.upd_ne (by walk_at "ne")).trans ?_; walk_at "hh")
  | (refine (‹L2.Same _ _› : L2.Same _ _) _ _ ?_; walk_at "hh"))
local macro_rules | `(tactic| walk_at "ne") => `(tactic| first
  | assumption
  | (apply Ne.symm; assumption)
  | exact L2.ne_of_none (by walk_at "hh") (by assumption)
  | exact (L2.ne_of_none (by walk_at "hh") (by assumption)).symm)
local macro_rules | `(tactic| walk_at "s") => `(tactic| first
  | refine ⟨_, rfl, ?_⟩
  | refine ⟨_, _, _, rfl, (by walk_at "hh"), ?_⟩
  | refine ⟨rfl, ?_⟩
  | refine ⟨_, _, rfl, rfl, ?_⟩)
local macro_rules | `(tactic| walk_at "isi int") => `(tactic| refine ⟨_, _, _, _, true, rfl, .ty "int", .base (.int _), L2.kit_ty (by decide +kernel), ?_⟩)
local macro_rules | `(tactic| walk_at "isi bool") => `(tactic| refine ⟨_, _, _, _, false, rfl, .ty "bool", .base (.int _), L2.kit_ty (by decide +kernel), ?_⟩)
local macro_rules | `(tactic| walk_at "isi tuple") => `(tactic| refine ⟨_, _, _, _, true, rfl, .ty "tuple", .base (.tup (by assumption)), L2.kit_ty (by decide +kernel), ?_⟩)
local macro_rules | `(tactic| walk_at "isi str") => `(tactic| refine ⟨_, _, _, _, true, rfl, .ty "str", .base (.str _), L2.kit_ty (by decide +kernel), ?_⟩)
local macro_rules | `(tactic| walk_at "v") => `(tactic| refine ⟨_, rfl, ?_⟩)
local macro_rules | `(tactic| walk_at "ii") => `(tactic| refine ⟨_, _, rfl, rfl, ?_⟩)
namespace K69
open PySem PySem.Spec PyProof.Rows L2
/-! ### the law's walk over the answers -/
structure HSeq (p : PH) (r : Rw) (hs : List (Nat × Str × Str)) (S : Nat → PH) : Prop where
  start : ∀ num dn, Op p num dn → Op (S 0) num dn
  stop : S hs.length = p.next r
  one : ∀ (j : Nat) (h : Nat × Str × Str), hs[j]? = some h → ∃ z c deed, (S j).kept[h.1]? = some (z, c, deed) ∧ (fnd PD.nm (S j).doors h.2.1).isSome = true ∧ S (j + 1) = (S j).hear h.2.1 z c ∧ h.2.2 = ansS ((S j).ans h.2.1 z c) deed ∧ (0 ≤ deed ∧ deed < 16)
  kept : ∀ j, (S j).kept = (p.next r).kept
theorem hseq {p : PH} {r : Rw} (hok : p.ok r) (hr : r.hearB = true) (hkd : ∀ x, x ∈ p.kept → 0 ≤ x.2.2 ∧ x.2.2 < 16) : ∃ S, HSeq p r (heardOf p r) S := by
  cases r with
  | press z deed dns =>
    obtain ⟨⟨b, hb, hbc⟩, hdd, hds, hdl⟩ := hok
    have epo : p.po z deed = { p with btns := setN PB.name p.btns z b.po, kept := p.kept ++ [(z, b.cnt, deed)] } := by unfold PH.po; rw [hb]
    have en : p.next (.press z deed dns) = (p.po z deed).hears dns z b.cnt := by
      show (match fnd PB.name p.btns z with
        | none => p
        | some b => (p.po z deed).hears dns z b.cnt) = _
      rw [hb]
    have eh : heardOf p (.press z deed dns) = (List.range dns.length).map fun i => (p.kept.length, dns.getD i "", ansS (((p.po z deed).hears (dns.take i) z b.cnt).ans (dns.getD i "") z b.cnt) deed) := by
      show (match fnd PB.name p.btns z with
        | none => []
        | some b => (List.range dns.length).map fun i => (p.kept.length, dns.getD i "", ansS (((p.po z deed).hears (dns.take i) z b.cnt).ans (dns.getD i "") z b.cnt) deed)) = _
      rw [hb]
    have hkk : ∀ l : List Str, ((p.po z deed).hears l z b.cnt).kept = p.kept ++ [(z, b.cnt, deed)] := fun l => by rw [hears_kept, epo]
    refine ⟨fun j => (p.po z deed).hears (dns.take j) z b.cnt, fun num dn ho => ?_, ?_, fun j h hj => ?_, fun j => ?_⟩
    · exact ho.mono (by show ((p.po z deed).hears [] z b.cnt).doors = _; rw [epo] <;> rfl) ⟨_, hkk _⟩
    · rw [en, eh, List.length_map, List.length_range]
      show (p.po z deed).hears (dns.take dns.length) z b.cnt = _
      rw [List.take_length]
    · rw [eh] at hj
      obtain ⟨i, hi, rfl⟩ := map_get hj
      have hil : j < dns.length := by
        have := (List.getElem?_eq_some_iff.mp hi).1
        rw [List.length_range] at this
        exact this
      rw [List.getElem?_range hil] at hi
      obtain rfl := Option.some.inj hi
      have hd : dns[j]? = some (dns.getD j "") := by rw [List.getD, List.getElem?_eq_getElem hil] <;> rfl
      refine ⟨z, b.cnt, deed, ?_, ?_, hears_more hd, rfl, hdd⟩
      · show ((p.po z deed).hears (dns.take j) z b.cnt).kept[p.kept.length]? = _
        rw [hkk, List.getElem?_append_right (Nat.le_refl _), Nat.sub_self] <;> rfl
      · refine hears_has _ _ ?_
        rw [epo]
        exact hds _ (List.mem_of_getElem? hd)
    · rw [en]
      show ((p.po z deed).hears _ z b.cnt).kept = _
      rw [hkk, hkk]
  | play num dn =>
    obtain ⟨⟨d, hd⟩, hn⟩ := hok
    have hk := List.getElem?_eq_getElem hn
    generalize p.kept[num] = tr at hk
    obtain ⟨z, c, deed⟩ := tr
    have hdd := hkd _ (List.mem_of_getElem? hk)
    have en : p.next (.play num dn) = p.hear dn z c := by
      show (match p.kept[num]? with
        | none => p
        | some t => p.hear dn t.1 t.2.1) = _
      rw [hk]
    have eh : heardOf p (.play num dn) = [(num, dn, ansS (p.ans dn z c) deed)] := by
      show (match p.kept[num]? with
        | none => []
        | some t => [(num, dn, ansS (p.ans dn t.1 t.2.1) t.2.2)]) = _
      rw [hk]
    refine ⟨fun j => if j = 0 then p else p.hear dn z c, fun _ _ ho => ho, ?_, fun j h hj => ?_, fun j => ?_⟩
    · rw [en, eh] <;> rfl
    · rw [eh] at hj
      match j, hj with
      | 0, hj =>
        obtain rfl := Option.some.inj hj
        exact ⟨z, c, deed, hk, by show (fnd PD.nm p.doors dn).isSome = true; rw [hd] <;> rfl, rfl, rfl, hdd⟩
    · rw [en, hear_kept]
      show (if j = 0 then p else p.hear dn z c).kept = _
      split
      · rfl
      · exact hear_kept _ _ _ _
  | _ => cases hr
abbrev pwW : List V := [V.str "press", V.str "play"]
theorem inV_pw (r : Rw) : inV (V.str r.word) pwW = r.hearB := by
  cases r with
  | house _ _ => exact (by decide +kernel : inV (V.str "house") pwW = false)
  | door _ _ _ _ => exact (by decide +kernel : inV (V.str "door") pwW = false)
  | button _ _ => exact (by decide +kernel : inV (V.str "button") pwW = false)
  | teach _ _ => exact (by decide +kernel : inV (V.str "teach") pwW = false)
  | press _ _ _ => exact (by decide +kernel : inV (V.str "press") pwW = true)
  | play _ _ => exact (by decide +kernel : inV (V.str "play") pwW = true)
  | lose _ => exact (by decide +kernel : inV (V.str "lose") pwW = false)
  | tear _ => exact (by decide +kernel : inV (V.str "tear") pwW = false)
  | turn _ => exact (by decide +kernel : inV (V.str "turn") pwW = false)
  | known _ => exact (by decide +kernel : inV (V.str "known") pwW = false)
  | now _ => exact (by decide +kernel : inV (V.str "now") pwW = false)
theorem isP_hear {r : Rw} (h : r.isP = true) : r.hearB = true := by
  cases r <;> first | rfl | cases h
theorem told_ref {p : PH} {r : Rw} {t : Str} (h : p.Told r t) (hr : r.hearB = true) : Txt.startswith t refW = false := by
  cases r with
  | press z deed dns => obtain ⟨b, _, ht⟩ := h; rw [ht]; exact press_ref _ _
  | play num dn => obtain ⟨z, c, deed, _, ht⟩ := h; rw [ht]; exact ans_ref _ _
  | _ => cases hr
abbrev kOp (num : Nat) (dn : Str) : List L2.Key := [Sum.inl (num : Int), Sum.inr dn]
/-- the states along the law's rows -/
def stt (n f : Int) (walk : List Rw) (i : Nat) : PH := PH.zero.upto ((headR n f ++ walk).take i)
structure Walk7 (walk : List Rw) : Prop where
  row : ∀ j r, walk[j]? = some r → LawR (6 + pcnt (walk.take j)) r
  len : walk.length ≤ 60
theorem stt7 (n f : Int) (walk : List Rw) (j : Nat) : stt n f walk (7 + j) = (st7 n f).upto (walk.take j) := by
  unfold stt
  have e : (headR n f ++ walk).take (7 + j) = headR n f ++ walk.take j := by
    rw [List.take_append] <;> first | rfl | skip
    have e1 : (headR n f).take (7 + j) = headR n f := List.take_of_length_le (by show 7 ≤ 7 + j; omega)
    have e2 : 7 + j - (headR n f).length = j := by show 7 + j - 7 = j; omega
    rw [e1, e2]
  rw [e]
  unfold PH.upto
  rw [List.foldl_append]
  show ((PH.zero.upto (headR n f)).upto (walk.take j)) = _
  rw [upto7] <;> rfl
theorem walk_inv {n f : Int} {walk : List Rw} (W : Walk7 walk) : ∀ j, j ≤ walk.length → Good (10 + 3 * (j : Int)) (stt n f walk (7 + j)) ∧ (stt n f walk (7 + j)).kept.length = 6 + pcnt (walk.take j) := by
  intro j
  induction j with
  | zero =>
    intro _
    rw [stt7]
    exact ⟨good7 n f, rfl⟩
  | succ j ih =>
    intro hj
    obtain ⟨h1, h2⟩ := ih (by omega)
    obtain ⟨r, hr⟩ : ∃ r, walk[j]? = some r := ⟨_, List.getElem?_eq_getElem (by omega)⟩
    have hl := W.len
    have hlr := W.row j r hr
    rw [← h2] at hlr
    have st := step h1 (by omega) hlr
    have e : stt n f walk (7 + (j + 1)) = (stt n f walk (7 + j)).next r := by
      rw [stt7, stt7, upto_more hr]
    rw [e]
    refine ⟨st.good.le (by omega), ?_⟩
    rw [st.len, h2, pcnt_more hr]
    omega
theorem walk_step {n f : Int} {walk : List Rw} (W : Walk7 walk) {j : Nat} {r : Rw} (hr : walk[j]? = some r) : Step (stt n f walk (7 + j)) (stt n f walk (7 + (j + 1))) r (10 + 3 * (j : Int)) ∧ stt n f walk (7 + (j + 1)) = (stt n f walk (7 + j)).next r := by
  have hj := (List.getElem?_eq_some_iff.mp hr).1
  obtain ⟨h1, h2⟩ := walk_inv (n := n) (f := f) W j (by omega)
  have hl := W.len
  have hlr := W.row j r hr
  rw [← h2] at hlr
  have e : stt n f walk (7 + (j + 1)) = (stt n f walk (7 + j)).next r := by
    rw [stt7, stt7, upto_more hr]
  rw [e]
  exact ⟨step h1 (by omega) hlr, rfl⟩
theorem row_at {n f : Int} {walk : List Rw} {i : Nat} {r : Rw} (h : (headR n f ++ walk)[i]? = some r) : (i < 7 ∧ (headR n f)[i]? = some r) ∨ ∃ j, i = 7 + j ∧ walk[j]? = some r := by
  by_cases hi : i < 7
  · rw [List.getElem?_append_left hi] at h
    exact .inl ⟨hi, h⟩
  · rw [List.getElem?_append_right (by show 7 ≤ i; omega)] at h
    exact .inr ⟨i - 7, by omega, h⟩
theorem rows_ok {n f : Int} {walk : List Rw} (W : Walk7 walk) : ∀ i r, (headR n f ++ walk)[i]? = some r → (stt n f walk i).ok r := by
  intro i r h
  rcases row_at h with ⟨hi, h2⟩ | ⟨j, ej, h2⟩
  · have e : stt n f walk i = PH.zero.upto ((headR n f).take i) := by
      unfold stt
      rw [List.take_append_of_le_length (by show i ≤ 7; omega)]
    rw [e]
    exact head_ok n f i r h2
  · rw [ej]
    exact (walk_step W h2).1.ok
/-- the deeds of the presses, as the law keeps them -/
def deedsAt (n f : Int) (walk : List Rw) (i : Nat) : List Int := if 7 ≤ i then (stt n f walk i).kept.map fun x => x.2.2 else [0, 0, 0, 0, 0, 0]
theorem deeds_next {n f : Int} {walk : List Rw} (W : Walk7 walk) {i : Nat} {r : Rw} (h : (headR n f ++ walk)[i]? = some r) (hp : r.isP = false) : deedsAt n f walk (i + 1) = deedsAt n f walk i := by
  rcases row_at h with ⟨hi, h2⟩ | ⟨j, rfl, h2⟩
  · unfold deedsAt
    rw [if_neg (show ¬ 7 ≤ i by omega)]
    by_cases h7 : 7 ≤ i + 1
    · rw [if_pos h7]
      have e : i + 1 = 7 + 0 := by omega
      rw [e, stt7] <;> rfl
    · rw [if_neg h7]
  · obtain ⟨st, _⟩ := walk_step (n := n) (f := f) W h2
    unfold deedsAt
    rw [if_pos (show 7 ≤ 7 + j + 1 by omega), if_pos (show 7 ≤ 7 + j by omega)]
    obtain ⟨more, hm⟩ := st.kept
    have hl := st.len
    rw [hp, if_neg Bool.false_ne_true, hm, List.length_append] at hl
    have h0 : more = [] := List.length_eq_zero_iff.mp (by omega)
    rw [h0, List.append_nil] at hm
    show ((stt n f walk (7 + (j + 1))).kept.map _) = _
    rw [hm]
theorem deeds_press {n f : Int} {walk : List Rw} (W : Walk7 walk) {i : Nat} {z : Str} {deed : Int} {dns : List Str} (h : (headR n f ++ walk)[i]? = some (.press z deed dns)) : deedsAt n f walk (i + 1) = deedsAt n f walk i ++ [deed] := by
  rcases row_at h with ⟨hi, h2⟩ | ⟨j, rfl, h2⟩
  · exfalso
    match i, hi, h2 with
    | 0, _, h2 => cases h2
    | 1, _, h2 => cases h2
    | 2, _, h2 => cases h2
    | 3, _, h2 => cases h2
    | 4, _, h2 => cases h2
    | 5, _, h2 => cases h2
    | 6, _, h2 => cases h2
  · obtain ⟨st, e⟩ := walk_step (n := n) (f := f) W h2
    obtain ⟨⟨b, hb, _⟩, _⟩ := st.ok
    unfold deedsAt
    rw [if_pos (show 7 ≤ 7 + j + 1 by omega), if_pos (show 7 ≤ 7 + j by omega)]
    have en : (stt n f walk (7 + j)).next (.press z deed dns) = ((stt n f walk (7 + j)).po z deed).hears dns z b.cnt := by
      show (match fnd PB.name (stt n f walk (7 + j)).btns z with
        | none => stt n f walk (7 + j)
        | some b => ((stt n f walk (7 + j)).po z deed).hears dns z b.cnt) = _
      rw [hb]
    show ((stt n f walk (7 + (j + 1))).kept.map _) = _
    have epo : ((stt n f walk (7 + j)).po z deed).kept = (stt n f walk (7 + j)).kept ++ [(z, b.cnt, deed)] := by unfold PH.po; rw [hb]
    rw [e, en, hears_kept, epo, List.map_append] <;> rfl
/-- a row that is heard stands behind the first seven; its state is sound -/
theorem heard_row {n f : Int} {walk : List Rw} (W : Walk7 walk) {i : Nat} {r : Rw} (h : (headR n f ++ walk)[i]? = some r) (hr : r.hearB = true) : 7 ≤ i ∧ (stt n f walk i).kept.length < 10000 ∧ deedsAt n f walk (i + 1) = (stt n f walk (i + 1)).kept.map (fun x => x.2.2) ∧ stt n f walk (i + 1) = (stt n f walk i).next r := by
  rcases row_at h with ⟨hi, h2⟩ | ⟨j, rfl, h2⟩
  · exfalso
    match i, hi, h2 with
    | 0, _, h2 => obtain rfl := Option.some.inj h2; cases hr
    | 1, _, h2 => obtain rfl := Option.some.inj h2; cases hr
    | 2, _, h2 => obtain rfl := Option.some.inj h2; cases hr
    | 3, _, h2 => obtain rfl := Option.some.inj h2; cases hr
    | 4, _, h2 => obtain rfl := Option.some.inj h2; cases hr
    | 5, _, h2 => obtain rfl := Option.some.inj h2; cases hr
    | 6, _, h2 => obtain rfl := Option.some.inj h2; cases hr
  · have hj := (List.getElem?_eq_some_iff.mp h2).1
    obtain ⟨_, hl⟩ := walk_inv (n := n) (f := f) W j (by omega)
    have hp : pcnt (walk.take j) ≤ (walk.take j).length := List.length_filter_le _ _
    rw [List.length_take] at hp
    have hw := W.len
    refine ⟨by omega, by omega, ?_, (walk_step W h2).2⟩
    unfold deedsAt
    rw [if_pos (show 7 ≤ 7 + j + 1 by omega)]
/-- every deed kept is a digit -/
theorem kept_deeds {n f : Int} {walk : List Rw} (W : Walk7 walk) : ∀ j, j ≤ walk.length → ∀ x, x ∈ (stt n f walk (7 + j)).kept → 0 ≤ x.2.2 ∧ x.2.2 < 16 := by
  intro j
  induction j with
  | zero =>
    intro _ x hx
    rw [stt7] at hx
    have all : ([("a", 0, 0), ("a", 1, 0), ("ab", 0, 0), ("ab", 1, 0), ("ab", 2, 0), ("ab", 3, 0)] : List (Str × Int × Int)).all (fun x => decide (0 ≤ x.2.2 ∧ x.2.2 < 16)) = true := by decide
    exact of_decide_eq_true (List.all_eq_true.mp all x hx)
  | succ j ih =>
    intro hj x hx
    obtain ⟨r, hr⟩ : ∃ r, walk[j]? = some r := ⟨_, List.getElem?_eq_getElem (by omega)⟩
    obtain ⟨st, e⟩ := walk_step (n := n) (f := f) W hr
    cases hp : r.isP with
    | false =>
      obtain ⟨more, hm⟩ := st.kept
      have hl := st.len
      rw [hp, if_neg Bool.false_ne_true, hm, List.length_append] at hl
      have h0 : more = [] := List.length_eq_zero_iff.mp (by omega)
      rw [h0, List.append_nil] at hm
      rw [hm] at hx
      exact ih (by omega) x hx
    | true =>
      cases r with
      | press z deed dns =>
        obtain ⟨⟨b, hb, _⟩, hdd, _⟩ := st.ok
        have en : (stt n f walk (7 + j)).next (.press z deed dns) = ((stt n f walk (7 + j)).po z deed).hears dns z b.cnt := by
          show (match fnd PB.name (stt n f walk (7 + j)).btns z with
            | none => stt n f walk (7 + j)
            | some b => ((stt n f walk (7 + j)).po z deed).hears dns z b.cnt) = _
          rw [hb]
        have epo : ((stt n f walk (7 + j)).po z deed).kept = (stt n f walk (7 + j)).kept ++ [(z, b.cnt, deed)] := by unfold PH.po; rw [hb]
        rw [e, en, hears_kept, epo] at hx
        rcases List.mem_append.mp hx with h | h
        · exact ih (by omega) x h
        · rw [List.mem_singleton.mp h]
          exact hdd
      | _ => cases hp
end K69
end
section
set_option Elab.async false
set_option linter.all false
set_option maxRecDepth 100000
set_option maxHeartbeats 4000000
local macro_rules | `(tactic| walk_at "len") => `(tactic| (intro vs H Q E h; first
  | (obtain ⟨e, _⟩ := h; subst e; rfl) | (obtain ⟨_, e, _⟩ := h; subst e; rfl) | (obtain ⟨_, _, e, _⟩ := h; subst e; rfl) | (obtain ⟨_, _, _, e, _⟩ := h; subst e; rfl) | (obtain ⟨_, _, _, _, e, _⟩ := h; subst e; rfl)
  | (obtain ⟨_, _, _, _, _, e, _⟩ := h; subst e; rfl) | (obtain ⟨_, _, _, _, _, _, e, _⟩ := h; subst e; rfl) | (obtain ⟨_, _, _, _, _, _, _, e, _⟩ := h; subst e; rfl) | (obtain ⟨_, _, _, _, _, _, _, _, e, _⟩ := h; subst e; rfl)
  | (obtain ⟨_, _, _, _, _, _, _, _, _, e, _⟩ := h; subst e; rfl) | (obtain ⟨_, _, _, _, _, _, _, _, _, _, e, _⟩ := h; subst e; rfl) | (obtain ⟨_, _, _, _, _, _, _, _, _, _, _, e, _⟩ := h; subst e; rfl)))
local macro_rules | `(tactic| walk_at "hh") => `(tactic| first
  | assumption
  | exact L2.upd_same
  | (refine (L2.upd_ne (by walk_at "ne")).trans ?_; walk_at "hh")
  | (refine (‹L2.Same _ _› : L2.Same _ _) _ _ ?_; walk_at "hh"))
local macro_rules | `(tactic| walk_at "ne") => `(tactic| first
  | assumption
  | (apply Ne.symm; assumption)
  | exact L2.ne_of_none (by walk_at "hh") (by assumption)
  | exact (L2.ne_of_none (by walk_at "hh") (by assumption)).symm)
local macro_rules | `(tactic| walk_at "s") => `(tactic| first
  | refine ⟨_, rfl, ?_⟩
  | refine ⟨_, _, _, rfl, (by walk_at "hh"), ?_⟩
  | refine ⟨rfl, ?_⟩
  | refine ⟨_, _, rfl, rfl, ?_⟩)
local macro_rules | `(tactic| walk_at "isi int") => `(tactic| refine ⟨_, _, _, _, true, rfl, .ty "int", .base (.int _), L2.kit_ty (by decide +kernel), ?_⟩)
local macro_rules | `(tactic| walk_at "isi bool") => `(tactic| refine ⟨_, _, _, _, false, rfl, .ty "bool", .base (.int _), L2.kit_ty (by decide +kernel), ?_⟩)
local macro_rules | `(tactic| walk_at "isi tuple") => `(tactic| refine ⟨_, _, _, _, true, rfl, .ty "tuple", .base (.tup (by assumption)), L2.kit_ty (by decide +kernel), ?_⟩)
local macro_rules | `(tactic| walk_at "isi str") => `(tactic| refine ⟨_, _, _, _, true, rfl, .ty "str", .base (.str _), L2.kit_ty (by decide +kernel), ?_⟩)
local macro_rules | `(tactic| walk_at "v") => `(tactic| refine ⟨_, rfl, ?_⟩)
local macro_rules | `(tactic| walk_at "ii") => `(tactic| refine ⟨_, _, rfl, rfl, ?_⟩)
namespace K69
open PySem PySem.Spec PyProof.Rows L2
section
variable {P : Program} {w : World} {K : PySem.W.Frag} {mg : Str → Option Value} {base : Heap}
theorem Op.step {p q : PH} {r : Rw} {m : Int} (st : Step p q r m) {num : Int} {dn : Str} (h : Op p num dn) : Op q num dn := by
  obtain ⟨n, z, c, deed, last, h1, h2, h3, h4⟩ := h
  obtain ⟨more, hk⟩ := st.kept
  obtain ⟨l, hl, hle⟩ := st.last dn z last h3
  have hn := (List.getElem?_eq_some_iff.mp h2).1
  exact ⟨n, z, c, deed, l, h1, by rw [hk, List.getElem?_append_left hn]; exact h2, hl, by omega⟩
def spWalked (K : PySem.W.Frag) : Sp := fun vs H Q _ => ∃ (sm an de : Addr) (as : List Addr) (ts : List Str) (n f : Int) (walk : List Rw), vs = [.ref sm, .ref an, .ref de] ∧ H sm = some (.lst (as.map V.ref)) ∧ H an = some (.tup (ts.map V.str)) ∧ H de = some (.lst (([0, 0, 0, 0, 0, 0] : List Int).map V.int)) ∧ sm ≠ de ∧
  RowsV H as (headR n f ++ walk) ∧ Walk7 walk ∧ ts.length = (headR n f ++ walk).length ∧ (∀ (i : Nat) (t : Str) (r : Rw), ts[i]? = some t → (headR n f ++ walk)[i]? = some r → (stt n f walk i).Told r t) ∧ ∀ H', Fr1 de H H' → Q (.bl true) H'
abbrev N_lWalked : List Str := ["_law_some", "_law_answers", "_law_deeds", "_law_opened", "_law_row_here", "_law_answer", "_law_number", "_law_door", "_law_word"]
theorem sc_lWalked : FnScope N_lWalked ["_law_some", "_law_answers", "_law_deeds"] (defScope s_lWalked) := ⟨rfl, rfl, rfl, by decide +kernel, rfl, by decide +kernel, by decide +kernel⟩
theorem c_lWalked (T : Tx P w K mg base) : Cal P w K mg base "_law_walked" 2 ["_law_some", "_law_answers", "_law_deeds"] (spWalked K) := by
  refine cal_mk T.df_lWalked T.g_lWalked sc_lWalked (fun _ _ _ _ _ _ us hl => match us, hl with | [_, _, _], _ => rfl) ?len (fun f cdv A outer s H vs Q E hr h => ?body)
  case len => walk_at "len"
  have nd := sc_lWalked.nd
  refine ⟨_, (pss_cons (ps_set (i := 3) nd rfl (Or.inl rfl) pe_dnewT)
    (pss_cons (ps_for PassesOwn.never rfl (pi_zipK true false (by rfl) T.f_zip (pa_cons (pv 0) (pa_cons (pv 1) pa_nil))) (pg_tup rfl (pgs_cons (pg_name (i := 4) nd rfl (Or.inl rfl)) (pgs_cons (pg_name (i := 5) nd rfl (Or.inl rfl)) pgs_nil)))
    (pss_cons (ps_if (PW.pt (pw_and (pt_cmpR op_eq (pe_ix ix_tup (pv 4) pe_int (fun _ _ => rfl)) pe_str (nomark _)) (pw_and1 (pt_not (pt_val (pe_m1 PySem.F.slot_str_startswith PySem.F.type_str_startswith mt_startswith (pv 5) pe_str)))))) (pss_one (ps_expr (pe_bm PySem.F.plainAttrs_list PySem.F.slot_list_append PySem.F.type_list_append mt_append (pv 2) (pa_cons (pe_ix ix_tup (pv 4) pe_int (fun _ _ => rfl)) pa_nil)))) pss_nil)
    (pss_one (ps_for PassesOwn.never rfl (pi_list (pe_ifExp (pt_cmpR op_in_seq (pe_ix ix_tup (pv 4) pe_int (fun _ _ => rfl)) (pe_tup (pa_cons pe_str (pa_cons pe_str pa_nil))) (by with_unfolding_all rfl)) (pe_c (c_lHeard T) (hr.mono (by decide)) (pa_cons (pv 4) (pa_cons (pv 5) pa_nil))) (pe_lst pa_nil))) (pg_tup rfl (pgs_cons (pg_name (i := 6) nd rfl (Or.inl rfl)) (pgs_cons (pg_name (i := 7) nd rfl (Or.inl rfl)) (pgs_cons (pg_name (i := 8) nd rfl (Or.inl rfl)) pgs_nil))))
    (pss_one (ps_if (pt_val (pe_m1 PySem.F.slot_str_startswith PySem.F.type_str_startswith mt_startswith (pv 8) pe_str)) (pss_cons (ps_if (PW.pt (pw_or (pt_cmp (pc_din (hu_of hr) (pe_tup (pa_cons (pv 6) (pa_cons (pv 7) pa_nil))) (pv 3))) (pw_or1 (pt_cmpR op_ne (pv 8) (pe_op op_add_str pe_str (pe_c (c_lSigns T) (hr.mono (by decide)) (pa_cons (pe_lst (pa_cons (pe_ix ix_list (pv 2) (pv 6) (fun _ _ => rfl)) pa_nil)) pa_nil))) (nomark _))))) (pss_one (ps_ret pe_bl)) pss_nil)
    (pss_one (ps_dput (hu_of hr) (pv 3) (pe_tup (pa_cons (pv 6) (pa_cons (pv 7) pa_nil))) pe_bl rfl))) (pss_one (ps_if (pt_not (pt_val (pe_m1 PySem.F.slot_str_startswith PySem.F.type_str_startswith mt_startswith (pv 8) pe_str))) (pss_one (ps_ret pe_bl)) pss_nil))))))))
    (pss_one (ps_ret pe_bl)))), ?_⟩
  obtain ⟨sm, an, de, as, ts, n, f, walk, rfl, hsm, han, hde, nsd, hrows, W, htl, htold, q⟩ := h
  have hwl := W.len
  have hrl : (headR n f ++ walk).length = 7 + walk.length := by rw [List.length_append] <;> rfl
  refine fun op hop0 => ?_
  have nop : op ≠ de := fun e => by rw [e, hde] at hop0; cases hop0
  have s0 : Same H (upd H op (.dT [])) := same_new hop0
  have tkF : ∀ {H1 : Hp}, Fr1 de H H1 → TupK H H1 := fun f1 c xs hc => f1 c _ hc (fun e => by rw [e, hde] at hc; cases hc)
  have hzl : (as.map V.ref).length = (ts.map V.str).length := by rw [List.length_map, List.length_map, hrows.1, htl]
  refine ⟨_, rfl, _, rfl, sm, an, _, _, rfl, SqL.of (s0 _ _ hsm), SqT.of (s0 _ _ han), for_it (walk_zipK (xs := as.map V.ref) (ys := ts.map V.str) hzl) (fun i σ H' => ∃ (v4 v5 v6 v7 v8 : Option V) (kvs : List (List L2.Key × V)), σ = [some (.ref sm), some (.ref an), some (.ref de), some (.ref op), v4, v5, v6, v7, v8] ∧ Fr1 de H H' ∧ H' de = some (.lst ((deedsAt n f walk i).map V.int)) ∧ H' op = some (.dT kvs) ∧
    (∀ (num : Nat) (dn : Str), valV kvs (kOp num dn) ≠ none → Op (stt n f walk i) num dn) ∧ kvs.length ≤ 20 * i ∧ (i < 7 → kvs = [])) ⟨none, none, none, none, none, [], rfl, .of s0, s0 _ _ hde, upd_same, fun num dn h => absurd rfl h, Nat.zero_le _, fun _ => rfl⟩
    (fun i σ H' _ g => ?_) (fun i x σ H2 H3 hi g y => ?_) (fun σ H2 g => ?_)⟩
  · obtain ⟨v4, v5, v6, v7, v8, kvs, _, f1, _⟩ := g
    exact ⟨SqL.of (f1 _ _ hsm nsd), SqT.of (tkF f1 _ _ han)⟩
  · obtain ⟨v4, v5, v6, v7, v8, kvs, rfl, f2, hde2, hop2, hO, hkl, hk7⟩ := g
    obtain ⟨Tp, x1, y1, rfl, hT, rfl, ex, ey⟩ := y
    obtain ⟨a, ha, rfl⟩ := map_get ex
    obtain ⟨t, ht, rfl⟩ := map_get ey
    have hil : i < (headR n f ++ walk).length := by
      have := (List.getElem?_eq_some_iff.mp ha).1
      rw [hrows.1] at this
      exact this
    obtain ⟨r, hr⟩ : ∃ r, (headR n f ++ walk)[i]? = some r := ⟨_, List.getElem?_eq_getElem hil⟩
    have hro := (hrows.2 i a r ha hr).tk (tkF f2)
    have htd := htold i t r ht hr
    have hok := rows_ok W i r hr
    refine ⟨Tp, _, rfl, SqT.of upd_same, rfl, _, _, rfl, _, _, rfl, rfl, ?_⟩
    have s3 : Same H2 (upd H2 Tp (.tup [.ref a, .str t])) := same_new hT
    generalize upd H2 Tp _ = H3 at s3 ⊢
    have hro3 := hro.tk (.of s3)
    obtain ⟨ws, hws⟩ := hro3.tup
    have hde3 := s3 _ _ hde2
    have hop3 := s3 _ _ hop2
    have tk3 : ∀ {H1 : Hp}, Fr1 de H3 H1 → TupK H3 H1 := fun f1 c xs hc => f1 c _ hc (fun e => by rw [e, hde3] at hc; cases hc)
    have hdl : (deedsAt n f walk i).length ≤ 20000 := by
      unfold deedsAt
      split
      · rw [List.length_map]
        next h7 =>
          obtain ⟨_, hl⟩ := walk_inv (n := n) (f := f) W (i - 7) (by omega)
          have hp : pcnt (walk.take (i - 7)) ≤ (walk.take (i - 7)).length := List.length_filter_le _ _
          rw [List.length_take] at hp
          rw [show 7 + (i - 7) = i by omega] at hl
          omega
      · decide
    refine ⟨_, rfl, a, _, _, V.str r.word, rfl, rfl, SqT.of hws, at_of (j := 0) rfl rfl, rfl, _, rfl, ?_⟩
    by_cases hp : r.isP = true
    case' pos =>
      obtain ⟨z, deed, dns, er⟩ : ∃ z deed dns, r = .press z deed dns := by
        cases r with
        | press z d ds => exact ⟨z, d, ds, rfl⟩
        | _ => cases hp
      have href := told_ref htd (isP_hear hp)
      have hpr : H3 a = some (.tup (.str "press" :: .str z :: .int deed :: dns.map V.str)) := by
        have g := hro3
        rw [er] at g
        exact g
      have hdn := deeds_press W (show (headR n f ++ walk)[i]? = some (.press z deed dns) by rw [← er]; exact hr)
      refine ifD (by rw [er] <;> rfl) ?_
      refine ⟨_, rfl, ⟨_, rfl⟩, _, _, rfl, rfl, _, rfl, ?_⟩
      refine ifT (by rw [href] <;> rfl) ?_
      refine ⟨_, rfl, Or.inl ⟨rfl, _, SqL.of hde3⟩, _, rfl, a, _, _, V.int deed, rfl, rfl, SqT.of hpr, at_of (j := 2) rfl rfl, de, _, _, rfl, rfl, hde3, (by rw [List.length_map]; exact sz_lt (by omega)), ?_⟩
      generalize e4 : upd H3 de _ = H4
      have f4 : Fr1 de H3 H4 := fun c o hc hn => by rw [← e4, upd_ne hn]; exact hc
      have hde4 : H4 de = some (.lst ((deedsAt n f walk (i + 1)).map V.int)) := by
        rw [← e4, upd_same, hdn, List.map_append] <;> rfl
      clear e4
    case' neg =>
      have hpf : r.isP = false := by
        cases e : r.isP with
        | true => exact absurd e hp
        | false => rfl
      have hnp : r.word ≠ "press" := word_press fun z d ds e => hp (by rw [e] <;> rfl)
      refine ifND (fun e => hnp (V.str.inj e)) ?_
      obtain ⟨H4, e4⟩ : ∃ H4, H4 = H3 := ⟨_, rfl⟩
      rw [← e4]
      have f4 : Fr1 de H3 H4 := by rw [e4]; exact fun c o hc _ => hc
      have hde4 : H4 de = some (.lst ((deedsAt n f walk (i + 1)).map V.int)) := by
        rw [e4, deeds_next W hr hpf]
        exact hde3
      clear e4
    all_goals
      have hop4 := f4 _ _ hop3 nop
      have hro4 := hro3.tk (tk3 f4)
      obtain ⟨ws4, hws4⟩ := hro4.tup
      refine ⟨_, rfl, a, _, _, V.str r.word, rfl, rfl, SqT.of hws4, at_of (j := 0) rfl rfl, (by show 2 ≤ sizeLine; decide), fun u hu => ?_⟩
      generalize e5 : upd H4 u _ = H5
      have s5 : Same H4 H5 := by rw [← e5]; exact same_new hu
      have hu5 : H5 u = some (.tup pwW) := by rw [← e5]; exact upd_same
      clear e5
      refine ⟨u, pwW, rfl, Or.inr (SqT.of hu5), rfl, rfl, _, rfl, ?_⟩
      have hin : (if false = true then !inV (V.str r.word) pwW else inV (V.str r.word) pwW) = r.hearB := by
        rw [if_neg Bool.false_ne_true]
        exact inV_pw r
      rw [hin]
      have f25 : Fr1 de H H5 := f2.trans ((Fr1.of s3).trans (f4.trans (.of s5)))
      have hde5 := s5 _ _ hde4
      have hop5 := s5 _ _ hop4
      have hro5 := hro4.tk (.of s5)
      cases hb : r.hearB with
      | false =>
        refine ifF rfl ?_
        refine ⟨(by show 0 ≤ sizeLine; decide), fun l hl => ?_⟩
        have s6 : ∀ o, Same H5 (upd H5 l o) := fun o => same_new hl
        refine ⟨l, rfl, ⟨_, SqL.of upd_same⟩, for_it (walk_list (xs := [])) (fun j σ H' => j = 0 ∧ H' = upd H5 l (.lst []) ∧ σ = [some (.ref sm), some (.ref an), some (.ref de), some (.ref op), some (.ref a), some (.str t), v6, v7, v8]) ⟨rfl, rfl, rfl⟩ (fun j σ H' _ g => by rw [g.2.1]; exact SqL.of upd_same) (fun j x σ H6 H7 hj g y => absurd hj (Nat.not_lt_zero _)) (fun σ H6 g => ?_)⟩
        obtain ⟨_, rfl, rfl⟩ := g
        refine ⟨_, _, _, _, _, kvs, rfl, f25.trans (.of (s6 _)), s6 _ _ _ hde5, s6 _ _ _ hop5, fun num dn hv => ?_, by omega, fun h7 => hk7 (by omega)⟩
        by_cases h7 : i < 7
        · rw [hk7 h7] at hv
          exact absurd rfl hv
        · rcases row_at hr with ⟨h8, _⟩ | ⟨j, ej, hj⟩
          · exact absurd h8 h7
          · rw [ej] at hO ⊢
            exact (hO num dn hv).step (walk_step W hj).1
      | true =>
        refine ifT rfl ?_
        obtain ⟨h7, hkk, hdk, hnx⟩ := heard_row W hr hb
        have hkd := kept_deeds (n := n) (f := f) W (i - 7) (by omega)
        rw [show 7 + (i - 7) = i by omega] at hkd
        obtain ⟨S, hS⟩ := hseq hok hb hkd
        refine ⟨_, rfl, _, rfl, a, r, stt n f walk i, t, rfl, hro5, hok, htd, hb, hkk, hkd, fun l xs H6 s6 hl6 hxs => ?_⟩
        have hde6 := s6 _ _ hde5
        have hop6 := s6 _ _ hop5
        have f26 := f25.trans (.of s6)
        have hxl : (xs.map V.ref).length = (heardOf (stt n f walk i) r).length := by rw [List.length_map, hxs.1]
        have nlo : l ≠ op := ne_of hl6 hop6 (by intro z; cases z)
        have hhl : (heardOf (stt n f walk i) r).length ≤ 10 := by
          cases r with
          | press z deed dns =>
            obtain ⟨⟨b, hbb, _⟩, _, _, hdl10⟩ := hok
            show (match fnd PB.name (stt n f walk i).btns z with
              | none => []
              | some b => (List.range dns.length).map fun i' => ((stt n f walk i).kept.length, dns.getD i' "", ansS ((((stt n f walk i).po z deed).hears (dns.take i') z b.cnt).ans (dns.getD i' "") z b.cnt) deed)).length ≤ 10
            rw [hbb]
            show (List.map _ _).length ≤ 10
            rw [List.length_map, List.length_range]
            exact hdl10
          | play num dn =>
            show (match (stt n f walk i).kept[num]? with
              | none => []
              | some t => [(num, dn, ansS ((stt n f walk i).ans dn t.1 t.2.1) t.2.2)]).length ≤ 10
            split
            · exact Nat.zero_le _
            · exact Nat.le_of_ble_eq_true rfl
          | _ => cases hb
        refine ⟨l, rfl, ⟨_, SqL.of hl6⟩, for_it (walk_list (xs := xs.map V.ref)) (fun j σ H' => ∃ (w6 w7 w8 : Option V) (ks : List (List L2.Key × V)), σ = [some (.ref sm), some (.ref an), some (.ref de), some (.ref op), some (.ref a), some (.str t), w6, w7, w8] ∧ (∀ c o, H6 c = some o → c ≠ op → H' c = some o) ∧ H' op = some (.dT ks) ∧
          (∀ (num : Nat) (dn : Str), valV ks (kOp num dn) ≠ none → Op (S j) num dn) ∧ ks.length ≤ 20 * i + j) ⟨v6, v7, v8, kvs, rfl, fun c o hc _ => hc, hop6, fun num dn hv => hS.start _ _ (hO num dn hv), by omega⟩ (fun j σ H' _ g => ?_) (fun j x σ H8 H7 hj g y => ?_) (fun σ H7 g => ?_)⟩
        · obtain ⟨_, _, _, _, _, k1, _⟩ := g
          exact SqL.of (k1 _ _ hl6 nlo)
        · obtain ⟨w6, w7, w8, ks, rfl, k1, hop7, hO7, hks⟩ := g
          obtain ⟨rfl, hxj⟩ := y
          obtain ⟨x1, hx1, rfl⟩ := map_get hxj
          rw [hxl] at hj
          obtain ⟨hh, hhj⟩ : ∃ hh, (heardOf (stt n f walk i) r)[j]? = some hh := ⟨_, List.getElem?_eq_getElem hj⟩
          have hx6 := hxs.2 j x1 hh hx1 hhj
          obtain ⟨num, dn, wd⟩ := hh
          obtain ⟨z, c, deed, hSk, hSd, hSn, hwd, hdd⟩ := hS.one j _ hhj
          have nop6 : ∀ {b : Addr} {ys : List V}, H6 b = some (.tup ys) → b ≠ op := fun hb2 e => by rw [e, hop6] at hb2; cases hb2
          have hx7 := k1 _ _ hx6 (nop6 hx6)
          have hSk : (S j).kept[num]? = some (z, c, deed) := hSk
          have hSd : (fnd PD.nm (S j).doors dn).isSome = true := hSd
          have hSn : S (j + 1) = (S j).hear dn z c := hSn
          have hwd : wd = ansS ((S j).ans dn z c) deed := hwd
          refine ⟨x1, _, rfl, SqT.of hx7, rfl, _, _, rfl, _, _, rfl, _, _, rfl, rfl, ?_⟩
          refine ⟨_, rfl, ⟨_, rfl⟩, _, _, rfl, rfl, _, rfl, ?_⟩
          cases hans : (S j).ans dn z c with
          | some y =>
            rw [hans] at hwd
            obtain ⟨o1, o2⟩ := held_sw y deed
            rw [← hwd] at o1 o2
            refine ifF o1 ?_
            refine ⟨_, rfl, ⟨_, rfl⟩, _, _, rfl, rfl, _, rfl, ?_⟩
            refine ifF (by rw [o2] <;> rfl) ?_
            refine ⟨_, _, _, ks, rfl, k1, hop7, fun num2 dn2 hv => ?_, by omega⟩
            rw [hSn]
            exact (hO7 num2 dn2 hv).hear hSd
          | none =>
            rw [hans] at hwd
            have o1 := open_sw deed
            rw [← hwd] at o1
            refine ifT o1 ?_
            refine ⟨_, rfl, _, rfl, (by show 2 ≤ sizeLine; decide), fun u7 hu7 => ?_⟩
            have s8 : ∀ o, Same H7 (upd H7 u7 o) := fun o => same_new hu7
            refine ⟨_, rfl, op, _, rfl, DGet.t (k := kOp num dn) (s8 _ _ _ hop7) upd_same, _, rfl, ?_⟩
            have hnone : valV ks (kOp num dn) = none := by
              cases e : valV ks (kOp num dn) with
              | none => rfl
              | some v => exact absurd (hO7 num dn (by rw [e]; intro z; cases z)) (Op.not hSd hSk hans)
            refine ifF (by rw [hnone] <;> rfl) ?_
            have hde7 := k1 _ _ hde6 nop.symm
            have hdeed : (deedsAt n f walk (i + 1))[num]? = some deed := by
              rw [hdk, hnx, ← hS.kept j, List.getElem?_map, hSk] <;> rfl
            refine ⟨_, rfl, _, rfl, _, rfl, de, _, _, V.int deed, rfl, rfl, SqL.of (s8 _ _ _ hde7), at_of rfl (by rw [List.getElem?_map, hdeed] <;> rfl), (by show 1 ≤ sizeLine; decide), fun u8 hu8 => ?_⟩
            have s9 : ∀ o1 o2, (upd H7 u7 o1) u8 = none → Same H7 (upd (upd H7 u7 o1) u8 o2) := fun o1 o2 h => (s8 _).trans (same_new h)
            refine ⟨true, u8, [deed], rfl, SqL.of upd_same, (fun x hx => by rw [List.mem_singleton.mp hx]; exact hdd), (by show 1 ≤ 1000; decide), fun H9 s10 => ?_⟩
            have s79 : Same H7 H9 := (s9 _ (.lst [.int deed]) hu8).trans s10
            refine ⟨_, _, rfl, rfl, sz_of (by rw [hexsS_len]; exact Nat.le_trans (show ("open:" : Str).length + 1 ≤ 100 by decide +kernel) (by decide)), rfl, _, rfl, ?_⟩
            refine ifnD (by rw [hwd] <;> rfl) ?_
            refine ⟨_, rfl, _, rfl, _, rfl, (by show 2 ≤ sizeLine; decide), fun u10 hu10 => ?_⟩
            have hop9 := s79 _ _ hop7
            have n10 : op ≠ u10 := ne_of_none hop9 hu10
            refine ⟨op, _, rfl, DPut.t (k := kOp num dn) ((upd_ne n10).trans hop9) upd_same (sz_lt (by omega)), ?_⟩
            refine ⟨_, _, _, putK ks (kOp num dn) (.bl true), rfl, fun c' o hc hn => ?_, upd_same, fun num2 dn2 hv => ?_, ?_⟩
            · have g7 := k1 _ _ hc hn
              have g9 := s79 _ _ g7
              rw [upd_ne hn, upd_ne (ne_of_none g9 hu10)]
              exact g9
            · rw [hSn]
              rw [valV_put] at hv
              by_cases ek : kOp num2 dn2 = kOp num dn
              · have e1 : num2 = num := by have := Sum.inl.inj (List.cons.inj ek).1; omega
                have e2 : dn2 = dn := Sum.inr.inj (List.cons.inj (List.cons.inj ek).2).1
                rw [e1, e2]
                exact Op.new hSd hSk hans
              · rw [if_neg ek] at hv
                exact (hO7 num2 dn2 hv).hear hSd
            · rw [putK_new _ hnone, List.length_append]
              show ks.length + 1 ≤ _
              omega
        · obtain ⟨w6, w7, w8, ks, rfl, k1, hop7, hO7, hks⟩ := g
          rw [hxl] at hO7 hks
          refine ⟨_, _, _, _, _, ks, rfl, fun c o hc hn => k1 _ _ (f26 c o hc hn) (ne_of_none hc hop0), k1 _ _ hde6 nop.symm, hop7, fun num dn hv => ?_, by omega, fun h8 => by omega⟩
          rw [hnx, ← hS.stop]
          exact hO7 num dn hv
  · obtain ⟨v4, v5, v6, v7, v8, kvs, rfl, f2, _⟩ := g
    exact q H2 f2
end
end K69
end
section
set_option Elab.async false
set_option linter.all false
set_option maxRecDepth 100000
set_option maxHeartbeats 4000000
local macro_rules | `(tactic| walk_at "len") => `(tactic| (intro vs H Q E h; first
  | (obtain ⟨e, _⟩ := h; subst e; rfl) | (obtain ⟨_, e, _⟩ := h; subst e; rfl) | (obtain ⟨_, _, e, _⟩ := h; subst e; rfl) | (obtain ⟨_, _, _, e, _⟩ := h; subst e; rfl) | (obtain ⟨_, _, _, _, e, _⟩ := h; subst e; rfl)
  | (obtain ⟨_, _, _, _, _, e, _⟩ := h; subst e; rfl) | (obtain ⟨_, _, _, _, _, _, e, _⟩ := h; subst e; rfl) | (obtain ⟨_, _, _, _, _, _, _, e, _⟩ := h; subst e; rfl) | (obtain ⟨_, _, _, _, _, _, _, _, e, _⟩ := h; subst e; rfl)
  | (obtain ⟨_, _, _, _, _, _, _, _, _, e, _⟩ := h; subst e; rfl) | (obtain ⟨_, _, _, _, _, _, _, _, _, _, e, _⟩ := h; subst e; rfl) | (obtain ⟨_, _, _, _, _, _, _, _, _, _, _, e, _⟩ := h; subst e; rfl)))
local macro_rules | `(tactic| walk_at "hh") => `(tactic| first
  | assumption
  | exact L2.upd_same
  | (refine (L2.upd_ne (by walk_at "ne")).trans ?_; walk_at "hh")
  | (refine (‹L2.Same _ _› : L2.Same _ _) _ _ ?_; walk_at "hh"))
local macro_rules | `(tactic| walk_at "ne") => `(tactic| first
  | assumption
  | (apply Ne.symm; assumption)
  | exact L2.ne_of_none (by walk_at "hh") (by assumption)
  | exact (L2.ne_of_none (by walk_at "hh") (by assumption)).symm)
local macro_rules | `(tactic| walk_at "s") => `(tactic| first
  | refine ⟨_, rfl, ?_⟩
  | refine ⟨_, _, _, rfl, (by walk_at "hh"), ?_⟩
  | refine ⟨rfl, ?_⟩
  | refine ⟨_, _, rfl, rfl, ?_⟩)
local macro_rules | `(tactic| walk_at "isi int") => `(tactic| refine ⟨_, _, _, _, true, rfl, .ty "int", .base (.int _), L2.kit_ty (by decide +kernel), ?_⟩)
local macro_rules | `(tactic| walk_at "isi bool") => `(tactic| refine ⟨_, _, _, _, false, rfl, .ty "bool", .base (.int _), L2.kit_ty (by decide +kernel), ?_⟩)
local macro_rules | `(tactic| walk_at "isi tuple") => `(tactic| refine ⟨_, _, _, _, true, rfl, .ty "tuple", .base (.tup (by assumption)), L2.kit_ty (by decide +kernel), ?_⟩)
local macro_rules | `(tactic| walk_at "isi str") => `(tactic| refine ⟨_, _, _, _, true, rfl, .ty "str", .base (.str _), L2.kit_ty (by decide +kernel), ?_⟩)
local macro_rules | `(tactic| walk_at "v") => `(tactic| refine ⟨_, rfl, ?_⟩)
local macro_rules | `(tactic| walk_at "ii") => `(tactic| refine ⟨_, _, rfl, rfl, ?_⟩)
namespace K69
open PySem PySem.Spec PyProof.Rows L2
def rwD (r : Rw) : PyData := .tuple (.str r.word :: r.things.map fun t => thD t.2)
theorem word_strOk (r : Rw) : PyData.strOk r.word = true := by
  cases r with
  | house _ _ => exact (by decide +kernel : PyData.strOk "house" = true)
  | door _ _ _ _ => exact (by decide +kernel : PyData.strOk "door" = true)
  | button _ _ => exact (by decide +kernel : PyData.strOk "button" = true)
  | teach _ _ => exact (by decide +kernel : PyData.strOk "teach" = true)
  | press _ _ _ => exact (by decide +kernel : PyData.strOk "press" = true)
  | play _ _ => exact (by decide +kernel : PyData.strOk "play" = true)
  | lose _ => exact (by decide +kernel : PyData.strOk "lose" = true)
  | tear _ => exact (by decide +kernel : PyData.strOk "tear" = true)
  | turn _ => exact (by decide +kernel : PyData.strOk "turn" = true)
  | known _ => exact (by decide +kernel : PyData.strOk "known" = true)
  | now _ => exact (by decide +kernel : PyData.strOk "now" = true)
theorem rwD_shaped {r : Rw} (h : r.wf) : SeqAt.shaped (rwD r) = true := by
  obtain ⟨h1, h2, _⟩ := lay_all (wf_things h)
  show (PyData.canLayAll0 (.str r.word :: r.things.map fun t => thD t.2) && decide ((rwD r).depth ≤ 64)) = true
  have e1 : PyData.canLayAll0 (.str r.word :: r.things.map fun t => thD t.2) = true := by
    show ((PyData.str r.word).canLay0 && PyData.canLayAll0 (r.things.map fun t => thD t.2)) = true
    rw [h1, show (PyData.str r.word).canLay0 = true from word_strOk r] <;> rfl
  have e2 : (rwD r).depth ≤ 64 := by
    unfold rwD
    simp only [PyData.depth, PyData.depthAll]
    omega
  rw [e1, decide_eq_true e2] <;> rfl
theorem rwD_dp {K : PySem.W.Frag} {H : Hp} {a : Addr} {r : Rw} (h : RowV H a r) : Dp K H (.ref a) (rwD r) := by
  obtain ⟨vs, h1, h2, h3⟩ := h.gen
  refine .tup (SqT.of h1) (.cons (.str _) ?_)
  have all : ∀ (us : List V) (ts : List (Str × Th)), us.length = ts.length → (∀ (j : Nat) (v : V) (t : Str × Th), us[j]? = some v → ts[j]? = some t → ThV H v t.2) → DpAll K H us (ts.map fun t => thD t.2) := by
    intro us
    induction us with
    | nil =>
      intro ts hlen _
      cases ts with
      | nil => exact .nil
      | cons a b => cases hlen
    | cons u us ih =>
      intro ts hlen hall
      cases ts with
      | nil => cases hlen
      | cons a b => exact .cons (thV_dp (hall 0 u a rfl rfl)) (ih b (Nat.succ.inj hlen) fun j v t h1 h2 => hall (j + 1) v t h1 h2)
  exact all vs r.things h2 h3
theorem eqv_word {r q : Rw} (h : PyData.eqv (rwD r) (rwD q) = true) : r.word = q.word ∧ PyData.eqvAll (r.things.map fun t => thD t.2) (q.things.map fun t => thD t.2) = true := by
  have h : ((r.word == q.word) && PyData.eqvAll (r.things.map fun t => thD t.2) (q.things.map fun t => thD t.2)) = true := by
    simpa [rwD, PyData.eqv, PyData.eqvAll] using h
  obtain ⟨h1, h2⟩ := He.ba h
  exact ⟨beq_iff_eq.mp h1, h2⟩
theorem eqv_known {r : Rw} {z : Str} (h : PyData.eqv (rwD r) (rwD (.known z)) = true) : r = .known z := by
  obtain ⟨h1, h2⟩ := eqv_word h
  cases r with
  | known y =>
    have h2 : ((y == z) && true) = true := by simpa [Rw.things, thD, PyData.eqv, PyData.eqvAll] using h2
    rw [Bool.and_true] at h2
    rw [beq_iff_eq.mp h2]
  | house _ _ => exact absurd h1 (by decide +kernel : ¬ ("house" : Str) = "known")
  | door _ _ _ _ => exact absurd h1 (by decide +kernel : ¬ ("door" : Str) = "known")
  | button _ _ => exact absurd h1 (by decide +kernel : ¬ ("button" : Str) = "known")
  | teach _ _ => exact absurd h1 (by decide +kernel : ¬ ("teach" : Str) = "known")
  | press _ _ _ => exact absurd h1 (by decide +kernel : ¬ ("press" : Str) = "known")
  | play _ _ => exact absurd h1 (by decide +kernel : ¬ ("play" : Str) = "known")
  | lose _ => exact absurd h1 (by decide +kernel : ¬ ("lose" : Str) = "known")
  | tear _ => exact absurd h1 (by decide +kernel : ¬ ("tear" : Str) = "known")
  | turn _ => exact absurd h1 (by decide +kernel : ¬ ("turn" : Str) = "known")
  | now _ => exact absurd h1 (by decide +kernel : ¬ ("now" : Str) = "known")
theorem eqv_now {r : Rw} {z : Str} (h : PyData.eqv (rwD r) (rwD (.now z)) = true) : r = .now z := by
  obtain ⟨h1, h2⟩ := eqv_word h
  cases r with
  | now y =>
    have h2 : ((y == z) && true) = true := by simpa [Rw.things, thD, PyData.eqv, PyData.eqvAll] using h2
    rw [Bool.and_true] at h2
    rw [beq_iff_eq.mp h2]
  | house _ _ => exact absurd h1 (by decide +kernel : ¬ ("house" : Str) = "now")
  | door _ _ _ _ => exact absurd h1 (by decide +kernel : ¬ ("door" : Str) = "now")
  | button _ _ => exact absurd h1 (by decide +kernel : ¬ ("button" : Str) = "now")
  | teach _ _ => exact absurd h1 (by decide +kernel : ¬ ("teach" : Str) = "now")
  | press _ _ _ => exact absurd h1 (by decide +kernel : ¬ ("press" : Str) = "now")
  | play _ _ => exact absurd h1 (by decide +kernel : ¬ ("play" : Str) = "now")
  | lose _ => exact absurd h1 (by decide +kernel : ¬ ("lose" : Str) = "now")
  | tear _ => exact absurd h1 (by decide +kernel : ¬ ("tear" : Str) = "now")
  | turn _ => exact absurd h1 (by decide +kernel : ¬ ("turn" : Str) = "now")
  | known _ => exact absurd h1 (by decide +kernel : ¬ ("known" : Str) = "now")
structure AskTx (t : Str) (place : Nat) (n : Int) : Prop where
  rf : Txt.startswith t refW = false
  no : t ≠ "-"
  sp : ∃ p0 rest, Txt.split t " ; " = p0 :: rest ∧ p0.length ≤ 2000 ∧ (Txt.split p0 " ")[place]? = some (numS n)
  lo : 0 ≤ n
  hi : n < 100000
  ln : t.length ≤ 5000
section
variable {P : Program} {w : World} {K : PySem.W.Frag} {mg : Str → Option Value} {base : Heap}
def spNever (K : PySem.W.Frag) : Sp := fun vs H Q _ => ∃ (sm an ak : Addr) (as : List Addr) (ts : List Str) (rs : List Rw) (ra : Rw) (place : Nat) (val : Nat → Int), vs = [.ref sm, .ref an, .ref ak, .int place] ∧ H sm = some (.lst (as.map V.ref)) ∧ H an = some (.tup (ts.map V.str)) ∧
  RowsV H as rs ∧ RowV H ak ra ∧ (∀ r, r ∈ rs → r.wf) ∧ ra.wf ∧ ts.length = rs.length ∧ (∀ r, PyData.eqv (rwD r) (rwD ra) = true → r = ra) ∧ (∀ (i : Nat) (t : Str), rs[i]? = some ra → ts[i]? = some t → AskTx t place (val i)) ∧
  (∀ i j : Nat, i ≤ j → rs[i]? = some ra → rs[j]? = some ra → val i ≤ val j) ∧ ∀ H', Same H H' → Q (.bl true) H'
abbrev N_lNeverFalls : List Str := ["_law_some", "_law_answers", "_law_ask", "_law_place", "_law_last", "_law_row_here", "_law_answer", "_law_number"]
theorem sc_lNeverFalls : FnScope N_lNeverFalls ["_law_some", "_law_answers", "_law_ask", "_law_place"] (defScope s_lNeverFalls) := ⟨rfl, rfl, rfl, by decide +kernel, rfl, by decide +kernel, by decide +kernel⟩
theorem c_lNeverFalls (T : Tx P w K mg base) : Cal P w K mg base "_law_never_falls" 1 ["_law_some", "_law_answers", "_law_ask", "_law_place"] (spNever K) := by
  refine cal_mk T.df_lNeverFalls T.g_lNeverFalls sc_lNeverFalls (fun _ _ _ _ _ _ us hl => match us, hl with | [_, _, _, _], _ => rfl) ?len (fun f cdv A outer s H vs Q E hr h => ?body)
  case len => walk_at "len"
  have nd := sc_lNeverFalls.nd
  refine ⟨_, (pss_cons (ps_set (i := 4) nd rfl (Or.inl rfl) (pe_un un_neg pe_int))
    (pss_cons (ps_for PassesOwn.never rfl (pi_zipK true false (by rfl) T.f_zip (pa_cons (pv 0) (pa_cons (pv 1) pa_nil))) (pg_tup rfl (pgs_cons (pg_name (i := 5) nd rfl (Or.inl rfl)) (pgs_cons (pg_name (i := 6) nd rfl (Or.inl rfl)) pgs_nil)))
    (pss_one (ps_if (PW.pt (pw_and (pt_cmpR (op_eqD hr.units) (pv 5) (pv 2) (nomark _)) (pw_and (pt_not (pt_val (pe_m1 PySem.F.slot_str_startswith PySem.F.type_str_startswith mt_startswith (pv 6) pe_str))) (pw_and1 (pt_cmpR op_ne (pv 6) pe_str (nomark _)))))) (pss_cons (ps_set (i := 7) nd rfl (Or.inl rfl) (pe_callTy (T := "int") call_int_str (by rfl) T.f_int (by decide +kernel) (pa_cons (pe_ix ix_list (pe_split (pe_ix ix_list (pe_split (pv 6) pe_str) pe_int (fun _ _ => rfl)) pe_str) (pv 3) (fun _ _ => rfl)) pa_nil)))
    (pss_cons (ps_if (pt_cmpR op_lt (pv 7) (pv 4) (nomark _)) (pss_one (ps_ret pe_bl)) pss_nil)
    (pss_one (ps_set (i := 4) nd rfl (Or.inl rfl) (pv 7))))) pss_nil)))
    (pss_one (ps_ret pe_bl)))), ?_⟩
  obtain ⟨sm, an, ak, as, ts, rs, ra, place, val, rfl, hsm, han, hrows, hak, hwf, hwa, htl, heq, hask, hmono, q⟩ := h
  have hzl : (as.map V.ref).length = (ts.map V.str).length := by rw [List.length_map, List.length_map, hrows.1, htl]
  refine ⟨_, rfl, _, rfl, _, rfl, sm, an, _, _, rfl, SqL.of hsm, SqT.of han, for_it (walk_zipK (xs := as.map V.ref) (ys := ts.map V.str) hzl) (fun i σ H' => ∃ (last : Int) (v5 v6 v7 : Option V), σ = [some (.ref sm), some (.ref an), some (.ref ak), some (.int place), some (.int last), v5, v6, v7] ∧ Same H H' ∧ ∀ j : Nat, i ≤ j → rs[j]? = some ra → last ≤ val j) ?_
    (fun i σ H' _ g => ?_) (fun i x σ H2 H3 hi g y => ?_) (fun σ H2 g => ?_)⟩
  · refine ⟨-1, none, none, none, rfl, Same.refl H, fun j _ hj => ?_⟩
    have hjl := (List.getElem?_eq_some_iff.mp hj).1
    have ht : ts[j]? = some (ts[j]'(by omega)) := List.getElem?_eq_getElem _
    have := (hask j _ hj ht).lo
    omega
  · obtain ⟨last, v5, v6, v7, _, s1, _⟩ := g
    exact ⟨SqL.of (s1 _ _ hsm), SqT.of (s1 _ _ han)⟩
  · obtain ⟨last, v5, v6, v7, rfl, s2, hl⟩ := g
    obtain ⟨Tp, x1, y1, rfl, hT, rfl, ex, ey⟩ := y
    obtain ⟨a, ha, rfl⟩ := map_get ex
    obtain ⟨t, ht, rfl⟩ := map_get ey
    obtain ⟨r, hr⟩ : ∃ r, rs[i]? = some r := ⟨_, List.getElem?_eq_getElem (by
      have := (List.getElem?_eq_some_iff.mp ha).1
      rw [hrows.1] at this
      exact this)⟩
    refine ⟨Tp, _, rfl, SqT.of upd_same, rfl, _, _, rfl, _, _, rfl, rfl, ?_⟩
    have s3 : Same H2 (upd H2 Tp (.tup [.ref a, .str t])) := same_new hT
    generalize upd H2 Tp _ = H3 at s3 ⊢
    have s13 := s2.trans s3
    have hro := (hrows.2 i a r ha hr).tk (.of s13)
    have hak3 := hak.tk (.of s13)
    refine ⟨_, rfl, _, rfl, rwD r, rwD ra, rwD_dp hro, rwD_dp hak3, rwD_shaped (hwf r (List.mem_of_getElem? hr)), rwD_shaped hwa, _, rfl, ?_⟩
    cases hq : PyData.eqv (rwD r) (rwD ra) with
    | false =>
      refine ifF rfl ?_
      exact ⟨last, _, _, _, rfl, s13, fun j hj hj2 => hl j (by omega) hj2⟩
    | true =>
      refine ifT rfl ?_
      obtain rfl := heq r hq
      obtain ⟨k1, k2, ⟨p0, rest, k3, k4, k5⟩, k6, k7, k8⟩ := hask i t hr ht
      refine ⟨_, rfl, ⟨_, rfl⟩, _, _, rfl, rfl, _, rfl, ?_⟩
      refine ifT (by rw [k1] <;> rfl) ?_
      refine ⟨_, rfl, rfl, _, rfl, ?_⟩
      refine ifnND (fun e => k2 (V.str.inj e)) ?_
      refine ⟨_, rfl, ⟨_, rfl⟩, _, _, rfl, rfl, rfl, sz_of (by omega), fun p1 hp1 => ?_⟩
      rw [k3]
      generalize e4 : upd H3 p1 _ = H4
      have s4 : Same H3 H4 := by rw [← e4]; exact same_new hp1
      have hp14 : H4 p1 = some (.lst ((p0 :: rest).map V.str)) := by rw [← e4]; exact upd_same
      clear e4
      refine ⟨p1, _, _, V.str p0, rfl, rfl, SqL.of hp14, at_of (j := 0) rfl rfl, ⟨_, rfl⟩, _, _, rfl, rfl, rfl, sz_of (by omega), fun p2 hp2 => ?_⟩
      have hnl := numS_len k6 k7
      have s5 : ∀ o, Same H4 (upd H4 p2 o) := fun o => same_new hp2
      refine ⟨_, rfl, p2, _, _, V.str (numS (val i)), rfl, rfl, SqL.of upd_same, at_of rfl (by rw [List.getElem?_map, k5] <;> rfl), _, val i, rfl, numS_int k6 k7, by omega, ?_⟩
      have hlv := hl i (Nat.le_refl _) hr
      refine ⟨_, rfl, _, rfl, _, _, rfl, rfl, _, rfl, ?_⟩
      refine ifND (by omega) ?_
      exact ⟨_, rfl, val i, _, _, _, rfl, s13.trans (s4.trans (s5 _)), fun j hj hj2 => hmono i j (by omega) hr hj2⟩
  · obtain ⟨last, v5, v6, v7, rfl, s2, _⟩ := g
    exact q H2 s2
end
end K69
end
section
set_option Elab.async false
set_option linter.all false
set_option maxRecDepth 100000
set_option maxHeartbeats 400000
/-! what the law asks, in texts -/
namespace K69
open PySem PySem.Spec PyProof.Rows L2
/-- counts are small -/
structure Bnd (p : PH) : Prop where
  es : ∀ d, d ∈ p.doors → ∀ e, e ∈ d.es → (0 ≤ e.2.1 ∧ e.2.1 < 4096) ∧ ∀ c, e.2.2 = some c → 0 ≤ c ∧ c < 4096
  kp : ∀ x, x ∈ p.kept → 0 ≤ x.2.1 ∧ x.2.1 < 4096
theorem hearE_bnd {near far last c : Int} {wt : Option Int} (h1 : 0 ≤ last ∧ last < 4096) (h2 : ∀ c, wt = some c → 0 ≤ c ∧ c < 4096) (hc : 0 ≤ c ∧ c < 4096) : (0 ≤ (hearE near far last wt c).2.1 ∧ (hearE near far last wt c).2.1 < 4096) ∧ ∀ x, (hearE near far last wt c).2.2 = some x → 0 ≤ x ∧ x < 4096 := by
  unfold hearE
  split
  · exact ⟨hc, fun x hx => by cases hx⟩
  · split
    · exact ⟨h1, fun x hx => by rw [← Option.some.inj hx]; exact hc⟩
    · exact ⟨h1, h2⟩
theorem Bnd.hear {p : PH} (h : Bnd p) (dn z : Str) {c : Int} (hc : 0 ≤ c ∧ c < 4096) : Bnd (p.hear dn z c) := by
  refine ⟨?_, by rw [hear_kept]; exact h.kp⟩
  unfold PH.hear
  cases hf : fnd PD.nm p.doors dn with
  | none => exact h.es
  | some d =>
    intro d' hd' e he
    obtain ⟨hdm, _⟩ := fnd_ok hf
    rcases mem_setN hd' with rfl | ⟨hd2, _⟩
    · have he : e ∈ hearL d.near d.far d.es z c := he
      unfold hearL at he
      cases hz : fE d.es z with
      | none => rw [hz] at he; exact h.es d hdm e he
      | some x =>
        rw [hz] at he
        rcases mem_setN (nm := Prod.fst) (l := d.es) (z := z) (e' := (z, (hearE d.near d.far x.2.1 x.2.2 c).2)) he with rfl | ⟨he2, _⟩
        · have hx := h.es d hdm x (List.mem_of_find?_eq_some hz)
          exact hearE_bnd hx.1 hx.2 hc
        · exact h.es d hdm e he2
    · exact h.es d' hd2 e he
theorem Bnd.hears {z : Str} {c : Int} (hc : 0 ≤ c ∧ c < 4096) : ∀ (dns : List Str) {p : PH}, Bnd p → Bnd (p.hears dns z c)
  | [], _, h => h
  | d :: r, _, h => Bnd.hears hc r (h.hear d z hc)
theorem bnd_step {m : Int} {p : PH} {r : Rw} (h : Good m p) (hm : m ≤ 3900) (hr : LawR p.kept.length r) (hb : Bnd p) : Bnd (p.next r) := by
  rcases hr with hr | rfl | rfl | rfl
  · cases r with
    | press z deed dns =>
      obtain ⟨hz, hdd, hds, hdl⟩ := hr
      obtain ⟨b, hf, hbb⟩ := h.btn hz
      have hc := hbb.cnt
      have e : p.next (.press z deed dns) = (p.po z deed).hears dns z b.cnt := by
        show (match fnd PB.name p.btns z with
          | none => p
          | some b => (p.po z deed).hears dns z b.cnt) = _
        rw [hf]
      have epo : p.po z deed = { p with btns := setN PB.name p.btns z b.po, kept := p.kept ++ [(z, b.cnt, deed)] } := by unfold PH.po; rw [hf]
      rw [e]
      refine Bnd.hears ⟨hc.1, by omega⟩ dns ?_
      rw [epo]
      refine ⟨hb.es, fun x hx => ?_⟩
      rcases List.mem_append.mp hx with g | g
      · exact hb.kp x g
      · rw [List.mem_singleton.mp g]
        exact ⟨hc.1, by show b.cnt < 4096; omega⟩
    | play num dn =>
      obtain ⟨hn, hd⟩ := hr
      have hk := List.getElem?_eq_getElem hn
      have e : p.next (.play num dn) = p.hear dn (p.kept[num]).1 (p.kept[num]).2.1 := by
        show (match p.kept[num]? with
          | none => p
          | some t => p.hear dn t.1 t.2.1) = _
        rw [hk]
      rw [e]
      exact hb.hear _ _ (hb.kp _ (List.mem_of_getElem? hk))
    | lose z =>
      obtain ⟨b, hf, _⟩ := h.btn hr
      have e : p.btn z PB.co = { p with btns := setN PB.name p.btns z b.co } := by unfold PH.btn; rw [hf]
      show Bnd (p.btn z PB.co)
      rw [e]
      exact ⟨hb.es, hb.kp⟩
    | tear z =>
      obtain ⟨b, hf, _⟩ := h.btn hr
      have e : p.btn z PB.ct = { p with btns := setN PB.name p.btns z b.ct } := by unfold PH.btn; rw [hf]
      show Bnd (p.btn z PB.ct)
      rw [e]
      exact ⟨hb.es, hb.kp⟩
    | turn ks =>
      show Bnd (if p.nk < 8 then { p with nk := p.nk + 1 } else p)
      split
      · exact ⟨hb.es, hb.kp⟩
      · exact hb
    | _ => exact hr.elim
  · exact hb
  · exact hb
  · exact hb
theorem bnd7 (n f : Int) : Bnd (st7 n f) := by
  refine ⟨fun d hd e he => ?_, fun x hx => ?_⟩
  · rcases List.mem_cons.mp hd with rfl | hd
    · rcases List.mem_cons.mp he with rfl | he
      · exact ⟨by decide, fun c hc => by cases hc⟩
      · rw [List.mem_singleton.mp he]
        exact ⟨by decide, fun c hc => by cases hc⟩
    · have hd := List.mem_singleton.mp hd
      subst hd
      rw [List.mem_singleton.mp he]
      exact ⟨by decide, fun c hc => by cases hc⟩
  · have all : ([("a", 0, 0), ("a", 1, 0), ("ab", 0, 0), ("ab", 1, 0), ("ab", 2, 0), ("ab", 3, 0)] : List (Str × Int × Int)).all (fun x => decide (0 ≤ x.2.1 ∧ x.2.1 < 4096)) = true := by decide
    exact of_decide_eq_true (List.all_eq_true.mp all x hx)
theorem walk_bnd {n f : Int} {walk : List Rw} (W : Walk7 walk) : ∀ j, j ≤ walk.length → Bnd (stt n f walk (7 + j)) := by
  intro j
  induction j with
  | zero => intro _; rw [stt7]; exact bnd7 n f
  | succ j ih =>
    intro hj
    obtain ⟨r, hr⟩ : ∃ r, walk[j]? = some r := ⟨_, List.getElem?_eq_getElem (by omega)⟩
    obtain ⟨h1, h2⟩ := walk_inv (n := n) (f := f) W j (by omega)
    have hl := W.len
    have hlr := W.row j r hr
    rw [← h2] at hlr
    rw [(walk_step W hr).2]
    exact bnd_step h1 (by omega) hlr (ih (by omega))
/-! ### the texts' parts -/
theorem row_parts (e : PE3) : ([e.1, numS 0, numS e.2.1] ++ waitS e.2.2) ≠ [] := by
  intro h
  cases h
theorem wait_signs {o : Option Int} (h : ∀ c, o = some c → 0 ≤ c ∧ c < 4096) : ∀ x, x ∈ waitS o → ∀ c ∈ TL.tl x, 48 ≤ c ∧ c ≠ 59 := by
  intro x hx c hc
  cases o with
  | none => cases hx
  | some i =>
    rw [List.mem_singleton.mp hx, TL.tl_append, TL.tl_append] at hc
    have g := (h i rfl).1
    have dg : ∀ {k : Int}, 0 ≤ k → ∀ c ∈ TL.tl (numS k), 48 ≤ c ∧ c ≠ 59 := fun {k} hk c hc => by
      rw [tl_numS hk] at hc
      have := TL.numL_digits _ c hc
      omega
    rcases List.mem_append.mp hc with hc | hc
    · rcases List.mem_append.mp hc with hc | hc
      · exact dg (by decide) c hc
      · have : c = 58 := List.mem_singleton.mp (show c ∈ ([58] : List Nat) from hc)
        omega
    · exact dg g c hc
theorem row_words {e : PE3} (hn : IsNm e.1) (h1 : 0 ≤ e.2.1 ∧ e.2.1 < 4096) (h2 : ∀ c, e.2.2 = some c → 0 ≤ c ∧ c < 4096) : ∀ x, x ∈ [e.1, numS 0, numS e.2.1] ++ waitS e.2.2 → ∀ c ∈ TL.tl x, 48 ≤ c ∧ c ≠ 59 := by
  have dg : ∀ {k : Int}, 0 ≤ k → ∀ c ∈ TL.tl (numS k), 48 ≤ c ∧ c ≠ 59 := fun {k} hk c hc => by
    rw [tl_numS hk] at hc
    have := TL.numL_digits _ c hc
    omega
  intro x hx c hc
  rcases List.mem_append.mp hx with hx | hx
  · rcases List.mem_cons.mp hx with rfl | hx
    · have := hn.low c hc
      omega
    rcases List.mem_cons.mp hx with rfl | hx
    · exact dg (by decide) c hc
    · rw [List.mem_singleton.mp hx] at hc
      exact dg h1.1 c hc
  · exact wait_signs h2 x hx c hc
theorem row_split {e : PE3} (hn : IsNm e.1) (h1 : 0 ≤ e.2.1 ∧ e.2.1 < 4096) (h2 : ∀ c, e.2.2 = some c → 0 ≤ c ∧ c < 4096) : Txt.split (rowS e) " " = [e.1, numS 0, numS e.2.1] ++ waitS e.2.2 :=
  TL.split_join (s := 32) (S := []) rfl (by decide +kernel) (row_parts e) fun w hw hc => by
    have := row_words hn h1 h2 w hw 32 hc
    omega
theorem row_no59 {e : PE3} (hn : IsNm e.1) (h1 : 0 ≤ e.2.1 ∧ e.2.1 < 4096) (h2 : ∀ c, e.2.2 = some c → 0 ≤ c ∧ c < 4096) : 59 ∉ TL.tl (rowS e) := by
  intro h
  unfold rowS at h
  rw [TL.join_eq, TL.tl_join] at h
  rcases joinL_mem h with ⟨p, hp, hc⟩ | hc
  · obtain ⟨w, hw, rfl⟩ := List.mem_map.mp hp
    exact (row_words hn h1 h2 w hw 59 hc).2 rfl
  · have := List.mem_singleton.mp (show 59 ∈ ([32] : List Nat) from hc)
    omega
theorem joinL_last {S : List Nat} : ∀ {ps : List (List Nat)} {q : List Nat}, ps.getLast? = some q → q ≠ [] → ∃ u, TL.joinL S ps = u ++ q
  | [], q, h, _ => by cases h
  | [a], q, h, _ => by
    obtain rfl := Option.some.inj h
    exact ⟨[], rfl⟩
  | a :: b :: r, q, h, hq => by
    obtain ⟨u, hu⟩ := joinL_last (S := S) (ps := b :: r) (q := q) (by rw [← h] <;> rfl) hq
    exact ⟨a ++ (S ++ u), by show a ++ (S ++ TL.joinL S (b :: r)) = _; rw [hu, List.append_assoc, List.append_assoc]⟩
/-- the last sign of a row is no blank -/
theorem row_last {e : PE3} (h1 : 0 ≤ e.2.1) (h2 : ∀ c, e.2.2 = some c → 0 ≤ c ∧ c < 4096) : ∃ u c, TL.tl (rowS e) = u ++ [c] ∧ c ≠ 32 := by
  have dg : ∀ {k : Int}, 0 ≤ k → ∃ u c, TL.tl (numS k) = u ++ [c] ∧ c ≠ 32 := fun {k} hk => by
    have hne : TL.tl (numS k) ≠ [] := by rw [tl_numS hk]; exact TL.numL_ne _
    refine ⟨_, _, (List.dropLast_concat_getLast hne).symm, ?_⟩
    have hm := List.getLast_mem hne
    generalize (TL.tl (numS k)).getLast hne = c at hm
    have := num_signs hk c hm
    omega
  have fin : ∀ (ps : List Str) (q : Str), ps.getLast? = some q → (∃ u c, TL.tl q = u ++ [c] ∧ c ≠ 32) → ∃ u c, TL.tl (Txt.join " " ps) = u ++ [c] ∧ c ≠ 32 := fun ps q hq ⟨u, c, hc, hn⟩ => by
    rw [TL.join_eq, TL.tl_join]
    obtain ⟨v, hv⟩ := joinL_last (S := TL.tl " ") (ps := ps.map TL.tl) (q := TL.tl q) (by rw [List.getLast?_map, hq] <;> rfl) (by rw [hc]; simp)
    exact ⟨v ++ u, c, by rw [hv, hc, List.append_assoc], hn⟩
  unfold rowS
  cases hw : e.2.2 with
  | none => exact fin _ (numS e.2.1) rfl (dg h1)
  | some c =>
    refine fin _ (numS 0 ++ ":" ++ numS c) rfl ?_
    obtain ⟨u, d, hd, hn⟩ := dg (h2 c hw).1
    exact ⟨TL.tl (numS 0 ++ ":") ++ u, d, by rw [TL.tl_append, hd, List.append_assoc], hn⟩
abbrev semi : Str := " ; "
theorem semi_tl : TL.tl semi = 32 :: [59, 32] := by decide +kernel
theorem pre_semi {l : List Nat} (h : TL.pre [32, 59, 32] l = true) : ∃ r, l = 32 :: 59 :: 32 :: r := by
  have e : l.take 3 = [32, 59, 32] := beq_iff_eq.mp h
  match l, e with
  | a :: b :: c :: r, e =>
    have e2 : [a, b, c] = [32, 59, 32] := e
    cases e2
    exact ⟨r, rfl⟩
  | [], e => cases e
  | [_], e => cases e
  | [_, _], e => cases e
/-- the first part of a text of rows -/
theorem semi_first {x : Str} {xs : List Str} (h59 : 59 ∉ TL.tl x) (hlast : ∃ u c, TL.tl x = u ++ [c] ∧ c ≠ 32) : ∃ rest, Txt.split (Txt.join semi (x :: xs)) semi = x :: rest := by
  have hsp := TL.split_spl (Txt.join semi (x :: xs)) semi (by rw [semi_tl]; simp) (TL.kind_ok (by decide +kernel))
  rw [semi_tl, TL.join_eq, TL.tl_join, semi_tl] at hsp
  have key : ∃ m, TL.spl [32, 59, 32] 0 [] (TL.joinL [32, 59, 32] ((x :: xs).map TL.tl)) = TL.tl x :: m := by
    cases xs with
    | nil =>
      refine ⟨[], ?_⟩
      show TL.spl [32, 59, 32] 0 [] (TL.tl x) = _
      rw [TL.spl_last (fun i hi => ?_)] <;> first | rfl | skip
      cases hp : TL.pre [32, 59, 32] ((TL.tl x).drop i) with
      | false => rfl
      | true =>
        obtain ⟨r, hr⟩ := pre_semi hp
        exact absurd (List.mem_of_mem_drop (by rw [hr]; simp : 59 ∈ (TL.tl x).drop i)) h59
    | cons y ys =>
      refine ⟨TL.spl [32, 59, 32] 0 [] (TL.joinL [32, 59, 32] ((y :: ys).map TL.tl)), ?_⟩
      show TL.spl [32, 59, 32] 0 [] (TL.tl x ++ ([32, 59, 32] ++ TL.joinL [32, 59, 32] ((y :: ys).map TL.tl))) = _
      refine TL.spl_part (acc := []) (by simp) fun i hi => ?_
      cases hp : TL.pre [32, 59, 32] ((TL.tl x ++ ([32, 59, 32] ++ TL.joinL [32, 59, 32] ((y :: ys).map TL.tl))).drop i) with
      | false => rfl
      | true =>
        exfalso
        obtain ⟨r, hr⟩ := pre_semi hp
        rw [List.drop_append_of_le_length (by omega)] at hr
        obtain ⟨u, c, hu, hc⟩ := hlast
        have hlen : (TL.tl x).length = u.length + 1 := by rw [hu, List.length_append] <;> rfl
        by_cases h2 : i + 1 < (TL.tl x).length
        · have e2 : ((TL.tl x).drop i) = (TL.tl x)[i] :: (TL.tl x)[i + 1] :: (TL.tl x).drop (i + 2) := by
            rw [List.drop_eq_getElem_cons hi, List.drop_eq_getElem_cons h2]
          rw [e2] at hr
          have e3 : (TL.tl x)[i + 1] = 59 := (List.cons.inj (List.cons.inj hr).2).1
          exact h59 (by rw [← e3]; exact List.getElem_mem h2)
        · have ei : i = u.length := by omega
          have e2 : (TL.tl x).drop i = [c] := by rw [hu, ei, List.drop_left]
          rw [e2] at hr
          exact hc (List.cons.inj hr).1
  obtain ⟨m, hm⟩ := key
  rw [hm] at hsp
  cases hq : Txt.split (Txt.join semi (x :: xs)) semi with
  | nil =>
    rw [← TL.join_eq] at hsp
    rw [hq] at hsp
    cases hsp
  | cons p0 rest =>
    rw [← TL.join_eq] at hsp
    rw [hq, List.map_cons] at hsp
    exact ⟨rest, by rw [TL.ext_tl (List.cons.inj hsp).1]⟩
theorem rowS_len2 {e : PE3} (hn : IsNm e.1) (h1 : 0 ≤ e.2.1 ∧ e.2.1 < 4096) (h2 : ∀ c, e.2.2 = some c → 0 ≤ c ∧ c < 4096) : (rowS e).length ≤ 100 := by
  have hnl : e.1.length ≤ 8 := hn.hi
  have h0 := numS_len (i := 0) (by decide) (by decide)
  have hll := numS_len h1.1 (show e.2.1 < 100000 by omega)
  unfold rowS
  refine Nat.le_trans (join_len _ _) ?_
  cases hw : e.2.2 with
  | none =>
    show (e.1.length + ((numS 0).length + ((numS e.2.1).length + 0))) + 3 * 1 ≤ 100
    omega
  | some c =>
    obtain ⟨hp0, hp1⟩ := h2 c hw
    have hpl := numS_len hp0 (show c < 100000 by omega)
    have h6 : (numS 0 ++ ":" ++ numS c).length = (numS 0).length + 1 + (numS c).length := by
      rw [TL.len_tl, TL.tl_append, TL.tl_append, List.length_append, List.length_append, ← TL.len_tl, ← TL.len_tl] <;> rfl
    show (e.1.length + ((numS 0).length + ((numS e.2.1).length + ((numS 0 ++ ":" ++ numS c).length + 0)))) + 4 * 1 ≤ 100
    rw [h6]
    omega
theorem row_head {e : PE3} {c : Nat} {r : List Nat} (h : TL.tl e.1 = c :: r) : ∃ s, TL.tl (rowS e) = c :: s := by
  unfold rowS
  show ∃ s, TL.tl (Txt.join " " (e.1 :: ([numS 0, numS e.2.1] ++ waitS e.2.2))) = c :: s
  exact join_head h " "
/-- known of a door whose first row is e -/
theorem known_ask {e : PE3} {es : List PE3} (hn : IsNm e.1) (h97 : ∃ r, TL.tl e.1 = 97 :: r) (hb : ∀ x, x ∈ e :: es → IsNm x.1 ∧ (0 ≤ x.2.1 ∧ x.2.1 < 4096) ∧ ∀ c, x.2.2 = some c → 0 ≤ c ∧ c < 4096) (hl : es.length ≤ 10) : AskTx (knownS (e :: es)) 2 e.2.1 := by
  obtain ⟨_, h1, h2⟩ := hb e List.mem_cons_self
  have e1 : knownS (e :: es) = Txt.join semi (rowS e :: es.map rowS) := by
    unfold knownS
    rw [if_neg (List.cons_ne_nil _ _)] <;> rfl
  obtain ⟨r, hr⟩ := h97
  obtain ⟨s, hs⟩ := row_head hr
  obtain ⟨s2, hs2⟩ := join_head (xs := es.map rowS) hs semi
  have hlen := rowS_len2 hn h1 h2
  rw [e1]
  refine ⟨sw_false hs2 ref_tl (by decide), fun h => ?_, ?_, h1.1, by omega, ?_⟩
  · rw [h] at hs2
    have := (List.cons.inj (show (45 : Nat) :: [] = 97 :: s2 from hs2)).1
    omega
  · obtain ⟨rest, hrest⟩ := semi_first (xs := es.map rowS) (row_no59 hn h1 h2) (row_last h1.1 h2)
    exact ⟨rowS e, rest, hrest, by omega, by rw [row_split hn h1 h2] <;> rfl⟩
  · refine Nat.le_trans (join_len _ _) ?_
    have hsum := sum_le (l := (es.map rowS).map (·.length)) (k := 100) (fun x hx => by
      obtain ⟨y, hy, rfl⟩ := List.mem_map.mp hx
      obtain ⟨z, hz, rfl⟩ := List.mem_map.mp hy
      obtain ⟨g1, g2, g3⟩ := hb z (List.mem_cons_of_mem _ hz)
      exact rowS_len2 g1 g2 g3)
    rw [List.length_map, List.length_map] at hsum
    rw [List.map_cons, List.sum_cons, List.length_cons, List.length_map]
    have h3 : (semi : Str).length = 3 := rfl
    rw [h3]
    omega
theorem cellS_sg {c : Option Int} (h : ∀ i, c = some i → 0 ≤ i ∧ i < 100000) : (cellS c).length ≤ 5 ∧ ∀ x ∈ TL.tl (cellS c), x ≠ 32 ∧ x ≠ 59 := by
  cases c with
  | none =>
    refine ⟨by decide, fun x hx => ?_⟩
    have := List.mem_singleton.mp (show x ∈ ([45] : List Nat) from hx)
    omega
  | some i =>
    obtain ⟨h0, h1⟩ := h i rfl
    refine ⟨numS_len h0 h1, fun x hx => ?_⟩
    have hx : x ∈ TL.tl (numS i) := hx
    rw [tl_numS h0] at hx
    have := TL.numL_digits _ x hx
    omega
theorem now_ask {b : PB} (h0 : 0 ≤ b.cnt ∧ b.cnt < 100000) (h1 : ∀ i, b.c0 = some i → 0 ≤ i ∧ i < 100000) (h2 : ∀ i, b.c1 = some i → 0 ≤ i ∧ i < 100000) : AskTx (btnS b) 1 b.cnt := by
  obtain ⟨l1, s1⟩ := cellS_sg h1
  obtain ⟨l2, s2⟩ := cellS_sg h2
  have dg : ∀ {k : Int}, 0 ≤ k → ∀ x ∈ TL.tl (numS k), x ≠ 32 ∧ x ≠ 59 := fun {k} hk x hx => by
    rw [tl_numS hk] at hx
    have := TL.numL_digits _ x hx
    omega
  have ws : ∀ x, x ∈ ([numS 0, numS b.cnt, cellS b.c0, cellS b.c1] : List Str) → ∀ c ∈ TL.tl x, c ≠ 32 ∧ c ≠ 59 := by
    intro x hx
    rcases List.mem_cons.mp hx with rfl | hx
    · exact dg (by decide)
    rcases List.mem_cons.mp hx with rfl | hx
    · exact dg h0.1
    rcases List.mem_cons.mp hx with rfl | hx
    · exact s1
    · rw [List.mem_singleton.mp hx]; exact s2
  have n0 := numS_len (i := 0) (by decide) (by decide)
  have n1 := numS_len h0.1 h0.2
  have hlen : (btnS b).length ≤ 100 := by
    unfold btnS
    refine Nat.le_trans (join_len _ _) ?_
    show ((numS 0).length + ((numS b.cnt).length + ((cellS b.c0).length + ((cellS b.c1).length + 0)))) + 4 * 1 ≤ 100
    omega
  have h59 : 59 ∉ TL.tl (btnS b) := fun h => by
    unfold btnS at h
    rw [TL.join_eq, TL.tl_join] at h
    rcases joinL_mem h with ⟨p, hp, hc⟩ | hc
    · obtain ⟨w, hw, rfl⟩ := List.mem_map.mp hp
      exact (ws w hw 59 hc).2 rfl
    · have := List.mem_singleton.mp (show 59 ∈ ([32] : List Nat) from hc)
      omega
  obtain ⟨c, r, hc, hc1, hc2⟩ := numS_head (i := 0) (by decide)
  obtain ⟨s, hs⟩ := join_head (xs := [numS b.cnt, cellS b.c0, cellS b.c1]) hc " "
  have hs : TL.tl (btnS b) = c :: s := hs
  have hsplit : Txt.split (btnS b) semi = [btnS b] := by
    refine TL.map_tl_inj ?_
    rw [TL.split_spl (btnS b) semi (by rw [semi_tl]; simp) (TL.kind_ok (by decide +kernel)), semi_tl]
    refine TL.spl_last (acc := []) fun i hi => ?_
    cases hp : TL.pre [32, 59, 32] ((TL.tl (btnS b)).drop i) with
    | false => rfl
    | true =>
      obtain ⟨r2, hr2⟩ := pre_semi hp
      exact absurd (List.mem_of_mem_drop (by rw [hr2]; simp : 59 ∈ (TL.tl (btnS b)).drop i)) h59
  have hws : Txt.split (btnS b) " " = [numS 0, numS b.cnt, cellS b.c0, cellS b.c1] :=
    TL.split_join (s := 32) (S := []) rfl (by decide +kernel) (List.cons_ne_nil _ _) fun w hw hc => (ws w hw 32 hc).1 rfl
  refine ⟨sw_false hs ref_tl (by omega), fun h => ?_, ⟨btnS b, [], hsplit, by omega, by rw [hws] <;> rfl⟩, h0.1, h0.2, by omega⟩
  rw [h] at hs
  have := (List.cons.inj (show (45 : Nat) :: [] = c :: s from hs)).1
  omega
/-! ### along the rows -/
theorem walk_le {n f : Int} {walk : List Rw} (W : Walk7 walk) {i : Nat} : ∀ j, i ≤ j → j ≤ walk.length → LastLe (stt n f walk (7 + i)) (stt n f walk (7 + j)) ∧ ∀ z b, fnd PB.name (stt n f walk (7 + i)).btns z = some b → ∃ b', fnd PB.name (stt n f walk (7 + j)).btns z = some b' ∧ b.cnt ≤ b'.cnt := by
  intro j
  induction j with
  | zero =>
    intro h1 _
    have : i = 0 := by omega
    subst this
    exact ⟨LastLe.refl _, fun z b hb => ⟨b, hb, Int.le_refl _⟩⟩
  | succ j ih =>
    intro h1 h2
    by_cases e : i = j + 1
    · subst e
      exact ⟨LastLe.refl _, fun z b hb => ⟨b, hb, Int.le_refl _⟩⟩
    · obtain ⟨g1, g2⟩ := ih (by omega) (by omega)
      obtain ⟨r, hr⟩ : ∃ r, walk[j]? = some r := ⟨_, List.getElem?_eq_getElem (by omega)⟩
      obtain ⟨st, _⟩ := walk_step (n := n) (f := f) W hr
      refine ⟨g1.trans st.last, fun z b hb => ?_⟩
      obtain ⟨b1, k1, k2⟩ := g2 z b hb
      obtain ⟨b2, k3, k4⟩ := st.cnt z b1 k1
      exact ⟨b2, k3, by omega⟩
def valK (n f : Int) (walk : List Rw) (dn z : Str) (i : Nat) : Int := (lastOf (stt n f walk i) dn z).getD 0
def valN (n f : Int) (walk : List Rw) (z : Str) (i : Nat) : Int := ((fnd PB.name (stt n f walk i).btns z).map PB.cnt).getD 0
theorem ask_row {n f : Int} {walk : List Rw} {i : Nat} {r : Rw} (h : (headR n f ++ walk)[i]? = some r) (hr : r.deed = false) : ∃ j, i = 7 + j ∧ walk[j]? = some r := by
  rcases row_at h with ⟨hi, h2⟩ | h2
  · exfalso
    match i, hi, h2 with
    | 0, _, h2 => obtain rfl := Option.some.inj h2; cases hr
    | 1, _, h2 => obtain rfl := Option.some.inj h2; cases hr
    | 2, _, h2 => obtain rfl := Option.some.inj h2; cases hr
    | 3, _, h2 => obtain rfl := Option.some.inj h2; cases hr
    | 4, _, h2 => obtain rfl := Option.some.inj h2; cases hr
    | 5, _, h2 => obtain rfl := Option.some.inj h2; cases hr
    | 6, _, h2 => obtain rfl := Option.some.inj h2; cases hr
  · exact h2
theorem two_of {es : List PE3} (h : es.map Prod.fst = (["a", "ab"] : List Str)) : ∃ x y, es = [x, y] ∧ x.1 = "a" ∧ y.1 = "ab" := by
  have hl : es.length = 2 := by
    have g := congrArg List.length h
    rw [List.length_map] at g
    exact g
  match es, hl, h with
  | [x, y], _, h => exact ⟨x, y, rfl, (List.cons.inj h).1, (List.cons.inj (List.cons.inj h).2).1⟩
theorem one_of {es : List PE3} (h : es.map Prod.fst = (["ab"] : List Str)) : ∃ x, es = [x] ∧ x.1 = "ab" := by
  have hl : es.length = 1 := by
    have g := congrArg List.length h
    rw [List.length_map] at g
    exact g
  match es, hl, h with
  | [x], _, h => exact ⟨x, rfl, (List.cons.inj h).1⟩
theorem sorted_two {l : List Str} (hp : l.Perm (["a", "ab"] : List Str)) (hs : sortedS l = true) : l = (["a", "ab"] : List Str) := by
  have hl := hp.length_eq
  match l, hl with
  | [x, y], _ =>
    have hx : x = "a" ∨ x = "ab" := by
      rcases List.mem_cons.mp (hp.mem_iff.mp (List.mem_cons_self (a := x) (l := [y]))) with e | e
      · exact .inl e
      · exact .inr (List.mem_singleton.mp e)
    have hy : y = "a" ∨ y = "ab" := by
      rcases List.mem_cons.mp (hp.mem_iff.mp (List.mem_cons_of_mem x (List.mem_singleton.mpr (rfl : y = y)))) with e | e
      · exact .inl e
      · exact .inr (List.mem_singleton.mp e)
    have hnd : [x, y].Nodup := hp.nodup_iff.mpr (by decide +kernel)
    have hne : x ≠ y := fun e => by
      rw [List.nodup_cons] at hnd
      exact hnd.1 (by rw [e]; exact List.mem_singleton.mpr rfl)
    rcases hx with rfl | rfl <;> rcases hy with rfl | rfl
    · exact absurd rfl hne
    · rfl
    · exact absurd hs (by decide +kernel)
    · exact absurd rfl hne
theorem ask_gate {n f : Int} {walk : List Rw} (W : Walk7 walk) {i : Nat} {t : Str} (h : (headR n f ++ walk)[i]? = some (.known "gate")) (ht : (stt n f walk i).Told (.known "gate") t) : AskTx t 2 (valK n f walk "gate" "a" i) := by
  obtain ⟨j, rfl, hj⟩ := ask_row h rfl
  have hjl := (List.getElem?_eq_some_iff.mp hj).1
  obtain ⟨G, _⟩ := walk_inv (n := n) (f := f) W j (by omega)
  have B := walk_bnd (n := n) (f := f) W j (by omega)
  unfold valK
  generalize stt n f walk (7 + j) = p at ht G B
  obtain ⟨d, es, hd, hperm, hsort, rfl⟩ := ht
  obtain ⟨dg, dd, e, e1, e2, e3, e4⟩ := G.dr
  have hf : fnd PD.nm p.doors "gate" = some dg := by
    rw [e]
    unfold fnd
    rw [List.find?_cons, decide_eq_true e1]
  rw [hf] at hd
  obtain rfl := Option.some.inj hd
  obtain ⟨x, y, hes, hx, hy⟩ := two_of e3
  have hn := sorted_two (l := es.map Prod.fst) (by rw [← e3]; exact hperm.map _) hsort
  obtain ⟨x2, y2, rfl, hx2, hy2⟩ := two_of hn
  have hxe : x2 = x := by
    have hm := hperm.mem_iff.mp (List.mem_cons_self (a := x2) (l := [y2]))
    rw [hes] at hm
    rcases List.mem_cons.mp hm with g | g
    · exact g
    · have g := List.mem_singleton.mp g
      rw [g, hy] at hx2
      exact absurd hx2 (by decide +kernel)
  have hl : lastOf p "gate" "a" = some x2.2.1 := by
    unfold lastOf
    rw [hf]
    show (fE dg.es "a").map _ = _
    rw [hes, hxe]
    unfold fE
    rw [List.find?_cons, decide_eq_true hx] <;> rfl
  rw [hl]
  have hdm : dg ∈ p.doors := by rw [e]; exact List.mem_cons_self
  refine known_ask (e := x2) (es := [y2]) (by rw [hx2]; exact nm_a) ⟨[], by rw [hx2] <;> rfl⟩ (fun z hz => ?_) (by show 1 ≤ 10; decide)
  have hzm := hperm.mem_iff.mp hz
  obtain ⟨b1, b2⟩ := B.es dg hdm z hzm
  refine ⟨?_, b1, b2⟩
  rcases List.mem_cons.mp hz with rfl | hz
  · rw [hx2]; exact nm_a
  · rw [List.mem_singleton.mp hz, hy2]; exact nm_ab
theorem ask_d {n f : Int} {walk : List Rw} (W : Walk7 walk) {i : Nat} {t : Str} (h : (headR n f ++ walk)[i]? = some (.known "d")) (ht : (stt n f walk i).Told (.known "d") t) : AskTx t 2 (valK n f walk "d" "ab" i) := by
  obtain ⟨j, rfl, hj⟩ := ask_row h rfl
  have hjl := (List.getElem?_eq_some_iff.mp hj).1
  obtain ⟨G, _⟩ := walk_inv (n := n) (f := f) W j (by omega)
  have B := walk_bnd (n := n) (f := f) W j (by omega)
  unfold valK
  generalize stt n f walk (7 + j) = p at ht G B
  obtain ⟨d, es, hd, hperm, hsort, rfl⟩ := ht
  obtain ⟨dg, dd, e, e1, e2, e3, e4⟩ := G.dr
  have hf : fnd PD.nm p.doors "d" = some dd := by
    rw [e]
    unfold fnd
    rw [List.find?_cons, decide_eq_false (by rw [e1]; decide +kernel), List.find?_cons, decide_eq_true e2]
  rw [hf] at hd
  obtain rfl := Option.some.inj hd
  obtain ⟨x, hes, hx⟩ := one_of e4
  rw [hes] at hperm
  obtain rfl : es = [x] := List.perm_singleton.mp hperm
  have hl : lastOf p "d" "ab" = some x.2.1 := by
    unfold lastOf
    rw [hf]
    show (fE dd.es "ab").map _ = _
    rw [hes]
    unfold fE
    rw [List.find?_cons, decide_eq_true hx] <;> rfl
  rw [hl]
  have hdm : dd ∈ p.doors := by rw [e]; exact List.mem_cons_of_mem _ List.mem_cons_self
  refine known_ask (e := x) (es := []) (by rw [hx]; exact nm_ab) ⟨[98], by rw [hx] <;> rfl⟩ (fun z hz => ?_) (Nat.zero_le _)
  rw [List.mem_singleton.mp hz]
  obtain ⟨b1, b2⟩ := B.es dd hdm x (by rw [hes]; exact List.mem_cons_self)
  exact ⟨by rw [hx]; exact nm_ab, b1, b2⟩
theorem ask_a {n f : Int} {walk : List Rw} (W : Walk7 walk) {i : Nat} {t : Str} (h : (headR n f ++ walk)[i]? = some (.now "a")) (ht : (stt n f walk i).Told (.now "a") t) : AskTx t 1 (valN n f walk "a" i) := by
  obtain ⟨j, rfl, hj⟩ := ask_row h rfl
  have hjl := (List.getElem?_eq_some_iff.mp hj).1
  have hw := W.len
  obtain ⟨G, _⟩ := walk_inv (n := n) (f := f) W j (by omega)
  unfold valN
  generalize stt n f walk (7 + j) = p at ht G
  obtain ⟨b, hb, rfl⟩ := ht
  obtain ⟨b2, hb2, B⟩ := G.btn (.inl rfl)
  rw [hb] at hb2
  obtain rfl := Option.some.inj hb2
  rw [hb]
  have hc := B.cnt
  have hal := B.al
  refine now_ask (b := b) ⟨hc.1, by omega⟩ (fun i hi => ?_) (fun i hi => ?_)
  · have := B.ok.le0 i hi
    omega
  · have := B.ok.le1 i hi
    omega
theorem mono_k {n f : Int} {walk : List Rw} (W : Walk7 walk) {dn z : Str} {i j : Nat} (hij : i ≤ j) {r : Rw} (hr : r.deed = false) (hi : (headR n f ++ walk)[i]? = some r) (hj : (headR n f ++ walk)[j]? = some r) (hs : ∃ l, lastOf (stt n f walk i) dn z = some l) : valK n f walk dn z i ≤ valK n f walk dn z j := by
  obtain ⟨a, rfl, ha⟩ := ask_row hi hr
  obtain ⟨b, rfl, hb⟩ := ask_row hj hr
  have hbl := (List.getElem?_eq_some_iff.mp hb).1
  obtain ⟨g, _⟩ := walk_le (n := n) (f := f) W (i := a) b (by omega) (by omega)
  obtain ⟨l, hl⟩ := hs
  obtain ⟨l2, h2, hle⟩ := g dn z l hl
  unfold valK
  rw [hl, h2]
  exact hle
theorem mono_n {n f : Int} {walk : List Rw} (W : Walk7 walk) {i j : Nat} (hij : i ≤ j) {r : Rw} (hr : r.deed = false) (hi : (headR n f ++ walk)[i]? = some r) (hj : (headR n f ++ walk)[j]? = some r) : valN n f walk "a" i ≤ valN n f walk "a" j := by
  obtain ⟨a, rfl, ha⟩ := ask_row hi hr
  obtain ⟨b, rfl, hb⟩ := ask_row hj hr
  have hbl := (List.getElem?_eq_some_iff.mp hb).1
  obtain ⟨_, g⟩ := walk_le (n := n) (f := f) W (i := a) b (by omega) (by omega)
  obtain ⟨G, _⟩ := walk_inv (n := n) (f := f) W a (by omega)
  obtain ⟨b1, h1, _⟩ := G.btn (.inl rfl)
  obtain ⟨b2, h2, hle⟩ := g _ b1 h1
  unfold valN
  rw [h1, h2]
  exact hle
theorem last_has {n f : Int} {walk : List Rw} (W : Walk7 walk) {j : Nat} (hj : j ≤ walk.length) : (∃ l, lastOf (stt n f walk (7 + j)) "gate" "a" = some l) ∧ ∃ l, lastOf (stt n f walk (7 + j)) "d" "ab" = some l := by
  obtain ⟨g, _⟩ := walk_le (n := n) (f := f) W (i := 0) j (Nat.zero_le _) hj
  have e1 : lastOf (stt n f walk (7 + 0)) "gate" "a" = some 1 := by rw [stt7]; show lastOf (st7 n f) "gate" "a" = some 1; kernel_rfl
  have e2 : lastOf (stt n f walk (7 + 0)) "d" "ab" = some 1 := by rw [stt7]; show lastOf (st7 n f) "d" "ab" = some 1; kernel_rfl
  obtain ⟨l1, h1, _⟩ := g _ _ _ e1
  obtain ⟨l2, h2, _⟩ := g _ _ _ e2
  exact ⟨⟨l1, h1⟩, ⟨l2, h2⟩⟩
end K69
end
section
set_option Elab.async false
set_option linter.all false
set_option maxRecDepth 100000
set_option maxHeartbeats 4000000
local macro_rules | `(tactic| walk_at "len") => `(tactic| (intro vs H Q E h; first
  | (obtain ⟨e, _⟩ := h; subst e; rfl) | (obtain ⟨_, e, _⟩ := h; subst e; rfl) | (obtain ⟨_, _, e, _⟩ := h; subst e; rfl) | (obtain ⟨_, _, _, e, _⟩ := h; subst e; rfl) | (obtain ⟨_, _, _, _, e, _⟩ := h; subst e; rfl)
  | (obtain ⟨_, _, _, _, _, e, _⟩ := h; subst e; rfl) | (obtain ⟨_, _, _, _, _, _, e, _⟩ := h; subst e; rfl) | (obtain ⟨_, _, _, _, _, _, _, e, _⟩ := h; subst e; rfl) | (obtain ⟨_, _, _, _, _, _, _, _, e, _⟩ := h; subst e; rfl)
  | (obtain ⟨_, _, _, _, _, _, _, _, _, e, _⟩ := h; subst e; rfl) | (obtain ⟨_, _, _, _, _, _, _, _, _, _, e, _⟩ := h; subst e; rfl) | (obtain ⟨_, _, _, _, _, _, _, _, _, _, _, e, _⟩ := h; subst e; rfl)))
local macro_rules | `(tactic| walk_at "hh") => `(tactic| first
  | assumption
  | exact L2.upd_same
  | (refine (L2.upd_ne (by walk_at "ne")).trans ?_; walk_at "hh")
  | (refine (‹L2.Same _ _› : L2.Same _ _) _ _ ?_; walk_at "hh"))
local macro_rules | `(tactic| walk_at "ne") => `(tactic| first
  | assumption
  | (apply Ne.symm; assumption)
  | exact L2.ne_of_none (by walk_at "hh") (by assumption)
  | exact (L2.ne_of_none (by walk_at "hh") (by assumption)).symm)
local macro_rules | `(tactic| walk_at "s") => `(tactic| first
  | refine ⟨_, rfl, ?_⟩
  | refine ⟨_, _, _, rfl, (by walk_at "hh"), ?_⟩
  | refine ⟨rfl, ?_⟩
  | refine ⟨_, _, rfl, rfl, ?_⟩)
local macro_rules | `(tactic| walk_at "isi int") => `(tactic| refine ⟨_, _, _, _, true, rfl, .ty "int", .base (.int _), L2.kit_ty (by decide +kernel), ?_⟩)
local macro_rules | `(tactic| walk_at "isi bool") => `(tactic| refine ⟨_, _, _, _, false, rfl, .ty "bool", .base (.int _), L2.kit_ty (by decide +kernel), ?_⟩)
local macro_rules | `(tactic| walk_at "isi tuple") => `(tactic| refine ⟨_, _, _, _, true, rfl, .ty "tuple", .base (.tup (by assumption)), L2.kit_ty (by decide +kernel), ?_⟩)
local macro_rules | `(tactic| walk_at "isi str") => `(tactic| refine ⟨_, _, _, _, true, rfl, .ty "str", .base (.str _), L2.kit_ty (by decide +kernel), ?_⟩)
local macro_rules | `(tactic| walk_at "v") => `(tactic| refine ⟨_, rfl, ?_⟩)
local macro_rules | `(tactic| walk_at "ii") => `(tactic| refine ⟨_, _, rfl, rfl, ?_⟩)
namespace K69
open PySem PySem.Spec PyProof.Rows L2
/-! ### the law -/
theorem rowTx_len {r : Rw} (h : r.wf) (hl : r.things.length ≤ 10) : (rowTx r).length ≤ 1000 := by
  have h1 := join_len " " r.words
  have h2 := words_sum h
  have h3 : r.words.length = r.things.length + 1 := by simp [Rw.words]
  have h4 : (" " : Str).length = 1 := rfl
  rw [h4] at h1
  unfold rowTx
  omega
theorem nm_oab {z : Str} (h : z = "a" ∨ z = "ab") : IsNm z := by
  rcases h with rfl | rfl
  · exact nm_a
  · exact nm_ab
theorem nm_ogd {z : Str} (h : z = "gate" ∨ z = "d") : IsNm z := by
  rcases h with rfl | rfl
  · exact nm_gate
  · exact nm_d
theorem law_wf {kept : Nat} {r : Rw} (h : LawR kept r) (hk : kept ≤ 9999) : r.wf ∧ r.things.length ≤ 10 ∧ ∀ t k, r ≠ .house t k := by
  rcases h with h | rfl | rfl | rfl
  · cases r with
    | press z deed dns =>
      obtain ⟨h1, h2, h3, h4⟩ := h
      refine ⟨⟨nm_oab h1, h2, fun d hd => nm_ogd (h3 d hd), by omega⟩, ?_, fun _ _ e => by cases e⟩
      show (dns.map _).length + 1 + 1 ≤ 10
      rw [List.length_map]
      omega
    | play num dn => exact ⟨⟨by have := h.1; omega, nm_ogd h.2⟩, Nat.le_of_ble_eq_true rfl, fun _ _ e => by cases e⟩
    | lose z => exact ⟨nm_oab h, Nat.le_of_ble_eq_true rfl, fun _ _ e => by cases e⟩
    | tear z => exact ⟨nm_oab h, Nat.le_of_ble_eq_true rfl, fun _ _ e => by cases e⟩
    | turn ks => exact ⟨h, Nat.le_of_ble_eq_true rfl, fun _ _ e => by cases e⟩
    | _ => exact h.elim
  · exact ⟨nm_gate, Nat.le_of_ble_eq_true rfl, fun _ _ e => by cases e⟩
  · exact ⟨nm_a, Nat.le_of_ble_eq_true rfl, fun _ _ e => by cases e⟩
  · exact ⟨nm_d, Nat.le_of_ble_eq_true rfl, fun _ _ e => by cases e⟩
theorem head_wf {n f : Int} (hn : 1 ≤ n ∧ n ≤ 64) (hf : n ≤ f ∧ f ≤ 1024) : ∀ r, r ∈ headR n f → r.wf ∧ r.things.length ≤ 10 ∧ ∀ t k, r ≠ .house t k := by
  intro r hr
  rcases List.mem_cons.mp hr with rfl | hr
  · exact ⟨⟨nm_gate, hn, ⟨by omega, hf.2⟩, ⟨by decide, by decide⟩, hf.1⟩, Nat.le_of_ble_eq_true rfl, fun _ _ e => by cases e⟩
  rcases List.mem_cons.mp hr with rfl | hr
  · exact ⟨⟨nm_d, ⟨by decide, by decide⟩, ⟨by decide, by decide⟩, ⟨by decide, by decide⟩, by decide⟩, Nat.le_of_ble_eq_true rfl, fun _ _ e => by cases e⟩
  rcases List.mem_cons.mp hr with rfl | hr
  · exact ⟨⟨nm_a, by decide, by decide⟩, Nat.le_of_ble_eq_true rfl, fun _ _ e => by cases e⟩
  rcases List.mem_cons.mp hr with rfl | hr
  · exact ⟨⟨nm_ab, by decide, by decide⟩, Nat.le_of_ble_eq_true rfl, fun _ _ e => by cases e⟩
  rcases List.mem_cons.mp hr with rfl | hr
  · exact ⟨⟨nm_gate, nm_a⟩, Nat.le_of_ble_eq_true rfl, fun _ _ e => by cases e⟩
  rcases List.mem_cons.mp hr with rfl | hr
  · exact ⟨⟨nm_d, nm_ab⟩, Nat.le_of_ble_eq_true rfl, fun _ _ e => by cases e⟩
  obtain rfl := List.mem_singleton.mp hr
  exact ⟨⟨nm_gate, nm_ab⟩, Nat.le_of_ble_eq_true rfl, fun _ _ e => by cases e⟩
theorem pcnt_le (l : List Rw) : pcnt l ≤ l.length := List.length_filter_le _ _
theorem all_wf {n f : Int} {walk : List Rw} (W : Walk7 walk) (hn : 1 ≤ n ∧ n ≤ 64) (hf : n ≤ f ∧ f ≤ 1024) : ∀ r, r ∈ headR n f ++ walk → r.wf ∧ r.things.length ≤ 10 ∧ ∀ t k, r ≠ .house t k := by
  intro r hr
  rcases List.mem_append.mp hr with h | h
  · exact head_wf hn hf r h
  · obtain ⟨j, hj⟩ := List.getElem?_of_mem h
    have h1 := pcnt_le (walk.take j)
    have h2 := W.len
    rw [List.length_take] at h1
    exact law_wf (W.row j r hj) (by omega)
theorem law_sheet {n f : Int} {walk : List Rw} {t k : List Int} (W : Walk7 walk) (hn : 1 ≤ n ∧ n ≤ 64) (hf : n ≤ f ∧ f ≤ 1024) (ht : IsTab t) (hk : IsKey k) : Sheet (.house t k :: (headR n f ++ walk)) := by
  have hw := all_wf W hn hf
  refine ⟨⟨t, k, _, rfl, fun r hr => (hw r hr).2.2⟩, fun r hr => ?_, ?_, fun r hr => ?_⟩
  · rcases List.mem_cons.mp hr with rfl | hr
    · exact ⟨ht, hk⟩
    · exact (hw r hr).1
  · have := W.len
    rw [List.length_cons, List.length_append]
    show 7 + walk.length + 1 ≤ 120
    omega
  · rcases List.mem_cons.mp hr with rfl | hr
    · exact rowTx_len (show Rw.wf _ from ⟨ht, hk⟩) (Nat.le_of_ble_eq_true rfl)
    · exact rowTx_len (hw r hr).1 (hw r hr).2.1
theorem walk_grow {walk : List Rw} {j : Nat} {r q : Rw} (hl : walk.length = 2 * j) (h : ∀ i x, walk[i]? = some x → LawR (6 + pcnt (walk.take i)) x) (hr : WalkR (6 + pcnt walk) r) (hq : q = .known "gate" ∨ q = .now "a" ∨ q = .known "d") :
    (walk ++ [r, q]).length = 2 * (j + 1) ∧ (∀ i x, (walk ++ [r, q])[i]? = some x → LawR (6 + pcnt ((walk ++ [r, q]).take i)) x) ∧ pcnt (walk ++ [r, q]) = pcnt walk + if r.isP = true then 1 else 0 := by
  have hqp : q.isP = false := by rcases hq with rfl | rfl | rfl <;> rfl
  refine ⟨by rw [List.length_append, hl] <;> rfl, fun i x hx => ?_, ?_⟩
  · by_cases h1 : i < walk.length
    · rw [List.getElem?_append_left h1] at hx
      rw [List.take_append_of_le_length (by omega)]
      exact h i x hx
    · rw [List.getElem?_append_right (by omega)] at hx
      by_cases h2 : i = walk.length
      · subst h2
        rw [Nat.sub_self] at hx
        obtain rfl := Option.some.inj hx
        rw [List.take_append_of_le_length (Nat.le_refl _), List.take_length]
        exact .inl hr
      · have h3 : i - walk.length = 1 := by
          have := (List.getElem?_eq_some_iff.mp hx).1
          simp at this
          omega
        rw [h3] at hx
        obtain rfl := Option.some.inj hx
        exact .inr hq
  · unfold pcnt
    rw [List.filter_append, List.length_append]
    congr 1
    cases hr : r.isP with
    | true => rw [List.filter_cons, hr, List.filter_cons, hqp] <;> rfl
    | false => rw [List.filter_cons, hr, List.filter_cons, hqp] <;> rfl
section
variable {P : Program} {w : World} {K : PySem.W.Frag} {mg : Str → Option Value} {base : Heap}
theorem box_new {H : Hp} {a c : Addr} (hb : BoxAt H a) (hc : H c = none) : c ≠ a := fun e => by
  obtain ⟨x0, x1, x2, h1, _⟩ := hb
  rw [e, h1] at hc
  cases hc
theorem box_upd {H : Hp} {a c : Addr} {o : HO} (hb : BoxAt H a) (hn : c ≠ a) : BoxAt (upd H c o) a := by
  obtain ⟨x0, x1, x2, h1, h2⟩ := hb
  exact ⟨x0, x1, x2, (upd_ne hn.symm).trans h1, h2⟩
theorem rows_snoc {H : Hp} {as : List Addr} {rs : List Rw} {x : Addr} {r : Rw} (h : RowsV H as rs) (hx : RowV H x r) : RowsV H (as ++ [x]) (rs ++ [r]) := by
  refine ⟨by rw [List.length_append, List.length_append, h.1] <;> rfl, fun i y q h1 h2 => ?_⟩
  have hl := h.1
  by_cases hi : i < as.length
  · rw [List.getElem?_append_left hi] at h1
    rw [List.getElem?_append_left (by omega)] at h2
    exact h.2 i y q h1 h2
  · rw [List.getElem?_append_right (by omega)] at h1
    rw [List.getElem?_append_right (by omega), ← hl] at h2
    have h3 : i - as.length = 0 := by
      have := (List.getElem?_eq_some_iff.mp h1).1
      simp at this
      omega
    rw [h3] at h1 h2
    obtain rfl := Option.some.inj h1
    obtain rfl := Option.some.inj h2
    exact hx
theorem rows_nil {H : Hp} : RowsV H [] [] := ⟨rfl, fun i y q h1 _ => by cases h1⟩
theorem ask3 {H : Hp} {q1 q2 q3 : Addr} (h1 : RowV H q1 (.known "gate")) (h2 : RowV H q2 (.now "a")) (h3 : RowV H q3 (.known "d")) {v : Int} (v0 : 0 ≤ v) (v1 : v < 3) : ∃ x q, atI [V.ref q1, V.ref q2, V.ref q3] v = some (.ref x) ∧ RowV H x q ∧ (q = .known "gate" ∨ q = .now "a" ∨ q = .known "d") := by
  by_cases h : v = 0
  · subst h; exact ⟨q1, _, rfl, h1, .inl rfl⟩
  by_cases h : v = 1
  · subst h; exact ⟨q2, _, rfl, h2, .inr (.inl rfl)⟩
  obtain rfl : v = 2 := by omega
  exact ⟨q3, _, rfl, h3, .inr (.inr rfl)⟩
def AskOk (n f : Int) (walk : List Rw) (ts : List Str) (ra : Rw) (place : Nat) : Prop := ra.wf ∧ (∀ r, PyData.eqv (rwD r) (rwD ra) = true → r = ra) ∧ ∃ val : Nat → Int, (∀ (i : Nat) (t : Str), (headR n f ++ walk)[i]? = some ra → ts[i]? = some t → AskTx t place (val i)) ∧
  ∀ i j : Nat, i ≤ j → (headR n f ++ walk)[i]? = some ra → (headR n f ++ walk)[j]? = some ra → val i ≤ val j
theorem askok_gate {n f : Int} {walk : List Rw} (W : Walk7 walk) {ts : List Str} (h : ∀ (i : Nat) (t : Str) (r : Rw), ts[i]? = some t → (headR n f ++ walk)[i]? = some r → (stt n f walk i).Told r t) : AskOk n f walk ts (.known "gate") 2 := by
  refine ⟨nm_gate, fun r hr => eqv_known hr, valK n f walk "gate" "a", fun i t hr ht => ask_gate W hr (h i t _ ht hr), fun i j hij hi hj => mono_k W hij rfl hi hj ?_⟩
  obtain ⟨j0, rfl, hj0⟩ := ask_row hi rfl
  exact (last_has W (Nat.le_of_lt (List.getElem?_eq_some_iff.mp hj0).1)).1
theorem askok_d {n f : Int} {walk : List Rw} (W : Walk7 walk) {ts : List Str} (h : ∀ (i : Nat) (t : Str) (r : Rw), ts[i]? = some t → (headR n f ++ walk)[i]? = some r → (stt n f walk i).Told r t) : AskOk n f walk ts (.known "d") 2 := by
  refine ⟨nm_d, fun r hr => eqv_known hr, valK n f walk "d" "ab", fun i t hr ht => ask_d W hr (h i t _ ht hr), fun i j hij hi hj => mono_k W hij rfl hi hj ?_⟩
  obtain ⟨j0, rfl, hj0⟩ := ask_row hi rfl
  exact (last_has W (Nat.le_of_lt (List.getElem?_eq_some_iff.mp hj0).1)).2
theorem askok_a {n f : Int} {walk : List Rw} (W : Walk7 walk) {ts : List Str} (h : ∀ (i : Nat) (t : Str) (r : Rw), ts[i]? = some t → (headR n f ++ walk)[i]? = some r → (stt n f walk i).Told r t) : AskOk n f walk ts (.now "a") 1 :=
  ⟨nm_a, fun r hr => eqv_now hr, valN n f walk "a", fun i t hr ht => ask_a W hr (h i t _ ht hr), fun i j hij hi hj => mono_n W hij rfl hi hj⟩
theorem last_at (l : List V) (x : V) : atI (l ++ [x]) (-1) = some x := by
  have e : ixN (l ++ [x]).length (-1) = some l.length := by
    unfold ixN
    rw [List.length_append]
    show (if -((l.length + 1 : Nat) : Int) ≤ -1 then some ((-1 : Int) + ((l.length + 1 : Nat) : Int)).toNat else none) = some l.length
    rw [if_pos (by omega)]
    congr 1
    omega
  unfold atI
  rw [e]
  show (l ++ [x])[l.length]? = some x
  rw [List.getElem?_append_right (Nat.le_refl _), Nat.sub_self] <;> rfl
/-- the law's def with its own function object -/
theorem fn_mk {x nm qual : Str} {st : Stmt} {N ps : List Str} {k : Nat} {sp : Sp} {fd : FuncData} (F : FunD K nm qual (defArgs st) (defBody st) (defScope st) [] [] (He.fAd K (x, none)) fd) (S : FnScope N ps (defScope st))
    (len : ∀ vs H Q E, sp vs H Q E → vs.length = ps.length)
    (hbody : ∀ (f : Addr) (cdv : Value) (A : Around) (outer : List Env) (s : Shared) (H : Hp) (vs : List V) (Q : VK) (E : XK), Room k (A.deeper (envOfC qual (defScope st) s.heap.objs.size f cdv)) → sp vs H Q E →
      ∃ t, PSs (cxOf CX0 P w K mg base N qual (defScope st) f cdv A outer s H E).nox (defBody st) t ∧ t { nx := fun _ H' => Q .non H', rt := Q } (start N vs) H) : FnOk P w K mg base CX0 (k + 1) (He.fAd K (x, none)) fd ps sp :=
  F.ok S len fun cdv A outer s H vs Q E hr h => by
    obtain ⟨t, h, q⟩ := hbody _ cdv A outer s H vs Q E hr h
    exact ⟨t, h.nox, q⟩
def spLaw (K : PySem.W.Frag) : Sp := fun vs H Q _ => ∃ (a : Addr) (ns : List Int), vs = [.ref a] ∧ SqL K H a (ns.map V.int) ∧ ns.length ≤ 63 ∧ ∀ H', Q (.bl true) H'
abbrev N_law : List Str := ["_law_script", "_law_cells", "_law_k", "_law_box_here", "_law_near", "_law_some", "_law_kept", "_law_turn", "_law_rows", "_law_answers", "_law_ask", "_law_place", "_law_row_here"]
theorem sc_law : FnScope N_law ["_law_script"] (defScope s_law) := ⟨rfl, rfl, rfl, by decide +kernel, rfl, by decide +kernel, by decide +kernel⟩
theorem c_law (T : Tx P w K mg base) {fd : FuncData} (F : FunD K d_law.name d_law.qual (defArgs s_law) (defBody s_law) (defScope s_law) [] [] (He.fAd K d_law.at_) fd) : FnOk P w K mg base CX0 11 (He.fAd K ("law", none)) fd ["_law_script"] (spLaw K) := by
  refine fn_mk (x := "law") F sc_law ?len (fun f cdv A outer s H vs Q E hr h => ?body)
  case len => walk_at "len"
  have nd := sc_law.nd
  refine ⟨_, (pss_cons (ps_set (i := 1) nd rfl (Or.inl rfl) (pe_c (c_lFolded T) (hr.mono (by decide)) (pa_cons (pv 0) (pa_cons pe_int pa_nil))))
    (pss_cons (ps_for PassesOwn.never rfl (pi_range1 rfl T.f_range (pa_cons (pe_callB (call_max2 rfl) (by rfl) T.f_max (by decide +kernel) (pa_cons pe_int (pa_cons (pe_callB call_len_seq (by rfl) T.f_len (by decide +kernel) (pa_cons (pv 1) pa_nil)) pa_nil))) pa_nil)) (pg_name (i := 2) nd rfl (Or.inl rfl))
    (pss_cons (ps_set (i := 3) nd rfl (Or.inl rfl) (pe_c (c_lBox T) (hr.mono (by decide)) (pa_cons (pv 1) (pa_cons (pv 2) pa_nil))))
    (pss_cons (ps_set (i := 4) nd rfl (Or.inl rfl) (pe_op op_add pe_int (pe_c (c_lTake T) (hr.mono (by decide)) (pa_cons (pv 3) (pa_cons pe_int pa_nil)))))
    (pss_cons (ps_set (i := 5) nd rfl (Or.inl rfl) (pe_lst (pa_cons (pe_tup (pa_cons pe_str (pa_cons pe_str (pa_cons (pv 4) (pa_cons (pe_op op_add (pv 4) (pe_c (c_lTake T) (hr.mono (by decide)) (pa_cons (pv 3) (pa_cons pe_int pa_nil)))) (pa_cons pe_int pa_nil)))))) (pa_cons (pe_tup (pa_cons pe_str (pa_cons pe_str (pa_cons pe_int (pa_cons pe_int (pa_cons pe_int pa_nil)))))) (pa_cons (pe_tup (pa_cons pe_str (pa_cons pe_str (pa_cons pe_int pa_nil)))) pa_nil)))))
    (pss_cons (ps_set (i := 5) nd rfl (Or.inl rfl) (pe_op op_cat (pv 5) (pe_lst (pa_cons (pe_tup (pa_cons pe_str (pa_cons pe_str (pa_cons pe_int pa_nil)))) (pa_cons (pe_tup (pa_cons pe_str (pa_cons pe_str (pa_cons pe_str pa_nil)))) (pa_cons (pe_tup (pa_cons pe_str (pa_cons pe_str (pa_cons pe_str pa_nil)))) (pa_cons (pe_tup (pa_cons pe_str (pa_cons pe_str (pa_cons pe_str pa_nil)))) pa_nil)))))))
    (pss_cons (ps_set (i := 6) nd rfl (Or.inl rfl) pe_int)
    (pss_cons (ps_for PassesOwn.never rfl (pi_range1 rfl T.f_range (pa_cons (pe_op op_add pe_int (pe_c (c_lTake T) (hr.mono (by decide)) (pa_cons (pv 3) (pa_cons pe_int pa_nil)))) pa_nil)) (pg_name (i := 7) nd rfl (Or.inl rfl))
    (pss_cons (ps_expr (pe_bm PySem.F.plainAttrs_list PySem.F.slot_list_append PySem.F.type_list_append mt_append (pv 5) (pa_cons (pe_c (c_lWalkRow T) (hr.mono (by decide)) (pa_cons (pv 3) (pa_cons (pv 6) pa_nil))) pa_nil)))
    (pss_cons (ps_set (i := 6) nd rfl (Or.inl rfl) (pe_op op_add (pv 6) (pe_callTy (T := "int") call_int1 (by rfl) T.f_int (by decide +kernel) (pa_cons (pe_cmpR op_eq (pe_ix ix_tup (pe_ix ix_list (pv 5) (pe_un un_neg pe_int) (fun _ _ => rfl)) pe_int (fun _ _ => rfl)) pe_str (nomark _)) pa_nil))))
    (pss_one (ps_expr (pe_bm PySem.F.plainAttrs_list PySem.F.slot_list_append PySem.F.type_list_append mt_append (pv 5) (pa_cons (pe_ix ix_list (pe_lst (pa_cons (pe_tup (pa_cons pe_str (pa_cons pe_str pa_nil))) (pa_cons (pe_tup (pa_cons pe_str (pa_cons pe_str pa_nil))) (pa_cons (pe_tup (pa_cons pe_str (pa_cons pe_str pa_nil))) pa_nil)))) (pe_c (c_lTake T) (hr.mono (by decide)) (pa_cons (pv 3) (pa_cons pe_int pa_nil))) (fun _ _ => rfl)) pa_nil)))))))
    (pss_cons (ps_set (i := 8) nd rfl (Or.inl rfl) (pe_op op_cat (pe_lst (pa_cons (pe_c (c_lWords T) (hr.mono (by decide)) (pa_cons (pe_op op_catA (pe_tup (pa_cons pe_str pa_nil)) (pe_c (c_lHead T) (hr.mono (by decide)) (pa_cons (pv 3) pa_nil))) pa_nil)) pa_nil)) (pe_lc (own := [("_law_row_here", 12)]) (g := gName 12) (tt := tYes) rfl nd (pi_list (pv 5)) (blkOk_by (own := [("_law_row_here", 12)]) (N := N_law) (sc := defScope s_law) (by decide +kernel)) (fun _ _ _ _ _ => (pg_name (i := 12) nd rfl (Or.inl rfl))) (fun _ _ _ _ _ => pts_nil) (fun _ _ _ _ _ => (pe_c (c_lWords T) (hr.mono (by decide)) (pa_cons (pv 12) pa_nil))))))
    (pss_cons (ps_set (i := 9) nd rfl (Or.inl rfl) (pe_c (c_run T) (hr.mono (by decide)) (pa_cons (pe_join pe_str (pv 8)) pa_nil)))
    (pss_cons (ps_if (PW.pt (pw_or (pt_cmpR op_ne (pe_callB call_len_seq (by rfl) T.f_len (by decide +kernel) (pa_cons (pv 9) pa_nil)) (pe_callB call_len_seq (by rfl) T.f_len (by decide +kernel) (pa_cons (pv 5) pa_nil)) (nomark _)) (pw_or1 (pt_not (pt_val (pe_c (c_lWalked T) (hr.mono (by decide)) (pa_cons (pv 5) (pa_cons (pv 9) (pa_cons (pe_op op_rep (pe_lst (pa_cons pe_int pa_nil)) pe_int) pa_nil))))))))) (pss_one (ps_ret pe_bl)) pss_nil)
    (pss_one (ps_for PassesOwn.never rfl (pi_tup (pe_tup (pa_cons (pe_tup (pa_cons (pe_tup (pa_cons pe_str (pa_cons pe_str pa_nil))) (pa_cons pe_int pa_nil))) (pa_cons (pe_tup (pa_cons (pe_tup (pa_cons pe_str (pa_cons pe_str pa_nil))) (pa_cons pe_int pa_nil))) (pa_cons (pe_tup (pa_cons (pe_tup (pa_cons pe_str (pa_cons pe_str pa_nil))) (pa_cons pe_int pa_nil))) pa_nil))))) (pg_tup rfl (pgs_cons (pg_name (i := 10) nd rfl (Or.inl rfl)) (pgs_cons (pg_name (i := 11) nd rfl (Or.inl rfl)) pgs_nil)))
    (pss_one (ps_if (pt_not (pt_val (pe_c (c_lNeverFalls T) (hr.mono (by decide)) (pa_cons (pv 5) (pa_cons (pv 9) (pa_cons (pv 10) (pa_cons (pv 11) pa_nil))))))) (pss_one (ps_ret pe_bl)) pss_nil))))))))))))))
    (pss_one (ps_ret pe_bl)))), ?_⟩
  obtain ⟨a, ns, rfl, ha, hl, q⟩ := h
  refine ⟨_, rfl, a, ns, rfl, ha, hl, fun b ms H1 s1 hb0 hb1 hml => ?_⟩
  refine ⟨_, rfl, _, _, rfl, Or.inl (SqL.of hb1), _, _, rfl, ?_⟩
  refine ⟨_, rfl, ?lo, ?hi, for_range0 (fun i σ H' => ∃ (v2 v3 v4 v5 v6 v7 v8 v9 v10 v11 v12 : Option V), σ = [some (.ref a), some (.ref b), v2, v3, v4, v5, v6, v7, v8, v9, v10, v11, v12] ∧ H' b = some (.lst (ms.map V.int))) ⟨none, none, none, none, none, none, none, none, none, none, none, rfl, hb1⟩ (fun i σ H2 hi g => ?_) (fun σ H2 g => ?_)⟩
  case lo => split <;> omega
  case hi =>
    rw [List.length_map]
    split <;> omega
  · obtain ⟨v2, v3, v4, v5, v6, v7, v8, v9, v10, v11, v12, rfl, hb2⟩ := g
    refine ⟨_, rfl, _, rfl, b, ms, i, rfl, SqL.of hb2, fun bx H3 s3 hx0 hbx => ?_⟩
    have nbx : b ≠ bx := ne_of_none hb2 hx0
    have hb3 := s3 _ _ hb2
    clear s3 hx0 hb2 hb1 hb0 s1
    refine ⟨_, rfl, bx, 4, rfl, hbx, by decide, by decide, fun r0 H4 r00 r01 f4 hbx4 => ⟨_, _, rfl, rfl, ?_⟩⟩
    have hb4 := f4 _ _ hb3 nbx
    clear f4 hbx
    refine ⟨_, rfl, _, rfl, _, rfl, bx, 5, rfl, hbx4, by decide, by decide, fun r1 H5 r10 r11 f5 hbx5 => ⟨_, _, rfl, rfl, ?_⟩⟩
    have hb5 := f5 _ _ hb4 nbx
    clear f5 hbx4
    have hn : 1 ≤ 1 + r0 ∧ 1 + r0 ≤ 64 := by omega
    have hf : 1 + r0 ≤ 1 + r0 + r1 ∧ 1 + r0 + r1 ≤ 1024 := by omega
    refine ⟨(by show 5 ≤ sizeLine; decide), fun t1 h1 => ?_⟩
    generalize e1 : upd H5 t1 _ = G1
    have u1 : Same H5 G1 := by rw [← e1]; exact same_new h1
    have k1 : G1 t1 = some (.tup [.str "door", .str "gate", .int (1 + r0), .int (1 + r0 + r1), .int 2]) := by rw [← e1]; exact upd_same
    clear e1 h1
    refine ⟨(by show 5 ≤ sizeLine; decide), fun t2 h2 => ?_⟩
    generalize e2 : upd G1 t2 _ = G2
    have u2 : Same G1 G2 := by rw [← e2]; exact same_new h2
    have k2 : G2 t2 = some (.tup [.str "door", .str "d", .int 3, .int 9, .int 1]) := by rw [← e2]; exact upd_same
    clear e2 h2
    refine ⟨(by show 3 ≤ sizeLine; decide), fun t3 h3 => ?_⟩
    generalize e3 : upd G2 t3 _ = G3
    have u3 : Same G2 G3 := by rw [← e3]; exact same_new h3
    have k3 : G3 t3 = some (.tup [.str "button", .str "a", .int 3]) := by rw [← e3]; exact upd_same
    clear e3 h3
    refine ⟨(by show 3 ≤ sizeLine; decide), fun t4 h4 => ?_⟩
    generalize e4 : upd G3 t4 _ = G4
    have u4 : Same G3 G4 := by rw [← e4]; exact same_new h4
    have k4 : G4 t4 = some (.lst [.ref t1, .ref t2, .ref t3]) := by rw [← e4]; exact upd_same
    clear e4 h4
    refine ⟨_, rfl, ?_⟩
    refine ⟨(by show 3 ≤ sizeLine; decide), fun t5 h5 => ?_⟩
    generalize e5 : upd G4 t5 _ = G5
    have u5 : Same G4 G5 := by rw [← e5]; exact same_new h5
    have k5 : G5 t5 = some (.tup [.str "button", .str "ab", .int 1]) := by rw [← e5]; exact upd_same
    clear e5 h5
    refine ⟨(by show 3 ≤ sizeLine; decide), fun t6 h6 => ?_⟩
    generalize e6 : upd G5 t6 _ = G6
    have u6 : Same G5 G6 := by rw [← e6]; exact same_new h6
    have k6 : G6 t6 = some (.tup [.str "teach", .str "gate", .str "a"]) := by rw [← e6]; exact upd_same
    clear e6 h6
    refine ⟨(by show 3 ≤ sizeLine; decide), fun t7 h7 => ?_⟩
    generalize e7 : upd G6 t7 _ = G7
    have u7 : Same G6 G7 := by rw [← e7]; exact same_new h7
    have k7 : G7 t7 = some (.tup [.str "teach", .str "d", .str "ab"]) := by rw [← e7]; exact upd_same
    clear e7 h7
    refine ⟨(by show 3 ≤ sizeLine; decide), fun t8 h8 => ?_⟩
    generalize e8 : upd G7 t8 _ = G8
    have u8 : Same G7 G8 := by rw [← e8]; exact same_new h8
    have k8 : G8 t8 = some (.tup [.str "teach", .str "gate", .str "ab"]) := by rw [← e8]; exact upd_same
    clear e8 h8
    refine ⟨(by show 4 ≤ sizeLine; decide), fun t9 h9 => ?_⟩
    generalize e9 : upd G8 t9 _ = G9
    have u9 : Same G8 G9 := by rw [← e9]; exact same_new h9
    have k9 : G9 t9 = some (.lst [.ref t5, .ref t6, .ref t7, .ref t8]) := by rw [← e9]; exact upd_same
    clear e9 h9
    have u49 := u5.trans (u6.trans (u7.trans (u8.trans u9)))
    refine ⟨t4, t9, _, _, rfl, rfl, u49 _ _ k4, k9, (by show 7 ≤ sizeLine; decide), fun sm hsm => ?_⟩
    generalize e10 : upd G9 sm _ = G
    have u10 : Same G9 G := by rw [← e10]; exact same_new hsm
    have ksm : G sm = some (.lst (([t1, t2, t3, t5, t6, t7, t8] : List Addr).map V.ref)) := by rw [← e10]; exact upd_same
    clear e10
    have u59 := (u1.trans (u2.trans (u3.trans u4))).trans u49
    have nsb : sm ≠ bx := box_new (hbx5.same u59) hsm
    have hbx : BoxAt G bx := hbx5.same (u59.trans u10)
    have nbs : b ≠ sm := ne_of_none (u59 _ _ hb5) hsm
    have hbG := u10 _ _ (u59 _ _ hb5)
    have rows7 : RowsV G [t1, t2, t3, t5, t6, t7, t8] (headR (1 + r0) (1 + r0 + r1) ++ []) := by
      have g1 := u10 _ _ (u49 _ _ ((u2.trans (u3.trans u4)) _ _ k1))
      have g2 := u10 _ _ (u49 _ _ ((u3.trans u4) _ _ k2))
      have g3 := u10 _ _ (u49 _ _ (u4 _ _ k3))
      have g5 := u10 _ _ ((u6.trans (u7.trans (u8.trans u9))) _ _ k5)
      have g6 := u10 _ _ ((u7.trans (u8.trans u9)) _ _ k6)
      have g7 := u10 _ _ ((u8.trans u9) _ _ k7)
      have g8 := u10 _ _ (u9 _ _ k8)
      have step := fun {as : List Addr} {rs : List Rw} {x : Addr} (r : Rw) (h : RowsV G as rs) (hx : RowV G x r) => rows_snoc h hx
      exact step (.teach "gate" "ab") (step (.teach "d" "ab") (step (.teach "gate" "a") (step (.button "ab" 1) (step (.button "a" 3) (step (.door "d" 3 9 1) (step (.door "gate" _ _ 2) rows_nil g1) g2) g3) g5) g6) g7) g8
    clear u10 u59 u49 u1 u2 u3 u4 u5 u6 u7 u8 u9 k1 k2 k3 k4 k5 k6 k7 k8 k9 hbx5 hsm hb5
    generalize hN : 1 + r0 = n at hn hf rows7 ⊢
    generalize hF : n + r1 = f7 at hf rows7 ⊢
    generalize [t1, t2, t3, t5, t6, t7, t8] = as0 at ksm rows7
    clear hN hF
    refine ⟨_, rfl, bx, 21, rfl, hbx, by decide, by decide, fun rt G2 rt0 rt1 fG hbx2 => ⟨_, _, rfl, rfl, ?_⟩⟩
    have ksm2 := fG _ _ ksm nsb
    have hbG2 := fG _ _ hbG nbx
    have rows72 := rows7.tk (fG.tk hbx)
    clear fG ksm hbG rows7 hbx
    refine ⟨_, rfl, (by omega), (by omega), for_range0 (fun j σ H' => ∃ (as : List Addr) (walk : List Rw) (v4 v7 v8 v9 v10 v11 v12 : Option V), σ = [some (.ref a), some (.ref b), some (.int (i : Nat)), some (.ref bx), v4, some (.ref sm), some (.int (6 + pcnt walk : Nat)), v7, v8, v9, v10, v11, v12] ∧
      H' b = some (.lst (ms.map V.int)) ∧ BoxAt H' bx ∧ H' sm = some (.lst (as.map V.ref)) ∧ RowsV H' as (headR n f7 ++ walk) ∧ walk.length = 2 * j ∧ ∀ i x, walk[i]? = some x → LawR (6 + pcnt (walk.take i)) x) ⟨as0, [], _, _, _, _, _, _, _, rfl, hbG2, hbx2, ksm2, rows72, rfl, fun i x h => by cases h⟩ (fun j σ H2 hj g => ?_) (fun σ H2 g => ?_)⟩
    · obtain ⟨as, walk, v4, v7, v8, v9, v10, v11, v12, rfl, hb2, hbx2, ksm2, hrows, hwl, hlw⟩ := g
      have hjj : j ≤ 29 := by omega
      have hpc := pcnt_le walk
      have hal := hrows.1
      rw [List.length_append] at hal
      have hal : as.length = 7 + walk.length := hal
      refine ⟨_, rfl, Or.inl ⟨rfl, _, SqL.of ksm2⟩, _, rfl, _, rfl, bx, 6 + pcnt walk, rfl, hbx2, by omega, by omega, fun x r H3 f3 hbx3 hx hwr => ?_⟩
      have ksm3 := f3 _ _ ksm2 nsb
      have hb3 := f3 _ _ hb2 nbx
      have hrows3 := hrows.tk (f3.tk hbx2)
      refine ⟨sm, _, _, rfl, rfl, ksm3, (by rw [List.length_map]; exact sz_lt (by omega)), ?_⟩
      have nst : ∀ {c : Addr} {xs : List V}, H3 c = some (.tup xs) → c ≠ sm := fun h e => by rw [e, ksm3] at h; cases h
      generalize e4 : upd H3 sm _ = H4
      have tk4 : TupK H3 H4 := fun c xs h => by rw [← e4, upd_ne (nst h)]; exact h
      have ksm4 : H4 sm = some (.lst (as.map V.ref ++ [V.ref x])) := by rw [← e4]; exact upd_same
      have hb4 : H4 b = some (.lst (ms.map V.int)) := by rw [← e4, upd_ne nbs]; exact hb3
      have hbx4 : BoxAt H4 bx := by rw [← e4]; exact box_upd hbx3 nsb
      clear e4
      have hx4 := hx.tk tk4
      have hrows4 := rows_snoc (hrows3.tk tk4) hx4
      obtain ⟨ws, hws⟩ := hx4.tup
      refine ⟨_, rfl, _, rfl, _, rfl, sm, _, _, V.ref x, rfl, rfl, SqL.of ksm4, last_at _ _, x, _, _, V.str r.word, rfl, rfl, SqT.of hws, at_of (j := 0) rfl rfl, ?_⟩
      have epr : ∀ (b1 : Bool), b1 = decide (V.str r.word = V.str "press") → (if b1 = true then (1 : Int) else 0) = if r.isP = true then 1 else 0 := fun b1 hb1 => by
        cases hp : r.isP with
        | true =>
          have hw : r.word = "press" := by
            cases r with
            | press z d ds => rfl
            | _ => cases hp
          rw [hb1, hw, decide_eq_true rfl]
        | false =>
          have hw : r.word ≠ "press" := word_press fun z d ds e => by rw [e] at hp; cases hp
          rw [hb1, decide_eq_false (fun e => hw (V.str.inj e))]
      refine ⟨rfl, Or.inr ⟨_, rfl, _, _, rfl, rfl, ?_⟩⟩
      refine ⟨_, rfl, Or.inl ⟨rfl, _, SqL.of ksm4⟩, (by show 2 ≤ sizeLine; decide), fun q1 p1 => ⟨(by show 2 ≤ sizeLine; decide), fun q2 p2 => ⟨(by show 2 ≤ sizeLine; decide), fun q3 p3 => ⟨(by show 3 ≤ sizeLine; decide), fun q4 p4 => ?_⟩⟩⟩⟩
      generalize e5 : upd (upd (upd (upd H4 q1 _) q2 _) q3 _) q4 _ = H5
      have n1 := same_new (o := .tup [.str "known", .str "gate"]) p1
      have n2 := same_new (o := .tup [.str "now", .str "a"]) p2
      have n3 := same_new (o := .tup [.str "known", .str "d"]) p3
      have n4 := same_new (o := .lst [.ref q1, .ref q2, .ref q3]) p4
      have s45 : Same H4 H5 := by rw [← e5]; exact n1.trans (n2.trans (n3.trans n4))
      have a1 : RowV H5 q1 (.known "gate") := by rw [← e5]; exact (n2.trans (n3.trans n4)) _ _ upd_same
      have a2 : RowV H5 q2 (.now "a") := by rw [← e5]; exact (n3.trans n4) _ _ upd_same
      have a3 : RowV H5 q3 (.known "d") := by rw [← e5]; exact n4 _ _ upd_same
      have a4 : H5 q4 = some (.lst [.ref q1, .ref q2, .ref q3]) := by rw [← e5]; exact upd_same
      clear e5 n1 n2 n3 n4 p1 p2 p3
      have hbx5 := hbx4.same s45
      refine ⟨_, rfl, bx, 3, rfl, hbx5, by decide, by decide, fun v H6 v0 v1 f6 hbx6 => ?_⟩
      have n4b : q4 ≠ bx := fun e => by
        obtain ⟨y0, y1, y2, hy, _⟩ := hbx5
        rw [← e, a4] at hy
        have := List.head_eq_of_cons_eq (HO.lst.inj (Option.some.inj hy))
        cases this
      have tk6 := f6.tk hbx5
      obtain ⟨xq, q', hat, hxq, hq⟩ := ask3 (a1.tk tk6) (a2.tk tk6) (a3.tk tk6) v0 v1
      have ksm6 := f6 _ _ (s45 _ _ ksm4) nsb
      have hb6 := f6 _ _ (s45 _ _ hb4) nbx
      have hrows6 := (hrows4.tk (.of s45)).tk tk6
      obtain ⟨g1, g2, g3⟩ := walk_grow hwl hlw hwr hq
      refine ⟨q4, _, _, V.ref xq, rfl, rfl, SqL.of (f6 _ _ a4 n4b), hat, sm, _, _, rfl, rfl, ksm6, (by rw [List.length_append, List.length_map]; exact sz_lt (by show as.length + 1 < 100000; omega)), ?_⟩
      have nst6 : ∀ {c : Addr} {xs : List V}, H6 c = some (.tup xs) → c ≠ sm := fun h e => by rw [e, ksm6] at h; cases h
      generalize e7 : upd H6 sm _ = H7
      have tk7 : TupK H6 H7 := fun c xs h => by rw [← e7, upd_ne (nst6 h)]; exact h
      have ksm7 : H7 sm = some (.lst (((as ++ [x]) ++ [xq]).map V.ref)) := by rw [← e7, upd_same, List.map_append, List.map_append] <;> rfl
      have hb7 : H7 b = some (.lst (ms.map V.int)) := by rw [← e7, upd_ne nbs]; exact hb6
      have hbx7 : BoxAt H7 bx := by rw [← e7]; exact box_upd hbx6 nsb
      clear e7
      have hrows7 := rows_snoc (hrows6.tk tk7) (hxq.tk tk7)
      rw [show ((headR n f7 ++ walk) ++ [r]) ++ [q'] = headR n f7 ++ (walk ++ [r, q']) by rw [List.append_assoc, List.append_assoc] <;> rfl] at hrows7
      refine ⟨_, walk ++ [r, q'], v4, some (.int (j : Nat)), v8, v9, v10, v11, v12, ?_, hb7, hbx7, ksm7, hrows7, g1, g2⟩
      have e6 : ((6 + pcnt (walk ++ [r, q']) : Nat) : Int) = ((6 + pcnt walk : Nat) : Int) + if r.isP = true then 1 else 0 := by
        rw [g3]
        split <;> omega
      rw [e6, ← epr _ rfl]
      rfl
    · obtain ⟨as, walk, v4, v7, v8, v9, v10, v11, v12, rfl, hb2, hbx2, ksm2, hrows, hwl, hlw⟩ := g
      have W : Walk7 walk := ⟨hlw, by omega⟩
      have hal := hrows.1
      have hrl : (headR n f7 ++ walk).length = 7 + walk.length := by rw [List.length_append] <;> rfl
      have hwall := all_wf W hn hf
      refine ⟨(by show 1 ≤ sizeLine; decide), fun th hth => ?_⟩
      have s3 : ∀ o, Same H2 (upd H2 th o) := fun o => same_new hth
      refine ⟨_, rfl, bx, rfl, hbx2.same (s3 _), fun hq ht hk tab key H3 f3 hbx3 k1 k2 k3 itb iky => ?_⟩
      have kth := f3 _ _ (upd_same (H := H2) (a := th)) (box_new hbx2 hth)
      have ksm3 := f3 _ _ (s3 _ _ _ ksm2) nsb
      have hb3 := f3 _ _ (s3 _ _ _ hb2) nbx
      have hrows3 := (hrows.tk (.of (s3 _))).tk (f3.tk (hbx2.same (s3 _)))
      refine ⟨th, hq, _, _, rfl, rfl, SqT.of kth, SqT.of k1, (by show 3 ≤ sizeLine; decide), (fun e => by cases e), (fun _ e => by cases e), fun _ _ hw hhw => ?_⟩
      generalize e4 : upd H3 hw _ = H4
      have s4 : Same H3 H4 := by rw [← e4]; exact same_new hhw
      have khw : RowV H4 hw (.house tab key) := ⟨ht, hk, by rw [← e4]; exact upd_same, s4 _ _ k2, s4 _ _ k3⟩
      clear e4
      refine ⟨hw, _, rfl, khw, ⟨itb, iky⟩, fun H5 s5 => ?_⟩
      refine ⟨(by show 1 ≤ sizeLine; decide), fun l1 hl1 => ?_⟩
      have s6 : ∀ o, Same H5 (upd H5 l1 o) := fun o => same_new hl1
      generalize e6 : upd H5 l1 _ = H6
      have s36 : Same H3 H6 := by rw [← e6]; exact s4.trans (s5.trans (s6 _))
      have kl1 : H6 l1 = some (.lst [.str (rowTx (.house tab key))]) := by rw [← e6]; exact upd_same
      clear e6
      have ksm6 := s36 _ _ ksm3
      have hb6 := s36 _ _ hb3
      have hrows6 := hrows3.tk (.of s36)
      refine ⟨_, rfl, sm, rfl, ⟨_, SqL.of ksm6⟩, fun D hD => lcm_list (SqL.of ksm6) hD (by rw [List.length_map]; omega) (fun _ => rfl) (fun i => V.str (((headR n f7 ++ walk).map rowTx).getD i "")) (fun k x H7 hk s7 Q2 kk => ?_) (fun H7 s7 h7 => ?_)⟩
      · obtain ⟨y, hy, rfl⟩ := map_get hk
        obtain ⟨r, hr⟩ : ∃ r, (headR n f7 ++ walk)[k]? = some r := ⟨_, List.getElem?_eq_getElem (by
          have := (List.getElem?_eq_some_iff.mp hy).1
          rw [hrows6.1] at this
          exact this)⟩
        have e : ((headR n f7 ++ walk).map rowTx).getD k "" = rowTx r := by rw [List.getD, List.getElem?_map, hr] <;> rfl
        rw [e] at kk
        exact ⟨_, rfl, y, r, rfl, (hrows6.2 k y r hy hr).tk (.of s7), (hwall r (List.mem_of_getElem? hr)).1, fun H8 s8 => kk H8 s8⟩
      have hD7 : H7 D = some (.lst (((headR n f7 ++ walk).map rowTx).map V.str)) := by
        rw [h7, List.length_map, hrows6.1]
        have e := rng_get ((headR n f7 ++ walk).map rowTx) ("" : Str)
        rw [List.length_map] at e
        congr 2
        conv => rhs; rw [← e]
        rw [List.map_map] <;> rfl
      refine ⟨l1, D, _, _, rfl, rfl, s7 _ _ kl1, hD7, (by
        rw [List.length_map, List.length_map, hrl]
        exact sz_of (by show 1 + (7 + walk.length) ≤ 100000; omega)), fun lr hlr => ?_⟩
      generalize e8 : upd H7 lr _ = H8
      have s8 : Same H7 H8 := by rw [← e8]; exact same_new hlr
      have klr : H8 lr = some (.lst (((.house tab key :: (headR n f7 ++ walk)).map rowTx).map V.str)) := by rw [← e8]; exact upd_same
      clear e8
      have s68 := s7.trans s8
      have hS := law_sheet W hn hf itb iky
      refine ⟨⟨_, rfl⟩, _, rfl, _, _, (.house tab key :: (headR n f7 ++ walk)).map rowTx, rfl, rfl, Or.inl (SqL.of klr), ?_, ?_⟩
      · have h2 := sum_le (l := ((.house tab key :: (headR n f7 ++ walk)).map rowTx).map (·.length)) (k := 1000) (fun x hx => by
          obtain ⟨y, hy, rfl⟩ := List.mem_map.mp hx
          obtain ⟨r, hr, rfl⟩ := List.mem_map.mp hy
          exact hS.sz r hr)
        have h3 := hS.len
        have h4 : ("\n" : Str).length = 1 := rfl
        rw [List.length_map, List.length_map] at h2
        rw [h4, List.length_map]
        omega
      refine ⟨tab, key, headR n f7 ++ walk, rfl, hS, rows_ok W, fun an ts H9 s9 han htl htold => ?_⟩
      have s69 := s68.trans s9
      have ksm9 := s69 _ _ ksm6
      have hrows9 := hrows6.tk (.of s69)
      have hb9 := s69 _ _ hb6
      clear ksm6 hrows6 hb6 ksm3 hb3 hrows3
      refine ⟨_, rfl, _, _, rfl, Or.inr (SqT.of han), _, rfl, _, _, rfl, Or.inl (SqL.of ksm9), rfl, _, rfl, ?_⟩
      refine ifnD (by rw [List.length_map, List.length_map, htl, hrows9.1] <;> rfl) ?_
      refine ⟨_, rfl, _, rfl, (by show 1 ≤ sizeLine; decide), fun l0 hl0 => ⟨l0, _, _, rfl, rfl, upd_same, by decide, by decide, by decide, fun de hde => ?_⟩⟩
      have s10 : ∀ o2, Same H9 (upd (upd H9 l0 (.lst [.int 0])) de o2) := fun o2 => (same_new hl0).trans (same_new hde)
      have nde : sm ≠ de := ne_of_none (same_new hl0 _ _ ksm9) hde
      have nbde : b ≠ de := ne_of_none (same_new hl0 _ _ hb9) hde
      refine ⟨sm, an, de, as, ts, n, f7, walk, rfl, s10 _ _ _ ksm9, s10 _ _ _ han, upd_same, nde, hrows9.tk (.of (s10 _)), W, htl, htold, fun H11 f11 => ?_⟩
      have ksm11 := f11 _ _ (s10 _ _ _ ksm9) nde
      have hb11 := f11 _ _ (s10 _ _ _ hb9) nbde
      have tk11 : TupK H9 H11 := fun c xs hc => f11 _ _ (s10 _ _ _ hc) (ne_of_none (same_new hl0 _ _ hc) hde)
      have han11 := tk11 _ _ han
      have hrows11 := hrows9.tk tk11
      refine ⟨_, rfl, ?_⟩
      refine ifF rfl ?_
      refine ⟨(by show 2 ≤ sizeLine; decide), fun x1 hx1 => ⟨(by show 2 ≤ sizeLine; decide), fun y1 hy1 => ⟨(by show 2 ≤ sizeLine; decide), fun x2 hx2 => ⟨(by show 2 ≤ sizeLine; decide), fun y2 hy2 => ⟨(by show 2 ≤ sizeLine; decide), fun x3 hx3 => ⟨(by show 2 ≤ sizeLine; decide), fun y3 hy3 => ⟨(by show 3 ≤ sizeLine; decide), fun tt htt => ?_⟩⟩⟩⟩⟩⟩⟩
      generalize e12 : upd (upd (upd (upd (upd (upd (upd H11 x1 _) y1 _) x2 _) y2 _) x3 _) y3 _) tt _ = H12
      have n1 := same_new (o := .tup [.str "known", .str "gate"]) hx1
      have n2 := same_new (o := .tup [.ref x1, .int 2]) hy1
      have n3 := same_new (o := .tup [.str "known", .str "d"]) hx2
      have n4 := same_new (o := .tup [.ref x2, .int 2]) hy2
      have n5 := same_new (o := .tup [.str "now", .str "a"]) hx3
      have n6 := same_new (o := .tup [.ref x3, .int 1]) hy3
      have n7 := same_new (o := .tup [.ref y1, .ref y2, .ref y3]) htt
      have n67 := n6.trans n7
      have n57 := n5.trans n67
      have n47 := n4.trans n57
      have n37 := n3.trans n47
      have n27 := n2.trans n37
      have s12 : Same H11 H12 := by rw [← e12]; exact n1.trans n27
      have a1 : RowV H12 x1 (.known "gate") := by rw [← e12]; exact n27 _ _ upd_same
      have b1 : H12 y1 = some (.tup [.ref x1, .int (2 : Nat)]) := by rw [← e12]; exact n37 _ _ upd_same
      have a2 : RowV H12 x2 (.known "d") := by rw [← e12]; exact n47 _ _ upd_same
      have b2 : H12 y2 = some (.tup [.ref x2, .int (2 : Nat)]) := by rw [← e12]; exact n57 _ _ upd_same
      have a3 : RowV H12 x3 (.now "a") := by rw [← e12]; exact n67 _ _ upd_same
      have b3 : H12 y3 = some (.tup [.ref x3, .int (1 : Nat)]) := by rw [← e12]; exact n7 _ _ upd_same
      have ht12 : H12 tt = some (.tup [.ref y1, .ref y2, .ref y3]) := by rw [← e12]; exact upd_same
      clear e12 n1 n2 n3 n4 n5 n6 n7 n67 n57 n47 n37 n27
      have asks : ∀ (k : Nat) (x : V), [V.ref y1, V.ref y2, V.ref y3][k]? = some x → ∃ (yk xk : Addr) (ra : Rw) (place : Nat), x = .ref yk ∧ H12 yk = some (.tup [.ref xk, .int place]) ∧ RowV H12 xk ra ∧ AskOk n f7 walk ts ra place := fun k x hk => by
        match k, hk with
        | 0, hk => exact ⟨y1, x1, _, 2, (Option.some.inj hk).symm, b1, a1, askok_gate W htold⟩
        | 1, hk => exact ⟨y2, x2, _, 2, (Option.some.inj hk).symm, b2, a2, askok_d W htold⟩
        | 2, hk => exact ⟨y3, x3, _, 1, (Option.some.inj hk).symm, b3, a3, askok_a W htold⟩
      have ksm12 := s12 _ _ ksm11
      have han12 := s12 _ _ han11
      have hb12 := s12 _ _ hb11
      have hrows12 := hrows11.tk (.of s12)
      refine ⟨tt, rfl, ⟨_, SqT.of ht12⟩, for_tup (xs := [V.ref y1, V.ref y2, V.ref y3]) (fun k σ H' => ∃ (v4 v6 v7 v8 v10 v11 v12 : Option V), σ = [some (.ref a), some (.ref b), some (.int (i : Nat)), some (.ref bx), v4, some (.ref sm), v6, v7, v8, some (.ref an), v10, v11, v12] ∧ Same H12 H') ⟨_, _, _, _, _, _, _, rfl, Same.refl _⟩ (fun k σ H' _ p => ?_) (fun k x σ H' hk p => ?_) (fun σ H' p => ?_)⟩
      · obtain ⟨_, _, _, _, _, _, _, _, s⟩ := p
        exact SqT.of (s _ _ ht12)
      · obtain ⟨v4, v6, v7, v8, v10, v11, v12, rfl, s⟩ := p
        obtain ⟨yk, xk, ra, place, rfl, hy, hx, hwa, heq, val, hask, hmono⟩ := asks k x hk
        refine ⟨yk, _, rfl, SqT.of (s _ _ hy), rfl, _, _, rfl, _, _, rfl, rfl, ?_⟩
        refine ⟨_, rfl, _, rfl, _, rfl, _, rfl, sm, an, xk, as, ts, _, ra, place, val, rfl, s _ _ ksm12, s _ _ han12, hrows12.tk (.of s), hx.tk (.of s), fun r hr => (hwall r hr).1, hwa, htl, heq, hask, hmono, fun H13 s13 => ?_⟩
        refine ⟨_, rfl, ?_⟩
        refine ifF rfl ?_
        exact ⟨_, _, _, _, _, _, _, rfl, s.trans s13⟩
      · obtain ⟨v4, v6, v7, v8, v10, v11, v12, rfl, s⟩ := p
        exact ⟨_, _, _, _, _, _, _, _, _, _, _, rfl, s _ _ hb12⟩
  · obtain ⟨v2, v3, v4, v5, v6, v7, v8, v9, v10, v11, v12, rfl, hb2⟩ := g
    exact q H2
end
end K69
end
section
set_option Elab.async false
set_option linter.all false
set_option maxRecDepth 100000
set_option maxHeartbeats 0
namespace K69
open PySem PySem.Spec PyProof.Rows L2
theorem facts {P : Program} {w : World} {K : PySem.W.Frag} {h : Heap} {mg : Str → Option Value} {f : Addr} (X : K.In h) (G : h.Ns mainGlobals mg) (hfa : mg ("law" : Str) = some (.ref f)) (c : SaysB w K) :
    ∃ fd : FuncData, (∀ (s : Shared) (v : Value), BindsTo s fd ⟨[v], []⟩ [("_law_script", v)]) ∧ ∀ base : Heap, K.In base → base.Ns mainGlobals mg → FnOk P w K mg base CX0 11 f fd ["_law_script"] (spLaw K) := by
  obtain ⟨fd, F⟩ := c.t.d.def_ 45 (d := d_law) rfl
  have e := hfa.symm.trans (He.glo_ok X G (c.t.d.fact 45 (f := .glo "law") rfl))
  cases e
  have b := FunD.bindsA (ps := ["_law_script"]) F fun _ _ _ _ _ _ us hl => match us, hl with | [_], _ => rfl
  exact ⟨fd, fun s v => b s [v] rfl, fun base X' G' => c_law ⟨X', G', c⟩ F⟩
end K69
open PySem PySem.W PySem.Calls PyProof.Rows
theorem PySem.Challenge.cw_rollcode_k69_whole_sheets_beside_doors_holds : PySem.Challenge.rw_rollcode_k69_whole_sheets_beside_doors.Holds := by
  w_on; o_law
  refine HandSHeadRun.head_any (r := OpenLaw.row PySem.Challenge.rw_rollcode_k69_whole_sheets_beside_doors) (q := view (OpenLaw.row PySem.Challenge.rw_rollcode_k69_whole_sheets_beside_doors).prog [113]) (H := K69.hookB) (ob := K69.ob) (M := 7000) (loose := K69.names) (d := HandSHeadRun.topDef (OpenLaw.row PySem.Challenge.rw_rollcode_k69_whole_sheets_beside_doors).prog 113) (kwd := []) K69.ob_eq
    (by kernel_rfl) (fun s => by kernel_rfl) K69.run (by kernel_rfl) (by kernel_rfl) (by kernel_rfl) (by rfl) (by first | assumption | decide +kernel) (by decide +kernel) ⟨rfl, rfl, rfl, rfl, rfl, by decide +kernel⟩ ?hw ?hc
  case hw => w_witness2
  case hc =>
    refine L2.walk_ofE (l := PySem.Challenge.rw_rollcode_k69_whole_sheets_beside_doors) (n := 63) (k := 11) (x := "_law_script") (CX := L2.CX0) rfl (by decide) (by kernel_rfl) ⟨rfl, by decide, by decide⟩ ?F (fun _ _ _ _ z => z)
    intro w mg fa h Y G hmg0
    obtain ⟨K, KX, c⟩ := Y
    have hmg : mg ("law" : PySem.Str) = some (.ref fa) := by
      have e : (HandSHeadRun.topDef (OpenLaw.row PySem.Challenge.rw_rollcode_k69_whole_sheets_beside_doors).prog 113).name = ("law" : PySem.Str) := by kernel_rfl
      rw [← e]
      exact hmg0
    obtain ⟨fd, hb, hF⟩ := K69.facts (P := (PySem.Challenge.rw_rollcode_k69_whole_sheets_beside_doors).prog) (w := w) KX G hmg c
    exact ⟨K, fd, K69.spLaw K, KX, hb, fun H a ns hl _ hS => ⟨a, ns, rfl, hS, hl, fun _ => rfl⟩, hF⟩
end
