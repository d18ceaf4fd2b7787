import PyProof.Rows.All
import Wide.All
import OpenK.AllK
import Wide.FinOn
import KE.KStateDown
import HandS.ForMost
import HandS.Defaults
import HandS.Head0
import HandS.Head1
import HandS.Head2
import HandS.HeadEnd
import HandS.HeadHook1
import HandS.HeadHook2
import PySem.Challenge.RW_saidatonce_k07_whole_there_and_back_with
import KE.GoesEnum
import HandS.Walk
import HandS.Codes
import HandS.TupMul
import HandS.TupAny
import HandS.FStr
import HandS.FStrTup
import HandS.Strs
import HandS.SortRule
import HandS.IsInst
import HandS.Style
import PyProof.StrBlock2
import PyProof.ReprRoads
import HandS.Wide
import HandS.Conv
set_option Elab.async false
set_option linter.all false
set_option maxRecDepth 100000
set_option maxHeartbeats 4000000
namespace K07
open PySem PySem.Spec PyProof.Rows L2
/-! ### the text by places (printed by gen_text.py) -/
def topS (i : Nat) : Stmt := PySem.Challenge.pw_saidatonce_k07_whole_there_and_back_with.main.body.getD i (.Pass ⟨0, 0, 0, 0⟩)
abbrev s_is_integer : Stmt := topS 8
abbrev s_is_name : Stmt := topS 9
abbrev s_is_ascending : Stmt := topS 10
abbrev s_are_things : Stmt := topS 15
abbrev s_is_tie : Stmt := topS 16
abbrev s_Table_init : Stmt := inClass (topS 17) 0
abbrev s_ties_with : Stmt := topS 18
abbrev s_nothing_said : Stmt := topS 23
abbrev s_come : Stmt := topS 24
abbrev s_show_pair : Stmt := topS 26
abbrev s_show_table : Stmt := topS 27
abbrev s_show_times : Stmt := topS 28
abbrev s_show_day : Stmt := topS 29
abbrev s_show_batches : Stmt := topS 30
abbrev s_show_lot : Stmt := topS 31
abbrev s_run_end : Stmt := topS 34
abbrev s_mark_at : Stmt := topS 35
abbrev s_marks_in : Stmt := topS 36
abbrev s_numeral_of : Stmt := topS 38
abbrev s_said : Stmt := topS 40
abbrev s_course_of : Stmt := topS 41
abbrev s_times_of : Stmt := topS 42
abbrev s_PairText_init : Stmt := inClass (topS 44) 0
abbrev s_PairText_take_name : Stmt := inClass (topS 44) 1
abbrev s_PairText_take_time : Stmt := inClass (topS 44) 2
abbrev s_PairText_take : Stmt := inClass (topS 44) 3
abbrev s_PairText_ends : Stmt := inClass (topS 44) 4
abbrev s_PairText_told : Stmt := inClass (topS 44) 6
abbrev s_BatchesText_init : Stmt := inClass (topS 45) 0
abbrev s_BatchesText_take : Stmt := inClass (topS 45) 1
abbrev s_BatchesText_ends : Stmt := inClass (topS 45) 2
abbrev s_BatchesText_told : Stmt := inClass (topS 45) 4
abbrev s_LotText_init : Stmt := inClass (topS 46) 0
abbrev s_LotText_take : Stmt := inClass (topS 46) 1
abbrev s_LotText_ends : Stmt := inClass (topS 46) 2
abbrev s_LotText_told : Stmt := inClass (topS 46) 4
abbrev s_TableText_init : Stmt := inClass (topS 48) 0
abbrev s_TableText_lets_name : Stmt := inClass (topS 48) 1
abbrev s_TableText_add_name : Stmt := inClass (topS 48) 2
abbrev s_TableText_take_name : Stmt := inClass (topS 48) 3
abbrev s_TableText_take_weight : Stmt := inClass (topS 48) 4
abbrev s_TableText_take : Stmt := inClass (topS 48) 5
abbrev s_TableText_ends : Stmt := inClass (topS 48) 6
abbrev s_TableText_told : Stmt := inClass (topS 48) 8
abbrev s_taken_in : Stmt := topS 50
abbrev s_read_whole : Stmt := topS 51
abbrev s_read_table : Stmt := topS 52
abbrev s_read_times : Stmt := topS 53
abbrev s_read_day : Stmt := topS 54
abbrev s_read_batches : Stmt := topS 55
abbrev s_read_lot : Stmt := topS 56
abbrev s_law_heap : Stmt := topS 58
abbrev s_law_draw : Stmt := topS 59
abbrev s_law_pick : Stmt := topS 60
abbrev s_law_mixed : Stmt := topS 61
abbrev s_law_names : Stmt := topS 62
abbrev s_law_integer : Stmt := topS 63
abbrev s_law_integer_marks : Stmt := topS 64
abbrev s_law_ties : Stmt := topS 65
abbrev s_law_day : Stmt := topS 66
abbrev s_law_table_lines : Stmt := topS 67
abbrev s_law_day_lines : Stmt := topS 68
abbrev s_law_spread : Stmt := topS 69
abbrev s_law_glued : Stmt := topS 70
abbrev s_law_lines : Stmt := topS 71
abbrev s_law_table_shown : Stmt := topS 72
abbrev s_law_days_shown : Stmt := topS 73
abbrev s_law_rows_shown : Stmt := topS 74
abbrev s_law : Stmt := topS 75
def dOf (at_ : Str × Option Str) (x q : Str) (s : Stmt) : He.DefD := ⟨at_, x, q, defArgs s, defBody s, defScope s, [], []⟩
def d_is_integer : He.DefD := dOf ("is_integer", none) "is_integer" "is_integer" s_is_integer
def d_is_name : He.DefD := dOf ("is_name", none) "is_name" "is_name" s_is_name
def d_is_ascending : He.DefD := dOf ("is_ascending", none) "is_ascending" "is_ascending" s_is_ascending
def d_are_things : He.DefD := dOf ("are_things", none) "are_things" "are_things" s_are_things
def d_is_tie : He.DefD := dOf ("is_tie", none) "is_tie" "is_tie" s_is_tie
def d_Table_init : He.DefD := dOf ("Table", some "__init__") "__init__" "Table.__init__" s_Table_init
def d_ties_with : He.DefD := dOf ("ties_with", none) "ties_with" "ties_with" s_ties_with
def d_nothing_said : He.DefD := dOf ("nothing_said", none) "nothing_said" "nothing_said" s_nothing_said
def d_come : He.DefD := dOf ("come", none) "come" "come" s_come
def d_show_pair : He.DefD := dOf ("show_pair", none) "show_pair" "show_pair" s_show_pair
def d_show_table : He.DefD := dOf ("show_table", none) "show_table" "show_table" s_show_table
def d_show_times : He.DefD := dOf ("show_times", none) "show_times" "show_times" s_show_times
def d_show_day : He.DefD := dOf ("show_day", none) "show_day" "show_day" s_show_day
def d_show_batches : He.DefD := dOf ("show_batches", none) "show_batches" "show_batches" s_show_batches
def d_show_lot : He.DefD := dOf ("show_lot", none) "show_lot" "show_lot" s_show_lot
def d_run_end : He.DefD := dOf ("run_end", none) "run_end" "run_end" s_run_end
def d_mark_at : He.DefD := dOf ("mark_at", none) "mark_at" "mark_at" s_mark_at
def d_marks_in : He.DefD := dOf ("marks_in", none) "marks_in" "marks_in" s_marks_in
def d_numeral_of : He.DefD := dOf ("numeral_of", none) "numeral_of" "numeral_of" s_numeral_of
def d_said : He.DefD := dOf ("said", none) "said" "said" s_said
def d_course_of : He.DefD := dOf ("course_of", none) "course_of" "course_of" s_course_of
def d_times_of : He.DefD := dOf ("times_of", none) "times_of" "times_of" s_times_of
def d_PairText_init : He.DefD := dOf ("PairText", some "__init__") "__init__" "PairText.__init__" s_PairText_init
def d_PairText_take_name : He.DefD := dOf ("PairText", some "take_name") "take_name" "PairText.take_name" s_PairText_take_name
def d_PairText_take_time : He.DefD := dOf ("PairText", some "take_time") "take_time" "PairText.take_time" s_PairText_take_time
def d_PairText_take : He.DefD := dOf ("PairText", some "take") "take" "PairText.take" s_PairText_take
def d_PairText_ends : He.DefD := dOf ("PairText", some "ends") "ends" "PairText.ends" s_PairText_ends
def d_PairText_told : He.DefD := dOf ("PairText", some "told") "told" "PairText.told" s_PairText_told
def d_BatchesText_init : He.DefD := dOf ("BatchesText", some "__init__") "__init__" "BatchesText.__init__" s_BatchesText_init
def d_BatchesText_take : He.DefD := dOf ("BatchesText", some "take") "take" "BatchesText.take" s_BatchesText_take
def d_BatchesText_ends : He.DefD := dOf ("BatchesText", some "ends") "ends" "BatchesText.ends" s_BatchesText_ends
def d_BatchesText_told : He.DefD := dOf ("BatchesText", some "told") "told" "BatchesText.told" s_BatchesText_told
def d_LotText_init : He.DefD := dOf ("LotText", some "__init__") "__init__" "LotText.__init__" s_LotText_init
def d_LotText_take : He.DefD := dOf ("LotText", some "take") "take" "LotText.take" s_LotText_take
def d_LotText_ends : He.DefD := dOf ("LotText", some "ends") "ends" "LotText.ends" s_LotText_ends
def d_LotText_told : He.DefD := dOf ("LotText", some "told") "told" "LotText.told" s_LotText_told
def d_TableText_init : He.DefD := dOf ("TableText", some "__init__") "__init__" "TableText.__init__" s_TableText_init
def d_TableText_lets_name : He.DefD := dOf ("TableText", some "lets_name") "lets_name" "TableText.lets_name" s_TableText_lets_name
def d_TableText_add_name : He.DefD := dOf ("TableText", some "add_name") "add_name" "TableText.add_name" s_TableText_add_name
def d_TableText_take_name : He.DefD := dOf ("TableText", some "take_name") "take_name" "TableText.take_name" s_TableText_take_name
def d_TableText_take_weight : He.DefD := dOf ("TableText", some "take_weight") "take_weight" "TableText.take_weight" s_TableText_take_weight
def d_TableText_take : He.DefD := dOf ("TableText", some "take") "take" "TableText.take" s_TableText_take
def d_TableText_ends : He.DefD := dOf ("TableText", some "ends") "ends" "TableText.ends" s_TableText_ends
def d_TableText_told : He.DefD := dOf ("TableText", some "told") "told" "TableText.told" s_TableText_told
def d_taken_in : He.DefD := dOf ("taken_in", none) "taken_in" "taken_in" s_taken_in
def d_read_whole : He.DefD := dOf ("read_whole", none) "read_whole" "read_whole" s_read_whole
def d_read_table : He.DefD := dOf ("read_table", none) "read_table" "read_table" s_read_table
def d_read_times : He.DefD := dOf ("read_times", none) "read_times" "read_times" s_read_times
def d_read_day : He.DefD := dOf ("read_day", none) "read_day" "read_day" s_read_day
def d_read_batches : He.DefD := dOf ("read_batches", none) "read_batches" "read_batches" s_read_batches
def d_read_lot : He.DefD := dOf ("read_lot", none) "read_lot" "read_lot" s_read_lot
def d_law_heap : He.DefD := dOf ("_law_heap", none) "_law_heap" "_law_heap" s_law_heap
def d_law_draw : He.DefD := dOf ("_law_draw", none) "_law_draw" "_law_draw" s_law_draw
def d_law_pick : He.DefD := dOf ("_law_pick", none) "_law_pick" "_law_pick" s_law_pick
def d_law_mixed : He.DefD := dOf ("_law_mixed", none) "_law_mixed" "_law_mixed" s_law_mixed
def d_law_names : He.DefD := dOf ("_law_names", none) "_law_names" "_law_names" s_law_names
def d_law_integer : He.DefD := dOf ("_law_integer", none) "_law_integer" "_law_integer" s_law_integer
def d_law_integer_marks : He.DefD := dOf ("_law_integer_marks", none) "_law_integer_marks" "_law_integer_marks" s_law_integer_marks
def d_law_ties : He.DefD := dOf ("_law_ties", none) "_law_ties" "_law_ties" s_law_ties
def d_law_day : He.DefD := dOf ("_law_day", none) "_law_day" "_law_day" s_law_day
def d_law_table_lines : He.DefD := dOf ("_law_table_lines", none) "_law_table_lines" "_law_table_lines" s_law_table_lines
def d_law_day_lines : He.DefD := dOf ("_law_day_lines", none) "_law_day_lines" "_law_day_lines" s_law_day_lines
def d_law_spread : He.DefD := dOf ("_law_spread", none) "_law_spread" "_law_spread" s_law_spread
def d_law_glued : He.DefD := dOf ("_law_glued", none) "_law_glued" "_law_glued" s_law_glued
def d_law_lines : He.DefD := dOf ("_law_lines", none) "_law_lines" "_law_lines" s_law_lines
def d_law_table_shown : He.DefD := dOf ("_law_table_shown", none) "_law_table_shown" "_law_table_shown" s_law_table_shown
def d_law_days_shown : He.DefD := dOf ("_law_days_shown", none) "_law_days_shown" "_law_days_shown" s_law_days_shown
def d_law_rows_shown : He.DefD := dOf ("_law_rows_shown", none) "_law_rows_shown" "_law_rows_shown" s_law_rows_shown
def d_law : He.DefD := dOf ("law", none) "law" "law" s_law
def fnL0 : List He.DefD := [d_is_integer, d_is_name, d_is_ascending, d_are_things, d_is_tie, d_Table_init, d_ties_with, d_nothing_said, d_come, d_show_pair, d_show_table, d_show_times, d_show_day, d_show_batches, d_show_lot, d_run_end, d_mark_at, d_marks_in, d_numeral_of, d_said, d_course_of, d_times_of, d_PairText_init, d_PairText_take_name, d_PairText_take_time, d_PairText_take, d_PairText_ends, d_PairText_told, d_BatchesText_init, d_BatchesText_take]
def fnL1 : List He.DefD := [d_BatchesText_ends, d_BatchesText_told, d_LotText_init, d_LotText_take, d_LotText_ends, d_LotText_told, d_TableText_init, d_TableText_lets_name, d_TableText_add_name, d_TableText_take_name, d_TableText_take_weight, d_TableText_take, d_TableText_ends, d_TableText_told, d_taken_in, d_read_whole, d_read_table, d_read_times, d_read_day, d_read_batches, d_read_lot, d_law_heap, d_law_draw, d_law_pick, d_law_mixed, d_law_names, d_law_integer, d_law_integer_marks, d_law_ties, d_law_day]
def fnL2 : List He.DefD := [d_law_table_lines, d_law_day_lines, d_law_spread, d_law_glued, d_law_lines, d_law_table_shown, d_law_days_shown, d_law_rows_shown, d_law]
def fnL : List He.DefD := fnL0 ++ fnL1 ++ fnL2
def faL0 : List He.Fa := [.glo "is_integer", .glo "is_name", .glo "is_ascending", .glo "are_things", .glo "is_tie", .glo "ties_with", .glo "nothing_said", .glo "come", .glo "show_pair", .glo "show_table", .glo "show_times", .glo "show_day", .glo "show_batches", .glo "show_lot", .glo "run_end", .glo "mark_at", .glo "marks_in", .glo "numeral_of", .glo "said", .glo "course_of", .glo "times_of", .glo "taken_in", .glo "read_whole", .glo "read_table", .glo "read_times", .glo "read_day", .glo "read_batches", .glo "read_lot", .glo "_law_heap", .glo "_law_draw"]
def faL1 : List He.Fa := [.glo "_law_pick", .glo "_law_mixed", .glo "_law_names", .glo "_law_integer", .glo "_law_integer_marks", .glo "_law_ties", .glo "_law_day", .glo "_law_table_lines", .glo "_law_day_lines", .glo "_law_spread", .glo "_law_glued", .glo "_law_lines", .glo "_law_table_shown", .glo "_law_days_shown", .glo "_law_rows_shown", .glo "law", .glo "Table", .glo "PairText", .glo "BatchesText", .glo "LotText", .glo "TableText", .free "isinstance", .free "int", .free "bool", .free "str", .free "len", .free "all", .free "range", .free "tuple", .free "abs"]
def faL2 : List He.Fa := [.free "enumerate", .free "list", .free "sorted", .free "repr", .int "LONGEST_NAME" 6, .int "MOST_THINGS" 12, .int "MOST_TIES" 60, .int "MOST_WEIGHT" 1000000, .int "MOST_TIME" 1000000000, .int "MOST_BATCHES" 60, .int "MOST_IN_BATCH" 100, .str "LETTERS" "abcdefghijklmnopqrstuvwxyz", .str "DIGITS" "0123456789", .cls "Table", .mkr "Table", .noat "Table" "things", .noat "Table" "ties", .cls "PairText", .mkr "PairText", .noat "PairText" "table", .noat "PairText" "together", .noat "PairText" "batches", .noat "PairText" "come", .noat "PairText" "stage", .cls "BatchesText", .mkr "BatchesText", .noat "BatchesText" "sizes", .cls "LotText", .mkr "LotText", .noat "LotText" "table"]
def faL3 : List He.Fa := [.noat "LotText" "names", .cls "TableText", .mkr "TableText", .noat "TableText" "names", .noat "TableText" "ties", .noat "TableText" "stage", .noat "TableText" "pair", .meth "PairText" "take_name", .meth "PairText" "take_time", .meth "PairText" "take", .meth "PairText" "ends", .meth "PairText" "told", .meth "BatchesText" "take", .meth "BatchesText" "ends", .meth "BatchesText" "told", .meth "LotText" "take", .meth "LotText" "ends", .meth "LotText" "told", .meth "TableText" "lets_name", .meth "TableText" "add_name", .meth "TableText" "take_name", .meth "TableText" "take_weight", .meth "TableText" "take", .meth "TableText" "ends", .meth "TableText" "told"]
def faL : List He.Fa := faL0 ++ faL1 ++ faL2 ++ faL3
def looseL0 : List PySem.Str := ["_wall", "HourError", "InvalidTable", "InvalidText", "LETTERS", "LONGEST_NAME", "is_integer", "is_name", "is_ascending", "MOST_THINGS", "MOST_TIES", "MOST_WEIGHT", "are_things", "is_tie", "Table", "ties_with", "MOST_TIME", "MOST_BATCHES", "MOST_IN_BATCH", "nothing_said", "come", "show_pair", "show_table", "show_times", "show_day", "show_batches", "show_lot", "DIGITS", "run_end", "mark_at"]
def looseL1 : List PySem.Str := ["marks_in", "text_end", "numeral_of", "said", "course_of", "times_of", "PairText", "BatchesText", "LotText", "TableText", "taken_in", "read_whole", "read_table", "read_times", "read_day", "read_batches", "read_lot", "_law_heap", "_law_draw", "_law_pick", "_law_mixed", "_law_names", "_law_integer", "_law_integer_marks", "_law_ties", "_law_day", "_law_table_lines", "_law_day_lines", "_law_spread", "_law_glued"]
def looseL2 : List PySem.Str := ["_law_lines", "_law_table_shown", "_law_days_shown", "_law_rows_shown"]
def looseL : List PySem.Str := looseL0 ++ looseL1 ++ looseL2
/-- what stands behind the top -/
abbrev Says (K : PySem.W.Frag) : Prop := He.SaysD faL fnL K
abbrev FD (K : PySem.W.Frag) (x q : Str) (s : Stmt) (at_ : Str × Option Str) (fd : FuncData) : Prop := FunD K x q (defArgs s) (defBody s) (defScope s) [] [] (He.fAd K at_) fd
section
variable {K : PySem.W.Frag}
theorem Says.f_is_integer (c : Says K) : ∃ fd, FD K "is_integer" "is_integer" s_is_integer ("is_integer", none) fd := c.def_ 0 (d := d_is_integer) rfl
theorem Says.f_is_name (c : Says K) : ∃ fd, FD K "is_name" "is_name" s_is_name ("is_name", none) fd := c.def_ 1 (d := d_is_name) rfl
theorem Says.f_is_ascending (c : Says K) : ∃ fd, FD K "is_ascending" "is_ascending" s_is_ascending ("is_ascending", none) fd := c.def_ 2 (d := d_is_ascending) rfl
theorem Says.f_are_things (c : Says K) : ∃ fd, FD K "are_things" "are_things" s_are_things ("are_things", none) fd := c.def_ 3 (d := d_are_things) rfl
theorem Says.f_is_tie (c : Says K) : ∃ fd, FD K "is_tie" "is_tie" s_is_tie ("is_tie", none) fd := c.def_ 4 (d := d_is_tie) rfl
theorem Says.f_Table_init (c : Says K) : ∃ fd, FD K "__init__" "Table.__init__" s_Table_init ("Table", some "__init__") fd := c.def_ 5 (d := d_Table_init) rfl
theorem Says.f_ties_with (c : Says K) : ∃ fd, FD K "ties_with" "ties_with" s_ties_with ("ties_with", none) fd := c.def_ 6 (d := d_ties_with) rfl
theorem Says.f_nothing_said (c : Says K) : ∃ fd, FD K "nothing_said" "nothing_said" s_nothing_said ("nothing_said", none) fd := c.def_ 7 (d := d_nothing_said) rfl
theorem Says.f_come (c : Says K) : ∃ fd, FD K "come" "come" s_come ("come", none) fd := c.def_ 8 (d := d_come) rfl
theorem Says.f_show_pair (c : Says K) : ∃ fd, FD K "show_pair" "show_pair" s_show_pair ("show_pair", none) fd := c.def_ 9 (d := d_show_pair) rfl
theorem Says.f_show_table (c : Says K) : ∃ fd, FD K "show_table" "show_table" s_show_table ("show_table", none) fd := c.def_ 10 (d := d_show_table) rfl
theorem Says.f_show_times (c : Says K) : ∃ fd, FD K "show_times" "show_times" s_show_times ("show_times", none) fd := c.def_ 11 (d := d_show_times) rfl
theorem Says.f_show_day (c : Says K) : ∃ fd, FD K "show_day" "show_day" s_show_day ("show_day", none) fd := c.def_ 12 (d := d_show_day) rfl
theorem Says.f_show_batches (c : Says K) : ∃ fd, FD K "show_batches" "show_batches" s_show_batches ("show_batches", none) fd := c.def_ 13 (d := d_show_batches) rfl
theorem Says.f_show_lot (c : Says K) : ∃ fd, FD K "show_lot" "show_lot" s_show_lot ("show_lot", none) fd := c.def_ 14 (d := d_show_lot) rfl
theorem Says.f_run_end (c : Says K) : ∃ fd, FD K "run_end" "run_end" s_run_end ("run_end", none) fd := c.def_ 15 (d := d_run_end) rfl
theorem Says.f_mark_at (c : Says K) : ∃ fd, FD K "mark_at" "mark_at" s_mark_at ("mark_at", none) fd := c.def_ 16 (d := d_mark_at) rfl
theorem Says.f_marks_in (c : Says K) : ∃ fd, FD K "marks_in" "marks_in" s_marks_in ("marks_in", none) fd := c.def_ 17 (d := d_marks_in) rfl
theorem Says.f_numeral_of (c : Says K) : ∃ fd, FD K "numeral_of" "numeral_of" s_numeral_of ("numeral_of", none) fd := c.def_ 18 (d := d_numeral_of) rfl
theorem Says.f_said (c : Says K) : ∃ fd, FD K "said" "said" s_said ("said", none) fd := c.def_ 19 (d := d_said) rfl
theorem Says.f_course_of (c : Says K) : ∃ fd, FD K "course_of" "course_of" s_course_of ("course_of", none) fd := c.def_ 20 (d := d_course_of) rfl
theorem Says.f_times_of (c : Says K) : ∃ fd, FD K "times_of" "times_of" s_times_of ("times_of", none) fd := c.def_ 21 (d := d_times_of) rfl
theorem Says.f_PairText_init (c : Says K) : ∃ fd, FD K "__init__" "PairText.__init__" s_PairText_init ("PairText", some "__init__") fd := c.def_ 22 (d := d_PairText_init) rfl
theorem Says.f_PairText_take_name (c : Says K) : ∃ fd, FD K "take_name" "PairText.take_name" s_PairText_take_name ("PairText", some "take_name") fd := c.def_ 23 (d := d_PairText_take_name) rfl
theorem Says.f_PairText_take_time (c : Says K) : ∃ fd, FD K "take_time" "PairText.take_time" s_PairText_take_time ("PairText", some "take_time") fd := c.def_ 24 (d := d_PairText_take_time) rfl
theorem Says.f_PairText_take (c : Says K) : ∃ fd, FD K "take" "PairText.take" s_PairText_take ("PairText", some "take") fd := c.def_ 25 (d := d_PairText_take) rfl
theorem Says.f_PairText_ends (c : Says K) : ∃ fd, FD K "ends" "PairText.ends" s_PairText_ends ("PairText", some "ends") fd := c.def_ 26 (d := d_PairText_ends) rfl
theorem Says.f_PairText_told (c : Says K) : ∃ fd, FD K "told" "PairText.told" s_PairText_told ("PairText", some "told") fd := c.def_ 27 (d := d_PairText_told) rfl
theorem Says.f_BatchesText_init (c : Says K) : ∃ fd, FD K "__init__" "BatchesText.__init__" s_BatchesText_init ("BatchesText", some "__init__") fd := c.def_ 28 (d := d_BatchesText_init) rfl
theorem Says.f_BatchesText_take (c : Says K) : ∃ fd, FD K "take" "BatchesText.take" s_BatchesText_take ("BatchesText", some "take") fd := c.def_ 29 (d := d_BatchesText_take) rfl
theorem Says.f_BatchesText_ends (c : Says K) : ∃ fd, FD K "ends" "BatchesText.ends" s_BatchesText_ends ("BatchesText", some "ends") fd := c.def_ 30 (d := d_BatchesText_ends) rfl
theorem Says.f_BatchesText_told (c : Says K) : ∃ fd, FD K "told" "BatchesText.told" s_BatchesText_told ("BatchesText", some "told") fd := c.def_ 31 (d := d_BatchesText_told) rfl
theorem Says.f_LotText_init (c : Says K) : ∃ fd, FD K "__init__" "LotText.__init__" s_LotText_init ("LotText", some "__init__") fd := c.def_ 32 (d := d_LotText_init) rfl
theorem Says.f_LotText_take (c : Says K) : ∃ fd, FD K "take" "LotText.take" s_LotText_take ("LotText", some "take") fd := c.def_ 33 (d := d_LotText_take) rfl
theorem Says.f_LotText_ends (c : Says K) : ∃ fd, FD K "ends" "LotText.ends" s_LotText_ends ("LotText", some "ends") fd := c.def_ 34 (d := d_LotText_ends) rfl
theorem Says.f_LotText_told (c : Says K) : ∃ fd, FD K "told" "LotText.told" s_LotText_told ("LotText", some "told") fd := c.def_ 35 (d := d_LotText_told) rfl
theorem Says.f_TableText_init (c : Says K) : ∃ fd, FD K "__init__" "TableText.__init__" s_TableText_init ("TableText", some "__init__") fd := c.def_ 36 (d := d_TableText_init) rfl
theorem Says.f_TableText_lets_name (c : Says K) : ∃ fd, FD K "lets_name" "TableText.lets_name" s_TableText_lets_name ("TableText", some "lets_name") fd := c.def_ 37 (d := d_TableText_lets_name) rfl
theorem Says.f_TableText_add_name (c : Says K) : ∃ fd, FD K "add_name" "TableText.add_name" s_TableText_add_name ("TableText", some "add_name") fd := c.def_ 38 (d := d_TableText_add_name) rfl
theorem Says.f_TableText_take_name (c : Says K) : ∃ fd, FD K "take_name" "TableText.take_name" s_TableText_take_name ("TableText", some "take_name") fd := c.def_ 39 (d := d_TableText_take_name) rfl
theorem Says.f_TableText_take_weight (c : Says K) : ∃ fd, FD K "take_weight" "TableText.take_weight" s_TableText_take_weight ("TableText", some "take_weight") fd := c.def_ 40 (d := d_TableText_take_weight) rfl
theorem Says.f_TableText_take (c : Says K) : ∃ fd, FD K "take" "TableText.take" s_TableText_take ("TableText", some "take") fd := c.def_ 41 (d := d_TableText_take) rfl
theorem Says.f_TableText_ends (c : Says K) : ∃ fd, FD K "ends" "TableText.ends" s_TableText_ends ("TableText", some "ends") fd := c.def_ 42 (d := d_TableText_ends) rfl
theorem Says.f_TableText_told (c : Says K) : ∃ fd, FD K "told" "TableText.told" s_TableText_told ("TableText", some "told") fd := c.def_ 43 (d := d_TableText_told) rfl
theorem Says.f_taken_in (c : Says K) : ∃ fd, FD K "taken_in" "taken_in" s_taken_in ("taken_in", none) fd := c.def_ 44 (d := d_taken_in) rfl
theorem Says.f_read_whole (c : Says K) : ∃ fd, FD K "read_whole" "read_whole" s_read_whole ("read_whole", none) fd := c.def_ 45 (d := d_read_whole) rfl
theorem Says.f_read_table (c : Says K) : ∃ fd, FD K "read_table" "read_table" s_read_table ("read_table", none) fd := c.def_ 46 (d := d_read_table) rfl
theorem Says.f_read_times (c : Says K) : ∃ fd, FD K "read_times" "read_times" s_read_times ("read_times", none) fd := c.def_ 47 (d := d_read_times) rfl
theorem Says.f_read_day (c : Says K) : ∃ fd, FD K "read_day" "read_day" s_read_day ("read_day", none) fd := c.def_ 48 (d := d_read_day) rfl
theorem Says.f_read_batches (c : Says K) : ∃ fd, FD K "read_batches" "read_batches" s_read_batches ("read_batches", none) fd := c.def_ 49 (d := d_read_batches) rfl
theorem Says.f_read_lot (c : Says K) : ∃ fd, FD K "read_lot" "read_lot" s_read_lot ("read_lot", none) fd := c.def_ 50 (d := d_read_lot) rfl
theorem Says.f_law_heap (c : Says K) : ∃ fd, FD K "_law_heap" "_law_heap" s_law_heap ("_law_heap", none) fd := c.def_ 51 (d := d_law_heap) rfl
theorem Says.f_law_draw (c : Says K) : ∃ fd, FD K "_law_draw" "_law_draw" s_law_draw ("_law_draw", none) fd := c.def_ 52 (d := d_law_draw) rfl
theorem Says.f_law_pick (c : Says K) : ∃ fd, FD K "_law_pick" "_law_pick" s_law_pick ("_law_pick", none) fd := c.def_ 53 (d := d_law_pick) rfl
theorem Says.f_law_mixed (c : Says K) : ∃ fd, FD K "_law_mixed" "_law_mixed" s_law_mixed ("_law_mixed", none) fd := c.def_ 54 (d := d_law_mixed) rfl
theorem Says.f_law_names (c : Says K) : ∃ fd, FD K "_law_names" "_law_names" s_law_names ("_law_names", none) fd := c.def_ 55 (d := d_law_names) rfl
theorem Says.f_law_integer (c : Says K) : ∃ fd, FD K "_law_integer" "_law_integer" s_law_integer ("_law_integer", none) fd := c.def_ 56 (d := d_law_integer) rfl
theorem Says.f_law_integer_marks (c : Says K) : ∃ fd, FD K "_law_integer_marks" "_law_integer_marks" s_law_integer_marks ("_law_integer_marks", none) fd := c.def_ 57 (d := d_law_integer_marks) rfl
theorem Says.f_law_ties (c : Says K) : ∃ fd, FD K "_law_ties" "_law_ties" s_law_ties ("_law_ties", none) fd := c.def_ 58 (d := d_law_ties) rfl
theorem Says.f_law_day (c : Says K) : ∃ fd, FD K "_law_day" "_law_day" s_law_day ("_law_day", none) fd := c.def_ 59 (d := d_law_day) rfl
theorem Says.f_law_table_lines (c : Says K) : ∃ fd, FD K "_law_table_lines" "_law_table_lines" s_law_table_lines ("_law_table_lines", none) fd := c.def_ 60 (d := d_law_table_lines) rfl
theorem Says.f_law_day_lines (c : Says K) : ∃ fd, FD K "_law_day_lines" "_law_day_lines" s_law_day_lines ("_law_day_lines", none) fd := c.def_ 61 (d := d_law_day_lines) rfl
theorem Says.f_law_spread (c : Says K) : ∃ fd, FD K "_law_spread" "_law_spread" s_law_spread ("_law_spread", none) fd := c.def_ 62 (d := d_law_spread) rfl
theorem Says.f_law_glued (c : Says K) : ∃ fd, FD K "_law_glued" "_law_glued" s_law_glued ("_law_glued", none) fd := c.def_ 63 (d := d_law_glued) rfl
theorem Says.f_law_lines (c : Says K) : ∃ fd, FD K "_law_lines" "_law_lines" s_law_lines ("_law_lines", none) fd := c.def_ 64 (d := d_law_lines) rfl
theorem Says.f_law_table_shown (c : Says K) : ∃ fd, FD K "_law_table_shown" "_law_table_shown" s_law_table_shown ("_law_table_shown", none) fd := c.def_ 65 (d := d_law_table_shown) rfl
theorem Says.f_law_days_shown (c : Says K) : ∃ fd, FD K "_law_days_shown" "_law_days_shown" s_law_days_shown ("_law_days_shown", none) fd := c.def_ 66 (d := d_law_days_shown) rfl
theorem Says.f_law_rows_shown (c : Says K) : ∃ fd, FD K "_law_rows_shown" "_law_rows_shown" s_law_rows_shown ("_law_rows_shown", none) fd := c.def_ 67 (d := d_law_rows_shown) rfl
theorem Says.f_law (c : Says K) : ∃ fd, FD K "law" "law" s_law ("law", none) fd := c.def_ 68 (d := d_law) rfl
end
end K07

set_option maxRecDepth 100000
set_option maxHeartbeats 0
/-! the head: its run, and all that it asks but the walk -/
namespace K07H
open PySem PySem.W PySem.Calls PyProof.Rows HandSHeadRun K07
abbrev RW : PySem.W.OpenRow := PySem.W.OpenLaw.row PySem.Challenge.rw_saidatonce_k07_whole_there_and_back_with
abbrev hookK : PySem.W.Hook := He.hookD 5 faL fnL
def obK (s : PySem.W.SharedT) : He.AlD := He.obsDG 5 faL fnL (HandSHeadRun.getT s)
theorem obK_eq (s : PySem.W.SharedT) : obK s = hookK.obs s.abs := He.obsDG_eq (HandSHeadRun.getT_eq s)
theorem runK (w : World) : HandSHeadRun.RunEq RW (PySem.W.view RW.prog [75]) hookK obK 20000 looseL w := by
  intro os
  kernel_rfl
theorem head_of (call : WalkO (view RW.prog [75]) looseL (XL (view RW.prog [75]) []) hookK.says RW.toRowW (topDef RW.prog 75) [] fun f vs => PySem.call f vs) : PySem.Challenge.rw_saidatonce_k07_whole_there_and_back_with.Holds := by
  w_on; o_law
  refine head_any (r := RW) (q := view RW.prog [75]) (H := hookK) (ob := obK) (M := 20000) (loose := looseL) (d := topDef RW.prog 75) (kwd := []) obK_eq
    (by kernel_rfl) (fun s => by kernel_rfl) runK (by kernel_rfl) (by kernel_rfl) (by kernel_rfl) (by rfl) (by first | assumption | decide +kernel) (by decide +kernel) ⟨rfl, rfl, rfl, rfl, rfl, by decide +kernel⟩ ?hw call
  case hw => w_witness2
theorem top_plain : (topDef RW.prog 75).params.defaults = [] := by kernel_rfl
theorem top_name : (topDef RW.prog 75).name = ("law" : PySem.Str) := by kernel_rfl
end K07H

set_option maxRecDepth 100000
set_option maxHeartbeats 4000000
/-! enumerate of a tuple: as a rule for what a for walks -/
namespace K07
open PySem
theorem enum_new_one {v : Value} {o : Obj} {G : Heap → Prop} (B : Begins v o G) :
    Meets (Builtin.«enumerate.__new__» ⟨[.type "enumerate", v], []⟩) (fun _ R s => G s.heap ∧
      R (.ok (.ret (.ref (s.heap.push o).objs.size)))
        { s with heap := (s.heap.push o).push { cls := .type "enumerate", data := .fields #[.none, .bool false, .ref s.heap.objs.size, rawInt 0, .none, .none] } }) :=
  .of_wp fun prog w A R s hh => by
    obtain ⟨hp, g, d, tk, os⟩ := s
    obtain ⟨g1, hh⟩ := hh
    have hsub := sub_enumerate
    have go : ∀ {A' : Around} {E : Value → Shared → Prop} {Q : Value → Shared → Prop}, Q (.ref hp.objs.size) ⟨hp.push o, g, d, tk, os⟩ →
        wpAny (model prog w) A' (pyIter v) Q E ⟨hp, g, d, tk, os⟩ := fun q => B.iter prog w _ _ ⟨hp, g, d, tk, os⟩ _ g1 q
    wp_walk using go
    refine wpAny_stack_any fun st => wpAny_pure ?_
    split
    · rename_i c _ _ _ _ _
      cases (c == Value.type "enumerate") <;> (wp_walk using go; exact ⟨_, rfl, hh⟩)
    · wp_walk using go
      exact ⟨_, rfl, hh⟩
theorem call_enum_one {prog : Program} {w : World} {A : Around} {E : Value → Shared → Prop} {s : Shared} {v : Value} {o : Obj} {G : Heap → Prop} {Q : Value → Shared → Prop} (B : Begins v o G) (g1 : G s.heap)
    (k : ∀ h', IsEnum h' (s.heap.objs.size + 1) s.heap.objs.size 0 .none → h'.get? s.heap.objs.size = some o →
      (∀ b ob, s.heap.get? b = some ob → h'.get? b = some ob) → Q (.ref (s.heap.objs.size + 1)) { s with heap := h' }) :
    wpAny (model prog w) A (call (.type "enumerate") [v]) Q E s := by
  refine callType_new F.called_enumerate (by decide) (F.typeCall_enumerate_1 _) (F.newCall_enumerate_1 _)
    (fun obj => F.args_object_init_2 obj _) F.entry_enumerate_new (enum_new_one B) ⟨g1, ?_⟩
  have hz : (s.heap.push o).objs.size = s.heap.objs.size + 1 := Heap.size_push ..
  rw [hz]
  have he : IsEnum ((s.heap.push o).push { cls := .type "enumerate", data := .fields #[.none, .bool false, .ref s.heap.objs.size, rawInt 0, .none, .none] })
      (s.heap.objs.size + 1) s.heap.objs.size 0 .none := by
    have z := Heap.get?_push_size (s.heap.push o) (o := { cls := .type "enumerate", data := .fields #[.none, .bool false, .ref s.heap.objs.size, rawInt 0, .none, .none] }) rfl
    rw [hz] at z
    exact z
  exact ⟨⟨_, he, rfl⟩, k _ he (Heap.get?_push_of_some _ (Heap.get?_push_size _ B.free))
    fun b ob x => Heap.get?_push_of_some _ (Heap.get?_push_of_some _ x)⟩
end K07
namespace K07
open PySem PySem.Spec PyProof.Rows L2
/-- the tuple at a, its items in new pairs with their places -/
def ItE (K : PySem.W.Frag) (a : Addr) : It where
  go := fun i H => ∃ (xs : List V) (x : V), SqT K H a xs ∧ xs[i]? = some x
  yld := fun i H v H' => ∃ T x, v = .ref T ∧ H T = none ∧ H' = upd H T (.tup [.int (i : Nat), x]) ∧ ∀ xs, SqT K H a xs → xs[i]? = some x
  stop := fun i H => ∃ xs : List V, SqT K H a xs ∧ xs.length = i
theorem turn_ItE {P : Program} {w : World} {K : PySem.W.Frag} {elts : List Expr} {kk : Nat} {tpos : Pos} (a e it : Addr) (hae : a ≠ e) (hai : a ≠ it) :
    Turn P w K (.Tuple elts kk tpos) (ItE K a) [e, it] e (fun i h => (∃ old, IsEnum h e it ((i : Nat) : Int) old) ∧ h.IsTupleIter it a i ∧ e ≠ it) where
  mem := List.mem_cons_self ..
  obj := fun i h st b hb => by
    obtain ⟨⟨old, he⟩, ⟨o, ho, hc, hd⟩, _⟩ := st
    rcases (by simpa using hb : b = e ∨ b = it) with rfl | rfl
    · exact ⟨_, he, fun v q => nomatch q⟩
    · refine ⟨o, ho, fun v q => ?_⟩
      rw [hd] at q
      cases q
  keep := fun i h h' st k => by
    obtain ⟨⟨old, he⟩, hi, hne⟩ := st
    exact ⟨⟨old, k e (by simp) _ he⟩, hi.at fun o q => k it (by simp) o q, hne⟩
  item := by
    intro X hP hw hK hc i pins s σ H E I hf st hg
    subst hP hw hK
    obtain ⟨⟨old, he⟩, hit, hne⟩ := st
    obtain ⟨xs, x, hq, hx⟩ := hg
    obtain ⟨its, rv, p, hz⟩ := I.tuple hq
    have hp : s.heap.IsTuple a its.toArray := p
    have hlt : i < its.toArray.size := by
      rw [List.size_toArray, ← rv.length]
      exact (List.getElem?_eq_some_iff.mp hx).1
    have hel : e < s.heap.objs.size := Heap.lt_size he
    have hil : it < s.heap.objs.size := by
      obtain ⟨_, q, _⟩ := hit
      exact Heap.lt_size q
    have D : Draws X.prog X.w X.A.in1 it [it, a] its.toArray.size _ _ := Draws.tuple (A := X.A.in1) (I.ok.hd hc) it a hai its.toArray
    refine wpAny_pyNext_enum_itemD D he ⟨hit, hp⟩ hlt hne (by simp [hne, Ne.symm hae]) fun u h' tk hu ho hst hT hsz hk => ?_
    obtain ⟨u0, hu0, ru⟩ := rv.get hx
    have eu : u = u0 := by
      have z : its[i]? = some u := by simpa using hu
      rw [hu0] at z
      exact (Option.some.inj z).symm
    subst eu
    refine ⟨_, rfl, wpAny_letOwnedTupleGo_enum (s := { s with heap := h', toks := tk + 1 }) ho fun h2 he2 sb => ?_⟩
    have hT2 : h2.get? s.heap.objs.size = some { cls := .type "tuple", data := .seq #[.int i tk, u] } :=
      (sb.2 _ (Nat.ne_of_gt hel)).trans hT
    have new : ObjOk X.prog X.w (upd H s.heap.objs.size (.tup [.int (i : Nat), x])) h2 s.heap.objs.size (.tup [.int (i : Nat), x]) := by
      refine ⟨?_, [.int i tk, u], .cons ⟨_, rfl⟩ (.cons ru .nil), ⟨_, hT2, rfl, _, rfl⟩⟩
      show 2 ≤ sizeLine
      decide
    have I1 : Inv X pins σ (upd H s.heap.objs.size (.tup [.int (i : Nat), x])) { s with heap := h2, toks := tk + 1 } := by
      refine I.turnedNew (ch := [e, it]) (fun b ob hb q => ?_) hf (Nat.le_refl _) new
      have b1 : b ≠ e := fun z => hb (by simp [z])
      have b2 : b ≠ it := fun z => hb (by simp [z])
      exact (sb.2 b b1).trans (hk b ob b1 b2 q)
    refine ⟨.ref s.heap.objs.size, _, I1, rfl, ⟨_, x, rfl, I.hok.fresh (Nat.le_refl _), rfl, fun ys hy => ?_⟩, ⟨⟨u, ?_⟩, ?_, hne⟩, fun b hb => ?_⟩
    · rw [I.tuple_inj hy hq]
      exact hx
    · have e1 : ((i + 1 : Nat) : Int) = (i : Int) + 1 := by omega
      rw [e1]
      exact he2
    · exact hst.1.at fun o q => (sb.2 it (Ne.symm hne)).trans q
    · have hb' : b < s.heap.objs.size := by
        rcases (by simpa using hb : b = e ∨ b = it) with z | z <;> rw [z] <;> assumption
      rw [upd_ne (Nat.ne_of_lt hb')]
      exact (hf b hb).1
  done := by
    intro X hP hw hK hc i pins s σ H E I hf st hg
    subst hP hw hK
    obtain ⟨⟨old, he⟩, hit, hne⟩ := st
    obtain ⟨xs, hq, hx⟩ := hg
    obtain ⟨its, rv, p, hz⟩ := I.tuple hq
    have hp : s.heap.IsTuple a its.toArray := p
    obtain ⟨f0, f1, f2, f3, f4, f5⟩ := hf it (by simp)
    have D : Draws X.prog X.w X.A.in1 it [it, a] its.toArray.size _ _ := Draws.tuple (A := X.A.in1) (I.ok.hd hc) it a hai its.toArray
    have hl := rv.length
    have hn : i = its.toArray.size := by
      rw [List.size_toArray]
      omega
    refine wpAny_pyNext_enum_endD D he (by rw [← hn]; exact ⟨hit, hp⟩) fun h' eb => ⟨rfl, ?_⟩
    exact I.turned (t' := s.toks) (fun b o hb q => eb b o hb q) f0 f1 f3 f4 f5
  self := fun A i s Q E st h => by
    obtain ⟨⟨_, he⟩, _⟩ := st
    exact wpAny_pyIter_enum he h
def iEnumT (K : PySem.W.Frag) (ta : TA) : TI := fun σ H R => ta σ H fun vs H1 => ∃ a xs, vs = [.ref a] ∧ SqT K H1 a xs ∧ R (ItE K a) H1
theorem pi_enumT {X : Cx} {e : Expr} {ta : TA} {p pos tpos : Pos} {elts : List Expr} {kk : Nat} (hg : Gl X "enumerate") (hm : X.mg "enumerate" = none) (ha : PA X [e] ta)
    (hs : starEach [e] X.env = [(false, eval e X.env)] := by rfl) : PI X (.Tuple elts kk tpos) (.Call (.Name "enumerate" p) [e] [] pos) (iEnumT X.K ta) := by
  refine ⟨fun pins s σ H R I h => ?_⟩
  refine Call_ (ld_blt I hg hm boot_enumerate (PyProof.Rows.callWith_type1 (thn (ha.run pos pins s σ H _ I h) fun us s1 ⟨vs, H1, I1, r1, q1⟩ => ?_) hs rfl))
  obtain ⟨a, xs, ex, hq, q⟩ := q1
  subst ex
  cases r1 with
  | cons r rr =>
    cases rr
    cases r
    obtain ⟨its, rv, p', hz⟩ := I1.tuple hq
    have hp : s1.heap.IsTuple a its.toArray := p'
    have hal : a < s1.heap.objs.size := p'.lt
    refine call_enum_one (begins_tuple a its.toArray) hp fun h' he hit hk => wpAny_pyIter_enum he ?_
    have I2 : Inv X pins σ H1 { s1 with heap := h' } := I1.kept (t' := s1.toks) hk
    refine ⟨s1.heap.objs.size + 1, [s1.heap.objs.size + 1, s1.heap.objs.size], _, _, H1, rfl, I2,
      turn_ItE a (s1.heap.objs.size + 1) s1.heap.objs.size (Nat.ne_of_lt (Nat.lt_succ_of_lt hal)) (Nat.ne_of_lt hal), ⟨⟨.none, he⟩, ⟨_, hit, rfl, rfl⟩, Nat.succ_ne_self _⟩, fun b hb => ?_, q⟩
    have hle : s1.heap.objs.size ≤ b := by
      rcases (by simpa using hb : b = s1.heap.objs.size + 1 ∨ b = s1.heap.objs.size) with z | z <;> rw [z]
      · exact Nat.le_add_right _ _
      · exact Nat.le_refl _
    exact I1.fpOk hle (I1.hok.fresh hle)
theorem walk_ItE {K : PySem.W.Frag} {a : Addr} {xs : List V} : Walk (ItE K a) xs.length (fun H => SqT K H a xs) (YPair (fun i => some (.int (i : Nat))) (fun i => xs[i]?)) := by
  refine ⟨fun i _ hi q => ⟨xs, xs[i], q, by simp [hi]⟩, fun _ q => ⟨xs, q, rfl⟩, fun i H v H' _ q y => ?_⟩
  obtain ⟨T, x, h1, h2, h3, h4⟩ := y
  exact ⟨T, .int (i : Nat), x, h1, h2, h3, rfl, h4 xs q⟩
end K07

set_option maxRecDepth 100000
set_option maxHeartbeats 4000000
/-! rules that the layer lacks -/
namespace K07
open PySem PySem.Spec PyProof.Rows L2

/-! ### a tuple of unlike targets, one of them an attribute -/
section
variable {X : Cx} {o : Expr} {f : Str} {pos : Pos} {to : TE}
def gFld (K : PySem.W.Frag) (to : TE) (f : Str) : TG := fun v σ H Q => to σ H fun x H1 => ∃ a C dx fs, x = .ref a ∧ H1 a = some (.ins C dx fs) ∧ Cls K C ∧ NoAttr K C f ∧ fs.length < 1000 ∧ Q σ (upd H1 a (.ins C dx (putF f v fs)))
theorem pg_fld (ho : PE X o to) (ha : ∀ v, assign (.Attribute o f pos) X.env v = (do
      let ov ← holding [v] (eval o X.env)
      standAt pos.atName
      holding [v, ov] (setAttr ov f v)
      release [v, ov] []) := by intro _; rfl) : PG X (.Attribute o f pos) (gFld X.K to f) := by
  refine ⟨fun pins s σ H v u Q I r h => ?_⟩
  rw [ha]
  refine wpAny_bind (wpAny_holding (thn (ho.run pins s σ H _ I h) fun ov s1 hv => ?_))
  obtain ⟨x, H1, I1, rx, a, C, dx, fs, ex, ea, c, n, l, q⟩ := hv
  subst ex
  obtain rfl : ov = Value.ref a := rx
  refine wpAny_bind (wpAny_standAt (wpAny_bind (wpAny_holding (setattr_ok I1 ea c n l r fun s3 I3 => ?_))))
  exact wpAny_release ⟨σ, _, I3, q⟩
end

/-! ### text * int -/
section
variable {X : Cx}
def repT (z : List Nat) (n : Int) : List Nat := (List.replicate n.toNat z).flatten
theorem foldl_cat (a : Array Nat) : ∀ (k : Nat) (acc : Array Nat), ((List.replicate k a).foldl (· ++ ·) acc).toList = acc.toList ++ (List.replicate k a.toList).flatten
  | 0, acc => by simp
  | k + 1, acc => by
    rw [List.replicate_succ, List.foldl_cons, foldl_cat a k, List.replicate_succ, List.flatten_cons, Array.toList_append, List.append_assoc]
theorem mul_S (z : List Nat) (n : Int) : Txt.mul (SX.S z) n = SX.S (repT z n) := by
  unfold Txt.mul repT
  by_cases h : n < 1
  · rw [if_pos h]
    have e : n.toNat = 0 := by omega
    rw [e] <;> rfl
  · rw [if_neg h]
    by_cases h2 : (n == 1 || (SX.S z).length == 0) = true
    · rw [if_pos h2]
      rcases Bool.or_eq_true_iff.mp h2 with h3 | h3
      · have e : n = 1 := by simpa using h3
        subst e
        show SX.S z = SX.S ([z].flatten)
        simp
      · have e : z = [] := by
          have : (SX.S z).length = 0 := by simpa using h3
          rw [SX.S_len] at this
          exact List.eq_nil_of_length_eq_zero this
        subst e
        simp
    · rw [if_neg h2]
      refine TL.ext_tl ?_
      show (List.foldl (· ++ ·) #[] (List.replicate n.toNat z.toArray)).toList = (List.replicate n.toNat z).flatten
      rw [foldl_cat]
      simp
def rRepS : R2 := fun x y H Q => ∃ (z : List Nat) (n : Int), x = .str (SX.S z) ∧ y = .int n ∧ n ≤ 1000 ∧ 0 ≤ n ∧ z.length ≤ 1000 ∧ Q (.str (SX.S (repT z n))) H
theorem op_repS : OpR X (binaryOp .Mult) rRepS := by
  intro pins s σ H x y v u Q I rx ry h
  obtain ⟨z, n, rfl, rfl, h1, h0, hz, q⟩ := h
  obtain ⟨t, rfl⟩ := rx
  obtain ⟨t', rfl⟩ := ry
  have hl : (SX.S z).length = z.length := SX.S_len z
  have hm : (SX.S z).length * n.toNat ≤ 1000 * 1000 := by
    rw [hl]
    exact Nat.mul_le_mul hz (by omega)
  have ok : MulOk (SX.S z) n := by
    refine ⟨?_, fun _ _ => ?_, fun _ _ => ?_⟩
    · rw [decide_eq_false (by omega), decide_eq_false (by omega)] <;> rfl
    · rename_i h2 _
      rw [hl]
      have : ((2 : Int) ^ 63 - 1) / n ≥ (2 ^ 63 - 1) / 1000 := by
        have n0 : 0 < n := by omega
        have := (Int.le_ediv_iff_mul_le (a := (2 ^ 63 - 1) / 1000) (b := 2 ^ 63 - 1) n0).mpr (by
          have := Int.mul_le_mul_of_nonneg_left (a := n) (b := 1000) (c := (2 ^ 63 - 1) / 1000) h1 (by decide)
          have e : ((2 : Int) ^ 63 - 1) / 1000 * 1000 ≤ 2 ^ 63 - 1 := by decide
          omega)
        exact this
      have e : ((2 : Int) ^ 63 - 1) / 1000 > 1000 := by decide
      omega
    · unfold Builtin.Str.tooLong
      rw [sizeLine_eq]
      exact decide_eq_false (by omega)
  refine SB.mul ok fun t' k => ?_
  rw [mul_S]
  exact ⟨.str (SX.S (repT z n)), H, I.tok _, ⟨t', rfl⟩, q⟩
end

/-! ### a call with keywords alone -/
section
variable {X : Cx} {CX : CXT} {k : Nat} {f : Addr} {fd : FuncData} {ps ks : List Str} {sp : Sp} {E : XK} {x : Str} {p pos : Pos} {kws : List Keyword} {tk : TA}
/-- the values of the keywords ks, g of them in the parameters' order -/
structure KwOnly (fd : FuncData) (ps ks : List Str) (g : {α : Type} → List α → List α) : Prop where
  to : ∀ (s : Shared) (ws : List Value), ws.length = ks.length → BindsTo s fd ⟨[], ks.zip ws⟩ (ps.zip (g ws))
  rel : ∀ {zs : List V} {ws : List Value}, Vals zs ws → Vals (g zs) (g ws)
def tCallKw (sp : Sp) (n : Nat) (g : {α : Type} → List α → List α) (E : XK) (tk : TA) : TE := fun σ H Q => tk σ H fun zs H1 => zs.length = n ∧ sp (g zs) H1 Q E
theorem pe_callKw {g : {α : Type} → List α → List α} (F : FnOk X.prog X.w X.K X.mg X.base CX k f fd ps sp) (hr : Room k X.A) (hg : Gl X x) (hm : X.mg x = some (.ref f)) (hk : PySem.W.keepIn X.K (.ref f) = true) (hb : KwOnly fd ps ks g) (hx : Passes CX X E)
    (hkw : PK X kws tk) (hall : (backToKw pos (keywordEach kws X.env)).all (·.1.isSome) = true := by rfl) (hks : (backToKw pos (keywordEach kws X.env)).filterMap (·.1) = ks := by rfl) (hdb : (x == ("__debug__" : Str)) = false := by decide)
    (hpl : ((backTo pos (starEach [] X.env)).any (·.1) || (backToKw pos (keywordEach kws X.env)).any (·.1.isNone)) = false := by rfl) : PE X (.Call (.Name x p) [] kws pos) (tCallKw sp ks.length g E tk) := by
  refine ⟨fun pins s σ H Q I h => ?_⟩
  refine wpAny_Call_Name_kw (ld_glob I hg hm ?_ hdb)
  refine PySem.W.callWith_KW0 (h₀ := X.base) I.ok.mod.kin hk hall (thn (hkw.run pos pins s σ H _ I h) fun ws s2 hz => ?_) hpl
  obtain ⟨zs, H2, I2, rz, ln, q2⟩ := hz
  refine ⟨I2.kIn, ?_⟩
  rw [hks]
  have lw : ws.length = ks.length := by
    rw [← ln]
    exact rz.length.symm
  refine wpAny_call (codeAny_mono (F.run X.A X.stack s2 H2 ⟨[], ks.zip ws⟩ (g ws) (g zs) Q E hr I2.env0 (hb.to s2 ws lw) (hb.rel rz) q2) fun r s' hq => ?_)
  match r, hq with
  | .error e, hq => exact hx pins σ H2 s2 e s' I2 hq
  | .ok (.ret u), hq => exact I2.after hq
  | .ok .next, hq => exact False.elim hq
  | .ok .brk, hq => exact False.elim hq
  | .ok .cont, hq => exact False.elim hq
end

/-! ### a def that may ask who is being shown (repr): nothing is -/
section
variable {P : Program} {w : World} {K : PySem.W.Frag} {mg : Str → Option Value} {base : Heap} {k : Nat} {f : Addr} {fd : FuncData} {ps : List Str} {sp : Sp}
structure FnG (P : Program) (w : World) (K : PySem.W.Frag) (mg : Str → Option Value) (base : Heap) (k : Nat) (f : Addr) (fd : FuncData) (ps : List Str) (sp : Sp) : Prop where
  len : ∀ vs H Q E, sp vs H Q E → vs.length = ps.length
  run : ∀ (A : Around) (outer : List Env) (s : Shared) (H : Hp) (args : Args) (us : List Value) (vs : List V) (Q : VK) (E : XK), Room k A → A.guards = some [] →
    Env0 P w K mg base A outer s H → BindsTo s fd args (ps.zip us) → Vals vs us → sp vs H Q E → codeAny (model P w) A (.call (.ref f) args) (CR CX0 outer P w H s Q E) s
theorem FnG.of {x qual : Str} {params : Arguments} {body : List Stmt} {scope : Scope} {dvs : List V} {kws : List (Str × V)} {N : List Str} (F : FunD K x qual params body scope dvs kws f fd) (S : FnScope N ps scope)
    (len : ∀ vs H Q E, sp vs H Q E → vs.length = ps.length)
    (hbody : ∀ (cdv : Value) (A : Around) (outer : List Env) (s : Shared) (H : Hp) (vs : List V) (Q : VK) (E : XK), A.guards = some [] → Room k (A.deeper (envOfC qual scope s.heap.objs.size f cdv)) → sp vs H Q E →
      ∃ t, PSs (cxOf CX0 P w K mg base N qual scope f cdv A outer s H E) body t ∧ t { nx := fun _ H' => Q .non H', rt := Q } (start N vs) H) : FnG P w K mg base (k + 1) f fd ps sp := by
  obtain ⟨oc, od, dV, kV, doc, pm, an, cdv, ct, osl, rfl, lk, hcd, _, _⟩ := F.ex
  refine ⟨len, fun A outer s H args us vs Q E hr hgd e0 hb r hsp => ?_⟩
  have kin : K.In s.heap := e0.mod.kin.keeps fun b o e => (e0.bs b o e).1
  have lim : s.heap.NoLimit := e0.mod.nolimit.keeps fun b o e => (e0.bs b o e).1
  refine codeAny_call_function hr.depth (kin _ _ lk) rfl S.co S.gen rfl (PySem.W.codeRec_of kin hcd) (hb _ _ _ _ ?_)
  refine wpAny_newFunctionEnv_cells S.kind (fun y hy => ?_) fun env he s1 x => ?_
  · rcases S.par y.1 (List.of_mem_zip (a := y.1) (b := y.2) hy).1 with q | q
    · exact .inl q
    · exact .inr ⟨q, PySem.W.cellsFrom_some _ _ _ (.inl q)⟩
  · subst he
    refine ⟨lim.keeps x.toInCall.keep, codeAny_func ?_⟩
    obtain ⟨t, ht, hq⟩ := hbody cdv A outer s H vs Q E hgd (hr.deeper _) hsp
    have I0 := inv_start (CX := CX0) (w := w) (E := E) S hr.hd e0 (len _ _ _ _ hsp) r x
    refine wpAny_mono (ht.run [] s1 (start N vs) H _ I0 hq) (fun fl s' hs => ?_) fun e s' hs => hs
    match fl, hs with
    | .ret u, ⟨v, σ', H', J, rv, q⟩ => exact ⟨v, H', J.os, J.bare, J.base, J.hok, rv, q⟩
    | .next, ⟨σ', H', J, q⟩ => exact ⟨V.non, H', J.os, J.bare, J.base, J.hok, rfl, q⟩
    | .brk, ⟨_, _, _, q⟩ => exact False.elim q
    | .cont, ⟨_, _, _, q⟩ => exact False.elim q
end
section
variable {X : Cx} {k : Nat} {f : Addr} {fd : FuncData} {ps : List Str} {sp : Sp} {x : Str} {p pos : Pos} {e : Expr} {es : List Expr} {t : TA}
theorem pe_callG (F : FnG X.prog X.w X.K X.mg X.base k f fd ps sp) (hgd : X.A.guards = some []) (hr : Room k X.A) (hg : Gl X x) (hm : X.mg x = some (.ref f)) (hk : PySem.W.keepIn X.K (.ref f) = true) (hb : Binds X.K fd ps [])
    (ha : PA X (e :: es) t) (hdb : (x == ("__debug__" : Str)) = false := by decide) (he : starEach (e :: es) X.env = (false, eval e X.env) :: starEach es X.env := by rfl) (hpl : (backTo pos (starEach es X.env)).any (·.1) = false := by rfl) :
    PE X (.Call (.Name x p) (e :: es) [] pos) (tCall sp [] E0 t) := by
  refine ⟨fun pins s σ H Q I h => ?_⟩
  refine wpAny_Call_Name_kw (ld_glob I hg hm ?_ hdb)
  refine PySem.W.callWith_K (h₀ := X.base) I.ok.mod.kin hk (thn (ha.run pos pins s σ H _ I h) fun us s1 hv => ?_) he hpl
  obtain ⟨vs, H1, I1, r, q⟩ := hv
  rw [List.append_nil] at q
  have hl : (us ++ []).length = ps.length := by
    rw [List.append_nil, ← r.length]
    exact F.len _ _ _ _ q
  have b0 := hb s1 us I1.kIn hl
  rw [List.append_nil] at b0
  refine ⟨I1.kIn, wpAny_call (codeAny_mono (F.run X.A X.stack s1 H1 ⟨us, []⟩ us vs Q E0 hr hgd I1.env0 b0 r q) fun r s' hq => ?_)⟩
  match r, hq with
  | .error e, hq => exact False.elim hq
  | .ok (.ret u), hq => exact I1.after hq
  | .ok .next, hq => exact False.elim hq
  | .ok .brk, hq => exact False.elim hq
  | .ok .cont, hq => exact False.elim hq

/-- repr(x) of data -/
def rReprD (K : PySem.W.Frag) : List V → Hp → VK → Prop := fun xs H Q => ∃ x d, xs = [x] ∧ Dp K H x d ∧ d.showable = true ∧ d.hasDict = false ∧ d.depth ≤ 20 ∧ d.shown.length ≤ sizeLine ∧ ((∃ a, x = .ref a) ∨ ∃ z, x = .str z) ∧ Q (.str d.shown) H
theorem cr_reprD (hgd : X.A.guards = some []) (hr : Room k X.A) : CallR X (.builtin "repr") (rReprD X.K) := by
  intro pins s σ H xs us Q I r h
  obtain ⟨x, d, rfl, hd, h1, h2, h3, h4, h5, q⟩ := h
  obtain ⟨u, rfl, ru⟩ := vals1 r
  have hu := hr.units
  rcases h5 with ⟨a, rfl⟩ | ⟨z, rfl⟩
  · cases ru
    obtain ⟨as, rd⟩ := Dp.reads I d _ _ hd rfl
    refine repr_of_reads' rd h1 (fun z => by rw [h2] at z; cases z) hgd (by omega) (fun _ _ e => e) (fun h' u tk hk => ?_) h4
    exact ⟨.str d.shown, H, I.kept (t' := tk) hk, ⟨u, rfl⟩, q⟩
  · obtain ⟨t, rfl⟩ := ru
    cases hd
    exact PySem.P.repr_of_str ⟨.str (reprText z), H, I.tok _, ⟨_, rfl⟩, q⟩ h4
end
end K07

set_option maxRecDepth 100000
set_option maxHeartbeats 4000000
namespace K07
open PySem PySem.Spec PyProof.Rows L2
theorem tuple_times_one (l : Addr) (items : Array Value) (n : Nat) (dd : Option Addr) (sl : Array (Option Value)) (u : Tok) :
    Meets (Builtin.«tuple.__mul__» ⟨[.ref l, .int 1 u], []⟩) (fun _ R s => s.heap.get? l = some { cls := .type "tuple", dict := dd, data := .seq items n, slots := sl } ∧ R (.ok (.ret (Value.ref l))) s) :=
  .of_wp fun prog w A R s h => by
    obtain ⟨hp, g, d, tk, os⟩ := s
    obtain ⟨hl, h⟩ := h
    have f1 := AutoSeq1.idx_int
    wp_walk using AutoSeq1.wpAny_loadPart' hl
    exact ⟨_, rfl, h⟩
/-- a tuple times a number from 1 on -/
def rRepA (K : PySem.W.Frag) : R2 := fun x y H Q => ∃ l k xs, x = .ref l ∧ y = .int k ∧ SqT K H l xs ∧ xs ≠ [] ∧ 1 ≤ k ∧ k ≤ 1000 ∧ xs.length ≤ 1000 ∧ (k = 1 → Q (.ref l) H) ∧
  (2 ≤ k → ∀ p, H p = none → Q (.ref p) (upd H p (.tup (List.replicate k.toNat xs).flatten)))
theorem op_repA {X : Cx} : OpR X (binaryOp .Mult) (rRepA X.K) := by
  intro pins s σ H x y v u Q I rx ry h
  obtain ⟨l, k, xs, rfl, rfl, hT, hne, h1, h2, hz, q1, q2⟩ := h
  by_cases hk : k = 1
  · subst hk
    cases rx
    obtain ⟨t, rfl⟩ := ry
    obtain ⟨its, r, ⟨⟨cls, dd, data, sl⟩, ho, hc, n, hd⟩, hs⟩ := I.tuple hT
    simp only at hc hd
    subst hc hd
    refine wpAny_binaryOp_repeat_ref (T := "tuple") (U := "int") (by decide) ⟨_, ho, rfl⟩ (fun s' => typeIs_int s' 1 t) noFill_tuple_mul F.fills_int_mul F.slot_int_rmul repeat_tuple F.slot_int_index.lookup
      (call_meets F.slot_int_rmul (typeIs_int s 1 t) F.entry_int_rmul (F.args_int_rmul_2 _ _) (int_rmul_tuple 1 t l its.toArray n dd sl) ⟨ho, rfl, ⟨_, ho, rfl⟩, ?_⟩)
    exact call_meets F.slot_tuple_mul ⟨_, ho, rfl⟩ F.entry_tuple_mul (F.args_tuple_mul_2 _ _) (tuple_times_one l its.toArray n dd sl t) ⟨ho, .ref l, H, I, rfl, q1 rfl⟩
  · exact op_repT pins s σ H _ _ v u Q I rx ry ⟨l, k, xs, rfl, rfl, hT, hne, by omega, h2, hz, q2 (by omega)⟩
end K07

set_option maxRecDepth 100000
set_option maxHeartbeats 1000000
/-! the plain law: texts, marks, rows of words -/
namespace K07
open PySem

abbrev Cs := List Nat
def IsL (c : Nat) : Prop := 97 ≤ c ∧ c ≤ 122
def IsD (c : Nat) : Prop := 48 ≤ c ∧ c ≤ 57
instance (c : Nat) : Decidable (IsL c) := inferInstanceAs (Decidable (_ ∧ _))
instance (c : Nat) : Decidable (IsD c) := inferInstanceAs (Decidable (_ ∧ _))

theorem letters_eq : (Str.ofString "abcdefghijklmnopqrstuvwxyz").cps.toList = [97, 98, 99, 100, 101, 102, 103, 104, 105, 106, 107, 108, 109, 110, 111, 112, 113, 114, 115, 116, 117, 118, 119, 120, 121, 122] := by decide +kernel
theorem digits_eq : (Str.ofString "0123456789").cps.toList = [48, 49, 50, 51, 52, 53, 54, 55, 56, 57] := by decide +kernel
theorem mem_letters (c : Nat) : c ∈ (Str.ofString "abcdefghijklmnopqrstuvwxyz").cps.toList ↔ IsL c := by
  rw [letters_eq]
  simp only [List.mem_cons, List.not_mem_nil, or_false, IsL]
  omega
theorem mem_digits (c : Nat) : c ∈ (Str.ofString "0123456789").cps.toList ↔ IsD c := by
  rw [digits_eq]
  simp only [List.mem_cons, List.not_mem_nil, or_false, IsD]
  omega
/-! ### marks of a text -/
/-- the text has just these marks -/
inductive Lex : Cs → List Cs → Prop
  | nil : Lex [] []
  | blank {t : Cs} {ms : List Cs} : Lex t ms → Lex (32 :: t) ms
  | word {w t : Cs} {ms : List Cs} : w ≠ [] → (∀ c ∈ w, IsL c) → (∀ c, t.head? = some c → ¬ IsL c) → Lex t ms → Lex (w ++ t) (w :: ms)
  | num {w t : Cs} {ms : List Cs} : w ≠ [] → (∀ c ∈ w, IsD c) → (∀ c, t.head? = some c → ¬ IsD c) → Lex t ms → Lex (w ++ t) (w :: ms)
  | one {c : Nat} {t : Cs} {ms : List Cs} : ¬ IsL c → ¬ IsD c → c ≠ 32 → Lex t ms → Lex (c :: t) ([c] :: ms)

/-- a mark -/
inductive Mark : Cs → Prop
  | word {w : Cs} : w ≠ [] → (∀ c ∈ w, IsL c) → Mark w
  | num {w : Cs} : w ≠ [] → (∀ c ∈ w, IsD c) → Mark w
  | one {c : Nat} : ¬ IsL c → ¬ IsD c → c ≠ 32 → Mark [c]
theorem Mark.ne {m : Cs} (h : Mark m) : m ≠ [] := by
  cases h with
  | word h _ => exact h
  | num h _ => exact h
  | one _ _ _ => exact List.cons_ne_nil _ _

/-- two marks that would flow together -/
def Near (p m : Cs) : Prop := (∃ c d, p.getLast? = some c ∧ m.head? = some d ∧ IsL c ∧ IsL d) ∨ (∃ c d, p.getLast? = some c ∧ m.head? = some d ∧ IsD c ∧ IsD d)

def glue : List (Nat × Cs) → Cs
  | [] => []
  | (k, m) :: r => List.replicate k 32 ++ (m ++ glue r)
/-- pieces behind a mark p: marks, apart where they must be -/
def Good : Cs → List (Nat × Cs) → Prop
  | _, [] => True
  | p, (k, m) :: r => Mark m ∧ (Near p m → 1 ≤ k) ∧ Good m r
theorem glue_append : ∀ a b : List (Nat × Cs), glue (a ++ b) = glue a ++ glue b
  | [], _ => rfl
  | (k, m) :: r, b => by
    show List.replicate k 32 ++ (m ++ glue (r ++ b)) = (List.replicate k 32 ++ (m ++ glue r)) ++ glue b
    rw [glue_append r b, List.append_assoc, List.append_assoc]
/-- the last mark of pieces behind p -/
def lastM : Cs → List (Nat × Cs) → Cs
  | p, [] => p
  | _, (_, m) :: r => lastM m r
theorem good_append : ∀ (p : Cs) (a b : List (Nat × Cs)), Good p (a ++ b) ↔ Good p a ∧ Good (lastM p a) b
  | p, [], b => ⟨fun h => ⟨trivial, h⟩, fun h => h.2⟩
  | p, (k, m) :: r, b => by
    show (Mark m ∧ (Near p m → 1 ≤ k) ∧ Good m (r ++ b)) ↔ (Mark m ∧ (Near p m → 1 ≤ k) ∧ Good m r) ∧ Good (lastM m r) b
    rw [good_append m r b]
    exact ⟨fun ⟨h1, h2, h3, h4⟩ => ⟨⟨h1, h2, h3⟩, h4⟩, fun ⟨⟨h1, h2, h3⟩, h4⟩ => ⟨h1, h2, h3, h4⟩⟩
theorem lastM_append : ∀ (p : Cs) (a b : List (Nat × Cs)), lastM p (a ++ b) = lastM (lastM p a) b
  | _, [], _ => rfl
  | _, (_, m) :: r, b => lastM_append m r b

theorem Lex.blanks {t : Cs} {ms : List Cs} (h : Lex t ms) : ∀ k : Nat, Lex (List.replicate k 32 ++ t) ms
  | 0 => h
  | k + 1 => by
    rw [List.replicate_succ]
    exact .blank (h.blanks k)
theorem head_blank (k : Nat) (t : Cs) (h : 1 ≤ k) : (List.replicate k 32 ++ t).head? = some 32 := by
  obtain ⟨j, rfl⟩ : ∃ j, k = j + 1 := ⟨k - 1, by omega⟩
  rw [List.replicate_succ] <;> rfl
theorem head_glue {p : Cs} (hp : p ≠ []) {P : Nat → Prop} (h32 : ¬ P 32) (hP : ∀ (c d : Nat) (m : List Nat), p.getLast? = some c → P c → m.head? = some d → P d → Near p m) (hl : ∀ c, p.getLast? = some c → P c) :
    ∀ (ps : List (Nat × Cs)) (e : Nat), Good p ps → ∀ c, (glue ps ++ List.replicate e 32).head? = some c → ¬ P c
  | [], e, _, c, h => by
    cases e with
    | zero => cases h
    | succ e =>
      rw [show glue [] ++ List.replicate (e + 1) 32 = 32 :: List.replicate e 32 from rfl] at h
      cases h
      exact h32
  | (k, m) :: r, e, g, c, h => by
    obtain ⟨hm, hk, _⟩ := g
    rw [show glue ((k, m) :: r) ++ List.replicate e 32 = List.replicate k 32 ++ (m ++ glue r ++ List.replicate e 32) by
      show (List.replicate k 32 ++ (m ++ glue r)) ++ _ = _
      rw [List.append_assoc]] at h
    by_cases h1 : 1 ≤ k
    · rw [head_blank k _ h1] at h
      cases h
      exact h32
    · have k0 : k = 0 := by omega
      subst k0
      obtain ⟨d, m', rfl⟩ := List.exists_cons_of_ne_nil hm.ne
      have h' : (d :: m' ++ glue r ++ List.replicate e 32).head? = some c := h
      have e1 : d = c := Option.some.inj h'
      subst e1
      intro hd
      obtain ⟨cl, ecl⟩ : ∃ cl, p.getLast? = some cl := by
        cases q : p.getLast? with
        | none => exact absurd (List.getLast?_eq_none_iff.mp q) hp
        | some cl => exact ⟨cl, rfl⟩
      exact h1 (hk (hP cl d (d :: m') ecl (hl cl ecl) rfl hd))
theorem lex_glue : ∀ (p : Cs) (ps : List (Nat × Cs)) (e : Nat), Good p ps → Lex (glue ps ++ List.replicate e 32) (ps.map (·.2))
  | _, [], e, _ => by
    have z := Lex.nil.blanks e
    rw [List.append_nil] at z
    exact z
  | p, (k, m) :: r, e, g => by
    obtain ⟨hm, hk, hr⟩ := g
    have ih := lex_glue m r e hr
    have e1 : glue ((k, m) :: r) ++ List.replicate e 32 = List.replicate k 32 ++ (m ++ (glue r ++ List.replicate e 32)) := by
      show (List.replicate k 32 ++ (m ++ glue r)) ++ _ = _
      rw [List.append_assoc, List.append_assoc]
    rw [e1]
    refine Lex.blanks ?_ k
    have last : ∀ c, m.getLast? = some c → c ∈ m := fun c h => List.mem_of_getLast? h
    cases hm with
    | word h1 h2 =>
      exact .word h1 h2 (head_glue h1 (P := IsL) (by unfold IsL; omega) (fun c d m' a b c' d' => Or.inl ⟨c, d, a, c', b, d'⟩) (fun c hc => h2 c (last c hc)) r e hr) ih
    | num h1 h2 =>
      exact .num h1 h2 (head_glue h1 (P := IsD) (by unfold IsD; omega) (fun c d m' a b c' d' => Or.inr ⟨c, d, a, c', b, d'⟩) (fun c hc => h2 c (last c hc)) r e hr) ih
    | one h1 h2 h3 => exact .one h1 h2 h3 ih

/-! ### numbers as texts -/
abbrev numL (n : Nat) : Cs := TL.numL n
theorem numL_d (n : Nat) : ∀ c ∈ numL n, IsD c := fun c hc => TL.numL_digits n c hc
theorem numL_mark (n : Nat) : Mark (numL n) := .num (TL.numL_ne n) (numL_d n)
def intL (i : Int) : Cs := if i < 0 then 45 :: numL i.natAbs else numL i.natAbs
theorem intL_str (i : Int) : Str.ofString (toString i) = SX.S (intL i) := by
  refine TL.ext_tl ?_
  show _ = intL i
  unfold intL
  by_cases h : i < 0
  · rw [if_pos h]
    obtain ⟨m, rfl⟩ : ∃ m : Nat, i = -((m : Int) + 1) := ⟨i.natAbs - 1, by omega⟩
    have e : (-((m : Int) + 1)) = Int.negSucc m := rfl
    rw [e, TL.tl_ofString]
    show (("-" ++ Nat.repr (m + 1) : String)).toList.map Char.toNat = _
    rw [String.toList_append, List.map_append, Nat.toList_repr]
    rfl
  · rw [if_neg h]
    obtain ⟨m, rfl⟩ : ∃ m : Nat, i = (m : Int) := ⟨i.natAbs, by omega⟩
    exact TL.tl_num m
theorem numL_zero : numL 0 = [48] := TL.numL_lt (by decide)
theorem numL_head {n : Nat} (h : n ≠ 0) : (numL n).head? ≠ some 48 := by
  induction n using Nat.strongRecOn with
  | _ n ih =>
    by_cases h10 : n < 10
    · show (TL.numL n).head? ≠ some 48
      rw [TL.numL_lt h10]
      intro e
      have : 48 + n = 48 := Option.some.inj e
      omega
    · have e := TL.numL_step (n := n) (by omega)
      show (TL.numL n).head? ≠ some 48
      rw [e]
      obtain ⟨c, r, er⟩ := List.exists_cons_of_ne_nil (TL.numL_ne (n / 10))
      have z : (TL.numL (n / 10)).head? ≠ some 48 := ih (n / 10) (by omega) (by omega)
      rw [er] at z ⊢
      exact z
theorem numL_mono : ∀ {m n : Nat}, m ≤ n → (numL m).length ≤ (numL n).length := by
  intro m n
  revert m
  induction n using Nat.strongRecOn with
  | _ n ih =>
    intro m h
    by_cases h1 : n < 10
    · show (TL.numL m).length ≤ (TL.numL n).length
      rw [TL.numL_lt h1, TL.numL_lt (by omega)]
      exact Nat.le_refl _
    · by_cases h2 : m < 10
      · show (TL.numL m).length ≤ (TL.numL n).length
        rw [TL.numL_lt h2, TL.numL_step (n := n) (by omega), List.length_append]
        show 1 ≤ _ + 1
        omega
      · show (TL.numL m).length ≤ (TL.numL n).length
        rw [TL.numL_step (n := n) (by omega), TL.numL_step (n := m) (by omega), List.length_append, List.length_append]
        have e : (TL.numL (m / 10)).length ≤ (TL.numL (n / 10)).length := ih (n / 10) (by omega) (Nat.div_le_div_right h)
        show _ + 1 ≤ _ + 1
        omega

/-! ### words and rows -/
inductive Word where
  | nm (n : Cs)
  | it (i : Int)
def Word.text : Word → Cs
  | .nm n => n
  | .it i => intL i
/-- the marks of a number -/
def intM (i : Int) : List Cs := (if i < 0 then [[45]] else []) ++ [numL i.natAbs]
def Word.marks : Word → List Cs
  | .nm n => [n]
  | .it i => intM i
def Word.pieces (k : Nat) : Word → List (Nat × Cs)
  | .nm n => [(k, n)]
  | .it i => if i < 0 then [(k, [45]), (0, numL i.natAbs)] else [(k, numL i.natAbs)]
def IsName (n : Cs) : Prop := 1 ≤ n.length ∧ n.length ≤ 6 ∧ ∀ c ∈ n, IsL c
theorem IsName.ne {n : Cs} (h : IsName n) : n ≠ [] := fun e => by
  rw [e] at h
  exact absurd h.1 (by decide)
theorem IsName.mark {n : Cs} (h : IsName n) : Mark n := .word h.ne h.2.2
def Word.Ok : Word → Prop
  | .nm n => IsName n
  | .it _ => True
theorem pieces_glue (k : Nat) (w : Word) : glue (w.pieces k) = List.replicate k 32 ++ w.text := by
  cases w with
  | nm n =>
    show List.replicate k 32 ++ (n ++ []) = _
    rw [List.append_nil] <;> rfl
  | it i =>
    show glue (if i < 0 then _ else _) = List.replicate k 32 ++ intL i
    unfold intL
    by_cases h : i < 0
    · rw [if_pos h, if_pos h]
      show List.replicate k 32 ++ ([45] ++ ([] ++ (numL i.natAbs ++ []))) = _
      rw [List.append_nil] <;> rfl
    · rw [if_neg h, if_neg h]
      show List.replicate k 32 ++ (numL i.natAbs ++ []) = _
      rw [List.append_nil]
theorem pieces_marks (k : Nat) (w : Word) : (w.pieces k).map (·.2) = w.marks := by
  cases w with
  | nm n => rfl
  | it i =>
    show (if i < 0 then [(k, [45]), (0, numL i.natAbs)] else [(k, numL i.natAbs)]).map (·.2) = (if i < 0 then [[45]] else []) ++ [numL i.natAbs]
    by_cases h : i < 0
    · rw [if_pos h, if_pos h] <;> rfl
    · rw [if_neg h, if_neg h] <;> rfl
theorem mark_minus : Mark [45] := .one (by unfold IsL; omega) (by unfold IsD; omega) (by decide)
theorem mark_line : Mark [10] := .one (by unfold IsL; omega) (by unfold IsD; omega) (by decide)
theorem not_near_minus (p : Cs) : ¬ Near p [45] := by
  rintro (⟨c, d, _, h, _, h2⟩ | ⟨c, d, _, h, _, h2⟩)
  · cases h
    exact absurd h2 (by unfold IsL; omega)
  · cases h
    exact absurd h2 (by unfold IsD; omega)
theorem not_near_of (c0 : Nat) (h1 : ¬ IsL c0) (h2 : ¬ IsD c0) (m : Cs) : ¬ Near [c0] m := by
  rintro (⟨c, d, h, _, q, _⟩ | ⟨c, d, h, _, q, _⟩)
  · cases h
    exact h1 q
  · cases h
    exact h2 q
theorem not_near_to (c0 : Nat) (h1 : ¬ IsL c0) (h2 : ¬ IsD c0) (p : Cs) : ¬ Near p [c0] := by
  rintro (⟨c, d, _, h, _, q⟩ | ⟨c, d, _, h, _, q⟩)
  · cases h
    exact h1 q
  · cases h
    exact h2 q
theorem pieces_good {k : Nat} {w : Word} (hw : w.Ok) {p : Cs} (h : 1 ≤ k ∨ ∀ m, ¬ Near p m) : Good p (w.pieces k) := by
  have hk : ∀ m, Near p m → 1 ≤ k := fun m hn => h.elim id fun z => absurd hn (z m)
  cases w with
  | nm n => exact ⟨IsName.mark hw, hk _, trivial⟩
  | it i =>
    show Good p (if i < 0 then _ else _)
    by_cases hi : i < 0
    · rw [if_pos hi]
      exact ⟨mark_minus, hk _, numL_mark _, fun hn => absurd hn (not_near_of 45 (by unfold IsL; omega) (by unfold IsD; omega) _), trivial⟩
    · rw [if_neg hi]
      exact ⟨numL_mark _, hk _, trivial⟩
/-- a row: its words with a blank between -/
def rowPs : List Word → List (Nat × Cs)
  | [] => []
  | w :: r => w.pieces 0 ++ r.flatMap (Word.pieces 1)
def rowT (r : List Word) : Cs := TL.joinL [32] (r.map Word.text)
def rowM (r : List Word) : List Cs := r.flatMap Word.marks
theorem joinL_cons (S p : Cs) (r : List Cs) : TL.joinL S (p :: r) = p ++ r.flatMap fun q => S ++ q := by
  induction r generalizing p with
  | nil => simp [TL.joinL]
  | cons q r ih =>
    show p ++ (S ++ TL.joinL S (q :: r)) = _
    rw [ih q, List.flatMap_cons, List.append_assoc]
theorem rest_glue : ∀ r : List Word, glue (r.flatMap (Word.pieces 1)) = (r.map Word.text).flatMap fun q => [32] ++ q
  | [] => rfl
  | w :: r => by
    rw [List.flatMap_cons, glue_append, pieces_glue, rest_glue r, List.map_cons, List.flatMap_cons] <;> rfl
theorem row_glue (r : List Word) : glue (rowPs r) = rowT r := by
  cases r with
  | nil => rfl
  | cons w r =>
    show glue (w.pieces 0 ++ _) = TL.joinL [32] (w.text :: r.map Word.text)
    rw [glue_append, pieces_glue, rest_glue, joinL_cons] <;> rfl
theorem rest_marks : ∀ r : List Word, (r.flatMap (Word.pieces 1)).map (·.2) = rowM r
  | [] => rfl
  | w :: r => by
    rw [List.flatMap_cons, List.map_append, pieces_marks, rest_marks r] <;> rfl
theorem row_marks (r : List Word) : (rowPs r).map (·.2) = rowM r := by
  cases r with
  | nil => rfl
  | cons w r =>
    show (w.pieces 0 ++ _).map _ = _
    rw [List.map_append, pieces_marks, rest_marks] <;> rfl
theorem rest_good : ∀ (r : List Word), (∀ w ∈ r, w.Ok) → ∀ p, Good p (r.flatMap (Word.pieces 1))
  | [], _, _ => trivial
  | w :: r, h, p => by
    rw [List.flatMap_cons, good_append]
    exact ⟨pieces_good (h w List.mem_cons_self) (.inl (Nat.le_refl 1)), rest_good r (fun v hv => h v (List.mem_cons_of_mem _ hv)) _⟩
theorem row_good {r : List Word} (h : ∀ w ∈ r, w.Ok) {p : Cs} (hp : ∀ m, ¬ Near p m) : Good p (rowPs r) := by
  cases r with
  | nil => trivial
  | cons w r =>
    show Good p (w.pieces 0 ++ _)
    rw [good_append]
    exact ⟨pieces_good (h w List.mem_cons_self) (.inr hp), rest_good r (fun v hv => h v (List.mem_cons_of_mem _ hv)) _⟩
/-- rows: with a newline between -/
def rowsPs : List (List Word) → List (Nat × Cs)
  | [] => []
  | r :: rs => rowPs r ++ rs.flatMap fun q => (0, [10]) :: rowPs q
def showR (rs : List (List Word)) : Cs := TL.joinL [10] (rs.map rowT)
def marksR : List (List Word) → List Cs
  | [] => []
  | r :: rs => rowM r ++ rs.flatMap fun q => [10] :: rowM q
theorem rows_rest_glue : ∀ rs : List (List Word), glue (rs.flatMap fun q => (0, [10]) :: rowPs q) = (rs.map rowT).flatMap fun q => [10] ++ q
  | [] => rfl
  | r :: rs => by
    rw [List.flatMap_cons, glue_append, rows_rest_glue rs, List.map_cons, List.flatMap_cons]
    show List.replicate 0 32 ++ ([10] ++ glue (rowPs r)) ++ _ = _
    rw [row_glue] <;> rfl
theorem rows_glue (rs : List (List Word)) : glue (rowsPs rs) = showR rs := by
  cases rs with
  | nil => rfl
  | cons r rs =>
    show glue (rowPs r ++ _) = TL.joinL [10] (rowT r :: rs.map rowT)
    rw [glue_append, row_glue, rows_rest_glue, joinL_cons]
theorem rows_rest_marks : ∀ rs : List (List Word), (rs.flatMap fun q => (0, [10]) :: rowPs q).map (·.2) = rs.flatMap fun q => [10] :: rowM q
  | [] => rfl
  | r :: rs => by
    rw [List.flatMap_cons, List.map_append, rows_rest_marks rs, List.flatMap_cons, List.map_cons, row_marks]
theorem rows_marks (rs : List (List Word)) : (rowsPs rs).map (·.2) = marksR rs := by
  cases rs with
  | nil => rfl
  | cons r rs =>
    show (rowPs r ++ _).map _ = _
    rw [List.map_append, row_marks, rows_rest_marks] <;> rfl
theorem not_near_line (m : Cs) : ¬ Near [10] m := not_near_of 10 (by unfold IsL; omega) (by unfold IsD; omega) m
theorem rows_rest_good : ∀ (rs : List (List Word)), (∀ r ∈ rs, ∀ w ∈ r, w.Ok) → ∀ p, Good p (rs.flatMap fun q => (0, [10]) :: rowPs q)
  | [], _, _ => trivial
  | r :: rs, h, p => by
    rw [List.flatMap_cons, good_append]
    refine ⟨⟨mark_line, fun hn => absurd hn (not_near_to 10 (by unfold IsL; omega) (by unfold IsD; omega) p), row_good (h r List.mem_cons_self) not_near_line⟩, ?_⟩
    exact rows_rest_good rs (fun q hq => h q (List.mem_cons_of_mem _ hq)) _
/-- THE SHOWN TEXT has the marks of its rows -/
theorem lex_rows {rs : List (List Word)} (h : ∀ r ∈ rs, ∀ w ∈ r, w.Ok) : Lex (showR rs) (marksR rs) := by
  have g : Good [10] (rowsPs rs) := by
    cases rs with
    | nil => trivial
    | cons r rs =>
      show Good [10] (rowPs r ++ _)
      rw [good_append]
      exact ⟨row_good (h r List.mem_cons_self) not_near_line, rows_rest_good rs (fun q hq => h q (List.mem_cons_of_mem _ hq)) _⟩
  have z := lex_glue [10] (rowsPs rs) 0 g
  rw [rows_glue, rows_marks, List.replicate_zero, List.append_nil] at z
  exact z

/-! ### how many marks -/
def costM (ms : List (List Cs)) : Nat := (ms.map fun m => m.length + 1).sum
theorem marksR_len : ∀ rs : List (List Word), (marksR rs).length + (if rs = [] then 0 else 1) = costM (rs.map rowM)
  | [] => rfl
  | r :: rs => by
    rw [if_neg (List.cons_ne_nil _ _)]
    show (rowM r ++ _).length + 1 = costM (rowM r :: rs.map rowM)
    have aux : ∀ qs : List (List Word), (qs.flatMap fun q => [10] :: rowM q).length = costM (qs.map rowM) := by
      intro qs
      induction qs with
      | nil => rfl
      | cons q qs ih =>
        rw [List.flatMap_cons, List.length_append, ih]
        show (rowM q).length + 1 + costM (qs.map rowM) = (((rowM q).length + 1) :: (qs.map rowM).map fun m : List Cs => m.length + 1).sum
        rw [List.sum_cons] <;> rfl
    rw [List.length_append, aux]
    show _ = (((rowM r).length + 1) :: (rs.map rowM).map fun m : List Cs => m.length + 1).sum
    rw [List.sum_cons]
    show (rowM r).length + costM (rs.map rowM) + 1 = (rowM r).length + 1 + costM (rs.map rowM)
    omega
end K07

set_option maxRecDepth 100000
set_option maxHeartbeats 4000000
/-! contexts; one making rule a def (printed by gen_base.py); readings in small steps -/
namespace K07
open PySem PySem.Spec PyProof.Rows L2
/-- what a proof leans on: the facts of the top, the module's names -/
structure Wd (K : PySem.W.Frag) (mg : Str → Option Value) : Prop where
  says : Says K
  at_ : ∃ h : Heap, K.In h ∧ h.Ns mainGlobals mg
section
variable {P : Program} {w : World} {K : PySem.W.Frag} {mg : Str → Option Value} {base : Heap}
theorem Wd.glo (W : Wd K mg) {x : Str} (i : Nat) (h : faL[i]? = some (.glo x)) : mg x = some (.ref (He.ga K x)) := by
  obtain ⟨hp, X, G⟩ := W.at_
  exact He.glo_ok X G (W.says.fact i h)
theorem Wd.free (W : Wd K mg) {x : Str} (i : Nat) (h : faL[i]? = some (.free x)) : mg x = none := by
  obtain ⟨hp, X, G⟩ := W.at_
  exact He.free_ok X G (W.says.fact i h)
theorem Wd.int (W : Wd K mg) {x : Str} {n : Int} (i : Nat) (h : faL[i]? = some (.int x n)) : ∃ u, mg x = some u ∧ RelV (.int n) u := by
  obtain ⟨hp, X, G⟩ := W.at_
  obtain ⟨t, e⟩ := He.int_ok X G (W.says.fact i h)
  exact ⟨_, e, t, rfl⟩
theorem Wd.str (W : Wd K mg) {x z : Str} (i : Nat) (h : faL[i]? = some (.str x z)) : ∃ u, mg x = some u ∧ RelV (.str z) u := by
  obtain ⟨hp, X, G⟩ := W.at_
  obtain ⟨t, e⟩ := He.str_ok X G (W.says.fact i h)
  exact ⟨_, e, t, rfl⟩
def Len (n : Nat) (sp : Sp) : Prop := ∀ vs H Q E, sp vs H Q E → vs.length = n
/-- a def's body keeps sp -/
def Body (P : Program) (w : World) (K : PySem.W.Frag) (mg : Str → Option Value) (base : Heap) (N : List Str) (qual : Str) (st : Stmt) (f : Addr) (k : Nat) (sp : Sp) : Prop :=
  ∀ (cdv : Value) (A : Around) (outer : List Env) (s : Shared) (H : Hp) (vs : List V) (Q : VK) (E : XK), Room k (A.deeper (envOfC qual (defScope st) s.heap.objs.size f cdv)) → sp vs H Q E →
    ∃ t, PSs (cxOf CX0 P w K mg base N qual (defScope st) f cdv A outer s H E).nox (defBody st) t ∧ t { nx := fun _ H' => Q .non H', rt := Q } (start N vs) H
theorem body_ok {x qual : Str} {st : Stmt} {at_ : Str × Option Str} {fd : FuncData} {N ps : List Str} {k n : Nat} {sp : Sp} (F : FD K x qual st at_ fd) (S : FnScope N ps (defScope st)) (len : Len n sp) (h : Body P w K mg base N qual st (He.fAd K at_) k sp)
    (hn : ps.length = n := by rfl) : FnOk P w K mg base CX0 (k + 1) (He.fAd K at_) fd ps sp := by
  refine F.ok S (fun vs H Q E z => (len vs H Q E z).trans hn.symm) fun cdv A outer s H vs Q E hr hsp => ?_
  obtain ⟨t, h1, h2⟩ := h cdv A outer s H vs Q E hr hsp
  exact ⟨t, h1.nox, h2⟩
end

section
variable {P : Program} {w : World} {K : PySem.W.Frag} {mg : Str → Option Value} {base : Heap}
def N_is_integer : List Str := ["value"]
theorem sc_is_integer : FnScope N_is_integer ["value"] (defScope s_is_integer) := C8.fnScope_by (by decide +kernel)
def N_is_name : List Str := ["value", "sign"]
theorem sc_is_name : FnScope N_is_name ["value"] (defScope s_is_name) := C8.fnScope_by (by decide +kernel)
def N_is_ascending : List Str := ["items", "at"]
theorem sc_is_ascending : FnScope N_is_ascending ["items"] (defScope s_is_ascending) := C8.fnScope_by (by decide +kernel)
def N_are_things : List Str := ["value", "name"]
theorem sc_are_things : FnScope N_are_things ["value"] (defScope s_are_things) := C8.fnScope_by (by decide +kernel)
def N_is_tie : List Str := ["value", "many", "item", "one", "other", "weight"]
theorem sc_is_tie : FnScope N_is_tie ["value", "many"] (defScope s_is_tie) := C8.fnScope_by (by decide +kernel)
def N_Table_init : List Str := ["self", "things", "ties", "at", "tie"]
theorem sc_Table_init : FnScope N_Table_init ["self", "things", "ties"] (defScope s_Table_init) := C8.fnScope_by (by decide +kernel)
def N_ties_with : List Str := ["table", "thing", "at", "tie"]
theorem sc_ties_with : FnScope N_ties_with ["table", "thing"] (defScope s_ties_with) := C8.fnScope_by (by decide +kernel)
def N_nothing_said : List Str := ["table"]
theorem sc_nothing_said : FnScope N_nothing_said ["table"] (defScope s_nothing_said) := C8.fnScope_by (by decide +kernel)
def N_come : List Str := ["times", "thing", "time"]
theorem sc_come : FnScope N_come ["times"] (defScope s_come) := C8.fnScope_by (by decide +kernel)
def N_show_pair : List Str := ["table", "pair"]
theorem sc_show_pair : FnScope N_show_pair ["table", "pair"] (defScope s_show_pair) := C8.fnScope_by (by decide +kernel)
def N_show_table : List Str := ["table", "lines", "thing", "name", "one", "other", "weight"]
theorem sc_show_table : FnScope N_show_table ["table"] (defScope s_show_table) := C8.fnScope_by (by decide +kernel)
def N_show_times : List Str := ["table", "times", "thing"]
theorem sc_show_times : FnScope N_show_times ["table", "times"] (defScope s_show_times) := C8.fnScope_by (by decide +kernel)
def N_show_day : List Str := ["table", "day", "pair", "pairs"]
theorem sc_show_day : FnScope N_show_day ["table", "day"] (defScope s_show_day) := C8.fnScope_by (by decide +kernel)
def N_show_batches : List Str := ["batches", "size"]
theorem sc_show_batches : FnScope N_show_batches ["batches"] (defScope s_show_batches) := C8.fnScope_by (by decide +kernel)
def N_show_lot : List Str := ["table", "lot", "thing"]
theorem sc_show_lot : FnScope N_show_lot ["table", "lot"] (defScope s_show_lot) := C8.fnScope_by (by decide +kernel)
def N_run_end : List Str := ["text", "at", "signs"]
theorem sc_run_end : FnScope N_run_end ["text", "at", "signs"] (defScope s_run_end) := C8.fnScope_by (by decide +kernel)
def N_mark_at : List Str := ["text", "at"]
theorem sc_mark_at : FnScope N_mark_at ["text", "at"] (defScope s_mark_at) := C8.fnScope_by (by decide +kernel)
def N_marks_in : List Str := ["text", "found", "line", "start", "at", "mark"]
theorem sc_marks_in : FnScope N_marks_in ["text"] (defScope s_marks_in) := C8.fnScope_by (by decide +kernel)
def N_numeral_of : List Str := ["mark", "most"]
theorem sc_numeral_of : FnScope N_numeral_of ["mark", "most"] (defScope s_numeral_of) := C8.fnScope_by (by decide +kernel)
def N_said : List Str := ["times", "pairs", "found", "thing", "time"]
theorem sc_said : FnScope N_said ["times", "pairs"] (defScope s_said) := C8.fnScope_by (by decide +kernel)
def N_course_of : List Str := ["table", "day", "found", "pairs"]
theorem sc_course_of : FnScope N_course_of ["table", "day"] (defScope s_course_of) := C8.fnScope_by (by decide +kernel)
def N_times_of : List Str := ["table", "day"]
theorem sc_times_of : FnScope N_times_of ["table", "day"] (defScope s_times_of) := C8.fnScope_by (by decide +kernel)
def N_PairText_init : List Str := ["self", "table", "together"]
theorem sc_PairText_init : FnScope N_PairText_init ["self", "table", "together"] (defScope s_PairText_init) := C8.fnScope_by (by decide +kernel)
def N_PairText_take_name : List Str := ["self", "mark"]
theorem sc_PairText_take_name : FnScope N_PairText_take_name ["self", "mark"] (defScope s_PairText_take_name) := C8.fnScope_by (by decide +kernel)
def N_PairText_take_time : List Str := ["self", "mark", "number", "time"]
theorem sc_PairText_take_time : FnScope N_PairText_take_time ["self", "mark"] (defScope s_PairText_take_time) := C8.fnScope_by (by decide +kernel)
def N_PairText_take : List Str := ["self", "mark"]
theorem sc_PairText_take : FnScope N_PairText_take ["self", "mark"] (defScope s_PairText_take) := C8.fnScope_by (by decide +kernel)
def N_PairText_ends : List Str := ["self"]
theorem sc_PairText_ends : FnScope N_PairText_ends ["self"] (defScope s_PairText_ends) := C8.fnScope_by (by decide +kernel)
def N_PairText_told : List Str := ["self", "pairs"]
theorem sc_PairText_told : FnScope N_PairText_told ["self"] (defScope s_PairText_told) := C8.fnScope_by (by decide +kernel)
def N_BatchesText_init : List Str := ["self"]
theorem sc_BatchesText_init : FnScope N_BatchesText_init ["self"] (defScope s_BatchesText_init) := C8.fnScope_by (by decide +kernel)
def N_BatchesText_take : List Str := ["self", "mark", "number"]
theorem sc_BatchesText_take : FnScope N_BatchesText_take ["self", "mark"] (defScope s_BatchesText_take) := C8.fnScope_by (by decide +kernel)
def N_BatchesText_ends : List Str := ["self"]
theorem sc_BatchesText_ends : FnScope N_BatchesText_ends ["self"] (defScope s_BatchesText_ends) := C8.fnScope_by (by decide +kernel)
def N_BatchesText_told : List Str := ["self"]
theorem sc_BatchesText_told : FnScope N_BatchesText_told ["self"] (defScope s_BatchesText_told) := C8.fnScope_by (by decide +kernel)
def N_LotText_init : List Str := ["self", "table"]
theorem sc_LotText_init : FnScope N_LotText_init ["self", "table"] (defScope s_LotText_init) := C8.fnScope_by (by decide +kernel)
def N_LotText_take : List Str := ["self", "mark"]
theorem sc_LotText_take : FnScope N_LotText_take ["self", "mark"] (defScope s_LotText_take) := C8.fnScope_by (by decide +kernel)
def N_LotText_ends : List Str := ["self"]
theorem sc_LotText_ends : FnScope N_LotText_ends ["self"] (defScope s_LotText_ends) := C8.fnScope_by (by decide +kernel)
def N_LotText_told : List Str := ["self", "name"]
theorem sc_LotText_told : FnScope N_LotText_told ["self"] (defScope s_LotText_told) := C8.fnScope_by (by decide +kernel)
def N_TableText_init : List Str := ["self"]
theorem sc_TableText_init : FnScope N_TableText_init ["self"] (defScope s_TableText_init) := C8.fnScope_by (by decide +kernel)
def N_TableText_lets_name : List Str := ["self", "mark"]
theorem sc_TableText_lets_name : FnScope N_TableText_lets_name ["self", "mark"] (defScope s_TableText_lets_name) := C8.fnScope_by (by decide +kernel)
def N_TableText_add_name : List Str := ["self", "mark"]
theorem sc_TableText_add_name : FnScope N_TableText_add_name ["self", "mark"] (defScope s_TableText_add_name) := C8.fnScope_by (by decide +kernel)
def N_TableText_take_name : List Str := ["self", "mark"]
theorem sc_TableText_take_name : FnScope N_TableText_take_name ["self", "mark"] (defScope s_TableText_take_name) := C8.fnScope_by (by decide +kernel)
def N_TableText_take_weight : List Str := ["self", "mark", "number"]
theorem sc_TableText_take_weight : FnScope N_TableText_take_weight ["self", "mark"] (defScope s_TableText_take_weight) := C8.fnScope_by (by decide +kernel)
def N_TableText_take : List Str := ["self", "mark"]
theorem sc_TableText_take : FnScope N_TableText_take ["self", "mark"] (defScope s_TableText_take) := C8.fnScope_by (by decide +kernel)
def N_TableText_ends : List Str := ["self"]
theorem sc_TableText_ends : FnScope N_TableText_ends ["self"] (defScope s_TableText_ends) := C8.fnScope_by (by decide +kernel)
def N_TableText_told : List Str := ["self", "things", "ties", "one", "other", "weight"]
theorem sc_TableText_told : FnScope N_TableText_told ["self"] (defScope s_TableText_told) := C8.fnScope_by (by decide +kernel)
def N_taken_in : List Str := ["reading", "text", "line", "at", "mark"]
theorem sc_taken_in : FnScope N_taken_in ["reading", "text"] (defScope s_taken_in) := C8.fnScope_by (by decide +kernel)
def N_read_whole : List Str := ["reading", "text", "line", "at"]
theorem sc_read_whole : FnScope N_read_whole ["reading", "text"] (defScope s_read_whole) := C8.fnScope_by (by decide +kernel)
def N_read_table : List Str := ["text"]
theorem sc_read_table : FnScope N_read_table ["text"] (defScope s_read_table) := C8.fnScope_by (by decide +kernel)
def N_read_times : List Str := ["table", "text"]
theorem sc_read_times : FnScope N_read_times ["table", "text"] (defScope s_read_times) := C8.fnScope_by (by decide +kernel)
def N_read_day : List Str := ["table", "text"]
theorem sc_read_day : FnScope N_read_day ["table", "text"] (defScope s_read_day) := C8.fnScope_by (by decide +kernel)
def N_read_batches : List Str := ["text"]
theorem sc_read_batches : FnScope N_read_batches ["text"] (defScope s_read_batches) := C8.fnScope_by (by decide +kernel)
def N_read_lot : List Str := ["table", "text"]
theorem sc_read_lot : FnScope N_read_lot ["table", "text"] (defScope s_read_lot) := C8.fnScope_by (by decide +kernel)
def N_law_heap : List Str := ["_law_script", "_law_cells", "_law_stir", "_law_cell"]
theorem sc_law_heap : FnScope N_law_heap ["_law_script"] (defScope s_law_heap) := C8.fnScope_by (by decide +kernel)
def N_law_draw : List Str := ["_law_heap_here", "_law_many", "_law_rest"]
theorem sc_law_draw : FnScope N_law_draw ["_law_heap_here", "_law_many"] (defScope s_law_draw) := C8.fnScope_by (by decide +kernel)
def N_law_pick : List Str := ["_law_heap_here", "_law_some"]
theorem sc_law_pick : FnScope N_law_pick ["_law_heap_here", "_law_some"] (defScope s_law_pick) := C8.fnScope_by (by decide +kernel)
def N_law_mixed : List Str := ["_law_heap_here", "_law_some", "_law_left", "_law_found", "_law_turn"]
theorem sc_law_mixed : FnScope N_law_mixed ["_law_heap_here", "_law_some"] (defScope s_law_mixed) := C8.fnScope_by (by decide +kernel)
def N_law_names : List Str := ["_law_heap_here", "_law_many", "_law_letters", "_law_front", "_law_found", "_law_at"]
theorem sc_law_names : FnScope N_law_names ["_law_heap_here", "_law_many"] (defScope s_law_names) := C8.fnScope_by (by decide +kernel)
def N_law_integer : List Str := ["_law_heap_here", "_law_most", "_law_wide"]
theorem sc_law_integer : FnScope N_law_integer ["_law_heap_here", "_law_most"] (defScope s_law_integer) := C8.fnScope_by (by decide +kernel)
def N_law_integer_marks : List Str := ["_law_number"]
theorem sc_law_integer_marks : FnScope N_law_integer_marks ["_law_number"] (defScope s_law_integer_marks) := C8.fnScope_by (by decide +kernel)
def N_law_ties : List Str := ["_law_heap_here", "_law_many", "_law_found", "_law_at", "_law_one"]
theorem sc_law_ties : FnScope N_law_ties ["_law_heap_here", "_law_many"] (defScope s_law_ties) := C8.fnScope_by (by decide +kernel)
def N_law_day : List Str := ["_law_heap_here", "_law_many", "_law_left", "_law_found", "_law_turn", "_law_size", "_law_pairs", "_law_thing"]
theorem sc_law_day : FnScope N_law_day ["_law_heap_here", "_law_many"] (defScope s_law_day) := C8.fnScope_by (by decide +kernel)
def N_law_table_lines : List Str := ["_law_heap_here", "_law_things", "_law_ties_here", "_law_found", "_law_used", "_law_tie", "_law_one", "_law_other", "_law_weight", "_law_thing", "_law_at"]
theorem sc_law_table_lines : FnScope N_law_table_lines ["_law_heap_here", "_law_things", "_law_ties_here"] (defScope s_law_table_lines) := C8.fnScope_by (by decide +kernel)
def N_law_day_lines : List Str := ["_law_heap_here", "_law_things", "_law_day_here", "_law_found", "_law_pairs", "_law_row", "_law_thing", "_law_time"]
theorem sc_law_day_lines : FnScope N_law_day_lines ["_law_heap_here", "_law_things", "_law_day_here"] (defScope s_law_day_lines) := C8.fnScope_by (by decide +kernel)
def N_law_spread : List Str := ["_law_heap_here", "_law_lines_here", "_law_found", "_law_many", "_law_line"]
theorem sc_law_spread : FnScope N_law_spread ["_law_heap_here", "_law_lines_here"] (defScope s_law_spread) := C8.fnScope_by (by decide +kernel)
def N_law_glued : List Str := ["_law_heap_here", "_law_marks", "_law_found", "_law_last", "_law_mark", "_law_near"]
theorem sc_law_glued : FnScope N_law_glued ["_law_heap_here", "_law_marks"] (defScope s_law_glued) := C8.fnScope_by (by decide +kernel)
def N_law_lines : List Str := ["_law_rows", "_law_found", "_law_at"]
theorem sc_law_lines : FnScope N_law_lines ["_law_rows"] (defScope s_law_lines) := C8.fnScope_by (by decide +kernel)
def N_law_table_shown : List Str := ["_law_heap_here", "_law_things", "_law_ties_here", "_law_used", "_law_kept", "_law_tie", "_law_rows", "_law_thing", "_law_one", "_law_other", "_law_weight", "_law_table", "_law_due", "_law_text", "_law_told"]
theorem sc_law_table_shown : FnScope N_law_table_shown ["_law_heap_here", "_law_things", "_law_ties_here"] (defScope s_law_table_shown) := C8.fnScope_by (by decide +kernel)
def N_law_days_shown : List Str := ["_law_heap_here", "_law_table", "_law_things", "_law_day_here", "_law_times", "_law_rows", "_law_pairs", "_law_row", "_law_thing", "_law_time", "_law_due", "_law_other"]
theorem sc_law_days_shown : FnScope N_law_days_shown ["_law_heap_here", "_law_table", "_law_things"] (defScope s_law_days_shown) := C8.fnScope_by (by decide +kernel)
def N_law_rows_shown : List Str := ["_law_heap_here", "_law_table", "_law_things", "_law_batches", "_law_at", "_law_due", "_law_size", "_law_lot", "_law_thing"]
theorem sc_law_rows_shown : FnScope N_law_rows_shown ["_law_heap_here", "_law_table", "_law_things"] (defScope s_law_rows_shown) := C8.fnScope_by (by decide +kernel)
def N_law : List Str := ["_law_script", "_law_heap_here", "_law_turn", "_law_many", "_law_things", "_law_ties_here", "_law_table"]
theorem sc_law : FnScope N_law ["_law_script"] (defScope s_law) := C8.fnScope_by (by decide +kernel)
theorem Wd.g_is_integer (W : Wd K mg) : mg "is_integer" = some (.ref (He.ga K "is_integer")) := W.glo 0 rfl
theorem Wd.g_is_name (W : Wd K mg) : mg "is_name" = some (.ref (He.ga K "is_name")) := W.glo 1 rfl
theorem Wd.g_is_ascending (W : Wd K mg) : mg "is_ascending" = some (.ref (He.ga K "is_ascending")) := W.glo 2 rfl
theorem Wd.g_are_things (W : Wd K mg) : mg "are_things" = some (.ref (He.ga K "are_things")) := W.glo 3 rfl
theorem Wd.g_is_tie (W : Wd K mg) : mg "is_tie" = some (.ref (He.ga K "is_tie")) := W.glo 4 rfl
theorem Wd.g_ties_with (W : Wd K mg) : mg "ties_with" = some (.ref (He.ga K "ties_with")) := W.glo 5 rfl
theorem Wd.g_nothing_said (W : Wd K mg) : mg "nothing_said" = some (.ref (He.ga K "nothing_said")) := W.glo 6 rfl
theorem Wd.g_come (W : Wd K mg) : mg "come" = some (.ref (He.ga K "come")) := W.glo 7 rfl
theorem Wd.g_show_pair (W : Wd K mg) : mg "show_pair" = some (.ref (He.ga K "show_pair")) := W.glo 8 rfl
theorem Wd.g_show_table (W : Wd K mg) : mg "show_table" = some (.ref (He.ga K "show_table")) := W.glo 9 rfl
theorem Wd.g_show_times (W : Wd K mg) : mg "show_times" = some (.ref (He.ga K "show_times")) := W.glo 10 rfl
theorem Wd.g_show_day (W : Wd K mg) : mg "show_day" = some (.ref (He.ga K "show_day")) := W.glo 11 rfl
theorem Wd.g_show_batches (W : Wd K mg) : mg "show_batches" = some (.ref (He.ga K "show_batches")) := W.glo 12 rfl
theorem Wd.g_show_lot (W : Wd K mg) : mg "show_lot" = some (.ref (He.ga K "show_lot")) := W.glo 13 rfl
theorem Wd.g_run_end (W : Wd K mg) : mg "run_end" = some (.ref (He.ga K "run_end")) := W.glo 14 rfl
theorem Wd.g_mark_at (W : Wd K mg) : mg "mark_at" = some (.ref (He.ga K "mark_at")) := W.glo 15 rfl
theorem Wd.g_marks_in (W : Wd K mg) : mg "marks_in" = some (.ref (He.ga K "marks_in")) := W.glo 16 rfl
theorem Wd.g_numeral_of (W : Wd K mg) : mg "numeral_of" = some (.ref (He.ga K "numeral_of")) := W.glo 17 rfl
theorem Wd.g_said (W : Wd K mg) : mg "said" = some (.ref (He.ga K "said")) := W.glo 18 rfl
theorem Wd.g_course_of (W : Wd K mg) : mg "course_of" = some (.ref (He.ga K "course_of")) := W.glo 19 rfl
theorem Wd.g_times_of (W : Wd K mg) : mg "times_of" = some (.ref (He.ga K "times_of")) := W.glo 20 rfl
theorem Wd.g_taken_in (W : Wd K mg) : mg "taken_in" = some (.ref (He.ga K "taken_in")) := W.glo 21 rfl
theorem Wd.g_read_whole (W : Wd K mg) : mg "read_whole" = some (.ref (He.ga K "read_whole")) := W.glo 22 rfl
theorem Wd.g_read_table (W : Wd K mg) : mg "read_table" = some (.ref (He.ga K "read_table")) := W.glo 23 rfl
theorem Wd.g_read_times (W : Wd K mg) : mg "read_times" = some (.ref (He.ga K "read_times")) := W.glo 24 rfl
theorem Wd.g_read_day (W : Wd K mg) : mg "read_day" = some (.ref (He.ga K "read_day")) := W.glo 25 rfl
theorem Wd.g_read_batches (W : Wd K mg) : mg "read_batches" = some (.ref (He.ga K "read_batches")) := W.glo 26 rfl
theorem Wd.g_read_lot (W : Wd K mg) : mg "read_lot" = some (.ref (He.ga K "read_lot")) := W.glo 27 rfl
theorem Wd.g_law_heap (W : Wd K mg) : mg "_law_heap" = some (.ref (He.ga K "_law_heap")) := W.glo 28 rfl
theorem Wd.g_law_draw (W : Wd K mg) : mg "_law_draw" = some (.ref (He.ga K "_law_draw")) := W.glo 29 rfl
theorem Wd.g_law_pick (W : Wd K mg) : mg "_law_pick" = some (.ref (He.ga K "_law_pick")) := W.glo 30 rfl
theorem Wd.g_law_mixed (W : Wd K mg) : mg "_law_mixed" = some (.ref (He.ga K "_law_mixed")) := W.glo 31 rfl
theorem Wd.g_law_names (W : Wd K mg) : mg "_law_names" = some (.ref (He.ga K "_law_names")) := W.glo 32 rfl
theorem Wd.g_law_integer (W : Wd K mg) : mg "_law_integer" = some (.ref (He.ga K "_law_integer")) := W.glo 33 rfl
theorem Wd.g_law_integer_marks (W : Wd K mg) : mg "_law_integer_marks" = some (.ref (He.ga K "_law_integer_marks")) := W.glo 34 rfl
theorem Wd.g_law_ties (W : Wd K mg) : mg "_law_ties" = some (.ref (He.ga K "_law_ties")) := W.glo 35 rfl
theorem Wd.g_law_day (W : Wd K mg) : mg "_law_day" = some (.ref (He.ga K "_law_day")) := W.glo 36 rfl
theorem Wd.g_law_table_lines (W : Wd K mg) : mg "_law_table_lines" = some (.ref (He.ga K "_law_table_lines")) := W.glo 37 rfl
theorem Wd.g_law_day_lines (W : Wd K mg) : mg "_law_day_lines" = some (.ref (He.ga K "_law_day_lines")) := W.glo 38 rfl
theorem Wd.g_law_spread (W : Wd K mg) : mg "_law_spread" = some (.ref (He.ga K "_law_spread")) := W.glo 39 rfl
theorem Wd.g_law_glued (W : Wd K mg) : mg "_law_glued" = some (.ref (He.ga K "_law_glued")) := W.glo 40 rfl
theorem Wd.g_law_lines (W : Wd K mg) : mg "_law_lines" = some (.ref (He.ga K "_law_lines")) := W.glo 41 rfl
theorem Wd.g_law_table_shown (W : Wd K mg) : mg "_law_table_shown" = some (.ref (He.ga K "_law_table_shown")) := W.glo 42 rfl
theorem Wd.g_law_days_shown (W : Wd K mg) : mg "_law_days_shown" = some (.ref (He.ga K "_law_days_shown")) := W.glo 43 rfl
theorem Wd.g_law_rows_shown (W : Wd K mg) : mg "_law_rows_shown" = some (.ref (He.ga K "_law_rows_shown")) := W.glo 44 rfl
theorem Wd.g_law (W : Wd K mg) : mg "law" = some (.ref (He.ga K "law")) := W.glo 45 rfl
theorem Wd.g_Table (W : Wd K mg) : mg "Table" = some (.ref (He.ga K "Table")) := W.glo 46 rfl
theorem Wd.g_PairText (W : Wd K mg) : mg "PairText" = some (.ref (He.ga K "PairText")) := W.glo 47 rfl
theorem Wd.g_BatchesText (W : Wd K mg) : mg "BatchesText" = some (.ref (He.ga K "BatchesText")) := W.glo 48 rfl
theorem Wd.g_LotText (W : Wd K mg) : mg "LotText" = some (.ref (He.ga K "LotText")) := W.glo 49 rfl
theorem Wd.g_TableText (W : Wd K mg) : mg "TableText" = some (.ref (He.ga K "TableText")) := W.glo 50 rfl
theorem Wd.z_isinstance (W : Wd K mg) : mg "isinstance" = none := W.free 51 rfl
theorem Wd.z_int (W : Wd K mg) : mg "int" = none := W.free 52 rfl
theorem Wd.z_bool (W : Wd K mg) : mg "bool" = none := W.free 53 rfl
theorem Wd.z_str (W : Wd K mg) : mg "str" = none := W.free 54 rfl
theorem Wd.z_len (W : Wd K mg) : mg "len" = none := W.free 55 rfl
theorem Wd.z_all (W : Wd K mg) : mg "all" = none := W.free 56 rfl
theorem Wd.z_range (W : Wd K mg) : mg "range" = none := W.free 57 rfl
theorem Wd.z_tuple (W : Wd K mg) : mg "tuple" = none := W.free 58 rfl
theorem Wd.z_abs (W : Wd K mg) : mg "abs" = none := W.free 59 rfl
theorem Wd.z_enumerate (W : Wd K mg) : mg "enumerate" = none := W.free 60 rfl
theorem Wd.z_list (W : Wd K mg) : mg "list" = none := W.free 61 rfl
theorem Wd.z_sorted (W : Wd K mg) : mg "sorted" = none := W.free 62 rfl
theorem Wd.z_repr (W : Wd K mg) : mg "repr" = none := W.free 63 rfl
theorem Wd.i_LONGEST_NAME (W : Wd K mg) : ∃ u, mg "LONGEST_NAME" = some u ∧ RelV (.int 6) u := W.int 64 rfl
theorem Wd.i_MOST_THINGS (W : Wd K mg) : ∃ u, mg "MOST_THINGS" = some u ∧ RelV (.int 12) u := W.int 65 rfl
theorem Wd.i_MOST_TIES (W : Wd K mg) : ∃ u, mg "MOST_TIES" = some u ∧ RelV (.int 60) u := W.int 66 rfl
theorem Wd.i_MOST_WEIGHT (W : Wd K mg) : ∃ u, mg "MOST_WEIGHT" = some u ∧ RelV (.int 1000000) u := W.int 67 rfl
theorem Wd.i_MOST_TIME (W : Wd K mg) : ∃ u, mg "MOST_TIME" = some u ∧ RelV (.int 1000000000) u := W.int 68 rfl
theorem Wd.i_MOST_BATCHES (W : Wd K mg) : ∃ u, mg "MOST_BATCHES" = some u ∧ RelV (.int 60) u := W.int 69 rfl
theorem Wd.i_MOST_IN_BATCH (W : Wd K mg) : ∃ u, mg "MOST_IN_BATCH" = some u ∧ RelV (.int 100) u := W.int 70 rfl
theorem Wd.s_LETTERS (W : Wd K mg) : ∃ u, mg "LETTERS" = some u ∧ RelV (.str "abcdefghijklmnopqrstuvwxyz") u := W.str 71 rfl
theorem Wd.s_DIGITS (W : Wd K mg) : ∃ u, mg "DIGITS" = some u ∧ RelV (.str "0123456789") u := W.str 72 rfl
theorem Wd.c_Table (W : Wd K mg) : Cls K (He.ga K "Table") := He.cls_ok (W.says.fact 73 (f := .cls "Table") rfl)
theorem Wd.k_Table (W : Wd K mg) : Mk K (He.ga K "Table") (He.ma K (He.ga K "Table") "__init__") := He.mkr_ok (W.says.fact 74 (f := .mkr "Table") rfl)
theorem Wd.n_Table_things (W : Wd K mg) : NoAttr K (He.ga K "Table") "things" := He.noat_ok (W.says.fact 75 (f := .noat "Table" "things") rfl)
theorem Wd.n_Table_ties (W : Wd K mg) : NoAttr K (He.ga K "Table") "ties" := He.noat_ok (W.says.fact 76 (f := .noat "Table" "ties") rfl)
theorem Wd.c_PairText (W : Wd K mg) : Cls K (He.ga K "PairText") := He.cls_ok (W.says.fact 77 (f := .cls "PairText") rfl)
theorem Wd.k_PairText (W : Wd K mg) : Mk K (He.ga K "PairText") (He.ma K (He.ga K "PairText") "__init__") := He.mkr_ok (W.says.fact 78 (f := .mkr "PairText") rfl)
theorem Wd.n_PairText_table (W : Wd K mg) : NoAttr K (He.ga K "PairText") "table" := He.noat_ok (W.says.fact 79 (f := .noat "PairText" "table") rfl)
theorem Wd.n_PairText_together (W : Wd K mg) : NoAttr K (He.ga K "PairText") "together" := He.noat_ok (W.says.fact 80 (f := .noat "PairText" "together") rfl)
theorem Wd.n_PairText_batches (W : Wd K mg) : NoAttr K (He.ga K "PairText") "batches" := He.noat_ok (W.says.fact 81 (f := .noat "PairText" "batches") rfl)
theorem Wd.n_PairText_come (W : Wd K mg) : NoAttr K (He.ga K "PairText") "come" := He.noat_ok (W.says.fact 82 (f := .noat "PairText" "come") rfl)
theorem Wd.n_PairText_stage (W : Wd K mg) : NoAttr K (He.ga K "PairText") "stage" := He.noat_ok (W.says.fact 83 (f := .noat "PairText" "stage") rfl)
theorem Wd.c_BatchesText (W : Wd K mg) : Cls K (He.ga K "BatchesText") := He.cls_ok (W.says.fact 84 (f := .cls "BatchesText") rfl)
theorem Wd.k_BatchesText (W : Wd K mg) : Mk K (He.ga K "BatchesText") (He.ma K (He.ga K "BatchesText") "__init__") := He.mkr_ok (W.says.fact 85 (f := .mkr "BatchesText") rfl)
theorem Wd.n_BatchesText_sizes (W : Wd K mg) : NoAttr K (He.ga K "BatchesText") "sizes" := He.noat_ok (W.says.fact 86 (f := .noat "BatchesText" "sizes") rfl)
theorem Wd.c_LotText (W : Wd K mg) : Cls K (He.ga K "LotText") := He.cls_ok (W.says.fact 87 (f := .cls "LotText") rfl)
theorem Wd.k_LotText (W : Wd K mg) : Mk K (He.ga K "LotText") (He.ma K (He.ga K "LotText") "__init__") := He.mkr_ok (W.says.fact 88 (f := .mkr "LotText") rfl)
theorem Wd.n_LotText_table (W : Wd K mg) : NoAttr K (He.ga K "LotText") "table" := He.noat_ok (W.says.fact 89 (f := .noat "LotText" "table") rfl)
theorem Wd.n_LotText_names (W : Wd K mg) : NoAttr K (He.ga K "LotText") "names" := He.noat_ok (W.says.fact 90 (f := .noat "LotText" "names") rfl)
theorem Wd.c_TableText (W : Wd K mg) : Cls K (He.ga K "TableText") := He.cls_ok (W.says.fact 91 (f := .cls "TableText") rfl)
theorem Wd.k_TableText (W : Wd K mg) : Mk K (He.ga K "TableText") (He.ma K (He.ga K "TableText") "__init__") := He.mkr_ok (W.says.fact 92 (f := .mkr "TableText") rfl)
theorem Wd.n_TableText_names (W : Wd K mg) : NoAttr K (He.ga K "TableText") "names" := He.noat_ok (W.says.fact 93 (f := .noat "TableText" "names") rfl)
theorem Wd.n_TableText_ties (W : Wd K mg) : NoAttr K (He.ga K "TableText") "ties" := He.noat_ok (W.says.fact 94 (f := .noat "TableText" "ties") rfl)
theorem Wd.n_TableText_stage (W : Wd K mg) : NoAttr K (He.ga K "TableText") "stage" := He.noat_ok (W.says.fact 95 (f := .noat "TableText" "stage") rfl)
theorem Wd.n_TableText_pair (W : Wd K mg) : NoAttr K (He.ga K "TableText") "pair" := He.noat_ok (W.says.fact 96 (f := .noat "TableText" "pair") rfl)
theorem Wd.m_PairText_take_name (W : Wd K mg) : Meth K (He.ga K "PairText") "take_name" (He.ma K (He.ga K "PairText") "take_name") := He.meth_ok (W.says.fact 97 (f := .meth "PairText" "take_name") rfl)
theorem Wd.m_PairText_take_time (W : Wd K mg) : Meth K (He.ga K "PairText") "take_time" (He.ma K (He.ga K "PairText") "take_time") := He.meth_ok (W.says.fact 98 (f := .meth "PairText" "take_time") rfl)
theorem Wd.m_PairText_take (W : Wd K mg) : Meth K (He.ga K "PairText") "take" (He.ma K (He.ga K "PairText") "take") := He.meth_ok (W.says.fact 99 (f := .meth "PairText" "take") rfl)
theorem Wd.m_PairText_ends (W : Wd K mg) : Meth K (He.ga K "PairText") "ends" (He.ma K (He.ga K "PairText") "ends") := He.meth_ok (W.says.fact 100 (f := .meth "PairText" "ends") rfl)
theorem Wd.m_PairText_told (W : Wd K mg) : Meth K (He.ga K "PairText") "told" (He.ma K (He.ga K "PairText") "told") := He.meth_ok (W.says.fact 101 (f := .meth "PairText" "told") rfl)
theorem Wd.m_BatchesText_take (W : Wd K mg) : Meth K (He.ga K "BatchesText") "take" (He.ma K (He.ga K "BatchesText") "take") := He.meth_ok (W.says.fact 102 (f := .meth "BatchesText" "take") rfl)
theorem Wd.m_BatchesText_ends (W : Wd K mg) : Meth K (He.ga K "BatchesText") "ends" (He.ma K (He.ga K "BatchesText") "ends") := He.meth_ok (W.says.fact 103 (f := .meth "BatchesText" "ends") rfl)
theorem Wd.m_BatchesText_told (W : Wd K mg) : Meth K (He.ga K "BatchesText") "told" (He.ma K (He.ga K "BatchesText") "told") := He.meth_ok (W.says.fact 104 (f := .meth "BatchesText" "told") rfl)
theorem Wd.m_LotText_take (W : Wd K mg) : Meth K (He.ga K "LotText") "take" (He.ma K (He.ga K "LotText") "take") := He.meth_ok (W.says.fact 105 (f := .meth "LotText" "take") rfl)
theorem Wd.m_LotText_ends (W : Wd K mg) : Meth K (He.ga K "LotText") "ends" (He.ma K (He.ga K "LotText") "ends") := He.meth_ok (W.says.fact 106 (f := .meth "LotText" "ends") rfl)
theorem Wd.m_LotText_told (W : Wd K mg) : Meth K (He.ga K "LotText") "told" (He.ma K (He.ga K "LotText") "told") := He.meth_ok (W.says.fact 107 (f := .meth "LotText" "told") rfl)
theorem Wd.m_TableText_lets_name (W : Wd K mg) : Meth K (He.ga K "TableText") "lets_name" (He.ma K (He.ga K "TableText") "lets_name") := He.meth_ok (W.says.fact 108 (f := .meth "TableText" "lets_name") rfl)
theorem Wd.m_TableText_add_name (W : Wd K mg) : Meth K (He.ga K "TableText") "add_name" (He.ma K (He.ga K "TableText") "add_name") := He.meth_ok (W.says.fact 109 (f := .meth "TableText" "add_name") rfl)
theorem Wd.m_TableText_take_name (W : Wd K mg) : Meth K (He.ga K "TableText") "take_name" (He.ma K (He.ga K "TableText") "take_name") := He.meth_ok (W.says.fact 110 (f := .meth "TableText" "take_name") rfl)
theorem Wd.m_TableText_take_weight (W : Wd K mg) : Meth K (He.ga K "TableText") "take_weight" (He.ma K (He.ga K "TableText") "take_weight") := He.meth_ok (W.says.fact 111 (f := .meth "TableText" "take_weight") rfl)
theorem Wd.m_TableText_take (W : Wd K mg) : Meth K (He.ga K "TableText") "take" (He.ma K (He.ga K "TableText") "take") := He.meth_ok (W.says.fact 112 (f := .meth "TableText" "take") rfl)
theorem Wd.m_TableText_ends (W : Wd K mg) : Meth K (He.ga K "TableText") "ends" (He.ma K (He.ga K "TableText") "ends") := He.meth_ok (W.says.fact 113 (f := .meth "TableText" "ends") rfl)
theorem Wd.m_TableText_told (W : Wd K mg) : Meth K (He.ga K "TableText") "told" (He.ma K (He.ga K "TableText") "told") := He.meth_ok (W.says.fact 114 (f := .meth "TableText" "told") rfl)
theorem mk_is_integer (W : Wd K mg) {k : Nat} {sp : Sp} (len : Len 1 sp) (h : Body P w K mg base N_is_integer "is_integer" s_is_integer (He.fAd K ("is_integer", none)) k sp) : C8.Cal P w K mg base (k + 1) "is_integer" sp [] := by
  obtain ⟨fd, F⟩ := W.says.f_is_integer
  exact ⟨_, fd, ["value"], [], body_ok F sc_is_integer len h, W.g_is_integer, F.kp, F.bindsN (fun _ _ _ _ _ _ us hl => match us, hl with | [_], _ => rfl), .nil⟩
theorem mk_is_name (W : Wd K mg) {k : Nat} {sp : Sp} (len : Len 1 sp) (h : Body P w K mg base N_is_name "is_name" s_is_name (He.fAd K ("is_name", none)) k sp) : C8.Cal P w K mg base (k + 1) "is_name" sp [] := by
  obtain ⟨fd, F⟩ := W.says.f_is_name
  exact ⟨_, fd, ["value"], [], body_ok F sc_is_name len h, W.g_is_name, F.kp, F.bindsN (fun _ _ _ _ _ _ us hl => match us, hl with | [_], _ => rfl), .nil⟩
theorem mk_is_ascending (W : Wd K mg) {k : Nat} {sp : Sp} (len : Len 1 sp) (h : Body P w K mg base N_is_ascending "is_ascending" s_is_ascending (He.fAd K ("is_ascending", none)) k sp) : C8.Cal P w K mg base (k + 1) "is_ascending" sp [] := by
  obtain ⟨fd, F⟩ := W.says.f_is_ascending
  exact ⟨_, fd, ["items"], [], body_ok F sc_is_ascending len h, W.g_is_ascending, F.kp, F.bindsN (fun _ _ _ _ _ _ us hl => match us, hl with | [_], _ => rfl), .nil⟩
theorem mk_are_things (W : Wd K mg) {k : Nat} {sp : Sp} (len : Len 1 sp) (h : Body P w K mg base N_are_things "are_things" s_are_things (He.fAd K ("are_things", none)) k sp) : C8.Cal P w K mg base (k + 1) "are_things" sp [] := by
  obtain ⟨fd, F⟩ := W.says.f_are_things
  exact ⟨_, fd, ["value"], [], body_ok F sc_are_things len h, W.g_are_things, F.kp, F.bindsN (fun _ _ _ _ _ _ us hl => match us, hl with | [_], _ => rfl), .nil⟩
theorem mk_is_tie (W : Wd K mg) {k : Nat} {sp : Sp} (len : Len 2 sp) (h : Body P w K mg base N_is_tie "is_tie" s_is_tie (He.fAd K ("is_tie", none)) k sp) : C8.Cal P w K mg base (k + 1) "is_tie" sp [] := by
  obtain ⟨fd, F⟩ := W.says.f_is_tie
  exact ⟨_, fd, ["value", "many"], [], body_ok F sc_is_tie len h, W.g_is_tie, F.kp, F.bindsN (fun _ _ _ _ _ _ us hl => match us, hl with | [_, _], _ => rfl), .nil⟩
theorem mk_Table_init (W : Wd K mg) {k : Nat} {sp : Sp} (len : Len 3 sp) (h : Body P w K mg base N_Table_init "Table.__init__" s_Table_init (He.fAd K ("Table", some "__init__")) k sp) : C8.Mak P w K mg base (k + 1) "Table" (He.ga K "Table") sp [] := by
  obtain ⟨fd, F⟩ := W.says.f_Table_init
  exact ⟨_, fd, ["self", "things", "ties"], [], W.k_Table, body_ok F sc_Table_init len h, W.g_Table, F.bindsN (fun _ _ _ _ _ _ us hl => match us, hl with | [_, _, _], _ => rfl), .nil⟩
theorem mk_ties_with (W : Wd K mg) {k : Nat} {sp : Sp} (len : Len 2 sp) (h : Body P w K mg base N_ties_with "ties_with" s_ties_with (He.fAd K ("ties_with", none)) k sp) : C8.Cal P w K mg base (k + 1) "ties_with" sp [] := by
  obtain ⟨fd, F⟩ := W.says.f_ties_with
  exact ⟨_, fd, ["table", "thing"], [], body_ok F sc_ties_with len h, W.g_ties_with, F.kp, F.bindsN (fun _ _ _ _ _ _ us hl => match us, hl with | [_, _], _ => rfl), .nil⟩
theorem mk_nothing_said (W : Wd K mg) {k : Nat} {sp : Sp} (len : Len 1 sp) (h : Body P w K mg base N_nothing_said "nothing_said" s_nothing_said (He.fAd K ("nothing_said", none)) k sp) : C8.Cal P w K mg base (k + 1) "nothing_said" sp [] := by
  obtain ⟨fd, F⟩ := W.says.f_nothing_said
  exact ⟨_, fd, ["table"], [], body_ok F sc_nothing_said len h, W.g_nothing_said, F.kp, F.bindsN (fun _ _ _ _ _ _ us hl => match us, hl with | [_], _ => rfl), .nil⟩
theorem mk_come (W : Wd K mg) {k : Nat} {sp : Sp} (len : Len 1 sp) (h : Body P w K mg base N_come "come" s_come (He.fAd K ("come", none)) k sp) : C8.Cal P w K mg base (k + 1) "come" sp [] := by
  obtain ⟨fd, F⟩ := W.says.f_come
  exact ⟨_, fd, ["times"], [], body_ok F sc_come len h, W.g_come, F.kp, F.bindsN (fun _ _ _ _ _ _ us hl => match us, hl with | [_], _ => rfl), .nil⟩
theorem mk_show_pair (W : Wd K mg) {k : Nat} {sp : Sp} (len : Len 2 sp) (h : Body P w K mg base N_show_pair "show_pair" s_show_pair (He.fAd K ("show_pair", none)) k sp) : C8.Cal P w K mg base (k + 1) "show_pair" sp [] := by
  obtain ⟨fd, F⟩ := W.says.f_show_pair
  exact ⟨_, fd, ["table", "pair"], [], body_ok F sc_show_pair len h, W.g_show_pair, F.kp, F.bindsN (fun _ _ _ _ _ _ us hl => match us, hl with | [_, _], _ => rfl), .nil⟩
theorem mk_show_table (W : Wd K mg) {k : Nat} {sp : Sp} (len : Len 1 sp) (h : Body P w K mg base N_show_table "show_table" s_show_table (He.fAd K ("show_table", none)) k sp) : C8.Cal P w K mg base (k + 1) "show_table" sp [] := by
  obtain ⟨fd, F⟩ := W.says.f_show_table
  exact ⟨_, fd, ["table"], [], body_ok F sc_show_table len h, W.g_show_table, F.kp, F.bindsN (fun _ _ _ _ _ _ us hl => match us, hl with | [_], _ => rfl), .nil⟩
theorem mk_show_times (W : Wd K mg) {k : Nat} {sp : Sp} (len : Len 2 sp) (h : Body P w K mg base N_show_times "show_times" s_show_times (He.fAd K ("show_times", none)) k sp) : C8.Cal P w K mg base (k + 1) "show_times" sp [] := by
  obtain ⟨fd, F⟩ := W.says.f_show_times
  exact ⟨_, fd, ["table", "times"], [], body_ok F sc_show_times len h, W.g_show_times, F.kp, F.bindsN (fun _ _ _ _ _ _ us hl => match us, hl with | [_, _], _ => rfl), .nil⟩
theorem mk_show_day (W : Wd K mg) {k : Nat} {sp : Sp} (len : Len 2 sp) (h : Body P w K mg base N_show_day "show_day" s_show_day (He.fAd K ("show_day", none)) k sp) : C8.Cal P w K mg base (k + 1) "show_day" sp [] := by
  obtain ⟨fd, F⟩ := W.says.f_show_day
  exact ⟨_, fd, ["table", "day"], [], body_ok F sc_show_day len h, W.g_show_day, F.kp, F.bindsN (fun _ _ _ _ _ _ us hl => match us, hl with | [_, _], _ => rfl), .nil⟩
theorem mk_show_batches (W : Wd K mg) {k : Nat} {sp : Sp} (len : Len 1 sp) (h : Body P w K mg base N_show_batches "show_batches" s_show_batches (He.fAd K ("show_batches", none)) k sp) : C8.Cal P w K mg base (k + 1) "show_batches" sp [] := by
  obtain ⟨fd, F⟩ := W.says.f_show_batches
  exact ⟨_, fd, ["batches"], [], body_ok F sc_show_batches len h, W.g_show_batches, F.kp, F.bindsN (fun _ _ _ _ _ _ us hl => match us, hl with | [_], _ => rfl), .nil⟩
theorem mk_show_lot (W : Wd K mg) {k : Nat} {sp : Sp} (len : Len 2 sp) (h : Body P w K mg base N_show_lot "show_lot" s_show_lot (He.fAd K ("show_lot", none)) k sp) : C8.Cal P w K mg base (k + 1) "show_lot" sp [] := by
  obtain ⟨fd, F⟩ := W.says.f_show_lot
  exact ⟨_, fd, ["table", "lot"], [], body_ok F sc_show_lot len h, W.g_show_lot, F.kp, F.bindsN (fun _ _ _ _ _ _ us hl => match us, hl with | [_, _], _ => rfl), .nil⟩
theorem mk_run_end (W : Wd K mg) {k : Nat} {sp : Sp} (len : Len 3 sp) (h : Body P w K mg base N_run_end "run_end" s_run_end (He.fAd K ("run_end", none)) k sp) : C8.Cal P w K mg base (k + 1) "run_end" sp [] := by
  obtain ⟨fd, F⟩ := W.says.f_run_end
  exact ⟨_, fd, ["text", "at", "signs"], [], body_ok F sc_run_end len h, W.g_run_end, F.kp, F.bindsN (fun _ _ _ _ _ _ us hl => match us, hl with | [_, _, _], _ => rfl), .nil⟩
theorem mk_mark_at (W : Wd K mg) {k : Nat} {sp : Sp} (len : Len 2 sp) (h : Body P w K mg base N_mark_at "mark_at" s_mark_at (He.fAd K ("mark_at", none)) k sp) : C8.Cal P w K mg base (k + 1) "mark_at" sp [] := by
  obtain ⟨fd, F⟩ := W.says.f_mark_at
  exact ⟨_, fd, ["text", "at"], [], body_ok F sc_mark_at len h, W.g_mark_at, F.kp, F.bindsN (fun _ _ _ _ _ _ us hl => match us, hl with | [_, _], _ => rfl), .nil⟩
theorem mk_marks_in (W : Wd K mg) {k : Nat} {sp : Sp} (len : Len 1 sp) (h : Body P w K mg base N_marks_in "marks_in" s_marks_in (He.fAd K ("marks_in", none)) k sp) : C8.Cal P w K mg base (k + 1) "marks_in" sp [] := by
  obtain ⟨fd, F⟩ := W.says.f_marks_in
  exact ⟨_, fd, ["text"], [], body_ok F sc_marks_in len h, W.g_marks_in, F.kp, F.bindsN (fun _ _ _ _ _ _ us hl => match us, hl with | [_], _ => rfl), .nil⟩
theorem mk_numeral_of (W : Wd K mg) {k : Nat} {sp : Sp} (len : Len 2 sp) (h : Body P w K mg base N_numeral_of "numeral_of" s_numeral_of (He.fAd K ("numeral_of", none)) k sp) : C8.Cal P w K mg base (k + 1) "numeral_of" sp [] := by
  obtain ⟨fd, F⟩ := W.says.f_numeral_of
  exact ⟨_, fd, ["mark", "most"], [], body_ok F sc_numeral_of len h, W.g_numeral_of, F.kp, F.bindsN (fun _ _ _ _ _ _ us hl => match us, hl with | [_, _], _ => rfl), .nil⟩
theorem mk_said (W : Wd K mg) {k : Nat} {sp : Sp} (len : Len 2 sp) (h : Body P w K mg base N_said "said" s_said (He.fAd K ("said", none)) k sp) : C8.Cal P w K mg base (k + 1) "said" sp [] := by
  obtain ⟨fd, F⟩ := W.says.f_said
  exact ⟨_, fd, ["times", "pairs"], [], body_ok F sc_said len h, W.g_said, F.kp, F.bindsN (fun _ _ _ _ _ _ us hl => match us, hl with | [_, _], _ => rfl), .nil⟩
theorem mk_course_of (W : Wd K mg) {k : Nat} {sp : Sp} (len : Len 2 sp) (h : Body P w K mg base N_course_of "course_of" s_course_of (He.fAd K ("course_of", none)) k sp) : C8.Cal P w K mg base (k + 1) "course_of" sp [] := by
  obtain ⟨fd, F⟩ := W.says.f_course_of
  exact ⟨_, fd, ["table", "day"], [], body_ok F sc_course_of len h, W.g_course_of, F.kp, F.bindsN (fun _ _ _ _ _ _ us hl => match us, hl with | [_, _], _ => rfl), .nil⟩
theorem mk_times_of (W : Wd K mg) {k : Nat} {sp : Sp} (len : Len 2 sp) (h : Body P w K mg base N_times_of "times_of" s_times_of (He.fAd K ("times_of", none)) k sp) : C8.Cal P w K mg base (k + 1) "times_of" sp [] := by
  obtain ⟨fd, F⟩ := W.says.f_times_of
  exact ⟨_, fd, ["table", "day"], [], body_ok F sc_times_of len h, W.g_times_of, F.kp, F.bindsN (fun _ _ _ _ _ _ us hl => match us, hl with | [_, _], _ => rfl), .nil⟩
theorem mk_PairText_init (W : Wd K mg) {k : Nat} {sp : Sp} (len : Len 3 sp) (h : Body P w K mg base N_PairText_init "PairText.__init__" s_PairText_init (He.fAd K ("PairText", some "__init__")) k sp) : C8.Mak P w K mg base (k + 1) "PairText" (He.ga K "PairText") sp [] := by
  obtain ⟨fd, F⟩ := W.says.f_PairText_init
  exact ⟨_, fd, ["self", "table", "together"], [], W.k_PairText, body_ok F sc_PairText_init len h, W.g_PairText, F.bindsN (fun _ _ _ _ _ _ us hl => match us, hl with | [_, _, _], _ => rfl), .nil⟩
theorem mk_PairText_take_name (W : Wd K mg) {k : Nat} {sp : Sp} (len : Len 2 sp) (h : Body P w K mg base N_PairText_take_name "PairText.take_name" s_PairText_take_name (He.fAd K ("PairText", some "take_name")) k sp) : C8.Met P w K mg base (k + 1) (He.ga K "PairText") "take_name" sp [] := by
  obtain ⟨fd, F⟩ := W.says.f_PairText_take_name
  exact ⟨_, fd, ["self", "mark"], [], W.c_PairText, W.m_PairText_take_name, body_ok F sc_PairText_take_name len h, F.bindsN (fun _ _ _ _ _ _ us hl => match us, hl with | [_, _], _ => rfl), .nil⟩
theorem mk_PairText_take_time (W : Wd K mg) {k : Nat} {sp : Sp} (len : Len 2 sp) (h : Body P w K mg base N_PairText_take_time "PairText.take_time" s_PairText_take_time (He.fAd K ("PairText", some "take_time")) k sp) : C8.Met P w K mg base (k + 1) (He.ga K "PairText") "take_time" sp [] := by
  obtain ⟨fd, F⟩ := W.says.f_PairText_take_time
  exact ⟨_, fd, ["self", "mark"], [], W.c_PairText, W.m_PairText_take_time, body_ok F sc_PairText_take_time len h, F.bindsN (fun _ _ _ _ _ _ us hl => match us, hl with | [_, _], _ => rfl), .nil⟩
theorem mk_PairText_take (W : Wd K mg) {k : Nat} {sp : Sp} (len : Len 2 sp) (h : Body P w K mg base N_PairText_take "PairText.take" s_PairText_take (He.fAd K ("PairText", some "take")) k sp) : C8.Met P w K mg base (k + 1) (He.ga K "PairText") "take" sp [] := by
  obtain ⟨fd, F⟩ := W.says.f_PairText_take
  exact ⟨_, fd, ["self", "mark"], [], W.c_PairText, W.m_PairText_take, body_ok F sc_PairText_take len h, F.bindsN (fun _ _ _ _ _ _ us hl => match us, hl with | [_, _], _ => rfl), .nil⟩
theorem mk_PairText_ends (W : Wd K mg) {k : Nat} {sp : Sp} (len : Len 1 sp) (h : Body P w K mg base N_PairText_ends "PairText.ends" s_PairText_ends (He.fAd K ("PairText", some "ends")) k sp) : C8.Met P w K mg base (k + 1) (He.ga K "PairText") "ends" sp [] := by
  obtain ⟨fd, F⟩ := W.says.f_PairText_ends
  exact ⟨_, fd, ["self"], [], W.c_PairText, W.m_PairText_ends, body_ok F sc_PairText_ends len h, F.bindsN (fun _ _ _ _ _ _ us hl => match us, hl with | [_], _ => rfl), .nil⟩
theorem mk_PairText_told (W : Wd K mg) {k : Nat} {sp : Sp} (len : Len 1 sp) (h : Body P w K mg base N_PairText_told "PairText.told" s_PairText_told (He.fAd K ("PairText", some "told")) k sp) : C8.Met P w K mg base (k + 1) (He.ga K "PairText") "told" sp [] := by
  obtain ⟨fd, F⟩ := W.says.f_PairText_told
  exact ⟨_, fd, ["self"], [], W.c_PairText, W.m_PairText_told, body_ok F sc_PairText_told len h, F.bindsN (fun _ _ _ _ _ _ us hl => match us, hl with | [_], _ => rfl), .nil⟩
theorem mk_BatchesText_init (W : Wd K mg) {k : Nat} {sp : Sp} (len : Len 1 sp) (h : Body P w K mg base N_BatchesText_init "BatchesText.__init__" s_BatchesText_init (He.fAd K ("BatchesText", some "__init__")) k sp) : C8.Mak P w K mg base (k + 1) "BatchesText" (He.ga K "BatchesText") sp [] := by
  obtain ⟨fd, F⟩ := W.says.f_BatchesText_init
  exact ⟨_, fd, ["self"], [], W.k_BatchesText, body_ok F sc_BatchesText_init len h, W.g_BatchesText, F.bindsN (fun _ _ _ _ _ _ us hl => match us, hl with | [_], _ => rfl), .nil⟩
theorem mk_BatchesText_take (W : Wd K mg) {k : Nat} {sp : Sp} (len : Len 2 sp) (h : Body P w K mg base N_BatchesText_take "BatchesText.take" s_BatchesText_take (He.fAd K ("BatchesText", some "take")) k sp) : C8.Met P w K mg base (k + 1) (He.ga K "BatchesText") "take" sp [] := by
  obtain ⟨fd, F⟩ := W.says.f_BatchesText_take
  exact ⟨_, fd, ["self", "mark"], [], W.c_BatchesText, W.m_BatchesText_take, body_ok F sc_BatchesText_take len h, F.bindsN (fun _ _ _ _ _ _ us hl => match us, hl with | [_, _], _ => rfl), .nil⟩
theorem mk_BatchesText_ends (W : Wd K mg) {k : Nat} {sp : Sp} (len : Len 1 sp) (h : Body P w K mg base N_BatchesText_ends "BatchesText.ends" s_BatchesText_ends (He.fAd K ("BatchesText", some "ends")) k sp) : C8.Met P w K mg base (k + 1) (He.ga K "BatchesText") "ends" sp [] := by
  obtain ⟨fd, F⟩ := W.says.f_BatchesText_ends
  exact ⟨_, fd, ["self"], [], W.c_BatchesText, W.m_BatchesText_ends, body_ok F sc_BatchesText_ends len h, F.bindsN (fun _ _ _ _ _ _ us hl => match us, hl with | [_], _ => rfl), .nil⟩
theorem mk_BatchesText_told (W : Wd K mg) {k : Nat} {sp : Sp} (len : Len 1 sp) (h : Body P w K mg base N_BatchesText_told "BatchesText.told" s_BatchesText_told (He.fAd K ("BatchesText", some "told")) k sp) : C8.Met P w K mg base (k + 1) (He.ga K "BatchesText") "told" sp [] := by
  obtain ⟨fd, F⟩ := W.says.f_BatchesText_told
  exact ⟨_, fd, ["self"], [], W.c_BatchesText, W.m_BatchesText_told, body_ok F sc_BatchesText_told len h, F.bindsN (fun _ _ _ _ _ _ us hl => match us, hl with | [_], _ => rfl), .nil⟩
theorem mk_LotText_init (W : Wd K mg) {k : Nat} {sp : Sp} (len : Len 2 sp) (h : Body P w K mg base N_LotText_init "LotText.__init__" s_LotText_init (He.fAd K ("LotText", some "__init__")) k sp) : C8.Mak P w K mg base (k + 1) "LotText" (He.ga K "LotText") sp [] := by
  obtain ⟨fd, F⟩ := W.says.f_LotText_init
  exact ⟨_, fd, ["self", "table"], [], W.k_LotText, body_ok F sc_LotText_init len h, W.g_LotText, F.bindsN (fun _ _ _ _ _ _ us hl => match us, hl with | [_, _], _ => rfl), .nil⟩
theorem mk_LotText_take (W : Wd K mg) {k : Nat} {sp : Sp} (len : Len 2 sp) (h : Body P w K mg base N_LotText_take "LotText.take" s_LotText_take (He.fAd K ("LotText", some "take")) k sp) : C8.Met P w K mg base (k + 1) (He.ga K "LotText") "take" sp [] := by
  obtain ⟨fd, F⟩ := W.says.f_LotText_take
  exact ⟨_, fd, ["self", "mark"], [], W.c_LotText, W.m_LotText_take, body_ok F sc_LotText_take len h, F.bindsN (fun _ _ _ _ _ _ us hl => match us, hl with | [_, _], _ => rfl), .nil⟩
theorem mk_LotText_ends (W : Wd K mg) {k : Nat} {sp : Sp} (len : Len 1 sp) (h : Body P w K mg base N_LotText_ends "LotText.ends" s_LotText_ends (He.fAd K ("LotText", some "ends")) k sp) : C8.Met P w K mg base (k + 1) (He.ga K "LotText") "ends" sp [] := by
  obtain ⟨fd, F⟩ := W.says.f_LotText_ends
  exact ⟨_, fd, ["self"], [], W.c_LotText, W.m_LotText_ends, body_ok F sc_LotText_ends len h, F.bindsN (fun _ _ _ _ _ _ us hl => match us, hl with | [_], _ => rfl), .nil⟩
theorem mk_LotText_told (W : Wd K mg) {k : Nat} {sp : Sp} (len : Len 1 sp) (h : Body P w K mg base N_LotText_told "LotText.told" s_LotText_told (He.fAd K ("LotText", some "told")) k sp) : C8.Met P w K mg base (k + 1) (He.ga K "LotText") "told" sp [] := by
  obtain ⟨fd, F⟩ := W.says.f_LotText_told
  exact ⟨_, fd, ["self"], [], W.c_LotText, W.m_LotText_told, body_ok F sc_LotText_told len h, F.bindsN (fun _ _ _ _ _ _ us hl => match us, hl with | [_], _ => rfl), .nil⟩
theorem mk_TableText_init (W : Wd K mg) {k : Nat} {sp : Sp} (len : Len 1 sp) (h : Body P w K mg base N_TableText_init "TableText.__init__" s_TableText_init (He.fAd K ("TableText", some "__init__")) k sp) : C8.Mak P w K mg base (k + 1) "TableText" (He.ga K "TableText") sp [] := by
  obtain ⟨fd, F⟩ := W.says.f_TableText_init
  exact ⟨_, fd, ["self"], [], W.k_TableText, body_ok F sc_TableText_init len h, W.g_TableText, F.bindsN (fun _ _ _ _ _ _ us hl => match us, hl with | [_], _ => rfl), .nil⟩
theorem mk_TableText_lets_name (W : Wd K mg) {k : Nat} {sp : Sp} (len : Len 2 sp) (h : Body P w K mg base N_TableText_lets_name "TableText.lets_name" s_TableText_lets_name (He.fAd K ("TableText", some "lets_name")) k sp) : C8.Met P w K mg base (k + 1) (He.ga K "TableText") "lets_name" sp [] := by
  obtain ⟨fd, F⟩ := W.says.f_TableText_lets_name
  exact ⟨_, fd, ["self", "mark"], [], W.c_TableText, W.m_TableText_lets_name, body_ok F sc_TableText_lets_name len h, F.bindsN (fun _ _ _ _ _ _ us hl => match us, hl with | [_, _], _ => rfl), .nil⟩
theorem mk_TableText_add_name (W : Wd K mg) {k : Nat} {sp : Sp} (len : Len 2 sp) (h : Body P w K mg base N_TableText_add_name "TableText.add_name" s_TableText_add_name (He.fAd K ("TableText", some "add_name")) k sp) : C8.Met P w K mg base (k + 1) (He.ga K "TableText") "add_name" sp [] := by
  obtain ⟨fd, F⟩ := W.says.f_TableText_add_name
  exact ⟨_, fd, ["self", "mark"], [], W.c_TableText, W.m_TableText_add_name, body_ok F sc_TableText_add_name len h, F.bindsN (fun _ _ _ _ _ _ us hl => match us, hl with | [_, _], _ => rfl), .nil⟩
theorem mk_TableText_take_name (W : Wd K mg) {k : Nat} {sp : Sp} (len : Len 2 sp) (h : Body P w K mg base N_TableText_take_name "TableText.take_name" s_TableText_take_name (He.fAd K ("TableText", some "take_name")) k sp) : C8.Met P w K mg base (k + 1) (He.ga K "TableText") "take_name" sp [] := by
  obtain ⟨fd, F⟩ := W.says.f_TableText_take_name
  exact ⟨_, fd, ["self", "mark"], [], W.c_TableText, W.m_TableText_take_name, body_ok F sc_TableText_take_name len h, F.bindsN (fun _ _ _ _ _ _ us hl => match us, hl with | [_, _], _ => rfl), .nil⟩
theorem mk_TableText_take_weight (W : Wd K mg) {k : Nat} {sp : Sp} (len : Len 2 sp) (h : Body P w K mg base N_TableText_take_weight "TableText.take_weight" s_TableText_take_weight (He.fAd K ("TableText", some "take_weight")) k sp) : C8.Met P w K mg base (k + 1) (He.ga K "TableText") "take_weight" sp [] := by
  obtain ⟨fd, F⟩ := W.says.f_TableText_take_weight
  exact ⟨_, fd, ["self", "mark"], [], W.c_TableText, W.m_TableText_take_weight, body_ok F sc_TableText_take_weight len h, F.bindsN (fun _ _ _ _ _ _ us hl => match us, hl with | [_, _], _ => rfl), .nil⟩
theorem mk_TableText_take (W : Wd K mg) {k : Nat} {sp : Sp} (len : Len 2 sp) (h : Body P w K mg base N_TableText_take "TableText.take" s_TableText_take (He.fAd K ("TableText", some "take")) k sp) : C8.Met P w K mg base (k + 1) (He.ga K "TableText") "take" sp [] := by
  obtain ⟨fd, F⟩ := W.says.f_TableText_take
  exact ⟨_, fd, ["self", "mark"], [], W.c_TableText, W.m_TableText_take, body_ok F sc_TableText_take len h, F.bindsN (fun _ _ _ _ _ _ us hl => match us, hl with | [_, _], _ => rfl), .nil⟩
theorem mk_TableText_ends (W : Wd K mg) {k : Nat} {sp : Sp} (len : Len 1 sp) (h : Body P w K mg base N_TableText_ends "TableText.ends" s_TableText_ends (He.fAd K ("TableText", some "ends")) k sp) : C8.Met P w K mg base (k + 1) (He.ga K "TableText") "ends" sp [] := by
  obtain ⟨fd, F⟩ := W.says.f_TableText_ends
  exact ⟨_, fd, ["self"], [], W.c_TableText, W.m_TableText_ends, body_ok F sc_TableText_ends len h, F.bindsN (fun _ _ _ _ _ _ us hl => match us, hl with | [_], _ => rfl), .nil⟩
theorem mk_TableText_told (W : Wd K mg) {k : Nat} {sp : Sp} (len : Len 1 sp) (h : Body P w K mg base N_TableText_told "TableText.told" s_TableText_told (He.fAd K ("TableText", some "told")) k sp) : C8.Met P w K mg base (k + 1) (He.ga K "TableText") "told" sp [] := by
  obtain ⟨fd, F⟩ := W.says.f_TableText_told
  exact ⟨_, fd, ["self"], [], W.c_TableText, W.m_TableText_told, body_ok F sc_TableText_told len h, F.bindsN (fun _ _ _ _ _ _ us hl => match us, hl with | [_], _ => rfl), .nil⟩
theorem mk_taken_in (W : Wd K mg) {k : Nat} {sp : Sp} (len : Len 2 sp) (h : Body P w K mg base N_taken_in "taken_in" s_taken_in (He.fAd K ("taken_in", none)) k sp) : C8.Cal P w K mg base (k + 1) "taken_in" sp [] := by
  obtain ⟨fd, F⟩ := W.says.f_taken_in
  exact ⟨_, fd, ["reading", "text"], [], body_ok F sc_taken_in len h, W.g_taken_in, F.kp, F.bindsN (fun _ _ _ _ _ _ us hl => match us, hl with | [_, _], _ => rfl), .nil⟩
theorem mk_read_whole (W : Wd K mg) {k : Nat} {sp : Sp} (len : Len 2 sp) (h : Body P w K mg base N_read_whole "read_whole" s_read_whole (He.fAd K ("read_whole", none)) k sp) : C8.Cal P w K mg base (k + 1) "read_whole" sp [] := by
  obtain ⟨fd, F⟩ := W.says.f_read_whole
  exact ⟨_, fd, ["reading", "text"], [], body_ok F sc_read_whole len h, W.g_read_whole, F.kp, F.bindsN (fun _ _ _ _ _ _ us hl => match us, hl with | [_, _], _ => rfl), .nil⟩
theorem mk_read_table (W : Wd K mg) {k : Nat} {sp : Sp} (len : Len 1 sp) (h : Body P w K mg base N_read_table "read_table" s_read_table (He.fAd K ("read_table", none)) k sp) : C8.Cal P w K mg base (k + 1) "read_table" sp [] := by
  obtain ⟨fd, F⟩ := W.says.f_read_table
  exact ⟨_, fd, ["text"], [], body_ok F sc_read_table len h, W.g_read_table, F.kp, F.bindsN (fun _ _ _ _ _ _ us hl => match us, hl with | [_], _ => rfl), .nil⟩
theorem mk_read_times (W : Wd K mg) {k : Nat} {sp : Sp} (len : Len 2 sp) (h : Body P w K mg base N_read_times "read_times" s_read_times (He.fAd K ("read_times", none)) k sp) : C8.Cal P w K mg base (k + 1) "read_times" sp [] := by
  obtain ⟨fd, F⟩ := W.says.f_read_times
  exact ⟨_, fd, ["table", "text"], [], body_ok F sc_read_times len h, W.g_read_times, F.kp, F.bindsN (fun _ _ _ _ _ _ us hl => match us, hl with | [_, _], _ => rfl), .nil⟩
theorem mk_read_day (W : Wd K mg) {k : Nat} {sp : Sp} (len : Len 2 sp) (h : Body P w K mg base N_read_day "read_day" s_read_day (He.fAd K ("read_day", none)) k sp) : C8.Cal P w K mg base (k + 1) "read_day" sp [] := by
  obtain ⟨fd, F⟩ := W.says.f_read_day
  exact ⟨_, fd, ["table", "text"], [], body_ok F sc_read_day len h, W.g_read_day, F.kp, F.bindsN (fun _ _ _ _ _ _ us hl => match us, hl with | [_, _], _ => rfl), .nil⟩
theorem mk_read_batches (W : Wd K mg) {k : Nat} {sp : Sp} (len : Len 1 sp) (h : Body P w K mg base N_read_batches "read_batches" s_read_batches (He.fAd K ("read_batches", none)) k sp) : C8.Cal P w K mg base (k + 1) "read_batches" sp [] := by
  obtain ⟨fd, F⟩ := W.says.f_read_batches
  exact ⟨_, fd, ["text"], [], body_ok F sc_read_batches len h, W.g_read_batches, F.kp, F.bindsN (fun _ _ _ _ _ _ us hl => match us, hl with | [_], _ => rfl), .nil⟩
theorem mk_read_lot (W : Wd K mg) {k : Nat} {sp : Sp} (len : Len 2 sp) (h : Body P w K mg base N_read_lot "read_lot" s_read_lot (He.fAd K ("read_lot", none)) k sp) : C8.Cal P w K mg base (k + 1) "read_lot" sp [] := by
  obtain ⟨fd, F⟩ := W.says.f_read_lot
  exact ⟨_, fd, ["table", "text"], [], body_ok F sc_read_lot len h, W.g_read_lot, F.kp, F.bindsN (fun _ _ _ _ _ _ us hl => match us, hl with | [_, _], _ => rfl), .nil⟩
theorem mk_law_heap (W : Wd K mg) {k : Nat} {sp : Sp} (len : Len 1 sp) (h : Body P w K mg base N_law_heap "_law_heap" s_law_heap (He.fAd K ("_law_heap", none)) k sp) : C8.Cal P w K mg base (k + 1) "_law_heap" sp [] := by
  obtain ⟨fd, F⟩ := W.says.f_law_heap
  exact ⟨_, fd, ["_law_script"], [], body_ok F sc_law_heap len h, W.g_law_heap, F.kp, F.bindsN (fun _ _ _ _ _ _ us hl => match us, hl with | [_], _ => rfl), .nil⟩
theorem mk_law_draw (W : Wd K mg) {k : Nat} {sp : Sp} (len : Len 2 sp) (h : Body P w K mg base N_law_draw "_law_draw" s_law_draw (He.fAd K ("_law_draw", none)) k sp) : C8.Cal P w K mg base (k + 1) "_law_draw" sp [] := by
  obtain ⟨fd, F⟩ := W.says.f_law_draw
  exact ⟨_, fd, ["_law_heap_here", "_law_many"], [], body_ok F sc_law_draw len h, W.g_law_draw, F.kp, F.bindsN (fun _ _ _ _ _ _ us hl => match us, hl with | [_, _], _ => rfl), .nil⟩
theorem mk_law_pick (W : Wd K mg) {k : Nat} {sp : Sp} (len : Len 2 sp) (h : Body P w K mg base N_law_pick "_law_pick" s_law_pick (He.fAd K ("_law_pick", none)) k sp) : C8.Cal P w K mg base (k + 1) "_law_pick" sp [] := by
  obtain ⟨fd, F⟩ := W.says.f_law_pick
  exact ⟨_, fd, ["_law_heap_here", "_law_some"], [], body_ok F sc_law_pick len h, W.g_law_pick, F.kp, F.bindsN (fun _ _ _ _ _ _ us hl => match us, hl with | [_, _], _ => rfl), .nil⟩
theorem mk_law_mixed (W : Wd K mg) {k : Nat} {sp : Sp} (len : Len 2 sp) (h : Body P w K mg base N_law_mixed "_law_mixed" s_law_mixed (He.fAd K ("_law_mixed", none)) k sp) : C8.Cal P w K mg base (k + 1) "_law_mixed" sp [] := by
  obtain ⟨fd, F⟩ := W.says.f_law_mixed
  exact ⟨_, fd, ["_law_heap_here", "_law_some"], [], body_ok F sc_law_mixed len h, W.g_law_mixed, F.kp, F.bindsN (fun _ _ _ _ _ _ us hl => match us, hl with | [_, _], _ => rfl), .nil⟩
theorem mk_law_names (W : Wd K mg) {k : Nat} {sp : Sp} (len : Len 2 sp) (h : Body P w K mg base N_law_names "_law_names" s_law_names (He.fAd K ("_law_names", none)) k sp) : C8.Cal P w K mg base (k + 1) "_law_names" sp [] := by
  obtain ⟨fd, F⟩ := W.says.f_law_names
  exact ⟨_, fd, ["_law_heap_here", "_law_many"], [], body_ok F sc_law_names len h, W.g_law_names, F.kp, F.bindsN (fun _ _ _ _ _ _ us hl => match us, hl with | [_, _], _ => rfl), .nil⟩
theorem mk_law_integer (W : Wd K mg) {k : Nat} {sp : Sp} (len : Len 2 sp) (h : Body P w K mg base N_law_integer "_law_integer" s_law_integer (He.fAd K ("_law_integer", none)) k sp) : C8.Cal P w K mg base (k + 1) "_law_integer" sp [] := by
  obtain ⟨fd, F⟩ := W.says.f_law_integer
  exact ⟨_, fd, ["_law_heap_here", "_law_most"], [], body_ok F sc_law_integer len h, W.g_law_integer, F.kp, F.bindsN (fun _ _ _ _ _ _ us hl => match us, hl with | [_, _], _ => rfl), .nil⟩
theorem mk_law_integer_marks (W : Wd K mg) {k : Nat} {sp : Sp} (len : Len 1 sp) (h : Body P w K mg base N_law_integer_marks "_law_integer_marks" s_law_integer_marks (He.fAd K ("_law_integer_marks", none)) k sp) : C8.Cal P w K mg base (k + 1) "_law_integer_marks" sp [] := by
  obtain ⟨fd, F⟩ := W.says.f_law_integer_marks
  exact ⟨_, fd, ["_law_number"], [], body_ok F sc_law_integer_marks len h, W.g_law_integer_marks, F.kp, F.bindsN (fun _ _ _ _ _ _ us hl => match us, hl with | [_], _ => rfl), .nil⟩
theorem mk_law_ties (W : Wd K mg) {k : Nat} {sp : Sp} (len : Len 2 sp) (h : Body P w K mg base N_law_ties "_law_ties" s_law_ties (He.fAd K ("_law_ties", none)) k sp) : C8.Cal P w K mg base (k + 1) "_law_ties" sp [] := by
  obtain ⟨fd, F⟩ := W.says.f_law_ties
  exact ⟨_, fd, ["_law_heap_here", "_law_many"], [], body_ok F sc_law_ties len h, W.g_law_ties, F.kp, F.bindsN (fun _ _ _ _ _ _ us hl => match us, hl with | [_, _], _ => rfl), .nil⟩
theorem mk_law_day (W : Wd K mg) {k : Nat} {sp : Sp} (len : Len 2 sp) (h : Body P w K mg base N_law_day "_law_day" s_law_day (He.fAd K ("_law_day", none)) k sp) : C8.Cal P w K mg base (k + 1) "_law_day" sp [] := by
  obtain ⟨fd, F⟩ := W.says.f_law_day
  exact ⟨_, fd, ["_law_heap_here", "_law_many"], [], body_ok F sc_law_day len h, W.g_law_day, F.kp, F.bindsN (fun _ _ _ _ _ _ us hl => match us, hl with | [_, _], _ => rfl), .nil⟩
theorem mk_law_table_lines (W : Wd K mg) {k : Nat} {sp : Sp} (len : Len 3 sp) (h : Body P w K mg base N_law_table_lines "_law_table_lines" s_law_table_lines (He.fAd K ("_law_table_lines", none)) k sp) : C8.Cal P w K mg base (k + 1) "_law_table_lines" sp [] := by
  obtain ⟨fd, F⟩ := W.says.f_law_table_lines
  exact ⟨_, fd, ["_law_heap_here", "_law_things", "_law_ties_here"], [], body_ok F sc_law_table_lines len h, W.g_law_table_lines, F.kp, F.bindsN (fun _ _ _ _ _ _ us hl => match us, hl with | [_, _, _], _ => rfl), .nil⟩
theorem mk_law_day_lines (W : Wd K mg) {k : Nat} {sp : Sp} (len : Len 3 sp) (h : Body P w K mg base N_law_day_lines "_law_day_lines" s_law_day_lines (He.fAd K ("_law_day_lines", none)) k sp) : C8.Cal P w K mg base (k + 1) "_law_day_lines" sp [] := by
  obtain ⟨fd, F⟩ := W.says.f_law_day_lines
  exact ⟨_, fd, ["_law_heap_here", "_law_things", "_law_day_here"], [], body_ok F sc_law_day_lines len h, W.g_law_day_lines, F.kp, F.bindsN (fun _ _ _ _ _ _ us hl => match us, hl with | [_, _, _], _ => rfl), .nil⟩
theorem mk_law_spread (W : Wd K mg) {k : Nat} {sp : Sp} (len : Len 2 sp) (h : Body P w K mg base N_law_spread "_law_spread" s_law_spread (He.fAd K ("_law_spread", none)) k sp) : C8.Cal P w K mg base (k + 1) "_law_spread" sp [] := by
  obtain ⟨fd, F⟩ := W.says.f_law_spread
  exact ⟨_, fd, ["_law_heap_here", "_law_lines_here"], [], body_ok F sc_law_spread len h, W.g_law_spread, F.kp, F.bindsN (fun _ _ _ _ _ _ us hl => match us, hl with | [_, _], _ => rfl), .nil⟩
theorem mk_law_glued (W : Wd K mg) {k : Nat} {sp : Sp} (len : Len 2 sp) (h : Body P w K mg base N_law_glued "_law_glued" s_law_glued (He.fAd K ("_law_glued", none)) k sp) : C8.Cal P w K mg base (k + 1) "_law_glued" sp [] := by
  obtain ⟨fd, F⟩ := W.says.f_law_glued
  exact ⟨_, fd, ["_law_heap_here", "_law_marks"], [], body_ok F sc_law_glued len h, W.g_law_glued, F.kp, F.bindsN (fun _ _ _ _ _ _ us hl => match us, hl with | [_, _], _ => rfl), .nil⟩
theorem mk_law_lines (W : Wd K mg) {k : Nat} {sp : Sp} (len : Len 1 sp) (h : Body P w K mg base N_law_lines "_law_lines" s_law_lines (He.fAd K ("_law_lines", none)) k sp) : C8.Cal P w K mg base (k + 1) "_law_lines" sp [] := by
  obtain ⟨fd, F⟩ := W.says.f_law_lines
  exact ⟨_, fd, ["_law_rows"], [], body_ok F sc_law_lines len h, W.g_law_lines, F.kp, F.bindsN (fun _ _ _ _ _ _ us hl => match us, hl with | [_], _ => rfl), .nil⟩
theorem mk_law_table_shown (W : Wd K mg) {k : Nat} {sp : Sp} (len : Len 3 sp) (h : Body P w K mg base N_law_table_shown "_law_table_shown" s_law_table_shown (He.fAd K ("_law_table_shown", none)) k sp) : C8.Cal P w K mg base (k + 1) "_law_table_shown" sp [] := by
  obtain ⟨fd, F⟩ := W.says.f_law_table_shown
  exact ⟨_, fd, ["_law_heap_here", "_law_things", "_law_ties_here"], [], body_ok F sc_law_table_shown len h, W.g_law_table_shown, F.kp, F.bindsN (fun _ _ _ _ _ _ us hl => match us, hl with | [_, _, _], _ => rfl), .nil⟩
theorem mk_law_days_shown (W : Wd K mg) {k : Nat} {sp : Sp} (len : Len 3 sp) (h : Body P w K mg base N_law_days_shown "_law_days_shown" s_law_days_shown (He.fAd K ("_law_days_shown", none)) k sp) : C8.Cal P w K mg base (k + 1) "_law_days_shown" sp [] := by
  obtain ⟨fd, F⟩ := W.says.f_law_days_shown
  exact ⟨_, fd, ["_law_heap_here", "_law_table", "_law_things"], [], body_ok F sc_law_days_shown len h, W.g_law_days_shown, F.kp, F.bindsN (fun _ _ _ _ _ _ us hl => match us, hl with | [_, _, _], _ => rfl), .nil⟩
theorem mk_law_rows_shown (W : Wd K mg) {k : Nat} {sp : Sp} (len : Len 3 sp) (h : Body P w K mg base N_law_rows_shown "_law_rows_shown" s_law_rows_shown (He.fAd K ("_law_rows_shown", none)) k sp) : C8.Cal P w K mg base (k + 1) "_law_rows_shown" sp [] := by
  obtain ⟨fd, F⟩ := W.says.f_law_rows_shown
  exact ⟨_, fd, ["_law_heap_here", "_law_table", "_law_things"], [], body_ok F sc_law_rows_shown len h, W.g_law_rows_shown, F.kp, F.bindsN (fun _ _ _ _ _ _ us hl => match us, hl with | [_, _, _], _ => rfl), .nil⟩
theorem mk_law (W : Wd K mg) {k : Nat} {sp : Sp} (len : Len 1 sp) (h : Body P w K mg base N_law "law" s_law (He.fAd K ("law", none)) k sp) : C8.Cal P w K mg base (k + 1) "law" sp [] := by
  obtain ⟨fd, F⟩ := W.says.f_law
  exact ⟨_, fd, ["_law_script"], [], body_ok F sc_law len h, W.g_law, F.kp, F.bindsN (fun _ _ _ _ _ _ us hl => match us, hl with | [_], _ => rfl), .nil⟩
end
end K07

set_option maxRecDepth 100000
set_option maxHeartbeats 4000000
/-! readings in small steps -/
namespace K07
open PySem PySem.Spec PyProof.Rows L2
section
variable {σ σ1 : L2.St} {H : Hp} {D : Ends} {Q : VK} {QB : Bool → Hp → Prop} {QA : List V → Hp → Prop} {te ta tb : TE} {t u : TS} {c d : TT} {g : TG} {v x y : V} {i : Nat} {A : TA} {K : PySem.W.Frag}
theorem r_seq (h : t { D with nx := u D } σ H) : tSeq t u D σ H := h
theorem r_asg (h : te σ H fun x H1 => g x σ H1 D.nx) : tAsg te g D σ H := h
theorem r_name {R : L2.St → Hp → Prop} (h : R (σ.set i (some v)) H) : gName i v σ H R := h
theorem r_ret (h : te σ H D.rt) : tRet te D σ H := h
theorem r_drop (h : te σ H fun _ H1 => D.nx σ H1) : tDrop te D σ H := h
theorem r_if (h : c σ H fun b H1 => if b = true then t D σ H1 else u D σ H1) : tIfS c t u D σ H := h
theorem r_nx (h : D.nx σ H) : tNext D σ H := h
theorem r_var (h : σ[i]? = some (some v)) (q : Q v H) : tVar i σ H Q := ⟨v, h, q⟩
theorem r_c (q : Q v H) : tC v σ H Q := q
theorem r_op {r : R2} (h : ta σ H fun x H1 => tb σ H1 fun y H2 => r x y H2 Q) : tOp r ta tb σ H Q := h
theorem r_un {r : V → Hp → VK → Prop} (h : ta σ H fun x H1 => r x H1 Q) : tUn r ta σ H Q := h
theorem r_cons (h : te σ H fun x H1 => A σ H1 fun xs H2 => QA (x :: xs) H2) : tCons te A σ H QA := h
theorem r_nil (h : QA [] H) : tNil σ H QA := h
theorem r_test (h : te σ H fun x H' => ∃ k, x = .bl k ∧ QB k H') : tTest te σ H QB := h
theorem r_B (h : te σ H fun x H' => ∃ k, x = .bl k ∧ QB k H') : tB te σ H QB := h
theorem r_and (h : c σ H fun b H1 => if b = true then d σ H1 QB else QB false H1) : tAnd c d σ H QB := h
theorem r_or (h : c σ H fun b H1 => if b = true then QB true H1 else d σ H1 QB) : tOr c d σ H QB := h
theorem r_not (h : c σ H fun b H1 => QB (!b) H1) : tNot c σ H QB := h
theorem r_andV (h : ta σ H fun x H1 => ∃ b, x = .bl b ∧ if b = true then tb σ H1 Q else Q (.bl false) H1) : tAndV ta tb σ H Q := h
theorem r_orV (h : ta σ H fun x H1 => ∃ b, x = .bl b ∧ if b = true then Q (.bl true) H1 else tb σ H1 Q) : tOrV ta tb σ H Q := h
theorem r_notV (h : ta σ H fun x H1 => ∃ b, x = .bl b ∧ Q (.bl (!b)) H1) : tNotV ta σ H Q := h
theorem r_tif (h : c σ H fun b H1 => if b = true then ta σ H1 Q else tb σ H1 Q) : tIf c ta tb σ H Q := h
theorem r_call {sp : Sp} {dvs : List V} {E : XK} (h : A σ H fun vs H1 => sp (vs ++ dvs) H1 Q E) : tCall sp dvs E A σ H Q := h
theorem r_cb {r : List V → Hp → VK → Prop} (h : A σ H fun vs H1 => r vs H1 Q) : tCB r A σ H Q := h
theorem r_tyes (h : QB true H) : tYes σ H QB := h
theorem r_chain {r r' : R2} {tc : TE} (h : ta σ H fun x H1 => tb σ H1 fun y H2 => r x y H2 fun z H3 => ∃ k, z = .bl k ∧ (if k = true then tc σ H3 fun w' H4 => r' y w' H4 Q else Q (.bl false) H3)) : tChain r r' ta tb tc σ H Q := h
theorem r_bl {p : Bool → Prop} {b : Bool} (h : p b) : ∃ k, V.bl b = .bl k ∧ p k := ⟨b, rfl, h⟩
theorem r_i0 {g : Int → Int → V} {a b : Int} (h : Q (g a b) H) : rI0 g (.int a) (.int b) H Q := ⟨a, b, rfl, rfl, h⟩
theorem r_eq (hs : scal x y = true) (h : Q (.bl (decide (x = y))) H) : rEq x y H Q := ⟨hs, h⟩
theorem r_ne (hs : scal x y = true) (h : Q (.bl (!decide (x = y))) H) : rNe x y H Q := ⟨hs, h⟩
theorem r_yes {b : Bool} {X Y : Prop} (hb : b = true) (h : X) : if b = true then X else Y := by
  rw [if_pos hb]
  exact h
theorem r_no {b : Bool} {X Y : Prop} (hb : b = false) (h : Y) : if b = true then X else Y := by
  rw [hb]
  exact h
/-- both ways of a decided test -/
theorem r_dec {p X Y : Prop} [Decidable p] (h1 : p → X) (h2 : ¬ p → Y) : if decide p = true then X else Y := by
  by_cases h : p
  · rw [if_pos (decide_eq_true h)]
    exact h1 h
  · rw [decide_eq_false h]
    exact h2 h
theorem r_ndec {p X Y : Prop} [Decidable p] (h1 : ¬ p → X) (h2 : p → Y) : if (!decide p) = true then X else Y := by
  by_cases h : p
  · rw [decide_eq_true h]
    exact h2 h
  · rw [decide_eq_false h]
    exact h1 h
theorem tt_ite {X Y : Prop} (h : X) : if true = true then X else Y := h
theorem ff_ite {X Y : Prop} (h : Y) : if false = true then X else Y := h
theorem nt_ite {X Y : Prop} (h : Y) : if (!true) = true then X else Y := h
theorem nf_ite {X Y : Prop} (h : X) : if (!false) = true then X else Y := h
/-- a new object: the heap from then on a letter -/
theorem r_new {o : HO} {R : V → Hp → Prop} (h : ∀ p H1, H p = none → Same H H1 → H1 p = some o → R (.ref p) H1) : ∀ p, H p = none → R (.ref p) (upd H p o) :=
  fun p hp => h p _ hp (fun b z e => (upd_ne (ne_of_none e hp)).trans e) upd_same
end
theorem v_eq {x : V} : decide (x = x) = true := decide_eq_true rfl
/-- a comprehension's loop, the list at D -/
def LcW (J : It) (g : TG) (tt : TT) (te : TE) (vs : List Nat) (σ : L2.St) (H1 : Hp) (D : Addr) (Qd : Hp → Prop) : Prop :=
  ∃ W : Nat → Nat → Hp → Prop, (∃ m, W 0 m (upd H1 D (.lst []))) ∧ ∀ i m H, W i m H →
    (J.stop i H ∧ Qd H) ∨ (J.go i H ∧ ∃ Nx : Hp → Prop, (∀ H', Nx H' → ∃ m', m' < m ∧ W (i + 1) m' H') ∧ ∀ x H', J.yld i H x H' → g x (wipe σ vs) H' fun σ2 H2 => wipe σ2 vs = wipe σ vs ∧ tt σ2 H2 fun b H3 =>
      if b = true then te σ2 H3 fun y H4 => ∃ acc, H4 D = some (.lst acc) ∧ acc.length < sizeLine ∧ Nx (upd H4 D (.lst (acc ++ [y]))) else Nx H3)
/-- a comprehension whose turns leave all that stood: the items that f tells -/
theorem lc_map {J : It} {n : Nat} {G : Hp → Prop} {Y : Nat → Hp → V → Hp → Prop} (w : Walk J n G Y) {g : TG} {tt : TT} {te : TE} {vs : List Nat} {σ : L2.St} {H1 : Hp} {D : Addr} {Qd : Hp → Prop} (f : Nat → Option V)
    (hD : H1 D = none) (hn : n < sizeLine) (hG : ∀ H', Same H1 H' → G H') (hY : ∀ i H x H', Y i H x H' → Same H H')
    (hs : ∀ i x H H' (R : V → Hp → Prop) (R0 : Hp → Prop), i < n → Same H1 H → Same H1 H' → Y i H x H' → (∀ y H4, f i = some y → Same H' H4 → R y H4) → (∀ H4, f i = none → Same H' H4 → R0 H4) →
      g x (wipe σ vs) H' fun σ2 H2 => wipe σ2 vs = wipe σ vs ∧ tt σ2 H2 fun b H3 => if b = true then te σ2 H3 R else R0 H3)
    (hd : ∀ H', Same H1 H' → H' D = some (.lst ((List.range n).filterMap f)) → Qd H') :
    LcW J g tt te vs σ H1 D Qd := by
  have len : ∀ k, ((List.range k).filterMap f).length ≤ k := fun k => Nat.le_trans (List.length_filterMap_le _ _) (Nat.le_of_eq List.length_range)
  refine lc_it w (fun i H => Same H1 H ∧ H D = some (.lst ((List.range i).filterMap f))) ⟨fun b o e => (upd_ne (ne_of_none e hD)).trans e, upd_same⟩ (fun i H _ p => hG H p.1) (fun i x H H' hi p y => ?_) fun H p => hd H p.1 p.2
  obtain ⟨s1, eD⟩ := p
  have s2 : Same H H' := hY i H x H' y
  refine hs i x H H' _ _ hi s1 (s1.trans s2) y (fun v H4 fi s3 => ?_) fun H4 fi s3 => ?_
  · refine ⟨_, s3 _ _ (s2 _ _ eD), Nat.lt_of_le_of_lt (len i) (Nat.lt_trans hi hn), fun b o e => ?_, ?_⟩
    · exact (upd_ne (ne_of_none e hD)).trans (s3 _ _ (s2 _ _ (s1 _ _ e)))
    · rw [upd_same, List.range_succ, List.filterMap_append, List.filterMap_cons, fi] <;> rfl
  · refine ⟨s1.trans (s2.trans s3), ?_⟩
    rw [List.range_succ, List.filterMap_append, List.filterMap_cons, fi, List.filterMap_nil, List.append_nil]
    exact s3 _ _ (s2 _ _ eD)
/-- range(n) -/
def YNat : Nat → Hp → V → Hp → Prop := fun i H x H' => H' = H ∧ x = .int ((i : Nat) : Int)
theorem walk_nat {n : Nat} : Walk (Itr 0 n) n (fun _ => True) YNat :=
  ⟨fun _ _ hi _ => hi, fun _ _ => Nat.le_refl _, fun i H x H' _ _ y => ⟨y.1, y.2.trans (by rw [Int.zero_add])⟩⟩
theorem yNat_same : ∀ i H x H', YNat i H x H' → Same H H' := fun _ _ _ _ y => y.1 ▸ Same.refl _
theorem yAt_same {xs : List V} : ∀ i H x H', YAt xs i H x H' → Same H H' := fun _ _ _ _ y => y.1 ▸ Same.refl _
theorem yFn_same {f : Nat → V} : ∀ i H x H', YFn f i H x H' → Same H H' := fun _ _ _ _ y => y.1 ▸ Same.refl _
theorem yPair_same {xs ys : Nat → Option V} : ∀ i H x H', YPair xs ys i H x H' → Same H H' := fun i H x H' y => by
  obtain ⟨T, a, b, _, hT, rfl, _⟩ := y
  exact fun c o e => (upd_ne (ne_of_none e hT)).trans e
theorem fm_range (f : Nat → Option V) (h : Nat → V) : ∀ n, (∀ i, i < n → f i = some (h i)) → (List.range n).filterMap f = (List.range n).map h
  | 0, _ => rfl
  | n + 1, e => by
    rw [List.range_succ, List.filterMap_append, List.map_append, fm_range f h n fun i hi => e i (Nat.lt_succ_of_lt hi)]
    rw [List.filterMap_cons, e n (Nat.lt_succ_self n)] <;> rfl
theorem map_range {α : Type} (l : List α) (h : Nat → V) (g : α → V) (e : ∀ i (hi : i < l.length), h i = g l[i]) : (List.range l.length).map h = l.map g := by
  refine List.ext_getElem (by simp) fun i h1 h2 => ?_
  have hi : i < l.length := by simpa using h2
  rw [List.getElem_map, List.getElem_range, List.getElem_map]
  exact e i hi
/-- all items told -/
theorem filterMap_all {α : Type} (l : List α) (f : Nat → Option V) (g : α → V) (h : ∀ i (hi : i < l.length), f i = some (g l[i])) : (List.range l.length).filterMap f = l.map g := by
  have e1 : ∀ i, i < l.length → f i = some ((l[i]?.map g).getD .non) := fun i hi => by
    rw [h i hi, List.getElem?_eq_getElem hi] <;> rfl
  rw [fm_range f _ l.length e1]
  refine map_range l _ g fun i hi => ?_
  rw [List.getElem?_eq_getElem hi] <;> rfl
/-! ### rules, the written part K said (so that they serve within comprehensions) -/
section
variable {X : Cx} {K : PySem.W.Frag} {e o : Expr} {es : List Expr} {te ta to : TE} {tA : TA} {pos apos cpos : Pos}
theorem ixL (h : X.K = K := by rfl) : IxR X (rIxL K) := h ▸ ix_list
theorem ixT (h : X.K = K := by rfl) : IxR X (rIxT K) := h ▸ ix_tup
theorem slL (h : X.K = K := by rfl) : SlR X (rSlL K) := h ▸ sl_list
theorem slT (h : X.K = K := by rfl) : SlR X (rSlA K) := h ▸ sl_tupA
theorem opIn (h : X.K = K := by rfl) : OpR X (compareOp .In) (rIn K false) := h ▸ op_in_seq
theorem opNin (h : X.K = K := by rfl) : OpR X (compareOp .NotIn) (rIn K true) := h ▸ op_notIn_seq
theorem opEqD {k : Nat} (hr : Room k X.A) (h : X.K = K := by rfl) : OpR X (compareOp .Eq) (rEqD K) := h ▸ op_eqD hr.units
theorem opNeD {k : Nat} (hr : Room k X.A) (h : X.K = K := by rfl) : OpR X (compareOp .NotEq) (rNeD K) := h ▸ op_neD hr.units
theorem opCatT (h : X.K = K := by rfl) : OpR X (binaryOp .Add) (rCatA K) := h ▸ op_catA
theorem opRepT (h : X.K = K := by rfl) : OpR X (binaryOp .Mult) (rRepA K) := h ▸ op_repA
def rLn (K : PySem.W.Frag) : List V → Hp → VK → Prop := fun xs H Q => ∃ p ys, xs = [.ref p] ∧ (SqL K H p ys ∨ SqT K H p ys) ∧ Q (.int ys.length) H
theorem crLn (h : X.K = K := by rfl) : CallR X (.builtin "len") (rLn K) := h ▸ call_len_seq
def rLnS : List V → Hp → VK → Prop := fun xs H Q => ∃ z : Cs, xs = [.str (SX.S z)] ∧ z.length ≤ sizeLine ∧ Q (.int z.length) H
theorem crLnS : CallR X (.builtin "len") rLnS := by
  intro pins s σ H xs us Q I r h
  obtain ⟨z, rfl, hz, q⟩ := h
  refine call_len_str pins s σ H _ us Q I r ⟨SX.S z, rfl, by rw [SX.S_len]; exact hz, ?_⟩
  rw [SX.S_len]
  exact q
theorem crAll (h : X.K = K := by rfl) (hc : X.calm = true := by rfl) : CallR X (.builtin "all") (rAll K) := h ▸ cr_all hc
theorem crIsi (h : X.K = K := by rfl) : CallR X (.builtin "isinstance") (rIsi K) := h ▸ call_isi
theorem crSortS (h : X.K = K := by rfl) : CallR X (.builtin "sorted") (rSortedS K) := h ▸ cr_sortedS
theorem crSortI (h : X.K = K := by rfl) : CallR X (.builtin "sorted") (rSorted K) := h ▸ cr_sorted
theorem crSortP (h : X.K = K := by rfl) : CallR X (.builtin "sorted") (rSortedPO K) := h ▸ cr_sortedPO
theorem crRepr {k : Nat} (hgd : X.A.guards = some []) (hr : Room k X.A) (h : X.K = K := by rfl) : CallR X (.builtin "repr") (rReprD K) := h ▸ cr_reprD hgd hr
def rLs (K : PySem.W.Frag) : List V → Hp → VK → Prop := fun xs H Q => ∃ p ys, xs = [.ref p] ∧ (SqL K H p ys ∨ SqT K H p ys) ∧ ∀ l, H l = none → Q (.ref l) (upd H l (.lst ys))
theorem crLs (h : X.K = K := by rfl) : CallR X (.type "list") (rLs K) := h ▸ call_list_of
/-- tuple(a list): a new tuple, known to have no dict -/
def rTp (K : PySem.W.Frag) : List V → Hp → VK → Prop := fun xs H Q => ∃ p ys, xs = [.ref p] ∧ SqL K H p ys ∧ ∀ l o, H l = none → o.dict = Option.none → Q (.ref l) (upd H l (.frz o (.tup ys)))
theorem crTp (h : X.K = K := by rfl) : CallR X (.type "tuple") (rTp K) := by
  subst h
  intro pins s σ H xs us Q I r hq
  obtain ⟨p, ys, rfl, hp, q⟩ := hq
  obtain ⟨u, rfl, rfl⟩ := vals1 r
  obtain ⟨its, rv, pl, hz⟩ := I.list hp
  have hlen := rv.length
  refine call_tuple_list pl.isList (fun h' kp => ?_) (by simp only [List.size_toArray] <;> omega)
  have I1 : Inv X pins σ H { s with heap := h' } := I.kept (t' := s.toks) kp
  have hl : H h'.objs.size = none := I1.hok.fresh (Nat.le_refl _)
  refine ⟨.ref h'.objs.size, upd H h'.objs.size (.frz { cls := .type "tuple", data := .seq its.toArray } (.tup ys)), ?_, rfl, q _ _ hl rfl⟩
  refine I1.laid (t' := s.toks) (fun b o e => Heap.get?_push_of_some _ e) (Nat.le_refl _) ⟨Heap.get?_push_size _ rfl, ?_⟩
  exact ⟨hz, its, rv, IsTup.new _ _⟩
/-- o.m(e, ..) of a tuple that has no dict -/
def tTM (r : V → List V → Hp → VK → Prop) (to : TE) (t : TA) : TE := fun σ H Q => to σ H fun x H1 => (∃ a o xs, x = .ref a ∧ H1 a = some (.frz o (.tup xs)) ∧ o.dict = Option.none) ∧ t σ H1 fun xs H2 => r x xs H2 Q
theorem peTM {name : Str} {id : String} {r : V → List V → Hp → VK → Prop} {t : TA} (slot : Slot "tuple" name id) (hty : typeOf (.builtin id) = pure (.type "method_descriptor")) (hm : MtR X id r) (ho : PE X o to) (ha : PA X (e :: es) t)
    (hbase : attributeBase o name X.env (eval o X.env) = eval o X.env := by rfl)
    (hfew : ((backTo cpos (starEach (e :: es) X.env)).all (fun x => !x.1) && (backToKw cpos (keywordEach [] X.env)).all (fun x => x.1.isSome)
      && decide ((e :: es).length + ([] : List Keyword).length + (if ([] : List Keyword).isEmpty then 0 else 1) < 30)) = true := by rfl)
    (hline : (apos.endLine == cpos.line) = true := by rfl) (hs : starEach (e :: es) X.env = (false, eval e X.env) :: starEach es X.env := by rfl) (hplain : (backTo cpos (starEach es X.env)).any (·.1) = false := by rfl) :
    PE X (.Call (.Attribute o name apos) (e :: es) [] cpos) (tTM r to t) := by
  refine ⟨fun pins s σ H Q I h => ?_⟩
  refine wpAny_Call_method_late hbase hfew hline rfl (thn (ho.run pins s σ H _ I h) fun v s1 hv => ?_)
  obtain ⟨x, H1, I1, r1, ⟨a, ob, xs, rfl, ea, hdn⟩, q1⟩ := hv
  have ev : v = Value.ref a := r1
  subst ev
  obtain ⟨g1, g2⟩ := I1.hok a _ ea
  obtain ⟨_, _, _, o2, h1, h2, _⟩ := g2
  refine ⟨"tuple", id, PySem.F.plainAttrs_tuple, slot, hty, ⟨o2, h1, h2⟩, fun b eb => ?_, ?_⟩
  · cases eb
    exact ⟨ob, g1, hdn⟩
  · have hA := ha.run cpos pins s1 σ H1 _ I1 q1
    rw [hs] at hA ⊢
    refine Calls.callWith_builtin (by show (false || (backTo cpos (starEach es X.env)).any (·.1)) = false; rw [hplain] <;> rfl) (Calls.evalArgs_plain ?_)
    exact thn hA fun us s2 ⟨vs, H2, I2, r2, q2⟩ => hm pins s2 σ H2 (.ref a) vs _ us Q I2 rfl r2 q2
def rTx (K : PySem.W.Frag) : V → List V → Hp → VK → Prop := fun x xs H Q => ∃ (p : Addr) (ys : List Cs) (z : Cs) (j : Nat), x = .ref p ∧ xs = [.str (SX.S z)] ∧ SqT K H p (ys.map fun y => .str (SX.S y)) ∧ ys[j]? = some z ∧ (∀ m, m < j → ys[m]? ≠ some z) ∧ Q (.int (j : Nat)) H
theorem mtTx (h : X.K = K := by rfl) : MtR X "tuple.index" (rTx K) := by
  subst h
  intro pins s σ H x xs v us Q I rx rs hq
  obtain ⟨p, ys, z, j, rfl, rfl, hp, hj, hn, q⟩ := hq
  have e : (ys.map SX.S).map V.str = ys.map fun z => V.str (SX.S z) := by rw [List.map_map] <;> rfl
  refine mt_tup_index pins s σ H _ _ v us Q I rx rs ⟨p, ys.map SX.S, SX.S z, j, rfl, rfl, by rw [e]; exact hp, by rw [List.getElem?_map, hj] <;> rfl, fun m hm em => ?_, q⟩
  rw [List.getElem?_map] at em
  cases q2 : ys[m]? with
  | none =>
    rw [q2] at em
    cases em
  | some y =>
    rw [q2] at em
    exact hn m hm (q2.trans (congrArg some (SX.S_inj (Option.some.inj em))))
def rJn (K : PySem.W.Frag) : V → List V → Hp → VK → Prop := fun x xs H Q => ∃ (a : Cs) (p : Addr) (ys : List Cs), x = .str (SX.S a) ∧ xs = [.ref p] ∧ (SqL K H p (ys.map fun z => .str (SX.S z)) ∨ SqT K H p (ys.map fun z => .str (SX.S z))) ∧
    (ys.map (·.length)).sum + ys.length * a.length ≤ 16777216 ∧ Q (.str (SX.S (TL.joinL a ys))) H
theorem mtJn (h : X.K = K := by rfl) : MtR X "str.join" (rJn K) := by
  subst h
  intro pins s σ H x xs v us Q I rx rs hq
  obtain ⟨a, p, ys, rfl, rfl, hp, hz, q⟩ := hq
  have e : (ys.map SX.S).map V.str = ys.map fun z => V.str (SX.S z) := by rw [List.map_map] <;> rfl
  refine mt_join pins s σ H _ _ v us Q I rx rs ⟨SX.S a, p, ys.map SX.S, rfl, rfl, by rw [e]; exact hp, ?_, ?_⟩
  · rw [SX.lens, List.length_map, SX.S_len]
    exact hz
  · rw [SX.join_S]
    exact q
theorem peJn (h : X.K = K) (ho : PE X o to) (he : PE X e te) (hs : starEach [e] X.env = [(false, eval e X.env)] := by rfl) (hbase : attributeBase o "join" X.env (eval o X.env) = eval o X.env := by rfl) (hline : (apos.endLine == pos.line) = true := by rfl) :
    PE X (.Call (.Attribute o "join" apos) [e] [] pos) (tM1 (rJn K) to te) := pe_m1 PySem.F.slot_str_join PySem.F.type_str_join (mtJn h) ho he hs hbase hline
theorem peFld {f : Str} (h : X.K = K) (he : PE X e ta) (hb : attributeBase e f X.env (eval e X.env) = eval e X.env := by rfl) : PE X (.Attribute e f pos) (tFld K ta f) := h ▸ pe_fld he hb
theorem piL {tg l : Expr} {tl : TE} (h : X.K = K) (hl : PE X l tl) : PI X tg l (iList K tl) := h ▸ pi_list hl
theorem piT {tg l : Expr} {tl : TE} (h : X.K = K) (hl : PE X l tl) : PI X tg l (iTup K tl) := h ▸ pi_tup hl
theorem piE {elts : List Expr} {kk : Nat} {p tpos : Pos} (h : X.K = K) (hg : Gl X "enumerate") (hm : X.mg "enumerate" = none) (ha : PA X [e] tA) (hs : starEach [e] X.env = [(false, eval e X.env)] := by rfl) :
    PI X (.Tuple elts kk tpos) (.Call (.Name "enumerate" p) [e] [] pos) (iEnumT K tA) := h ▸ pi_enumT hg hm ha hs
end
section
variable {σ : L2.St} {H : Hp} {Q : VK} {R : It → Hp → Prop} {te tl : TE} {g : TG} {tt : TT} {vs : List Nat} {wi : TI} {ta : TA} {K : PySem.W.Frag} {a : Addr} {xs ys : List V} {v : V}
theorem r_lc (h : wi σ H fun J H1 => ∀ D, H1 D = none → LcW J g tt te vs σ H1 D fun H' => Q (.ref D) H') : tLc wi g tt te vs σ H Q := h
theorem r_rng1 (h : ta σ H fun vs H1 => ∃ j : Int, vs = [.int j] ∧ -(2 ^ 62) ≤ j ∧ j < 2 ^ 62 ∧ R (Itr 0 j.toNat) H1) : iRng1 ta σ H R := h
theorem r_itup (h : tl σ H fun x H1 => ∃ a, x = .ref a ∧ (∃ xs, SqT K H1 a xs) ∧ R (Itt K a) H1) : iTup K tl σ H R := h
theorem r_ilist (h : tl σ H fun x H1 => ∃ a, x = .ref a ∧ (∃ xs, SqL K H1 a xs) ∧ R (Itl K a) H1) : iList K tl σ H R := h
theorem r_ienum (h : ta σ H fun vs H1 => ∃ a xs, vs = [.ref a] ∧ SqT K H1 a xs ∧ R (ItE K a) H1) : iEnumT K ta σ H R := h
theorem r_istr (h : te σ H fun v H1 => ∃ x, v = .str x ∧ R (Its x) H1) : iStr te σ H R := h
theorem r_tup (h : ta σ H fun xs H1 => xs.length ≤ sizeLine ∧ ∀ p, H1 p = none → Q (.ref p) (upd H1 p (.tup xs))) : tTup ta σ H Q := h
theorem r_lst (h : ta σ H fun xs H1 => xs.length ≤ sizeLine ∧ ∀ p, H1 p = none → Q (.ref p) (upd H1 p (.lst xs))) : tLst ta σ H Q := h
theorem r_mk {o : HO} (hl : xs.length ≤ 100) (h : ∀ p H1, H p = none → Same H H1 → H1 p = some o → Q (.ref p) H1) : xs.length ≤ sizeLine ∧ ∀ p, H p = none → Q (.ref p) (upd H p o) :=
  ⟨Nat.le_trans hl (by decide), r_new h⟩
theorem r_lnT (h : SqT K H a ys) (q : Q (.int ys.length) H) : rLn K [.ref a] H Q := ⟨a, ys, rfl, .inr h, q⟩
theorem r_lnL (h : SqL K H a ys) (q : Q (.int ys.length) H) : rLn K [.ref a] H Q := ⟨a, ys, rfl, .inl h, q⟩
theorem r_ixT {i : Int} (h : SqT K H a ys) (hv : atI ys i = some v) (q : Q v H) : rIxT K (.ref a) (.int i) H Q := ⟨a, ys, i, v, rfl, rfl, h, hv, q⟩
theorem r_ixL {i : Int} (h : SqL K H a ys) (hv : atI ys i = some v) (q : Q v H) : rIxL K (.ref a) (.int i) H Q := ⟨a, ys, i, v, rfl, rfl, h, hv, q⟩
theorem r_lnS {z : Cs} (h : z.length ≤ 10000000) (q : Q (.int z.length) H) : rLnS [.str (SX.S z)] H Q := ⟨z, rfl, Nat.le_trans h (by decide), q⟩
theorem r_fld {C dx : Addr} {fs : List (Str × V)} {f : Str} (e : H a = some (.ins C dx fs)) (c : Cls K C) (n : NoAttr K C f) (l : fs.lookup f = some v) (q : Q v H) : (fun x H1 => ∃ a C dx fs v, x = V.ref a ∧ H1 a = some (.ins C dx fs) ∧ Cls K C ∧ NoAttr K C f ∧ fs.lookup f = some v ∧ Q v H1) (.ref a) H :=
  ⟨a, C, dx, fs, v, rfl, e, c, n, l, q⟩
theorem r_tfld {f : Str} (h : te σ H fun x H1 => ∃ a C dx fs v, x = V.ref a ∧ H1 a = some (.ins C dx fs) ∧ Cls K C ∧ NoAttr K C f ∧ fs.lookup f = some v ∧ Q v H1) : tFld K te f σ H Q := h
theorem _root_.L2.Same.sqt {H H' : Hp} (s : Same H H') (h : SqT K H a xs) : SqT K H' a xs := by
  rcases h with (h | ⟨o, h⟩) | h
  · exact .inl (.inl (s _ _ h))
  · exact .inl (.inr ⟨o, s _ _ h⟩)
  · exact .inr h
theorem at_str {ns : List Cs} {i : Nat} (h : i < ns.length) : atI (ns.map fun n => V.str (SX.S n)) (i : Int) = some (.str (SX.S ns[i])) := atI_nat (by rw [List.getElem?_map, List.getElem?_eq_getElem h] <;> rfl)
end
section
variable {X : Cx} {K : PySem.W.Frag} {pos : Pos}
theorem pgT {es : List Expr} {k : Nat} {t : TGs} {n : Nat} (hK : X.K = K) (hc : X.calm = true) (h : PGs X es t) (hn : (assignEach es X.env).length = n := by rfl) (hst : (assignEach es X.env).findIdx? (·.1) = none := by rfl) : PG X (.Tuple es k pos) (gTup K n t) :=
  hK ▸ pg_tup hc h hn hst
theorem pgF {o : Expr} {f : Str} {to : TE} (hK : X.K = K) (ho : PE X o to) (ha : ∀ v, assign (.Attribute o f pos) X.env v = (do
      let ov ← holding [v] (eval o X.env)
      standAt pos.atName
      holding [v, ov] (setAttr ov f v)
      release [v, ov] []) := by intro _; rfl) : PG X (.Attribute o f pos) (gFld K to f) := hK ▸ pg_fld ho ha
theorem psFld {o value : Expr} {f : Str} {ta tv : TE} {pos' : Pos} (hK : X.K = K) (ha : PE X o ta) (hv : PE X value tv) (hs : swapsWith value (some (.Attribute o f pos')) pos.line X.env = pure false := by rfl) : PS X (.Assign [.Attribute o f pos'] value pos) (sFld K ta tv f) := hK ▸ ps_fld ha hv hs
variable {σ : L2.St} {H : Hp} {R : L2.St → Hp → Prop} {a : Addr} {xs : List V} {v : V} {n : Nat} {g : TG} {gs : TGs} {to : TE} {f : Str} {D : Ends} {ta tv : TE}
theorem r_gtup (h : SqT K H a xs) (hn : xs.length = n) (q : gs xs σ H R) : gTup K n gs (.ref a) σ H R := ⟨a, xs, rfl, h, hn, q⟩
theorem r_gcons (h : g v σ H fun σ' H' => gs xs σ' H' R) : gCons g gs (v :: xs) σ H R := ⟨v, xs, rfl, h⟩
theorem r_gnil (h : R σ H) : gNil [] σ H R := ⟨rfl, h⟩
theorem r_gfld (h : to σ H fun x H1 => ∃ a C dx fs, x = .ref a ∧ H1 a = some (.ins C dx fs) ∧ Cls K C ∧ NoAttr K C f ∧ fs.length < 1000 ∧ R σ (upd H1 a (.ins C dx (putF f v fs)))) : gFld K to f v σ H R := h
theorem r_sfld (h : tv σ H fun y H1 => ta σ H1 fun x H2 => ∃ a C dx fs, x = .ref a ∧ H2 a = some (.ins C dx fs) ∧ Cls K C ∧ NoAttr K C f ∧ fs.length < 1000 ∧ D.nx σ (upd H2 a (.ins C dx (putF f y fs)))) : sFld K ta tv f D σ H := h
end
/-- a for's turns -/
def ForW (J : It) (g : TG) (tb : TS) (D : Ends) (σ : L2.St) (H : Hp) : Prop :=
  ∃ W : Nat → Nat → L2.St → Hp → Prop, (∃ m, W 0 m σ H) ∧ ∀ i m σ H, W i m σ H →
    (J.stop i H ∧ D.nx σ H) ∨ (J.go i H ∧ ∃ N : L2.St → Hp → Prop, (∀ σ' H', N σ' H' → ∃ m', m' < m ∧ W (i + 1) m' σ' H') ∧ ∀ x H', J.yld i H x H' → g x σ H' fun σ2 H2 => tb { D with nx := N, ct := N, bk := D.nx } σ2 H2)
theorem r_for {wi : TI} {g : TG} {tb : TS} {D : Ends} {σ : L2.St} {H : Hp} (h : wi σ H fun J H1 => ForW J g tb D σ H1) : tFor wi g tb D σ H := h
theorem for_w {J : It} {n : Nat} {G : Hp → Prop} {Y : Nat → Hp → V → Hp → Prop} (w : Walk J n G Y) {g : TG} {tb : TS} {D : Ends} {σ : L2.St} {H : Hp} (Pv : Nat → L2.St → Hp → Prop) (h0 : Pv 0 σ H) (hG : ∀ i σ H, i ≤ n → Pv i σ H → G H)
    (hs : ∀ i x σ H H' (N : L2.St → Hp → Prop), i < n → Pv i σ H → Y i H x H' → (∀ σ2 H2, Pv (i + 1) σ2 H2 → N σ2 H2) → g x σ H' fun σ2 H2 => tb { D with nx := N, ct := N, bk := D.nx } σ2 H2)
    (hd : ∀ σ H, Pv n σ H → D.nx σ H) : ForW J g tb D σ H := for_it w Pv h0 hG (fun i x σ H H' hi p y => hs i x σ H H' _ hi p y fun _ _ z => z) hd
/-- a built-in type as a value -/
theorem pe_ty {X : Cx} {T : String} {x : Str} {pos : Pos} (hg : Gl X x) (hm : X.mg x = none) (hv : bootBuiltins x = some (.type T)) (hn : x ≠ "__name__" := by decide) (hd : (x == ("__debug__" : Str)) = false := by decide) : PE X (.Name x pos) (tC (.ty T)) :=
  pe_bltn (v := .ty T) hg hm hv rfl hn hd
/-- isinstance of a built-in type -/
theorem r_isi {K : PySem.W.Frag} {x : V} {a T : String} {b : Bool} {H : Hp} {Q : VK} (h : TyX K H x (.type a)) (hk : kitB a T = some b) (q : Q (.bl b) H) : rIsi K [x, .ty T] H Q :=
  ⟨x, .ty T, .type a, .type T, b, rfl, .ty T, h, kit_ty hk, q⟩
/-- the small steps that need nothing -/
local macro_rules | `(tactic| walk_at "rd") => `(tactic| repeat (first
  | with_reducible refine r_seq ?_ | with_reducible refine r_asg ?_ | with_reducible refine r_name ?_ | with_reducible refine r_ret ?_ | with_reducible refine r_drop ?_ | with_reducible refine r_if ?_ | with_reducible refine r_nx ?_
  | with_reducible refine r_c ?_ | with_reducible refine r_op ?_ | with_reducible refine r_un ?_ | with_reducible refine r_cons ?_ | with_reducible refine r_nil ?_ | with_reducible refine r_test ?_ | with_reducible refine r_B ?_
  | with_reducible refine r_and ?_ | with_reducible refine r_or ?_ | with_reducible refine r_not ?_ | with_reducible refine r_andV ?_ | with_reducible refine r_orV ?_ | with_reducible refine r_notV ?_ | with_reducible refine r_tif ?_
  | with_reducible refine r_chain ?_ | with_reducible refine r_tyes ?_ | with_reducible refine r_lc ?_ | with_reducible refine r_rng1 ?_ | with_reducible refine r_itup ?_ | with_reducible refine r_ilist ?_ | with_reducible refine r_ienum ?_ | with_reducible refine r_istr ?_
  | with_reducible refine r_tup ?_ | with_reducible refine r_lst ?_ | with_reducible refine r_tfld ?_ | with_reducible refine r_gcons ?_ | with_reducible refine r_gnil ?_ | with_reducible refine r_gfld ?_ | with_reducible refine r_for ?_ | with_reducible refine r_sfld ?_ | with_reducible refine r_call ?_ | with_reducible refine r_cb ?_ | with_reducible refine r_bl ?_ | with_reducible refine r_i0 ?_ | with_reducible refine tt_ite ?_ | with_reducible refine ff_ite ?_ | with_reducible refine nt_ite ?_ | with_reducible refine nf_ite ?_
  | with_reducible refine r_var (by with_unfolding_all exact rfl) ?_))
end K07

set_option maxRecDepth 100000
set_option maxHeartbeats 4000000
/-! what stands in the heap: tuples, tables -/
namespace K07
open PySem PySem.Spec PyProof.Rows L2
/-- all but what stands at S is as it was -/
def Keep (S : List Addr) (H H' : Hp) : Prop := ∀ b o, H b = some o → b ∉ S → H' b = some o
theorem Keep.of_same {S : List Addr} {H H' : Hp} (s : Same H H') : Keep S H H' := fun b o e _ => s b o e
theorem Keep.refl (S : List Addr) (H : Hp) : Keep S H H := fun _ _ e _ => e
theorem Keep.trans {S : List Addr} {H H1 H2 : Hp} (a : Keep S H H1) (b : Keep S H1 H2) : Keep S H H2 := fun c o e n => b c o (a c o e n) n
theorem Keep.mono {S T : List Addr} {H H' : Hp} (a : Keep S H H') (h : ∀ x ∈ S, x ∈ T) : Keep T H H' := fun c o e n => a c o e fun z => n (h c z)
theorem Keep.nil {H H' : Hp} (a : Keep [] H H') : Same H H' := fun b o e => a b o e (by simp)
theorem keep_upd {S : List Addr} {H : Hp} {p : Addr} {o : HO} (h : p ∈ S) : Keep S H (upd H p o) := fun b x e n => (upd_ne (fun z : b = p => n (by rw [z]; exact h))).trans e
theorem same_upd {H : Hp} {p : Addr} {o : HO} (h : H p = none) : Same H (upd H p o) := fun b x e => (upd_ne (ne_of_none e h)).trans e

/-- a tuple stands at a -/
def TupAt (H : Hp) (a : Addr) (xs : List V) : Prop := Rd H a (.tup xs)
theorem TupAt.sq {K : PySem.W.Frag} {H : Hp} {a : Addr} {xs : List V} (h : TupAt H a xs) : SqT K H a xs := .inl h
theorem TupAt.of {H : Hp} {a : Addr} {xs : List V} (h : H a = some (.tup xs)) : TupAt H a xs := .inl h
theorem TupAt.frz {H : Hp} {a : Addr} {o : Obj} {xs : List V} (h : H a = some (.frz o (.tup xs))) : TupAt H a xs := .inr ⟨o, h⟩
theorem TupAt.same {H H' : Hp} {a : Addr} {xs : List V} (s : Same H H') (h : TupAt H a xs) : TupAt H' a xs := by
  rcases h with h | ⟨o, h⟩
  · exact .inl (s _ _ h)
  · exact .inr ⟨o, s _ _ h⟩
theorem TupAt.ty {K : PySem.W.Frag} {H : Hp} {a : Addr} {xs : List V} (h : TupAt H a xs) : TyX K H (.ref a) (.type "tuple") := by
  rcases h with h | ⟨o, h⟩
  · exact .base (.tup h)
  · exact .fTuple h
/-- tuples stay -/
def TSame (H H' : Hp) : Prop := ∀ a xs, TupAt H a xs → TupAt H' a xs
theorem Same.tsame {H H' : Hp} (s : Same H H') : TSame H H' := fun _ _ h => h.same s
theorem TSame.trans {H H1 H2 : Hp} (a : TSame H H1) (b : TSame H1 H2) : TSame H H2 := fun c xs h => b c xs (a c xs h)
/-- what stands at S is no tuple: tuples stay -/
theorem Keep.tsame {S : List Addr} {H H' : Hp} (k : Keep S H H') (h : ∀ a ∈ S, ∀ xs, ¬ TupAt H a xs) : TSame H H' := fun a xs e => by
  have na : a ∉ S := fun z => h a z xs e
  rcases e with e | ⟨o, e⟩
  · exact .inl (k _ _ e na)
  · exact .inr ⟨o, k _ _ e na⟩
theorem not_tup {H : Hp} {a : Addr} {o : HO} (h : H a = some o) (h1 : ∀ xs, o ≠ .tup xs) (h2 : ∀ ob xs, o ≠ .frz ob (.tup xs)) : ∀ xs, ¬ TupAt H a xs := fun xs z => by
  rcases z with z | ⟨ob, z⟩
  · rw [h] at z
    exact h1 _ (Option.some.inj z)
  · rw [h] at z
    exact h2 _ _ (Option.some.inj z)
theorem lst_not_tup {H : Hp} {a : Addr} {xs : List V} (h : H a = some (.lst xs)) : ∀ ys, ¬ TupAt H a ys := not_tup h (fun _ z => by cases z) fun _ _ z => by cases z
theorem ins_not_tup {H : Hp} {a C dx : Addr} {fs : List (Str × V)} (h : H a = some (.ins C dx fs)) : ∀ ys, ¬ TupAt H a ys := not_tup h (fun _ z => by cases z) fun _ _ z => by cases z

/-- two lists, item by item -/
inductive All2 {α β : Type} (R : α → β → Prop) : List α → List β → Prop
  | nil : All2 R [] []
  | cons {a : α} {b : β} {as : List α} {bs : List β} : R a b → All2 R as bs → All2 R (a :: as) (b :: bs)
section
variable {α β : Type} {R S : α → β → Prop}
theorem All2.length : ∀ {as : List α} {bs : List β}, All2 R as bs → as.length = bs.length
  | _, _, .nil => rfl
  | _, _, .cons _ t => congrArg Nat.succ t.length
theorem All2.imp (h : ∀ a b, R a b → S a b) : ∀ {as : List α} {bs : List β}, All2 R as bs → All2 S as bs
  | _, _, .nil => .nil
  | _, _, .cons r t => .cons (h _ _ r) (t.imp h)
theorem All2.get : ∀ {as : List α} {bs : List β}, All2 R as bs → ∀ {i : Nat} {a : α} {b : β}, as[i]? = some a → bs[i]? = some b → R a b
  | _, _, .cons r t, 0, a, b, h1, h2 => by
    cases h1
    cases h2
    exact r
  | _, _, .cons r t, i + 1, a, b, h1, h2 => t.get (i := i) h1 h2
theorem All2.append : ∀ {as : List α} {bs : List β} {cs : List α} {ds : List β}, All2 R as bs → All2 R cs ds → All2 R (as ++ cs) (bs ++ ds)
  | _, _, _, _, .nil, h => h
  | _, _, _, _, .cons r t, h => .cons r (t.append h)
theorem All2.snoc {as : List α} {bs : List β} {a : α} {b : β} (h : All2 R as bs) (r : R a b) : All2 R (as ++ [a]) (bs ++ [b]) := h.append (.cons r .nil)
end

def strV (n : Cs) : V := .str (SX.S n)
abbrev strL (ns : List Cs) : List V := ns.map fun n => .str (SX.S n)
abbrev Tie := Nat × Nat × Int
def tieV (x : Tie) : List V := [.int x.1, .int x.2.1, .int x.2.2]
def NamesOk (ns : List Cs) : Prop := 1 ≤ ns.length ∧ ns.length ≤ 12 ∧ (∀ n ∈ ns, IsName n) ∧ ns.Pairwise (· < ·)
def TieOk (many : Nat) (x : Tie) : Prop := x.1 < many ∧ x.2.1 < many ∧ x.1 ≠ x.2.1 ∧ x.2.2.natAbs ≤ 1000000
def TiesOk (many : Nat) (ts : List Tie) : Prop := ts.length ≤ 60 ∧ ∀ x ∈ ts, TieOk many x
def TiesAt (H : Hp) (b : Addr) (ts : List Tie) : Prop := ∃ as : List Addr, TupAt H b (as.map V.ref) ∧ All2 (fun a x => TupAt H a (tieV x)) as ts
theorem TiesAt.tsame {H H' : Hp} {b : Addr} {ts : List Tie} (s : TSame H H') (h : TiesAt H b ts) : TiesAt H' b ts := by
  obtain ⟨as, h1, h2⟩ := h
  exact ⟨as, s _ _ h1, h2.imp fun a x => s a (tieV x)⟩
theorem TiesAt.get {H : Hp} {b : Addr} {ts : List Tie} (h : TiesAt H b ts) : ∃ as : List Addr, TupAt H b (as.map V.ref) ∧ as.length = ts.length ∧ ∀ (i : Nat) (v : V), (as.map V.ref)[i]? = some v → ∃ (a : Addr) (x : Tie), v = V.ref a ∧ ts[i]? = some x ∧ TupAt H a (tieV x) := by
  obtain ⟨as, h1, h2⟩ := h
  refine ⟨as, h1, h2.length, fun i v e => ?_⟩
  rw [List.getElem?_map] at e
  cases e1 : as[i]? with
  | none =>
    rw [e1] at e
    cases e
  | some a =>
    rw [e1] at e
    have hi : i < ts.length := by
      rw [← h2.length]
      exact (List.getElem?_eq_some_iff.mp e1).1
    exact ⟨a, ts[i], (Option.some.inj e).symm, List.getElem?_eq_getElem hi, h2.get e1 (List.getElem?_eq_getElem hi)⟩
/-- a table's instance -/
def tabF (a b : Addr) : List (Str × V) := [("things", .ref a), ("ties", .ref b)]
structure TabAt (K : PySem.W.Frag) (H : Hp) (t : Addr) (ns : List Cs) (ts : List Tie) : Prop where
  ex : ∃ dx a b, H t = some (.ins (He.ga K "Table") dx (tabF a b)) ∧ TupAt H a (strL ns) ∧ TiesAt H b ts
end K07

set_option maxRecDepth 100000
set_option maxHeartbeats 4000000
/-! lists picked, data of tuples, small sums -/
namespace K07
open PySem PySem.Spec PyProof.Rows L2
theorem fm_filter {α β : Type} (c : α → Bool) (h : α → β) : ∀ l : List α, l.filterMap (fun i => if c i = true then some (h i) else none) = (l.filter c).map h
  | [] => rfl
  | a :: l => by
    by_cases e : c a = true
    · rw [List.filterMap_cons_some (f := fun i => if c i = true then some (h i) else none) (by show (if c a = true then some (h a) else none) = some (h a); rw [if_pos e]), List.filter_cons_of_pos e, List.map_cons, fm_filter c h l]
    · rw [List.filterMap_cons_none (f := fun i => if c i = true then some (h i) else none) (by show (if c a = true then some (h a) else none) = none; rw [if_neg e]), List.filter_cons_of_neg e, fm_filter c h l]
def nmAt (ns : List Cs) (i : Nat) : Cs := ns[i]?.getD []
theorem nmAt_get {ns : List Cs} {i : Nat} (h : i < ns.length) : nmAt ns i = ns[i] := by
  unfold nmAt
  rw [List.getElem?_eq_getElem h] <;> rfl
theorem at_nm {ns : List Cs} {i : Nat} (h : i < ns.length) : atI (strL ns) (i : Int) = some (.str (SX.S (nmAt ns i))) := by
  rw [nmAt_get h]
  exact at_str h
theorem nmAt_name {ns : List Cs} (h : NamesOk ns) {i : Nat} (hi : i < ns.length) : IsName (nmAt ns i) := by
  rw [nmAt_get hi]
  exact h.2.2.1 _ (List.getElem_mem hi)
/-- a thing that some tie names -/
def usedB (ts : List Tie) (i : Nat) : Bool := ts.any fun x => x.1 == i || x.2.1 == i
/-- the rows of a table -/
def tieW (ns : List Cs) (x : Tie) : List Word := [.nm (nmAt ns x.1), .nm (nmAt ns x.2.1), .it x.2.2]
def tabR (ns : List Cs) (ts : List Tie) : List (List Word) := ((List.range ns.length).filter fun i => !usedB ts i).map (fun i => [.nm (nmAt ns i)]) ++ ts.map (tieW ns)
theorem numL_le {n : Nat} {k : Nat} (h : n < 10 ^ k) (hk : 1 ≤ k) : (numL n).length ≤ k := by
  induction k generalizing n with
  | zero => omega
  | succ k ih =>
    show (TL.numL n).length ≤ k + 1
    by_cases h1 : n < 10
    · rw [TL.numL_lt h1]
      show 1 ≤ k + 1
      omega
    · rw [TL.numL_step (n := n) (by omega), List.length_append]
      have hk1 : 1 ≤ k := by
        cases k with
        | zero => omega
        | succ k => omega
      have e : (TL.numL (n / 10)).length ≤ k := ih (n := n / 10) (by rw [Nat.pow_succ] at h; omega) hk1
      show _ + 1 ≤ k + 1
      omega
theorem intL_le {i : Int} (h : i.natAbs ≤ 1000000000) : (intL i).length ≤ 11 := by
  have e := numL_le (n := i.natAbs) (k := 10) (by omega) (by decide)
  unfold intL
  split
  · show _ + 1 ≤ 11
    omega
  · omega
theorem log_le {i : Int} (h : i.natAbs ≤ 1000000000) : i.natAbs.log2 < 1920 := by
  by_cases h0 : i.natAbs = 0
  · rw [h0]
    decide
  · have a : i.natAbs < 2 ^ 30 := by omega
    have b := (Nat.log2_lt h0).mpr a
    omega
theorem Same.ts {H H' : Hp} (s : Same H H') : TSame H H' := Same.tsame s
section
variable {K : PySem.W.Frag} {H : Hp} {a C dx : Addr} {fs : List (Str × V)} {f : Str} {v : V} {R : V → Prop}
theorem r_fl (e : H a = some (.ins C dx fs)) (c : Cls K C) (n : NoAttr K C f) (l : fs.lookup f = some v) (q : R v) : ∃ a' C dx fs v, V.ref a = .ref a' ∧ H a' = some (.ins C dx fs) ∧ Cls K C ∧ NoAttr K C f ∧ fs.lookup f = some v ∧ R v :=
  ⟨a, C, dx, fs, v, rfl, e, c, n, l, q⟩
end
theorem small {n : Nat} (h : n ≤ 100) : n ≤ sizeLine := Nat.le_trans h (by decide)
theorem small' {n : Nat} (h : n ≤ 100) : n < sizeLine := Nat.lt_of_le_of_lt h (by decide)
/-! ### more readings -/
section
variable {σ : L2.St} {H : Hp} {Q : VK} {te to : TE} {t : TA} {tl th : TO} {K : PySem.W.Frag} {ts : List TE} {QO : Option Int → Hp → Prop} {QS : Str → Hp → Prop} {a : Cs} {D : Ends} {i j l : Nat}
theorem r_sl {r : V → Option Int → Option Int → Hp → VK → Prop} (h : te σ H fun x H1 => tl σ H1 fun l H2 => th σ H2 fun u H3 => r x l u H3 Q) : tSl r te tl th σ H Q := h
theorem r_np (h : QO none H) : tNoPart σ H QO := h
theorem r_pt (h : te σ H fun x H1 => ∃ i, x = .int i ∧ QO (some i) H1) : tPart te σ H QO := h
theorem r_m1 {r : V → List V → Hp → VK → Prop} {z : Str} (h : te σ H fun y H2 => r (.str z) [y] H2 Q) : tM1 r (tC (.str z)) te σ H Q := ⟨⟨z, rfl⟩, h⟩
/-- a part of an f-string -/
def JsOk (a : Cs) (ts : List TE) (σ : L2.St) (QS : Str → Hp → Prop) : VK := fun x H1 => (∃ y : Str, x = .str y ∧ y.length ≤ sizeLine ∧ ∃ y' : Str, V.str y = .str y' ∧ (SX.S a ++ y').length ≤ sizeLine ∧ tJs ts (SX.S a ++ y') σ H1 QS) ∨
  ∃ i : Int, x = .int i ∧ i.natAbs.log2 < 1920 ∧ ∃ y' : Str, V.str (toString i) = .str y' ∧ (SX.S a ++ y').length ≤ sizeLine ∧ tJs ts (SX.S a ++ y') σ H1 QS
theorem r_j0 (h : tJs ts (SX.S []) σ H QS) : tJs ts Str.empty σ H QS := h
theorem r_jF (h : te σ H (JsOk a ts σ QS)) : tJs (tFmt te :: ts) (SX.S a) σ H QS := h
theorem r_jC {z : Str} {y : Cs} (hy : z = SX.S y) (hl : a.length + y.length ≤ 1000000) (h : tJs ts (SX.S (a ++ y)) σ H QS) : tJs (tC (.str z) :: ts) (SX.S a) σ H QS := by
  subst hy
  refine ⟨SX.S y, rfl, ?_, ?_⟩
  · rw [SX.S_cat, SX.S_len, List.length_append]
    exact Nat.le_trans hl (by decide)
  · rw [SX.S_cat]
    exact h
theorem r_jS {y : Cs} (hl : a.length + y.length ≤ 1000000) (h : tJs ts (SX.S (a ++ y)) σ H QS) : JsOk a ts σ QS (.str (SX.S y)) H :=
  .inl ⟨_, rfl, by rw [SX.S_len]; exact Nat.le_trans (Nat.le_trans (Nat.le_add_left _ _) hl) (by decide), _, rfl, by
    rw [SX.S_cat, SX.S_len, List.length_append]
    exact Nat.le_trans hl (by decide), by
    rw [SX.S_cat]
    exact h⟩
theorem r_jI {n : Int} (hn : n.natAbs ≤ 1000000000) (hl : a.length ≤ 999989) (h : tJs ts (SX.S (a ++ intL n)) σ H QS) : JsOk a ts σ QS (.int n) H :=
  .inr ⟨_, rfl, log_le hn, _, rfl, by
    rw [intL_str, SX.S_cat, SX.S_len, List.length_append]
    exact Nat.le_trans (show _ ≤ 1000000 by have := intL_le hn; omega) (by decide), by
    rw [intL_str, SX.S_cat]
    exact h⟩
theorem r_jN (h : QS (SX.S a) H) : tJs [] (SX.S a) σ H QS := h
theorem r_par (h : t σ H fun vs H1 => ∃ v w, vs = [v, w] ∧ D.nx ((σ.set i (some v)).set j (some w)) H1) : tPar i j t D σ H := h
end
section
variable {σ : L2.St} {H : Hp} {D : Ends} {i j : Nat} {v x : V}
theorem r_p2 (h : D.nx ((σ.set i (some v)).set j (some x)) H) : ∃ v' w', [v, x] = [v', w'] ∧ D.nx ((σ.set i (some v')).set j (some w')) H := ⟨v, x, rfl, h⟩
theorem r_app {l : Addr} {xs : List V} {y : V} {Q : VK} (e : H l = some (.lst xs)) (hl : xs.length ≤ 1000) (q : Q .non (upd H l (.lst (xs ++ [y])))) : rAppend (.ref l) [y] H Q := ⟨l, xs, y, rfl, rfl, e, Nat.lt_of_le_of_lt hl (by decide), q⟩
end
theorem same_set {H H2 : Hp} {D : Addr} {o : HO} (hD : H D = none) (s : Same H H2) : Same H (upd H2 D o) := fun b x e => (upd_ne (ne_of_none e hD)).trans (s _ _ e)
section
variable {σ : L2.St} {H : Hp} {Q : VK} {to : TE} {t : TA} {K : PySem.W.Frag} {T : String} {r : V → List V → Hp → VK → Prop} {p : Addr} {xs : List V} {X : Prop}
theorem r_gsub {tv ti : TE} {ts : TSet} {v : V} {R : L2.St → Hp → Prop} (h : tv σ H fun o H1 => ti σ H1 fun i H2 => ts o i v H2 fun H3 => R σ H3) : gSub tv ti ts v σ H R := h
theorem r_u {g : Int → V} {i : Int} (h : Q (g i) H) : rU g (.int i) H Q := ⟨i, rfl, h⟩
theorem r_meth {C : Addr} {m : Str} {sp : Sp} {dvs : List V} {E : XK} (h : to σ H fun x H1 => ∃ a dx fs, x = .ref a ∧ H1 a = some (.ins C dx fs) ∧ fs.lookup m = none ∧ t σ H1 fun vs H2 => sp (x :: (vs ++ dvs)) H2 Q E) : tMeth C m sp dvs E to t σ H Q := h
theorem r_ms {a C dx : Addr} {fs : List (Str × V)} {m : Str} (e : H a = some (.ins C dx fs)) (l : fs.lookup m = none) (q : X) : ∃ a' dx fs, V.ref a = .ref a' ∧ H a' = some (.ins C dx fs) ∧ fs.lookup m = none ∧ X := ⟨a, dx, fs, rfl, e, l, q⟩
theorem r_make {C : Addr} {sp : Sp} {dvs : List V} {E : XK} (h : t σ H fun vs H1 => ∀ x dx, H1 x = none → H1 dx = none → dx ≠ x → sp (.ref x :: (vs ++ dvs)) (upd (upd H1 dx (.own x)) x (.ins C dx [])) (fun v H2 => v = .non ∧ Q (.ref x) H2) E) : tMake C sp dvs E t σ H Q := h
theorem r_bm (h : to σ H fun x H1 => tyV K T x H1 ∧ t σ H1 fun xs H2 => r x xs H2 Q) : tBM K T r to t σ H Q := h
theorem r_bm0 (h : to σ H fun x H1 => tyV K T x H1 ∧ r x [] H1 Q) : tBM0 K T r to σ H Q := h
theorem r_tyL (e : H p = some (.lst xs)) (h : X) : tyV K "list" (.ref p) H ∧ X := ⟨.inl ⟨rfl, xs, SqL.of e⟩, h⟩
end
/-! ### data -/
def intsD (js : List Int) : PyData := .tuple (js.map .int)
theorem dpAll_ints {K : PySem.W.Frag} {H : Hp} : ∀ js : List Int, DpAll K H (js.map V.int) (js.map PyData.int)
  | [] => .nil
  | j :: js => .cons (.int j) (dpAll_ints js)
theorem TupAt.ints {K : PySem.W.Frag} {H : Hp} {a : Addr} {js : List Int} (h : TupAt H a (js.map V.int)) : Dp K H (.ref a) (intsD js) := .tup h.sq (dpAll_ints js)
theorem lay_ints : ∀ js : List Int, PyData.canLayAll0 (js.map PyData.int) = true
  | [] => by simp [PyData.canLayAll0]
  | j :: js => by
    rw [List.map_cons]
    simp only [PyData.canLayAll0, PyData.canLay0, Bool.true_and]
    exact lay_ints js
theorem depth_ints : ∀ js : List Int, PyData.depthAll (js.map PyData.int) = 0
  | [] => by simp [PyData.depthAll]
  | j :: js => by
    rw [List.map_cons]
    simp only [PyData.depthAll, PyData.depth, depth_ints js]
    rfl
theorem shaped_ints (js : List Int) : SeqAt.shaped (intsD js) = true := by
  unfold SeqAt.shaped intsD
  rw [Bool.and_eq_true]
  refine ⟨?_, decide_eq_true ?_⟩
  · simp only [PyData.canLay0]
    exact lay_ints js
  · simp only [PyData.depth, depth_ints]
    decide
theorem eqv_nil (js : List Int) : PyData.eqv (intsD js) (intsD []) = decide (js = []) := by
  cases js with
  | nil => simp [intsD, PyData.eqv, PyData.eqvAll]
  | cons j js => simp [intsD, PyData.eqv, PyData.eqvAll]
end K07

set_option maxRecDepth 100000
set_option maxHeartbeats 4000000
namespace K07
open PySem PySem.Spec PyProof.Rows L2
local macro_rules | `(tactic| walk_at "rd") => `(tactic| repeat (first
  | with_reducible refine r_seq ?_ | with_reducible refine r_asg ?_ | with_reducible refine r_name ?_ | with_reducible refine r_ret ?_ | with_reducible refine r_drop ?_ | with_reducible refine r_if ?_ | with_reducible refine r_nx ?_
  | with_reducible refine r_c ?_ | with_reducible refine r_op ?_ | with_reducible refine r_un ?_ | with_reducible refine r_cons ?_ | with_reducible refine r_nil ?_ | with_reducible refine r_test ?_ | with_reducible refine r_B ?_
  | with_reducible refine r_and ?_ | with_reducible refine r_or ?_ | with_reducible refine r_not ?_ | with_reducible refine r_andV ?_ | with_reducible refine r_orV ?_ | with_reducible refine r_notV ?_ | with_reducible refine r_tif ?_
  | with_reducible refine r_chain ?_ | with_reducible refine r_tyes ?_ | with_reducible refine r_lc ?_ | with_reducible refine r_rng1 ?_ | with_reducible refine r_itup ?_ | with_reducible refine r_ilist ?_ | with_reducible refine r_ienum ?_ | with_reducible refine r_istr ?_
  | with_reducible refine r_tup ?_ | with_reducible refine r_lst ?_ | with_reducible refine r_tfld ?_ | with_reducible refine r_gcons ?_ | with_reducible refine r_gnil ?_ | with_reducible refine r_gfld ?_ | with_reducible refine r_for ?_ | with_reducible refine r_sfld ?_ | with_reducible refine r_call ?_ | with_reducible refine r_cb ?_ | with_reducible refine r_sl ?_ | with_reducible refine r_np ?_ | with_reducible refine r_pt ?_ | with_reducible refine r_m1 ?_ | with_reducible refine r_par ?_ | with_reducible refine r_p2 ?_ | with_reducible refine r_u ?_ | with_reducible refine r_meth ?_ | with_reducible refine r_make ?_ | with_reducible refine r_gsub ?_ | with_reducible refine r_bm ?_ | with_reducible refine r_bm0 ?_ | with_reducible refine r_j0 ?_ | with_reducible refine r_jF ?_ | with_reducible refine r_jN ?_ | with_reducible refine r_bl ?_ | with_reducible refine r_i0 ?_ | with_reducible refine tt_ite ?_ | with_reducible refine ff_ite ?_ | with_reducible refine nt_ite ?_ | with_reducible refine nf_ite ?_
  | with_reducible refine r_var (by with_unfolding_all exact rfl) ?_))
section
variable {P : Program} {w : World} {K : PySem.W.Frag} {mg : Str → Option Value} {base : Heap}
/-! ### words -/
def spIsInt : Sp := fun vs H Q _ => ∃ i : Int, vs = [.int i] ∧ Q (.bl true) H
theorem cal_is_integer (W : Wd K mg) : C8.Cal P w K mg base 1 "is_integer" spIsInt [] := by
  refine mk_is_integer W (fun vs H Q E h => ?_) fun cdv A outer s H vs Q E hr h => ?_
  · obtain ⟨i, rfl, _⟩ := h
    rfl
  obtain ⟨i, rfl, q⟩ := h
  refine ⟨_, (pss_one (ps_ret (pe_and (pe_callB (crIsi (K := K)) rfl W.z_isinstance (by decide +kernel) (pa_cons (pv 0) (pa_cons (pe_ty (T := "int") rfl W.z_int (by decide +kernel)) pa_nil))) (pe_one (pe_not (pe_callB (crIsi (K := K)) rfl W.z_isinstance (by decide +kernel) (pa_cons (pv 0) (pa_cons (pe_ty (T := "bool") rfl W.z_bool (by decide +kernel)) pa_nil)))))))), ?_⟩
  walk_at "rd"
  refine r_isi (T := "int") (b := true) (.base (.int i)) (by decide +kernel) ?_
  walk_at "rd"
  refine r_isi (T := "bool") (b := false) (.base (.int i)) (by decide +kernel) ?_
  walk_at "rd"
  exact q
def spIsName : Sp := fun vs H Q _ => ∃ n : Cs, vs = [.str (SX.S n)] ∧ IsName n ∧ ∀ H', Same H H' → Q (.bl true) H'
theorem cal_is_name (W : Wd K mg) : C8.Cal P w K mg base 1 "is_name" spIsName [] := by
  refine mk_is_name W (fun vs H Q E h => ?_) fun cdv A outer s H vs Q E hr h => ?_
  · obtain ⟨i, rfl, _⟩ := h
    rfl
  obtain ⟨n, rfl, hn, q⟩ := h
  refine ⟨_, (pss_cons (ps_if (PW.pt (pw_or (pt_not (pt_val (pe_callB (crIsi (K := K)) rfl W.z_isinstance (by decide +kernel) (pa_cons (pv 0) (pa_cons (pe_ty (T := "str") rfl W.z_str (by decide +kernel)) pa_nil))))) (pw_or1 (pt_not (pt_chain op_le op_le pe_int (pe_callB crLnS rfl W.z_len (by decide +kernel) (pa_cons (pv 0) pa_nil)) (C8.pe_gc rfl W.i_LONGEST_NAME))))))
    (pss_one (ps_ret pe_bl))
    pss_nil)
    (pss_one (ps_ret (pe_callB (crAll (K := K)) rfl W.z_all (by decide +kernel) (pa_cons (pe_lc (own := [("sign", 1)]) (g := gName 1) (tt := tYes) rfl sc_is_name.nd (pi_str (pv 0)) (blkOk_by (own := [("sign", 1)]) (N := N_is_name) (sc := defScope s_is_name) (by decide +kernel)) (fun _ _ _ _ _ => (pg_name (i := 1) sc_is_name.nd rfl (Or.inl rfl))) (fun _ _ _ _ _ => pts_nil) (fun _ _ _ _ _ => (pe_cmpR op_in_sign (pv 1) (C8.pe_gc rfl W.s_LETTERS) rfl))) pa_nil))))), ?_⟩
  walk_at "rd"
  refine r_isi (T := "str") (b := true) (.base (.str _)) (by decide +kernel) ?_
  walk_at "rd"
  refine ⟨n, rfl, Nat.le_trans hn.2.1 (by decide), ?_⟩
  walk_at "rd"
  refine r_yes (decide_eq_true (by have := hn.1; omega)) ?_
  walk_at "rd"
  rw [show decide (((n.length : Nat) : Int) ≤ 6) = true from decide_eq_true (by have := hn.2.1; omega)]
  walk_at "rd"
  refine ⟨_, rfl, fun D hD => lc_map walk_str (fun i => if i < n.length then some (.bl true) else none) hD ?_ (fun _ _ => trivial) (fun i H x H' y => y.1 ▸ Same.refl _) ?_ ?_⟩
  · show n.toArray.size < sizeLine
    rw [List.size_toArray]
    exact Nat.lt_of_le_of_lt hn.2.1 (by decide)
  · rintro i x H1 H2 R R0 hi s1 s2 ⟨rfl, c, hc, rfl⟩ k1 k2
    have hi' : i < n.length := by simpa using hi
    have hc' : n[i]? = some c := by simpa using hc
    refine ⟨rfl, ?_⟩
    walk_at "rd"
    refine ⟨c, _, rfl, rfl, ?_⟩
    rw [show decide (c ∈ (Str.ofString "abcdefghijklmnopqrstuvwxyz").cps.toList) = true from decide_eq_true ((mem_letters c).mpr (hn.2.2 c (List.mem_of_getElem? hc')))]
    exact k1 _ _ (if_pos hi') (Same.refl _)
  · intro H' s1 e1
    walk_at "rd"
    refine ⟨D, List.replicate n.length true, rfl, ?_, ?_⟩
    · rw [show (Str.cps (SX.S n)).size = n.length by simp] at e1
      rw [fm_range _ (fun _ => V.bl true) n.length fun i hi => if_pos hi] at e1
      refine SqL.of (e1.trans ?_)
      rw [show (List.range n.length).map (fun _ => V.bl true) = (List.replicate n.length true).map V.bl from List.ext_getElem (by simp) (by simp)]
    · rw [show (List.replicate n.length true).all id = true by simp]
      exact q H' s1
def spAsc (K : PySem.W.Frag) : Sp := fun vs H Q _ => ∃ (a : Addr) (ns : List Cs), vs = [.ref a] ∧ SqT K H a (ns.map fun n => .str (SX.S n)) ∧ ns.length ≤ 100 ∧ ns.Pairwise (· < ·) ∧ ∀ H', Same H H' → Q (.bl true) H'
theorem cal_is_ascending (W : Wd K mg) : C8.Cal P w K mg base 1 "is_ascending" (spAsc K) [] := by
  refine mk_is_ascending W (fun vs H Q E h => ?_) fun cdv A outer s H vs Q E hr h => ?_
  · obtain ⟨a, ns, rfl, _⟩ := h
    rfl
  obtain ⟨a, ns, rfl, hT, hl, hp, q⟩ := h
  refine ⟨_, (pss_one (ps_ret (pe_callB (crAll (K := K)) rfl W.z_all (by decide +kernel) (pa_cons (pe_lc (own := [("at", 1)]) (g := gName 1) (tt := tYes) rfl sc_is_ascending.nd (pi_range1 rfl W.z_range (pa_cons (pe_op op_sub (pe_callB (crLn (K := K)) rfl W.z_len (by decide +kernel) (pa_cons (pv 0) pa_nil)) pe_int) pa_nil)) (blkOk_by (own := [("at", 1)]) (N := N_is_ascending) (sc := defScope s_is_ascending) (by decide +kernel)) (fun _ _ _ _ _ => (pg_name (i := 1) sc_is_ascending.nd rfl (Or.inl rfl))) (fun _ _ _ _ _ => pts_nil) (fun _ _ _ _ _ => (pe_cmpR op_lt_str (pe_ix (ixT (K := K)) (pv 0) (pv 1) (fun _ _ => rfl)) (pe_ix (ixT (K := K)) (pv 0) (pe_op op_add (pv 1) pe_int) (fun _ _ => rfl)) (nomark _)))) pa_nil)))), ?_⟩
  walk_at "rd"
  refine r_lnT hT ?_
  rw [List.length_map]
  walk_at "rd"
  refine ⟨_, rfl, by omega, by omega, fun D hD => ?_⟩
  rw [show (((ns.length : Nat) : Int) - 1).toNat = ns.length - 1 by omega]
  refine lc_map walk_nat (fun i => if i < ns.length - 1 then some (.bl true) else none) hD (Nat.lt_of_le_of_lt (Nat.sub_le _ _) (Nat.lt_of_le_of_lt hl (by decide))) (fun _ _ => trivial) yNat_same ?_ ?_
  · rintro i x H1 H2 R R0 hi s1 s2 ⟨rfl, rfl⟩ k1 k2
    refine ⟨rfl, ?_⟩
    walk_at "rd"
    have h1 : i < ns.length := by omega
    have h2 : i + 1 < ns.length := by omega
    refine r_ixT (s1.sqt hT) (at_str h1) ?_
    walk_at "rd"
    rw [show ((i : Nat) : Int) + 1 = ((i + 1 : Nat) : Int) by omega]
    refine r_ixT (s1.sqt hT) (at_str h2) ⟨_, _, rfl, rfl, ?_⟩
    rw [show decide ((SX.S ns[i]).cps.toList < (SX.S ns[i + 1]).cps.toList) = true from decide_eq_true (List.pairwise_iff_getElem.mp hp i (i + 1) h1 h2 (Nat.lt_succ_self i))]
    exact k1 _ _ (if_pos hi) (Same.refl _)
  · intro H' s1 e1
    walk_at "rd"
    refine ⟨D, List.replicate (ns.length - 1) true, rfl, ?_, ?_⟩
    · rw [fm_range _ (fun _ => V.bl true) _ fun i hi => if_pos hi] at e1
      refine SqL.of (e1.trans ?_)
      rw [show (List.range (ns.length - 1)).map (fun _ => V.bl true) = (List.replicate (ns.length - 1) true).map V.bl from List.ext_getElem (by simp) (by simp)]
    · rw [show (List.replicate (ns.length - 1) true).all id = true by simp]
      exact q H' s1
end
end K07

set_option maxRecDepth 100000
set_option maxHeartbeats 4000000
namespace K07
open PySem PySem.Spec PyProof.Rows L2
local macro_rules | `(tactic| walk_at "rd") => `(tactic| repeat (first
  | with_reducible refine r_seq ?_ | with_reducible refine r_asg ?_ | with_reducible refine r_name ?_ | with_reducible refine r_ret ?_ | with_reducible refine r_drop ?_ | with_reducible refine r_if ?_ | with_reducible refine r_nx ?_
  | with_reducible refine r_c ?_ | with_reducible refine r_op ?_ | with_reducible refine r_un ?_ | with_reducible refine r_cons ?_ | with_reducible refine r_nil ?_ | with_reducible refine r_test ?_ | with_reducible refine r_B ?_
  | with_reducible refine r_and ?_ | with_reducible refine r_or ?_ | with_reducible refine r_not ?_ | with_reducible refine r_andV ?_ | with_reducible refine r_orV ?_ | with_reducible refine r_notV ?_ | with_reducible refine r_tif ?_
  | with_reducible refine r_chain ?_ | with_reducible refine r_tyes ?_ | with_reducible refine r_lc ?_ | with_reducible refine r_rng1 ?_ | with_reducible refine r_itup ?_ | with_reducible refine r_ilist ?_ | with_reducible refine r_ienum ?_ | with_reducible refine r_istr ?_
  | with_reducible refine r_tup ?_ | with_reducible refine r_lst ?_ | with_reducible refine r_tfld ?_ | with_reducible refine r_gcons ?_ | with_reducible refine r_gnil ?_ | with_reducible refine r_gfld ?_ | with_reducible refine r_for ?_ | with_reducible refine r_sfld ?_ | with_reducible refine r_call ?_ | with_reducible refine r_cb ?_ | with_reducible refine r_sl ?_ | with_reducible refine r_np ?_ | with_reducible refine r_pt ?_ | with_reducible refine r_m1 ?_ | with_reducible refine r_par ?_ | with_reducible refine r_p2 ?_ | with_reducible refine r_u ?_ | with_reducible refine r_meth ?_ | with_reducible refine r_make ?_ | with_reducible refine r_gsub ?_ | with_reducible refine r_bm ?_ | with_reducible refine r_bm0 ?_ | with_reducible refine r_j0 ?_ | with_reducible refine r_jF ?_ | with_reducible refine r_jN ?_ | with_reducible refine r_bl ?_ | with_reducible refine r_i0 ?_ | with_reducible refine tt_ite ?_ | with_reducible refine ff_ite ?_ | with_reducible refine nt_ite ?_ | with_reducible refine nf_ite ?_
  | with_reducible refine r_var (by with_unfolding_all exact rfl) ?_))
section
variable {P : Program} {w : World} {K : PySem.W.Frag} {mg : Str → Option Value} {base : Heap}
/-! ### tables -/
def spThings (K : PySem.W.Frag) : Sp := fun vs H Q _ => ∃ (a : Addr) (ns : List Cs), vs = [.ref a] ∧ TupAt H a (strL ns) ∧ NamesOk ns ∧ ∀ H', Same H H' → Q (.bl true) H'
theorem cal_are_things (W : Wd K mg) : C8.Cal P w K mg base 2 "are_things" (spThings K) [] := by
  refine mk_are_things W (fun vs H Q E h => ?_) fun cdv A outer s H vs Q E hr h => ?_
  · obtain ⟨a, ns, rfl, _⟩ := h
    rfl
  obtain ⟨a, ns, rfl, hT, ⟨h1, h2, h3, h4⟩, q⟩ := h
  refine ⟨_, (pss_cons (ps_if (PW.pt (pw_or (pt_not (pt_val (pe_callB (crIsi (K := K)) rfl W.z_isinstance (by decide +kernel) (pa_cons (pv 0) (pa_cons (pe_ty (T := "tuple") rfl W.z_tuple (by decide +kernel)) pa_nil))))) (pw_or1 (pt_not (pt_chain op_le op_le pe_int (pe_callB (crLn (K := K)) rfl W.z_len (by decide +kernel) (pa_cons (pv 0) pa_nil)) (C8.pe_gc rfl W.i_MOST_THINGS))))))
    (pss_one (ps_ret pe_bl))
    pss_nil)
    (pss_one (ps_ret (pe_and (pe_callB (crAll (K := K)) rfl W.z_all (by decide +kernel) (pa_cons (pe_lc (own := [("name", 1)]) (g := gName 1) (tt := tYes) rfl sc_are_things.nd (piT (K := K) rfl (pv 0)) (blkOk_by (own := [("name", 1)]) (N := N_are_things) (sc := defScope s_are_things) (by decide +kernel)) (fun _ _ _ _ _ => (pg_name (i := 1) sc_are_things.nd rfl (Or.inl rfl))) (fun _ _ _ _ _ => pts_nil) (fun _ _ _ _ _ => (C8.pe_c (cal_is_name W) hr (by decide) rfl (pa_cons (pv 1) pa_nil)))) pa_nil)) (pe_one (C8.pe_c (cal_is_ascending W) hr (by decide) rfl (pa_cons (pv 0) pa_nil))))))), ?_⟩
  walk_at "rd"
  refine r_isi (T := "tuple") (b := true) hT.ty (by decide +kernel) ?_
  walk_at "rd"
  refine r_lnT hT.sq ?_
  rw [List.length_map]
  walk_at "rd"
  refine r_yes (decide_eq_true (by omega)) ?_
  walk_at "rd"
  rw [show decide (((ns.length : Nat) : Int) ≤ 12) = true from decide_eq_true (by omega)]
  walk_at "rd"
  refine ⟨_, rfl, ⟨_, hT.sq⟩, fun D hD => lc_map walk_tup (fun i => if i < ns.length then some (.bl true) else none) hD ?_ (fun H' s1 => (hT.same s1).sq) yAt_same ?_ ?_⟩
  · rw [List.length_map]
    exact Nat.lt_of_le_of_lt h2 (by decide)
  · rintro i x H1 H2 R R0 hi s1 s2 ⟨rfl, hx⟩ k1 k2
    rw [List.length_map] at hi
    rw [List.getElem?_map, List.getElem?_eq_getElem hi] at hx
    obtain rfl := Option.some.inj hx
    refine ⟨rfl, ?_⟩
    walk_at "rd"
    exact ⟨ns[i], rfl, h3 _ (List.getElem_mem hi), fun H4 s4 => k1 _ _ (if_pos hi) s4⟩
  · intro H' s1 e1
    walk_at "rd"
    refine ⟨D, List.replicate ns.length true, rfl, ?_, ?_⟩
    · rw [List.length_map, fm_range _ (fun _ => V.bl true) _ fun i hi => if_pos hi] at e1
      refine SqL.of (e1.trans ?_)
      rw [show (List.range ns.length).map (fun _ => V.bl true) = (List.replicate ns.length true).map V.bl from List.ext_getElem (by simp) (by simp)]
    · rw [show (List.replicate ns.length true).all id = true by simp]
      walk_at "rd"
      exact ⟨a, ns, rfl, (hT.same s1).sq, by omega, h4, fun H2 s2 => q H2 (s1.trans s2)⟩
def spTie (K : PySem.W.Frag) : Sp := fun vs H Q _ => ∃ (a : Addr) (x : Tie) (many : Nat), vs = [.ref a, .int many] ∧ TupAt H a (tieV x) ∧ TieOk many x ∧ ∀ H', Same H H' → Q (.bl true) H'
theorem cal_is_tie (W : Wd K mg) : C8.Cal P w K mg base 2 "is_tie" (spTie K) [] := by
  refine mk_is_tie W (fun vs H Q E h => ?_) fun cdv A outer s H vs Q E hr h => ?_
  · obtain ⟨a, x, many, rfl, _⟩ := h
    rfl
  obtain ⟨a, x, many, rfl, hT, ⟨h1, h2, h3, h4⟩, q⟩ := h
  refine ⟨_, (pss_cons (ps_if (PW.pt (pw_or (pt_not (pt_val (pe_callB (crIsi (K := K)) rfl W.z_isinstance (by decide +kernel) (pa_cons (pv 0) (pa_cons (pe_ty (T := "tuple") rfl W.z_tuple (by decide +kernel)) pa_nil))))) (pw_or (pt_cmpR op_ne (pe_callB (crLn (K := K)) rfl W.z_len (by decide +kernel) (pa_cons (pv 0) pa_nil)) pe_int (nomark _)) (pw_or1 (pt_not (pt_val (pe_callB (crAll (K := K)) rfl W.z_all (by decide +kernel) (pa_cons (pe_lc (own := [("item", 2)]) (g := gName 2) (tt := tYes) rfl sc_is_tie.nd (piT (K := K) rfl (pv 0)) (blkOk_by (own := [("item", 2)]) (N := N_is_tie) (sc := defScope s_is_tie) (by decide +kernel)) (fun _ _ _ _ _ => (pg_name (i := 2) sc_is_tie.nd rfl (Or.inl rfl))) (fun _ _ _ _ _ => pts_nil) (fun _ _ _ _ _ => (C8.pe_c (cal_is_integer W) hr (by decide) rfl (pa_cons (pv 2) pa_nil)))) pa_nil))))))))
    (pss_one (ps_ret pe_bl))
    pss_nil)
    (pss_cons (ps_asg (pv 0) (pgT (K := K) (n := 3) rfl rfl (pgs_cons (pg_name (i := 3) sc_is_tie.nd rfl (Or.inl rfl)) (pgs_cons (pg_name (i := 4) sc_is_tie.nd rfl (Or.inl rfl)) (pgs_cons (pg_name (i := 5) sc_is_tie.nd rfl (Or.inl rfl)) pgs_nil)))))
    (pss_one (ps_ret (pe_and (pe_chain op_le op_lt pe_int (pv 3) (pv 1)) (pe_and (pe_chain op_le op_lt pe_int (pv 4) (pv 1)) (pe_and (pe_cmpR op_ne (pv 3) (pv 4) (nomark _)) (pe_one (pe_cmpR op_le (pe_callB call_abs rfl W.z_abs (by decide +kernel) (pa_cons (pv 5) pa_nil)) (C8.pe_gc rfl W.i_MOST_WEIGHT) (nomark _)))))))))), ?_⟩
  walk_at "rd"
  refine r_isi (T := "tuple") (b := true) hT.ty (by decide +kernel) ?_
  walk_at "rd"
  refine r_lnT hT.sq ?_
  walk_at "rd"
  refine r_ne rfl ?_
  rw [show ((tieV x).length : Int) = 3 from rfl, v_eq]
  walk_at "rd"
  refine ⟨_, rfl, ⟨_, hT.sq⟩, fun D hD => lc_map (walk_tup (xs := tieV x)) (fun i => if i < 3 then some (.bl true) else none) hD (show 3 < sizeLine by decide) (fun H' s1 => (hT.same s1).sq) yAt_same ?_ ?_⟩
  · rintro i v H1 H2 R R0 hi s1 s2 ⟨rfl, hx⟩ k1 k2
    have hi3 : i < 3 := hi
    refine ⟨rfl, ?_⟩
    walk_at "rd"
    obtain ⟨z, rfl⟩ : ∃ z : Int, v = .int z := by
      match i, hi3, hx with
      | 0, _, hx => exact ⟨_, (Option.some.inj hx).symm⟩
      | 1, _, hx => exact ⟨_, (Option.some.inj hx).symm⟩
      | 2, _, hx => exact ⟨_, (Option.some.inj hx).symm⟩
    exact ⟨z, rfl, k1 _ _ (if_pos hi3) (Same.refl _)⟩
  · intro H' s1 e1
    walk_at "rd"
    refine ⟨D, [true, true, true], rfl, SqL.of e1, ?_⟩
    walk_at "rd"
    refine r_no rfl ?_
    walk_at "rd"
    refine r_gtup (xs := [.int x.1, .int x.2.1, .int x.2.2]) (hT.same s1).sq rfl ?_
    walk_at "rd"
    refine r_yes (decide_eq_true (by omega)) ?_
    walk_at "rd"
    rw [show decide ((x.1 : Int) < many) = true from decide_eq_true (by omega)]
    walk_at "rd"
    refine r_yes (decide_eq_true (by omega)) ?_
    walk_at "rd"
    rw [show decide ((x.2.1 : Int) < many) = true from decide_eq_true (by omega)]
    walk_at "rd"
    refine r_ne rfl ?_
    rw [show decide (V.int (x.1 : Int) = V.int (x.2.1 : Int)) = false from decide_eq_false fun z => h3 (by injection z; omega)]
    walk_at "rd"
    refine ⟨_, rfl, ?_⟩
    walk_at "rd"
    rw [show decide ((if x.2.2 < 0 then -x.2.2 else x.2.2) ≤ 1000000) = true from decide_eq_true (by split <;> omega)]
    exact q H' s1
theorem same_but {H H1 H2 : Hp} {x : Addr} (a : ∀ c o, c ≠ x → H c = some o → H1 c = some o) (b : Same H1 H2) : ∀ c o, c ≠ x → H c = some o → H2 c = some o := fun c o n e => b c o (a c o n e)
def spTabInit (K : PySem.W.Frag) : Sp := fun vs H Q _ => ∃ (x a b dx : Addr) (ns : List Cs) (ts : List Tie), vs = [.ref x, .ref a, .ref b] ∧ H x = some (.ins (He.ga K "Table") dx []) ∧ TupAt H a (strL ns) ∧ TiesAt H b ts ∧ NamesOk ns ∧ TiesOk ns.length ts ∧
  ∀ H', Keep [x] H H' → H' x = some (.ins (He.ga K "Table") dx (tabF a b)) → Q .non H'
theorem mak_Table (W : Wd K mg) : C8.Mak P w K mg base 3 "Table" (He.ga K "Table") (spTabInit K) [] := by
  refine mk_Table_init W (fun vs H Q E h => ?_) fun cdv A outer s H vs Q E hr h => ?_
  · obtain ⟨x, a, b, dx, ns, ts, rfl, _⟩ := h
    rfl
  obtain ⟨x, a, b, dx, ns, ts, rfl, hx, hA, hB, hn, ⟨ht1, ht2⟩, q⟩ := h
  refine ⟨_, (pss_cons (ps_if (pt_not (pt_val (C8.pe_c (cal_are_things W) hr (by decide) rfl (pa_cons (pv 1) pa_nil))))
    pss_never
    pss_nil)
    (pss_cons (ps_if (PW.pt (pw_or (pt_not (pt_val (pe_callB (crIsi (K := K)) rfl W.z_isinstance (by decide +kernel) (pa_cons (pv 2) (pa_cons (pe_ty (T := "tuple") rfl W.z_tuple (by decide +kernel)) pa_nil))))) (pw_or1 (pt_cmpR op_gt (pe_callB (crLn (K := K)) rfl W.z_len (by decide +kernel) (pa_cons (pv 2) pa_nil)) (C8.pe_gc rfl W.i_MOST_TIES) (nomark _)))))
    pss_never
    pss_nil)
    (pss_cons (ps_for PassesOwn.never rfl (piE (K := K) rfl rfl W.z_enumerate (pa_cons (pv 2) pa_nil)) (pgT (K := K) (n := 2) rfl rfl (pgs_cons (pg_name (i := 3) sc_Table_init.nd rfl (Or.inl rfl)) (pgs_cons (pg_name (i := 4) sc_Table_init.nd rfl (Or.inl rfl)) pgs_nil)))
    (pss_one (ps_if (pt_not (pt_val (C8.pe_c (cal_is_tie W) hr (by decide) rfl (pa_cons (pv 4) (pa_cons (pe_callB (crLn (K := K)) rfl W.z_len (by decide +kernel) (pa_cons (pv 1) pa_nil)) pa_nil)))))
    pss_never
    pss_nil)))
    (pss_cons (psFld (K := K) rfl (pv 0) (pv 1))
    (pss_one (psFld (K := K) rfl (pv 0) (pv 2))))))), ?_⟩
  walk_at "rd"
  refine ⟨a, ns, rfl, hA, hn, fun H1 s1 => ?_⟩
  walk_at "rd"
  obtain ⟨as, hb0, hlen, hget⟩ := hB.get
  refine r_isi (T := "tuple") (b := true) (hb0.same s1).ty (by decide +kernel) ?_
  walk_at "rd"
  refine r_lnT (hb0.same s1).sq ?_
  walk_at "rd"
  refine r_no (decide_eq_false (by rw [List.length_map]; omega)) ?_
  walk_at "rd"
  refine ⟨b, _, rfl, (hb0.same s1).sq, ?_⟩
  refine for_w walk_ItE (fun i σ H2 => (∃ y3 y4, σ = [some (.ref x), some (.ref a), some (.ref b), y3, y4]) ∧ Same H H2) ⟨⟨_, _, rfl⟩, s1⟩ (fun i σ H2 _ p => (hb0.same p.2).sq) ?_ ?_
  · rintro i v σ H2 H3 N hi ⟨⟨y3, y4, rfl⟩, s2⟩ ⟨T, u1, u2, rfl, hT, rfl, eu1, eu2⟩ k
    have s3 : Same H2 (upd H2 T (.tup [u1, u2])) := same_upd hT
    refine r_gtup (xs := [u1, u2]) (TupAt.of upd_same).sq rfl ?_
    walk_at "rd"
    obtain ⟨t, tx, rfl, ht, hTx⟩ := hget i u2 eu2
    refine r_lnT ((hA.same s2).same s3).sq ?_
    rw [List.length_map]
    walk_at "rd"
    refine ⟨t, tx, ns.length, rfl, (hTx.same s2).same s3, ht2 tx (List.mem_of_getElem? ht), fun H4 s4 => ?_⟩
    walk_at "rd"
    exact k _ _ ⟨⟨_, _, rfl⟩, (s2.trans s3).trans s4⟩
  · rintro σ H2 ⟨⟨y3, y4, rfl⟩, s2⟩
    walk_at "rd"
    refine ⟨x, _, dx, [], rfl, s2 _ _ hx, W.c_Table, W.n_Table_things, by decide, ?_⟩
    walk_at "rd"
    refine ⟨x, _, dx, _, rfl, upd_same, W.c_Table, W.n_Table_ties, (show 1 < 1000 by decide), ?_⟩
    refine q _ (fun c o e n => ?_) (by rw [upd_same]; rfl)
    have nc : c ≠ x := fun z => n (by rw [z]; simp)
    rw [upd_ne nc, upd_ne nc]
    exact s2 _ _ e
end
end K07

set_option maxRecDepth 100000
set_option maxHeartbeats 4000000
namespace K07
open PySem PySem.Spec PyProof.Rows L2
local macro_rules | `(tactic| walk_at "rd") => `(tactic| repeat (first
  | with_reducible refine r_seq ?_ | with_reducible refine r_asg ?_ | with_reducible refine r_name ?_ | with_reducible refine r_ret ?_ | with_reducible refine r_drop ?_ | with_reducible refine r_if ?_ | with_reducible refine r_nx ?_
  | with_reducible refine r_c ?_ | with_reducible refine r_op ?_ | with_reducible refine r_un ?_ | with_reducible refine r_cons ?_ | with_reducible refine r_nil ?_ | with_reducible refine r_test ?_ | with_reducible refine r_B ?_
  | with_reducible refine r_and ?_ | with_reducible refine r_or ?_ | with_reducible refine r_not ?_ | with_reducible refine r_andV ?_ | with_reducible refine r_orV ?_ | with_reducible refine r_notV ?_ | with_reducible refine r_tif ?_
  | with_reducible refine r_chain ?_ | with_reducible refine r_tyes ?_ | with_reducible refine r_lc ?_ | with_reducible refine r_rng1 ?_ | with_reducible refine r_itup ?_ | with_reducible refine r_ilist ?_ | with_reducible refine r_ienum ?_ | with_reducible refine r_istr ?_
  | with_reducible refine r_tup ?_ | with_reducible refine r_lst ?_ | with_reducible refine r_tfld ?_ | with_reducible refine r_gcons ?_ | with_reducible refine r_gnil ?_ | with_reducible refine r_gfld ?_ | with_reducible refine r_for ?_ | with_reducible refine r_sfld ?_ | with_reducible refine r_call ?_ | with_reducible refine r_cb ?_ | with_reducible refine r_sl ?_ | with_reducible refine r_np ?_ | with_reducible refine r_pt ?_ | with_reducible refine r_m1 ?_ | with_reducible refine r_par ?_ | with_reducible refine r_p2 ?_ | with_reducible refine r_u ?_ | with_reducible refine r_meth ?_ | with_reducible refine r_make ?_ | with_reducible refine r_gsub ?_ | with_reducible refine r_bm ?_ | with_reducible refine r_bm0 ?_ | with_reducible refine r_j0 ?_ | with_reducible refine r_jF ?_ | with_reducible refine r_jN ?_ | with_reducible refine r_bl ?_ | with_reducible refine r_i0 ?_ | with_reducible refine tt_ite ?_ | with_reducible refine ff_ite ?_ | with_reducible refine nt_ite ?_ | with_reducible refine nf_ite ?_
  | with_reducible refine r_var (by with_unfolding_all exact rfl) ?_))
section
variable {P : Program} {w : World} {K : PySem.W.Frag} {mg : Str → Option Value} {base : Heap}
theorem inV_two (i a b : Int) : inV (.int i) [.int a, .int b] = (a == i || b == i) := by
  show ((a == i) || ((b == i) || false)) = _
  rw [Bool.or_false]
theorem TabAt.same {K : PySem.W.Frag} {H H' : Hp} {t : Addr} {ns : List Cs} {ts : List Tie} (s : Same H H') (h : TabAt K H t ns ts) : TabAt K H' t ns ts := by
  obtain ⟨dx, a, b, h1, h2, h3⟩ := h.ex
  exact ⟨dx, a, b, s _ _ h1, h2.same s, h3.tsame (Same.ts s)⟩
def spTiesWith (K : PySem.W.Frag) : Sp := fun vs H Q _ => ∃ (t : Addr) (ns : List Cs) (ts : List Tie) (i : Nat), vs = [.ref t, .int i] ∧ TabAt K H t ns ts ∧ ts.length ≤ 60 ∧
  ∀ p H' (js : List Int), Same H H' → TupAt H' p (js.map V.int) → decide (js = []) = !usedB ts i → Q (.ref p) H'
theorem cal_ties_with (W : Wd K mg) : C8.Cal P w K mg base 1 "ties_with" (spTiesWith K) [] := by
  refine mk_ties_with W (fun vs H Q E h => ?_) fun cdv A outer s H vs Q E hr h => ?_
  · obtain ⟨a, x, many, i, rfl, _⟩ := h
    rfl
  obtain ⟨t, ns, ts, i, rfl, hT, hl, q⟩ := h
  obtain ⟨dx, a, b, ht, hA, hB⟩ := hT.ex
  refine ⟨_, (pss_one (ps_ret (pe_callTy (crTp (K := K)) rfl W.z_tuple (by decide +kernel) (pa_cons (pe_lc (own := [("at", 2), ("tie", 3)]) (g := gTup K 2 (gCons (gName 2) (gCons (gName 3) gNil))) rfl sc_ties_with.nd (piE (K := K) rfl rfl W.z_enumerate (pa_cons (peFld (K := K) rfl (pv 0)) pa_nil)) (blkOk_by (own := [("at", 2), ("tie", 3)]) (N := N_ties_with) (sc := defScope s_ties_with) (by decide +kernel)) (fun _ _ _ _ _ => (pgT (K := K) (n := 2) rfl rfl (pgs_cons (pg_name (i := 2) sc_ties_with.nd rfl (Or.inl rfl)) (pgs_cons (pg_name (i := 3) sc_ties_with.nd rfl (Or.inl rfl)) pgs_nil)))) (fun _ _ _ _ _ => pts_one (pt_cmpR (opIn (K := K)) (pv 1) (pe_slice (slT (K := K)) (pv 3) po_none (po_some pe_int)) rfl)) (fun _ _ _ _ _ => (pv 2))) pa_nil)))), ?_⟩
  walk_at "rd"
  refine r_fl ht W.c_Table W.n_Table_ties rfl ?_
  walk_at "rd"
  obtain ⟨as, hb0, hlen, hget⟩ := hB.get
  let c : Nat → Bool := fun j => ((ts[j]?.map fun x => x.1 == i || x.2.1 == i).getD false)
  refine ⟨b, _, rfl, hb0.sq, fun D hD => lc_map walk_ItE (fun j => if c j = true then some (.int ((j : Nat) : Int)) else none) hD ?_ (fun H' s1 => (hb0.same s1).sq) yPair_same ?_ ?_⟩
  · rw [List.length_map]
    exact Nat.lt_of_le_of_lt (Nat.le_trans (Nat.le_of_eq hlen) hl) (by decide)
  · rintro j v H1 H2 R R0 hj s1 s2 ⟨T, u1, u2, rfl, hTn, rfl, eu1, eu2⟩ k1 k2
    obtain rfl := Option.some.inj eu1
    obtain ⟨a', x, rfl, ex, hx⟩ := hget j u2 eu2
    refine r_gtup (xs := [.int ((j : Nat) : Int), .ref a']) (TupAt.of upd_same).sq rfl ?_
    walk_at "rd"
    refine ⟨rfl, ?_⟩
    walk_at "rd"
    refine ⟨2, rfl, ?_⟩
    refine ⟨a', _, rfl, (hx.same s2).sq, fun z => absurd z.2 (by show ¬ (2 = 3); decide), fun _ p hp => ?_⟩
    refine ⟨p, [.int x.1, .int x.2.1], rfl, .inr (TupAt.of upd_same).sq, rfl, rfl, ?_⟩
    have s3 := same_upd (o := .tup [.int x.1, .int x.2.1]) hp
    have ec : c j = (((x.1 : Int) == (i : Int)) || ((x.2.1 : Int) == (i : Int))) := by
      show (ts[j]?.map _).getD false = _
      rw [ex]
      show (x.1 == i || x.2.1 == i) = _
      rw [Bool.eq_iff_iff, Bool.or_eq_true, Bool.or_eq_true, beq_iff_eq, beq_iff_eq, beq_iff_eq, beq_iff_eq]
      omega
    rw [if_neg Bool.false_ne_true, inV_two, ← ec]
    walk_at "rd"
    by_cases hc : c j = true
    · refine r_yes hc ?_
      walk_at "rd"
      exact k1 _ _ (if_pos hc) s3
    · refine r_no (Bool.eq_false_iff.mpr hc) ?_
      exact k2 _ (if_neg hc) s3
  · intro H' s1 e1
    walk_at "rd"
    rw [fm_filter c (fun j => V.int ((j : Nat) : Int))] at e1
    refine ⟨D, _, rfl, SqL.of e1, fun l o hl' ho => ?_⟩
    refine q l _ (((List.range (as.map V.ref).length).filter c).map fun j => ((j : Nat) : Int)) (s1.trans (same_upd hl')) ?_ ?_
    · rw [List.map_map]
      exact TupAt.frz upd_same
    · rw [Bool.eq_iff_iff, decide_eq_true_iff, List.map_eq_nil_iff, List.filter_eq_nil_iff, Bool.not_eq_true']
      unfold usedB
      rw [← Bool.not_eq_true, List.any_eq_true]
      constructor
      · rintro h ⟨x, hx, ex⟩
        obtain ⟨j, hj, rfl⟩ := List.getElem_of_mem hx
        refine h j (List.mem_range.mpr (by rw [List.length_map]; omega)) ?_
        show (ts[j]?.map _).getD false = true
        rw [List.getElem?_eq_getElem hj]
        exact ex
      · intro h j hj hc
        have hj' : j < ts.length := by
          have := List.mem_range.mp hj
          rw [List.length_map] at this
          omega
        refine h ⟨ts[j], List.getElem_mem hj', ?_⟩
        have e2 : (ts[j]?.map fun x => x.1 == i || x.2.1 == i).getD false = true := hc
        rw [List.getElem?_eq_getElem hj'] at e2
        exact e2
def spNothing (K : PySem.W.Frag) : Sp := fun vs H Q _ => ∃ (t : Addr) (ns : List Cs) (ts : List Tie), vs = [.ref t] ∧ TabAt K H t ns ts ∧ NamesOk ns ∧ ∀ p H', Same H H' → TupAt H' p (List.replicate ns.length .non) → Q (.ref p) H'
theorem cal_nothing_said (W : Wd K mg) : C8.Cal P w K mg base 1 "nothing_said" (spNothing K) [] := by
  refine mk_nothing_said W (fun vs H Q E h => ?_) fun cdv A outer s H vs Q E hr h => ?_
  · obtain ⟨a, x, many, rfl, _⟩ := h
    rfl
  obtain ⟨t, ns, ts, rfl, hT, hn, q⟩ := h
  obtain ⟨dx, a, b, ht, hA, hB⟩ := hT.ex
  refine ⟨_, (pss_one (ps_ret (pe_op (opRepT (K := K)) (pe_tup (pa_cons pe_non pa_nil)) (pe_callB (crLn (K := K)) rfl W.z_len (by decide +kernel) (pa_cons (peFld (K := K) rfl (pv 0)) pa_nil))))), ?_⟩
  walk_at "rd"
  refine ⟨small (by decide), fun p hp => ?_⟩
  have s1 := same_upd (o := .tup [.non]) hp
  have e1 : upd H p (.tup [.non]) p = some (.tup [.non]) := upd_same
  walk_at "rd"
  refine r_fl (s1 _ _ ht) W.c_Table W.n_Table_things rfl ?_
  walk_at "rd"
  refine r_lnT (hA.same s1).sq ?_
  rw [List.length_map]
  have h1 := hn.1
  have h2 := hn.2.1
  refine ⟨p, ns.length, [.non], rfl, rfl, (TupAt.of e1).sq, List.cons_ne_nil _ _, by omega, by omega, by decide, fun k1 => ?_, fun k2 p' hp' => ?_⟩
  · have e2 : ns.length = 1 := by omega
    refine q p _ s1 ?_
    rw [e2]
    exact TupAt.of e1
  · refine q p' _ (s1.trans (same_upd hp')) (TupAt.of ?_)
    rw [upd_same]
    have : (List.replicate ((ns.length : Nat) : Int).toNat [V.non]).flatten = List.replicate ns.length V.non := by
      rw [Int.toNat_natCast]
      generalize ns.length = n
      induction n with
      | zero => rfl
      | succ n ih => rw [List.replicate_succ, List.flatten_cons, ih, List.replicate_succ] <;> rfl
    rw [this]
end
end K07

set_option maxRecDepth 100000
set_option maxHeartbeats 4000000
namespace K07
open PySem PySem.Spec PyProof.Rows L2
local macro_rules | `(tactic| walk_at "rd") => `(tactic| repeat (first
  | with_reducible refine r_seq ?_ | with_reducible refine r_asg ?_ | with_reducible refine r_name ?_ | with_reducible refine r_ret ?_ | with_reducible refine r_drop ?_ | with_reducible refine r_if ?_ | with_reducible refine r_nx ?_
  | with_reducible refine r_c ?_ | with_reducible refine r_op ?_ | with_reducible refine r_un ?_ | with_reducible refine r_cons ?_ | with_reducible refine r_nil ?_ | with_reducible refine r_test ?_ | with_reducible refine r_B ?_
  | with_reducible refine r_and ?_ | with_reducible refine r_or ?_ | with_reducible refine r_not ?_ | with_reducible refine r_andV ?_ | with_reducible refine r_orV ?_ | with_reducible refine r_notV ?_ | with_reducible refine r_tif ?_
  | with_reducible refine r_chain ?_ | with_reducible refine r_tyes ?_ | with_reducible refine r_lc ?_ | with_reducible refine r_rng1 ?_ | with_reducible refine r_itup ?_ | with_reducible refine r_ilist ?_ | with_reducible refine r_ienum ?_ | with_reducible refine r_istr ?_
  | with_reducible refine r_tup ?_ | with_reducible refine r_lst ?_ | with_reducible refine r_tfld ?_ | with_reducible refine r_gcons ?_ | with_reducible refine r_gnil ?_ | with_reducible refine r_gfld ?_ | with_reducible refine r_for ?_ | with_reducible refine r_sfld ?_ | with_reducible refine r_call ?_ | with_reducible refine r_cb ?_ | with_reducible refine r_sl ?_ | with_reducible refine r_np ?_ | with_reducible refine r_pt ?_ | with_reducible refine r_m1 ?_ | with_reducible refine r_par ?_ | with_reducible refine r_p2 ?_ | with_reducible refine r_u ?_ | with_reducible refine r_meth ?_ | with_reducible refine r_make ?_ | with_reducible refine r_gsub ?_ | with_reducible refine r_bm ?_ | with_reducible refine r_bm0 ?_ | with_reducible refine r_j0 ?_ | with_reducible refine r_jF ?_ | with_reducible refine r_jN ?_ | with_reducible refine r_bl ?_ | with_reducible refine r_i0 ?_ | with_reducible refine tt_ite ?_ | with_reducible refine ff_ite ?_ | with_reducible refine nt_ite ?_ | with_reducible refine nf_ite ?_
  | with_reducible refine r_var (by with_unfolding_all exact rfl) ?_))
/-! ### what is shown, in plain lists -/
abbrev Time := Option Int
def timeV : Time → V
  | none => .non
  | some i => .int i
def TimesOk (l : List Time) : Prop := l.length ≤ 12 ∧ ∀ i : Int, some i ∈ l → i.natAbs ≤ 1000000000
abbrev Pr := Nat × Int
def prV (p : Pr) : List V := [.int p.1, .int p.2]
def prW (ns : List Cs) (p : Pr) : List Word := [.nm (nmAt ns p.1), .it p.2]
def PrOk (many : Nat) (p : Pr) : Prop := p.1 < many ∧ p.2.natAbs ≤ 1000000000
/-- a tuple of pairs -/
def PrsAt (H : Hp) (a : Addr) (ps : List Pr) : Prop := ∃ as : List Addr, TupAt H a (as.map V.ref) ∧ All2 (fun a p => TupAt H a (prV p)) as ps
def DayAt (H : Hp) (a : Addr) (d : List (List Pr)) : Prop := ∃ as : List Addr, TupAt H a (as.map V.ref) ∧ All2 (fun a ps => PrsAt H a ps) as d
theorem PrsAt.tsame {H H' : Hp} {a : Addr} {ps : List Pr} (s : TSame H H') (h : PrsAt H a ps) : PrsAt H' a ps := by
  obtain ⟨as, h1, h2⟩ := h
  exact ⟨as, s _ _ h1, h2.imp fun a x => s a (prV x)⟩
theorem DayAt.tsame {H H' : Hp} {a : Addr} {ps : List (List Pr)} (s : TSame H H') (h : DayAt H a ps) : DayAt H' a ps := by
  obtain ⟨as, h1, h2⟩ := h
  exact ⟨as, s _ _ h1, h2.imp fun a x => PrsAt.tsame s⟩
theorem All2.at {α : Type} {R : Addr → α → Prop} {as : List Addr} {xs : List α} (h : All2 R as xs) : ∀ (i : Nat) (v : V), (as.map V.ref)[i]? = some v → ∃ (a : Addr) (x : α), v = V.ref a ∧ xs[i]? = some x ∧ R a x := fun i v e => by
  rw [List.getElem?_map] at e
  cases e1 : as[i]? with
  | none =>
    rw [e1] at e
    cases e
  | some a =>
    rw [e1] at e
    have hi : i < xs.length := by
      rw [← h.length]
      exact (List.getElem?_eq_some_iff.mp e1).1
    exact ⟨a, xs[i], (Option.some.inj e).symm, List.getElem?_eq_getElem hi, h.get e1 (List.getElem?_eq_getElem hi)⟩
theorem rowT_flat : ∀ (rs : List (List Word)), (∀ r ∈ rs, r ≠ []) → TL.joinL [32] (rs.map rowT) = rowT rs.flatten
  | [], _ => rfl
  | r :: rs, h => by
    have ih := rowT_flat rs fun q hq => h q (List.mem_cons_of_mem _ hq)
    obtain ⟨w, r', rfl⟩ := List.exists_cons_of_ne_nil (h r List.mem_cons_self)
    show TL.joinL [32] (rowT (w :: r') :: rs.map rowT) = TL.joinL [32] (w.text :: ((r' ++ rs.flatten).map Word.text))
    rw [joinL_cons, joinL_cons, List.map_append, List.flatMap_append]
    show TL.joinL [32] (w.text :: r'.map Word.text) ++ _ = _
    rw [joinL_cons, List.append_assoc]
    congr 2
    cases rs with
    | nil => rfl
    | cons q rs =>
      obtain ⟨w2, q', rfl⟩ := List.exists_cons_of_ne_nil (h q (List.mem_cons_of_mem _ List.mem_cons_self))
      have e1 : ∀ (x : Cs) (l : List Cs), (x :: l).flatMap (fun q => [32] ++ q) = [32] ++ TL.joinL [32] (x :: l) := fun x l => by
        rw [joinL_cons, List.flatMap_cons, List.append_assoc]
      show (rowT (w2 :: q') :: rs.map rowT).flatMap _ = ((w2.text :: (q' ++ rs.flatten).map Word.text)).flatMap _
      rw [e1, e1]
      exact congrArg _ ih
theorem rowT_le {r : List Word} {k : Nat} (h : ∀ w ∈ r, w.text.length ≤ k) : (rowT r).length ≤ r.length * (k + 1) := by
  cases r with
  | nil => exact Nat.zero_le _
  | cons w r =>
    show (TL.joinL [32] (w.text :: r.map Word.text)).length ≤ _
    rw [joinL_cons, List.length_append]
    have a := h w List.mem_cons_self
    have b : ∀ l : List Word, (∀ w ∈ l, w.text.length ≤ k) → ((l.map Word.text).flatMap fun q => [32] ++ q).length ≤ l.length * (k + 1) := by
      intro l hl
      induction l with
      | nil => exact Nat.zero_le _
      | cons x l ih =>
        rw [List.map_cons, List.flatMap_cons, List.length_append, List.length_append, show (x :: l).length = l.length + 1 from rfl, Nat.succ_mul]
        have := ih fun w hw => hl w (List.mem_cons_of_mem _ hw)
        have := hl x List.mem_cons_self
        simp only [List.length_cons, List.length_nil]
        omega
    have := b r fun w hw => h w (List.mem_cons_of_mem _ hw)
    rw [List.length_cons, Nat.succ_mul]
    omega
theorem sum_le (l : List Nat) (k : Nat) (h : ∀ x ∈ l, x ≤ k) : l.sum ≤ l.length * k := by
  induction l with
  | nil => exact Nat.zero_le _
  | cons a l ih =>
    rw [List.sum_cons, List.length_cons, Nat.succ_mul]
    have := h a List.mem_cons_self
    have := ih fun x hx => h x (List.mem_cons_of_mem _ hx)
    omega
theorem join_le {ys : List Cs} {m k : Nat} (hm : ys.length ≤ m) (h : ∀ y ∈ ys, y.length ≤ k) (hz : m * k + m * 1 ≤ 16777216) : (ys.map (·.length)).sum + ys.length * [x].length ≤ 16777216 := by
  have a := sum_le (ys.map (·.length)) k fun x hx => by
    obtain ⟨y, hy, rfl⟩ := List.mem_map.mp hx
    exact h y hy
  rw [List.length_map] at a
  have b := Nat.mul_le_mul_right k hm
  show _ + ys.length * 1 ≤ _
  omega
theorem nm_le {ns : List Cs} (h : NamesOk ns) {i : Nat} (hi : i < ns.length) : (nmAt ns i).length ≤ 6 := (nmAt_name h hi).2.1
section
variable {P : Program} {w : World} {K : PySem.W.Frag} {mg : Str → Option Value} {base : Heap}
def spCome (K : PySem.W.Frag) : Sp := fun vs H Q _ => ∃ (a : Addr) (l : List Time), vs = [.ref a] ∧ TupAt H a (l.map timeV) ∧ l.length ≤ 12 ∧
  ∀ p H', Same H H' → TupAt H' p (((List.range l.length).filter fun i => (l[i]?.getD none).isSome).map fun i => V.int ((i : Nat) : Int)) → Q (.ref p) H'
theorem cal_come (W : Wd K mg) : C8.Cal P w K mg base 1 "come" (spCome K) [] := by
  refine mk_come W (fun vs H Q E h => ?_) fun cdv A outer s H vs Q E hr h => ?_
  · obtain ⟨a, l, rfl, _⟩ := h
    rfl
  obtain ⟨a, l, rfl, hA, hl, q⟩ := h
  refine ⟨_, (pss_one (ps_ret (pe_callTy (crTp (K := K)) rfl W.z_tuple (by decide +kernel) (pa_cons (pe_lc (own := [("thing", 1), ("time", 2)]) (g := gTup K 2 (gCons (gName 1) (gCons (gName 2) gNil))) rfl sc_come.nd (piE (K := K) rfl rfl W.z_enumerate (pa_cons (pv 0) pa_nil)) (blkOk_by (own := [("thing", 1), ("time", 2)]) (N := N_come) (sc := defScope s_come) (by decide +kernel)) (fun _ _ _ _ _ => (pgT (K := K) (n := 2) rfl rfl (pgs_cons (pg_name (i := 1) sc_come.nd rfl (Or.inl rfl)) (pgs_cons (pg_name (i := 2) sc_come.nd rfl (Or.inl rfl)) pgs_nil)))) (fun _ _ _ _ _ => pts_one (pt_cmpR op_notN (pv 2) pe_non (nomark _))) (fun _ _ _ _ _ => (pv 1))) pa_nil)))), ?_⟩
  walk_at "rd"
  let c : Nat → Bool := fun j => (l[j]?.getD none).isSome
  refine ⟨a, _, rfl, hA.sq, fun D hD => lc_map walk_ItE (fun j => if c j = true then some (.int ((j : Nat) : Int)) else none) hD ?_ (fun H' s1 => (hA.same s1).sq) yPair_same ?_ ?_⟩
  · rw [List.length_map]
    exact small' (by omega)
  · rintro j v H1 H2 R R0 hj s1 s2 ⟨T, u1, u2, rfl, hTn, rfl, eu1, eu2⟩ k1 k2
    obtain rfl := Option.some.inj eu1
    refine r_gtup (xs := [.int ((j : Nat) : Int), u2]) (TupAt.of upd_same).sq rfl ?_
    walk_at "rd"
    refine ⟨rfl, ?_⟩
    walk_at "rd"
    refine ⟨rfl, ?_⟩
    have ec : (!decide (u2 = V.non)) = c j := by
      have hj' : j < l.length := by rw [List.length_map] at hj; exact hj
      have e : (l.map timeV)[j]? = some u2 := eu2
      rw [List.getElem?_map, List.getElem?_eq_getElem hj'] at e
      obtain rfl := Option.some.inj e
      show _ = (l[j]?.getD none).isSome
      rw [List.getElem?_eq_getElem hj']
      show _ = (l[j]).isSome
      cases l[j] with
      | none => rfl
      | some i => rfl
    rw [ec]
    walk_at "rd"
    by_cases hc : c j = true
    · refine r_yes hc ?_
      walk_at "rd"
      exact k1 _ _ (if_pos hc) (Same.refl _)
    · refine r_no (Bool.eq_false_iff.mpr hc) ?_
      exact k2 _ (if_neg hc) (Same.refl _)
  · intro H' s1 e1
    walk_at "rd"
    rw [fm_filter c (fun j => V.int ((j : Nat) : Int)), List.length_map] at e1
    exact ⟨D, _, rfl, SqL.of e1, fun l o hl' ho => q l _ (s1.trans (same_upd hl')) (TupAt.frz upd_same)⟩
def spShowPair (K : PySem.W.Frag) : Sp := fun vs H Q _ => ∃ (t b : Addr) (ns : List Cs) (ts : List Tie) (p : Pr), vs = [.ref t, .ref b] ∧ TabAt K H t ns ts ∧ NamesOk ns ∧ TupAt H b (prV p) ∧ PrOk ns.length p ∧ Q (.str (SX.S (rowT (prW ns p)))) H
theorem cal_show_pair (W : Wd K mg) : C8.Cal P w K mg base 1 "show_pair" (spShowPair K) [] := by
  refine mk_show_pair W (fun vs H Q E h => ?_) fun cdv A outer s H vs Q E hr h => ?_
  · obtain ⟨t, b, ns, ts, p, rfl, _⟩ := h
    rfl
  obtain ⟨t, b, ns, ts, p, rfl, hT, hn, hp, ⟨hp1, hp2⟩, q⟩ := h
  obtain ⟨dx, a, a2, ht, hA, hB⟩ := hT.ex
  refine ⟨_, (pss_one (ps_ret (pe_joined (PJ.cons (pe_fmt (pe_ix (ixT (K := K)) (peFld (K := K) rfl (pv 0)) (pe_ix (ixT (K := K)) (pv 1) pe_int (fun _ _ => rfl)) (fun _ _ => rfl))) (PJ.cons pe_str (PJ.cons (pe_fmt (pe_ix (ixT (K := K)) (pv 1) pe_int (fun _ _ => rfl))) PJ.nil)))))), ?_⟩
  walk_at "rd"
  refine r_fl ht W.c_Table W.n_Table_things rfl ?_
  walk_at "rd"
  refine r_ixT hp.sq (v := .int p.1) rfl ?_
  refine r_ixT hA.sq (at_nm hp1) ?_
  have := nm_le hn hp1
  refine r_jS (by show 0 + _ ≤ _; omega) (r_jC (y := [32]) rfl (by simp only [List.length_append, List.length_nil, List.length_cons]; omega) ?_)
  walk_at "rd"
  refine r_ixT hp.sq (v := .int p.2) rfl ?_
  refine r_jI hp2 (by simp only [List.length_append, List.length_nil, List.length_cons]; omega) ?_
  walk_at "rd"
  rw [show [] ++ nmAt ns p.1 ++ [32] ++ intL p.2 = rowT (prW ns p) by
    show _ = nmAt ns p.1 ++ ([32] ++ intL p.2)
    rw [List.nil_append, List.append_assoc]]
  exact q
end
end K07

set_option maxRecDepth 100000
set_option maxHeartbeats 4000000
namespace K07
open PySem PySem.Spec PyProof.Rows L2
local macro_rules | `(tactic| walk_at "rd") => `(tactic| repeat (first
  | with_reducible refine r_seq ?_ | with_reducible refine r_asg ?_ | with_reducible refine r_name ?_ | with_reducible refine r_ret ?_ | with_reducible refine r_drop ?_ | with_reducible refine r_if ?_ | with_reducible refine r_nx ?_
  | with_reducible refine r_c ?_ | with_reducible refine r_op ?_ | with_reducible refine r_un ?_ | with_reducible refine r_cons ?_ | with_reducible refine r_nil ?_ | with_reducible refine r_test ?_ | with_reducible refine r_B ?_
  | with_reducible refine r_and ?_ | with_reducible refine r_or ?_ | with_reducible refine r_not ?_ | with_reducible refine r_andV ?_ | with_reducible refine r_orV ?_ | with_reducible refine r_notV ?_ | with_reducible refine r_tif ?_
  | with_reducible refine r_chain ?_ | with_reducible refine r_tyes ?_ | with_reducible refine r_lc ?_ | with_reducible refine r_rng1 ?_ | with_reducible refine r_itup ?_ | with_reducible refine r_ilist ?_ | with_reducible refine r_ienum ?_ | with_reducible refine r_istr ?_
  | with_reducible refine r_tup ?_ | with_reducible refine r_lst ?_ | with_reducible refine r_tfld ?_ | with_reducible refine r_gcons ?_ | with_reducible refine r_gnil ?_ | with_reducible refine r_gfld ?_ | with_reducible refine r_for ?_ | with_reducible refine r_sfld ?_ | with_reducible refine r_call ?_ | with_reducible refine r_cb ?_ | with_reducible refine r_sl ?_ | with_reducible refine r_np ?_ | with_reducible refine r_pt ?_ | with_reducible refine r_m1 ?_ | with_reducible refine r_par ?_ | with_reducible refine r_p2 ?_ | with_reducible refine r_u ?_ | with_reducible refine r_meth ?_ | with_reducible refine r_make ?_ | with_reducible refine r_gsub ?_ | with_reducible refine r_bm ?_ | with_reducible refine r_bm0 ?_ | with_reducible refine r_j0 ?_ | with_reducible refine r_jF ?_ | with_reducible refine r_jN ?_ | with_reducible refine r_bl ?_ | with_reducible refine r_i0 ?_ | with_reducible refine tt_ite ?_ | with_reducible refine ff_ite ?_ | with_reducible refine nt_ite ?_ | with_reducible refine nf_ite ?_
  | with_reducible refine r_var (by with_unfolding_all exact rfl) ?_))
section
variable {P : Program} {w : World} {K : PySem.W.Frag} {mg : Str → Option Value} {base : Heap}
def spShowTable (K : PySem.W.Frag) : Sp := fun vs H Q _ => ∃ (t : Addr) (ns : List Cs) (ts : List Tie), vs = [.ref t] ∧ TabAt K H t ns ts ∧ NamesOk ns ∧ TiesOk ns.length ts ∧ ∀ H', Same H H' → Q (.str (SX.S (showR (tabR ns ts)))) H'
theorem bd_show_table (W : Wd K mg) : Len 1 (spShowTable K) ∧ Body P w K mg base N_show_table "show_table" s_show_table (He.fAd K ("show_table", none)) 1 (spShowTable K) := by
  refine ⟨fun vs H Q E h => ?_, fun cdv A outer s H vs Q E hr h => ?_⟩
  · obtain ⟨a, ns, ts, rfl, _⟩ := h
    rfl
  obtain ⟨t, ns, ts, rfl, hT, hn, ⟨hl, hts⟩, q⟩ := h
  obtain ⟨dx, a, b, ht, hA, hB⟩ := hT.ex
  refine ⟨_, (pss_cons (ps_setLc (i := 1) (own := [("thing", 2), ("name", 3)]) (g := gTup K 2 (gCons (gName 2) (gCons (gName 3) gNil))) rfl sc_show_table.nd rfl rfl (sw_true rfl rfl rfl (by decide +kernel)) (piE (K := K) rfl rfl W.z_enumerate (pa_cons (peFld (K := K) rfl (pv 0)) pa_nil)) (blkOk_by (own := [("thing", 2), ("name", 3)]) (N := N_show_table) (sc := defScope s_show_table) (by decide +kernel)) (fun _ _ _ _ _ => (pgT (K := K) (n := 2) rfl rfl (pgs_cons (pg_name (i := 2) sc_show_table.nd rfl (Or.inl rfl)) (pgs_cons (pg_name (i := 3) sc_show_table.nd rfl (Or.inl rfl)) pgs_nil)))) (fun _ _ _ _ _ => pts_one (pt_cmpR (opEqD (K := K) hr) (C8.pe_c (cal_ties_with W) hr (by decide) rfl (pa_cons (pv 0) (pa_cons (pv 2) pa_nil))) (pe_tup pa_nil) (nomark _))) (fun _ _ _ _ _ => (pv 3)))
    (pss_cons (ps_for PassesOwn.never rfl (piT (K := K) rfl (peFld (K := K) rfl (pv 0))) (pgT (K := K) (n := 3) rfl rfl (pgs_cons (pg_name (i := 4) sc_show_table.nd rfl (Or.inl rfl)) (pgs_cons (pg_name (i := 5) sc_show_table.nd rfl (Or.inl rfl)) (pgs_cons (pg_name (i := 6) sc_show_table.nd rfl (Or.inl rfl)) pgs_nil))))
    (pss_one (ps_expr (pe_bm PySem.F.plainAttrs_list PySem.F.slot_list_append PySem.F.type_list_append mt_append (pv 1) (pa_cons (pe_joined (PJ.cons (pe_fmt (pe_ix (ixT (K := K)) (peFld (K := K) rfl (pv 0)) (pv 4) (fun _ _ => rfl))) (PJ.cons pe_str (PJ.cons (pe_fmt (pe_ix (ixT (K := K)) (peFld (K := K) rfl (pv 0)) (pv 5) (fun _ _ => rfl))) (PJ.cons pe_str (PJ.cons (pe_fmt (pv 6)) PJ.nil)))))) pa_nil)))))
    (pss_one (ps_ret (peJn (K := K) rfl pe_str (pv 1)))))), ?_⟩
  walk_at "rd"
  refine r_fl ht W.c_Table W.n_Table_things rfl ?_
  walk_at "rd"
  let c : Nat → Bool := fun i => !usedB ts i
  have hn2 := hn.2.1
  refine ⟨a, _, rfl, hA.sq, fun D hD => lc_map walk_ItE (fun j => if c j = true then some (.str (SX.S (nmAt ns j))) else none) hD ?_ (fun H' s1 => (hA.same s1).sq) yPair_same ?_ ?_⟩
  · rw [List.length_map]
    exact small' (by omega)
  · rintro j v H1 H2 R R0 hj s1 s2 ⟨T, u1, u2, rfl, hTn, rfl, eu1, eu2⟩ k1 k2
    rw [List.length_map] at hj
    obtain rfl := Option.some.inj eu1
    have e : (strL ns)[j]? = some u2 := eu2
    rw [List.getElem?_map, List.getElem?_eq_getElem hj] at e
    obtain rfl := Option.some.inj e
    refine r_gtup (xs := [.int ((j : Nat) : Int), .str (SX.S ns[j])]) (TupAt.of upd_same).sq rfl ?_
    walk_at "rd"
    refine ⟨rfl, ?_⟩
    walk_at "rd"
    refine ⟨t, ns, ts, j, rfl, hT.same s2, hl, fun p H3 js s3 hp he => ?_⟩
    walk_at "rd"
    refine ⟨small (by decide), fun p0 hp0 => ?_⟩
    have s4 := same_upd (o := .tup []) hp0
    refine ⟨intsD js, intsD [], (hp.same s4).ints, TupAt.ints (js := []) (TupAt.of upd_same), shaped_ints _, shaped_ints _, ?_⟩
    rw [eqv_nil, he]
    walk_at "rd"
    have e2 : nmAt ns j = ns[j] := nmAt_get hj
    by_cases hc : c j = true
    · refine r_yes hc ?_
      walk_at "rd"
      exact k1 _ _ (by rw [if_pos hc, e2]) (s3.trans s4)
    · refine r_no (Bool.eq_false_iff.mpr hc) ?_
      exact k2 _ (if_neg hc) (s3.trans s4)
  · intro H1 s1 e1
    rw [fm_filter c (fun j => V.str (SX.S (nmAt ns j))), List.length_map] at e1
    walk_at "rd"
    refine r_fl (s1 _ _ ht) W.c_Table W.n_Table_ties rfl ?_
    obtain ⟨as, hb0, hlen, hget⟩ := hB.get
    refine ⟨b, rfl, ⟨_, (hb0.same s1).sq⟩, ?_⟩
    obtain ⟨pre, hpre⟩ : ∃ p : List Cs, p = ((List.range ns.length).filter c).map (nmAt ns) := ⟨_, rfl⟩
    have pl : pre.length ≤ 12 := by
      rw [hpre]
      have := List.length_filter_le c (List.range ns.length)
      rw [List.length_range] at this
      rw [List.length_map]
      omega
    let txt : Tie → Cs := fun x => rowT (tieW ns x)
    have tl : ∀ x ∈ ts, (txt x).length ≤ 36 := fun x hx => by
      obtain ⟨h1, h2, h3, h4⟩ := hts x hx
      have a1 := nm_le hn h1
      have a2 := nm_le hn h2
      have a3 := intL_le (i := x.2.2) (by omega)
      refine rowT_le (r := tieW ns x) (k := 11) fun w hw => ?_
      rcases List.mem_cons.mp hw with rfl | hw
      · exact Nat.le_trans a1 (by decide)
      · rcases List.mem_cons.mp hw with rfl | hw
        · exact Nat.le_trans a2 (by decide)
        · rcases List.mem_cons.mp hw with rfl | hw
          · exact a3
          · cases hw
    refine for_w (walk_tup (xs := as.map V.ref)) (fun i σ H2 => (∃ y2 y3 y4 y5 y6, σ = [some (.ref t), some (.ref D), y2, y3, y4, y5, y6]) ∧ Same H H2 ∧ H2 D = some (.lst (strL (pre ++ (ts.take i).map txt)))) ⟨⟨_, _, _, _, _, rfl⟩, s1, ?_⟩ (fun i σ H2 _ p => (hb0.same p.2.1).sq) ?_ ?_
    · rw [List.take_zero, List.map_nil, List.append_nil, e1, hpre]
      show _ = some (HO.lst (((((List.range ns.length).filter c).map (nmAt ns))).map fun n => V.str (SX.S n)))
      rw [List.map_map] <;> rfl
    · rintro i v σ H2 H3 N hi ⟨⟨y2, y3, y4, y5, y6, rfl⟩, s2, eD⟩ ⟨rfl, ev⟩ k
      obtain ⟨a', x, rfl, ex, hx⟩ := hget i v ev
      have hxm := List.mem_of_getElem? ex
      obtain ⟨h1, h2, h3, h4⟩ := hts x hxm
      have l1 := nm_le hn h1
      have l2 := nm_le hn h2
      refine r_gtup (xs := [.int x.1, .int x.2.1, .int x.2.2]) (hx.same s2).sq rfl ?_
      walk_at "rd"
      refine r_tyL eD ?_
      walk_at "rd"
      refine r_fl (s2 _ _ ht) W.c_Table W.n_Table_things rfl ?_
      walk_at "rd"
      refine r_ixT (hA.same s2).sq (at_nm h1) (r_jS (by show 0 + _ ≤ _; omega) (r_jC (y := [32]) rfl (by simp only [List.length_append, List.length_nil, List.length_cons]; omega) ?_))
      walk_at "rd"
      refine r_fl (s2 _ _ ht) W.c_Table W.n_Table_things rfl ?_
      walk_at "rd"
      refine r_ixT (hA.same s2).sq (at_nm h2) (r_jS (by simp only [List.length_append, List.length_nil, List.length_cons]; omega) (r_jC (y := [32]) rfl (by simp only [List.length_append, List.length_nil, List.length_cons]; omega) ?_))
      walk_at "rd"
      refine r_jI (by omega) (by simp only [List.length_append, List.length_nil, List.length_cons]; omega) ?_
      walk_at "rd"
      refine r_app eD ?_ (k _ _ ⟨⟨_, _, _, _, _, rfl⟩, same_set hD s2, ?_⟩)
      · rw [List.length_map, List.length_append, List.length_map, List.length_take]
        omega
      · rw [upd_same, List.take_succ, ex]
        show some (HO.lst (strL (pre ++ (ts.take i).map txt) ++ [V.str (SX.S ([] ++ nmAt ns x.1 ++ [32] ++ nmAt ns x.2.1 ++ [32] ++ intL x.2.2))])) = some (HO.lst (strL (pre ++ (ts.take i ++ [x]).map txt)))
        rw [show [] ++ nmAt ns x.1 ++ [32] ++ nmAt ns x.2.1 ++ [32] ++ intL x.2.2 = txt x by
          show _ = nmAt ns x.1 ++ ([32] ++ (nmAt ns x.2.1 ++ ([32] ++ intL x.2.2)))
          simp only [List.nil_append, List.append_assoc], List.map_append, ← List.append_assoc, strL, strL, List.map_append (l₂ := List.map txt [x])] <;> rfl
    · rintro σ H2 ⟨⟨y2, y3, y4, y5, y6, rfl⟩, s2, eD⟩
      walk_at "rd"
      refine ⟨[10], D, pre ++ ts.map txt, rfl, rfl, .inl (SqL.of ?_), ?_, ?_⟩
      · rw [eD, List.take_of_length_le (by rw [List.length_map]; omega)]
      · refine join_le (x := 10) (m := 72) (k := 36) (by rw [List.length_append, List.length_map]; omega) (fun y hy => ?_) (by decide)
        rcases List.mem_append.mp hy with hy | hy
        · rw [hpre] at hy
          obtain ⟨j, hj, rfl⟩ := List.mem_map.mp hy
          exact Nat.le_trans (nm_le hn (List.mem_range.mp (List.mem_filter.mp hj).1)) (by decide)
        · obtain ⟨x, hx, rfl⟩ := List.mem_map.mp hy
          exact tl x hx
      · rw [show TL.joinL [10] (pre ++ ts.map txt) = showR (tabR ns ts) by
          rw [hpre]
          show _ = TL.joinL [10] ((((List.range ns.length).filter c).map (fun i => [Word.nm (nmAt ns i)]) ++ ts.map (tieW ns)).map rowT)
          rw [List.map_append, List.map_map, List.map_map] <;> rfl]
        exact q H2 s2
theorem cal_show_table (W : Wd K mg) : C8.Cal P w K mg base 2 "show_table" (spShowTable K) [] := (fun b => mk_show_table W b.1 b.2) (bd_show_table (P := P) (w := w) (base := base) W)
end
end K07

set_option maxRecDepth 100000
set_option maxHeartbeats 4000000
namespace K07
open PySem PySem.Spec PyProof.Rows L2
local macro_rules | `(tactic| walk_at "rd") => `(tactic| repeat (first
  | with_reducible refine r_seq ?_ | with_reducible refine r_asg ?_ | with_reducible refine r_name ?_ | with_reducible refine r_ret ?_ | with_reducible refine r_drop ?_ | with_reducible refine r_if ?_ | with_reducible refine r_nx ?_
  | with_reducible refine r_c ?_ | with_reducible refine r_op ?_ | with_reducible refine r_un ?_ | with_reducible refine r_cons ?_ | with_reducible refine r_nil ?_ | with_reducible refine r_test ?_ | with_reducible refine r_B ?_
  | with_reducible refine r_and ?_ | with_reducible refine r_or ?_ | with_reducible refine r_not ?_ | with_reducible refine r_andV ?_ | with_reducible refine r_orV ?_ | with_reducible refine r_notV ?_ | with_reducible refine r_tif ?_
  | with_reducible refine r_chain ?_ | with_reducible refine r_tyes ?_ | with_reducible refine r_lc ?_ | with_reducible refine r_rng1 ?_ | with_reducible refine r_itup ?_ | with_reducible refine r_ilist ?_ | with_reducible refine r_ienum ?_ | with_reducible refine r_istr ?_
  | with_reducible refine r_tup ?_ | with_reducible refine r_lst ?_ | with_reducible refine r_tfld ?_ | with_reducible refine r_gcons ?_ | with_reducible refine r_gnil ?_ | with_reducible refine r_gfld ?_ | with_reducible refine r_for ?_ | with_reducible refine r_sfld ?_ | with_reducible refine r_call ?_ | with_reducible refine r_cb ?_ | with_reducible refine r_sl ?_ | with_reducible refine r_np ?_ | with_reducible refine r_pt ?_ | with_reducible refine r_m1 ?_ | with_reducible refine r_par ?_ | with_reducible refine r_p2 ?_ | with_reducible refine r_u ?_ | with_reducible refine r_meth ?_ | with_reducible refine r_make ?_ | with_reducible refine r_gsub ?_ | with_reducible refine r_bm ?_ | with_reducible refine r_bm0 ?_ | with_reducible refine r_j0 ?_ | with_reducible refine r_jF ?_ | with_reducible refine r_jN ?_ | with_reducible refine r_bl ?_ | with_reducible refine r_i0 ?_ | with_reducible refine tt_ite ?_ | with_reducible refine ff_ite ?_ | with_reducible refine nt_ite ?_ | with_reducible refine nf_ite ?_
  | with_reducible refine r_var (by with_unfolding_all exact rfl) ?_))
section
variable {P : Program} {w : World} {K : PySem.W.Frag} {mg : Str → Option Value} {base : Heap}
/-- the pairs of times told -/
def timesP (l : List Time) : List Pr := ((List.range l.length).filter fun i => (l[i]?.getD none).isSome).map fun i => (i, (l[i]?.getD none).getD 0)
def timesR (ns : List Cs) (l : List Time) : List (List Word) := (timesP l).map (prW ns)
def dayRow (ns : List Cs) (ps : List Pr) : List Word := ps.flatMap (prW ns)
def DayOk (many : Nat) (d : List (List Pr)) : Prop := d.length ≤ 12 ∧ ∀ ps ∈ d, ps ≠ [] ∧ ps.length ≤ 12 ∧ ∀ p ∈ ps, PrOk many p
theorem prW_le {ns : List Cs} (hn : NamesOk ns) {p : Pr} (h : PrOk ns.length p) : (rowT (prW ns p)).length ≤ 24 := by
  have a1 := nm_le hn h.1
  have a3 := intL_le (i := p.2) h.2
  refine rowT_le (r := prW ns p) (k := 11) fun w hw => ?_
  rcases List.mem_cons.mp hw with rfl | hw
  · exact Nat.le_trans a1 (by decide)
  · rcases List.mem_cons.mp hw with rfl | hw
    · exact a3
    · cases hw
def spShowTimes (K : PySem.W.Frag) : Sp := fun vs H Q _ => ∃ (t a : Addr) (ns : List Cs) (ts : List Tie) (l : List Time), vs = [.ref t, .ref a] ∧ TabAt K H t ns ts ∧ NamesOk ns ∧ TupAt H a (l.map timeV) ∧ l.length = ns.length ∧ TimesOk l ∧
  ∀ H', Same H H' → Q (.str (SX.S (showR (timesR ns l)))) H'
theorem bd_show_times (W : Wd K mg) : Len 2 (spShowTimes K) ∧ Body P w K mg base N_show_times "show_times" s_show_times (He.fAd K ("show_times", none)) 1 (spShowTimes K) := by
  refine ⟨fun vs H Q E h => ?_, fun cdv A outer s H vs Q E hr h => ?_⟩
  · obtain ⟨t, a, ns, ts, l, rfl, _⟩ := h
    rfl
  obtain ⟨t, a, ns, ts, l, rfl, hT, hn, hA, hll, hl, q⟩ := h
  refine ⟨_, (pss_one (ps_ret (peJn (K := K) rfl pe_str (pe_lc (own := [("thing", 2)]) (g := gName 2) (tt := tYes) rfl sc_show_times.nd (piT (K := K) rfl (C8.pe_c (cal_come W) hr (by decide) rfl (pa_cons (pv 1) pa_nil))) (blkOk_by (own := [("thing", 2)]) (N := N_show_times) (sc := defScope s_show_times) (by decide +kernel)) (fun _ _ _ _ _ => (pg_name (i := 2) sc_show_times.nd rfl (Or.inl rfl))) (fun _ _ _ _ _ => pts_nil) (fun _ _ _ _ _ => (C8.pe_c (cal_show_pair W) hr (by decide) rfl (pa_cons (pv 0) (pa_cons (pe_tup (pa_cons (pv 2) (pa_cons (pe_ix (ixT (K := K)) (pv 1) (pv 2) (fun _ _ => rfl)) pa_nil))) pa_nil)))))))), ?_⟩
  walk_at "rd"
  refine ⟨a, l, rfl, hA, hl.1, fun p H1 s1 hp => ?_⟩
  obtain ⟨js, hjs⟩ : ∃ js : List Nat, js = (List.range l.length).filter fun i => (l[i]?.getD none).isSome := ⟨_, rfl⟩
  rw [← hjs] at hp
  have jl : js.length ≤ 12 := by
    have := List.length_filter_le (fun i => (l[i]?.getD none).isSome) (List.range l.length)
    rw [← hjs, List.length_range] at this
    have := hl.1
    omega
  have jm : ∀ j ∈ js, ∃ (hj : j < l.length) (i : Int), l[j] = some i ∧ i.natAbs ≤ 1000000000 := fun j hj => by
    rw [hjs] at hj
    obtain ⟨h1, h2⟩ := List.mem_filter.mp hj
    have h3 := List.mem_range.mp h1
    rw [List.getElem?_eq_getElem h3] at h2
    obtain ⟨i, e⟩ := Option.isSome_iff_exists.mp (show (l[j]).isSome = true from h2)
    exact ⟨h3, i, e, hl.2 i (by rw [← e]; exact List.getElem_mem h3)⟩
  have tp : timesP l = js.map fun i => (i, (l[i]?.getD none).getD 0) := by
    unfold timesP
    rw [hjs]
  walk_at "rd"
  let txt : Pr → Cs := fun p => rowT (prW ns p)
  refine ⟨p, rfl, ⟨_, hp.sq⟩, fun D hD => lc_map walk_tup (fun j => (timesP l)[j]?.map fun p => .str (SX.S (txt p))) hD ?_ (fun H' s2 => (hp.same s2).sq) yAt_same ?_ ?_⟩
  · rw [List.length_map]
    exact small' (by omega)
  · rintro j v H2 H3 R R0 hj s2 s3 ⟨rfl, ev⟩ k1 k2
    rw [List.length_map] at hj
    rw [List.getElem?_map, List.getElem?_eq_getElem hj] at ev
    obtain rfl := Option.some.inj ev
    obtain ⟨h1, i, e1, e2⟩ := jm _ (List.getElem_mem hj)
    refine ⟨rfl, ?_⟩
    walk_at "rd"
    have ea : atI (l.map timeV) ((js[j] : Nat) : Int) = some (.int i) := atI_nat (by rw [List.getElem?_map, List.getElem?_eq_getElem h1, e1] <;> rfl)
    refine r_ixT ((hA.same s1).same s3).sq ea ?_
    walk_at "rd"
    refine ⟨small (show 2 ≤ 100 by decide), fun q0 hq0 => ?_⟩
    have s4 := same_upd (o := .tup [.int ((js[j] : Nat) : Int), .int i]) hq0
    walk_at "rd"
    refine ⟨t, q0, ns, ts, (js[j], i), rfl, ((hT.same s1).same s3).same s4, hn, TupAt.of upd_same, ⟨by omega, e2⟩, ?_⟩
    refine k1 _ _ ?_ s4
    rw [tp, List.getElem?_map, List.getElem?_eq_getElem hj]
    show some (V.str (SX.S (txt (js[j], (l[js[j]]?.getD none).getD 0)))) = _
    rw [List.getElem?_eq_getElem h1]
    show some (V.str (SX.S (txt (js[j], (l[js[j]]).getD 0)))) = _
    rw [e1] <;> rfl
  · intro H' s2 e1
    have el : (timesP l).length = js.length := by rw [tp, List.length_map]
    rw [List.length_map, ← el, filterMap_all (timesP l) _ (fun p => .str (SX.S (txt p))) fun i hi => by rw [List.getElem?_eq_getElem hi] <;> rfl] at e1
    refine ⟨[10], D, (timesP l).map txt, rfl, rfl, .inl (SqL.of ?_), ?_, ?_⟩
    · rw [e1, List.map_map] <;> rfl
    · refine join_le (x := 10) (m := 12) (k := 24) (by rw [List.length_map]; omega) (fun y hy => ?_) (by decide)
      obtain ⟨p, hp, rfl⟩ := List.mem_map.mp hy
      rw [tp] at hp
      obtain ⟨j, hj, rfl⟩ := List.mem_map.mp hp
      obtain ⟨h1, i, e1, e2⟩ := jm _ hj
      refine prW_le hn ⟨by show j < _; omega, ?_⟩
      show ((l[j]?.getD none).getD 0).natAbs ≤ _
      rw [List.getElem?_eq_getElem h1]
      show ((l[j]).getD 0).natAbs ≤ _
      rw [e1]
      exact e2
    · rw [show TL.joinL [10] ((timesP l).map txt) = showR (timesR ns l) by
        unfold showR timesR
        rw [List.map_map] <;> rfl]
      exact q H' (s1.trans s2)
theorem cal_show_times (W : Wd K mg) : C8.Cal P w K mg base 2 "show_times" (spShowTimes K) [] := (fun b => mk_show_times W b.1 b.2) (bd_show_times (P := P) (w := w) (base := base) W)
def spShowBatches (K : PySem.W.Frag) : Sp := fun vs H Q _ => ∃ (a : Addr) (js : List Int), vs = [.ref a] ∧ TupAt H a (js.map V.int) ∧ js.length ≤ 60 ∧ (∀ j ∈ js, j.natAbs ≤ 1000) ∧
  ∀ H', Same H H' → Q (.str (SX.S (rowT (js.map Word.it)))) H'
theorem bd_show_batches (W : Wd K mg) : Len 1 (spShowBatches K) ∧ Body P w K mg base N_show_batches "show_batches" s_show_batches (He.fAd K ("show_batches", none)) 1 (spShowBatches K) := by
  refine ⟨fun vs H Q E h => ?_, fun cdv A outer s H vs Q E hr h => ?_⟩
  · obtain ⟨a, js, rfl, _⟩ := h
    rfl
  obtain ⟨a, js, rfl, hA, hl, hj, q⟩ := h
  refine ⟨_, (pss_one (ps_ret (peJn (K := K) rfl pe_str (pe_lc (own := [("size", 1)]) (g := gName 1) (tt := tYes) rfl sc_show_batches.nd (piT (K := K) rfl (pv 0)) (blkOk_by (own := [("size", 1)]) (N := N_show_batches) (sc := defScope s_show_batches) (by decide +kernel)) (fun _ _ _ _ _ => (pg_name (i := 1) sc_show_batches.nd rfl (Or.inl rfl))) (fun _ _ _ _ _ => pts_nil) (fun _ _ _ _ _ => (pe_callTy call_str_int rfl W.z_str (by decide +kernel) (pa_cons (pv 1) pa_nil))))))), ?_⟩
  walk_at "rd"
  refine ⟨a, rfl, ⟨_, hA.sq⟩, fun D hD => lc_map walk_tup (fun j => js[j]?.map fun i => .str (SX.S (intL i))) hD ?_ (fun H' s2 => (hA.same s2).sq) yAt_same ?_ ?_⟩
  · rw [List.length_map]
    exact small' (by omega)
  · rintro j v H2 H3 R R0 hi s2 s3 ⟨rfl, ev⟩ k1 k2
    rw [List.length_map] at hi
    rw [List.getElem?_map, List.getElem?_eq_getElem hi] at ev
    obtain rfl := Option.some.inj ev
    refine ⟨rfl, ?_⟩
    walk_at "rd"
    refine ⟨_, rfl, log_le (Nat.le_trans (hj _ (List.getElem_mem hi)) (by decide)), ?_⟩
    rw [intL_str]
    exact k1 _ _ (by rw [List.getElem?_eq_getElem hi] <;> rfl) (Same.refl _)
  · intro H' s2 e1
    rw [List.length_map, filterMap_all js _ (fun i => .str (SX.S (intL i))) fun i hi => by rw [List.getElem?_eq_getElem hi] <;> rfl] at e1
    refine ⟨[32], D, js.map intL, rfl, rfl, .inl (SqL.of ?_), ?_, ?_⟩
    · rw [e1, List.map_map] <;> rfl
    · refine join_le (x := 32) (m := 60) (k := 11) (by rw [List.length_map]; omega) (fun y hy => ?_) (by decide)
      obtain ⟨i, hi, rfl⟩ := List.mem_map.mp hy
      exact intL_le (Nat.le_trans (hj _ hi) (by decide))
    · rw [show TL.joinL [32] (js.map intL) = rowT (js.map Word.it) by
        unfold rowT
        rw [List.map_map] <;> rfl]
      exact q H' s2
theorem cal_show_batches (W : Wd K mg) : C8.Cal P w K mg base 2 "show_batches" (spShowBatches K) [] := (fun b => mk_show_batches W b.1 b.2) (bd_show_batches (P := P) (w := w) (base := base) W)
def spShowLot (K : PySem.W.Frag) : Sp := fun vs H Q _ => ∃ (t a : Addr) (ns : List Cs) (ts : List Tie) (js : List Nat), vs = [.ref t, .ref a] ∧ TabAt K H t ns ts ∧ NamesOk ns ∧ TupAt H a (js.map fun j => V.int (j : Nat)) ∧ js.length ≤ 60 ∧ (∀ j ∈ js, j < ns.length) ∧
  ∀ H', Same H H' → Q (.str (SX.S (rowT (js.map fun j => Word.nm (nmAt ns j))))) H'
theorem bd_show_lot (W : Wd K mg) : Len 2 (spShowLot K) ∧ Body P w K mg base N_show_lot "show_lot" s_show_lot (He.fAd K ("show_lot", none)) 1 (spShowLot K) := by
  refine ⟨fun vs H Q E h => ?_, fun cdv A outer s H vs Q E hr h => ?_⟩
  · obtain ⟨t, a, ns, ts, js, rfl, _⟩ := h
    rfl
  obtain ⟨t, a, ns, ts, js, rfl, hT, hn, hA, hl, hj, q⟩ := h
  obtain ⟨dx, b1, b2, ht, hN, hB⟩ := hT.ex
  refine ⟨_, (pss_one (ps_ret (peJn (K := K) rfl pe_str (pe_lc (own := [("thing", 2)]) (g := gName 2) (tt := tYes) rfl sc_show_lot.nd (piT (K := K) rfl (pv 1)) (blkOk_by (own := [("thing", 2)]) (N := N_show_lot) (sc := defScope s_show_lot) (by decide +kernel)) (fun _ _ _ _ _ => (pg_name (i := 2) sc_show_lot.nd rfl (Or.inl rfl))) (fun _ _ _ _ _ => pts_nil) (fun _ _ _ _ _ => (pe_ix (ixT (K := K)) (peFld (K := K) rfl (pv 0)) (pv 2) (fun _ _ => rfl))))))), ?_⟩
  walk_at "rd"
  refine ⟨a, rfl, ⟨_, hA.sq⟩, fun D hD => lc_map walk_tup (fun j => js[j]?.map fun i => .str (SX.S (nmAt ns i))) hD ?_ (fun H' s2 => (hA.same s2).sq) yAt_same ?_ ?_⟩
  · rw [List.length_map]
    exact small' (by omega)
  · rintro j v H2 H3 R R0 hi s2 s3 ⟨rfl, ev⟩ k1 k2
    rw [List.length_map] at hi
    rw [List.getElem?_map, List.getElem?_eq_getElem hi] at ev
    obtain rfl := Option.some.inj ev
    refine ⟨rfl, ?_⟩
    walk_at "rd"
    refine r_fl (s3 _ _ ht) W.c_Table W.n_Table_things rfl ?_
    walk_at "rd"
    refine r_ixT (hN.same s3).sq (at_nm (hj _ (List.getElem_mem hi))) ?_
    exact k1 _ _ (by rw [List.getElem?_eq_getElem hi] <;> rfl) (Same.refl _)
  · intro H' s2 e1
    rw [List.length_map, filterMap_all js _ (fun i => .str (SX.S (nmAt ns i))) fun i hi => by rw [List.getElem?_eq_getElem hi] <;> rfl] at e1
    refine ⟨[32], D, js.map (nmAt ns), rfl, rfl, .inl (SqL.of ?_), ?_, ?_⟩
    · rw [e1, List.map_map] <;> rfl
    · refine join_le (x := 32) (m := 60) (k := 6) (by rw [List.length_map]; omega) (fun y hy => ?_) (by decide)
      obtain ⟨i, hi, rfl⟩ := List.mem_map.mp hy
      exact nm_le hn (hj _ hi)
    · rw [show TL.joinL [32] (js.map (nmAt ns)) = rowT (js.map fun j => Word.nm (nmAt ns j)) by
        unfold rowT
        rw [List.map_map] <;> rfl]
      exact q H' s2
theorem cal_show_lot (W : Wd K mg) : C8.Cal P w K mg base 2 "show_lot" (spShowLot K) [] := (fun b => mk_show_lot W b.1 b.2) (bd_show_lot (P := P) (w := w) (base := base) W)
end
end K07

set_option maxRecDepth 100000
set_option maxHeartbeats 4000000
namespace K07
open PySem PySem.Spec PyProof.Rows L2
local macro_rules | `(tactic| walk_at "rd") => `(tactic| repeat (first
  | with_reducible refine r_seq ?_ | with_reducible refine r_asg ?_ | with_reducible refine r_name ?_ | with_reducible refine r_ret ?_ | with_reducible refine r_drop ?_ | with_reducible refine r_if ?_ | with_reducible refine r_nx ?_
  | with_reducible refine r_c ?_ | with_reducible refine r_op ?_ | with_reducible refine r_un ?_ | with_reducible refine r_cons ?_ | with_reducible refine r_nil ?_ | with_reducible refine r_test ?_ | with_reducible refine r_B ?_
  | with_reducible refine r_and ?_ | with_reducible refine r_or ?_ | with_reducible refine r_not ?_ | with_reducible refine r_andV ?_ | with_reducible refine r_orV ?_ | with_reducible refine r_notV ?_ | with_reducible refine r_tif ?_
  | with_reducible refine r_chain ?_ | with_reducible refine r_tyes ?_ | with_reducible refine r_lc ?_ | with_reducible refine r_rng1 ?_ | with_reducible refine r_itup ?_ | with_reducible refine r_ilist ?_ | with_reducible refine r_ienum ?_ | with_reducible refine r_istr ?_
  | with_reducible refine r_tup ?_ | with_reducible refine r_lst ?_ | with_reducible refine r_tfld ?_ | with_reducible refine r_gcons ?_ | with_reducible refine r_gnil ?_ | with_reducible refine r_gfld ?_ | with_reducible refine r_for ?_ | with_reducible refine r_sfld ?_ | with_reducible refine r_call ?_ | with_reducible refine r_cb ?_ | with_reducible refine r_sl ?_ | with_reducible refine r_np ?_ | with_reducible refine r_pt ?_ | with_reducible refine r_m1 ?_ | with_reducible refine r_par ?_ | with_reducible refine r_p2 ?_ | with_reducible refine r_u ?_ | with_reducible refine r_meth ?_ | with_reducible refine r_make ?_ | with_reducible refine r_gsub ?_ | with_reducible refine r_bm ?_ | with_reducible refine r_bm0 ?_ | with_reducible refine r_j0 ?_ | with_reducible refine r_jF ?_ | with_reducible refine r_jN ?_ | with_reducible refine r_bl ?_ | with_reducible refine r_i0 ?_ | with_reducible refine tt_ite ?_ | with_reducible refine ff_ite ?_ | with_reducible refine nt_ite ?_ | with_reducible refine nf_ite ?_
  | with_reducible refine r_var (by with_unfolding_all exact rfl) ?_))
section
variable {P : Program} {w : World} {K : PySem.W.Frag} {mg : Str → Option Value} {base : Heap}
def spShowDay (K : PySem.W.Frag) : Sp := fun vs H Q _ => ∃ (t a : Addr) (ns : List Cs) (ts : List Tie) (d : List (List Pr)), vs = [.ref t, .ref a] ∧ TabAt K H t ns ts ∧ NamesOk ns ∧ DayAt H a d ∧ DayOk ns.length d ∧
  ∀ H', Same H H' → Q (.str (SX.S (showR (d.map (dayRow ns))))) H'
theorem bd_show_day (W : Wd K mg) : Len 2 (spShowDay K) ∧ Body P w K mg base N_show_day "show_day" s_show_day (He.fAd K ("show_day", none)) 1 (spShowDay K) := by
  refine ⟨fun vs H Q E h => ?_, fun cdv A outer s H vs Q E hr h => ?_⟩
  · obtain ⟨t, a, ns, ts, l, rfl, _⟩ := h
    rfl
  obtain ⟨t, a, ns, ts, d, rfl, hT, hn, ⟨as, hA, h2⟩, ⟨hd, hp⟩, q⟩ := h
  refine ⟨_, (pss_one (ps_ret (peJn (K := K) rfl pe_str (pe_lc (own := [("pairs", 3)]) (g := gName 3) (tt := tYes) rfl sc_show_day.nd (piT (K := K) rfl (pv 1)) (blkOk_by (own := [("pairs", 3)]) (N := N_show_day) (sc := defScope s_show_day) (by decide +kernel)) (fun _ _ _ _ _ => (pg_name (i := 3) sc_show_day.nd rfl (Or.inl rfl))) (fun _ _ _ _ _ => pts_nil) (fun _ _ _ _ _ => (peJn (K := K) rfl pe_str (pe_lc (own := [("pair", 2)]) (g := gName 2) (tt := tYes) rfl sc_show_day.nd (piT (K := K) rfl (pv 3)) (blkOk_by (own := [("pair", 2)]) (N := N_show_day) (sc := relS { kind := .function, names := [(".0", .local), ("pairs", .local), ("table", .free)], isGenerator := false, isCoroutine := false } (defScope s_show_day)) (by decide +kernel)) (fun _ _ _ _ _ => (pg_name (i := 2) sc_show_day.nd rfl (Or.inl rfl))) (fun _ _ _ _ _ => pts_nil) (fun _ _ _ _ _ => (C8.pe_c (cal_show_pair W) hr (by decide) rfl (pa_cons (pv 0) (pa_cons (pv 2) pa_nil))))))))))), ?_⟩
  walk_at "rd"
  let txt : Pr → Cs := fun p => rowT (prW ns p)
  have row : ∀ ps : List Pr, TL.joinL [32] (ps.map txt) = rowT (dayRow ns ps) := fun ps => by
    have := rowT_flat (ps.map (prW ns)) fun r hr => by
      obtain ⟨p, _, rfl⟩ := List.mem_map.mp hr
      exact List.cons_ne_nil _ _
    rw [List.map_map] at this
    exact this
  refine ⟨a, rfl, ⟨_, hA.sq⟩, fun D hD => lc_map walk_tup (fun j => d[j]?.map fun ps => .str (SX.S (rowT (dayRow ns ps)))) hD ?_ (fun H' s2 => (hA.same s2).sq) yAt_same ?_ ?_⟩
  · rw [List.length_map, h2.length]
    exact small' (by omega)
  · rintro j v H2 H3 R R0 hi s2 s3 ⟨rfl, ev⟩ k1 k2
    obtain ⟨a1, ps, rfl, ex, as1, hA1, h3⟩ := h2.at j v ev
    have hps := hp ps (List.mem_of_getElem? ex)
    refine ⟨rfl, ?_⟩
    walk_at "rd"
    refine ⟨a1, rfl, ⟨_, (hA1.same s3).sq⟩, fun D1 hD1 => lc_map walk_tup (fun i => ps[i]?.map fun p => .str (SX.S (txt p))) hD1 ?_ (fun H' s4 => ((hA1.same s3).same s4).sq) yAt_same ?_ ?_⟩
    · rw [List.length_map, h3.length]
      exact small' (by omega)
    · rintro i v H4 H5 R R0 hi s4 s5 ⟨rfl, ev⟩ k1 k2
      obtain ⟨a2, p, rfl, ex1, h4⟩ := h3.at i v ev
      refine ⟨rfl, ?_⟩
      walk_at "rd"
      refine ⟨t, a2, ns, ts, p, rfl, (hT.same s3).same s5, hn, (h4.same s3).same s5, hps.2.2 p (List.mem_of_getElem? ex1), k1 _ _ ?_ (Same.refl _)⟩
      rw [ex1] <;> rfl
    · intro H' s4 e1
      rw [List.length_map, h3.length, filterMap_all ps _ (fun p => .str (SX.S (txt p))) fun i hi => by rw [List.getElem?_eq_getElem hi] <;> rfl] at e1
      refine ⟨[32], D1, ps.map txt, rfl, rfl, .inl (SqL.of ?_), ?_, ?_⟩
      · rw [e1, List.map_map] <;> rfl
      · refine join_le (x := 32) (m := 12) (k := 24) (by rw [List.length_map]; omega) (fun y hy => ?_) (by decide)
        obtain ⟨p, hp, rfl⟩ := List.mem_map.mp hy
        exact prW_le hn (hps.2.2 p hp)
      · rw [row]
        exact k1 _ _ (by rw [ex] <;> rfl) s4
  · intro H' s2 e1
    rw [List.length_map, h2.length, filterMap_all d _ (fun ps => .str (SX.S (rowT (dayRow ns ps)))) fun i hi => by rw [List.getElem?_eq_getElem hi] <;> rfl] at e1
    refine ⟨[10], D, d.map fun ps => rowT (dayRow ns ps), rfl, rfl, .inl (SqL.of ?_), ?_, ?_⟩
    · rw [e1, List.map_map] <;> rfl
    · refine join_le (x := 10) (m := 12) (k := 12 * 25) (by rw [List.length_map]; omega) (fun y hy => ?_) (by decide)
      obtain ⟨ps, hps, rfl⟩ := List.mem_map.mp hy
      obtain ⟨g1, g2, g3⟩ := hp ps hps
      show (rowT (dayRow ns ps)).length ≤ 300
      rw [← row]
      have := sum_le ((ps.map txt).map (·.length)) 24 fun x hx => by
        obtain ⟨y, hy, rfl⟩ := List.mem_map.mp hx
        obtain ⟨p, hp, rfl⟩ := List.mem_map.mp hy
        exact prW_le hn (g3 p hp)
      have jl : ∀ l : List Cs, (TL.joinL [32] l).length ≤ (l.map (·.length)).sum + l.length := fun l => by
        cases l with
        | nil => exact Nat.zero_le _
        | cons x l =>
          rw [joinL_cons, List.length_append, List.map_cons, List.sum_cons, List.length_cons]
          have : (l.flatMap fun q => [32] ++ q).length = (l.map (·.length)).sum + l.length := by
            induction l with
            | nil => rfl
            | cons y l ih =>
              rw [List.flatMap_cons, List.length_append, ih, List.map_cons, List.sum_cons]
              rw [List.length_append, show [32].length = 1 from rfl, show (y :: l).length = l.length + 1 from rfl]
              omega
          omega
      have := jl (ps.map txt)
      rw [List.length_map] at *
      rw [List.length_map] at *
      omega
    · rw [show TL.joinL [10] (d.map fun ps => rowT (dayRow ns ps)) = showR (d.map (dayRow ns)) by
        unfold showR
        rw [List.map_map] <;> rfl]
      exact q H' s2
theorem cal_show_day (W : Wd K mg) : C8.Cal P w K mg base 2 "show_day" (spShowDay K) [] := (fun b => mk_show_day W b.1 b.2) (bd_show_day (P := P) (w := w) (base := base) W)
end
end K07

set_option maxRecDepth 100000
set_option maxHeartbeats 4000000
namespace K07
open PySem PySem.Spec PyProof.Rows L2
local macro_rules | `(tactic| walk_at "rd") => `(tactic| repeat (first
  | with_reducible refine r_seq ?_ | with_reducible refine r_asg ?_ | with_reducible refine r_name ?_ | with_reducible refine r_ret ?_ | with_reducible refine r_drop ?_ | with_reducible refine r_if ?_ | with_reducible refine r_nx ?_
  | with_reducible refine r_c ?_ | with_reducible refine r_op ?_ | with_reducible refine r_un ?_ | with_reducible refine r_cons ?_ | with_reducible refine r_nil ?_ | with_reducible refine r_test ?_ | with_reducible refine r_B ?_
  | with_reducible refine r_and ?_ | with_reducible refine r_or ?_ | with_reducible refine r_not ?_ | with_reducible refine r_andV ?_ | with_reducible refine r_orV ?_ | with_reducible refine r_notV ?_ | with_reducible refine r_tif ?_
  | with_reducible refine r_chain ?_ | with_reducible refine r_tyes ?_ | with_reducible refine r_lc ?_ | with_reducible refine r_rng1 ?_ | with_reducible refine r_itup ?_ | with_reducible refine r_ilist ?_ | with_reducible refine r_ienum ?_ | with_reducible refine r_istr ?_
  | with_reducible refine r_tup ?_ | with_reducible refine r_lst ?_ | with_reducible refine r_tfld ?_ | with_reducible refine r_gcons ?_ | with_reducible refine r_gnil ?_ | with_reducible refine r_gfld ?_ | with_reducible refine r_for ?_ | with_reducible refine r_sfld ?_ | with_reducible refine r_call ?_ | with_reducible refine r_cb ?_ | with_reducible refine r_sl ?_ | with_reducible refine r_np ?_ | with_reducible refine r_pt ?_ | with_reducible refine r_m1 ?_ | with_reducible refine r_par ?_ | with_reducible refine r_p2 ?_ | with_reducible refine r_u ?_ | with_reducible refine r_meth ?_ | with_reducible refine r_make ?_ | with_reducible refine r_gsub ?_ | with_reducible refine r_bm ?_ | with_reducible refine r_bm0 ?_ | with_reducible refine r_j0 ?_ | with_reducible refine r_jF ?_ | with_reducible refine r_jN ?_ | with_reducible refine r_bl ?_ | with_reducible refine r_i0 ?_ | with_reducible refine tt_ite ?_ | with_reducible refine ff_ite ?_ | with_reducible refine nt_ite ?_ | with_reducible refine nf_ite ?_
  | with_reducible refine r_var (by with_unfolding_all exact rfl) ?_))
theorem S_at {z : Cs} {i : Nat} {c : Nat} (e : z[i]? = some c) : (SX.S z).cps[i]? = some c := by
  show z.toArray[i]? = some c
  rw [List.getElem?_toArray]
  exact e
theorem r_itS {z : Cs} {i : Nat} {c : Nat} {R : Nat → Prop} (hz : z.length ≤ 1000000) (e : z[i]? = some c) (q : R c) :
    ∃ z' i' c', V.str (SX.S z) = .str z' ∧ V.int (i : Nat) = .int i' ∧ 0 ≤ i' ∧ i' < 2 ^ 63 ∧ i' < z'.length ∧ z'.cps[i'.toNat]? = some c' ∧ R c' := by
  have hi := (List.getElem?_eq_some_iff.mp e).1
  refine ⟨SX.S z, (i : Nat), c, rfl, rfl, by omega, by omega, ?_, ?_, q⟩
  · rw [SX.S_len]
    omega
  · rw [Int.toNat_natCast]
    exact S_at e
theorem sIx_nat {n d i : Nat} (h : i ≤ n) : HT.sIx n d (some ((i : Nat) : Int)) = i := by
  unfold HT.sIx
  simp only []
  split <;> omega
theorem cut_mid (u w t : Cs) : cutS (SX.S (u ++ (w ++ t))) (some ((u.length : Nat) : Int)) (some (((u ++ w).length : Nat) : Int)) = SX.S w := by
  unfold cutS
  rw [SX.S_len, sIx_nat (by simp only [List.length_append]; omega), sIx_nat (by simp only [List.length_append]; omega)]
  show SX.S (((u ++ (w ++ t)).drop u.length).take ((u ++ w).length - u.length)) = _
  rw [List.drop_left, show (u ++ w).length - u.length = w.length by rw [List.length_append]; omega, List.take_left]
section
variable {P : Program} {w : World} {K : PySem.W.Frag} {mg : Str → Option Value} {base : Heap}
def spRunEnd : Sp := fun vs H Q _ => ∃ (u x t sg : Cs), vs = [.str (SX.S (u ++ (x ++ t))), .int u.length, .str (SX.S sg)] ∧ (∀ c ∈ x, c ∈ sg) ∧ (∀ c, t.head? = some c → c ∉ sg) ∧ (u ++ (x ++ t)).length ≤ 1000000 ∧ Q (.int ((u ++ x).length : Nat)) H
theorem cal_run_end (W : Wd K mg) : C8.Cal P w K mg base 1 "run_end" spRunEnd [] := by
  refine mk_run_end W (fun vs H Q E h => ?_) fun cdv A outer s H vs Q E hr h => ?_
  · obtain ⟨u, x, t, sg, rfl, _⟩ := h
    rfl
  obtain ⟨u, x, t, sg, rfl, hx, ht, hl, q⟩ := h
  refine ⟨_, (pss_cons (ps_while PassesOwn.never (PW.pt (pw_and (pt_cmpR op_lt (pv 1) (pe_callB crLnS rfl W.z_len (by decide +kernel) (pa_cons (pv 0) pa_nil)) (nomark _)) (pw_and1 (pt_cmpR op_in_sign (pe_item_str (pv 0) (pv 1) (fun _ _ => rfl)) (pv 2) rfl))))
    (pss_one (ps_set (i := 1) sc_run_end.nd rfl (.inl rfl) (pe_op op_add (pv 1) pe_int))))
    (pss_one (ps_ret (pv 1)))), ?_⟩
  walk_at "rd"
  have hlen : (u ++ (x ++ t)).length = u.length + x.length + t.length := by simp only [List.length_append]; omega
  refine ⟨fun m σ H' => ∃ i : Nat, i ≤ x.length ∧ m = x.length - i ∧ σ = [some (.str (SX.S (u ++ (x ++ t)))), some (.int ((u.length + i : Nat) : Int)), some (.str (SX.S sg))] ∧ H' = H, ⟨_, 0, Nat.zero_le _, rfl, rfl, rfl⟩, ?_⟩
  rintro m σ H' ⟨i, hi, rfl, rfl, rfl⟩
  walk_at "rd"
  refine r_lnS (by omega) ?_
  walk_at "rd"
  by_cases h1 : i < x.length
  · refine r_yes (decide_eq_true (by omega)) ?_
    walk_at "rd"
    refine r_itS hl (c := x[i]) ?_ ?_
    · rw [List.getElem?_append_right (by omega), show u.length + i - u.length = i by omega, List.getElem?_append_left h1, List.getElem?_eq_getElem h1]
    walk_at "rd"
    refine ⟨x[i], SX.S sg, rfl, rfl, ?_⟩
    rw [show decide (x[i] ∈ (SX.S sg).cps.toList) = true from decide_eq_true (hx _ (List.getElem_mem h1))]
    walk_at "rd"
    refine ⟨fun σ' H2 => σ' = [some (.str (SX.S (u ++ (x ++ t)))), some (.int ((u.length + (i + 1) : Nat) : Int)), some (.str (SX.S sg))] ∧ H2 = H', ?_, ?_⟩
    · rintro σ' H2 ⟨rfl, rfl⟩
      exact ⟨_, (by omega : x.length - (i + 1) < x.length - i), i + 1, h1, rfl, rfl, rfl⟩
    · walk_at "rd"
      refine ⟨?_, rfl⟩
      rw [show ((u.length + i : Nat) : Int) + 1 = ((u.length + (i + 1) : Nat) : Int) by omega] <;> rfl
  · have ei : i = x.length := by omega
    subst ei
    have fin : Q (.int ((u.length + x.length : Nat) : Int)) H' := by
      rw [← List.length_append]
      exact q
    cases t with
    | nil =>
      refine r_no (decide_eq_false (by simp only [List.length_append, List.length_nil]; omega)) ?_
      walk_at "rd"
      exact fin
    | cons c t =>
      refine r_yes (decide_eq_true (by simp only [List.length_append, List.length_cons]; omega)) ?_
      walk_at "rd"
      refine r_itS hl (c := c) ?_ ?_
      · rw [List.getElem?_append_right (by omega), List.getElem?_append_right (by omega), show u.length + x.length - u.length - x.length = 0 by omega] <;> rfl
      walk_at "rd"
      refine ⟨c, SX.S sg, rfl, rfl, ?_⟩
      rw [show decide (c ∈ (SX.S sg).cps.toList) = false from decide_eq_false (ht c rfl)]
      walk_at "rd"
      exact fin
/-- the mark that stands at the text's head -/
inductive Head : Cs → Cs → Prop
  | word {x t : Cs} : x ≠ [] → (∀ c ∈ x, IsL c) → (∀ c, t.head? = some c → ¬ IsL c) → Head x t
  | num {x t : Cs} : x ≠ [] → (∀ c ∈ x, IsD c) → (∀ c, t.head? = some c → ¬ IsD c) → Head x t
  | one {c : Nat} {t : Cs} : ¬ IsL c → ¬ IsD c → Head [c] t
theorem Head.ne {x t : Cs} (h : Head x t) : x ≠ [] := by
  cases h with
  | word h _ _ => exact h
  | num h _ _ => exact h
  | one _ _ => exact List.cons_ne_nil _ _
def ltS : Cs := [97, 98, 99, 100, 101, 102, 103, 104, 105, 106, 107, 108, 109, 110, 111, 112, 113, 114, 115, 116, 117, 118, 119, 120, 121, 122]
def dgS : Cs := [48, 49, 50, 51, 52, 53, 54, 55, 56, 57]
theorem lt_S : Str.ofString "abcdefghijklmnopqrstuvwxyz" = SX.S ltS := TL.ext_tl letters_eq
theorem dg_S : Str.ofString "0123456789" = SX.S dgS := TL.ext_tl digits_eq
theorem mem_lt (c : Nat) : c ∈ ltS ↔ IsL c := by
  have := mem_letters c
  rw [letters_eq] at this
  exact this
theorem mem_dg (c : Nat) : c ∈ dgS ↔ IsD c := by
  have := mem_digits c
  rw [digits_eq] at this
  exact this
def spMarkAt : Sp := fun vs H Q _ => ∃ (u x t : Cs), vs = [.str (SX.S (u ++ (x ++ t))), .int u.length] ∧ Head x t ∧ (u ++ (x ++ t)).length ≤ 1000000 ∧ Q (.str (SX.S x)) H
theorem cal_mark_at (W : Wd K mg) : C8.Cal P w K mg base 2 "mark_at" spMarkAt [] := by
  refine mk_mark_at W (fun vs H Q E h => ?_) fun cdv A outer s H vs Q E hr h => ?_
  · obtain ⟨u, x, t, rfl, _⟩ := h
    rfl
  obtain ⟨u, x, t, rfl, hx, hl, q⟩ := h
  refine ⟨_, (pss_cons (ps_if (pt_cmpR op_in_sign (pe_item_str (pv 0) (pv 1) (fun _ _ => rfl)) (C8.pe_gc rfl W.s_LETTERS) rfl)
    (pss_one (ps_ret (pe_slice sl_str (pv 0) (po_some (pv 1)) (po_some (C8.pe_c (cal_run_end W) hr (by decide) rfl (pa_cons (pv 0) (pa_cons (pv 1) (pa_cons (C8.pe_gc rfl W.s_LETTERS) pa_nil))))))))
    pss_nil)
    (pss_one (ps_ret (pe_ifExp (pt_cmpR op_in_sign (pe_item_str (pv 0) (pv 1) (fun _ _ => rfl)) (C8.pe_gc rfl W.s_DIGITS) rfl) (pe_slice sl_str (pv 0) (po_some (pv 1)) (po_some (C8.pe_c (cal_run_end W) hr (by decide) rfl (pa_cons (pv 0) (pa_cons (pv 1) (pa_cons (C8.pe_gc rfl W.s_DIGITS) pa_nil)))))) (pe_item_str (pv 0) (pv 1) (fun _ _ => rfl)))))), ?_⟩
  obtain ⟨c, x', rfl⟩ := List.exists_cons_of_ne_nil hx.ne
  have at0 : (u ++ (c :: x' ++ t))[u.length]? = some c := by
    rw [List.getElem?_append_right (Nat.le_refl _), Nat.sub_self] <;> rfl
  walk_at "rd"
  refine r_itS hl at0 ?_
  walk_at "rd"
  refine ⟨c, _, rfl, rfl, ?_⟩
  walk_at "rd"
  by_cases hL : IsL c
  · refine r_yes (decide_eq_true ((mem_letters c).mpr hL)) ?_
    have hw : (∀ d ∈ c :: x', IsL d) ∧ ∀ d, t.head? = some d → ¬ IsL d := by
      cases hx with
      | word _ a b => exact ⟨a, b⟩
      | num _ a b =>
        have h1 := a c List.mem_cons_self
        unfold IsL at hL
        unfold IsD at h1
        omega
      | one a b => exact absurd hL a
    walk_at "rd"
    refine ⟨_, rfl, ?_⟩
    walk_at "rd"
    rw [lt_S]
    refine ⟨u, c :: x', t, ltS, rfl, fun d hd => (mem_lt d).mpr (hw.1 d hd), fun d hd z => hw.2 d hd ((mem_lt d).mp z), hl, ?_⟩
    refine ⟨_, rfl, SX.S (u ++ (c :: x' ++ t)), rfl, by rw [SX.S_len]; exact Nat.le_trans hl (by decide), ?_⟩
    rw [cut_mid]
    exact q
  · refine r_no (decide_eq_false fun z => hL ((mem_letters c).mp z)) ?_
    walk_at "rd"
    refine r_itS hl at0 ?_
    walk_at "rd"
    refine ⟨c, _, rfl, rfl, ?_⟩
    walk_at "rd"
    by_cases hD : IsD c
    · refine r_yes (decide_eq_true ((mem_digits c).mpr hD)) ?_
      have hw : (∀ d ∈ c :: x', IsD d) ∧ ∀ d, t.head? = some d → ¬ IsD d := by
        cases hx with
        | num _ a b => exact ⟨a, b⟩
        | word _ a b => exact absurd (a c List.mem_cons_self) hL
        | one a b => exact absurd hD b
      walk_at "rd"
      refine ⟨_, rfl, ?_⟩
      walk_at "rd"
      rw [dg_S]
      refine ⟨u, c :: x', t, dgS, rfl, fun d hd => (mem_dg d).mpr (hw.1 d hd), fun d hd z => hw.2 d hd ((mem_dg d).mp z), hl, ?_⟩
      refine ⟨_, rfl, SX.S (u ++ (c :: x' ++ t)), rfl, by rw [SX.S_len]; exact Nat.le_trans hl (by decide), ?_⟩
      rw [cut_mid]
      exact q
    · refine r_no (decide_eq_false fun z => hD ((mem_digits c).mp z)) ?_
      walk_at "rd"
      refine r_itS hl at0 ?_
      cases hx with
      | word _ a b => exact absurd (a c List.mem_cons_self) hL
      | num _ a b => exact absurd (a c List.mem_cons_self) hD
      | one a b => exact q
end
end K07

set_option maxRecDepth 100000
set_option maxHeartbeats 4000000
namespace K07
open PySem PySem.Spec PyProof.Rows L2
local macro_rules | `(tactic| walk_at "rd") => `(tactic| repeat (first
  | with_reducible refine r_seq ?_ | with_reducible refine r_asg ?_ | with_reducible refine r_name ?_ | with_reducible refine r_ret ?_ | with_reducible refine r_drop ?_ | with_reducible refine r_if ?_ | with_reducible refine r_nx ?_
  | with_reducible refine r_c ?_ | with_reducible refine r_op ?_ | with_reducible refine r_un ?_ | with_reducible refine r_cons ?_ | with_reducible refine r_nil ?_ | with_reducible refine r_test ?_ | with_reducible refine r_B ?_
  | with_reducible refine r_and ?_ | with_reducible refine r_or ?_ | with_reducible refine r_not ?_ | with_reducible refine r_andV ?_ | with_reducible refine r_orV ?_ | with_reducible refine r_notV ?_ | with_reducible refine r_tif ?_
  | with_reducible refine r_chain ?_ | with_reducible refine r_tyes ?_ | with_reducible refine r_lc ?_ | with_reducible refine r_rng1 ?_ | with_reducible refine r_itup ?_ | with_reducible refine r_ilist ?_ | with_reducible refine r_ienum ?_ | with_reducible refine r_istr ?_
  | with_reducible refine r_tup ?_ | with_reducible refine r_lst ?_ | with_reducible refine r_tfld ?_ | with_reducible refine r_gcons ?_ | with_reducible refine r_gnil ?_ | with_reducible refine r_gfld ?_ | with_reducible refine r_for ?_ | with_reducible refine r_sfld ?_ | with_reducible refine r_call ?_ | with_reducible refine r_cb ?_ | with_reducible refine r_sl ?_ | with_reducible refine r_np ?_ | with_reducible refine r_pt ?_ | with_reducible refine r_m1 ?_ | with_reducible refine r_par ?_ | with_reducible refine r_p2 ?_ | with_reducible refine r_u ?_ | with_reducible refine r_meth ?_ | with_reducible refine r_make ?_ | with_reducible refine r_gsub ?_ | with_reducible refine r_bm ?_ | with_reducible refine r_bm0 ?_ | with_reducible refine r_j0 ?_ | with_reducible refine r_jF ?_ | with_reducible refine r_jN ?_ | with_reducible refine r_bl ?_ | with_reducible refine r_i0 ?_ | with_reducible refine tt_ite ?_ | with_reducible refine ff_ite ?_ | with_reducible refine nt_ite ?_ | with_reducible refine nf_ite ?_
  | with_reducible refine r_var (by with_unfolding_all exact rfl) ?_))
theorem lex_nil {ms : List Cs} (h : Lex [] ms) : ms = [] := by
  generalize e : ([] : Cs) = r at h
  cases h with
  | nil => rfl
  | blank _ => cases e
  | word h1 _ _ _ => exact absurd (List.append_eq_nil_iff.mp e.symm).1 h1
  | num h1 _ _ _ => exact absurd (List.append_eq_nil_iff.mp e.symm).1 h1
  | one _ _ _ _ => cases e
theorem lex_step {r : Cs} {ms : List Cs} (h : Lex r ms) (hr : r ≠ []) : ∃ x t, r = x ++ t ∧ Head x t ∧ ((x = [32] ∧ Lex t ms) ∨ (x ≠ [32] ∧ ∃ ms2, ms = x :: ms2 ∧ Lex t ms2)) := by
  cases h with
  | nil => exact absurd rfl hr
  | @blank t ms h => exact ⟨[32], t, rfl, .one (by unfold IsL; omega) (by unfold IsD; omega), .inl ⟨rfl, h⟩⟩
  | @word x t ms h1 h2 h3 h4 =>
    refine ⟨x, t, rfl, .word h1 h2 h3, .inr ⟨fun e => ?_, ms, rfl, h4⟩⟩
    have := h2 32 (by rw [e]; exact List.mem_cons_self)
    unfold IsL at this
    omega
  | @num x t ms h1 h2 h3 h4 =>
    refine ⟨x, t, rfl, .num h1 h2 h3, .inr ⟨fun e => ?_, ms, rfl, h4⟩⟩
    have := h2 32 (by rw [e]; exact List.mem_cons_self)
    unfold IsD at this
    omega
  | @one c t ms h1 h2 h3 h4 => exact ⟨[c], t, rfl, .one h1 h2, .inr ⟨fun e => h3 (List.head_eq_of_cons_eq e), ms, rfl, h4⟩⟩
def MarkAt (H : Hp) (a : Addr) (m : Cs) : Prop := ∃ l c : Int, TupAt H a [.int l, .int c, .str (SX.S m)]
theorem S_ne {a b : Cs} : (!decide (V.str (SX.S a) = V.str (SX.S b))) = !decide (a = b) := by
  rw [show decide (V.str (SX.S a) = V.str (SX.S b)) = decide (a = b) from decide_eq_decide.mpr ⟨fun e => SX.S_inj (by injection e), fun e => by rw [e]⟩]
theorem S_eqd {a b : Cs} : decide (V.str (SX.S a) = V.str (SX.S b)) = decide (a = b) := decide_eq_decide.mpr ⟨fun e => SX.S_inj (by injection e), fun e => by rw [e]⟩
section
variable {P : Program} {w : World} {K : PySem.W.Frag} {mg : Str → Option Value} {base : Heap}
def spMarksIn : Sp := fun vs H Q _ => ∃ (z : Cs) (ms : List Cs), vs = [.str (SX.S z)] ∧ Lex z ms ∧ z.length ≤ 100000 ∧ ∀ p H' (as : List Addr), Same H H' → TupAt H' p (as.map V.ref) → All2 (MarkAt H') as ms → ms.length ≤ 100000 → Q (.ref p) H'
theorem cal_marks_in (W : Wd K mg) : C8.Cal P w K mg base 3 "marks_in" spMarksIn [] := by
  refine mk_marks_in W (fun vs H Q E h => ?_) fun cdv A outer s H vs Q E hr h => ?_
  · obtain ⟨z, ms, rfl, _⟩ := h
    rfl
  obtain ⟨z, ms, rfl, hx, hl, q⟩ := h
  refine ⟨_, (pss_cons (ps_asg (pe_tup (pa_cons (pe_lst pa_nil) (pa_cons pe_int (pa_cons pe_int (pa_cons pe_int pa_nil))))) (pgT (K := K) (n := 4) rfl rfl (pgs_cons (pg_name (i := 1) sc_marks_in.nd rfl (Or.inl rfl)) (pgs_cons (pg_name (i := 2) sc_marks_in.nd rfl (Or.inl rfl)) (pgs_cons (pg_name (i := 3) sc_marks_in.nd rfl (Or.inl rfl)) (pgs_cons (pg_name (i := 4) sc_marks_in.nd rfl (Or.inl rfl)) pgs_nil))))))
    (pss_cons (ps_while PassesOwn.never (pt_cmpR op_lt (pv 4) (pe_callB crLnS rfl W.z_len (by decide +kernel) (pa_cons (pv 0) pa_nil)) (nomark _))
    (pss_cons (ps_set (i := 5) sc_marks_in.nd rfl (.inl rfl) (C8.pe_c (cal_mark_at W) hr (by decide) rfl (pa_cons (pv 0) (pa_cons (pv 4) pa_nil))))
    (pss_cons (ps_if (pt_cmpR op_ne (pv 5) pe_str (nomark _))
    (pss_one (ps_expr (pe_bm PySem.F.plainAttrs_list PySem.F.slot_list_append PySem.F.type_list_append mt_append (pv 1) (pa_cons (pe_tup (pa_cons (pv 2) (pa_cons (pe_op op_sub (pv 4) (pv 3)) (pa_cons (pv 5) pa_nil)))) pa_nil))))
    pss_nil)
    (pss_cons (ps_set (i := 4) sc_marks_in.nd rfl (.inl rfl) (pe_op op_add (pv 4) (pe_callB crLnS rfl W.z_len (by decide +kernel) (pa_cons (pv 5) pa_nil))))
    (pss_one (ps_if (pt_cmpR op_eq (pv 5) pe_str (nomark _))
    (pss_one (ps_par (i := 2) (j := 3) rfl sc_marks_in.nd rfl rfl (by decide) rfl rfl (pa_cons (pe_op op_add (pv 2) pe_int) (pa_cons (pv 4) pa_nil)) (by rfl)))
    pss_nil))))))
    (pss_one (ps_ret (pe_callTy (crTp (K := K)) rfl W.z_tuple (by decide +kernel) (pa_cons (pv 1) pa_nil)))))), ?_⟩
  walk_at "rd"
  refine ⟨small (by decide), fun F hF => ?_⟩
  walk_at "rd"
  refine ⟨small (show 4 ≤ 100 by decide), fun T hT => ?_⟩
  have s1 := same_upd (o := .lst []) hF
  have s2 := same_upd (o := .tup [.ref F, .int 0, .int 0, .int 0]) hT
  refine r_gtup (xs := [.ref F, .int 0, .int 0, .int 0]) (TupAt.of upd_same).sq rfl ?_
  walk_at "rd"
  refine ⟨fun m σ H' => ∃ (u r : Cs) (ms0 ms1 : List Cs) (as : List Addr) (l st : Int) (y5 : Option V), z = u ++ r ∧ m = r.length ∧ ms = ms0 ++ ms1 ∧ Lex r ms1 ∧ Same H H' ∧ H' F = some (.lst (as.map V.ref)) ∧ All2 (MarkAt H') as ms0 ∧ ms0.length ≤ u.length ∧
    σ = [some (.str (SX.S z)), some (.ref F), some (.int l), some (.int st), some (.int (u.length : Nat)), y5], ⟨_, [], z, [], ms, [], 0, 0, _, rfl, rfl, rfl, hx, s1.trans s2, s2 _ _ upd_same, .nil, Nat.zero_le _, rfl⟩, ?_⟩
  rintro m σ H' ⟨u, r, ms0, ms1, as, l, st, y5, hz, rfl, hm, hlx, sH, eF, ha, hm0, rfl⟩
  walk_at "rd"
  refine r_lnS (by omega) ?_
  walk_at "rd"
  have lz : z.length = u.length + r.length := by rw [hz, List.length_append]
  by_cases hr0 : r = []
  · subst hr0
    refine r_no (decide_eq_false (by simp only [List.length_nil] at lz; omega)) ?_
    walk_at "rd"
    obtain rfl := lex_nil hlx
    rw [List.append_nil] at hm
    subst hm
    refine ⟨F, _, rfl, SqL.of eF, fun p o hp _ => q p _ as (sH.trans (same_upd hp)) (TupAt.frz upd_same) (ha.imp fun a m ⟨l, c, h⟩ => ⟨l, c, h.same (same_upd hp)⟩) (by omega)⟩
  · have hrl : 0 < r.length := List.length_pos_iff.mpr hr0
    obtain ⟨x, t, hxt, hh, hcase⟩ := lex_step hlx hr0
    have lr : r.length = x.length + t.length := by rw [hxt, List.length_append]
    have lx : 0 < x.length := List.length_pos_iff.mpr hh.ne
    have hz' : z = u ++ (x ++ t) := by rw [hz, hxt]
    refine r_yes (decide_eq_true (by omega)) ?_
    refine ⟨fun σ' H2 => ∃ (ms0' ms1' : List Cs) (as' : List Addr) (l' st' : Int), ms = ms0' ++ ms1' ∧ Lex t ms1' ∧ Same H H2 ∧ H2 F = some (.lst (as'.map V.ref)) ∧ All2 (MarkAt H2) as' ms0' ∧ ms0'.length ≤ (u ++ x).length ∧
      σ' = [some (.str (SX.S z)), some (.ref F), some (.int l'), some (.int st'), some (.int ((u ++ x).length : Nat)), some (.str (SX.S x))], ?_, ?_⟩
    · rintro σ' H2 ⟨ms0', ms1', as', l', st', h1, h2, h3, h4, h5, h6, rfl⟩
      exact ⟨_, (by omega : t.length < r.length), u ++ x, t, ms0', ms1', as', l', st', _, by rw [hz', List.append_assoc], rfl, h1, h2, h3, h4, h5, h6, rfl⟩
    walk_at "rd"
    refine ⟨u, x, t, by rw [hz']; rfl, hh, by rw [← hz']; omega, ?_⟩
    walk_at "rd"
    refine r_ne rfl ?_
    rw [show Str.ofString " " = SX.S [32] from by decide +kernel, S_ne]
    walk_at "rd"
    rcases hcase with ⟨hx32, hlt⟩ | ⟨hx32, ms2, hm1, hlt⟩
    · refine r_no (by rw [decide_eq_true hx32] <;> rfl) ?_
      walk_at "rd"
      refine r_lnS (by omega) ?_
      walk_at "rd"
      rw [show ((u.length : Nat) : Int) + (x.length : Nat) = ((u ++ x).length : Nat) by rw [List.length_append]; omega]
      refine r_eq rfl ?_
      rw [show Str.ofString "\n" = SX.S [10] from by decide +kernel, S_eqd]
      walk_at "rd"
      refine r_dec (fun e10 => ?_) fun e10 => ?_
      · walk_at "rd"
        exact ⟨ms0, ms1, as, _, _, hm, hlt, sH, eF, ha, by rw [List.length_append]; omega, rfl⟩
      · walk_at "rd"
        exact ⟨ms0, ms1, as, _, _, hm, hlt, sH, eF, ha, by rw [List.length_append]; omega, rfl⟩
    · refine r_yes (by rw [decide_eq_false hx32] <;> rfl) ?_
      walk_at "rd"
      refine r_tyL eF ?_
      walk_at "rd"
      refine ⟨small (show 3 ≤ 100 by decide), fun p hp => ?_⟩
      have s3 := same_upd (o := .tup [.int l, .int (((u.length : Nat) : Int) - st), .str (SX.S x)]) hp
      have eF2 := s3 _ _ eF
      have al := ha.length
      refine ⟨F, _, _, rfl, rfl, eF2, by rw [List.length_map]; exact Nat.lt_of_le_of_lt (show _ ≤ 10000000 by omega) (by decide), ?_⟩
      have k4 : TSame (upd H' p (.tup [.int l, .int (((u.length : Nat) : Int) - st), .str (SX.S x)])) (upd (upd H' p (.tup [.int l, .int (((u.length : Nat) : Int) - st), .str (SX.S x)])) F (.lst (as.map V.ref ++ [.ref p]))) :=
        Keep.tsame (S := [F]) (keep_upd (by simp)) fun a ha => by
          rw [List.mem_singleton.mp ha]
          exact lst_not_tup eF2
      have s5 := same_set (o := .lst (as.map V.ref ++ [.ref p])) hF (sH.trans s3)
      generalize eH : upd (upd H' p (.tup [.int l, .int (((u.length : Nat) : Int) - st), .str (SX.S x)])) F (.lst (as.map V.ref ++ [.ref p])) = H5 at k4 s5 ⊢
      have e5 : H5 F = some (.lst ((as ++ [p]).map V.ref)) := by
        rw [← eH, upd_same, List.map_append] <;> rfl
      have a5 : All2 (MarkAt H5) (as ++ [p]) (ms0 ++ [x]) := (ha.imp fun a m ⟨l, c, h⟩ => ⟨l, c, k4 _ _ (h.same s3)⟩).snoc ⟨l, _, k4 _ _ (TupAt.of upd_same)⟩
      walk_at "rd"
      refine r_lnS (by omega) ?_
      walk_at "rd"
      rw [show ((u.length : Nat) : Int) + (x.length : Nat) = ((u ++ x).length : Nat) by rw [List.length_append]; omega]
      refine r_eq rfl ?_
      rw [show Str.ofString "\n" = SX.S [10] from by decide +kernel, S_eqd]
      walk_at "rd"
      refine r_dec (fun e10 => ?_) fun e10 => ?_
      · walk_at "rd"
        exact ⟨ms0 ++ [x], ms2, as ++ [p], _, _, by rw [hm, hm1, List.append_assoc]; rfl, hlt, s5, e5, a5, by simp only [List.length_append, List.length_cons, List.length_nil]; omega, rfl⟩
      · walk_at "rd"
        exact ⟨ms0 ++ [x], ms2, as ++ [p], _, _, by rw [hm, hm1, List.append_assoc]; rfl, hlt, s5, e5, a5, by simp only [List.length_append, List.length_cons, List.length_nil]; omega, rfl⟩
end
end K07

set_option maxRecDepth 100000
set_option maxHeartbeats 4000000
namespace K07
open PySem PySem.Spec PyProof.Rows L2
local macro_rules | `(tactic| walk_at "rd") => `(tactic| repeat (first
  | with_reducible refine r_seq ?_ | with_reducible refine r_asg ?_ | with_reducible refine r_name ?_ | with_reducible refine r_ret ?_ | with_reducible refine r_drop ?_ | with_reducible refine r_if ?_ | with_reducible refine r_nx ?_
  | with_reducible refine r_c ?_ | with_reducible refine r_op ?_ | with_reducible refine r_un ?_ | with_reducible refine r_cons ?_ | with_reducible refine r_nil ?_ | with_reducible refine r_test ?_ | with_reducible refine r_B ?_
  | with_reducible refine r_and ?_ | with_reducible refine r_or ?_ | with_reducible refine r_not ?_ | with_reducible refine r_andV ?_ | with_reducible refine r_orV ?_ | with_reducible refine r_notV ?_ | with_reducible refine r_tif ?_
  | with_reducible refine r_chain ?_ | with_reducible refine r_tyes ?_ | with_reducible refine r_lc ?_ | with_reducible refine r_rng1 ?_ | with_reducible refine r_itup ?_ | with_reducible refine r_ilist ?_ | with_reducible refine r_ienum ?_ | with_reducible refine r_istr ?_
  | with_reducible refine r_tup ?_ | with_reducible refine r_lst ?_ | with_reducible refine r_tfld ?_ | with_reducible refine r_gcons ?_ | with_reducible refine r_gnil ?_ | with_reducible refine r_gfld ?_ | with_reducible refine r_for ?_ | with_reducible refine r_sfld ?_ | with_reducible refine r_call ?_ | with_reducible refine r_cb ?_ | with_reducible refine r_sl ?_ | with_reducible refine r_np ?_ | with_reducible refine r_pt ?_ | with_reducible refine r_m1 ?_ | with_reducible refine r_par ?_ | with_reducible refine r_p2 ?_ | with_reducible refine r_u ?_ | with_reducible refine r_meth ?_ | with_reducible refine r_make ?_ | with_reducible refine r_gsub ?_ | with_reducible refine r_bm ?_ | with_reducible refine r_bm0 ?_ | with_reducible refine r_j0 ?_ | with_reducible refine r_jF ?_ | with_reducible refine r_jN ?_ | with_reducible refine r_bl ?_ | with_reducible refine r_i0 ?_ | with_reducible refine tt_ite ?_ | with_reducible refine ff_ite ?_ | with_reducible refine nt_ite ?_ | with_reducible refine nf_ite ?_
  | with_reducible refine r_var (by with_unfolding_all exact rfl) ?_))
section
variable {P : Program} {w : World} {K : PySem.W.Frag} {mg : Str → Option Value} {base : Heap}
def spNumeral : Sp := fun vs H Q _ => ∃ (n most : Nat), vs = [.str (SX.S (numL n)), .int most] ∧ n ≤ most ∧ most ≤ 1000000000 ∧ Q (.int (n : Nat)) H
theorem numL_S_int (n : Nat) (h : n ≤ 1000000000) : intText? (SX.S (numL n)) = some ((n : Nat) : Int) := by
  rw [← SX.num_S]
  exact TL.int_num (Nat.le_trans (numL_le (k := 10) (by omega) (by decide)) (by decide))
theorem cal_numeral_of (W : Wd K mg) : C8.Cal P w K mg base 1 "numeral_of" spNumeral [] := by
  refine mk_numeral_of W (fun vs H Q E h => ?_) fun cdv A outer s H vs Q E hr h => ?_
  · obtain ⟨n, most, rfl, _⟩ := h
    rfl
  obtain ⟨n, most, rfl, h1, h2, q⟩ := h
  refine ⟨_, (pss_cons (ps_if (PW.pt (pw_or (pt_cmpR op_notIn_sign (pe_item_str (pv 0) pe_int (fun _ _ => rfl)) (C8.pe_gc rfl W.s_DIGITS) rfl) (pw_or (pt_cmpR op_gt (pe_callB crLnS rfl W.z_len (by decide +kernel) (pa_cons (pv 0) pa_nil)) (pe_callB crLnS rfl W.z_len (by decide +kernel) (pa_cons (pe_callTy call_str_int rfl W.z_str (by decide +kernel) (pa_cons (pv 1) pa_nil)) pa_nil)) (nomark _)) (pw_or1 (PW.pt (pw_and (pt_cmpR op_eq (pe_item_str (pv 0) pe_int (fun _ _ => rfl)) pe_str (nomark _)) (pw_and1 (pt_cmpR op_ne (pv 0) pe_str (nomark _)))))))))
    (pss_one (ps_ret pe_non))
    pss_nil)
    (pss_one (ps_ret (pe_ifExp (pt_cmpR op_le (pe_callTy call_int_str rfl W.z_int (by decide +kernel) (pa_cons (pv 0) pa_nil)) (pv 1) (nomark _)) (pe_callTy call_int_str rfl W.z_int (by decide +kernel) (pa_cons (pv 0) pa_nil)) pe_non)))), ?_⟩
  have ln := numL_le (n := n) (k := 10) (by omega) (by decide)
  obtain ⟨c, x, ec⟩ := List.exists_cons_of_ne_nil (TL.numL_ne n)
  have ec : numL n = c :: x := ec
  have hc : IsD c := numL_d n c (by rw [ec]; exact List.mem_cons_self)
  have at0 : (numL n)[0]? = some c := by rw [ec] <;> rfl
  walk_at "rd"
  refine r_itS (i := 0) (by omega) at0 ?_
  walk_at "rd"
  refine ⟨c, _, rfl, rfl, ?_⟩
  rw [show decide (c ∈ (Str.ofString "0123456789").cps.toList) = true from decide_eq_true ((mem_digits c).mpr hc)]
  walk_at "rd"
  refine r_lnS (by omega) ?_
  walk_at "rd"
  refine ⟨_, rfl, log_le (by omega), ?_⟩
  rw [intL_str]
  walk_at "rd"
  have em : intL ((most : Nat) : Int) = numL most := by
    unfold intL
    rw [if_neg (by omega)] <;> rfl
  have lm := numL_le (n := most) (k := 10) (by omega) (by decide)
  rw [em]
  refine r_lnS (by omega) ?_
  walk_at "rd"
  have mono := numL_mono h1
  rw [show decide ((((numL most).length : Nat) : Int) < ((numL n).length : Nat)) = false from decide_eq_false (by omega)]
  walk_at "rd"
  refine r_itS (i := 0) (by omega) at0 ?_
  walk_at "rd"
  refine r_eq rfl ?_
  rw [show Str.ofString "0" = SX.S [48] from by decide +kernel, show (⟨#[c]⟩ : Str) = SX.S [c] from rfl, S_eqd]
  walk_at "rd"
  by_cases h48 : [c] = [48]
  · refine r_yes (decide_eq_true h48) ?_
    walk_at "rd"
    refine r_ne rfl ?_
    have e0 : n = 0 := by
      by_cases z : n = 0
      · exact z
      · refine absurd ?_ (numL_head z)
        rw [ec, List.head_eq_of_cons_eq h48] <;> rfl
    subst e0
    rw [S_ne, decide_eq_true numL_zero]
    walk_at "rd"
    refine ⟨_, _, rfl, numL_S_int 0 (by omega), by rw [SX.S_len]; omega, ?_⟩
    walk_at "rd"
    rw [show decide (((0 : Nat) : Int) ≤ (most : Nat)) = true from decide_eq_true (by omega)]
    walk_at "rd"
    exact ⟨_, _, rfl, numL_S_int 0 (by omega), by rw [SX.S_len]; omega, q⟩
  · refine r_no (decide_eq_false h48) ?_
    walk_at "rd"
    refine ⟨_, _, rfl, numL_S_int n (by omega), by rw [SX.S_len]; omega, ?_⟩
    walk_at "rd"
    rw [show decide (((n : Nat) : Int) ≤ (most : Nat)) = true from decide_eq_true (by omega)]
    walk_at "rd"
    exact ⟨_, _, rfl, numL_S_int n (by omega), by rw [SX.S_len]; omega, q⟩
/-! ### a day's times -/
def setAll (l : List Time) (ps : List Pr) : List Time := ps.foldl (fun l p => l.set p.1 (some p.2)) l
theorem setAll_len (ps : List Pr) : ∀ l : List Time, (setAll l ps).length = l.length := by
  induction ps with
  | nil => intro l; rfl
  | cons p ps ih =>
    intro l
    show (setAll (l.set p.1 (some p.2)) ps).length = _
    rw [ih, List.length_set]
theorem setAll_snoc (l : List Time) (ps : List Pr) (p : Pr) : setAll l (ps ++ [p]) = (setAll l ps).set p.1 (some p.2) := by
  unfold setAll
  rw [List.foldl_append] <;> rfl
theorem ixN_nat {n j : Nat} (h : j < n) : ixN n ((j : Nat) : Int) = some j := by
  unfold ixN
  rw [if_pos (by omega), if_pos (by omega), Int.toNat_natCast]
def spSaid (K : PySem.W.Frag) : Sp := fun vs H Q _ => ∃ (a b : Addr) (l : List Time) (ps : List Pr), vs = [.ref a, .ref b] ∧ TupAt H a (l.map timeV) ∧ PrsAt H b ps ∧ (∀ p ∈ ps, p.1 < l.length) ∧
  ∀ p H', Same H H' → TupAt H' p ((setAll l ps).map timeV) → Q (.ref p) H'
theorem cal_said (W : Wd K mg) : C8.Cal P w K mg base 1 "said" (spSaid K) [] := by
  refine mk_said W (fun vs H Q E h => ?_) fun cdv A outer s H vs Q E hr h => ?_
  · obtain ⟨a, b, l, ps, rfl, _⟩ := h
    rfl
  obtain ⟨a, b, l, ps, rfl, hA, ⟨as, hB, h2⟩, hp, q⟩ := h
  refine ⟨_, (pss_cons (ps_set (i := 2) sc_said.nd rfl (.inl rfl) (pe_callTy (crLs (K := K)) rfl W.z_list (by decide +kernel) (pa_cons (pv 0) pa_nil)))
    (pss_cons (ps_for PassesOwn.never rfl (piT (K := K) rfl (pv 1)) (pgT (K := K) (n := 2) rfl rfl (pgs_cons (pg_name (i := 3) sc_said.nd rfl (Or.inl rfl)) (pgs_cons (pg_name (i := 4) sc_said.nd rfl (Or.inl rfl)) pgs_nil)))
    (pss_one (ps_asg (pv 4) (pg_sub (pv 2) (pv 3) set_list))))
    (pss_one (ps_ret (pe_callTy (crTp (K := K)) rfl W.z_tuple (by decide +kernel) (pa_cons (pv 2) pa_nil)))))), ?_⟩
  walk_at "rd"
  refine ⟨a, _, rfl, .inr hA.sq, fun F hF => ?_⟩
  walk_at "rd"
  have s1 := same_upd (o := .lst (l.map timeV)) hF
  refine ⟨b, rfl, ⟨_, (hB.same s1).sq⟩, ?_⟩
  refine for_w (walk_tup (xs := as.map V.ref)) (fun i σ H2 => (∃ y3 y4, σ = [some (.ref a), some (.ref b), some (.ref F), y3, y4]) ∧ Same H H2 ∧ H2 F = some (.lst ((setAll l (ps.take i)).map timeV))) ⟨⟨_, _, rfl⟩, s1, upd_same⟩ (fun i σ H2 _ p => (hB.same p.2.1).sq) ?_ ?_
  · rintro i v σ H2 H3 N hi ⟨⟨y3, y4, rfl⟩, s2, eF⟩ ⟨rfl, ev⟩ k
    obtain ⟨a', p, rfl, ex, hx⟩ := h2.at i v ev
    have hp1 := hp p (List.mem_of_getElem? ex)
    refine r_gtup (xs := [.int p.1, .int p.2]) (hx.same s2).sq rfl ?_
    walk_at "rd"
    refine ⟨F, _, _, p.1, rfl, rfl, eF, ixN_nat (by rw [List.length_map, setAll_len]; exact hp1), ?_⟩
    refine k _ _ ⟨⟨_, _, rfl⟩, same_set hF s2, ?_⟩
    rw [upd_same, List.take_succ, ex, show (some p).toList = [p] from rfl, setAll_snoc, List.map_set] <;> rfl
  · rintro σ H2 ⟨⟨y3, y4, rfl⟩, s2, eF⟩
    walk_at "rd"
    rw [List.take_of_length_le (by rw [List.length_map, h2.length]; omega)] at eF
    exact ⟨F, _, rfl, SqL.of eF, fun p o hp _ => q p _ (s2.trans (same_upd hp)) (TupAt.frz upd_same)⟩
def timesAll (n : Nat) (d : List (List Pr)) : List Time := d.foldl setAll (List.replicate n none)
theorem timesAll_len (n : Nat) (d : List (List Pr)) : (timesAll n d).length = n := by
  have : ∀ (d : List (List Pr)) (l : List Time), (d.foldl setAll l).length = l.length := by
    intro d
    induction d with
    | nil => intro l; rfl
    | cons ps d ih =>
      intro l
      rw [List.foldl_cons, ih, setAll_len]
  unfold timesAll
  rw [this, List.length_replicate]
def spCourse (K : PySem.W.Frag) : Sp := fun vs H Q _ => ∃ (t b : Addr) (ns : List Cs) (ts : List Tie) (d : List (List Pr)), vs = [.ref t, .ref b] ∧ TabAt K H t ns ts ∧ NamesOk ns ∧ DayAt H b d ∧ d.length ≤ 100 ∧ (∀ ps ∈ d, ∀ p ∈ ps, p.1 < ns.length) ∧
  ∀ p H' (as : List Addr) (a : Addr), Same H H' → TupAt H' p ((as ++ [a]).map V.ref) → TupAt H' a ((timesAll ns.length d).map timeV) → Q (.ref p) H'
theorem cal_course_of (W : Wd K mg) : C8.Cal P w K mg base 2 "course_of" (spCourse K) [] := by
  refine mk_course_of W (fun vs H Q E h => ?_) fun cdv A outer s H vs Q E hr h => ?_
  · obtain ⟨a, b, l, ps, d, rfl, _⟩ := h
    rfl
  obtain ⟨t, b, ns, ts, d, rfl, hT, hn, ⟨bs, hB, h2⟩, hd, hp, q⟩ := h
  refine ⟨_, (pss_cons (ps_set (i := 2) sc_course_of.nd rfl (.inl rfl) (pe_lst (pa_cons (C8.pe_c (cal_nothing_said W) hr (by decide) rfl (pa_cons (pv 0) pa_nil)) pa_nil)))
    (pss_cons (ps_for PassesOwn.never rfl (piT (K := K) rfl (pv 1)) (pg_name (i := 3) sc_course_of.nd rfl (Or.inl rfl))
    (pss_one (ps_expr (pe_bm PySem.F.plainAttrs_list PySem.F.slot_list_append PySem.F.type_list_append mt_append (pv 2) (pa_cons (C8.pe_c (cal_said W) hr (by decide) rfl (pa_cons (pe_ix (ixL (K := K)) (pv 2) (pe_un un_neg pe_int) (fun _ _ => rfl)) (pa_cons (pv 3) pa_nil))) pa_nil)))))
    (pss_one (ps_ret (pe_callTy (crTp (K := K)) rfl W.z_tuple (by decide +kernel) (pa_cons (pv 2) pa_nil)))))), ?_⟩
  walk_at "rd"
  refine ⟨t, ns, ts, rfl, hT, hn, fun a0 H1 s1 h0 => ?_⟩
  walk_at "rd"
  refine ⟨small (show 1 ≤ 100 by decide), fun F hF => ?_⟩
  walk_at "rd"
  have s2 := same_upd (o := .lst [.ref a0]) hF
  have hFH : H F = none := by
    cases e : H F with
    | none => rfl
    | some o => exact absurd (s1 _ _ e) (by rw [hF]; exact fun z => by cases z)
  refine ⟨b, rfl, ⟨_, ((hB.same s1).same s2).sq⟩, ?_⟩
  refine for_w (walk_tup (xs := bs.map V.ref)) (fun i σ H2 => (∃ y3, σ = [some (.ref t), some (.ref b), some (.ref F), y3]) ∧ Same H H2 ∧ ∃ as a, as.length = i ∧ H2 F = some (.lst ((as ++ [a]).map V.ref)) ∧ TupAt H2 a ((timesAll ns.length (d.take i)).map timeV)) ⟨⟨_, rfl⟩, s1.trans s2, [], a0, rfl, upd_same, ?_⟩ (fun i σ H2 _ p => (hB.same p.2.1).sq) ?_ ?_
  · rw [List.take_zero]
    show TupAt _ a0 ((List.replicate ns.length none).map timeV)
    rw [List.map_replicate]
    exact h0.same s2
  · rintro i v σ H2 H3 N hi ⟨⟨y3, rfl⟩, s3, as, a, hl, eF, ha⟩ ⟨rfl, ev⟩ k
    obtain ⟨b', ps, rfl, ex, hx⟩ := h2.at i v ev
    have hi' : i < 100 := by
      have := (List.getElem?_eq_some_iff.mp ex).1
      omega
    walk_at "rd"
    refine r_tyL eF ?_
    walk_at "rd"
    refine r_ixL (v := .ref a) (SqL.of eF) (by rw [List.map_append]; exact atI_last _ _) ?_
    walk_at "rd"
    refine ⟨a, b', _, ps, rfl, ha, PrsAt.tsame (Same.ts s3) hx, fun p hp' => by rw [timesAll_len]; exact hp ps (List.mem_of_getElem? ex) p hp', fun p H4 s4 hp4 => ?_⟩
    walk_at "rd"
    have eF4 := s4 _ _ eF
    refine r_app eF4 (by rw [List.length_map, List.length_append, List.length_singleton]; omega) (k _ _ ⟨⟨_, rfl⟩, same_set hFH (s3.trans s4), as ++ [a], p, by rw [List.length_append, hl] <;> rfl, by rw [upd_same, List.map_append (l₁ := as ++ [a])] <;> rfl, ?_⟩)
    refine Keep.tsame (S := [F]) (keep_upd (by simp)) (fun a ha => ?_) _ _ ?_
    · rw [List.mem_singleton.mp ha]
      exact lst_not_tup eF4
    · rw [List.take_succ, ex, show (some ps).toList = [ps] from rfl]
      unfold timesAll at hp4 ⊢
      rw [List.foldl_append]
      exact hp4
  · rintro σ H2 ⟨⟨y3, rfl⟩, s3, as, a, hl, eF, ha⟩
    walk_at "rd"
    rw [List.take_of_length_le (by rw [List.length_map, h2.length]; omega)] at ha
    exact ⟨F, _, rfl, SqL.of eF, fun p o hp _ => q p _ as a (s3.trans (same_upd hp)) (TupAt.frz upd_same) (ha.same (same_upd hp))⟩
def spTimesOf (K : PySem.W.Frag) : Sp := fun vs H Q _ => ∃ (t b : Addr) (ns : List Cs) (ts : List Tie) (d : List (List Pr)), vs = [.ref t, .ref b] ∧ TabAt K H t ns ts ∧ NamesOk ns ∧ DayAt H b d ∧ d.length ≤ 100 ∧ (∀ ps ∈ d, ∀ p ∈ ps, p.1 < ns.length) ∧
  ∀ p H', Same H H' → TupAt H' p ((timesAll ns.length d).map timeV) → Q (.ref p) H'
theorem cal_times_of (W : Wd K mg) : C8.Cal P w K mg base 3 "times_of" (spTimesOf K) [] := by
  refine mk_times_of W (fun vs H Q E h => ?_) fun cdv A outer s H vs Q E hr h => ?_
  · obtain ⟨a, b, l, ps, d, rfl, _⟩ := h
    rfl
  obtain ⟨t, b, ns, ts, d, rfl, hT, hn, hB, hd, hp, q⟩ := h
  refine ⟨_, (pss_one (ps_ret (pe_ix (ixT (K := K)) (C8.pe_c (cal_course_of W) hr (by decide) rfl (pa_cons (pv 0) (pa_cons (pv 1) pa_nil))) (pe_un un_neg pe_int) (fun _ _ => rfl)))), ?_⟩
  walk_at "rd"
  refine ⟨t, b, ns, ts, d, rfl, hT, hn, hB, hd, hp, fun p H1 as a s1 h1 h2 => ?_⟩
  walk_at "rd"
  refine r_ixT (v := .ref a) h1.sq (by rw [List.map_append]; exact atI_last _ _) ?_
  exact q a H1 s1 h2
end
end K07

set_option maxRecDepth 100000
set_option maxHeartbeats 4000000
namespace K07
open PySem PySem.Spec PyProof.Rows L2
local macro_rules | `(tactic| walk_at "rd") => `(tactic| repeat (first
  | with_reducible refine r_seq ?_ | with_reducible refine r_asg ?_ | with_reducible refine r_name ?_ | with_reducible refine r_ret ?_ | with_reducible refine r_drop ?_ | with_reducible refine r_if ?_ | with_reducible refine r_nx ?_
  | with_reducible refine r_c ?_ | with_reducible refine r_op ?_ | with_reducible refine r_un ?_ | with_reducible refine r_cons ?_ | with_reducible refine r_nil ?_ | with_reducible refine r_test ?_ | with_reducible refine r_B ?_
  | with_reducible refine r_and ?_ | with_reducible refine r_or ?_ | with_reducible refine r_not ?_ | with_reducible refine r_andV ?_ | with_reducible refine r_orV ?_ | with_reducible refine r_notV ?_ | with_reducible refine r_tif ?_
  | with_reducible refine r_chain ?_ | with_reducible refine r_tyes ?_ | with_reducible refine r_lc ?_ | with_reducible refine r_rng1 ?_ | with_reducible refine r_itup ?_ | with_reducible refine r_ilist ?_ | with_reducible refine r_ienum ?_ | with_reducible refine r_istr ?_
  | with_reducible refine r_tup ?_ | with_reducible refine r_lst ?_ | with_reducible refine r_tfld ?_ | with_reducible refine r_gcons ?_ | with_reducible refine r_gnil ?_ | with_reducible refine r_gfld ?_ | with_reducible refine r_for ?_ | with_reducible refine r_sfld ?_ | with_reducible refine r_call ?_ | with_reducible refine r_cb ?_ | with_reducible refine r_sl ?_ | with_reducible refine r_np ?_ | with_reducible refine r_pt ?_ | with_reducible refine r_m1 ?_ | with_reducible refine r_par ?_ | with_reducible refine r_p2 ?_ | with_reducible refine r_u ?_ | with_reducible refine r_meth ?_ | with_reducible refine r_make ?_ | with_reducible refine r_gsub ?_ | with_reducible refine r_bm ?_ | with_reducible refine r_bm0 ?_ | with_reducible refine r_j0 ?_ | with_reducible refine r_jF ?_ | with_reducible refine r_jN ?_ | with_reducible refine r_bl ?_ | with_reducible refine r_i0 ?_ | with_reducible refine tt_ite ?_ | with_reducible refine ff_ite ?_ | with_reducible refine nt_ite ?_ | with_reducible refine nf_ite ?_
  | with_reducible refine r_var (by with_unfolding_all exact rfl) ?_))
/-! ### a reader: its state, what a mark does -/
structure Rdr (P : Program) (w : World) (K : PySem.W.Frag) (mg : Str → Option Value) (base : Heap) (C : Addr) where
  S : Type
  At : Hp → Hp → Addr → S → Prop
  step : S → Cs → S → Prop
  fin : S → Prop
  Out : Hp → S → V → Hp → Prop
  inst : ∀ {H0 H : Hp} {x : Addr} {s : S}, At H0 H x s → ∃ dx fs, H x = some (.ins C dx fs) ∧ fs.lookup ("take" : Str) = none ∧ fs.lookup ("ends" : Str) = none ∧ fs.lookup ("told" : Str) = none
  same : ∀ {H0 H H' : Hp} {x : Addr} {s : S}, At H0 H x s → Same H H' → At H0 H' x s
  old : ∀ {H0 H : Hp} {x : Addr} {s : S}, At H0 H x s → Same H0 H
  take : C8.Met P w K mg base 5 C "take" (fun vs H Q _ => ∃ H0 x s m s', vs = [.ref x, .str (SX.S m)] ∧ At H0 H x s ∧ step s m s' ∧ ∀ H', At H0 H' x s' → TSame H H' → Q (.bl true) H') []
  ends : C8.Met P w K mg base 5 C "ends" (fun vs H Q _ => ∃ H0 x s, vs = [.ref x] ∧ At H0 H x s ∧ fin s ∧ ∀ H', Same H H' → Q (.bl true) H') []
  told : C8.Met P w K mg base 5 C "told" (fun vs H Q _ => ∃ H0 x s, vs = [.ref x] ∧ At H0 H x s ∧ fin s ∧ ∀ v H', Same H0 H' → Out H0 s v H' → Q v H') []
inductive Runs {S : Type} (step : S → Cs → S → Prop) : S → List Cs → S → Prop
  | nil {s : S} : Runs step s [] s
  | cons {s s1 s2 : S} {m : Cs} {ms : List Cs} : step s m s1 → Runs step s1 ms s2 → Runs step s (m :: ms) s2
theorem Runs.append {S : Type} {step : S → Cs → S → Prop} {s s1 s2 : S} {ms ns : List Cs} (h : Runs step s ms s1) (k : Runs step s1 ns s2) : Runs step s (ms ++ ns) s2 := by
  induction h with
  | nil => exact k
  | cons h _ ih => exact .cons h (ih k)
theorem Runs.one {S : Type} {step : S → Cs → S → Prop} {s s1 : S} {m : Cs} (h : step s m s1) : Runs step s [m] s1 := .cons h .nil
section
variable {P : Program} {w : World} {K : PySem.W.Frag} {mg : Str → Option Value} {base : Heap} {C : Addr}
def spTakenIn (R : Rdr P w K mg base C) : Sp := fun vs H Q _ => ∃ (H0 : Hp) (x : Addr) (s s' : R.S) (z : Cs) (ms : List Cs), vs = [.ref x, .str (SX.S z)] ∧ R.At H0 H x s ∧ Lex z ms ∧ Runs R.step s ms s' ∧ z.length ≤ 100000 ∧ ∀ H', R.At H0 H' x s' → Q (.ref x) H'
theorem cal_taken_in (W : Wd K mg) (R : Rdr P w K mg base C) : C8.Cal P w K mg base 6 "taken_in" (spTakenIn R) [] := by
  refine mk_taken_in W (fun vs H Q E h => ?_) fun cdv A outer s H vs Q E hr h => ?_
  · obtain ⟨H0, x, s, s', z, ms, rfl, _⟩ := h
    rfl
  obtain ⟨H0, x, s0, s', z, ms, rfl, ha, hx, hrun, hl, q⟩ := h
  refine ⟨_, (pss_cons (ps_if (pt_not (pt_val (pe_callB (crIsi (K := K)) rfl W.z_isinstance (by decide +kernel) (pa_cons (pv 1) (pa_cons (pe_ty (T := "str") rfl W.z_str (by decide +kernel)) pa_nil)))))
    pss_never
    pss_nil)
    (pss_cons (ps_for PassesOwn.never rfl (piT (K := K) rfl (C8.pe_c (cal_marks_in W) hr (by decide) rfl (pa_cons (pv 1) pa_nil))) (pgT (K := K) (n := 3) rfl rfl (pgs_cons (pg_name (i := 2) sc_taken_in.nd rfl (Or.inl rfl)) (pgs_cons (pg_name (i := 3) sc_taken_in.nd rfl (Or.inl rfl)) (pgs_cons (pg_name (i := 4) sc_taken_in.nd rfl (Or.inl rfl)) pgs_nil))))
    (pss_one (ps_if (pt_not (pt_val (C8.pe_mt R.take hr (by decide) (pv 0) (pa_cons (pv 4) pa_nil))))
    pss_never
    pss_nil)))
    (pss_one (ps_ret (pv 0))))), ?_⟩
  walk_at "rd"
  refine r_isi (T := "str") (b := true) (.base (.str _)) (by decide +kernel) ?_
  walk_at "rd"
  refine ⟨z, ms, rfl, hx, hl, fun p H1 as s1 hp ha2 _ => ?_⟩
  walk_at "rd"
  refine ⟨p, rfl, ⟨_, hp.sq⟩, ?_⟩
  refine for_w (walk_tup (xs := as.map V.ref)) (fun i σ H2 => (∃ y2 y3 y4, σ = [some (.ref x), some (.str (SX.S z)), y2, y3, y4]) ∧ TSame H1 H2 ∧ ∃ s1, R.At H0 H2 x s1 ∧ Runs R.step s1 (ms.drop i) s') ⟨⟨_, _, _, rfl⟩, fun _ _ h => h, s0, R.same ha s1, hrun⟩ (fun i σ H2 _ h => (h.2.1 _ _ hp).sq) ?_ ?_
  · rintro i v σ H2 H3 N hi ⟨⟨y2, y3, y4, rfl⟩, ht, s2, h2, h3⟩ ⟨rfl, ev⟩ k
    obtain ⟨a', m, rfl, ex, l, c, hm⟩ := ha2.at i v ev
    refine r_gtup (ht _ _ hm).sq rfl ?_
    walk_at "rd"
    have hi' : i < ms.length := (List.getElem?_eq_some_iff.mp ex).1
    have em : ms[i] = m := Option.some.inj ((List.getElem?_eq_getElem hi').symm.trans ex)
    rw [List.drop_eq_getElem_cons hi', em] at h3
    cases h3 with
    | cons hst hru =>
      rename_i s3
      obtain ⟨dx, fs, ei, l1, l2, l3⟩ := R.inst h2
      refine r_ms ei l1 ?_
      walk_at "rd"
      refine ⟨H0, x, s2, m, s3, rfl, h2, hst, fun H4 h4 t4 => ?_⟩
      walk_at "rd"
      exact k _ _ ⟨⟨_, _, _, rfl⟩, ht.trans t4, s3, h4, hru⟩
  · rintro σ H2 ⟨⟨y2, y3, y4, rfl⟩, ht, s2, h2, h3⟩
    walk_at "rd"
    rw [List.drop_of_length_le (by rw [List.length_map, ha2.length]; omega)] at h3
    cases h3
    exact q H2 h2
def spRead (R : Rdr P w K mg base C) : Sp := fun vs H Q _ => ∃ (H0 : Hp) (x : Addr) (s s' : R.S) (z : Cs) (ms : List Cs), vs = [.ref x, .str (SX.S z)] ∧ R.At H0 H x s ∧ Lex z ms ∧ Runs R.step s ms s' ∧ R.fin s' ∧ z.length ≤ 100000 ∧ ∀ v H', Same H0 H' → R.Out H0 s' v H' → Q v H'
theorem cal_read_whole (W : Wd K mg) (R : Rdr P w K mg base C) : C8.Cal P w K mg base 7 "read_whole" (spRead R) [] := by
  refine mk_read_whole W (fun vs H Q E h => ?_) fun cdv A outer s H vs Q E hr h => ?_
  · obtain ⟨H0, x, s, s', z, ms, rfl, _⟩ := h
    rfl
  obtain ⟨H0, x, s0, s', z, ms, rfl, ha, hx, hrun, hf, hl, q⟩ := h
  refine ⟨_, (pss_cons (ps_expr (C8.pe_c (cal_taken_in W R) hr (by decide) rfl (pa_cons (pv 0) (pa_cons (pv 1) pa_nil))))
    (pss_cons (ps_if (pt_not (pt_val (C8.pe_mt0 R.ends hr (by decide) (pv 0))))
    pss_never
    pss_nil)
    (pss_one (ps_ret (C8.pe_mt0 R.told hr (by decide) (pv 0)))))), ?_⟩
  walk_at "rd"
  refine ⟨H0, x, s0, s', z, ms, rfl, ha, hx, hrun, hl, fun H1 h1 => ?_⟩
  walk_at "rd"
  obtain ⟨dx, fs, ei, l1, l2, l3⟩ := R.inst h1
  refine r_ms ei l2 ?_
  walk_at "rd"
  refine ⟨H0, x, s', rfl, h1, hf, fun H2 s2 => ?_⟩
  walk_at "rd"
  refine r_ms (s2 _ _ ei) l3 ?_
  walk_at "rd"
  exact ⟨H0, x, s', rfl, R.same h1 s2, hf, q⟩
end
end K07

set_option maxRecDepth 100000
set_option maxHeartbeats 4000000
namespace K07
open PySem PySem.Spec PyProof.Rows L2
local macro_rules | `(tactic| walk_at "rd") => `(tactic| repeat (first
  | with_reducible refine r_seq ?_ | with_reducible refine r_asg ?_ | with_reducible refine r_name ?_ | with_reducible refine r_ret ?_ | with_reducible refine r_drop ?_ | with_reducible refine r_if ?_ | with_reducible refine r_nx ?_
  | with_reducible refine r_c ?_ | with_reducible refine r_op ?_ | with_reducible refine r_un ?_ | with_reducible refine r_cons ?_ | with_reducible refine r_nil ?_ | with_reducible refine r_test ?_ | with_reducible refine r_B ?_
  | with_reducible refine r_and ?_ | with_reducible refine r_or ?_ | with_reducible refine r_not ?_ | with_reducible refine r_andV ?_ | with_reducible refine r_orV ?_ | with_reducible refine r_notV ?_ | with_reducible refine r_tif ?_
  | with_reducible refine r_chain ?_ | with_reducible refine r_tyes ?_ | with_reducible refine r_lc ?_ | with_reducible refine r_rng1 ?_ | with_reducible refine r_itup ?_ | with_reducible refine r_ilist ?_ | with_reducible refine r_ienum ?_ | with_reducible refine r_istr ?_
  | with_reducible refine r_tup ?_ | with_reducible refine r_lst ?_ | with_reducible refine r_tfld ?_ | with_reducible refine r_gcons ?_ | with_reducible refine r_gnil ?_ | with_reducible refine r_gfld ?_ | with_reducible refine r_for ?_ | with_reducible refine r_sfld ?_ | with_reducible refine r_call ?_ | with_reducible refine r_cb ?_ | with_reducible refine r_sl ?_ | with_reducible refine r_np ?_ | with_reducible refine r_pt ?_ | with_reducible refine r_m1 ?_ | with_reducible refine r_par ?_ | with_reducible refine r_p2 ?_ | with_reducible refine r_u ?_ | with_reducible refine r_meth ?_ | with_reducible refine r_make ?_ | with_reducible refine r_gsub ?_ | with_reducible refine r_bm ?_ | with_reducible refine r_bm0 ?_ | with_reducible refine r_j0 ?_ | with_reducible refine r_jF ?_ | with_reducible refine r_jN ?_ | with_reducible refine r_bl ?_ | with_reducible refine r_i0 ?_ | with_reducible refine tt_ite ?_ | with_reducible refine ff_ite ?_ | with_reducible refine nt_ite ?_ | with_reducible refine nf_ite ?_
  | with_reducible refine r_var (by with_unfolding_all exact rfl) ?_))
section
variable {P : Program} {w : World} {K : PySem.W.Frag} {mg : Str → Option Value} {base : Heap}
theorem int_ne {a b : Int} (h : a ≠ b) : decide (V.int a = V.int b) = false := decide_eq_false fun z => h (by injection z)
theorem int_eqd {a b : Int} : decide (V.int a = V.int b) = decide (a = b) := decide_eq_decide.mpr ⟨fun e => by injection e, fun e => by rw [e]⟩
theorem ins_ne {H : Hp} {x f C dx : Addr} {fs : List (Str × V)} {xs : List V} (a : H x = some (.ins C dx fs)) (b : H f = some (.lst xs)) : x ≠ f := fun e => by
  subst e
  rw [a] at b
  cases b
theorem upd_lst_ts {H : Hp} {f : Addr} {xs : List V} {o : HO} (e : H f = some (.lst xs)) : TSame H (upd H f o) := Keep.tsame (S := [f]) (keep_upd (by simp)) fun a ha => by
  rw [List.mem_singleton.mp ha]
  exact lst_not_tup e
theorem upd_ins_ts {H : Hp} {x C dx : Addr} {fs : List (Str × V)} {o : HO} (e : H x = some (.ins C dx fs)) : TSame H (upd H x o) := Keep.tsame (S := [x]) (keep_upd (by simp)) fun a ha => by
  rw [List.mem_singleton.mp ha]
  exact ins_not_tup e
theorem TSame.refl (H : Hp) : TSame H H := fun _ _ h => h
/-! ### batches -/
def BatAt (K : PySem.W.Frag) (H0 H : Hp) (x : Addr) (s : List Nat) : Prop := Same H0 H ∧ H0 x = none ∧ ∃ dx f, H x = some (.ins (He.ga K "BatchesText") dx [("sizes", .ref f)]) ∧ H0 f = none ∧ H f = some (.lst (s.map fun v => .int ((v : Nat) : Int)))
def BatStep (s : List Nat) (m : Cs) (s' : List Nat) : Prop := ∃ v, m = numL v ∧ 1 ≤ v ∧ v ≤ 100 ∧ s.length < 60 ∧ s' = s ++ [v]
/-- a new object of a class, nothing else new -/
def spNew0 (C : Addr) (Atx : Hp → Hp → Addr → Prop) : Sp := fun vs H Q _ => ∃ (H0 : Hp) (x dx : Addr), vs = [.ref x] ∧ Same H0 H ∧ H0 x = none ∧ H x = some (.ins C dx []) ∧ ∀ H', Atx H0 H' x → Q .non H'
theorem mak_BatchesText (W : Wd K mg) : C8.Mak P w K mg base 5 "BatchesText" (He.ga K "BatchesText") (spNew0 (He.ga K "BatchesText") fun H0 H x => BatAt K H0 H x []) [] := by
  refine mk_BatchesText_init W (fun vs H Q E h => ?_) fun cdv A outer s H vs Q E hr h => ?_
  · obtain ⟨H0, x, dx, rfl, _⟩ := h
    rfl
  obtain ⟨H0, x, dx, rfl, s0, hx, ex, q⟩ := h
  refine ⟨_, (pss_one (psFld (K := K) rfl (pv 0) (pe_lst pa_nil))), ?_⟩
  walk_at "rd"
  refine ⟨small (by decide), fun f hf => ?_⟩
  have s1 := same_upd (o := .lst []) hf
  walk_at "rd"
  refine ⟨x, _, dx, [], rfl, s1 _ _ ex, W.c_BatchesText, W.n_BatchesText_sizes, by decide, ?_⟩
  have nx : f ≠ x := fun e => by
    rw [e, ex] at hf
    cases hf
  refine q _ ⟨same_set hx (s0.trans s1), hx, dx, f, upd_same, ?_, ?_⟩
  · cases e : H0 f with
    | none => rfl
    | some o => exact absurd (s0 _ _ e) (by rw [hf]; exact fun z => by cases z)
  · rw [upd_ne nx, upd_same] <;> rfl
theorem met_Bat_take (W : Wd K mg) : C8.Met P w K mg base 5 (He.ga K "BatchesText") "take" (fun vs H Q _ => ∃ H0 x s m s', vs = [.ref x, .str (SX.S m)] ∧ BatAt K H0 H x s ∧ BatStep s m s' ∧ ∀ H', BatAt K H0 H' x s' → TSame H H' → Q (.bl true) H') [] := by
  refine mk_BatchesText_take W (fun vs H Q E h => ?_) fun cdv A outer s H vs Q E hr h => ?_
  · obtain ⟨H0, x, s, m, s', rfl, _⟩ := h
    rfl
  obtain ⟨H0, x, s, m, s', rfl, ⟨s0, hx, dx, f, ex, hf, ef⟩, ⟨v, rfl, v1, v2, hl, rfl⟩, q⟩ := h
  refine ⟨_, (pss_cons (ps_set (i := 2) sc_BatchesText_take.nd rfl (.inl rfl) (C8.pe_c (cal_numeral_of W) hr (by decide) rfl (pa_cons (pv 1) (pa_cons (C8.pe_gc rfl W.i_MOST_IN_BATCH) pa_nil))))
    (pss_cons (ps_if (PW.pt (pw_or (pt_cmpR op_isN (pv 2) pe_non (nomark _)) (pw_or (pt_cmpR op_eq (pv 2) pe_int (nomark _)) (pw_or1 (pt_cmpR op_eq (pe_callB (crLn (K := K)) rfl W.z_len (by decide +kernel) (pa_cons (peFld (K := K) rfl (pv 0)) pa_nil)) (C8.pe_gc rfl W.i_MOST_BATCHES) (nomark _))))))
    (pss_one (ps_ret pe_bl))
    pss_nil)
    (pss_cons (ps_expr (pe_bm PySem.F.plainAttrs_list PySem.F.slot_list_append PySem.F.type_list_append mt_append (peFld (K := K) rfl (pv 0)) (pa_cons (pv 2) pa_nil)))
    (pss_one (ps_ret pe_bl))))), ?_⟩
  walk_at "rd"
  refine ⟨v, 100, rfl, v2, by decide, ?_⟩
  walk_at "rd"
  refine ⟨rfl, ?_⟩
  rw [show decide (V.int ((v : Nat) : Int) = V.non) = false from decide_eq_false fun z => by cases z]
  walk_at "rd"
  refine r_eq rfl ?_
  rw [int_ne (by omega)]
  walk_at "rd"
  refine r_fl ex W.c_BatchesText W.n_BatchesText_sizes rfl ?_
  walk_at "rd"
  refine r_lnL (SqL.of ef) ?_
  walk_at "rd"
  refine r_eq rfl ?_
  rw [List.length_map, int_ne (by omega)]
  walk_at "rd"
  refine r_fl ex W.c_BatchesText W.n_BatchesText_sizes rfl ?_
  refine r_tyL ef ?_
  walk_at "rd"
  refine r_app ef (by rw [List.length_map]; omega) ?_
  refine q _ ⟨same_set hf s0, hx, dx, f, (upd_ne (ins_ne ex ef)).trans ex, hf, ?_⟩ (upd_lst_ts ef)
  rw [upd_same, List.map_append] <;> rfl
theorem met_Bat_ends (W : Wd K mg) : C8.Met P w K mg base 5 (He.ga K "BatchesText") "ends" (fun vs H Q _ => ∃ H0 x s, vs = [.ref x] ∧ BatAt K H0 H x s ∧ True ∧ ∀ H', Same H H' → Q (.bl true) H') [] := by
  refine mk_BatchesText_ends W (fun vs H Q E h => ?_) fun cdv A outer s H vs Q E hr h => ?_
  · obtain ⟨H0, x, s, rfl, _⟩ := h
    rfl
  obtain ⟨H0, x, s, rfl, ha, _, q⟩ := h
  refine ⟨_, (pss_one (ps_ret pe_bl)), ?_⟩
  walk_at "rd"
  exact q H (Same.refl H)
theorem met_Bat_told (W : Wd K mg) : C8.Met P w K mg base 5 (He.ga K "BatchesText") "told" (fun vs H Q _ => ∃ H0 x s, vs = [.ref x] ∧ BatAt K H0 H x s ∧ True ∧ ∀ v H', Same H0 H' → (fun (_ : Hp) (s : List Nat) v H' => ∃ p, v = V.ref p ∧ TupAt H' p (s.map fun v => .int ((v : Nat) : Int))) H0 s v H' → Q v H') [] := by
  refine mk_BatchesText_told W (fun vs H Q E h => ?_) fun cdv A outer s H vs Q E hr h => ?_
  · obtain ⟨H0, x, s, rfl, _⟩ := h
    rfl
  obtain ⟨H0, x, s, rfl, ⟨s0, hx, dx, f, ex, hf, ef⟩, _, q⟩ := h
  refine ⟨_, (pss_one (ps_ret (pe_callTy (crTp (K := K)) rfl W.z_tuple (by decide +kernel) (pa_cons (peFld (K := K) rfl (pv 0)) pa_nil)))), ?_⟩
  walk_at "rd"
  refine r_fl ex W.c_BatchesText W.n_BatchesText_sizes rfl ?_
  walk_at "rd"
  exact ⟨f, _, rfl, SqL.of ef, fun l o hl _ => q _ _ (s0.trans (same_upd hl)) ⟨l, rfl, TupAt.frz upd_same⟩⟩
def batR (W : Wd K mg) : Rdr P w K mg base (He.ga K "BatchesText") where
  S := List Nat
  At := BatAt K
  step := BatStep
  fin := fun _ => True
  Out := fun _ s v H' => ∃ p, v = V.ref p ∧ TupAt H' p (s.map fun v => .int ((v : Nat) : Int))
  inst := fun ⟨_, _, dx, f, ex, _⟩ => ⟨dx, _, ex, rfl, rfl, rfl⟩
  same := fun ⟨s0, hx, dx, f, ex, hf, ef⟩ s1 => ⟨s0.trans s1, hx, dx, f, s1 _ _ ex, hf, s1 _ _ ef⟩
  old := fun h => h.1
  take := met_Bat_take W
  ends := met_Bat_ends W
  told := met_Bat_told W
end
end K07

set_option maxRecDepth 100000
set_option maxHeartbeats 4000000
namespace K07
open PySem PySem.Spec PyProof.Rows L2
local macro_rules | `(tactic| walk_at "rd") => `(tactic| repeat (first
  | with_reducible refine r_seq ?_ | with_reducible refine r_asg ?_ | with_reducible refine r_name ?_ | with_reducible refine r_ret ?_ | with_reducible refine r_drop ?_ | with_reducible refine r_if ?_ | with_reducible refine r_nx ?_
  | with_reducible refine r_c ?_ | with_reducible refine r_op ?_ | with_reducible refine r_un ?_ | with_reducible refine r_cons ?_ | with_reducible refine r_nil ?_ | with_reducible refine r_test ?_ | with_reducible refine r_B ?_
  | with_reducible refine r_and ?_ | with_reducible refine r_or ?_ | with_reducible refine r_not ?_ | with_reducible refine r_andV ?_ | with_reducible refine r_orV ?_ | with_reducible refine r_notV ?_ | with_reducible refine r_tif ?_
  | with_reducible refine r_chain ?_ | with_reducible refine r_tyes ?_ | with_reducible refine r_lc ?_ | with_reducible refine r_rng1 ?_ | with_reducible refine r_itup ?_ | with_reducible refine r_ilist ?_ | with_reducible refine r_ienum ?_ | with_reducible refine r_istr ?_
  | with_reducible refine r_tup ?_ | with_reducible refine r_lst ?_ | with_reducible refine r_tfld ?_ | with_reducible refine r_gcons ?_ | with_reducible refine r_gnil ?_ | with_reducible refine r_gfld ?_ | with_reducible refine r_for ?_ | with_reducible refine r_sfld ?_ | with_reducible refine r_call ?_ | with_reducible refine r_cb ?_ | with_reducible refine r_sl ?_ | with_reducible refine r_np ?_ | with_reducible refine r_pt ?_ | with_reducible refine r_m1 ?_ | with_reducible refine r_par ?_ | with_reducible refine r_p2 ?_ | with_reducible refine r_u ?_ | with_reducible refine r_meth ?_ | with_reducible refine r_make ?_ | with_reducible refine r_gsub ?_ | with_reducible refine r_bm ?_ | with_reducible refine r_bm0 ?_ | with_reducible refine r_j0 ?_ | with_reducible refine r_jF ?_ | with_reducible refine r_jN ?_ | with_reducible refine r_bl ?_ | with_reducible refine r_i0 ?_ | with_reducible refine tt_ite ?_ | with_reducible refine ff_ite ?_ | with_reducible refine nt_ite ?_ | with_reducible refine nf_ite ?_
  | with_reducible refine r_var (by with_unfolding_all exact rfl) ?_))
theorem inV_str (z : Cs) (l : List Cs) : inV (.str (SX.S z)) (strL l) = decide (z ∈ l) := by
  unfold inV strL
  rw [List.any_map, Bool.eq_iff_iff, List.any_eq_true, decide_eq_true_iff]
  constructor
  · rintro ⟨y, hy, e⟩
    have e : (SX.S y == SX.S z) = true := e
    rw [SX.S_inj (eq_of_beq e)] at hy
    exact hy
  · intro h
    exact ⟨z, h, beq_self_eq_true (SX.S z)⟩
theorem flat_strL (l : List Cs) : (strL l).all flatV = true := by
  rw [List.all_eq_true]
  intro x hx
  obtain ⟨y, _, rfl⟩ := List.mem_map.mp hx
  rfl
theorem nm_lt {ns : List Cs} (h : NamesOk ns) {i j : Nat} (hij : i < j) (hj : j < ns.length) : nmAt ns i < nmAt ns j := by
  rw [nmAt_get (Nat.lt_trans hij hj), nmAt_get hj]
  exact List.pairwise_iff_getElem.mp h.2.2.2 i j (Nat.lt_trans hij hj) hj hij
theorem nm_inj {ns : List Cs} (h : NamesOk ns) {i j : Nat} (hi : i < ns.length) (hj : j < ns.length) (e : nmAt ns i = nmAt ns j) : i = j := by
  rcases Nat.lt_trichotomy i j with h1 | h1 | h1
  · have := nm_lt h h1 hj
    rw [e] at this
    exact absurd this (List.lt_irrefl _)
  · exact h1
  · have := nm_lt h h1 hi
    rw [e] at this
    exact absurd this (List.lt_irrefl _)
theorem nm_mem {ns : List Cs} {i : Nat} (hi : i < ns.length) : nmAt ns i ∈ ns := by
  rw [nmAt_get hi]
  exact List.getElem_mem hi
theorem nm_mem_map {ns : List Cs} (h : NamesOk ns) {i : Nat} {js : List Nat} (hi : i < ns.length) (hj : ∀ j ∈ js, j < ns.length) (hn : i ∉ js) : nmAt ns i ∉ js.map (nmAt ns) := fun hm => by
  obtain ⟨j, hj', e⟩ := List.mem_map.mp hm
  rw [nm_inj h hi (hj j hj') e.symm] at hn
  exact hn hj'
/-- a table whose things are a plain new tuple -/
structure TabF (K : PySem.W.Frag) (H : Hp) (t : Addr) (ns : List Cs) (ts : List Tie) : Prop where
  ex : ∃ dx a b o, H t = some (.ins (He.ga K "Table") dx (tabF a b)) ∧ H a = some (.frz o (.tup (strL ns))) ∧ o.dict = none ∧ TiesAt H b ts
theorem TabF.same {K : PySem.W.Frag} {H H' : Hp} {t : Addr} {ns : List Cs} {ts : List Tie} (s : Same H H') (h : TabF K H t ns ts) : TabF K H' t ns ts := by
  obtain ⟨dx, a, b, o, h1, h2, h3, h4⟩ := h.ex
  exact ⟨dx, a, b, o, s _ _ h1, s _ _ h2, h3, h4.tsame (Same.ts s)⟩
theorem TabF.at {K : PySem.W.Frag} {H : Hp} {t : Addr} {ns : List Cs} {ts : List Tie} (h : TabF K H t ns ts) : TabAt K H t ns ts := by
  obtain ⟨dx, a, b, o, h1, h2, h3, h4⟩ := h.ex
  exact ⟨dx, a, b, h1, TupAt.frz h2, h4⟩
section
variable {P : Program} {w : World} {K : PySem.W.Frag} {mg : Str → Option Value} {base : Heap}
theorem r_tx {a : Addr} {o : Obj} {H : Hp} {ns : List Cs} {X : Prop} (e : H a = some (.frz o (.tup (strL ns)))) (d : o.dict = none) (q : X) : (∃ a' o xs, V.ref a = .ref a' ∧ H a' = some (.frz o (.tup xs)) ∧ o.dict = Option.none) ∧ X := ⟨⟨a, o, _, rfl, e, d⟩, q⟩
theorem r_tm {σ : L2.St} {H : Hp} {Q : VK} {to : TE} {t : TA} {r : V → List V → Hp → VK → Prop} (h : to σ H fun x H1 => (∃ a o xs, x = .ref a ∧ H1 a = some (.frz o (.tup xs)) ∧ o.dict = Option.none) ∧ t σ H1 fun xs H2 => r x xs H2 Q) : tTM r to t σ H Q := h
theorem r_txi {a : Addr} {o : Obj} {H : Hp} {ns : List Cs} {i : Nat} {Q : VK} (hn : NamesOk ns) (e : H a = some (.frz o (.tup (strL ns)))) (hi : i < ns.length) (q : Q (.int (i : Nat)) H) : rTx K (.ref a) [.str (SX.S (nmAt ns i))] H Q :=
  ⟨a, ns, nmAt ns i, i, rfl, rfl, (TupAt.frz e).sq, by rw [nmAt_get hi, List.getElem?_eq_getElem hi], fun m hm e1 => by
    have hml : m < ns.length := Nat.lt_trans hm hi
    rw [List.getElem?_eq_getElem hml] at e1
    have := nm_inj hn hml hi (by rw [nmAt_get hml]; exact Option.some.inj e1)
    omega, q⟩
/-! ### lots -/
def LotAt (K : PySem.W.Frag) (t : Addr) (ns : List Cs) (ts : List Tie) (H0 H : Hp) (x : Addr) (s : List Nat) : Prop := Same H0 H ∧ H0 x = none ∧ TabF K H0 t ns ts ∧ NamesOk ns ∧ (∀ j ∈ s, j < ns.length) ∧
  ∃ dx f, H x = some (.ins (He.ga K "LotText") dx [("table", .ref t), ("names", .ref f)]) ∧ H0 f = none ∧ H f = some (.lst (strL (s.map (nmAt ns))))
def LotStep (ns : List Cs) (s : List Nat) (m : Cs) (s' : List Nat) : Prop := ∃ i, m = nmAt ns i ∧ i < ns.length ∧ i ∉ s ∧ s.length < 60 ∧ s' = s ++ [i]
theorem mak_LotText (W : Wd K mg) : C8.Mak P w K mg base 5 "LotText" (He.ga K "LotText") (fun vs H Q _ => ∃ (H0 : Hp) (x dx t : Addr) (ns : List Cs) (ts : List Tie), vs = [.ref x, .ref t] ∧ Same H0 H ∧ H0 x = none ∧ H x = some (.ins (He.ga K "LotText") dx []) ∧ TabF K H0 t ns ts ∧ NamesOk ns ∧
    ∀ H', LotAt K t ns ts H0 H' x [] → Q .non H') [] := by
  refine mk_LotText_init W (fun vs H Q E h => ?_) fun cdv A outer s H vs Q E hr h => ?_
  · obtain ⟨H0, x, dx, t, ns, ts, rfl, _⟩ := h
    rfl
  obtain ⟨H0, x, dx, t, ns, ts, rfl, s0, hx, ex, hT, hn, q⟩ := h
  refine ⟨_, (pss_cons (psFld (K := K) rfl (pv 0) (pv 1))
    (pss_one (psFld (K := K) rfl (pv 0) (pe_lst pa_nil)))), ?_⟩
  walk_at "rd"
  refine ⟨x, _, dx, [], rfl, ex, W.c_LotText, W.n_LotText_table, by decide, ?_⟩
  walk_at "rd"
  refine ⟨small (by decide), fun f hf => ?_⟩
  walk_at "rd"
  have nx : f ≠ x := fun e => by
    rw [e, upd_same] at hf
    cases hf
  have hf' : H f = none := by rw [upd_ne nx] at hf; exact hf
  refine ⟨x, _, dx, _, rfl, (upd_ne (Ne.symm nx)).trans upd_same, W.c_LotText, W.n_LotText_names, (show 1 < 1000 by decide), ?_⟩
  have hf0 : H0 f = none := by
    cases e : H0 f with
    | none => rfl
    | some o => exact absurd (s0 _ _ e) (by rw [hf']; exact fun z => by cases z)
  refine q _ ⟨same_set hx (same_set hf0 (same_set hx s0)), hx, hT, hn, fun j hj => (by cases hj), dx, f, upd_same, hf0, ?_⟩
  rw [upd_ne nx, upd_same] <;> rfl
theorem met_Lot_take (W : Wd K mg) {t : Addr} {ns : List Cs} {ts : List Tie} : C8.Met P w K mg base 5 (He.ga K "LotText") "take" (fun vs H Q _ => ∃ H0 x s m s', vs = [.ref x, .str (SX.S m)] ∧ LotAt K t ns ts H0 H x s ∧ LotStep ns s m s' ∧ ∀ H', LotAt K t ns ts H0 H' x s' → TSame H H' → Q (.bl true) H') [] := by
  refine mk_LotText_take W (fun vs H Q E h => ?_) fun cdv A outer s H vs Q E hr h => ?_
  · obtain ⟨H0, x, s, m, s', rfl, _⟩ := h
    rfl
  obtain ⟨H0, x, s, m, s', rfl, ⟨s0, hx, hT, hn, hj, dx, f, ex, hf, ef⟩, ⟨i, rfl, hi, his, hl, rfl⟩, q⟩ := h
  obtain ⟨dt, a, b, o, et, ea, hd, eb⟩ := hT.ex
  refine ⟨_, (pss_cons (ps_if (PW.pt (pw_or (pt_cmpR (opNin (K := K)) (pv 1) (peFld (K := K) rfl (peFld (K := K) rfl (pv 0))) rfl) (pw_or1 (pt_cmpR (opIn (K := K)) (pv 1) (peFld (K := K) rfl (pv 0)) rfl))))
    (pss_one (ps_ret pe_bl))
    pss_nil)
    (pss_cons (ps_expr (pe_bm PySem.F.plainAttrs_list PySem.F.slot_list_append PySem.F.type_list_append mt_append (peFld (K := K) rfl (pv 0)) (pa_cons (pv 1) pa_nil)))
    (pss_one (ps_ret pe_bl)))), ?_⟩
  walk_at "rd"
  refine r_fl ex W.c_LotText W.n_LotText_table rfl ?_
  refine r_fl (s0 _ _ et) W.c_Table W.n_Table_things rfl ?_
  refine ⟨a, _, rfl, .inr (TupAt.frz (s0 _ _ ea)).sq, rfl, flat_strL ns, ?_⟩
  rw [if_pos rfl, inV_str, decide_eq_true (nm_mem hi)]
  walk_at "rd"
  refine r_fl ex W.c_LotText W.n_LotText_names rfl ?_
  refine ⟨f, _, rfl, .inl (SqL.of ef), rfl, flat_strL _, ?_⟩
  rw [if_neg Bool.false_ne_true, inV_str, decide_eq_false (nm_mem_map hn hi hj his)]
  walk_at "rd"
  refine r_fl ex W.c_LotText W.n_LotText_names rfl ?_
  refine r_tyL ef ?_
  walk_at "rd"
  refine r_app ef (by rw [List.length_map, List.length_map]; omega) ?_
  refine q _ ⟨same_set hf s0, hx, hT, hn, fun j hj' => ?_, dx, f, (upd_ne (ins_ne ex ef)).trans ex, hf, ?_⟩ (upd_lst_ts ef)
  · rcases List.mem_append.mp hj' with h | h
    · exact hj j h
    · rw [List.mem_singleton.mp h]
      exact hi
  · rw [upd_same, List.map_append, strL, strL, List.map_append] <;> rfl
theorem met_Lot_ends (W : Wd K mg) {t : Addr} {ns : List Cs} {ts : List Tie} : C8.Met P w K mg base 5 (He.ga K "LotText") "ends" (fun vs H Q _ => ∃ H0 x s, vs = [.ref x] ∧ LotAt K t ns ts H0 H x s ∧ (s.Pairwise (· < ·) ∧ s.length < 60) ∧ ∀ H', Same H H' → Q (.bl true) H') [] := by
  refine mk_LotText_ends W (fun vs H Q E h => ?_) fun cdv A outer s H vs Q E hr h => ?_
  · obtain ⟨H0, x, s, rfl, _⟩ := h
    rfl
  obtain ⟨H0, x, s, rfl, ha, _, q⟩ := h
  refine ⟨_, (pss_one (ps_ret pe_bl)), ?_⟩
  walk_at "rd"
  exact q H (Same.refl H)
theorem perm_sorted {l l' : List Int} (h : l'.Perm l) (a : l'.Pairwise (· ≤ ·)) (b : l.Pairwise (· ≤ ·)) : l' = l :=
  h.eq_of_pairwise (le := (· ≤ ·)) (fun x y _ _ h1 h2 => Int.le_antisymm h1 h2) a b
theorem met_Lot_told (W : Wd K mg) {t : Addr} {ns : List Cs} {ts : List Tie} : C8.Met P w K mg base 5 (He.ga K "LotText") "told" (fun vs H Q _ => ∃ H0 x s, vs = [.ref x] ∧ LotAt K t ns ts H0 H x s ∧ (s.Pairwise (· < ·) ∧ s.length < 60) ∧ ∀ v H', Same H0 H' → (fun (_ : Hp) (s : List Nat) v H' => ∃ p, v = V.ref p ∧ TupAt H' p (s.map fun v => .int ((v : Nat) : Int))) H0 s v H' → Q v H') [] := by
  refine mk_LotText_told W (fun vs H Q E h => ?_) fun cdv A outer s H vs Q E hr h => ?_
  · obtain ⟨H0, x, s, rfl, _⟩ := h
    rfl
  obtain ⟨H0, x, s, rfl, ⟨s0, hx, hT, hn, hj, dx, f, ex, hf, ef⟩, ⟨hp, hl⟩, q⟩ := h
  obtain ⟨dt, a, b, o, et, ea, hd, eb⟩ := hT.ex
  refine ⟨_, (pss_one (ps_ret (pe_callTy (crTp (K := K)) rfl W.z_tuple (by decide +kernel) (pa_cons (pe_callB (crSortI (K := K)) rfl W.z_sorted (by decide +kernel) (pa_cons (pe_lc (own := [("name", 1)]) (g := gName 1) (tt := tYes) rfl sc_LotText_told.nd (piL (K := K) rfl (peFld (K := K) rfl (pv 0))) (blkOk_by (own := [("name", 1)]) (N := N_LotText_told) (sc := defScope s_LotText_told) (by decide +kernel)) (fun _ _ _ _ _ => (pg_name (i := 1) sc_LotText_told.nd rfl (Or.inl rfl))) (fun _ _ _ _ _ => pts_nil) (fun _ _ _ _ _ => (peTM PySem.F.slot_tuple_index PySem.F.type_tuple_index (mtTx (K := K)) (peFld (K := K) rfl (peFld (K := K) rfl (pv 0))) (pa_cons (pv 1) pa_nil)))) pa_nil)) pa_nil)))), ?_⟩
  walk_at "rd"
  refine r_fl ex W.c_LotText W.n_LotText_names rfl ?_
  refine ⟨f, rfl, ⟨_, SqL.of ef⟩, fun D hD => lc_map walk_list (fun j => s[j]?.map fun i => .int ((i : Nat) : Int)) hD ?_ (fun H' s2 => SqL.of (s2 _ _ ef)) yAt_same ?_ ?_⟩
  · rw [List.length_map, List.length_map]
    exact small' (by omega)
  · rintro j v H2 H3 R R0 hi s2 s3 ⟨rfl, ev⟩ k1 k2
    rw [List.length_map, List.length_map] at hi
    rw [List.getElem?_map, List.getElem?_map, List.getElem?_eq_getElem hi] at ev
    obtain rfl := Option.some.inj ev
    have hil := hj _ (List.getElem_mem hi)
    refine ⟨rfl, ?_⟩
    walk_at "rd"
    refine r_tm ?_
    walk_at "rd"
    refine r_fl (s3 _ _ ex) W.c_LotText W.n_LotText_table rfl ?_
    refine r_fl (s3 _ _ (s0 _ _ et)) W.c_Table W.n_Table_things rfl ?_
    refine r_tx (s3 _ _ (s0 _ _ ea)) hd ?_
    walk_at "rd"
    refine r_txi hn (s3 _ _ (s0 _ _ ea)) hil ?_
    exact k1 _ _ (by rw [List.getElem?_eq_getElem hi] <;> rfl) (Same.refl _)
  · intro H' s2 e1
    rw [List.length_map, List.length_map, filterMap_all s _ (fun i => .int ((i : Nat) : Int)) fun i hi => by rw [List.getElem?_eq_getElem hi] <;> rfl] at e1
    walk_at "rd"
    have e2 : H' D = some (.lst ((s.map fun i => ((i : Nat) : Int)).map V.int)) := by rw [e1, List.map_map] <;> rfl
    refine ⟨D, _, rfl, SqL.of e2, by rw [List.length_map]; omega, fun ns' p hperm hsort hp' => ?_⟩
    walk_at "rd"
    have e3 : ns' = s.map fun i => ((i : Nat) : Int) := perm_sorted hperm hsort (by
      rw [List.pairwise_map]
      exact hp.imp fun {a b} h => by omega)
    subst e3
    have s3 := same_upd (o := .lst ((s.map fun i => ((i : Nat) : Int)).map V.int)) hp'
    refine ⟨p, _, rfl, SqL.of upd_same, fun l o hl _ => q _ _ (((s0.trans s2).trans s3).trans (same_upd hl)) ⟨l, rfl, TupAt.frz (o := o) ?_⟩⟩
    rw [upd_same, List.map_map] <;> rfl
def lotR (W : Wd K mg) (t : Addr) (ns : List Cs) (ts : List Tie) : Rdr P w K mg base (He.ga K "LotText") where
  S := List Nat
  At := LotAt K t ns ts
  step := LotStep ns
  fin := fun s => s.Pairwise (· < ·) ∧ s.length < 60
  Out := fun _ s v H' => ∃ p, v = V.ref p ∧ TupAt H' p (s.map fun v => .int ((v : Nat) : Int))
  inst := fun ⟨_, _, _, _, _, dx, f, ex, _⟩ => ⟨dx, _, ex, rfl, rfl, rfl⟩
  same := fun ⟨s0, hx, hT, hn, hj, dx, f, ex, hf, ef⟩ s1 => ⟨s0.trans s1, hx, hT, hn, hj, dx, f, s1 _ _ ex, hf, s1 _ _ ef⟩
  old := fun h => h.1
  take := met_Lot_take W
  ends := met_Lot_ends W
  told := met_Lot_told W
end
end K07

set_option maxRecDepth 100000
set_option maxHeartbeats 4000000
namespace K07
open PySem PySem.Spec PyProof.Rows L2
local macro_rules | `(tactic| walk_at "rd") => `(tactic| repeat (first
  | with_reducible refine r_seq ?_ | with_reducible refine r_asg ?_ | with_reducible refine r_name ?_ | with_reducible refine r_ret ?_ | with_reducible refine r_drop ?_ | with_reducible refine r_if ?_ | with_reducible refine r_nx ?_
  | with_reducible refine r_c ?_ | with_reducible refine r_op ?_ | with_reducible refine r_un ?_ | with_reducible refine r_cons ?_ | with_reducible refine r_nil ?_ | with_reducible refine r_test ?_ | with_reducible refine r_B ?_
  | with_reducible refine r_and ?_ | with_reducible refine r_or ?_ | with_reducible refine r_not ?_ | with_reducible refine r_andV ?_ | with_reducible refine r_orV ?_ | with_reducible refine r_notV ?_ | with_reducible refine r_tif ?_
  | with_reducible refine r_chain ?_ | with_reducible refine r_tyes ?_ | with_reducible refine r_lc ?_ | with_reducible refine r_rng1 ?_ | with_reducible refine r_itup ?_ | with_reducible refine r_ilist ?_ | with_reducible refine r_ienum ?_ | with_reducible refine r_istr ?_
  | with_reducible refine r_tup ?_ | with_reducible refine r_lst ?_ | with_reducible refine r_tfld ?_ | with_reducible refine r_gcons ?_ | with_reducible refine r_gnil ?_ | with_reducible refine r_gfld ?_ | with_reducible refine r_for ?_ | with_reducible refine r_sfld ?_ | with_reducible refine r_call ?_ | with_reducible refine r_cb ?_ | with_reducible refine r_sl ?_ | with_reducible refine r_np ?_ | with_reducible refine r_pt ?_ | with_reducible refine r_m1 ?_ | with_reducible refine r_par ?_ | with_reducible refine r_p2 ?_ | with_reducible refine r_u ?_ | with_reducible refine r_meth ?_ | with_reducible refine r_make ?_ | with_reducible refine r_gsub ?_ | with_reducible refine r_bm ?_ | with_reducible refine r_bm0 ?_ | with_reducible refine r_j0 ?_ | with_reducible refine r_jF ?_ | with_reducible refine r_jN ?_ | with_reducible refine r_bl ?_ | with_reducible refine r_i0 ?_ | with_reducible refine tt_ite ?_ | with_reducible refine ff_ite ?_ | with_reducible refine nt_ite ?_ | with_reducible refine nf_ite ?_
  | with_reducible refine r_var (by with_unfolding_all exact rfl) ?_))
/-! ### rows of pairs under construction -/
def RowAt (H : Hp) (a : Addr) (ps : List Pr) : Prop := ∃ qs : List Addr, H a = some (.lst (qs.map V.ref)) ∧ All2 (fun q p => H q = some (.tup (prV p))) qs ps
theorem RowAt.keep {S : List Addr} {H H' : Hp} {a : Addr} {ps : List Pr} (k : Keep S H H') (ha : a ∉ S) (hS : ∀ y ∈ S, ∀ xs, H y ≠ some (.tup xs)) (h : RowAt H a ps) : RowAt H' a ps := by
  obtain ⟨qs, h1, h2⟩ := h
  exact ⟨qs, k _ _ h1 ha, h2.imp fun q p e => k _ _ e fun hq => hS q hq _ e⟩
theorem RowAt.same {H H' : Hp} {a : Addr} {ps : List Pr} (s : Same H H') (h : RowAt H a ps) : RowAt H' a ps := RowAt.keep (S := []) (Keep.of_same s) (by simp) (fun y hy => by cases hy) h
def prD (p : Pr) : PyData := .tuple [.int p.1, .int p.2]
def rowD (ps : List Pr) : PyData := .list (ps.map prD)
theorem dp_pr {K : PySem.W.Frag} {H : Hp} {q : Addr} {p : Pr} (h : TupAt H q (prV p)) : Dp K H (.ref q) (prD p) := .tup h.sq (.cons (.int _) (.cons (.int _) .nil))
theorem dpAll_all2 {α : Type} {K : PySem.W.Frag} {H : Hp} {R : Addr → α → Prop} {f : α → PyData} (h : ∀ a x, R a x → Dp K H (.ref a) (f x)) : ∀ {as : List Addr} {xs : List α}, All2 R as xs → DpAll K H (as.map V.ref) (xs.map f)
  | _, _, .nil => .nil
  | _, _, .cons r t => .cons (h _ _ r) (dpAll_all2 h t)
theorem RowAt.dp {K : PySem.W.Frag} {H : Hp} {a : Addr} {ps : List Pr} (h : RowAt H a ps) : Dp K H (.ref a) (rowD ps) := by
  obtain ⟨qs, h1, h2⟩ := h
  exact .lst (SqL.of h1) (dpAll_all2 (fun q p e => dp_pr (TupAt.of e)) h2)
theorem lay_prs : ∀ ps : List Pr, PyData.canLayAll0 (ps.map prD) = true
  | [] => by simp [PyData.canLayAll0]
  | p :: ps => by
    rw [List.map_cons]
    simp only [PyData.canLayAll0, prD, PyData.canLay0, Bool.true_and]
    exact lay_prs ps
theorem depth_prs : ∀ ps : List Pr, PyData.depthAll (ps.map prD) ≤ 1
  | [] => by simp [PyData.depthAll]
  | p :: ps => by
    rw [List.map_cons]
    have := depth_prs ps
    simp only [PyData.depthAll, prD, PyData.depth]
    exact Nat.max_le.mpr ⟨by decide, this⟩
theorem shaped_row (ps : List Pr) : SeqAt.shaped (rowD ps) = true := by
  unfold SeqAt.shaped rowD
  rw [Bool.and_eq_true]
  refine ⟨?_, decide_eq_true ?_⟩
  · simp only [PyData.canLay0]
    exact lay_prs ps
  · simp only [PyData.depth]
    have := depth_prs ps
    omega
theorem eqv_row_nil (ps : List Pr) : PyData.eqv (rowD ps) (rowD []) = decide (ps = []) := by
  cases ps with
  | nil => simp [rowD, PyData.eqv, PyData.eqvAll]
  | cons p ps => simp [rowD, PyData.eqv, PyData.eqvAll]
structure PS where
  bs : List (List Pr)
  cur : List Pr
  come : List Nat
  stage : Nat
def stS : Nat → Str
  | 0 => "line"
  | 1 => "name"
  | 2 => "minus"
  | _ => "whole"
def pf (t fB fC : Addr) (g : Bool) (st : Str) : List (Str × V) := [("table", .ref t), ("together", .bl g), ("batches", .ref fB), ("come", .ref fC), ("stage", .str st)]
structure PaiAt (K : PySem.W.Frag) (t : Addr) (g : Bool) (ns : List Cs) (ts : List Tie) (H0 H : Hp) (x : Addr) (s : PS) : Prop where
  old : Same H0 H
  nx : H0 x = none
  tab : TabF K H0 t ns ts
  ok : NamesOk ns
  lt : ∀ j ∈ s.come, j < ns.length
  ex : ∃ dx fB fC as c, H x = some (.ins (He.ga K "PairText") dx (pf t fB fC g (stS s.stage))) ∧ (H0 fB = none ∧ H0 fC = none ∧ H0 c = none) ∧ (fB ≠ fC ∧ c ≠ fB ∧ c ≠ fC ∧ fB ∉ as ∧ fC ∉ as ∧ c ∉ as) ∧ H fB = some (.lst ((as ++ [c]).map V.ref)) ∧ All2 (RowAt H) as s.bs ∧ RowAt H c s.cur ∧
    H fC = some (.lst (strL (s.come.map (nmAt ns))))
inductive PStep (g : Bool) (ns : List Cs) : PS → Cs → PS → Prop
  | name {bs : List (List Pr)} {cur : List Pr} {come : List Nat} {st i : Nat} : i < ns.length → i ∉ come → come.length ≤ 60 → (st = 0 ∨ (st = 3 ∧ g = true)) → PStep g ns ⟨bs, cur, come, st⟩ (nmAt ns i) ⟨bs, cur, come ++ [i], 1⟩
  | minus {bs : List (List Pr)} {cur : List Pr} {come : List Nat} : PStep g ns ⟨bs, cur, come, 1⟩ [45] ⟨bs, cur, come, 2⟩
  | num {bs : List (List Pr)} {cur : List Pr} {come : List Nat} {i v : Nat} : v ≤ 1000000000 → cur.length ≤ 60 → PStep g ns ⟨bs, cur, come ++ [i], 1⟩ (numL v) ⟨bs, cur ++ [(i, (v : Int))], come ++ [i], 3⟩
  | neg {bs : List (List Pr)} {cur : List Pr} {come : List Nat} {i v : Nat} : v ≤ 1000000000 → 1 ≤ v → cur.length ≤ 60 → PStep g ns ⟨bs, cur, come ++ [i], 2⟩ (numL v) ⟨bs, cur ++ [(i, -(v : Int))], come ++ [i], 3⟩
  | line0 {bs : List (List Pr)} {come : List Nat} {st : Nat} : (st = 0 ∨ st = 3) → PStep g ns ⟨bs, [], come, st⟩ [10] ⟨bs, [], come, 0⟩
  | line {bs : List (List Pr)} {cur : List Pr} {come : List Nat} {st : Nat} : cur ≠ [] → bs.length ≤ 60 → (st = 0 ∨ st = 3) → PStep g ns ⟨bs, cur, come, st⟩ [10] ⟨bs ++ [cur], [], come, 0⟩
section
variable {P : Program} {w : World} {K : PySem.W.Frag} {mg : Str → Option Value} {base : Heap}
variable {t : Addr} {g : Bool} {ns : List Cs} {ts : List Tie}
theorem PaiAt.same {H0 H H' : Hp} {x : Addr} {s : PS} (h : PaiAt K t g ns ts H0 H x s) (s1 : Same H H') : PaiAt K t g ns ts H0 H' x s := by
  obtain ⟨s0, hx, hT, hn, hj, dx, fB, fC, as, c, ex, hf, hne, eB, ea, ec, eC⟩ := h
  exact ⟨s0.trans s1, hx, hT, hn, hj, dx, fB, fC, as, c, s1 _ _ ex, hf, hne, s1 _ _ eB, ea.imp fun a p => RowAt.same s1, RowAt.same s1 ec, s1 _ _ eC⟩
/-- the stage set -/
theorem PaiAt.setStage {H0 H : Hp} {x : Addr} {s : PS} (h : PaiAt K t g ns ts H0 H x s) (k : Nat) : ∃ dx fB fC, H x = some (.ins (He.ga K "PairText") dx (pf t fB fC g (stS s.stage))) ∧
    PaiAt K t g ns ts H0 (upd H x (.ins (He.ga K "PairText") dx (pf t fB fC g (stS k)))) x { s with stage := k } ∧ TSame H (upd H x (.ins (He.ga K "PairText") dx (pf t fB fC g (stS k)))) := by
  obtain ⟨s0, hx, hT, hn, hj, dx, fB, fC, as, c, ex, hf, hne, eB, ea, ec, eC⟩ := h
  obtain ⟨qs, ec1, ec2⟩ := id ec
  have kp : Keep [x] H (upd H x (.ins (He.ga K "PairText") dx (pf t fB fC g (stS k)))) := keep_upd (by simp)
  have nt : ∀ y ∈ [x], ∀ xs, H y ≠ some (.tup xs) := fun y hy xs e => by
    rw [List.mem_singleton.mp hy, ex] at e
    cases e
  have rw1 : ∀ a ps, RowAt H a ps → RowAt (upd H x (.ins (He.ga K "PairText") dx (pf t fB fC g (stS k)))) a ps := fun a ps h => by
    obtain ⟨qs, h1, _⟩ := id h
    exact RowAt.keep kp (by rw [List.mem_singleton]; exact (ins_ne ex h1).symm) nt h
  exact ⟨dx, fB, fC, ex, ⟨same_set hx s0, hx, hT, hn, hj, dx, fB, fC, as, c, upd_same, hf, hne, (upd_ne (ins_ne ex eB).symm).trans eB, ea.imp rw1, rw1 _ _ ec, (upd_ne (ins_ne ex eC).symm).trans eC⟩, upd_ins_ts ex⟩
theorem met_Pai_take_name (W : Wd K mg) : C8.Met P w K mg base 4 (He.ga K "PairText") "take_name" (fun vs H Q _ => ∃ H0 x bs cur come st i, vs = [.ref x, .str (SX.S (nmAt ns i))] ∧ PaiAt K t g ns ts H0 H x ⟨bs, cur, come, st⟩ ∧ i < ns.length ∧ i ∉ come ∧ come.length ≤ 60 ∧
    ∀ H', PaiAt K t g ns ts H0 H' x ⟨bs, cur, come ++ [i], 1⟩ → TSame H H' → Q (.bl true) H') [] := by
  refine mk_PairText_take_name W (fun vs H Q E h => ?_) fun cdv A outer s H vs Q E hr h => ?_
  · obtain ⟨H0, x, bs, cur, come, st, i, rfl, _⟩ := h
    rfl
  obtain ⟨H0, x, bs, cur, come, st, i, rfl, hp, hi, his, hl, q⟩ := h
  obtain ⟨s0, hx, hT, hn, hj, dx, fB, fC, as, c, ex, hf, hne, eB, ea, ec, eC⟩ := hp
  obtain ⟨dt, a, b, o, et, eA, hd, eb⟩ := hT.ex
  refine ⟨_, (pss_cons (ps_if (PW.pt (pw_or (pt_cmpR (opNin (K := K)) (pv 1) (peFld (K := K) rfl (peFld (K := K) rfl (pv 0))) rfl) (pw_or1 (pt_cmpR (opIn (K := K)) (pv 1) (peFld (K := K) rfl (pv 0)) rfl))))
    (pss_one (ps_ret pe_bl))
    pss_nil)
    (pss_cons (ps_expr (pe_bm PySem.F.plainAttrs_list PySem.F.slot_list_append PySem.F.type_list_append mt_append (peFld (K := K) rfl (pv 0)) (pa_cons (pv 1) pa_nil)))
    (pss_cons (psFld (K := K) rfl (pv 0) pe_str)
    (pss_one (ps_ret pe_bl))))), ?_⟩
  walk_at "rd"
  refine r_fl ex W.c_PairText W.n_PairText_table rfl ?_
  refine r_fl (s0 _ _ et) W.c_Table W.n_Table_things rfl ?_
  refine ⟨a, _, rfl, .inr (TupAt.frz (s0 _ _ eA)).sq, rfl, flat_strL ns, ?_⟩
  rw [if_pos rfl, inV_str, decide_eq_true (nm_mem hi)]
  walk_at "rd"
  refine r_fl ex W.c_PairText W.n_PairText_come rfl ?_
  refine ⟨fC, _, rfl, .inl (SqL.of eC), rfl, flat_strL _, ?_⟩
  rw [if_neg Bool.false_ne_true, inV_str, decide_eq_false (nm_mem_map hn hi hj his)]
  walk_at "rd"
  refine r_fl ex W.c_PairText W.n_PairText_come rfl ?_
  refine r_tyL eC ?_
  walk_at "rd"
  refine r_app eC (by rw [List.length_map, List.length_map]; show come.length ≤ _; omega) ?_
  have kp : Keep [fC] H (upd H fC (.lst (strL (come.map (nmAt ns)) ++ [.str (SX.S (nmAt ns i))]))) := keep_upd (by simp)
  have nt : ∀ y ∈ [fC], ∀ xs, H y ≠ some (.tup xs) := fun y hy xs e => by
    rw [List.mem_singleton.mp hy, eC] at e
    cases e
  have h1 : PaiAt K t g ns ts H0 (upd H fC (.lst (strL (come.map (nmAt ns)) ++ [.str (SX.S (nmAt ns i))]))) x ⟨bs, cur, come ++ [i], st⟩ := by
    refine ⟨same_set hf.2.1 s0, hx, hT, hn, fun j hj' => ?_, dx, fB, fC, as, c, (upd_ne (ins_ne ex eC)).trans ex, hf, hne, (upd_ne hne.1).trans eB, ?_, RowAt.keep kp (by rw [List.mem_singleton]; exact hne.2.2.1) nt ec, ?_⟩
    · rcases List.mem_append.mp hj' with h | h
      · exact hj j h
      · rw [List.mem_singleton.mp h]
        exact hi
    · have : ∀ {l : List Addr} {l' : List (List Pr)}, All2 (RowAt H) l l' → fC ∉ l → All2 (RowAt (upd H fC (.lst (strL (come.map (nmAt ns)) ++ [.str (SX.S (nmAt ns i))])))) l l' := by
        intro l l' h
        induction h with
        | nil => intro _; exact .nil
        | cons r _ ih =>
          intro hm
          exact .cons (RowAt.keep kp (by rw [List.mem_singleton]; exact fun e => hm (by rw [e]; exact List.mem_cons_self)) nt r) (ih fun h => hm (List.mem_cons_of_mem _ h))
      exact this ea hne.2.2.2.2.1
    · rw [upd_same, List.map_append, strL, strL, List.map_append] <;> rfl
  obtain ⟨dx', fB', fC', ex', h2, t2⟩ := h1.setStage 1
  walk_at "rd"
  refine ⟨x, _, dx', _, rfl, ex', W.c_PairText, W.n_PairText_stage, (show 5 < 1000 by decide), ?_⟩
  exact q _ h2 ((upd_lst_ts eC).trans t2)
end
end K07

set_option maxRecDepth 100000
set_option maxHeartbeats 4000000
namespace K07
open PySem PySem.Spec PyProof.Rows L2
local macro_rules | `(tactic| walk_at "rd") => `(tactic| repeat (first
  | with_reducible refine r_seq ?_ | with_reducible refine r_asg ?_ | with_reducible refine r_name ?_ | with_reducible refine r_ret ?_ | with_reducible refine r_drop ?_ | with_reducible refine r_if ?_ | with_reducible refine r_nx ?_
  | with_reducible refine r_c ?_ | with_reducible refine r_op ?_ | with_reducible refine r_un ?_ | with_reducible refine r_cons ?_ | with_reducible refine r_nil ?_ | with_reducible refine r_test ?_ | with_reducible refine r_B ?_
  | with_reducible refine r_and ?_ | with_reducible refine r_or ?_ | with_reducible refine r_not ?_ | with_reducible refine r_andV ?_ | with_reducible refine r_orV ?_ | with_reducible refine r_notV ?_ | with_reducible refine r_tif ?_
  | with_reducible refine r_chain ?_ | with_reducible refine r_tyes ?_ | with_reducible refine r_lc ?_ | with_reducible refine r_rng1 ?_ | with_reducible refine r_itup ?_ | with_reducible refine r_ilist ?_ | with_reducible refine r_ienum ?_ | with_reducible refine r_istr ?_
  | with_reducible refine r_tup ?_ | with_reducible refine r_lst ?_ | with_reducible refine r_tfld ?_ | with_reducible refine r_gcons ?_ | with_reducible refine r_gnil ?_ | with_reducible refine r_gfld ?_ | with_reducible refine r_for ?_ | with_reducible refine r_sfld ?_ | with_reducible refine r_call ?_ | with_reducible refine r_cb ?_ | with_reducible refine r_sl ?_ | with_reducible refine r_np ?_ | with_reducible refine r_pt ?_ | with_reducible refine r_m1 ?_ | with_reducible refine r_par ?_ | with_reducible refine r_p2 ?_ | with_reducible refine r_u ?_ | with_reducible refine r_meth ?_ | with_reducible refine r_make ?_ | with_reducible refine r_gsub ?_ | with_reducible refine r_bm ?_ | with_reducible refine r_bm0 ?_ | with_reducible refine r_j0 ?_ | with_reducible refine r_jF ?_ | with_reducible refine r_jN ?_ | with_reducible refine r_bl ?_ | with_reducible refine r_i0 ?_ | with_reducible refine tt_ite ?_ | with_reducible refine ff_ite ?_ | with_reducible refine nt_ite ?_ | with_reducible refine nf_ite ?_
  | with_reducible refine r_var (by with_unfolding_all exact rfl) ?_))
theorem all2_row_keep {S : List Addr} {H H' : Hp} (k : Keep S H H') (hS : ∀ y ∈ S, ∀ xs, H y ≠ some (.tup xs)) {l : List Addr} {l' : List (List Pr)} (h : All2 (RowAt H) l l') : (∀ y ∈ l, y ∉ S) → All2 (RowAt H') l l' := by
  induction h with
  | nil => intro _; exact .nil
  | cons r _ ih =>
    intro hm
    exact .cons (RowAt.keep k (hm _ List.mem_cons_self) hS r) (ih fun y hy => hm y (List.mem_cons_of_mem _ hy))
theorem str_eqd {a b : Str} : decide (V.str a = V.str b) = decide (a = b) := decide_eq_decide.mpr ⟨fun e => by injection e, fun e => by rw [e]⟩
theorem none_of {H H' : Hp} {q : Addr} (s : Same H H') (h : H' q = none) : H q = none := by
  cases e : H q with
  | none => rfl
  | some o => exact absurd (s _ _ e) (by rw [h]; exact fun z => by cases z)
section
variable {P : Program} {w : World} {K : PySem.W.Frag} {mg : Str → Option Value} {base : Heap}
variable {t : Addr} {g : Bool} {ns : List Cs} {ts : List Tie}
theorem PaiAt.addPair {H0 H : Hp} {x : Addr} {bs : List (List Pr)} {cur : List Pr} {come : List Nat} {st : Nat} (h : PaiAt K t g ns ts H0 H x ⟨bs, cur, come, st⟩) : ∃ (dx fB fC : Addr) (as : List Addr) (c : Addr) (qs : List Addr), H x = some (.ins (He.ga K "PairText") dx (pf t fB fC g (stS st))) ∧ H fB = some (.lst ((as ++ [c]).map V.ref)) ∧
    H fC = some (.lst (strL (come.map (nmAt ns)))) ∧ H c = some (.lst (qs.map V.ref)) ∧ qs.length = cur.length ∧
    ∀ (q : Addr) (p : Pr), H q = none → PaiAt K t g ns ts H0 (upd (upd H q (.tup (prV p))) c (.lst (qs.map V.ref ++ [.ref q]))) x ⟨bs, cur ++ [p], come, st⟩ ∧ TSame H (upd (upd H q (.tup (prV p))) c (.lst (qs.map V.ref ++ [.ref q]))) := by
  obtain ⟨s0, hx, hT, hn, hj, dx, fB, fC, as, c, ex, hf, hne, eB, ea, ⟨qs, ec1, ec2⟩, eC⟩ := h
  refine ⟨dx, fB, fC, as, c, qs, ex, eB, eC, ec1, ec2.length, fun q p hq => ?_⟩
  have s1 := same_upd (o := .tup (prV p)) hq
  have e1 := s1 _ _ ec1
  have kp : Keep [c] (upd H q (.tup (prV p))) (upd (upd H q (.tup (prV p))) c (.lst (qs.map V.ref ++ [.ref q]))) := keep_upd (by simp)
  have nt : ∀ y ∈ [c], ∀ xs, upd H q (.tup (prV p)) y ≠ some (.tup xs) := fun y hy xs e => by
    rw [List.mem_singleton.mp hy, e1] at e
    cases e
  refine ⟨⟨same_set hf.2.2 (s0.trans s1), hx, hT, hn, hj, dx, fB, fC, as, c, (upd_ne (ins_ne ex ec1)).trans (s1 _ _ ex), hf, hne, (upd_ne (Ne.symm hne.2.1)).trans (s1 _ _ eB), ?_, ⟨qs ++ [q], by rw [upd_same, List.map_append] <;> rfl, ?_⟩, (upd_ne (Ne.symm hne.2.2.1)).trans (s1 _ _ eC)⟩, (Same.ts s1).trans (upd_lst_ts e1)⟩
  · exact all2_row_keep kp nt (ea.imp fun a p => RowAt.same s1) fun y hy hc => hne.2.2.2.2.2 (by rw [← List.mem_singleton.mp hc]; exact hy)
  · refine All2.snoc (ec2.imp fun a b e => kp _ _ (s1 _ _ e) fun hc => nt a hc _ (s1 _ _ e)) ?_
    refine kp _ _ upd_same fun hc => nt q hc _ upd_same
theorem numL_ne_of {v : Nat} {c : Nat} (h : ¬ IsD c) : decide (numL v = [c]) = false := decide_eq_false fun e => h (numL_d v c (by rw [e]; exact List.mem_cons_self))
theorem met_Pai_take_time (W : Wd K mg) : C8.Met P w K mg base 4 (He.ga K "PairText") "take_time" (fun vs H Q _ => ∃ H0 x s m s', vs = [.ref x, .str (SX.S m)] ∧ PaiAt K t g ns ts H0 H x s ∧ PStep g ns s m s' ∧ (s.stage = 1 ∨ s.stage = 2) ∧
    ∀ H', PaiAt K t g ns ts H0 H' x s' → TSame H H' → Q (.bl true) H') [] := by
  refine mk_PairText_take_time W (fun vs H Q E h => ?_) fun cdv A outer s H vs Q E hr h => ?_
  · obtain ⟨H0, x, s, m, s', rfl, _⟩ := h
    rfl
  obtain ⟨H0, x, s, m, s', rfl, hp, hst, hs, q⟩ := h
  refine ⟨_, (pss_cons (ps_if (PW.pt (pw_and (pt_cmpR op_eq (pv 1) pe_str (nomark _)) (pw_and1 (pt_cmpR op_eq (peFld (K := K) rfl (pv 0)) pe_str (nomark _)))))
    (pss_cons (psFld (K := K) rfl (pv 0) pe_str)
    (pss_one (ps_ret pe_bl)))
    pss_nil)
    (pss_cons (ps_set (i := 2) sc_PairText_take_time.nd rfl (.inl rfl) (C8.pe_c (cal_numeral_of W) hr (by decide) rfl (pa_cons (pv 1) (pa_cons (C8.pe_gc rfl W.i_MOST_TIME) pa_nil))))
    (pss_cons (ps_if (PW.pt (pw_or (pt_cmpR op_isN (pv 2) pe_non (nomark _)) (pw_or1 (PW.pt (pw_and (pt_cmpR op_eq (pv 2) pe_int (nomark _)) (pw_and1 (pt_cmpR op_eq (peFld (K := K) rfl (pv 0)) pe_str (nomark _))))))))
    (pss_one (ps_ret pe_bl))
    pss_nil)
    (pss_cons (ps_set (i := 3) sc_PairText_take_time.nd rfl (.inl rfl) (pe_ifExp (pt_cmpR op_eq (peFld (K := K) rfl (pv 0)) pe_str (nomark _)) (pe_un un_neg (pv 2)) (pv 2)))
    (pss_cons (ps_expr (pe_bm PySem.F.plainAttrs_list PySem.F.slot_list_append PySem.F.type_list_append mt_append (pe_ix (ixL (K := K)) (peFld (K := K) rfl (pv 0)) (pe_un un_neg pe_int) (fun _ _ => rfl)) (pa_cons (pe_tup (pa_cons (peTM PySem.F.slot_tuple_index PySem.F.type_tuple_index (mtTx (K := K)) (peFld (K := K) rfl (peFld (K := K) rfl (pv 0))) (pa_cons (pe_ix (ixL (K := K)) (peFld (K := K) rfl (pv 0)) (pe_un un_neg pe_int) (fun _ _ => rfl)) pa_nil)) (pa_cons (pv 3) pa_nil))) pa_nil)))
    (pss_cons (psFld (K := K) rfl (pv 0) pe_str)
    (pss_one (ps_ret pe_bl)))))))), ?_⟩
  have minusS : Str.ofString "-" = SX.S [45] := by decide +kernel
  have d45 : ¬ IsD 45 := by unfold IsD; omega
  cases hst with
  | name _ _ _ h => simp only at hs; omega
  | line0 h => simp only at hs; omega
  | line _ _ h => simp only at hs; omega
  | @minus bs cur come =>
    obtain ⟨dx, fB, fC, ex, h2, t2⟩ := hp.setStage 2
    walk_at "rd"
    refine r_eq rfl ?_
    rw [minusS, v_eq]
    walk_at "rd"
    refine r_fl ex W.c_PairText W.n_PairText_stage rfl ?_
    walk_at "rd"
    refine r_eq rfl ?_
    rw [show decide (V.str (stS 1) = V.str "name") = true from decide_eq_true rfl]
    walk_at "rd"
    refine ⟨x, _, dx, _, rfl, ex, W.c_PairText, W.n_PairText_stage, (show 5 < 1000 by decide), ?_⟩
    walk_at "rd"
    exact q _ h2 t2
  | @num bs cur come i v hv hl =>
    have hi := hp.lt i (by show i ∈ come ++ [i]; simp)
    have hn := hp.ok
    have s0 := hp.old
    obtain ⟨dt, a, b, o, et, eA, hd, eb⟩ := hp.tab.ex
    obtain ⟨dx, fB, fC, as, c, qs, ex, eB, eC, ec, lq, add⟩ := hp.addPair
    walk_at "rd"
    refine r_eq rfl ?_
    rw [minusS, S_eqd, numL_ne_of d45]
    walk_at "rd"
    refine ⟨v, 1000000000, rfl, hv, Nat.le_refl _, ?_⟩
    walk_at "rd"
    refine ⟨rfl, ?_⟩
    rw [show decide (V.int ((v : Nat) : Int) = V.non) = false from decide_eq_false fun z => by cases z]
    walk_at "rd"
    refine r_eq rfl ?_
    rw [int_eqd]
    walk_at "rd"
    refine r_dec (fun h0 => ?_) fun h0 => ?_
    · walk_at "rd"
      refine r_fl ex W.c_PairText W.n_PairText_stage rfl ?_
      walk_at "rd"
      refine r_eq rfl ?_
      rw [show decide (V.str (stS 1) = V.str "minus") = false by rw [str_eqd]; decide +kernel]
      walk_at "rd"
      refine r_fl ex W.c_PairText W.n_PairText_stage rfl ?_
      walk_at "rd"
      refine r_eq rfl ?_
      rw [show decide (V.str (stS 1) = V.str "minus") = false by rw [str_eqd]; decide +kernel]
      walk_at "rd"
      refine r_fl ex W.c_PairText W.n_PairText_batches rfl ?_
      walk_at "rd"
      refine r_ixL (v := .ref c) (SqL.of eB) (by rw [List.map_append]; exact atI_last _ _) ?_
      refine r_tyL ec ?_
      walk_at "rd"
      refine r_tm ?_
      walk_at "rd"
      refine r_fl ex W.c_PairText W.n_PairText_table rfl ?_
      refine r_fl (s0 _ _ et) W.c_Table W.n_Table_things rfl ?_
      refine r_tx (s0 _ _ eA) hd ?_
      walk_at "rd"
      refine r_fl ex W.c_PairText W.n_PairText_come rfl ?_
      walk_at "rd"
      refine r_ixL (v := .str (SX.S (nmAt ns i))) (SqL.of eC) (by rw [List.map_append, strL, List.map_append]; exact atI_last _ _) ?_
      walk_at "rd"
      refine r_txi hn (s0 _ _ eA) hi ?_
      walk_at "rd"
      refine ⟨small (show 2 ≤ 100 by decide), fun q0 hq0 => ?_⟩
      obtain ⟨h5, t5⟩ := add q0 (i, (v : Int)) hq0
      walk_at "rd"
      refine r_app ((same_upd hq0) _ _ ec) (by rw [List.length_map, lq]; omega) ?_
      obtain ⟨dx', fB', fC', ex', h6, t6⟩ := h5.setStage 3
      walk_at "rd"
      refine ⟨x, _, dx', _, rfl, ex', W.c_PairText, W.n_PairText_stage, (show 5 < 1000 by decide), ?_⟩
      walk_at "rd"
      exact q _ h6 (t5.trans t6)
    · walk_at "rd"
      refine r_fl ex W.c_PairText W.n_PairText_stage rfl ?_
      walk_at "rd"
      refine r_eq rfl ?_
      rw [show decide (V.str (stS 1) = V.str "minus") = false by rw [str_eqd]; decide +kernel]
      walk_at "rd"
      refine r_fl ex W.c_PairText W.n_PairText_batches rfl ?_
      walk_at "rd"
      refine r_ixL (v := .ref c) (SqL.of eB) (by rw [List.map_append]; exact atI_last _ _) ?_
      refine r_tyL ec ?_
      walk_at "rd"
      refine r_tm ?_
      walk_at "rd"
      refine r_fl ex W.c_PairText W.n_PairText_table rfl ?_
      refine r_fl (s0 _ _ et) W.c_Table W.n_Table_things rfl ?_
      refine r_tx (s0 _ _ eA) hd ?_
      walk_at "rd"
      refine r_fl ex W.c_PairText W.n_PairText_come rfl ?_
      walk_at "rd"
      refine r_ixL (v := .str (SX.S (nmAt ns i))) (SqL.of eC) (by rw [List.map_append, strL, List.map_append]; exact atI_last _ _) ?_
      walk_at "rd"
      refine r_txi hn (s0 _ _ eA) hi ?_
      walk_at "rd"
      refine ⟨small (show 2 ≤ 100 by decide), fun q0 hq0 => ?_⟩
      obtain ⟨h5, t5⟩ := add q0 (i, (v : Int)) hq0
      walk_at "rd"
      refine r_app ((same_upd hq0) _ _ ec) (by rw [List.length_map, lq]; omega) ?_
      obtain ⟨dx', fB', fC', ex', h6, t6⟩ := h5.setStage 3
      walk_at "rd"
      refine ⟨x, _, dx', _, rfl, ex', W.c_PairText, W.n_PairText_stage, (show 5 < 1000 by decide), ?_⟩
      walk_at "rd"
      exact q _ h6 (t5.trans t6)
  | @neg bs cur come i v hv h1 hl =>
    have hi := hp.lt i (by show i ∈ come ++ [i]; simp)
    have hn := hp.ok
    have s0 := hp.old
    obtain ⟨dt, a, b, o, et, eA, hd, eb⟩ := hp.tab.ex
    obtain ⟨dx, fB, fC, as, c, qs, ex, eB, eC, ec, lq, add⟩ := hp.addPair
    walk_at "rd"
    refine r_eq rfl ?_
    rw [minusS, S_eqd, numL_ne_of d45]
    walk_at "rd"
    refine ⟨v, 1000000000, rfl, hv, Nat.le_refl _, ?_⟩
    walk_at "rd"
    refine ⟨rfl, ?_⟩
    rw [show decide (V.int ((v : Nat) : Int) = V.non) = false from decide_eq_false fun z => by cases z]
    walk_at "rd"
    refine r_eq rfl ?_
    rw [int_ne (by omega)]
    walk_at "rd"
    refine r_fl ex W.c_PairText W.n_PairText_stage rfl ?_
    walk_at "rd"
    refine r_eq rfl ?_
    rw [show decide (V.str (stS 2) = V.str "minus") = true from decide_eq_true rfl]
    walk_at "rd"
    refine r_fl ex W.c_PairText W.n_PairText_batches rfl ?_
    walk_at "rd"
    refine r_ixL (v := .ref c) (SqL.of eB) (by rw [List.map_append]; exact atI_last _ _) ?_
    refine r_tyL ec ?_
    walk_at "rd"
    refine r_tm ?_
    walk_at "rd"
    refine r_fl ex W.c_PairText W.n_PairText_table rfl ?_
    refine r_fl (s0 _ _ et) W.c_Table W.n_Table_things rfl ?_
    refine r_tx (s0 _ _ eA) hd ?_
    walk_at "rd"
    refine r_fl ex W.c_PairText W.n_PairText_come rfl ?_
    walk_at "rd"
    refine r_ixL (v := .str (SX.S (nmAt ns i))) (SqL.of eC) (by rw [List.map_append, strL, List.map_append]; exact atI_last _ _) ?_
    walk_at "rd"
    refine r_txi hn (s0 _ _ eA) hi ?_
    walk_at "rd"
    refine ⟨small (show 2 ≤ 100 by decide), fun q0 hq0 => ?_⟩
    obtain ⟨h5, t5⟩ := add q0 (i, -(v : Int)) hq0
    walk_at "rd"
    refine r_app ((same_upd hq0) _ _ ec) (by rw [List.length_map, lq]; omega) ?_
    obtain ⟨dx', fB', fC', ex', h6, t6⟩ := h5.setStage 3
    walk_at "rd"
    refine ⟨x, _, dx', _, rfl, ex', W.c_PairText, W.n_PairText_stage, (show 5 < 1000 by decide), ?_⟩
    walk_at "rd"
    exact q _ h6 (t5.trans t6)
end
end K07

set_option maxRecDepth 100000
set_option maxHeartbeats 4000000
namespace K07
open PySem PySem.Spec PyProof.Rows L2
local macro_rules | `(tactic| walk_at "rd") => `(tactic| repeat (first
  | with_reducible refine r_seq ?_ | with_reducible refine r_asg ?_ | with_reducible refine r_name ?_ | with_reducible refine r_ret ?_ | with_reducible refine r_drop ?_ | with_reducible refine r_if ?_ | with_reducible refine r_nx ?_
  | with_reducible refine r_c ?_ | with_reducible refine r_op ?_ | with_reducible refine r_un ?_ | with_reducible refine r_cons ?_ | with_reducible refine r_nil ?_ | with_reducible refine r_test ?_ | with_reducible refine r_B ?_
  | with_reducible refine r_and ?_ | with_reducible refine r_or ?_ | with_reducible refine r_not ?_ | with_reducible refine r_andV ?_ | with_reducible refine r_orV ?_ | with_reducible refine r_notV ?_ | with_reducible refine r_tif ?_
  | with_reducible refine r_chain ?_ | with_reducible refine r_tyes ?_ | with_reducible refine r_lc ?_ | with_reducible refine r_rng1 ?_ | with_reducible refine r_itup ?_ | with_reducible refine r_ilist ?_ | with_reducible refine r_ienum ?_ | with_reducible refine r_istr ?_
  | with_reducible refine r_tup ?_ | with_reducible refine r_lst ?_ | with_reducible refine r_tfld ?_ | with_reducible refine r_gcons ?_ | with_reducible refine r_gnil ?_ | with_reducible refine r_gfld ?_ | with_reducible refine r_for ?_ | with_reducible refine r_sfld ?_ | with_reducible refine r_call ?_ | with_reducible refine r_cb ?_ | with_reducible refine r_sl ?_ | with_reducible refine r_np ?_ | with_reducible refine r_pt ?_ | with_reducible refine r_m1 ?_ | with_reducible refine r_par ?_ | with_reducible refine r_p2 ?_ | with_reducible refine r_u ?_ | with_reducible refine r_meth ?_ | with_reducible refine r_make ?_ | with_reducible refine r_gsub ?_ | with_reducible refine r_bm ?_ | with_reducible refine r_bm0 ?_ | with_reducible refine r_j0 ?_ | with_reducible refine r_jF ?_ | with_reducible refine r_jN ?_ | with_reducible refine r_bl ?_ | with_reducible refine r_i0 ?_ | with_reducible refine tt_ite ?_ | with_reducible refine ff_ite ?_ | with_reducible refine nt_ite ?_ | with_reducible refine nf_ite ?_
  | with_reducible refine r_var (by with_unfolding_all exact rfl) ?_))
section
variable {P : Program} {w : World} {K : PySem.W.Frag} {mg : Str → Option Value} {base : Heap}
variable {t : Addr} {g : Bool} {ns : List Cs} {ts : List Tie}
theorem nm_ne {ns : List Cs} (hn : NamesOk ns) {i : Nat} (hi : i < ns.length) {c : Nat} (hc : ¬ IsL c) : decide (nmAt ns i = [c]) = false := decide_eq_false fun e => hc ((nmAt_name hn hi).2.2 c (by rw [e]; exact List.mem_cons_self))
theorem PaiAt.row {H0 H : Hp} {x : Addr} {bs : List (List Pr)} {cur : List Pr} {come : List Nat} {st : Nat} (h : PaiAt K t g ns ts H0 H x ⟨bs, cur, come, st⟩) : ∃ (dx fB fC : Addr) (as : List Addr) (c : Addr), H x = some (.ins (He.ga K "PairText") dx (pf t fB fC g (stS st))) ∧ H fB = some (.lst ((as ++ [c]).map V.ref)) ∧
    RowAt H c cur ∧ as.length = bs.length ∧
    ∀ (q : Addr), H q = none → PaiAt K t g ns ts H0 (upd (upd H q (.lst [])) fB (.lst ((as ++ [c]).map V.ref ++ [.ref q]))) x ⟨bs ++ [cur], [], come, st⟩ ∧ TSame H (upd (upd H q (.lst [])) fB (.lst ((as ++ [c]).map V.ref ++ [.ref q]))) := by
  obtain ⟨s0, hx, hT, hn, hj, dx, fB, fC, as, c, ex, hf, hne, eB, ea, ec, eC⟩ := h
  refine ⟨dx, fB, fC, as, c, ex, eB, ec, ea.length, fun q hq => ?_⟩
  have s1 := same_upd (o := .lst []) hq
  have e1 := s1 _ _ eB
  have kp : Keep [fB] (upd H q (.lst [])) (upd (upd H q (.lst [])) fB (.lst ((as ++ [c]).map V.ref ++ [.ref q]))) := keep_upd (by simp)
  have nt : ∀ y ∈ [fB], ∀ xs, upd H q (.lst []) y ≠ some (.tup xs) := fun y hy xs e => by
    rw [List.mem_singleton.mp hy, e1] at e
    cases e
  have nq : ∀ (y : Addr) (o : HO), H y = some o → q ≠ y := fun y o e z => by
    rw [z, e] at hq
    cases hq
  obtain ⟨qs, ec1, _⟩ := id ec
  have asne : ∀ y ∈ as, q ≠ y := fun y hy z => by
    obtain ⟨k, hk, rfl⟩ := List.getElem_of_mem hy
    obtain ⟨qs', e', _⟩ := ea.get (List.getElem?_eq_getElem hk) (List.getElem?_eq_getElem (by rw [← ea.length]; exact hk))
    exact nq _ _ e' z
  refine ⟨⟨same_set hf.1 (s0.trans s1), hx, hT, hn, hj, dx, fB, fC, as ++ [c], q, (upd_ne (ins_ne ex eB)).trans (s1 _ _ ex), ⟨hf.1, hf.2.1, none_of s0 hq⟩, ⟨hne.1, nq _ _ eB, nq _ _ eC, ?_, ?_, ?_⟩, by rw [upd_same, List.map_append (l₁ := as ++ [c])] <;> rfl, ?_, ⟨[], (upd_ne (nq _ _ eB)).trans upd_same, .nil⟩, (upd_ne (Ne.symm hne.1)).trans (s1 _ _ eC)⟩, (Same.ts s1).trans (upd_lst_ts e1)⟩
  · rw [List.mem_append, List.mem_singleton]
    exact fun z => z.elim hne.2.2.2.1 fun z => hne.2.1 z.symm
  · rw [List.mem_append, List.mem_singleton]
    exact fun z => z.elim hne.2.2.2.2.1 fun z => hne.2.2.1 z.symm
  · rw [List.mem_append, List.mem_singleton]
    exact fun z => z.elim (fun z => asne _ z rfl) fun z => nq _ _ ec1 z
  · refine (all2_row_keep kp nt (ea.imp fun a p => RowAt.same s1) fun y hy hc => hne.2.2.2.1 (by rw [← List.mem_singleton.mp hc]; exact hy)).snoc (RowAt.keep kp ?_ nt (RowAt.same s1 ec))
    rw [List.mem_singleton]
    exact hne.2.1
theorem met_Pai_take (W : Wd K mg) : C8.Met P w K mg base 5 (He.ga K "PairText") "take" (fun vs H Q _ => ∃ H0 x s m s', vs = [.ref x, .str (SX.S m)] ∧ PaiAt K t g ns ts H0 H x s ∧ PStep g ns s m s' ∧
    ∀ H', PaiAt K t g ns ts H0 H' x s' → TSame H H' → Q (.bl true) H') [] := by
  refine mk_PairText_take W (fun vs H Q E h => ?_) fun cdv A outer s H vs Q E hr h => ?_
  · obtain ⟨H0, x, s, m, s', rfl, _⟩ := h
    rfl
  obtain ⟨H0, x, s, m, s', rfl, hp, hst, q⟩ := h
  refine ⟨_, (let met_PairText_take_time := fun W : Wd K mg => met_Pai_take_time (P := P) (w := w) (base := base) (t := t) (g := g) (ns := ns) (ts := ts) W; let met_PairText_take_name := fun W : Wd K mg => met_Pai_take_name (P := P) (w := w) (base := base) (t := t) (g := g) (ns := ns) (ts := ts) W; (pss_cons (ps_if (pt_cmpR (opIn (K := K)) (peFld (K := K) rfl (pv 0)) (pe_tup (pa_cons pe_str (pa_cons pe_str pa_nil))) rfl)
    (pss_one (ps_ret (C8.pe_mt (met_PairText_take_time W) hr (by decide) (pv 0) (pa_cons (pv 1) pa_nil))))
    pss_nil)
    (pss_cons (ps_if (pt_cmpR op_eq (pv 1) pe_str (nomark _))
    (pss_cons (ps_if (pt_cmpR (opNeD (K := K) hr) (pe_ix (ixL (K := K)) (peFld (K := K) rfl (pv 0)) (pe_un un_neg pe_int) (fun _ _ => rfl)) (pe_lst pa_nil) (nomark _))
    (pss_one (ps_expr (pe_bm PySem.F.plainAttrs_list PySem.F.slot_list_append PySem.F.type_list_append mt_append (peFld (K := K) rfl (pv 0)) (pa_cons (pe_lst pa_nil) pa_nil))))
    pss_nil)
    (pss_cons (psFld (K := K) rfl (pv 0) pe_str)
    (pss_one (ps_ret pe_bl))))
    pss_nil)
    (pss_one (ps_ret (pe_and (pe_or (pe_cmpR op_eq (peFld (K := K) rfl (pv 0)) pe_str (nomark _)) (pe_one (peFld (K := K) rfl (pv 0)))) (pe_one (C8.pe_mt (met_PairText_take_name W) hr (by decide) (pv 0) (pa_cons (pv 1) pa_nil))))))))), ?_⟩
  have lineS : Str.ofString "\n" = SX.S [10] := by decide +kernel
  have l10 : ¬ IsL 10 := by unfold IsL; omega
  obtain ⟨dx0, fB0, fC0, as0, c0, ex0, _⟩ := hp.row
  walk_at "rd"
  refine r_fl ex0 W.c_PairText W.n_PairText_stage rfl ?_
  walk_at "rd"
  refine ⟨small (show 2 ≤ 100 by decide), fun T hT => ?_⟩
  have s1 := same_upd (o := .tup [.str "name", .str "minus"]) hT
  refine ⟨T, _, rfl, .inr (TupAt.of upd_same).sq, rfl, rfl, ?_⟩
  rw [if_neg Bool.false_ne_true]
  have hp1 := hp.same s1
  generalize upd H T (.tup [.str "name", .str "minus"]) = H1 at s1 hp1 ⊢
  have ex1 := s1 _ _ ex0
  cases hst with
  | @minus bs cur come =>
    rw [show inV (.str (stS 1)) [.str "name", .str "minus"] = true from by decide +kernel]
    walk_at "rd"
    refine r_ms ex1 rfl ?_
    walk_at "rd"
    exact ⟨H0, x, _, _, _, rfl, hp1, .minus, .inl rfl, fun H' h t => q H' h ((Same.ts s1).trans t)⟩
  | @num bs cur come i v hv hl =>
    rw [show inV (.str (stS 1)) [.str "name", .str "minus"] = true from by decide +kernel]
    walk_at "rd"
    refine r_ms ex1 rfl ?_
    walk_at "rd"
    exact ⟨H0, x, _, _, _, rfl, hp1, .num hv hl, .inl rfl, fun H' h t => q H' h ((Same.ts s1).trans t)⟩
  | @neg bs cur come i v hv h1 hl =>
    rw [show inV (.str (stS 2)) [.str "name", .str "minus"] = true from by decide +kernel]
    walk_at "rd"
    refine r_ms ex1 rfl ?_
    walk_at "rd"
    exact ⟨H0, x, _, _, _, rfl, hp1, .neg hv h1 hl, .inr rfl, fun H' h t => q H' h ((Same.ts s1).trans t)⟩
  | @name bs cur come st i hi his hl hst =>
    rw [show inV (.str (stS st)) [.str "name", .str "minus"] = false by rcases hst with rfl | ⟨rfl, _⟩ <;> decide +kernel]
    walk_at "rd"
    refine r_eq rfl ?_
    rw [lineS, S_eqd, nm_ne hp.ok hi l10]
    walk_at "rd"
    refine r_fl ex1 W.c_PairText W.n_PairText_stage rfl ?_
    walk_at "rd"
    refine r_eq rfl ?_
    have fin : ∀ H', PaiAt K t g ns ts H0 H' x ⟨bs, cur, come ++ [i], 1⟩ → TSame H1 H' → Q (.bl true) H' := fun H' h t => q H' h ((Same.ts s1).trans t)
    rcases hst with rfl | ⟨rfl, rfl⟩
    · rw [show decide (V.str (stS 0) = V.str "line") = true from decide_eq_true rfl]
      walk_at "rd"
      refine r_ms ex1 rfl ?_
      walk_at "rd"
      exact ⟨H0, x, bs, cur, come, _, i, rfl, hp1, hi, his, hl, fin⟩
    · rw [show decide (V.str (stS 3) = V.str "line") = false by rw [str_eqd]; decide +kernel]
      walk_at "rd"
      refine r_fl ex1 W.c_PairText W.n_PairText_together rfl ?_
      walk_at "rd"
      refine r_ms ex1 rfl ?_
      walk_at "rd"
      exact ⟨H0, x, bs, cur, come, _, i, rfl, hp1, hi, his, hl, fin⟩
  | @line0 bs come st hst =>
    rw [show inV (.str (stS st)) [.str "name", .str "minus"] = false by rcases hst with rfl | rfl <;> decide +kernel]
    obtain ⟨dx, fB, fC, as, c, ex, eB, ec, lb, _⟩ := hp1.row
    walk_at "rd"
    refine r_eq rfl ?_
    rw [lineS, v_eq]
    walk_at "rd"
    refine r_fl ex W.c_PairText W.n_PairText_batches rfl ?_
    walk_at "rd"
    refine r_ixL (v := .ref c) (SqL.of eB) (by rw [List.map_append]; exact atI_last _ _) ?_
    walk_at "rd"
    refine ⟨small (by decide), fun L hL => ?_⟩
    have s2 := same_upd (o := .lst []) hL
    refine ⟨rowD [], rowD [], (RowAt.same s2 ec).dp, .lst (SqL.of upd_same) .nil, shaped_row _, shaped_row _, ?_⟩
    rw [eqv_row_nil, decide_eq_true rfl]
    walk_at "rd"
    obtain ⟨dx', fB', fC', ex', h6, t6⟩ := (hp1.same s2).setStage 0
    refine ⟨x, _, dx', _, rfl, ex', W.c_PairText, W.n_PairText_stage, (show 5 < 1000 by decide), ?_⟩
    walk_at "rd"
    exact q _ h6 (((Same.ts s1).trans (Same.ts s2)).trans t6)
  | @line bs cur come st hc hl hst =>
    rw [show inV (.str (stS st)) [.str "name", .str "minus"] = false by rcases hst with rfl | rfl <;> decide +kernel]
    obtain ⟨dx, fB, fC, as, c, ex, eB, ec, lb, _⟩ := hp1.row
    walk_at "rd"
    refine r_eq rfl ?_
    rw [lineS, v_eq]
    walk_at "rd"
    refine r_fl ex W.c_PairText W.n_PairText_batches rfl ?_
    walk_at "rd"
    refine r_ixL (v := .ref c) (SqL.of eB) (by rw [List.map_append]; exact atI_last _ _) ?_
    walk_at "rd"
    refine ⟨small (by decide), fun L hL => ?_⟩
    have s2 := same_upd (o := .lst []) hL
    refine ⟨rowD cur, rowD [], (RowAt.same s2 ec).dp, .lst (SqL.of upd_same) .nil, shaped_row _, shaped_row _, ?_⟩
    rw [eqv_row_nil, decide_eq_false hc]
    have hp2 := hp1.same s2
    generalize upd H1 L (.lst []) = H2 at s2 hp2 ⊢
    obtain ⟨dx, fB, fC, as, c, ex, eB, ec, lb, add⟩ := hp2.row
    walk_at "rd"
    refine r_fl ex W.c_PairText W.n_PairText_batches rfl ?_
    refine r_tyL eB ?_
    walk_at "rd"
    refine ⟨small (by decide), fun L2 hL2 => ?_⟩
    obtain ⟨h5, t5⟩ := add L2 hL2
    walk_at "rd"
    refine r_app ((same_upd hL2) _ _ eB) (by rw [List.length_map, List.length_append, List.length_singleton]; omega) ?_
    obtain ⟨dx', fB', fC', ex', h6, t6⟩ := h5.setStage 0
    walk_at "rd"
    refine ⟨x, _, dx', _, rfl, ex', W.c_PairText, W.n_PairText_stage, (show 5 < 1000 by decide), ?_⟩
    walk_at "rd"
    exact q _ h6 ((((Same.ts s1).trans (Same.ts s2)).trans t5).trans t6)
end
end K07

set_option maxRecDepth 100000
set_option maxHeartbeats 4000000
namespace K07
open PySem PySem.Spec PyProof.Rows L2
local macro_rules | `(tactic| walk_at "rd") => `(tactic| repeat (first
  | with_reducible refine r_seq ?_ | with_reducible refine r_asg ?_ | with_reducible refine r_name ?_ | with_reducible refine r_ret ?_ | with_reducible refine r_drop ?_ | with_reducible refine r_if ?_ | with_reducible refine r_nx ?_
  | with_reducible refine r_c ?_ | with_reducible refine r_op ?_ | with_reducible refine r_un ?_ | with_reducible refine r_cons ?_ | with_reducible refine r_nil ?_ | with_reducible refine r_test ?_ | with_reducible refine r_B ?_
  | with_reducible refine r_and ?_ | with_reducible refine r_or ?_ | with_reducible refine r_not ?_ | with_reducible refine r_andV ?_ | with_reducible refine r_orV ?_ | with_reducible refine r_notV ?_ | with_reducible refine r_tif ?_
  | with_reducible refine r_chain ?_ | with_reducible refine r_tyes ?_ | with_reducible refine r_lc ?_ | with_reducible refine r_rng1 ?_ | with_reducible refine r_itup ?_ | with_reducible refine r_ilist ?_ | with_reducible refine r_ienum ?_ | with_reducible refine r_istr ?_
  | with_reducible refine r_tup ?_ | with_reducible refine r_lst ?_ | with_reducible refine r_tfld ?_ | with_reducible refine r_gcons ?_ | with_reducible refine r_gnil ?_ | with_reducible refine r_gfld ?_ | with_reducible refine r_for ?_ | with_reducible refine r_sfld ?_ | with_reducible refine r_call ?_ | with_reducible refine r_cb ?_ | with_reducible refine r_sl ?_ | with_reducible refine r_np ?_ | with_reducible refine r_pt ?_ | with_reducible refine r_m1 ?_ | with_reducible refine r_par ?_ | with_reducible refine r_p2 ?_ | with_reducible refine r_u ?_ | with_reducible refine r_meth ?_ | with_reducible refine r_make ?_ | with_reducible refine r_gsub ?_ | with_reducible refine r_bm ?_ | with_reducible refine r_bm0 ?_ | with_reducible refine r_j0 ?_ | with_reducible refine r_jF ?_ | with_reducible refine r_jN ?_ | with_reducible refine r_bl ?_ | with_reducible refine r_i0 ?_ | with_reducible refine tt_ite ?_ | with_reducible refine ff_ite ?_ | with_reducible refine nt_ite ?_ | with_reducible refine nf_ite ?_
  | with_reducible refine r_var (by with_unfolding_all exact rfl) ?_))
theorem ne_none {H : Hp} {a b : Addr} {o : HO} (h : H a = some o) (k : H b = none) : a ≠ b := fun z => by
  rw [z, k] at h
  cases h
/-- the pair that stands behind a value -/
def kOf (H : Hp) : V → Int × Int
  | .ref q => match H q with
    | some (.tup [.int a, .int b]) => (a, b)
    | _ => (0, 0)
  | _ => (0, 0)
theorem kOf_at {H : Hp} {q : Addr} {p : Pr} (h : H q = some (.tup (prV p))) : kOf H (.ref q) = ((p.1 : Int), p.2) := by
  unfold kOf
  simp only [h]
  rfl
theorem srt_row {H : Hp} {qs : List Addr} {ps : List Pr} (h : All2 (fun q p => H q = some (.tup (prV p))) qs ps) (hp : ps.Pairwise fun p q => p.1 < q.1) : SrtO.Srtd (ltP (kOf H)) (qs.map V.ref) := by
  show List.Pairwise _ _
  rw [List.pairwise_map]
  induction h with
  | nil => exact .nil
  | @cons q p qs ps r t ih =>
    obtain ⟨h1, h2⟩ := List.pairwise_cons.mp hp
    refine .cons (fun q' hq' => ?_) (ih h2)
    obtain ⟨k, hk, rfl⟩ := List.getElem_of_mem hq'
    have hk2 : k < ps.length := by rw [← t.length]; exact hk
    have e := t.get (List.getElem?_eq_getElem hk) (List.getElem?_eq_getElem hk2)
    show SrtO.lexB (kOf H (.ref qs[k])) (kOf H (.ref q)) = false
    rw [kOf_at e, kOf_at r]
    refine SrtO.lexB_no.mpr ?_
    have := h1 _ (List.getElem_mem hk2)
    show ¬ _
    simp only
    omega
section
variable {P : Program} {w : World} {K : PySem.W.Frag} {mg : Str → Option Value} {base : Heap}
variable {t : Addr} {g : Bool} {ns : List Cs} {ts : List Tie}
theorem mak_PairText (W : Wd K mg) : C8.Mak P w K mg base 5 "PairText" (He.ga K "PairText") (fun vs H Q _ => ∃ (H0 : Hp) (x dx t : Addr) (g : Bool) (ns : List Cs) (ts : List Tie), vs = [.ref x, .ref t, .bl g] ∧ Same H0 H ∧ H0 x = none ∧ H x = some (.ins (He.ga K "PairText") dx []) ∧ TabF K H0 t ns ts ∧ NamesOk ns ∧
    ∀ H', PaiAt K t g ns ts H0 H' x ⟨[], [], [], 0⟩ → Q .non H') [] := by
  refine mk_PairText_init W (fun vs H Q E h => ?_) fun cdv A outer s H vs Q E hr h => ?_
  · obtain ⟨H0, x, dx, t, g, ns, ts, rfl, _⟩ := h
    rfl
  obtain ⟨H0, x, dx, t, g, ns, ts, rfl, s0, hx, ex, hT, hn, q⟩ := h
  refine ⟨_, (pss_cons (psFld (K := K) rfl (pv 0) (pv 1))
    (pss_cons (psFld (K := K) rfl (pv 0) (pv 2))
    (pss_cons (psFld (K := K) rfl (pv 0) (pe_lst (pa_cons (pe_lst pa_nil) pa_nil)))
    (pss_cons (psFld (K := K) rfl (pv 0) (pe_lst pa_nil))
    (pss_one (psFld (K := K) rfl (pv 0) pe_str)))))), ?_⟩
  walk_at "rd"
  refine ⟨x, _, dx, [], rfl, ex, W.c_PairText, W.n_PairText_table, by decide, ?_⟩
  walk_at "rd"
  refine ⟨x, _, dx, _, rfl, upd_same, W.c_PairText, W.n_PairText_together, (show 1 < 1000 by decide), ?_⟩
  walk_at "rd"
  refine ⟨small (by decide), fun c hc => ?_⟩
  walk_at "rd"
  refine ⟨small (show 1 ≤ 100 by decide), fun fB hB => ?_⟩
  walk_at "rd"
  have xc : x ≠ c := ne_none upd_same hc
  have cB : c ≠ fB := ne_none upd_same hB
  have xB : x ≠ fB := ne_none ((upd_ne xc).trans upd_same) hB
  refine ⟨x, _, dx, _, rfl, (upd_ne xB).trans ((upd_ne xc).trans upd_same), W.c_PairText, W.n_PairText_batches, (show 2 < 1000 by decide), ?_⟩
  walk_at "rd"
  refine ⟨small (by decide), fun fC hC => ?_⟩
  walk_at "rd"
  have xC : x ≠ fC := ne_none upd_same hC
  have BC : fB ≠ fC := ne_none ((upd_ne xB.symm).trans upd_same) hC
  have cC : c ≠ fC := ne_none ((upd_ne xc.symm).trans ((upd_ne cB).trans upd_same)) hC
  refine ⟨x, _, dx, _, rfl, (upd_ne xC).trans upd_same, W.c_PairText, W.n_PairText_come, (show 3 < 1000 by decide), ?_⟩
  walk_at "rd"
  refine ⟨x, _, dx, _, rfl, upd_same, W.c_PairText, W.n_PairText_stage, (show 4 < 1000 by decide), ?_⟩
  have hc0 : H0 c = none := none_of s0 (by rw [upd_ne xc.symm, upd_ne xc.symm] at hc; exact hc)
  have hB0 : H0 fB = none := none_of s0 (by rw [upd_ne cB.symm, upd_ne xB.symm, upd_ne xB.symm] at hB; exact hB)
  have hC0 : H0 fC = none := none_of s0 (by rw [upd_ne xC.symm, upd_ne BC.symm, upd_ne cC.symm, upd_ne xC.symm, upd_ne xC.symm] at hC; exact hC)
  refine q _ ⟨?_, hx, hT, hn, fun j hj => (by cases hj), dx, fB, fC, [], c, upd_same, ⟨hB0, hC0, hc0⟩, ⟨BC, cB, cC, (by simp), (by simp), (by simp)⟩, ?_, .nil, ⟨[], ?_, .nil⟩, ?_⟩
  · exact same_set hx (same_set hx (same_set hC0 (same_set hx (same_set hB0 (same_set hc0 (same_set hx (same_set hx s0)))))))
  · rw [upd_ne xB.symm, upd_ne xB.symm, upd_ne BC, upd_ne xB.symm, upd_same] <;> rfl
  · rw [upd_ne xc.symm, upd_ne xc.symm, upd_ne cC, upd_ne xc.symm, upd_ne cB, upd_same] <;> rfl
  · rw [upd_ne xC.symm, upd_ne xC.symm, upd_same] <;> rfl
def PaiFin (s : PS) : Prop := (s.stage = 0 ∨ s.stage = 3) ∧ s.bs.length ≤ 60 ∧ ∀ r ∈ s.bs ++ [s.cur], r.Pairwise (fun p q => p.1 < q.1) ∧ r.length ≤ 60
def paiRows (s : PS) : List (List Pr) := (s.bs ++ [s.cur]).filter fun r => !decide (r = [])
theorem met_Pai_ends (W : Wd K mg) : C8.Met P w K mg base 5 (He.ga K "PairText") "ends" (fun vs H Q _ => ∃ H0 x s, vs = [.ref x] ∧ PaiAt K t g ns ts H0 H x s ∧ PaiFin s ∧ ∀ H', Same H H' → Q (.bl true) H') [] := by
  refine mk_PairText_ends W (fun vs H Q E h => ?_) fun cdv A outer s H vs Q E hr h => ?_
  · obtain ⟨H0, x, s, rfl, _⟩ := h
    rfl
  obtain ⟨H0, x, ⟨bs, cur, come, st⟩, rfl, hp, ⟨hst, _⟩, q⟩ := h
  refine ⟨_, (pss_one (ps_ret (pe_cmpR (opIn (K := K)) (peFld (K := K) rfl (pv 0)) (pe_tup (pa_cons pe_str (pa_cons pe_str pa_nil))) rfl))), ?_⟩
  obtain ⟨dx, fB, fC, as, c, ex, _⟩ := hp.row
  walk_at "rd"
  refine r_fl ex W.c_PairText W.n_PairText_stage rfl ?_
  walk_at "rd"
  refine ⟨small (show 2 ≤ 100 by decide), fun T hT => ?_⟩
  refine ⟨T, _, rfl, .inr (TupAt.of upd_same).sq, rfl, rfl, ?_⟩
  have hst : st = 0 ∨ st = 3 := hst
  rw [if_neg Bool.false_ne_true, show inV (.str (stS st)) [.str "line", .str "whole"] = true by rcases hst with rfl | rfl <;> decide +kernel]
  exact q _ (same_upd hT)
theorem met_Pai_told (W : Wd K mg) : C8.Met P w K mg base 5 (He.ga K "PairText") "told" (fun vs H Q _ => ∃ H0 x s, vs = [.ref x] ∧ PaiAt K t g ns ts H0 H x s ∧ PaiFin s ∧ ∀ v H', Same H0 H' → (fun (_ : Hp) (s : PS) v H' => ∃ p, v = V.ref p ∧ DayAt H' p (paiRows s)) H0 s v H' → Q v H') [] := by
  refine mk_PairText_told W (fun vs H Q E h => ?_) fun cdv A outer s H vs Q E hr h => ?_
  · obtain ⟨H0, x, s, rfl, _⟩ := h
    rfl
  obtain ⟨H0, x, ⟨bs, cur, come, st⟩, rfl, hp, ⟨hst, hl, hrow⟩, q⟩ := h
  obtain ⟨s0, hx, hT, hn, hj, dx, fB, fC, as, c, ex, hf, hne, eB, ea, ec, eC⟩ := hp
  refine ⟨_, (pss_one (ps_ret (pe_callTy (crTp (K := K)) rfl W.z_tuple (by decide +kernel) (pa_cons (pe_lc (own := [("pairs", 1)]) (g := gName 1) rfl sc_PairText_told.nd (piL (K := K) rfl (peFld (K := K) rfl (pv 0))) (blkOk_by (own := [("pairs", 1)]) (N := N_PairText_told) (sc := defScope s_PairText_told) (by decide +kernel)) (fun _ _ _ _ _ => (pg_name (i := 1) sc_PairText_told.nd rfl (Or.inl rfl))) (fun _ _ _ _ _ => pts_one (pt_cmpR (opNeD (K := K) hr) (pv 1) (pe_lst pa_nil) (nomark _))) (fun _ _ _ _ _ => (pe_callTy (crTp (K := K)) rfl W.z_tuple (by decide +kernel) (pa_cons (pe_callB (crSortP (K := K)) rfl W.z_sorted (by decide +kernel) (pa_cons (pv 1) pa_nil)) pa_nil)))) pa_nil)))), ?_⟩
  obtain ⟨rows, hrows⟩ : ∃ r : List (List Pr), r = bs ++ [cur] := ⟨_, rfl⟩
  have hall : All2 (RowAt H) (as ++ [c]) rows := by
    rw [hrows]
    exact ea.snoc ec
  have hrow : ∀ r ∈ rows, r.Pairwise (fun p q => p.1 < q.1) ∧ r.length ≤ 60 := by
    rw [hrows]
    exact hrow
  have hl1 : rows.length ≤ 61 := by
    rw [hrows, List.length_append, List.length_singleton]
    have : bs.length ≤ 60 := hl
    omega
  walk_at "rd"
  refine r_fl ex W.c_PairText W.n_PairText_batches rfl ?_
  refine ⟨fB, rfl, ⟨_, SqL.of eB⟩, fun D hD => lc_it walk_list (fun i H' => Same H H' ∧ ∃ acc : List Addr, H' D = some (.lst (acc.map V.ref)) ∧ All2 (PrsAt H') acc ((rows.take i).filter fun r => !decide (r = []))) ⟨same_upd hD, [], upd_same, .nil⟩ (fun i H' _ p => SqL.of (p.1 _ _ eB)) ?_ ?_⟩
  · rintro i v H1 H2 hi ⟨s1, acc, eD, hacc⟩ ⟨rfl, ev⟩
    obtain ⟨a, r, rfl, er, hr1⟩ := hall.at i v ev
    obtain ⟨hr2, hr3⟩ := hrow r (List.mem_of_getElem? er)
    have hi' : i < rows.length := (List.getElem?_eq_some_iff.mp er).1
    have acl : acc.length ≤ 61 := by
      rw [hacc.length]
      exact Nat.le_trans (List.length_filter_le _ _) (by rw [List.length_take]; omega)
    have tk : rows.take (i + 1) = rows.take i ++ [r] := by rw [List.take_succ, er] <;> rfl
    refine ⟨rfl, ?_⟩
    walk_at "rd"
    refine ⟨small (by decide), fun L hL => ?_⟩
    have s2 := same_upd (o := .lst []) hL
    have hr4 := RowAt.same (s1.trans s2) hr1
    refine ⟨rowD r, rowD [], hr4.dp, .lst (SqL.of upd_same) .nil, shaped_row _, shaped_row _, ?_⟩
    rw [eqv_row_nil]
    walk_at "rd"
    refine r_ndec (fun hne => ?_) fun he => ?_
    · walk_at "rd"
      obtain ⟨qs, hq1, hq2⟩ := hr4
      refine ⟨a, _, kOf (upd H2 L (.lst [])), rfl, SqL.of hq1, fun y hy => ?_, fun ys p hs1 hs2 hp => ?_⟩
      · obtain ⟨q, hq, rfl⟩ := List.mem_map.mp hy
        obtain ⟨k, hk, rfl⟩ := List.getElem_of_mem hq
        have e := hq2.get (List.getElem?_eq_getElem hk) (List.getElem?_eq_getElem (by rw [← hq2.length]; exact hk))
        refine ⟨_, rfl, ?_⟩
        rw [kOf_at e]
        exact e
      · obtain rfl := SrtO.stb_uniq (ltP_swo _) hs1 (srt_row hq2 hr2) hs2
        have s3 := same_upd (o := .lst (qs.map V.ref)) hp
        walk_at "rd"
        refine ⟨p, _, rfl, SqL.of upd_same, fun l o hl _ => ?_⟩
        have s4 := same_upd (o := .frz o (.tup (qs.map V.ref))) hl
        have sA := (s2.trans s3).trans s4
        have eD2 := sA _ _ eD
        refine ⟨_, eD2, by rw [List.length_map]; exact small' (by omega), same_set hD (s1.trans sA), acc ++ [l], by rw [upd_same, List.map_append] <;> rfl, ?_⟩
        rw [tk, List.filter_append, List.filter_cons_of_pos (by rw [decide_eq_false hne] <;> rfl)]
        have tD := upd_lst_ts (o := .lst (acc.map V.ref ++ [V.ref l])) eD2
        refine All2.snoc (hacc.imp fun a ps h => PrsAt.tsame ((Same.ts sA).trans tD) h) ?_
        exact PrsAt.tsame tD ⟨qs, TupAt.frz upd_same, hq2.imp fun q p e => TupAt.of (s4 _ _ (s3 _ _ e))⟩
    · refine ⟨s1.trans s2, acc, s2 _ _ eD, ?_⟩
      rw [tk, List.filter_append, List.filter_cons_of_neg (by rw [decide_eq_true he]; decide), List.filter_nil, List.append_nil]
      exact hacc.imp fun a ps h => PrsAt.tsame (Same.ts s2) h
  · rintro H' ⟨s1, acc, eD, hacc⟩
    walk_at "rd"
    rw [List.take_of_length_le (by rw [List.length_map, hall.length]; omega)] at hacc
    refine ⟨D, _, rfl, SqL.of eD, fun l o hl _ => q _ _ ((s0.trans s1).trans (same_upd hl)) ⟨l, rfl, ?_⟩⟩
    unfold paiRows
    show DayAt _ l ((bs ++ [cur]).filter _)
    rw [← hrows]
    exact ⟨acc, TupAt.frz upd_same, hacc.imp fun a ps h => PrsAt.tsame (Same.ts (same_upd hl)) h⟩
def paiR (W : Wd K mg) (t : Addr) (g : Bool) (ns : List Cs) (ts : List Tie) : Rdr P w K mg base (He.ga K "PairText") where
  S := PS
  At := PaiAt K t g ns ts
  step := PStep g ns
  fin := PaiFin
  Out := fun _ s v H' => ∃ p, v = V.ref p ∧ DayAt H' p (paiRows s)
  inst := fun h => by
    obtain ⟨dx, fB, fC, as, c, ex, _⟩ := h.ex
    exact ⟨dx, _, ex, rfl, rfl, rfl⟩
  same := fun h s1 => h.same s1
  old := fun h => h.old
  take := met_Pai_take W
  ends := met_Pai_ends W
  told := met_Pai_told W
end
end K07

set_option maxRecDepth 100000
set_option maxHeartbeats 4000000
namespace K07
open PySem PySem.Spec PyProof.Rows L2
local macro_rules | `(tactic| walk_at "rd") => `(tactic| repeat (first
  | with_reducible refine r_seq ?_ | with_reducible refine r_asg ?_ | with_reducible refine r_name ?_ | with_reducible refine r_ret ?_ | with_reducible refine r_drop ?_ | with_reducible refine r_if ?_ | with_reducible refine r_nx ?_
  | with_reducible refine r_c ?_ | with_reducible refine r_op ?_ | with_reducible refine r_un ?_ | with_reducible refine r_cons ?_ | with_reducible refine r_nil ?_ | with_reducible refine r_test ?_ | with_reducible refine r_B ?_
  | with_reducible refine r_and ?_ | with_reducible refine r_or ?_ | with_reducible refine r_not ?_ | with_reducible refine r_andV ?_ | with_reducible refine r_orV ?_ | with_reducible refine r_notV ?_ | with_reducible refine r_tif ?_
  | with_reducible refine r_chain ?_ | with_reducible refine r_tyes ?_ | with_reducible refine r_lc ?_ | with_reducible refine r_rng1 ?_ | with_reducible refine r_itup ?_ | with_reducible refine r_ilist ?_ | with_reducible refine r_ienum ?_ | with_reducible refine r_istr ?_
  | with_reducible refine r_tup ?_ | with_reducible refine r_lst ?_ | with_reducible refine r_tfld ?_ | with_reducible refine r_gcons ?_ | with_reducible refine r_gnil ?_ | with_reducible refine r_gfld ?_ | with_reducible refine r_for ?_ | with_reducible refine r_sfld ?_ | with_reducible refine r_call ?_ | with_reducible refine r_cb ?_ | with_reducible refine r_sl ?_ | with_reducible refine r_np ?_ | with_reducible refine r_pt ?_ | with_reducible refine r_m1 ?_ | with_reducible refine r_par ?_ | with_reducible refine r_p2 ?_ | with_reducible refine r_u ?_ | with_reducible refine r_meth ?_ | with_reducible refine r_make ?_ | with_reducible refine r_gsub ?_ | with_reducible refine r_bm ?_ | with_reducible refine r_bm0 ?_ | with_reducible refine r_j0 ?_ | with_reducible refine r_jF ?_ | with_reducible refine r_jN ?_ | with_reducible refine r_bl ?_ | with_reducible refine r_i0 ?_ | with_reducible refine tt_ite ?_ | with_reducible refine ff_ite ?_ | with_reducible refine nt_ite ?_ | with_reducible refine nf_ite ?_
  | with_reducible refine r_var (by with_unfolding_all exact rfl) ?_))
theorem not_lt_trans {a b c : Cs} (h1 : ¬ b < a) (h2 : ¬ c < b) : ¬ c < a := fun h => List.not_lt.mpr (List.le_trans (List.not_lt.mp h1) (List.not_lt.mp h2)) h
theorem rising_pw : ∀ (l : List Str) (p : Str), risingS p l = true → (p.cps.toList :: l.map fun x => x.cps.toList).Pairwise fun a b => ¬ b < a
  | [], p, _ => .cons (fun _ h => by cases h) .nil
  | x :: r, p, h => by
    unfold risingS at h
    rw [Bool.and_eq_true, Bool.not_eq_true', ltCps_eq, decide_eq_false_iff_not] at h
    have ih := rising_pw r x h.2
    refine .cons (fun y hy => ?_) ih
    rcases List.mem_cons.mp hy with rfl | hy
    · exact h.1
    · exact not_lt_trans h.1 ((List.pairwise_cons.mp ih).1 y hy)
theorem sortedS_pw : ∀ l : List Str, sortedS l = true → (l.map fun x => x.cps.toList).Pairwise fun a b => ¬ b < a
  | [], _ => .nil
  | x :: r, h => rising_pw r x h
theorem lt_asymm' {a b : Cs} (h : a < b) : ¬ b < a := fun k => List.lt_irrefl _ (List.lt_trans h k)
theorem sorted_names {ns : List Cs} {ys : List Str} {names : List Cs} (hn : ns.Pairwise (· < ·)) (hp : names.Perm ns) (h1 : ys.Perm (names.map SX.S)) (h2 : sortedS ys = true) : ys = ns.map SX.S := by
  have e : (ys.map fun x => x.cps.toList) = ns := by
    have hp2 : (ys.map fun x => x.cps.toList).Perm ns := by
      have := h1.map fun x : Str => x.cps.toList
      rw [List.map_map, show ((fun x : Str => x.cps.toList) ∘ SX.S) = id from rfl, List.map_id] at this
      exact this.trans hp
    refine hp2.eq_of_pairwise (le := fun a b => ¬ b < a) (fun a b _ _ h1 h2 => ?_) (sortedS_pw ys h2) (hn.imp fun h => lt_asymm' h)
    exact List.le_antisymm (List.not_lt.mp h1) (List.not_lt.mp h2)
  rw [← e, List.map_map]
  have : ∀ l : List Str, l = l.map (SX.S ∘ fun x => x.cps.toList) := fun l => by
    induction l with
    | nil => rfl
    | cons a l ih => rw [List.map_cons, ← ih] <;> rfl
  exact this ys
/-! ### a table's text -/
abbrev Raw := Cs × Cs × Int
def rawV (x : Raw) : List V := [.str (SX.S x.1), .str (SX.S x.2.1), .int x.2.2]
def tstS : Nat → Str
  | 0 => "line"
  | 1 => "one"
  | 2 => "two"
  | 3 => "minus"
  | _ => "whole"
structure TS where
  names : List Cs
  ties : List Raw
  stage : Nat
  p0 : Cs
  p1 : Cs
def tf (fN fT pr : Addr) (st : Str) : List (Str × V) := [("names", .ref fN), ("ties", .ref fT), ("stage", .str st), ("pair", .ref pr)]
def addN (names : List Cs) (n : Cs) : List Cs := if n ∈ names then names else names ++ [n]
structure TexAt (K : PySem.W.Frag) (H0 H : Hp) (x : Addr) (s : TS) : Prop where
  old : Same H0 H
  nx : H0 x = none
  len : s.names.length ≤ 12 ∧ s.ties.length ≤ 60
  ex : ∃ (dx fN fT pr : Addr) (tas : List Addr), H x = some (.ins (He.ga K "TableText") dx (tf fN fT pr (tstS s.stage))) ∧ (H0 fN = none ∧ H0 fT = none ∧ fN ≠ fT) ∧ H fN = some (.lst (strL s.names)) ∧ H fT = some (.lst (tas.map V.ref)) ∧
    All2 (fun a x => TupAt H a (rawV x)) tas s.ties ∧ TupAt H pr [.str (SX.S s.p0), .str (SX.S s.p1)]
theorem TexAt.same {K : PySem.W.Frag} {H0 H H' : Hp} {x : Addr} {s : TS} (h : TexAt K H0 H x s) (s1 : Same H H') : TexAt K H0 H' x s := by
  obtain ⟨s0, hx, hl, dx, fN, fT, pr, tas, ex, hf, eN, eT, ha, hp⟩ := h
  exact ⟨s0.trans s1, hx, hl, dx, fN, fT, pr, tas, s1 _ _ ex, hf, s1 _ _ eN, s1 _ _ eT, ha.imp fun a x h => h.same s1, hp.same s1⟩
inductive TStep : TS → Cs → TS → Prop
  | one {names : List Cs} {ties : List Raw} {p0 p1 n : Cs} : IsName n → (addN names n).length ≤ 12 → TStep ⟨names, ties, 0, p0, p1⟩ n ⟨addN names n, ties, 1, n, []⟩
  | two {names : List Cs} {ties : List Raw} {p0 p1 n : Cs} : IsName n → (addN names n).length ≤ 12 → n ≠ p0 → ties.length < 60 → TStep ⟨names, ties, 1, p0, p1⟩ n ⟨addN names n, ties, 2, p0, n⟩
  | minus {names : List Cs} {ties : List Raw} {p0 p1 : Cs} : TStep ⟨names, ties, 2, p0, p1⟩ [45] ⟨names, ties, 3, p0, p1⟩
  | num {names : List Cs} {ties : List Raw} {p0 p1 : Cs} {v : Nat} : v ≤ 1000000 → ties.length < 60 → TStep ⟨names, ties, 2, p0, p1⟩ (numL v) ⟨names, ties ++ [(p0, p1, (v : Int))], 4, p0, p1⟩
  | neg {names : List Cs} {ties : List Raw} {p0 p1 : Cs} {v : Nat} : v ≤ 1000000 → 1 ≤ v → ties.length < 60 → TStep ⟨names, ties, 3, p0, p1⟩ (numL v) ⟨names, ties ++ [(p0, p1, -(v : Int))], 4, p0, p1⟩
  | line {names : List Cs} {ties : List Raw} {p0 p1 : Cs} {st : Nat} : (st = 0 ∨ st = 1 ∨ st = 4) → TStep ⟨names, ties, st, p0, p1⟩ [10] ⟨names, ties, 0, p0, p1⟩
section
variable {P : Program} {w : World} {K : PySem.W.Frag} {mg : Str → Option Value} {base : Heap}
theorem TexAt.setStage {H0 H : Hp} {x : Addr} {s : TS} (h : TexAt K H0 H x s) (k : Nat) : ∃ dx fN fT pr, H x = some (.ins (He.ga K "TableText") dx (tf fN fT pr (tstS s.stage))) ∧
    TexAt K H0 (upd H x (.ins (He.ga K "TableText") dx (tf fN fT pr (tstS k)))) x { s with stage := k } ∧ TSame H (upd H x (.ins (He.ga K "TableText") dx (tf fN fT pr (tstS k)))) := by
  obtain ⟨s0, hx, hl, dx, fN, fT, pr, tas, ex, hf, eN, eT, ha, hp⟩ := h
  have t1 := upd_ins_ts (o := .ins (He.ga K "TableText") dx (tf fN fT pr (tstS k))) ex
  exact ⟨dx, fN, fT, pr, ex, ⟨same_set hx s0, hx, hl, dx, fN, fT, pr, tas, upd_same, hf, (upd_ne (ins_ne ex eN).symm).trans eN, (upd_ne (ins_ne ex eT).symm).trans eT, ha.imp fun a x => t1 _ _, t1 _ _ hp⟩, t1⟩
theorem TexAt.setPair {H0 H : Hp} {x : Addr} {s : TS} (h : TexAt K H0 H x s) {pr' : Addr} {a b : Cs} (hp' : TupAt H pr' [.str (SX.S a), .str (SX.S b)]) : ∃ dx fN fT pr, H x = some (.ins (He.ga K "TableText") dx (tf fN fT pr (tstS s.stage))) ∧
    TexAt K H0 (upd H x (.ins (He.ga K "TableText") dx (tf fN fT pr' (tstS s.stage)))) x { s with p0 := a, p1 := b } ∧ TSame H (upd H x (.ins (He.ga K "TableText") dx (tf fN fT pr' (tstS s.stage)))) := by
  obtain ⟨s0, hx, hl, dx, fN, fT, pr, tas, ex, hf, eN, eT, ha, hp⟩ := h
  have t1 := upd_ins_ts (o := .ins (He.ga K "TableText") dx (tf fN fT pr' (tstS s.stage))) ex
  exact ⟨dx, fN, fT, pr, ex, ⟨same_set hx s0, hx, hl, dx, fN, fT, pr', tas, upd_same, hf, (upd_ne (ins_ne ex eN).symm).trans eN, (upd_ne (ins_ne ex eT).symm).trans eT, ha.imp fun a x => t1 _ _, t1 _ _ hp'⟩, t1⟩
theorem mak_TableText (W : Wd K mg) : C8.Mak P w K mg base 5 "TableText" (He.ga K "TableText") (spNew0 (He.ga K "TableText") fun H0 H x => TexAt K H0 H x ⟨[], [], 0, [], []⟩) [] := by
  refine mk_TableText_init W (fun vs H Q E h => ?_) fun cdv A outer s H vs Q E hr h => ?_
  · obtain ⟨H0, x, dx, rfl, _⟩ := h
    rfl
  obtain ⟨H0, x, dx, rfl, s0, hx, ex, q⟩ := h
  refine ⟨_, (pss_cons (psFld (K := K) rfl (pv 0) (pe_lst pa_nil))
    (pss_cons (psFld (K := K) rfl (pv 0) (pe_lst pa_nil))
    (pss_cons (psFld (K := K) rfl (pv 0) pe_str)
    (pss_one (psFld (K := K) rfl (pv 0) (pe_tup (pa_cons pe_str (pa_cons pe_str pa_nil)))))))), ?_⟩
  walk_at "rd"
  refine ⟨small (by decide), fun fN hN => ?_⟩
  have xN : x ≠ fN := ne_none ex hN
  walk_at "rd"
  refine ⟨x, _, dx, [], rfl, (upd_ne xN).trans ex, W.c_TableText, W.n_TableText_names, by decide, ?_⟩
  walk_at "rd"
  refine ⟨small (by decide), fun fT hT => ?_⟩
  have xT : x ≠ fT := ne_none upd_same hT
  have NT : fN ≠ fT := ne_none ((upd_ne xN.symm).trans upd_same) hT
  walk_at "rd"
  refine ⟨x, _, dx, _, rfl, (upd_ne xT).trans upd_same, W.c_TableText, W.n_TableText_ties, (show 1 < 1000 by decide), ?_⟩
  walk_at "rd"
  refine ⟨x, _, dx, _, rfl, upd_same, W.c_TableText, W.n_TableText_stage, (show 2 < 1000 by decide), ?_⟩
  walk_at "rd"
  refine ⟨small (show 2 ≤ 100 by decide), fun pr hp => ?_⟩
  have xp : x ≠ pr := ne_none upd_same hp
  have Np : fN ≠ pr := ne_none ((upd_ne xN.symm).trans ((upd_ne xN.symm).trans ((upd_ne NT).trans ((upd_ne xN.symm).trans upd_same)))) hp
  have Tp : fT ≠ pr := ne_none ((upd_ne xT.symm).trans ((upd_ne xT.symm).trans upd_same)) hp
  walk_at "rd"
  refine ⟨x, _, dx, _, rfl, (upd_ne xp).trans upd_same, W.c_TableText, W.n_TableText_pair, (show 3 < 1000 by decide), ?_⟩
  have hN0 : H0 fN = none := none_of s0 hN
  have hT0 : H0 fT = none := none_of s0 (by rw [upd_ne xT.symm, upd_ne NT.symm] at hT; exact hT)
  have hp0 : H0 pr = none := none_of s0 (by rw [upd_ne xp.symm, upd_ne xp.symm, upd_ne Tp.symm, upd_ne xp.symm, upd_ne Np.symm] at hp; exact hp)
  refine q _ ⟨?_, hx, ⟨Nat.zero_le _, Nat.zero_le _⟩, dx, fN, fT, pr, [], upd_same, ⟨hN0, hT0, NT⟩, ?_, ?_, .nil, TupAt.of ?_⟩
  · exact same_set hx (same_set hp0 (same_set hx (same_set hx (same_set hT0 (same_set hx (same_set hN0 s0))))))
  · rw [upd_ne xN.symm, upd_ne Np, upd_ne xN.symm, upd_ne xN.symm, upd_ne NT, upd_ne xN.symm, upd_same] <;> rfl
  · rw [upd_ne xT.symm, upd_ne Tp, upd_ne xT.symm, upd_ne xT.symm, upd_same] <;> rfl
  · rw [upd_ne xp.symm, upd_same] <;> rfl
theorem met_Tex_lets_name (W : Wd K mg) : C8.Met P w K mg base 2 (He.ga K "TableText") "lets_name" (fun vs H Q _ => ∃ H0 x s n, vs = [.ref x, .str (SX.S n)] ∧ TexAt K H0 H x s ∧ IsName n ∧ (addN s.names n).length ≤ 12 ∧ ∀ H', Same H H' → Q (.bl true) H') [] := by
  refine mk_TableText_lets_name W (fun vs H Q E h => ?_) fun cdv A outer s H vs Q E hr h => ?_
  · obtain ⟨H0, x, s, n, rfl, _⟩ := h
    rfl
  obtain ⟨H0, x, s, n, rfl, hp, hn, hl, q⟩ := h
  obtain ⟨s0, hx, hl2, dx, fN, fT, pr, tas, ex, hf, eN, eT, ha, hpr⟩ := hp
  refine ⟨_, (pss_one (ps_ret (pe_and (C8.pe_c (cal_is_name W) hr (by decide) rfl (pa_cons (pv 1) pa_nil)) (pe_one (pe_or (pe_cmpR (opIn (K := K)) (pv 1) (peFld (K := K) rfl (pv 0)) rfl) (pe_one (pe_cmpR op_lt (pe_callB (crLn (K := K)) rfl W.z_len (by decide +kernel) (pa_cons (peFld (K := K) rfl (pv 0)) pa_nil)) (C8.pe_gc rfl W.i_MOST_THINGS) (nomark _)))))))), ?_⟩
  walk_at "rd"
  refine ⟨n, rfl, hn, fun H1 s1 => ?_⟩
  walk_at "rd"
  refine r_fl (s1 _ _ ex) W.c_TableText W.n_TableText_names rfl ?_
  refine ⟨fN, _, rfl, .inl (SqL.of (s1 _ _ eN)), rfl, flat_strL _, ?_⟩
  rw [if_neg Bool.false_ne_true, inV_str]
  walk_at "rd"
  refine r_dec (fun _ => q H1 s1) fun hnm => ?_
  unfold addN at hl
  rw [if_neg hnm, List.length_append, List.length_singleton] at hl
  walk_at "rd"
  refine r_fl (s1 _ _ ex) W.c_TableText W.n_TableText_names rfl ?_
  walk_at "rd"
  refine r_lnL (SqL.of (s1 _ _ eN)) ?_
  walk_at "rd"
  rw [List.length_map, show decide (((s.names.length : Nat) : Int) < 12) = true from decide_eq_true (by omega)]
  exact q H1 s1
theorem met_Tex_add_name (W : Wd K mg) : C8.Met P w K mg base 1 (He.ga K "TableText") "add_name" (fun vs H Q _ => ∃ H0 x s n, vs = [.ref x, .str (SX.S n)] ∧ TexAt K H0 H x s ∧ (addN s.names n).length ≤ 12 ∧ ∀ H', TexAt K H0 H' x { s with names := addN s.names n } → TSame H H' → Q .non H') [] := by
  refine mk_TableText_add_name W (fun vs H Q E h => ?_) fun cdv A outer s H vs Q E hr h => ?_
  · obtain ⟨H0, x, s, n, rfl, _⟩ := h
    rfl
  obtain ⟨H0, x, s, n, rfl, hp, hl, q⟩ := h
  have hp0 := hp
  obtain ⟨s0, hx, hl2, dx, fN, fT, pr, tas, ex, hf, eN, eT, ha, hpr⟩ := hp
  refine ⟨_, (pss_one (ps_if (pt_cmpR (opNin (K := K)) (pv 1) (peFld (K := K) rfl (pv 0)) rfl)
    (pss_one (ps_expr (pe_bm PySem.F.plainAttrs_list PySem.F.slot_list_append PySem.F.type_list_append mt_append (peFld (K := K) rfl (pv 0)) (pa_cons (pv 1) pa_nil))))
    pss_nil)), ?_⟩
  walk_at "rd"
  refine r_fl ex W.c_TableText W.n_TableText_names rfl ?_
  refine ⟨fN, _, rfl, .inl (SqL.of eN), rfl, flat_strL _, ?_⟩
  rw [if_pos rfl, inV_str]
  walk_at "rd"
  refine r_ndec (fun hnm => ?_) fun hm => ?_
  · walk_at "rd"
    refine r_fl ex W.c_TableText W.n_TableText_names rfl ?_
    refine r_tyL eN ?_
    walk_at "rd"
    have hl1 := hl2.1
    refine r_app eN (by rw [List.length_map]; omega) ?_
    have t1 := upd_lst_ts (o := .lst (strL s.names ++ [.str (SX.S n)])) eN
    refine q _ ⟨same_set hf.1 s0, hx, ⟨hl, hl2.2⟩, dx, fN, fT, pr, tas, (upd_ne (ins_ne ex eN)).trans ex, hf, ?_, (upd_ne hf.2.2.symm).trans eT, ha.imp fun a x => t1 _ _, t1 _ _ hpr⟩ t1
    rw [upd_same]
    show _ = some (HO.lst (strL (addN s.names n)))
    unfold addN
    rw [if_neg hnm, strL, strL, List.map_append] <;> rfl
  · walk_at "rd"
    refine q H ?_ (TSame.refl H)
    unfold addN
    rw [if_pos hm]
    exact hp0
end
end K07

set_option maxRecDepth 100000
set_option maxHeartbeats 4000000
namespace K07
open PySem PySem.Spec PyProof.Rows L2
local macro_rules | `(tactic| walk_at "rd") => `(tactic| repeat (first
  | with_reducible refine r_seq ?_ | with_reducible refine r_asg ?_ | with_reducible refine r_name ?_ | with_reducible refine r_ret ?_ | with_reducible refine r_drop ?_ | with_reducible refine r_if ?_ | with_reducible refine r_nx ?_
  | with_reducible refine r_c ?_ | with_reducible refine r_op ?_ | with_reducible refine r_un ?_ | with_reducible refine r_cons ?_ | with_reducible refine r_nil ?_ | with_reducible refine r_test ?_ | with_reducible refine r_B ?_
  | with_reducible refine r_and ?_ | with_reducible refine r_or ?_ | with_reducible refine r_not ?_ | with_reducible refine r_andV ?_ | with_reducible refine r_orV ?_ | with_reducible refine r_notV ?_ | with_reducible refine r_tif ?_
  | with_reducible refine r_chain ?_ | with_reducible refine r_tyes ?_ | with_reducible refine r_lc ?_ | with_reducible refine r_rng1 ?_ | with_reducible refine r_itup ?_ | with_reducible refine r_ilist ?_ | with_reducible refine r_ienum ?_ | with_reducible refine r_istr ?_
  | with_reducible refine r_tup ?_ | with_reducible refine r_lst ?_ | with_reducible refine r_tfld ?_ | with_reducible refine r_gcons ?_ | with_reducible refine r_gnil ?_ | with_reducible refine r_gfld ?_ | with_reducible refine r_for ?_ | with_reducible refine r_sfld ?_ | with_reducible refine r_call ?_ | with_reducible refine r_cb ?_ | with_reducible refine r_sl ?_ | with_reducible refine r_np ?_ | with_reducible refine r_pt ?_ | with_reducible refine r_m1 ?_ | with_reducible refine r_par ?_ | with_reducible refine r_p2 ?_ | with_reducible refine r_u ?_ | with_reducible refine r_meth ?_ | with_reducible refine r_make ?_ | with_reducible refine r_gsub ?_ | with_reducible refine r_bm ?_ | with_reducible refine r_bm0 ?_ | with_reducible refine r_j0 ?_ | with_reducible refine r_jF ?_ | with_reducible refine r_jN ?_ | with_reducible refine r_bl ?_ | with_reducible refine r_i0 ?_ | with_reducible refine tt_ite ?_ | with_reducible refine ff_ite ?_ | with_reducible refine nt_ite ?_ | with_reducible refine nf_ite ?_
  | with_reducible refine r_var (by with_unfolding_all exact rfl) ?_))
section
variable {P : Program} {w : World} {K : PySem.W.Frag} {mg : Str → Option Value} {base : Heap}
theorem met_TableText_lets_name (W : Wd K mg) : C8.Met P w K mg base 2 (He.ga K "TableText") "lets_name" (fun vs H Q _ => ∃ H0 x s n, vs = [.ref x, .str (SX.S n)] ∧ TexAt K H0 H x s ∧ IsName n ∧ (addN s.names n).length ≤ 12 ∧ ∀ H', Same H H' → Q (.bl true) H') [] := met_Tex_lets_name W
theorem met_TableText_add_name (W : Wd K mg) : C8.Met P w K mg base 1 (He.ga K "TableText") "add_name" (fun vs H Q _ => ∃ H0 x s n, vs = [.ref x, .str (SX.S n)] ∧ TexAt K H0 H x s ∧ (addN s.names n).length ≤ 12 ∧ ∀ H', TexAt K H0 H' x { s with names := addN s.names n } → TSame H H' → Q .non H') [] := met_Tex_add_name W
theorem met_TableText_take_name (W : Wd K mg) : C8.Met P w K mg base 4 (He.ga K "TableText") "take_name" (fun vs H Q _ => ∃ H0 x s m s', vs = [.ref x, .str (SX.S m)] ∧ TexAt K H0 H x s ∧ TStep s m s' ∧ s.stage ≤ 1 ∧ s'.stage ≠ 0 ∧ ∀ H', TexAt K H0 H' x s' → TSame H H' → Q (.bl true) H') [] := by
  refine mk_TableText_take_name W (fun vs H Q E h => ?_) fun cdv A outer s H vs Q E hr h => ?_
  · obtain ⟨H0, x, s, m, s', rfl, _⟩ := h
    rfl
  obtain ⟨H0, x, s, m, s', rfl, hp, hst, h1, h2, q⟩ := h
  refine ⟨_, (pss_cons (ps_if (pt_cmpR op_eq (peFld (K := K) rfl (pv 0)) pe_str (nomark _))
    (pss_cons (ps_if (pt_not (pt_val (C8.pe_mt (met_TableText_lets_name W) hr (by decide) (pv 0) (pa_cons (pv 1) pa_nil))))
    (pss_one (ps_ret pe_bl))
    pss_nil)
    (pss_cons (ps_expr (C8.pe_mt (met_TableText_add_name W) hr (by decide) (pv 0) (pa_cons (pv 1) pa_nil)))
    (pss_cons (ps_asg (pe_tup (pa_cons (pe_tup (pa_cons (pv 1) (pa_cons pe_str pa_nil))) (pa_cons pe_str pa_nil))) (pgT (K := K) (n := 2) rfl rfl (pgs_cons (pgF (K := K) rfl (pv 0)) (pgs_cons (pgF (K := K) rfl (pv 0)) pgs_nil))))
    (pss_one (ps_ret pe_bl)))))
    pss_nil)
    (pss_cons (ps_if (PW.pt (pw_or (pt_not (pt_val (C8.pe_mt (met_TableText_lets_name W) hr (by decide) (pv 0) (pa_cons (pv 1) pa_nil)))) (pw_or (pt_cmpR op_eq (pv 1) (pe_ix (ixT (K := K)) (peFld (K := K) rfl (pv 0)) pe_int (fun _ _ => rfl)) (nomark _)) (pw_or1 (pt_cmpR op_eq (pe_callB (crLn (K := K)) rfl W.z_len (by decide +kernel) (pa_cons (peFld (K := K) rfl (pv 0)) pa_nil)) (C8.pe_gc rfl W.i_MOST_TIES) (nomark _))))))
    (pss_one (ps_ret pe_bl))
    pss_nil)
    (pss_cons (ps_expr (C8.pe_mt (met_TableText_add_name W) hr (by decide) (pv 0) (pa_cons (pv 1) pa_nil)))
    (pss_cons (ps_asg (pe_tup (pa_cons (pe_tup (pa_cons (pe_ix (ixT (K := K)) (peFld (K := K) rfl (pv 0)) pe_int (fun _ _ => rfl)) (pa_cons (pv 1) pa_nil))) (pa_cons pe_str pa_nil))) (pgT (K := K) (n := 2) rfl rfl (pgs_cons (pgF (K := K) rfl (pv 0)) (pgs_cons (pgF (K := K) rfl (pv 0)) pgs_nil))))
    (pss_one (ps_ret pe_bl)))))), ?_⟩
  cases hst with
  | minus => simp only at h1; omega
  | num _ _ => simp only at h1; omega
  | neg _ _ _ => simp only at h1; omega
  | line _ => simp only at h2; omega
  | @one names ties p0 p1 n hn hl =>
    obtain ⟨dx, fN, fT, pr, tas, ex, _⟩ := hp.ex
    walk_at "rd"
    refine r_fl ex W.c_TableText W.n_TableText_stage rfl ?_
    walk_at "rd"
    refine r_eq rfl ?_
    rw [show decide (V.str (tstS 0) = V.str "line") = true from decide_eq_true rfl]
    walk_at "rd"
    refine r_ms ex rfl ?_
    walk_at "rd"
    refine ⟨H0, x, _, m, rfl, hp, hn, hl, fun H1 s1 => ?_⟩
    walk_at "rd"
    refine r_ms (s1 _ _ ex) rfl ?_
    walk_at "rd"
    refine ⟨H0, x, _, m, rfl, hp.same s1, hl, fun H2 h2 t2 => ?_⟩
    walk_at "rd"
    refine ⟨small (show 2 ≤ 100 by decide), fun pr' hpr => ?_⟩
    have s3 := same_upd (o := .tup [.str (SX.S m), .str ""]) hpr
    walk_at "rd"
    refine ⟨small (show 2 ≤ 100 by decide), fun T hT => ?_⟩
    have s4 := same_upd (o := .tup [.ref pr', .str "one"]) hT
    refine r_gtup (xs := [.ref pr', .str "one"]) (TupAt.of upd_same).sq rfl ?_
    have h4 := h2.same (s3.trans s4)
    have hpt : TupAt (upd (upd H2 pr' (.tup [.str (SX.S m), .str ""])) T (.tup [.ref pr', .str "one"])) pr' [.str (SX.S m), .str (SX.S [])] := (TupAt.of (s4 _ _ upd_same))
    obtain ⟨dx5, fN5, fT5, pr5, ex5, h5, t5⟩ := h4.setPair hpt
    walk_at "rd"
    refine ⟨x, _, dx5, _, rfl, ex5, W.c_TableText, W.n_TableText_pair, (show 4 < 1000 by decide), ?_⟩
    obtain ⟨dx6, fN6, fT6, pr6, ex6, h6, t6⟩ := h5.setStage 1
    walk_at "rd"
    refine ⟨x, _, dx6, _, rfl, ex6, W.c_TableText, W.n_TableText_stage, (show 4 < 1000 by decide), ?_⟩
    walk_at "rd"
    exact q _ h6 (((((Same.ts s1).trans t2).trans (Same.ts (s3.trans s4))).trans t5).trans t6)
  | @two names ties p0 p1 n hn hl hne hlt =>
    obtain ⟨dx, fN, fT, pr, tas, ex, hf, eN, eT, ha, hpr⟩ := hp.ex
    walk_at "rd"
    refine r_fl ex W.c_TableText W.n_TableText_stage rfl ?_
    walk_at "rd"
    refine r_eq rfl ?_
    rw [show decide (V.str (tstS 1) = V.str "line") = false by rw [str_eqd]; decide +kernel]
    walk_at "rd"
    refine r_ms ex rfl ?_
    walk_at "rd"
    refine ⟨H0, x, _, m, rfl, hp, hn, hl, fun H1 s1 => ?_⟩
    walk_at "rd"
    refine r_fl (s1 _ _ ex) W.c_TableText W.n_TableText_pair rfl ?_
    walk_at "rd"
    refine r_ixT (v := .str (SX.S p0)) (hpr.same s1).sq rfl ?_
    refine r_eq rfl ?_
    rw [S_eqd, decide_eq_false hne]
    walk_at "rd"
    refine r_fl (s1 _ _ ex) W.c_TableText W.n_TableText_ties rfl ?_
    walk_at "rd"
    refine r_lnL (SqL.of (s1 _ _ eT)) ?_
    walk_at "rd"
    refine r_eq rfl ?_
    have la : tas.length = ties.length := ha.length
    rw [List.length_map, int_ne (by omega)]
    walk_at "rd"
    refine r_ms (s1 _ _ ex) rfl ?_
    walk_at "rd"
    refine ⟨H0, x, _, m, rfl, hp.same s1, hl, fun H2 h2 t2 => ?_⟩
    obtain ⟨dx2, fN2, fT2, pr2, tas2, ex2, hf2, eN2, eT2, ha2, hpr2⟩ := h2.ex
    walk_at "rd"
    refine r_fl ex2 W.c_TableText W.n_TableText_pair rfl ?_
    walk_at "rd"
    refine r_ixT (v := .str (SX.S p0)) hpr2.sq rfl ?_
    walk_at "rd"
    refine ⟨small (show 2 ≤ 100 by decide), fun pr' hpr => ?_⟩
    have s3 := same_upd (o := .tup [.str (SX.S p0), .str (SX.S m)]) hpr
    walk_at "rd"
    refine ⟨small (show 2 ≤ 100 by decide), fun T hT => ?_⟩
    have s4 := same_upd (o := .tup [.ref pr', .str "two"]) hT
    refine r_gtup (xs := [.ref pr', .str "two"]) (TupAt.of upd_same).sq rfl ?_
    have h4 := h2.same (s3.trans s4)
    have hpt : TupAt (upd (upd H2 pr' (.tup [.str (SX.S p0), .str (SX.S m)])) T (.tup [.ref pr', .str "two"])) pr' [.str (SX.S p0), .str (SX.S m)] := (TupAt.of (s4 _ _ upd_same))
    obtain ⟨dx5, fN5, fT5, pr5, ex5, h5, t5⟩ := h4.setPair hpt
    walk_at "rd"
    refine ⟨x, _, dx5, _, rfl, ex5, W.c_TableText, W.n_TableText_pair, (show 4 < 1000 by decide), ?_⟩
    obtain ⟨dx6, fN6, fT6, pr6, ex6, h6, t6⟩ := h5.setStage 2
    walk_at "rd"
    refine ⟨x, _, dx6, _, rfl, ex6, W.c_TableText, W.n_TableText_stage, (show 4 < 1000 by decide), ?_⟩
    walk_at "rd"
    exact q _ h6 (((((Same.ts s1).trans t2).trans (Same.ts (s3.trans s4))).trans t5).trans t6)
/-- a tie more -/
theorem TexAt.addTie {H0 H : Hp} {x : Addr} {names : List Cs} {ties : List Raw} {st : Nat} {p0 p1 : Cs} (h : TexAt K H0 H x ⟨names, ties, st, p0, p1⟩) (hl : ties.length < 60) : ∃ (dx fN fT pr : Addr) (tas : List Addr), H x = some (.ins (He.ga K "TableText") dx (tf fN fT pr (tstS st))) ∧ H fT = some (.lst (tas.map V.ref)) ∧ tas.length = ties.length ∧
    TupAt H pr [.str (SX.S p0), .str (SX.S p1)] ∧ ∀ (H1 : Hp) (q : Addr) (n : Int), Same H H1 → TupAt H1 q (rawV (p0, p1, n)) → TexAt K H0 (upd H1 fT (.lst (tas.map V.ref ++ [.ref q]))) x ⟨names, ties ++ [(p0, p1, n)], st, p0, p1⟩ ∧ TSame H1 (upd H1 fT (.lst (tas.map V.ref ++ [.ref q]))) := by
  obtain ⟨s0, hx, hl2, dx, fN, fT, pr, tas, ex, hf, eN, eT, ha, hpr⟩ := h
  refine ⟨dx, fN, fT, pr, tas, ex, eT, ha.length, hpr, fun H1 q n s1 hq => ?_⟩
  have t1 := upd_lst_ts (o := .lst (tas.map V.ref ++ [.ref q])) (s1 _ _ eT)
  refine ⟨⟨same_set hf.2.1 (s0.trans s1), hx, ⟨hl2.1, ?_⟩, dx, fN, fT, pr, tas ++ [q], (upd_ne (ins_ne ex eT)).trans (s1 _ _ ex), hf, (upd_ne hf.2.2).trans (s1 _ _ eN), by rw [upd_same, List.map_append] <;> rfl, ?_, t1 _ _ (hpr.same s1)⟩, t1⟩
  · show (ties ++ [_]).length ≤ 60
    rw [List.length_append, List.length_singleton]
    omega
  · exact (ha.imp fun a x h => t1 _ _ (h.same s1)).snoc (t1 _ _ hq)
theorem met_TableText_take_weight (W : Wd K mg) : C8.Met P w K mg base 4 (He.ga K "TableText") "take_weight" (fun vs H Q _ => ∃ H0 x s m s', vs = [.ref x, .str (SX.S m)] ∧ TexAt K H0 H x s ∧ TStep s m s' ∧ (s.stage = 2 ∨ s.stage = 3) ∧ ∀ H', TexAt K H0 H' x s' → TSame H H' → Q (.bl true) H') [] := by
  refine mk_TableText_take_weight W (fun vs H Q E h => ?_) fun cdv A outer s H vs Q E hr h => ?_
  · obtain ⟨H0, x, s, m, s', rfl, _⟩ := h
    rfl
  obtain ⟨H0, x, s, m, s', rfl, hp, hst, hs, q⟩ := h
  refine ⟨_, (pss_cons (ps_if (PW.pt (pw_and (pt_cmpR op_eq (pv 1) pe_str (nomark _)) (pw_and1 (pt_cmpR op_eq (peFld (K := K) rfl (pv 0)) pe_str (nomark _)))))
    (pss_cons (psFld (K := K) rfl (pv 0) pe_str)
    (pss_one (ps_ret pe_bl)))
    pss_nil)
    (pss_cons (ps_set (i := 2) sc_TableText_take_weight.nd rfl (.inl rfl) (C8.pe_c (cal_numeral_of W) hr (by decide) rfl (pa_cons (pv 1) (pa_cons (C8.pe_gc rfl W.i_MOST_WEIGHT) pa_nil))))
    (pss_cons (ps_if (PW.pt (pw_or (pt_cmpR op_isN (pv 2) pe_non (nomark _)) (pw_or1 (PW.pt (pw_and (pt_cmpR op_eq (pv 2) pe_int (nomark _)) (pw_and1 (pt_cmpR op_eq (peFld (K := K) rfl (pv 0)) pe_str (nomark _))))))))
    (pss_one (ps_ret pe_bl))
    pss_nil)
    (pss_cons (ps_expr (pe_bm PySem.F.plainAttrs_list PySem.F.slot_list_append PySem.F.type_list_append mt_append (peFld (K := K) rfl (pv 0)) (pa_cons (pe_op (opCatT (K := K)) (peFld (K := K) rfl (pv 0)) (pe_tup (pa_cons (pe_ifExp (pt_cmpR op_eq (peFld (K := K) rfl (pv 0)) pe_str (nomark _)) (pe_un un_neg (pv 2)) (pv 2)) pa_nil))) pa_nil)))
    (pss_cons (psFld (K := K) rfl (pv 0) pe_str)
    (pss_one (ps_ret pe_bl))))))), ?_⟩
  have minusS : Str.ofString "-" = SX.S [45] := by decide +kernel
  have d45 : ¬ IsD 45 := by unfold IsD; omega
  cases hst with
  | one _ _ => simp only at hs; omega
  | two _ _ _ _ => simp only at hs; omega
  | line h => simp only at hs; omega
  | @minus names ties p0 p1 =>
    obtain ⟨dx, fN, fT, pr, ex, h2, t2⟩ := hp.setStage 3
    walk_at "rd"
    refine r_eq rfl ?_
    rw [minusS, v_eq]
    walk_at "rd"
    refine r_fl ex W.c_TableText W.n_TableText_stage rfl ?_
    walk_at "rd"
    refine r_eq rfl ?_
    rw [show decide (V.str (tstS 2) = V.str "two") = true from decide_eq_true rfl]
    walk_at "rd"
    refine ⟨x, _, dx, _, rfl, ex, W.c_TableText, W.n_TableText_stage, (show 4 < 1000 by decide), ?_⟩
    walk_at "rd"
    exact q _ h2 t2
  | @num names ties p0 p1 v hv hl =>
    obtain ⟨dx, fN, fT, pr, tas, ex, eT, lt, hpr, add⟩ := hp.addTie hl
    walk_at "rd"
    refine r_eq rfl ?_
    rw [minusS, S_eqd, numL_ne_of d45]
    walk_at "rd"
    refine ⟨v, 1000000, rfl, hv, by decide, ?_⟩
    walk_at "rd"
    refine ⟨rfl, ?_⟩
    rw [show decide (V.int ((v : Nat) : Int) = V.non) = false from decide_eq_false fun z => by cases z]
    walk_at "rd"
    refine r_eq rfl ?_
    rw [int_eqd]
    walk_at "rd"
    refine r_dec (fun h0 => ?_) fun h0 => ?_
    · walk_at "rd"
      refine r_fl ex W.c_TableText W.n_TableText_stage rfl ?_
      walk_at "rd"
      refine r_eq rfl ?_
      rw [show decide (V.str (tstS 2) = V.str "minus") = false by rw [str_eqd]; decide +kernel]
      walk_at "rd"
      refine r_fl ex W.c_TableText W.n_TableText_ties rfl ?_
      refine r_tyL eT ?_
      walk_at "rd"
      refine r_fl ex W.c_TableText W.n_TableText_pair rfl ?_
      walk_at "rd"
      refine r_fl ex W.c_TableText W.n_TableText_stage rfl ?_
      walk_at "rd"
      refine r_eq rfl ?_
      rw [show decide (V.str (tstS 2) = V.str "minus") = false by rw [str_eqd]; decide +kernel]
      walk_at "rd"
      refine ⟨small (show 1 ≤ 100 by decide), fun t1 ht1 => ?_⟩
      have s3 := same_upd (o := .tup [.int ((v : Nat) : Int)]) ht1
      refine ⟨pr, t1, [.str (SX.S p0), .str (SX.S p1)], [.int ((v : Nat) : Int)], rfl, rfl, (hpr.same s3).sq, (TupAt.of upd_same).sq, small (show 3 ≤ 100 by decide), fun z => (by cases z), fun _ z => (by cases z), fun _ _ q0 hq0 => ?_⟩
      have s4 := same_upd (o := .tup ([.str (SX.S p0), .str (SX.S p1)] ++ [.int ((v : Nat) : Int)])) hq0
      obtain ⟨h5, t5⟩ := add _ q0 ((v : Nat) : Int) (s3.trans s4) (TupAt.of upd_same)
      walk_at "rd"
      refine r_app ((s3.trans s4) _ _ eT) (by rw [List.length_map]; omega) ?_
      obtain ⟨dx6, fN6, fT6, pr6, ex6, h6, t6⟩ := h5.setStage 4
      walk_at "rd"
      refine ⟨x, _, dx6, _, rfl, ex6, W.c_TableText, W.n_TableText_stage, (show 4 < 1000 by decide), ?_⟩
      walk_at "rd"
      exact q _ h6 (((Same.ts (s3.trans s4)).trans t5).trans t6)
    · walk_at "rd"
      refine r_fl ex W.c_TableText W.n_TableText_ties rfl ?_
      refine r_tyL eT ?_
      walk_at "rd"
      refine r_fl ex W.c_TableText W.n_TableText_pair rfl ?_
      walk_at "rd"
      refine r_fl ex W.c_TableText W.n_TableText_stage rfl ?_
      walk_at "rd"
      refine r_eq rfl ?_
      rw [show decide (V.str (tstS 2) = V.str "minus") = false by rw [str_eqd]; decide +kernel]
      walk_at "rd"
      refine ⟨small (show 1 ≤ 100 by decide), fun t1 ht1 => ?_⟩
      have s3 := same_upd (o := .tup [.int ((v : Nat) : Int)]) ht1
      refine ⟨pr, t1, [.str (SX.S p0), .str (SX.S p1)], [.int ((v : Nat) : Int)], rfl, rfl, (hpr.same s3).sq, (TupAt.of upd_same).sq, small (show 3 ≤ 100 by decide), fun z => (by cases z), fun _ z => (by cases z), fun _ _ q0 hq0 => ?_⟩
      have s4 := same_upd (o := .tup ([.str (SX.S p0), .str (SX.S p1)] ++ [.int ((v : Nat) : Int)])) hq0
      obtain ⟨h5, t5⟩ := add _ q0 ((v : Nat) : Int) (s3.trans s4) (TupAt.of upd_same)
      walk_at "rd"
      refine r_app ((s3.trans s4) _ _ eT) (by rw [List.length_map]; omega) ?_
      obtain ⟨dx6, fN6, fT6, pr6, ex6, h6, t6⟩ := h5.setStage 4
      walk_at "rd"
      refine ⟨x, _, dx6, _, rfl, ex6, W.c_TableText, W.n_TableText_stage, (show 4 < 1000 by decide), ?_⟩
      walk_at "rd"
      exact q _ h6 (((Same.ts (s3.trans s4)).trans t5).trans t6)
  | @neg names ties p0 p1 v hv h1 hl =>
    obtain ⟨dx, fN, fT, pr, tas, ex, eT, lt, hpr, add⟩ := hp.addTie hl
    walk_at "rd"
    refine r_eq rfl ?_
    rw [minusS, S_eqd, numL_ne_of d45]
    walk_at "rd"
    refine ⟨v, 1000000, rfl, hv, by decide, ?_⟩
    walk_at "rd"
    refine ⟨rfl, ?_⟩
    rw [show decide (V.int ((v : Nat) : Int) = V.non) = false from decide_eq_false fun z => by cases z]
    walk_at "rd"
    refine r_eq rfl ?_
    rw [int_ne (by omega)]
    walk_at "rd"
    refine r_fl ex W.c_TableText W.n_TableText_ties rfl ?_
    refine r_tyL eT ?_
    walk_at "rd"
    refine r_fl ex W.c_TableText W.n_TableText_pair rfl ?_
    walk_at "rd"
    refine r_fl ex W.c_TableText W.n_TableText_stage rfl ?_
    walk_at "rd"
    refine r_eq rfl ?_
    rw [show decide (V.str (tstS 3) = V.str "minus") = true from decide_eq_true rfl]
    walk_at "rd"
    refine ⟨small (show 1 ≤ 100 by decide), fun t1 ht1 => ?_⟩
    have s3 := same_upd (o := .tup [.int (-((v : Nat) : Int))]) ht1
    refine ⟨pr, t1, [.str (SX.S p0), .str (SX.S p1)], [.int (-((v : Nat) : Int))], rfl, rfl, (hpr.same s3).sq, (TupAt.of upd_same).sq, small (show 3 ≤ 100 by decide), fun z => (by cases z), fun _ z => (by cases z), fun _ _ q0 hq0 => ?_⟩
    have s4 := same_upd (o := .tup ([.str (SX.S p0), .str (SX.S p1)] ++ [.int (-((v : Nat) : Int))])) hq0
    obtain ⟨h5, t5⟩ := add _ q0 (-((v : Nat) : Int)) (s3.trans s4) (TupAt.of upd_same)
    walk_at "rd"
    refine r_app ((s3.trans s4) _ _ eT) (by rw [List.length_map]; omega) ?_
    obtain ⟨dx6, fN6, fT6, pr6, ex6, h6, t6⟩ := h5.setStage 4
    walk_at "rd"
    refine ⟨x, _, dx6, _, rfl, ex6, W.c_TableText, W.n_TableText_stage, (show 4 < 1000 by decide), ?_⟩
    walk_at "rd"
    exact q _ h6 (((Same.ts (s3.trans s4)).trans t5).trans t6)
end
end K07

set_option maxRecDepth 100000
set_option maxHeartbeats 4000000
namespace K07
open PySem PySem.Spec PyProof.Rows L2
local macro_rules | `(tactic| walk_at "rd") => `(tactic| repeat (first
  | with_reducible refine r_seq ?_ | with_reducible refine r_asg ?_ | with_reducible refine r_name ?_ | with_reducible refine r_ret ?_ | with_reducible refine r_drop ?_ | with_reducible refine r_if ?_ | with_reducible refine r_nx ?_
  | with_reducible refine r_c ?_ | with_reducible refine r_op ?_ | with_reducible refine r_un ?_ | with_reducible refine r_cons ?_ | with_reducible refine r_nil ?_ | with_reducible refine r_test ?_ | with_reducible refine r_B ?_
  | with_reducible refine r_and ?_ | with_reducible refine r_or ?_ | with_reducible refine r_not ?_ | with_reducible refine r_andV ?_ | with_reducible refine r_orV ?_ | with_reducible refine r_notV ?_ | with_reducible refine r_tif ?_
  | with_reducible refine r_chain ?_ | with_reducible refine r_tyes ?_ | with_reducible refine r_lc ?_ | with_reducible refine r_rng1 ?_ | with_reducible refine r_itup ?_ | with_reducible refine r_ilist ?_ | with_reducible refine r_ienum ?_ | with_reducible refine r_istr ?_
  | with_reducible refine r_tup ?_ | with_reducible refine r_lst ?_ | with_reducible refine r_tfld ?_ | with_reducible refine r_gcons ?_ | with_reducible refine r_gnil ?_ | with_reducible refine r_gfld ?_ | with_reducible refine r_for ?_ | with_reducible refine r_sfld ?_ | with_reducible refine r_call ?_ | with_reducible refine r_cb ?_ | with_reducible refine r_sl ?_ | with_reducible refine r_np ?_ | with_reducible refine r_pt ?_ | with_reducible refine r_m1 ?_ | with_reducible refine r_par ?_ | with_reducible refine r_p2 ?_ | with_reducible refine r_u ?_ | with_reducible refine r_meth ?_ | with_reducible refine r_make ?_ | with_reducible refine r_gsub ?_ | with_reducible refine r_bm ?_ | with_reducible refine r_bm0 ?_ | with_reducible refine r_j0 ?_ | with_reducible refine r_jF ?_ | with_reducible refine r_jN ?_ | with_reducible refine r_bl ?_ | with_reducible refine r_i0 ?_ | with_reducible refine tt_ite ?_ | with_reducible refine ff_ite ?_ | with_reducible refine nt_ite ?_ | with_reducible refine nf_ite ?_
  | with_reducible refine r_var (by with_unfolding_all exact rfl) ?_))
def strsD (l : List Cs) : PyData := .list (l.map fun n => .str (SX.S n))
theorem dpAll_strs {K : PySem.W.Frag} {H : Hp} : ∀ l : List Cs, DpAll K H (strL l) (l.map fun n => PyData.str (SX.S n))
  | [] => .nil
  | n :: l => .cons (.str _) (dpAll_strs l)
theorem strOk_name {n : Cs} (h : IsName n) : PyData.strOk (SX.S n) = true := by
  unfold PyData.strOk
  show n.toArray.all _ = true
  rw [List.all_toArray, List.all_eq_true]
  intro c hc
  have := h.2.2 c hc
  unfold IsL at this
  exact decide_eq_true (by omega)
theorem lay_strs : ∀ l : List Cs, (∀ n ∈ l, IsName n) → PyData.canLayAll0 (l.map fun n => PyData.str (SX.S n)) = true
  | [], _ => by simp [PyData.canLayAll0]
  | n :: l, h => by
    rw [List.map_cons]
    simp only [PyData.canLayAll0, PyData.canLay0, strOk_name (h n List.mem_cons_self), Bool.true_and]
    exact lay_strs l fun m hm => h m (List.mem_cons_of_mem _ hm)
theorem depth_strs : ∀ l : List Cs, PyData.depthAll (l.map fun n => PyData.str (SX.S n)) = 0
  | [] => by simp [PyData.depthAll]
  | n :: l => by
    rw [List.map_cons]
    simp only [PyData.depthAll, PyData.depth, depth_strs l]
    rfl
theorem shaped_strs {l : List Cs} (h : ∀ n ∈ l, IsName n) : SeqAt.shaped (strsD l) = true := by
  unfold SeqAt.shaped strsD
  rw [Bool.and_eq_true]
  refine ⟨?_, decide_eq_true ?_⟩
  · simp only [PyData.canLay0]
    exact lay_strs l h
  · simp only [PyData.depth, depth_strs]
    decide
theorem eqv_strs_nil (l : List Cs) : PyData.eqv (strsD l) (strsD []) = decide (l = []) := by
  cases l with
  | nil => simp [strsD, PyData.eqv, PyData.eqvAll]
  | cons n l => simp [strsD, PyData.eqv, PyData.eqvAll]
def rawOf (ns : List Cs) (x : Tie) : Raw := (nmAt ns x.1, nmAt ns x.2.1, x.2.2)
structure TexFin (ns : List Cs) (ts : List Tie) (s : TS) : Prop where
  perm : s.names.Perm ns
  ok : NamesOk ns
  ties : s.ties = ts.map (rawOf ns)
  tok : TiesOk ns.length ts
  st : s.stage = 0 ∨ s.stage = 1 ∨ s.stage = 4
section
variable {P : Program} {w : World} {K : PySem.W.Frag} {mg : Str → Option Value} {base : Heap}
theorem inV_st3 {st : Nat} (h : st = 0 ∨ st = 1 ∨ st = 4) : inV (.str (tstS st)) [.str "line", .str "one", .str "whole"] = true := by rcases h with rfl | rfl | rfl <;> decide +kernel
theorem name_ne {n : Cs} (hn : IsName n) {c : Nat} (hc : ¬ IsL c) : decide (n = [c]) = false := decide_eq_false fun e => hc (hn.2.2 c (by rw [e]; exact List.mem_cons_self))
theorem met_Tex_take (W : Wd K mg) : C8.Met P w K mg base 5 (He.ga K "TableText") "take" (fun vs H Q _ => ∃ H0 x s m s', vs = [.ref x, .str (SX.S m)] ∧ TexAt K H0 H x s ∧ TStep s m s' ∧ ∀ H', TexAt K H0 H' x s' → TSame H H' → Q (.bl true) H') [] := by
  refine mk_TableText_take W (fun vs H Q E h => ?_) fun cdv A outer s H vs Q E hr h => ?_
  · obtain ⟨H0, x, s, m, s', rfl, _⟩ := h
    rfl
  obtain ⟨H0, x, s, m, s', rfl, hp, hst, q⟩ := h
  refine ⟨_, (pss_cons (ps_if (PW.pt (pw_and (pt_cmpR op_eq (pv 1) pe_str (nomark _)) (pw_and1 (pt_cmpR (opIn (K := K)) (peFld (K := K) rfl (pv 0)) (pe_tup (pa_cons pe_str (pa_cons pe_str (pa_cons pe_str pa_nil)))) rfl))))
    (pss_cons (psFld (K := K) rfl (pv 0) pe_str)
    (pss_one (ps_ret pe_bl)))
    pss_nil)
    (pss_cons (ps_if (pt_cmpR (opIn (K := K)) (peFld (K := K) rfl (pv 0)) (pe_tup (pa_cons pe_str (pa_cons pe_str pa_nil))) rfl)
    (pss_one (ps_ret (C8.pe_mt (met_TableText_take_name W) hr (by decide) (pv 0) (pa_cons (pv 1) pa_nil))))
    pss_nil)
    (pss_one (ps_ret (pe_and (pe_cmpR (opIn (K := K)) (peFld (K := K) rfl (pv 0)) (pe_tup (pa_cons pe_str (pa_cons pe_str pa_nil))) rfl) (pe_one (C8.pe_mt (met_TableText_take_weight W) hr (by decide) (pv 0) (pa_cons (pv 1) pa_nil)))))))), ?_⟩
  have lineS : Str.ofString "\n" = SX.S [10] := by decide +kernel
  have l10 : ¬ IsL 10 := by unfold IsL; omega
  have d10 : ¬ IsD 10 := by unfold IsD; omega
  obtain ⟨dx, fN, fT, pr, tas, ex, _⟩ := hp.ex
  walk_at "rd"
  refine r_eq rfl ?_
  rw [lineS, S_eqd]
  cases hst with
  | @line names ties p0 p1 st hs =>
    rw [decide_eq_true rfl]
    walk_at "rd"
    refine r_fl ex W.c_TableText W.n_TableText_stage rfl ?_
    walk_at "rd"
    refine ⟨small (show 3 ≤ 100 by decide), fun T hT => ?_⟩
    have s1 := same_upd (o := .tup [.str "line", .str "one", .str "whole"]) hT
    refine ⟨T, _, rfl, .inr (TupAt.of upd_same).sq, rfl, rfl, ?_⟩
    rw [if_neg Bool.false_ne_true, inV_st3 hs]
    obtain ⟨dx', fN', fT', pr', ex', h6, t6⟩ := (hp.same s1).setStage 0
    walk_at "rd"
    refine ⟨x, _, dx', _, rfl, ex', W.c_TableText, W.n_TableText_stage, (show 4 < 1000 by decide), ?_⟩
    walk_at "rd"
    exact q _ h6 ((Same.ts s1).trans t6)
  | @one names ties p0 p1 n hn hl =>
    rw [name_ne hn l10]
    walk_at "rd"
    refine r_fl ex W.c_TableText W.n_TableText_stage rfl ?_
    walk_at "rd"
    refine ⟨small (show 2 ≤ 100 by decide), fun T hT => ?_⟩
    have s1 := same_upd (o := .tup [.str "line", .str "one"]) hT
    refine ⟨T, _, rfl, .inr (TupAt.of upd_same).sq, rfl, rfl, ?_⟩
    rw [if_neg Bool.false_ne_true, show inV (.str (tstS 0)) [.str "line", .str "one"] = true from by decide +kernel]
    walk_at "rd"
    refine r_ms (s1 _ _ ex) rfl ?_
    walk_at "rd"
    exact ⟨H0, x, _, _, _, rfl, hp.same s1, .one hn hl, (show 0 ≤ 1 by decide), (show 1 ≠ 0 by decide), fun H' h t => q H' h ((Same.ts s1).trans t)⟩
  | @two names ties p0 p1 n hn hl hne hlt =>
    rw [name_ne hn l10]
    walk_at "rd"
    refine r_fl ex W.c_TableText W.n_TableText_stage rfl ?_
    walk_at "rd"
    refine ⟨small (show 2 ≤ 100 by decide), fun T hT => ?_⟩
    have s1 := same_upd (o := .tup [.str "line", .str "one"]) hT
    refine ⟨T, _, rfl, .inr (TupAt.of upd_same).sq, rfl, rfl, ?_⟩
    rw [if_neg Bool.false_ne_true, show inV (.str (tstS 1)) [.str "line", .str "one"] = true from by decide +kernel]
    walk_at "rd"
    refine r_ms (s1 _ _ ex) rfl ?_
    walk_at "rd"
    exact ⟨H0, x, _, _, _, rfl, hp.same s1, .two hn hl hne hlt, (show 1 ≤ 1 by decide), (show 2 ≠ 0 by decide), fun H' h t => q H' h ((Same.ts s1).trans t)⟩
  | @minus names ties p0 p1 =>
    rw [show decide (([45] : Cs) = [10]) = false from by decide]
    walk_at "rd"
    refine r_fl ex W.c_TableText W.n_TableText_stage rfl ?_
    walk_at "rd"
    refine ⟨small (show 2 ≤ 100 by decide), fun T hT => ?_⟩
    have s1 := same_upd (o := .tup [.str "line", .str "one"]) hT
    refine ⟨T, _, rfl, .inr (TupAt.of upd_same).sq, rfl, rfl, ?_⟩
    rw [if_neg Bool.false_ne_true, show inV (.str (tstS 2)) [.str "line", .str "one"] = false from by decide +kernel]
    walk_at "rd"
    refine r_fl (s1 _ _ ex) W.c_TableText W.n_TableText_stage rfl ?_
    walk_at "rd"
    refine ⟨small (show 2 ≤ 100 by decide), fun T2 hT2 => ?_⟩
    have s2 := same_upd (o := .tup [.str "two", .str "minus"]) hT2
    refine ⟨T2, _, rfl, .inr (TupAt.of upd_same).sq, rfl, rfl, ?_⟩
    rw [if_neg Bool.false_ne_true, show inV (.str (tstS 2)) [.str "two", .str "minus"] = true from by decide +kernel]
    walk_at "rd"
    refine r_ms (s2 _ _ (s1 _ _ ex)) rfl ?_
    walk_at "rd"
    exact ⟨H0, x, _, _, _, rfl, hp.same (s1.trans s2), .minus, .inl rfl, fun H' h t => q H' h ((Same.ts (s1.trans s2)).trans t)⟩
  | @num names ties p0 p1 v hv hl =>
    rw [numL_ne_of d10]
    walk_at "rd"
    refine r_fl ex W.c_TableText W.n_TableText_stage rfl ?_
    walk_at "rd"
    refine ⟨small (show 2 ≤ 100 by decide), fun T hT => ?_⟩
    have s1 := same_upd (o := .tup [.str "line", .str "one"]) hT
    refine ⟨T, _, rfl, .inr (TupAt.of upd_same).sq, rfl, rfl, ?_⟩
    rw [if_neg Bool.false_ne_true, show inV (.str (tstS 2)) [.str "line", .str "one"] = false from by decide +kernel]
    walk_at "rd"
    refine r_fl (s1 _ _ ex) W.c_TableText W.n_TableText_stage rfl ?_
    walk_at "rd"
    refine ⟨small (show 2 ≤ 100 by decide), fun T2 hT2 => ?_⟩
    have s2 := same_upd (o := .tup [.str "two", .str "minus"]) hT2
    refine ⟨T2, _, rfl, .inr (TupAt.of upd_same).sq, rfl, rfl, ?_⟩
    rw [if_neg Bool.false_ne_true, show inV (.str (tstS 2)) [.str "two", .str "minus"] = true from by decide +kernel]
    walk_at "rd"
    refine r_ms (s2 _ _ (s1 _ _ ex)) rfl ?_
    walk_at "rd"
    exact ⟨H0, x, _, _, _, rfl, hp.same (s1.trans s2), .num hv hl, .inl rfl, fun H' h t => q H' h ((Same.ts (s1.trans s2)).trans t)⟩
  | @neg names ties p0 p1 v hv h1 hl =>
    rw [numL_ne_of d10]
    walk_at "rd"
    refine r_fl ex W.c_TableText W.n_TableText_stage rfl ?_
    walk_at "rd"
    refine ⟨small (show 2 ≤ 100 by decide), fun T hT => ?_⟩
    have s1 := same_upd (o := .tup [.str "line", .str "one"]) hT
    refine ⟨T, _, rfl, .inr (TupAt.of upd_same).sq, rfl, rfl, ?_⟩
    rw [if_neg Bool.false_ne_true, show inV (.str (tstS 3)) [.str "line", .str "one"] = false from by decide +kernel]
    walk_at "rd"
    refine r_fl (s1 _ _ ex) W.c_TableText W.n_TableText_stage rfl ?_
    walk_at "rd"
    refine ⟨small (show 2 ≤ 100 by decide), fun T2 hT2 => ?_⟩
    have s2 := same_upd (o := .tup [.str "two", .str "minus"]) hT2
    refine ⟨T2, _, rfl, .inr (TupAt.of upd_same).sq, rfl, rfl, ?_⟩
    rw [if_neg Bool.false_ne_true, show inV (.str (tstS 3)) [.str "two", .str "minus"] = true from by decide +kernel]
    walk_at "rd"
    refine r_ms (s2 _ _ (s1 _ _ ex)) rfl ?_
    walk_at "rd"
    exact ⟨H0, x, _, _, _, rfl, hp.same (s1.trans s2), .neg hv h1 hl, .inr rfl, fun H' h t => q H' h ((Same.ts (s1.trans s2)).trans t)⟩
theorem met_Tex_ends (W : Wd K mg) {ns : List Cs} {ts : List Tie} : C8.Met P w K mg base 5 (He.ga K "TableText") "ends" (fun vs H Q _ => ∃ H0 x s, vs = [.ref x] ∧ TexAt K H0 H x s ∧ TexFin ns ts s ∧ ∀ H', Same H H' → Q (.bl true) H') [] := by
  refine mk_TableText_ends W (fun vs H Q E h => ?_) fun cdv A outer s H vs Q E hr h => ?_
  · obtain ⟨H0, x, s, rfl, _⟩ := h
    rfl
  obtain ⟨H0, x, s, rfl, hp, hf, q⟩ := h
  obtain ⟨dx, fN, fT, pr, tas, ex, hf2, eN, eT, ha, hpr⟩ := hp.ex
  refine ⟨_, (pss_one (ps_ret (pe_and (pe_cmpR (opIn (K := K)) (peFld (K := K) rfl (pv 0)) (pe_tup (pa_cons pe_str (pa_cons pe_str (pa_cons pe_str pa_nil)))) rfl) (pe_one (pe_cmpR (opNeD (K := K) hr) (peFld (K := K) rfl (pv 0)) (pe_lst pa_nil) (nomark _)))))), ?_⟩
  have hnm : ∀ n ∈ s.names, IsName n := fun n hn => hf.ok.2.2.1 n (hf.perm.mem_iff.mp hn)
  have hne : s.names ≠ [] := fun e => by
    have := hf.perm.length_eq
    have := hf.ok.1
    rw [e] at *
    simp only [List.length_nil] at *
    omega
  walk_at "rd"
  refine r_fl ex W.c_TableText W.n_TableText_stage rfl ?_
  walk_at "rd"
  refine ⟨small (show 3 ≤ 100 by decide), fun T hT => ?_⟩
  have s1 := same_upd (o := .tup [.str "line", .str "one", .str "whole"]) hT
  refine ⟨T, _, rfl, .inr (TupAt.of upd_same).sq, rfl, rfl, ?_⟩
  rw [if_neg Bool.false_ne_true, inV_st3 hf.st]
  walk_at "rd"
  refine r_fl (s1 _ _ ex) W.c_TableText W.n_TableText_names rfl ?_
  walk_at "rd"
  refine ⟨small (by decide), fun L hL => ?_⟩
  have s2 := same_upd (o := .lst []) hL
  refine ⟨strsD s.names, strsD [], .lst (SqL.of (s2 _ _ (s1 _ _ eN))) (dpAll_strs _), .lst (SqL.of upd_same) .nil, shaped_strs hnm, shaped_strs (fun n hn => by cases hn), ?_⟩
  rw [eqv_strs_nil, decide_eq_false hne]
  exact q _ (s1.trans s2)
theorem met_Tex_told (W : Wd K mg) {ns : List Cs} {ts : List Tie} : C8.Met P w K mg base 5 (He.ga K "TableText") "told" (fun vs H Q _ => ∃ H0 x s, vs = [.ref x] ∧ TexAt K H0 H x s ∧ TexFin ns ts s ∧ ∀ v H', Same H0 H' → (fun (_ : Hp) (_ : TS) v H' => ∃ p, v = V.ref p ∧ TabF K H' p ns ts) H0 s v H' → Q v H') [] := by
  refine mk_TableText_told W (fun vs H Q E h => ?_) fun cdv A outer s H vs Q E hr h => ?_
  · obtain ⟨H0, x, s, rfl, _⟩ := h
    rfl
  obtain ⟨H0, x, s, rfl, hp, hfin, q⟩ := h
  have s0 := hp.old
  obtain ⟨dx, fN, fT, pr, tas, ex, hf2, eN, eT, ha, hpr⟩ := hp.ex
  refine ⟨_, (pss_cons (ps_set (i := 1) sc_TableText_told.nd rfl (.inr rfl) (pe_callTy (crTp (K := K)) rfl W.z_tuple (by decide +kernel) (pa_cons (pe_callB (crSortS (K := K)) rfl W.z_sorted (by decide +kernel) (pa_cons (peFld (K := K) rfl (pv 0)) pa_nil)) pa_nil)))
    (pss_cons (ps_setLc (i := 2) (own := [("one", 3), ("other", 4), ("weight", 5)]) (g := gTup K 3 (gCons (gName 3) (gCons (gName 4) (gCons (gName 5) gNil)))) (tt := tYes) rfl sc_TableText_told.nd rfl rfl (sw_true rfl rfl rfl (by decide +kernel)) (piL (K := K) rfl (peFld (K := K) rfl (pv 0))) (blkOk_by (own := [("one", 3), ("other", 4), ("weight", 5)]) (N := N_TableText_told) (sc := defScope s_TableText_told) (by decide +kernel)) (fun _ _ _ _ _ => (pgT (K := K) (n := 3) rfl rfl (pgs_cons (pg_name (i := 3) sc_TableText_told.nd rfl (Or.inl rfl)) (pgs_cons (pg_name (i := 4) sc_TableText_told.nd rfl (Or.inl rfl)) (pgs_cons (pg_name (i := 5) sc_TableText_told.nd rfl (Or.inl rfl)) pgs_nil))))) (fun _ _ _ _ _ => pts_nil) (fun _ _ _ _ _ => (pe_tup (pa_cons (peTM PySem.F.slot_tuple_index PySem.F.type_tuple_index (mtTx (K := K)) (pv 1) (pa_cons (pv 3) pa_nil)) (pa_cons (peTM PySem.F.slot_tuple_index PySem.F.type_tuple_index (mtTx (K := K)) (pv 1) (pa_cons (pv 4) pa_nil)) (pa_cons (pv 5) pa_nil))))))
    (pss_one (ps_ret (C8.pe_mk (mak_Table W) hr (by decide) rfl (pa_cons (pv 1) (pa_cons (pe_callTy (crTp (K := K)) rfl W.z_tuple (by decide +kernel) (pa_cons (pv 2) pa_nil)) pa_nil))))))), ?_⟩
  have hn := hfin.ok
  have ln : s.names.length ≤ 12 := hp.len.1
  walk_at "rd"
  refine r_fl ex W.c_TableText W.n_TableText_names rfl ?_
  walk_at "rd"
  refine ⟨fN, s.names.map SX.S, rfl, SqL.of (eN.trans (by rw [List.map_map] <;> rfl)), by rw [List.length_map]; omega, fun ys p h1 h2 hp' => ?_⟩
  obtain rfl := sorted_names hn.2.2.2 hfin.perm h1 h2
  have s1 := same_upd (o := .lst ((ns.map SX.S).map V.str)) hp'
  walk_at "rd"
  refine ⟨p, _, rfl, SqL.of upd_same, fun A o hA ho => ?_⟩
  have s2 := same_upd (o := .frz o (.tup ((ns.map SX.S).map V.str))) hA
  have eA : upd (upd H p (.lst ((ns.map SX.S).map V.str))) A (.frz o (.tup ((ns.map SX.S).map V.str))) A = some (.frz o (.tup (strL ns))) := by
    rw [upd_same, List.map_map] <;> rfl
  have s12 := s1.trans s2
  generalize upd (upd H p (.lst ((ns.map SX.S).map V.str))) A (.frz o (.tup ((ns.map SX.S).map V.str))) = H2 at s12 eA ⊢
  walk_at "rd"
  refine r_fl (s12 _ _ ex) W.c_TableText W.n_TableText_ties rfl ?_
  have ht : All2 (fun a x => TupAt H2 a (rawV (rawOf ns x))) tas ts := by
    have : ∀ {l : List Addr} {l' : List Raw} {ts : List Tie}, All2 (fun a x => TupAt H a (rawV x)) l l' → l' = ts.map (rawOf ns) → All2 (fun a x => TupAt H2 a (rawV (rawOf ns x))) l ts := by
      intro l l' ts h
      induction h generalizing ts with
      | nil =>
        intro e
        cases ts with
        | nil => exact .nil
        | cons _ _ => cases e
      | cons r _ ih =>
        intro e
        cases ts with
        | nil => cases e
        | cons y ts =>
          rw [List.map_cons] at e
          obtain ⟨e1, e2⟩ := List.cons.inj e
          subst e1
          exact .cons (r.same s12) (ih e2)
    exact this ha hfin.ties
  have lts := hfin.tok.1
  refine ⟨fT, rfl, ⟨_, SqL.of (s12 _ _ eT)⟩, fun D hD => lc_it walk_list (fun i H' => Same H2 H' ∧ ∃ acc : List Addr, H' D = some (.lst (acc.map V.ref)) ∧ All2 (fun a x => TupAt H' a (tieV x)) acc (ts.take i)) ⟨same_upd hD, [], upd_same, .nil⟩ (fun i H' _ p => SqL.of (p.1 _ _ (s12 _ _ eT))) ?_ ?_⟩
  · rintro i v H3 H4 hi ⟨s3, acc, eD, hacc⟩ ⟨rfl, ev⟩
    obtain ⟨a, y, rfl, ey, hy⟩ := ht.at i v ev
    have hym := List.mem_of_getElem? ey
    obtain ⟨g1, g2, g3, g4⟩ := hfin.tok.2 y hym
    have acl : acc.length ≤ 60 := by
      rw [hacc.length, List.length_take]
      omega
    refine r_gtup (xs := [.str (SX.S (nmAt ns y.1)), .str (SX.S (nmAt ns y.2.1)), .int y.2.2]) (hy.same s3).sq rfl ?_
    walk_at "rd"
    refine ⟨rfl, ?_⟩
    walk_at "rd"
    refine r_tm ?_
    walk_at "rd"
    refine r_tx (s3 _ _ eA) ho ?_
    walk_at "rd"
    refine r_txi hn (s3 _ _ eA) g1 ?_
    refine r_tm ?_
    walk_at "rd"
    refine r_tx (s3 _ _ eA) ho ?_
    walk_at "rd"
    refine r_txi hn (s3 _ _ eA) g2 ?_
    walk_at "rd"
    refine ⟨small (show 3 ≤ 100 by decide), fun q0 hq0 => ?_⟩
    have s4 := same_upd (o := .tup (tieV y)) hq0
    have eD4 := s4 _ _ eD
    have t5 := upd_lst_ts (o := .lst (acc.map V.ref ++ [.ref q0])) eD4
    refine ⟨_, eD4, by rw [List.length_map]; exact small' (by omega), same_set hD (s3.trans s4), acc ++ [q0], by rw [upd_same, List.map_append] <;> rfl, ?_⟩
    rw [List.take_succ, ey]
    exact (hacc.imp fun a x h => t5 _ _ (h.same s4)).snoc (t5 _ _ (TupAt.of upd_same))
  · rintro H3 ⟨s3, acc, eD, hacc⟩
    rw [List.take_of_length_le (by rw [List.length_map, ht.length]; omega)] at hacc
    walk_at "rd"
    refine ⟨D, _, rfl, SqL.of eD, fun B o2 hB ho2 => ?_⟩
    have s4 := same_upd (o := .frz o2 (.tup (acc.map V.ref))) hB
    have hB4 : TiesAt (upd H3 B (.frz o2 (.tup (acc.map V.ref)))) B ts := ⟨acc, TupAt.frz upd_same, hacc.imp fun a x h => h.same s4⟩
    have s34 := s3.trans s4
    generalize upd H3 B (.frz o2 (.tup (acc.map V.ref))) = H4 at s34 hB4 ⊢
    walk_at "rd"
    intro X DX hX hDX hne
    have s5 : Same H4 (upd (upd H4 DX (.own X)) X (.ins (He.ga K "Table") DX [])) := same_set hX (same_set hDX (Same.refl H4))
    refine ⟨X, A, B, DX, ns, ts, rfl, upd_same, TupAt.same s5 (TupAt.frz (s34 _ _ eA)), hB4.tsame (Same.ts s5), hn, hfin.tok, fun H6 k6 e6 => ⟨rfl, ?_⟩⟩
    have s6 : Same H4 H6 := fun c o' e => k6 _ _ (s5 _ _ e) (by rw [List.mem_singleton]; exact ne_none e hX)
    have s46 := s34.trans s6
    exact q _ _ ((s0.trans s12).trans s46) ⟨X, rfl, ⟨DX, A, B, o, e6, s46 _ _ eA, ho, hB4.tsame (Same.ts s6)⟩⟩
def texR (W : Wd K mg) (ns : List Cs) (ts : List Tie) : Rdr P w K mg base (He.ga K "TableText") where
  S := TS
  At := TexAt K
  step := TStep
  fin := TexFin ns ts
  Out := fun _ _ v H' => ∃ p, v = V.ref p ∧ TabF K H' p ns ts
  inst := fun h => by
    obtain ⟨dx, fN, fT, pr, tas, ex, _⟩ := h.ex
    exact ⟨dx, _, ex, rfl, rfl, rfl⟩
  same := fun h s1 => h.same s1
  old := fun h => h.old
  take := met_Tex_take W
  ends := met_Tex_ends W
  told := met_Tex_told W
end
end K07

set_option maxRecDepth 100000
set_option maxHeartbeats 4000000
/-! the marks of a shown text take a reader to its end -/
namespace K07
open PySem PySem.Spec PyProof.Rows L2
theorem len_sub {α : Type} [DecidableEq α] {l m : List α} (h : l.Nodup) (hm : m.Nodup) (hs : ∀ x ∈ l, x ∈ m) : l.length ≤ m.length := by
  have : (m.filter fun x => decide (x ∈ l)).Perm l := by
    refine (List.perm_ext_iff_of_nodup (hm.filter _) h).mpr fun x => ?_
    rw [List.mem_filter, decide_eq_true_iff]
    exact ⟨fun z => z.2, fun z => ⟨hs x z, z⟩⟩
  rw [← this.length_eq]
  exact List.length_filter_le _ _
theorem lt_nodup {ns : List Cs} (h : NamesOk ns) : ns.Nodup := h.2.2.2.imp fun {a b} h e => by
  subst e
  exact List.lt_irrefl _ h
/-! ### batches, lots -/
theorem intM_nat (j : Nat) : intM ((j : Nat) : Int) = [numL j] := by
  unfold intM
  rw [if_neg (by omega)] <;> rfl
theorem runs_bat : ∀ (js : List Nat) (s : List Nat), (∀ j ∈ js, 1 ≤ j ∧ j ≤ 100) → s.length + js.length ≤ 60 → Runs BatStep s (rowM (js.map fun j => Word.it (j : Nat))) (s ++ js)
  | [], s, _, _ => by
    rw [List.append_nil]
    exact .nil
  | j :: js, s, h, hl => by
    rw [List.length_cons] at hl
    show Runs BatStep s (intM ((j : Nat) : Int) ++ rowM (js.map fun j => Word.it (j : Nat))) _
    rw [intM_nat, show s ++ j :: js = (s ++ [j]) ++ js by simp]
    refine .cons ⟨j, rfl, (h j List.mem_cons_self).1, (h j List.mem_cons_self).2, by omega, rfl⟩ (runs_bat js (s ++ [j]) (fun k hk => h k (List.mem_cons_of_mem _ hk)) ?_)
    rw [List.length_append, List.length_singleton]
    omega
theorem runs_lot {ns : List Cs} : ∀ (js : List Nat) (s : List Nat), (∀ j ∈ js, j < ns.length) → (s ++ js).Nodup → s.length + js.length < 60 → Runs (LotStep ns) s (rowM (js.map fun j => Word.nm (nmAt ns j))) (s ++ js)
  | [], s, _, _, _ => by
    rw [List.append_nil]
    exact .nil
  | j :: js, s, h, hd, hl => by
    rw [List.length_cons] at hl
    have e : s ++ j :: js = (s ++ [j]) ++ js := by simp
    show Runs (LotStep ns) s (nmAt ns j :: rowM (js.map fun j => Word.nm (nmAt ns j))) _
    rw [e]
    rw [e] at hd
    refine .cons ⟨j, rfl, h j List.mem_cons_self, fun hm => ?_, by omega, rfl⟩ (runs_lot js (s ++ [j]) (fun k hk => h k (List.mem_cons_of_mem _ hk)) hd ?_)
    · have := (List.nodup_append.mp (List.nodup_append.mp hd).1).2.2 j hm j (by simp)
      exact this rfl
    · rw [List.length_append, List.length_singleton]
      omega
/-! ### days -/
theorem run_pr {g : Bool} {ns : List Cs} {bs : List (List Pr)} {cur : List Pr} {come : List Nat} {st : Nat} {p : Pr} (hp : PrOk ns.length p) (hc : p.1 ∉ come) (hl : come.length ≤ 60) (hl2 : cur.length ≤ 60) (hs : st = 0 ∨ (st = 3 ∧ g = true)) :
    Runs (PStep g ns) ⟨bs, cur, come, st⟩ (rowM (prW ns p)) ⟨bs, cur ++ [p], come ++ [p.1], 3⟩ := by
  show Runs _ _ (nmAt ns p.1 :: (intM p.2 ++ [])) _
  rw [List.append_nil]
  refine .cons (.name hp.1 hc hl hs) ?_
  obtain ⟨i, n⟩ := p
  have hn : n.natAbs ≤ 1000000000 := hp.2
  show Runs (PStep g ns) _ (intM n) _
  unfold intM
  by_cases h : n < 0
  · rw [if_pos h]
    refine .cons .minus ?_
    have e : n = -((n.natAbs : Nat) : Int) := by omega
    have z : PStep g ns ⟨bs, cur, come ++ [i], 2⟩ (numL n.natAbs) ⟨bs, cur ++ [(i, -((n.natAbs : Nat) : Int))], come ++ [i], 3⟩ := .neg hn (by omega) hl2
    rw [← e] at z
    exact .one z
  · rw [if_neg h]
    have e : n = ((n.natAbs : Nat) : Int) := by omega
    have z : PStep g ns ⟨bs, cur, come ++ [i], 1⟩ (numL n.natAbs) ⟨bs, cur ++ [(i, ((n.natAbs : Nat) : Int))], come ++ [i], 3⟩ := .num hn hl2
    rw [← e] at z
    exact .one z
theorem run_prs {g : Bool} {ns : List Cs} {bs : List (List Pr)} : ∀ (ps : List Pr) {cur : List Pr} {come : List Nat} {st : Nat}, ps ≠ [] → (∀ p ∈ ps, PrOk ns.length p) → (come ++ ps.map (·.1)).Nodup → come.length + ps.length ≤ 60 → cur.length + ps.length ≤ 60 → (g = true ∨ ps.length = 1) →
    (st = 0 ∨ (st = 3 ∧ g = true)) → Runs (PStep g ns) ⟨bs, cur, come, st⟩ (rowM (dayRow ns ps)) ⟨bs, cur ++ ps, come ++ ps.map (·.1), 3⟩
  | [], _, _, _, h, _, _, _, _, _, _ => absurd rfl h
  | p :: ps, cur, come, st, _, hok, hd, hl, hl2, hg, hs => by
    rw [List.length_cons] at hl hl2
    have e : come ++ (p :: ps).map (·.1) = (come ++ [p.1]) ++ ps.map (·.1) := by simp
    have e2 : cur ++ p :: ps = (cur ++ [p]) ++ ps := by simp
    have em : rowM (dayRow ns (p :: ps)) = rowM (prW ns p) ++ rowM (dayRow ns ps) := by
      unfold rowM dayRow
      rw [List.flatMap_cons, List.flatMap_append]
    rw [e] at hd
    rw [em, e, e2]
    have hc : p.1 ∉ come := fun hm => (List.nodup_append.mp (List.nodup_append.mp hd).1).2.2 p.1 hm p.1 (by simp) rfl
    refine (run_pr (hok p List.mem_cons_self) hc (by omega) (by omega) hs).append ?_
    by_cases h0 : ps = []
    · subst h0
      rw [List.append_nil, List.map_nil, List.append_nil]
      exact .nil
    · have hg' : g = true := by
        rcases hg with h | h
        · exact h
        · rw [List.length_cons] at h
          exact absurd (List.eq_nil_of_length_eq_zero (by omega)) h0
      refine run_prs ps h0 (fun q hq => hok q (List.mem_cons_of_mem _ hq)) hd ?_ ?_ (.inl hg') (.inr ⟨rfl, hg'⟩)
      · rw [List.length_append, List.length_singleton]
        omega
      · rw [List.length_append, List.length_singleton]
        omega
structure DayRun (g : Bool) (ns : List Cs) (d : List (List Pr)) : Prop where
  len : d.length ≤ 12
  row : ∀ ps ∈ d, ps ≠ [] ∧ ps.length ≤ 12 ∧ (∀ p ∈ ps, PrOk ns.length p) ∧ ps.Pairwise (fun p q => p.1 < q.1)
  nod : (d.flatten.map (·.1)).Nodup
  few : d.flatten.length ≤ 12
  one : g = true ∨ ∀ ps ∈ d, ps.length = 1
theorem run_rows {g : Bool} {ns : List Cs} : ∀ (d : List (List Pr)) {bs : List (List Pr)} {cur : List Pr} {come : List Nat}, cur ≠ [] → (∀ ps ∈ d, ps ≠ [] ∧ ps.length ≤ 12 ∧ (∀ p ∈ ps, PrOk ns.length p) ∧ ps.Pairwise (fun p q => p.1 < q.1)) → (come ++ d.flatten.map (·.1)).Nodup →
    come.length + d.flatten.length ≤ 60 → bs.length + d.length ≤ 60 → (g = true ∨ ∀ ps ∈ d, ps.length = 1) →
    ∃ bs' cur' come', bs' ++ [cur'] = bs ++ [cur] ++ d ∧ Runs (PStep g ns) ⟨bs, cur, come, 3⟩ ((d.map (dayRow ns)).flatMap fun q => [10] :: rowM q) ⟨bs', cur', come', 3⟩
  | [], bs, cur, come, _, _, _, _, _, _ => ⟨bs, cur, come, by rw [List.append_nil], .nil⟩
  | ps :: d, bs, cur, come, hc, hok, hd, hl, hb, hg => by
    rw [List.length_cons] at hb
    rw [List.flatten_cons, List.length_append] at hl
    rw [List.flatten_cons, List.map_append, ← List.append_assoc] at hd
    obtain ⟨h1, h2, h3, h4⟩ := hok ps List.mem_cons_self
    have z := run_prs (g := g) (ns := ns) (bs := bs ++ [cur]) ps (cur := []) (come := come) (st := 0) h1 h3 (List.nodup_append.mp hd).1 (by omega) (by simp only [List.length_nil]; omega) (hg.imp id fun h => h ps List.mem_cons_self) (.inl rfl)
    rw [List.nil_append] at z
    obtain ⟨bs', cur', come', e, r⟩ := run_rows d (bs := bs ++ [cur]) (cur := ps) (come := come ++ ps.map (·.1)) h1 (fun q hq => hok q (List.mem_cons_of_mem _ hq)) hd (by rw [List.length_append, List.length_map]; omega) (by rw [List.length_append, List.length_singleton]; omega) (hg.imp id fun h q hq => h q (List.mem_cons_of_mem _ hq))
    refine ⟨bs', cur', come', by rw [e]; simp, ?_⟩
    rw [List.map_cons, List.flatMap_cons]
    exact .cons (.line hc (by omega) (.inr rfl)) (z.append r)
theorem runs_day {g : Bool} {ns : List Cs} {d : List (List Pr)} (h : DayRun g ns d) : ∃ s', Runs (PStep g ns) ⟨[], [], [], 0⟩ (marksR (d.map (dayRow ns))) s' ∧ PaiFin s' ∧ paiRows s' = d := by
  obtain ⟨hlen, hrow, hnod, hfew, hone⟩ := h
  cases d with
  | nil => exact ⟨_, .nil, ⟨.inl rfl, Nat.zero_le _, fun r hr => by
      rw [List.mem_singleton.mp hr]
      exact ⟨.nil, Nat.zero_le _⟩⟩, rfl⟩
  | cons ps d =>
    rw [List.flatten_cons, List.length_append] at hfew
    rw [List.flatten_cons, List.map_append] at hnod
    rw [List.length_cons] at hlen
    obtain ⟨h1, h2, h3, h4⟩ := hrow ps List.mem_cons_self
    have z := run_prs (g := g) (ns := ns) (bs := []) ps (cur := []) (come := []) (st := 0) h1 h3 (by rw [List.nil_append]; exact (List.nodup_append.mp hnod).1) (by simp only [List.length_nil]; omega) (by simp only [List.length_nil]; omega) (hone.imp id fun h => h ps List.mem_cons_self) (.inl rfl)
    rw [List.nil_append, List.nil_append] at z
    obtain ⟨bs', cur', come', e, r⟩ := run_rows (g := g) (ns := ns) d (bs := []) (cur := ps) (come := ps.map (·.1)) h1 (fun q hq => hrow q (List.mem_cons_of_mem _ hq)) hnod (by rw [List.length_map]; omega) (by simp only [List.length_nil]; omega) (hone.imp id fun h q hq => h q (List.mem_cons_of_mem _ hq))
    have e : bs' ++ [cur'] = ps :: d := e
    refine ⟨_, z.append r, ⟨.inr rfl, ?_, fun q hq => ?_⟩, ?_⟩
    · have := congrArg List.length e
      rw [List.length_append, List.length_singleton, List.length_cons] at this
      show bs'.length ≤ 60
      omega
    · have hq : q ∈ ps :: d := by rw [← e]; exact hq
      obtain ⟨_, a, _, b⟩ := hrow q hq
      exact ⟨b, by omega⟩
    · show (bs' ++ [cur']).filter _ = _
      rw [e, List.filter_eq_self]
      intro q hq
      rw [decide_eq_false (hrow q hq).1] <;> rfl
end K07

set_option maxRecDepth 100000
set_option maxHeartbeats 4000000
/-! the marks of a table's text; a table's times -/
namespace K07
open PySem PySem.Spec PyProof.Rows L2
structure NI (ns names : List Cs) : Prop where
  nod : names.Nodup
  sub : ∀ n ∈ names, n ∈ ns
theorem NI.len {ns names : List Cs} (hn : NamesOk ns) (h : NI ns names) : names.length ≤ 12 := Nat.le_trans (len_sub h.nod (lt_nodup hn) h.sub) hn.2.1
theorem NI.add {ns names : List Cs} {n : Cs} (h : NI ns names) (hn : n ∈ ns) : NI ns (addN names n) := by
  unfold addN
  by_cases hm : n ∈ names
  · rw [if_pos hm]
    exact h
  · rw [if_neg hm]
    refine ⟨List.nodup_append.mpr ⟨h.nod, by simp, fun a ha b hb e => hm (by rw [List.mem_singleton.mp hb] at e; rw [← e]; exact ha)⟩, fun x hx => ?_⟩
    rcases List.mem_append.mp hx with h1 | h1
    · exact h.sub x h1
    · rw [List.mem_singleton.mp h1]
      exact hn
theorem mem_addN {names : List Cs} {n m : Cs} : m ∈ addN names n ↔ m ∈ names ∨ m = n := by
  unfold addN
  by_cases hm : n ∈ names
  · rw [if_pos hm]
    exact ⟨.inl, fun h => h.elim id fun e => by rw [e]; exact hm⟩
  · rw [if_neg hm, List.mem_append, List.mem_singleton]
inductive Item where
  | alone (i : Nat)
  | tie (x : Tie)
def Item.row (ns : List Cs) : Item → List Word
  | .alone i => [.nm (nmAt ns i)]
  | .tie x => tieW ns x
def Item.Ok (many : Nat) : Item → Prop
  | .alone i => i < many
  | .tie x => TieOk many x
def Item.ties (ns : List Cs) : Item → List Raw
  | .alone _ => []
  | .tie x => [rawOf ns x]
def Item.says (ns : List Cs) : Item → List Cs
  | .alone i => [nmAt ns i]
  | .tie x => [nmAt ns x.1, nmAt ns x.2.1]
theorem run_item {ns : List Cs} (hn : NamesOk ns) (r : Item) (hr : r.Ok ns.length) {names : List Cs} {ties : List Raw} {p0 p1 : Cs} (hi : NI ns names) (hl : ties.length + (r.ties ns).length ≤ 60) :
    ∃ names' p0' p1' st', Runs TStep ⟨names, ties, 0, p0, p1⟩ (rowM (r.row ns)) ⟨names', ties ++ r.ties ns, st', p0', p1'⟩ ∧ (st' = 1 ∨ st' = 4) ∧ NI ns names' ∧ ∀ m, m ∈ names' ↔ m ∈ names ∨ m ∈ r.says ns := by
  cases r with
  | alone i =>
    have hi1 : i < ns.length := hr
    have h1 := hi.add (nm_mem hi1)
    refine ⟨_, nmAt ns i, [], 1, ?_, .inl rfl, h1, fun m => ?_⟩
    · show Runs TStep _ [nmAt ns i] ⟨_, ties ++ [], _, _, _⟩
      rw [List.append_nil]
      exact .one (.one (nmAt_name hn hi1) (h1.len hn))
    · show _ ↔ _ ∨ m ∈ [nmAt ns i]
      rw [mem_addN, List.mem_singleton]
  | tie x =>
    obtain ⟨a, b, n⟩ := x
    obtain ⟨g1, g2, g3, g4⟩ := hr
    have g1 : a < ns.length := g1
    have g2 : b < ns.length := g2
    have g3 : a ≠ b := g3
    have g4 : n.natAbs ≤ 1000000 := g4
    have h1 := hi.add (nm_mem g1)
    have h2 := h1.add (nm_mem g2)
    have hl' : ties.length < 60 := by
      simp only [Item.ties, List.length_singleton] at hl
      omega
    refine ⟨_, nmAt ns a, nmAt ns b, 4, ?_, .inr rfl, h2, fun m => ?_⟩
    · show Runs TStep _ (nmAt ns a :: nmAt ns b :: (intM n ++ [])) _
      rw [List.append_nil]
      refine .cons (.one (nmAt_name hn g1) (h1.len hn)) (.cons (.two (nmAt_name hn g2) (h2.len hn) (fun e => g3 (nm_inj hn g1 g2 e.symm)) hl') ?_)
      unfold intM
      by_cases h : n < 0
      · rw [if_pos h]
        refine .cons .minus ?_
        have e : n = -((n.natAbs : Nat) : Int) := by omega
        have z : TStep ⟨addN (addN names (nmAt ns a)) (nmAt ns b), ties, 3, nmAt ns a, nmAt ns b⟩ (numL n.natAbs) _ := .neg g4 (by omega) hl'
        rw [← e] at z
        exact .one z
      · rw [if_neg h]
        have e : n = ((n.natAbs : Nat) : Int) := by omega
        have z : TStep ⟨addN (addN names (nmAt ns a)) (nmAt ns b), ties, 2, nmAt ns a, nmAt ns b⟩ (numL n.natAbs) _ := .num g4 hl'
        rw [← e] at z
        exact .one z
    · show _ ↔ _ ∨ m ∈ [nmAt ns a, nmAt ns b]
      rw [mem_addN, mem_addN, List.mem_cons, List.mem_singleton, or_assoc]
theorem run_items {ns : List Cs} (hn : NamesOk ns) : ∀ (rs : List Item) {names : List Cs} {ties : List Raw} {st : Nat} {p0 p1 : Cs}, (∀ r ∈ rs, r.Ok ns.length) → NI ns names → ties.length + (rs.flatMap (Item.ties ns)).length ≤ 60 → (st = 0 ∨ st = 1 ∨ st = 4) →
    ∃ names' p0' p1' st', Runs TStep ⟨names, ties, st, p0, p1⟩ ((rs.map (Item.row ns)).flatMap fun q => [10] :: rowM q) ⟨names', ties ++ rs.flatMap (Item.ties ns), st', p0', p1'⟩ ∧ (st' = 0 ∨ st' = 1 ∨ st' = 4) ∧ NI ns names' ∧ ∀ m, m ∈ names' ↔ m ∈ names ∨ ∃ r ∈ rs, m ∈ r.says ns
  | [], names, ties, st, p0, p1, _, hi, _, hs => ⟨names, p0, p1, st, by
      show Runs TStep _ [] ⟨_, ties ++ [], _, _, _⟩
      rw [List.append_nil]
      exact .nil, hs, hi, fun m => ⟨.inl, fun h => h.elim id fun ⟨_, hr, _⟩ => by cases hr⟩⟩
  | r :: rs, names, ties, st, p0, p1, ok, hi, hl, hs => by
    rw [List.flatMap_cons, List.length_append] at hl
    obtain ⟨n1, q0, q1, s1, r1, hs1, hi1, m1⟩ := run_item hn r (ok r List.mem_cons_self) (ties := ties) (p0 := p0) (p1 := p1) hi (by omega)
    obtain ⟨n2, q2, q3, s2, r2, hs2, hi2, m2⟩ := run_items hn rs (st := s1) (p0 := q0) (p1 := q1) (fun q hq => ok q (List.mem_cons_of_mem _ hq)) hi1 (ties := ties ++ r.ties ns) (by rw [List.length_append]; omega) (.inr hs1)
    refine ⟨n2, q2, q3, s2, ?_, hs2, hi2, fun m => ?_⟩
    · rw [List.map_cons, List.flatMap_cons, List.flatMap_cons, ← List.append_assoc]
      exact .cons (.line hs) (r1.append r2)
    · rw [m2, m1, or_assoc]
      refine or_congr Iff.rfl ⟨fun h => h.elim (fun h => ⟨r, List.mem_cons_self, h⟩) fun ⟨q, hq, h⟩ => ⟨q, List.mem_cons_of_mem _ hq, h⟩, fun ⟨q, hq, h⟩ => ?_⟩
      rcases List.mem_cons.mp hq with rfl | hq
      · exact .inl h
      · exact .inr ⟨q, hq, h⟩
def tabI (ns : List Cs) (ts : List Tie) : List Item := ((List.range ns.length).filter fun i => !usedB ts i).map Item.alone ++ ts.map Item.tie
theorem tabI_rows (ns : List Cs) (ts : List Tie) : (tabI ns ts).map (Item.row ns) = tabR ns ts := by
  unfold tabI tabR
  rw [List.map_append, List.map_map, List.map_map] <;> rfl
theorem tabI_ties (ns : List Cs) (ts : List Tie) : (tabI ns ts).flatMap (Item.ties ns) = ts.map (rawOf ns) := by
  unfold tabI
  rw [List.flatMap_append]
  have e1 : ∀ l : List Nat, (l.map Item.alone).flatMap (Item.ties ns) = [] := fun l => by
    induction l with
    | nil => rfl
    | cons a l ih => rw [List.map_cons, List.flatMap_cons, ih] <;> rfl
  have e2 : ∀ l : List Tie, (l.map Item.tie).flatMap (Item.ties ns) = l.map (rawOf ns) := fun l => by
    induction l with
    | nil => rfl
    | cons a l ih => rw [List.map_cons, List.flatMap_cons, ih] <;> rfl
  rw [e1, e2, List.nil_append]
theorem runs_table {ns : List Cs} {ts : List Tie} (hn : NamesOk ns) (ht : TiesOk ns.length ts) : ∃ s', Runs TStep ⟨[], [], 0, [], []⟩ (marksR (tabR ns ts)) s' ∧ TexFin ns ts s' := by
  have ok : ∀ r ∈ tabI ns ts, r.Ok ns.length := fun r hr => by
    rcases List.mem_append.mp hr with h | h
    · obtain ⟨i, hi, rfl⟩ := List.mem_map.mp h
      exact List.mem_range.mp (List.mem_filter.mp hi).1
    · obtain ⟨x, hx, rfl⟩ := List.mem_map.mp h
      exact ht.2 x hx
  have all : ∀ m, m ∈ ns → ∃ r ∈ tabI ns ts, m ∈ r.says ns := fun m hm => by
    obtain ⟨i, hi, rfl⟩ := List.getElem_of_mem hm
    by_cases hu : usedB ts i = true
    · obtain ⟨x, hx, e⟩ := List.any_eq_true.mp hu
      refine ⟨.tie x, List.mem_append.mpr (.inr (List.mem_map.mpr ⟨x, hx, rfl⟩)), ?_⟩
      show _ ∈ [nmAt ns x.1, nmAt ns x.2.1]
      rw [← nmAt_get hi]
      rcases Bool.or_eq_true_iff.mp e with e | e
      · rw [beq_iff_eq.mp e]
        exact List.mem_cons_self
      · rw [beq_iff_eq.mp e]
        exact List.mem_cons_of_mem _ List.mem_cons_self
    · refine ⟨.alone i, List.mem_append.mpr (.inl (List.mem_map.mpr ⟨i, List.mem_filter.mpr ⟨List.mem_range.mpr hi, by rw [Bool.not_eq_true] at hu; rw [hu] <;> rfl⟩, rfl⟩)), ?_⟩
      show _ ∈ [nmAt ns i]
      rw [nmAt_get hi]
      exact List.mem_singleton.mpr rfl
  have fin : ∀ (names : List Cs) (st : Nat) (p0 p1 : Cs), NI ns names → (st = 0 ∨ st = 1 ∨ st = 4) → (∀ m, m ∈ names ↔ ∃ r ∈ tabI ns ts, m ∈ r.says ns) → TexFin ns ts ⟨names, ts.map (rawOf ns), st, p0, p1⟩ := fun names st p0 p1 hi hs hm =>
    ⟨(List.perm_ext_iff_of_nodup hi.nod (lt_nodup hn)).mpr fun m => ⟨hi.sub m, fun h => (hm m).mpr (all m h)⟩, hn, rfl, ht, hs⟩
  rw [← tabI_rows]
  have lt := tabI_ties ns ts
  generalize tabI ns ts = rs at ok all fin lt ⊢
  cases rs with
  | nil =>
    obtain ⟨m, hm⟩ : ∃ m, m ∈ ns := List.exists_mem_of_ne_nil _ fun e => by
      have := hn.1
      rw [e] at this
      simp at this
    obtain ⟨r, hr, _⟩ := all m hm
    cases hr
  | cons r rs =>
    have hl := ht.1
    rw [List.flatMap_cons] at lt
    have ll := congrArg List.length lt
    rw [List.length_append, List.length_map] at ll
    obtain ⟨n1, q0, q1, s1, r1, hs1, hi1, m1⟩ := run_item hn r (ok r List.mem_cons_self) (names := []) (ties := []) (p0 := []) (p1 := []) ⟨.nil, fun n hn => by cases hn⟩ (by simp only [List.length_nil]; omega)
    obtain ⟨n2, q2, q3, s2, r2, hs2, hi2, m2⟩ := run_items hn rs (st := s1) (p0 := q0) (p1 := q1) (fun q hq => ok q (List.mem_cons_of_mem _ hq)) hi1 (ties := [] ++ r.ties ns) (by rw [List.length_append, List.length_nil]; omega) (.inr hs1)
    refine ⟨_, r1.append r2, ?_⟩
    rw [List.nil_append, lt]
    refine fin _ _ _ _ hi2 hs2 fun m => ?_
    rw [m2, m1]
    refine ⟨fun h => ?_, fun ⟨q, hq, h⟩ => ?_⟩
    · rcases h with (h | h) | ⟨q, hq, h⟩
      · cases h
      · exact ⟨r, List.mem_cons_self, h⟩
      · exact ⟨q, List.mem_cons_of_mem _ hq, h⟩
    · rcases List.mem_cons.mp hq with rfl | hq
      · exact .inl (.inr h)
      · exact .inr ⟨q, hq, h⟩
/-! ### times -/
theorem times_back (l : List Time) : timesAll l.length ((timesP l).map fun p => [p]) = l := by
  have step : ∀ k, k ≤ l.length → ∀ i : Nat, ((((List.range k).filter fun i => (l[i]?.getD none).isSome).map fun i => [(i, (l[i]?.getD none).getD 0)]).foldl setAll (List.replicate l.length none))[i]? = if i < k then l[i]? else if i < l.length then some none else none := by
    intro k
    induction k with
    | zero =>
      intro _ i
      rw [List.range_zero]
      show (List.replicate l.length none)[i]? = _
      rw [if_neg (Nat.not_lt_zero _), List.getElem?_replicate]
    | succ k ih =>
      intro hk i
      have hkl : k < l.length := hk
      have ih := ih (by omega)
      rw [List.range_succ, List.filter_append, List.map_append, List.foldl_append]
      generalize hF : (((List.range k).filter fun i => (l[i]?.getD none).isSome).map fun i => [(i, (l[i]?.getD none).getD 0)]).foldl setAll (List.replicate l.length none) = F at ih ⊢
      have lenF : F.length = l.length := by
        rw [← hF]
        exact timesAll_len l.length _
      have e0 : l[k]? = some l[k] := List.getElem?_eq_getElem hkl
      cases hv : l[k] with
      | none =>
        rw [List.filter_cons_of_neg (by rw [e0, hv]; decide), List.filter_nil]
        show F[i]? = _
        rw [ih i]
        by_cases h1 : i < k
        · rw [if_pos h1, if_pos (by omega)]
        · by_cases h2 : i = k
          · subst h2
            rw [if_neg h1, if_pos hkl, if_pos (by omega), e0, hv]
          · rw [if_neg h1, if_neg (by omega : ¬ i < k + 1)]
      | some v =>
        rw [List.filter_cons_of_pos (by rw [e0, hv] <;> rfl), List.filter_nil]
        show (F.set k (some ((l[k]?.getD none).getD 0)))[i]? = _
        rw [e0, hv]
        show (F.set k (some v))[i]? = _
        rw [List.getElem?_set, ih i, lenF]
        by_cases h2 : k = i
        · subst h2
          rw [if_pos rfl, if_pos hkl, if_pos (by omega), e0, hv]
        · rw [if_neg h2]
          by_cases h1 : i < k
          · rw [if_pos h1, if_pos (by omega)]
          · rw [if_neg h1, if_neg (by omega : ¬ i < k + 1)]
  refine List.ext_getElem? fun i => ?_
  have := step l.length (Nat.le_refl _) i
  unfold timesAll timesP
  rw [List.map_map]
  refine this.trans ?_
  by_cases h : i < l.length
  · rw [if_pos h]
  · rw [if_neg h, if_neg h, List.getElem?_eq_none (by omega)]
theorem timesP_mem {l : List Time} {p : Pr} (h : p ∈ timesP l) : p.1 < l.length ∧ l[p.1]? = some (some p.2) := by
  unfold timesP at h
  obtain ⟨i, hi, rfl⟩ := List.mem_map.mp h
  obtain ⟨h1, h2⟩ := List.mem_filter.mp hi
  have h3 := List.mem_range.mp h1
  refine ⟨h3, ?_⟩
  show l[i]? = some (some ((l[i]?.getD none).getD 0))
  rw [List.getElem?_eq_getElem h3] at h2 ⊢
  obtain ⟨v, e⟩ := Option.isSome_iff_exists.mp (show (l[i]).isSome = true from h2)
  show some l[i] = some (some ((l[i]).getD 0))
  rw [e] <;> rfl
theorem times_run {ns : List Cs} {l : List Time} (hl : l.length = ns.length) (ok : TimesOk l) (hn : NamesOk ns) : DayRun false ns ((timesP l).map fun p => [p]) := by
  have h12 := ok.1
  have lenP : (timesP l).length ≤ 12 := by
    unfold timesP
    rw [List.length_map]
    have := List.length_filter_le (fun i => (l[i]?.getD none).isSome) (List.range l.length)
    rw [List.length_range] at this
    omega
  have fl : ∀ ps : List Pr, (ps.map fun p => [p]).flatten = ps := fun ps => by
    induction ps with
    | nil => rfl
    | cons a ps ih => rw [List.map_cons, List.flatten_cons, ih] <;> rfl
  refine ⟨by rw [List.length_map]; exact lenP, fun ps hps => ?_, ?_, by rw [fl]; exact lenP, .inr fun ps hps => ?_⟩
  · obtain ⟨p, hp, rfl⟩ := List.mem_map.mp hps
    obtain ⟨h1, h2⟩ := timesP_mem hp
    refine ⟨List.cons_ne_nil _ _, by simp, fun q hq => ?_, by simp⟩
    rw [List.mem_singleton.mp hq]
    exact ⟨by omega, ok.2 _ (List.mem_of_getElem? h2)⟩
  · rw [fl]
    unfold timesP
    rw [List.map_map]
    have : ∀ l : List Nat, l.map ((fun x : Pr => x.1) ∘ fun i => (i, ((none : Time).getD 0))) = l := fun l => by
      induction l with
      | nil => rfl
      | cons a l ih => rw [List.map_cons, ih] <;> rfl
    have e : ((List.range l.length).filter fun i => (l[i]?.getD none).isSome).map ((fun x : Pr => x.1) ∘ fun i => (i, (l[i]?.getD none).getD 0)) = (List.range l.length).filter fun i => (l[i]?.getD none).isSome := this _
    rw [e]
    exact List.nodup_range.filter _
  · obtain ⟨p, hp, rfl⟩ := List.mem_map.mp hps
    rfl
theorem times_rows (ns : List Cs) (l : List Time) : ((timesP l).map fun p => [p]).map (dayRow ns) = timesR ns l := by
  unfold timesR
  rw [List.map_map]
  refine List.map_congr_left fun p _ => ?_
  show dayRow ns [p] = prW ns p
  unfold dayRow
  rw [List.flatMap_cons, List.flatMap_nil, List.append_nil]
/-! ### every word of the rows is a word -/
theorem tabR_ok {ns : List Cs} {ts : List Tie} (hn : NamesOk ns) (ht : TiesOk ns.length ts) : ∀ r ∈ tabR ns ts, ∀ w ∈ r, w.Ok := fun r hr w hw => by
  rcases List.mem_append.mp hr with h | h
  · obtain ⟨i, hi, rfl⟩ := List.mem_map.mp h
    rw [List.mem_singleton.mp hw]
    exact nmAt_name hn (List.mem_range.mp (List.mem_filter.mp hi).1)
  · obtain ⟨x, hx, rfl⟩ := List.mem_map.mp h
    obtain ⟨g1, g2, _⟩ := ht.2 x hx
    rcases List.mem_cons.mp hw with rfl | hw
    · exact nmAt_name hn g1
    · rcases List.mem_cons.mp hw with rfl | hw
      · exact nmAt_name hn g2
      · rw [List.mem_singleton.mp hw]
        trivial
theorem dayR_ok {ns : List Cs} {d : List (List Pr)} (hn : NamesOk ns) (h : ∀ ps ∈ d, ∀ p ∈ ps, PrOk ns.length p) : ∀ r ∈ d.map (dayRow ns), ∀ w ∈ r, w.Ok := fun r hr w hw => by
  obtain ⟨ps, hps, rfl⟩ := List.mem_map.mp hr
  obtain ⟨p, hp, hw⟩ := List.mem_flatMap.mp hw
  rcases List.mem_cons.mp hw with rfl | hw
  · exact nmAt_name hn (h ps hps p hp).1
  · rw [List.mem_singleton.mp hw]
    trivial
theorem lex_row {r : List Word} (h : ∀ w ∈ r, w.Ok) : Lex (rowT r) (rowM r) := by
  have := lex_rows (rs := [r]) fun q hq => by
    rw [List.mem_singleton.mp hq]
    exact h
  rw [show marksR [r] = rowM r from List.append_nil _] at this
  exact this
end K07

set_option maxRecDepth 100000
set_option maxHeartbeats 4000000
namespace K07
open PySem PySem.Spec PyProof.Rows L2
local macro_rules | `(tactic| walk_at "rd") => `(tactic| repeat (first
  | with_reducible refine r_seq ?_ | with_reducible refine r_asg ?_ | with_reducible refine r_name ?_ | with_reducible refine r_ret ?_ | with_reducible refine r_drop ?_ | with_reducible refine r_if ?_ | with_reducible refine r_nx ?_
  | with_reducible refine r_c ?_ | with_reducible refine r_op ?_ | with_reducible refine r_un ?_ | with_reducible refine r_cons ?_ | with_reducible refine r_nil ?_ | with_reducible refine r_test ?_ | with_reducible refine r_B ?_
  | with_reducible refine r_and ?_ | with_reducible refine r_or ?_ | with_reducible refine r_not ?_ | with_reducible refine r_andV ?_ | with_reducible refine r_orV ?_ | with_reducible refine r_notV ?_ | with_reducible refine r_tif ?_
  | with_reducible refine r_chain ?_ | with_reducible refine r_tyes ?_ | with_reducible refine r_lc ?_ | with_reducible refine r_rng1 ?_ | with_reducible refine r_itup ?_ | with_reducible refine r_ilist ?_ | with_reducible refine r_ienum ?_ | with_reducible refine r_istr ?_
  | with_reducible refine r_tup ?_ | with_reducible refine r_lst ?_ | with_reducible refine r_tfld ?_ | with_reducible refine r_gcons ?_ | with_reducible refine r_gnil ?_ | with_reducible refine r_gfld ?_ | with_reducible refine r_for ?_ | with_reducible refine r_sfld ?_ | with_reducible refine r_call ?_ | with_reducible refine r_cb ?_ | with_reducible refine r_sl ?_ | with_reducible refine r_np ?_ | with_reducible refine r_pt ?_ | with_reducible refine r_m1 ?_ | with_reducible refine r_par ?_ | with_reducible refine r_p2 ?_ | with_reducible refine r_u ?_ | with_reducible refine r_meth ?_ | with_reducible refine r_make ?_ | with_reducible refine r_gsub ?_ | with_reducible refine r_bm ?_ | with_reducible refine r_bm0 ?_ | with_reducible refine r_j0 ?_ | with_reducible refine r_jF ?_ | with_reducible refine r_jN ?_ | with_reducible refine r_bl ?_ | with_reducible refine r_i0 ?_ | with_reducible refine tt_ite ?_ | with_reducible refine ff_ite ?_ | with_reducible refine nt_ite ?_ | with_reducible refine nf_ite ?_
  | with_reducible refine r_var (by with_unfolding_all exact rfl) ?_))
section
variable {X : Cx} {k j : Nat} {C : Addr} {x : Str} {sp : Sp} {dvs : List V} {p pos : Pos}
theorem pe_mk0 (c : C8.Mak X.prog X.w X.K X.mg X.base k x C sp dvs) (hr : Room j X.A) (hk : k + 1 ≤ j) (hg : Gl X x) (hdb : (x == ("__debug__" : Str)) = false := by decide) : PE X (.Call (.Name x p) [] [] pos) (tMake C sp dvs C8.E0 tNil) := by
  obtain ⟨f, fd, ps, ds, M, F, hm, b, d⟩ := c.ex
  exact pe_make0 M F (hr.mono hk) hg hm b d pass0 hdb
end
section
variable {P : Program} {w : World} {K : PySem.W.Frag} {mg : Str → Option Value} {base : Heap}
theorem showR_le {rs : List (List Word)} {m k : Nat} (hm : rs.length ≤ m) (h : ∀ r ∈ rs, (rowT r).length ≤ k) : (showR rs).length ≤ m * (k + 1) := by
  have jl : ∀ l : List Cs, (∀ x ∈ l, x.length ≤ k) → (TL.joinL [10] l).length ≤ l.length * (k + 1) := fun l hl => by
    cases l with
    | nil => exact Nat.zero_le _
    | cons x l =>
      rw [joinL_cons, List.length_append, List.length_cons, Nat.succ_mul]
      have a := hl x List.mem_cons_self
      have : ∀ l : List Cs, (∀ x ∈ l, x.length ≤ k) → (l.flatMap fun q => [10] ++ q).length ≤ l.length * (k + 1) := fun l hl => by
        induction l with
        | nil => exact Nat.zero_le _
        | cons y l ih =>
          rw [List.flatMap_cons, List.length_append, List.length_append, show (y :: l).length = l.length + 1 from rfl, Nat.succ_mul]
          have := ih fun x hx => hl x (List.mem_cons_of_mem _ hx)
          have := hl y List.mem_cons_self
          simp only [List.length_cons, List.length_nil]
          omega
      have := this l fun x hx => hl x (List.mem_cons_of_mem _ hx)
      omega
  have := jl (rs.map rowT) fun x hx => by
    obtain ⟨r, hr, rfl⟩ := List.mem_map.mp hx
    exact h r hr
  rw [List.length_map] at this
  exact Nat.le_trans this (Nat.mul_le_mul_right _ hm)
theorem tabR_le {ns : List Cs} {ts : List Tie} (hn : NamesOk ns) (ht : TiesOk ns.length ts) : (showR (tabR ns ts)).length ≤ 10000 := by
  refine Nat.le_trans (showR_le (m := 72) (k := 40) ?_ fun r hr => ?_) (by decide)
  · unfold tabR
    rw [List.length_append, List.length_map, List.length_map]
    have := List.length_filter_le (fun i => !usedB ts i) (List.range ns.length)
    rw [List.length_range] at this
    have := hn.2.1
    have := ht.1
    omega
  · rcases List.mem_append.mp hr with h | h
    · obtain ⟨i, hi, rfl⟩ := List.mem_map.mp h
      exact Nat.le_trans (nm_le hn (List.mem_range.mp (List.mem_filter.mp hi).1)) (by decide)
    · obtain ⟨x, hx, rfl⟩ := List.mem_map.mp h
      obtain ⟨h1, h2, h3, h4⟩ := ht.2 x hx
      refine Nat.le_trans (rowT_le (r := tieW ns x) (k := 11) fun w hw => ?_) (show 36 ≤ 40 by decide)
      rcases List.mem_cons.mp hw with rfl | hw
      · exact Nat.le_trans (nm_le hn h1) (by decide)
      · rcases List.mem_cons.mp hw with rfl | hw
        · exact Nat.le_trans (nm_le hn h2) (by decide)
        · rw [List.mem_singleton.mp hw]
          exact intL_le (by omega)
theorem dayR_le {ns : List Cs} {d : List (List Pr)} (hn : NamesOk ns) (hd : d.length ≤ 12) (h : ∀ ps ∈ d, ps.length ≤ 12 ∧ ∀ p ∈ ps, PrOk ns.length p) : (showR (d.map (dayRow ns))).length ≤ 10000 := by
  refine Nat.le_trans (showR_le (m := 12) (k := 24 * 12) (by rw [List.length_map]; exact hd) fun r hr => ?_) (by decide)
  obtain ⟨ps, hps, rfl⟩ := List.mem_map.mp hr
  obtain ⟨h1, h2⟩ := h ps hps
  refine Nat.le_trans (rowT_le (r := dayRow ns ps) (k := 11) fun w hw => ?_) ?_
  · obtain ⟨p, hp, hw⟩ := List.mem_flatMap.mp hw
    obtain ⟨g1, g2⟩ := h2 p hp
    rcases List.mem_cons.mp hw with rfl | hw
    · exact Nat.le_trans (nm_le hn g1) (by decide)
    · rw [List.mem_singleton.mp hw]
      exact intL_le g2
  · have : (dayRow ns ps).length = 2 * ps.length := by
      unfold dayRow
      clear hr h2 hps h1
      induction ps with
      | nil => rfl
      | cons p ps ih =>
        rw [List.flatMap_cons, List.length_append, ih, List.length_cons]
        show 2 + _ = _
        omega
    rw [this]
    omega
def spReadTable (K : PySem.W.Frag) : Sp := fun vs H Q _ => ∃ (ns : List Cs) (ts : List Tie), vs = [.str (SX.S (showR (tabR ns ts)))] ∧ NamesOk ns ∧ TiesOk ns.length ts ∧ ∀ t H', Same H H' → TabF K H' t ns ts → Q (.ref t) H'
theorem cal_read_table (W : Wd K mg) : C8.Cal P w K mg base 8 "read_table" (spReadTable K) [] := by
  refine mk_read_table W (fun vs H Q E h => ?_) fun cdv A outer s H vs Q E hr h => ?_
  · obtain ⟨ns, ts, rfl, _⟩ := h
    rfl
  obtain ⟨ns, ts, rfl, hn, ht, q⟩ := h
  refine ⟨_, (let R := texR (P := P) (w := w) (base := base) W ns ts; (pss_one (ps_ret (C8.pe_c (cal_read_whole W R) hr (by decide) rfl (pa_cons (pe_mk0 (mak_TableText W) hr (by decide) rfl) (pa_cons (pv 0) pa_nil)))))), ?_⟩
  walk_at "rd"
  intro x dx hx hdx hne
  refine ⟨H, x, dx, rfl, same_set hx (same_set hdx (Same.refl H)), hx, upd_same, fun H1 h1 => ⟨rfl, ?_⟩⟩
  walk_at "rd"
  obtain ⟨s', hrun, hfin⟩ := runs_table hn ht
  refine ⟨H, x, ⟨[], [], 0, [], []⟩, s', _, _, rfl, h1, lex_rows (tabR_ok hn ht), hrun, hfin, Nat.le_trans (tabR_le hn ht) (by decide), fun v H2 s2 ho => ?_⟩
  obtain ⟨t, rfl, hT⟩ := ho
  exact q t H2 s2 hT
def spReadDay (K : PySem.W.Frag) : Sp := fun vs H Q _ => ∃ (t : Addr) (ns : List Cs) (ts : List Tie) (d : List (List Pr)), vs = [.ref t, .str (SX.S (showR (d.map (dayRow ns))))] ∧ TabF K H t ns ts ∧ NamesOk ns ∧ DayRun true ns d ∧ ∀ p H', Same H H' → DayAt H' p d → Q (.ref p) H'
theorem cal_read_day (W : Wd K mg) : C8.Cal P w K mg base 8 "read_day" (spReadDay K) [] := by
  refine mk_read_day W (fun vs H Q E h => ?_) fun cdv A outer s H vs Q E hr h => ?_
  · obtain ⟨t, ns, ts, d, rfl, _⟩ := h
    rfl
  obtain ⟨t, ns, ts, d, rfl, hT, hn, hd, q⟩ := h
  refine ⟨_, (let R := paiR (P := P) (w := w) (base := base) W t true ns ts; (pss_one (ps_ret (C8.pe_c (cal_read_whole W R) hr (by decide) rfl (pa_cons (C8.pe_mk (mak_PairText W) hr (by decide) rfl (pa_cons (pv 0) (pa_cons pe_bl pa_nil))) (pa_cons (pv 1) pa_nil)))))), ?_⟩
  walk_at "rd"
  intro x dx hx hdx hne
  refine ⟨H, x, dx, t, true, ns, ts, rfl, same_set hx (same_set hdx (Same.refl H)), hx, upd_same, hT, hn, fun H1 h1 => ⟨rfl, ?_⟩⟩
  walk_at "rd"
  obtain ⟨s', hrun, hfin, hrows⟩ := runs_day hd
  refine ⟨H, x, ⟨[], [], [], 0⟩, s', _, _, rfl, h1, lex_rows (dayR_ok hn fun ps hps => (hd.row ps hps).2.2.1), hrun, hfin, Nat.le_trans (dayR_le hn hd.len fun ps hps => ⟨(hd.row ps hps).2.1, (hd.row ps hps).2.2.1⟩) (by decide), fun v H2 s2 ho => ?_⟩
  obtain ⟨p, rfl, hD⟩ := ho
  rw [hrows] at hD
  exact q p H2 s2 hD
def spReadTimes (K : PySem.W.Frag) : Sp := fun vs H Q _ => ∃ (t : Addr) (ns : List Cs) (ts : List Tie) (l : List Time), vs = [.ref t, .str (SX.S (showR (timesR ns l)))] ∧ TabF K H t ns ts ∧ NamesOk ns ∧ l.length = ns.length ∧ TimesOk l ∧ ∀ p H', Same H H' → TupAt H' p (l.map timeV) → Q (.ref p) H'
theorem cal_read_times (W : Wd K mg) : C8.Cal P w K mg base 8 "read_times" (spReadTimes K) [] := by
  refine mk_read_times W (fun vs H Q E h => ?_) fun cdv A outer s H vs Q E hr h => ?_
  · obtain ⟨t, ns, ts, l, rfl, _⟩ := h
    rfl
  obtain ⟨t, ns, ts, l, rfl, hT, hn, hll, hl, q⟩ := h
  have hd := times_run hll hl hn
  refine ⟨_, (let R := paiR (P := P) (w := w) (base := base) W t false ns ts; (pss_one (ps_ret (C8.pe_c (cal_times_of W) hr (by decide) rfl (pa_cons (pv 0) (pa_cons (C8.pe_c (cal_read_whole W R) hr (by decide) rfl (pa_cons (C8.pe_mk (mak_PairText W) hr (by decide) rfl (pa_cons (pv 0) (pa_cons pe_bl pa_nil))) (pa_cons (pv 1) pa_nil))) pa_nil)))))), ?_⟩
  walk_at "rd"
  intro x dx hx hdx hne
  refine ⟨H, x, dx, t, false, ns, ts, rfl, same_set hx (same_set hdx (Same.refl H)), hx, upd_same, hT, hn, fun H1 h1 => ⟨rfl, ?_⟩⟩
  walk_at "rd"
  obtain ⟨s', hrun, hfin, hrows⟩ := runs_day hd
  have lx := lex_rows (dayR_ok hn fun ps hps => (hd.row ps hps).2.2.1)
  have ll := dayR_le hn hd.len fun ps hps => ⟨(hd.row ps hps).2.1, (hd.row ps hps).2.2.1⟩
  rw [times_rows] at hrun lx ll
  refine ⟨H, x, ⟨[], [], [], 0⟩, s', _, _, rfl, h1, lx, hrun, hfin, Nat.le_trans ll (by decide), fun v H2 s2 ho => ?_⟩
  obtain ⟨p, rfl, hD⟩ := ho
  rw [hrows] at hD
  walk_at "rd"
  refine ⟨t, p, ns, ts, _, rfl, (hT.same s2).at, hn, hD, Nat.le_trans hd.len (by decide), fun ps hps p hp => ((hd.row ps hps).2.2.1 p hp).1, fun p H3 s3 hp => ?_⟩
  rw [← hll, times_back] at hp
  exact q p H3 (s2.trans s3) hp
def spReadBatches : Sp := fun vs H Q _ => ∃ (js : List Nat), vs = [.str (SX.S (rowT (js.map fun j => Word.it (j : Nat))))] ∧ js.length ≤ 60 ∧ (∀ j ∈ js, 1 ≤ j ∧ j ≤ 100) ∧ ∀ p H', Same H H' → TupAt H' p (js.map fun v => .int ((v : Nat) : Int)) → Q (.ref p) H'
theorem cal_read_batches (W : Wd K mg) : C8.Cal P w K mg base 8 "read_batches" spReadBatches [] := by
  refine mk_read_batches W (fun vs H Q E h => ?_) fun cdv A outer s H vs Q E hr h => ?_
  · obtain ⟨js, rfl, _⟩ := h
    rfl
  obtain ⟨js, rfl, hl, hj, q⟩ := h
  refine ⟨_, (let R := batR (P := P) (w := w) (base := base) W; (pss_one (ps_ret (C8.pe_c (cal_read_whole W R) hr (by decide) rfl (pa_cons (pe_mk0 (mak_BatchesText W) hr (by decide) rfl) (pa_cons (pv 0) pa_nil)))))), ?_⟩
  walk_at "rd"
  intro x dx hx hdx hne
  refine ⟨H, x, dx, rfl, same_set hx (same_set hdx (Same.refl H)), hx, upd_same, fun H1 h1 => ⟨rfl, ?_⟩⟩
  walk_at "rd"
  refine ⟨H, x, ([] : List Nat), js, _, _, rfl, h1, lex_row fun w hw => ?_, runs_bat js [] hj (by rw [List.length_nil]; omega), trivial, ?_, fun v H2 s2 ho => ?_⟩
  · obtain ⟨j, _, rfl⟩ := List.mem_map.mp hw
    trivial
  · refine Nat.le_trans (rowT_le (k := 11) fun w hw => ?_) (show (js.map fun j => Word.it (j : Nat)).length * 12 ≤ 100000 by rw [List.length_map]; omega)
    obtain ⟨j, hj1, rfl⟩ := List.mem_map.mp hw
    have := hj j hj1
    exact intL_le (by omega)
  · obtain ⟨p, rfl, hp⟩ := ho
    exact q p H2 s2 hp
def spReadLot (K : PySem.W.Frag) : Sp := fun vs H Q _ => ∃ (t : Addr) (ns : List Cs) (ts : List Tie) (js : List Nat), vs = [.ref t, .str (SX.S (rowT (js.map fun j => Word.nm (nmAt ns j))))] ∧ TabF K H t ns ts ∧ NamesOk ns ∧ js.length < 60 ∧ (∀ j ∈ js, j < ns.length) ∧ js.Pairwise (· < ·) ∧
  ∀ p H', Same H H' → TupAt H' p (js.map fun v => .int ((v : Nat) : Int)) → Q (.ref p) H'
theorem cal_read_lot (W : Wd K mg) : C8.Cal P w K mg base 8 "read_lot" (spReadLot K) [] := by
  refine mk_read_lot W (fun vs H Q E h => ?_) fun cdv A outer s H vs Q E hr h => ?_
  · obtain ⟨t, ns, ts, js, rfl, _⟩ := h
    rfl
  obtain ⟨t, ns, ts, js, rfl, hT, hn, hl, hj, hp, q⟩ := h
  refine ⟨_, (let R := lotR (P := P) (w := w) (base := base) W t ns ts; (pss_one (ps_ret (C8.pe_c (cal_read_whole W R) hr (by decide) rfl (pa_cons (C8.pe_mk (mak_LotText W) hr (by decide) rfl (pa_cons (pv 0) pa_nil)) (pa_cons (pv 1) pa_nil)))))), ?_⟩
  walk_at "rd"
  intro x dx hx hdx hne
  refine ⟨H, x, dx, t, ns, ts, rfl, same_set hx (same_set hdx (Same.refl H)), hx, upd_same, hT, hn, fun H1 h1 => ⟨rfl, ?_⟩⟩
  walk_at "rd"
  refine ⟨H, x, ([] : List Nat), js, _, _, rfl, h1, lex_row fun w hw => ?_, runs_lot js [] hj (hp.imp fun {a b} h => Nat.ne_of_lt h) (by rw [List.length_nil]; omega), ⟨hp, hl⟩, ?_, fun v H2 s2 ho => ?_⟩
  · obtain ⟨j, hj1, rfl⟩ := List.mem_map.mp hw
    exact nmAt_name hn (hj j hj1)
  · refine Nat.le_trans (rowT_le (k := 11) fun w hw => ?_) (show (js.map fun j => Word.nm (nmAt ns j)).length * 12 ≤ 100000 by rw [List.length_map]; omega)
    obtain ⟨j, hj1, rfl⟩ := List.mem_map.mp hw
    exact Nat.le_trans (nm_le hn (hj j hj1)) (by decide)
  · obtain ⟨p, rfl, hp⟩ := ho
    exact q p H2 s2 hp
end
end K07

set_option maxRecDepth 100000
set_option maxHeartbeats 4000000
namespace K07
open PySem PySem.Spec PyProof.Rows L2
local macro_rules | `(tactic| walk_at "rd") => `(tactic| repeat (first
  | with_reducible refine r_seq ?_ | with_reducible refine r_asg ?_ | with_reducible refine r_name ?_ | with_reducible refine r_ret ?_ | with_reducible refine r_drop ?_ | with_reducible refine r_if ?_ | with_reducible refine r_nx ?_
  | with_reducible refine r_c ?_ | with_reducible refine r_op ?_ | with_reducible refine r_un ?_ | with_reducible refine r_cons ?_ | with_reducible refine r_nil ?_ | with_reducible refine r_test ?_ | with_reducible refine r_B ?_
  | with_reducible refine r_and ?_ | with_reducible refine r_or ?_ | with_reducible refine r_not ?_ | with_reducible refine r_andV ?_ | with_reducible refine r_orV ?_ | with_reducible refine r_notV ?_ | with_reducible refine r_tif ?_
  | with_reducible refine r_chain ?_ | with_reducible refine r_tyes ?_ | with_reducible refine r_lc ?_ | with_reducible refine r_rng1 ?_ | with_reducible refine r_itup ?_ | with_reducible refine r_ilist ?_ | with_reducible refine r_ienum ?_ | with_reducible refine r_istr ?_
  | with_reducible refine r_tup ?_ | with_reducible refine r_lst ?_ | with_reducible refine r_tfld ?_ | with_reducible refine r_gcons ?_ | with_reducible refine r_gnil ?_ | with_reducible refine r_gfld ?_ | with_reducible refine r_for ?_ | with_reducible refine r_sfld ?_ | with_reducible refine r_call ?_ | with_reducible refine r_cb ?_ | with_reducible refine r_sl ?_ | with_reducible refine r_np ?_ | with_reducible refine r_pt ?_ | with_reducible refine r_m1 ?_ | with_reducible refine r_par ?_ | with_reducible refine r_p2 ?_ | with_reducible refine r_u ?_ | with_reducible refine r_meth ?_ | with_reducible refine r_make ?_ | with_reducible refine r_gsub ?_ | with_reducible refine r_bm ?_ | with_reducible refine r_bm0 ?_ | with_reducible refine r_j0 ?_ | with_reducible refine r_jF ?_ | with_reducible refine r_jN ?_ | with_reducible refine r_bl ?_ | with_reducible refine r_i0 ?_ | with_reducible refine tt_ite ?_ | with_reducible refine ff_ite ?_ | with_reducible refine nt_ite ?_ | with_reducible refine nf_ite ?_
  | with_reducible refine r_var (by with_unfolding_all exact rfl) ?_))
/-! ### the law's own numbers -/
def Rng (H : Hp) (a b : Addr) : Prop := ∃ (zs : List Int) (st : Int), zs.length ≤ 60 ∧ H a = some (.lst [.ref b, .int st]) ∧ H b = some (.lst (zs.map V.int))
theorem Rng.keep {H H' : Hp} {a b : Addr} {S : List Addr} (k : Keep S H H') (ha : a ∉ S) (hb : b ∉ S) (h : Rng H a b) : Rng H' a b := by
  obtain ⟨zs, st, h1, h2, h3⟩ := h
  exact ⟨zs, st, h1, k _ _ h2 ha, k _ _ h3 hb⟩
theorem Rng.same {H H' : Hp} {a b : Addr} (s : Same H H') (h : Rng H a b) : Rng H' a b := h.keep (S := []) (Keep.of_same s) (by simp) (by simp)
/-- what stood stays but for the numbers -/
def RK (a b : Addr) (H H' : Hp) : Prop := Keep [a, b] H H'
theorem RK.refl (a b : Addr) (H : Hp) : RK a b H H := Keep.refl _ H
theorem RK.of {a b : Addr} {H H' : Hp} (s : Same H H') : RK a b H H' := Keep.of_same s
theorem RK.trans {a b : Addr} {H H1 H2 : Hp} (h : RK a b H H1) (k : RK a b H1 H2) : RK a b H H2 := Keep.trans h k
theorem RK.set {a b D : Addr} {H H2 : Hp} {o : HO} (hD : H D = none) (k : RK a b H H2) : RK a b H (upd H2 D o) := fun c x e n => (upd_ne (ne_of_none e hD)).trans (k _ _ e n)
theorem RK.at {a b c : Addr} {H H' : Hp} {o : HO} (k : RK a b H H') (e : H c = some o) (n : c ≠ a ∧ c ≠ b) : H' c = some o := k _ _ e (by
  rw [List.mem_cons, List.mem_singleton]
  exact fun z => z.elim n.1 n.2)
theorem Rng.fresh {H : Hp} {a b D : Addr} (h : Rng H a b) (hD : H D = none) : D ≠ a ∧ D ≠ b := by
  obtain ⟨zs, st, h1, h2, h3⟩ := h
  exact ⟨(ne_none h2 hD).symm, (ne_none h3 hD).symm⟩
theorem Rng.ab {H : Hp} {a b : Addr} (h : Rng H a b) : a ≠ b := by
  obtain ⟨zs, st, h1, h2, h3⟩ := h
  intro e
  rw [e, h3] at h2
  have h2 := Option.some.inj h2
  cases zs with
  | nil => cases h2
  | cons z zs => cases h2
theorem Rng.upd {H : Hp} {a b D : Addr} {o : HO} (h : Rng H a b) (n : D ≠ a ∧ D ≠ b) : Rng (upd H D o) a b := h.keep (S := [D]) (keep_upd (by simp)) (by rw [List.mem_singleton]; exact fun z => n.1 z.symm) (by rw [List.mem_singleton]; exact fun z => n.2 z.symm)
theorem RK.tsame {a b : Addr} {H H' : Hp} (h : Rng H a b) (k : RK a b H H') : TSame H H' := by
  obtain ⟨zs, st, h1, h2, h3⟩ := h
  refine Keep.tsame k fun c hc => ?_
  rcases List.mem_cons.mp hc with rfl | hc
  · exact lst_not_tup h2
  · rw [List.mem_singleton.mp hc]
    exact lst_not_tup h3
def ilD (zs : List Int) : PyData := .list (zs.map .int)
theorem shaped_il (js : List Int) : SeqAt.shaped (ilD js) = true := by
  unfold SeqAt.shaped ilD
  rw [Bool.and_eq_true]
  refine ⟨?_, decide_eq_true ?_⟩
  · simp only [PyData.canLay0]
    exact lay_ints js
  · simp only [PyData.depth, depth_ints]
    decide
theorem eqv_il_nil (js : List Int) : PyData.eqv (ilD js) (ilD []) = decide (js = []) := by
  cases js with
  | nil => simp [ilD, PyData.eqv, PyData.eqvAll]
  | cons j js => simp [ilD, PyData.eqv, PyData.eqvAll]
section
variable {P : Program} {w : World} {K : PySem.W.Frag} {mg : Str → Option Value} {base : Heap}
theorem CDivW_of {i : Int} {n : Nat} (h : 1 ≤ n) (h2 : n < 2 ^ 40) : CDivW i (n : Int) := wide_div (b := 40) (by omega) (by omega) (by decide) (by decide)
def spDraw : Sp := fun vs H Q _ => ∃ (a b : Addr) (many : Nat), vs = [.ref a, .int (many : Nat)] ∧ Rng H a b ∧ 1 ≤ many ∧ many < 2 ^ 40 ∧ ∀ (H' : Hp) (r : Nat), RK a b H H' → Rng H' a b → r < many → Q (.int (r : Nat)) H'
theorem emod_nat (x : Int) {n : Nat} (h : 1 ≤ n) : ∃ r : Nat, r < n ∧ x % (n : Int) = (r : Nat) := by
  have h1 := Int.emod_nonneg x (show ((n : Nat) : Int) ≠ 0 by omega)
  have h2 := Int.emod_lt_of_pos x (show (0 : Int) < n by omega)
  exact ⟨(x % (n : Int)).toNat, by omega, by omega⟩
theorem cal_law_draw (W : Wd K mg) : C8.Cal P w K mg base 1 "_law_draw" spDraw [] := by
  refine mk_law_draw W (fun vs H Q E h => ?_) fun cdv A outer s H vs Q E hr h => ?_
  · obtain ⟨a, b, many, rfl, _⟩ := h
    rfl
  obtain ⟨a, b, many, rfl, hR, hm, hm2, q⟩ := h
  refine ⟨_, (pss_cons (ps_while PassesOwn.never (PW.pt (pw_and (pt_cmpR (opNeD (K := K) hr) (pe_ix (ixL (K := K)) (pv 0) pe_int (fun _ _ => rfl)) (pe_lst pa_nil) (nomark _)) (pw_and1 (pt_cmpR op_eq (pe_ix (ixL (K := K)) (pe_ix (ixL (K := K)) (pv 0) pe_int (fun _ _ => rfl)) (pe_un un_neg pe_int) (fun _ _ => rfl)) pe_int (nomark _)))))
    (pss_one (ps_expr (pe_bm0 PySem.F.plainAttrs_list PySem.F.slot_list_pop PySem.F.type_list_pop mt_pop (pe_ix (ixL (K := K)) (pv 0) pe_int (fun _ _ => rfl))))))
    (pss_cons (ps_if (pt_cmpR (opNeD (K := K) hr) (pe_ix (ixL (K := K)) (pv 0) pe_int (fun _ _ => rfl)) (pe_lst pa_nil) (nomark _))
    (pss_cons (ps_set (i := 2) sc_law_draw.nd rfl (.inl rfl) (pe_bm0 PySem.F.plainAttrs_list PySem.F.slot_list_pop PySem.F.type_list_pop mt_pop (pe_ix (ixL (K := K)) (pv 0) pe_int (fun _ _ => rfl))))
    (pss_cons (ps_expr (pe_bm PySem.F.plainAttrs_list PySem.F.slot_list_append PySem.F.type_list_append mt_append (pe_ix (ixL (K := K)) (pv 0) pe_int (fun _ _ => rfl)) (pa_cons (pe_op op_fdivW (pv 2) (pv 1)) pa_nil)))
    (pss_one (ps_ret (pe_op op_mod (pe_callTy call_int1 rfl W.z_int (by decide +kernel) (pa_cons (pv 2) pa_nil)) (pv 1))))))
    pss_nil)
    (pss_cons (ps_asg (pe_op op_mod (pe_callTy call_int1 rfl W.z_int (by decide +kernel) (pa_cons (pe_op op_add (pe_op op_mul (pe_ix (ixL (K := K)) (pv 0) pe_int (fun _ _ => rfl)) pe_int) pe_int) pa_nil)) pe_int) (pg_sub (pv 0) pe_int set_list))
    (pss_one (ps_ret (pe_op op_mod (pe_callTy call_int1 rfl W.z_int (by decide +kernel) (pa_cons (pe_op op_fdivW (pe_ix (ixL (K := K)) (pv 0) pe_int (fun _ _ => rfl)) pe_int) pa_nil)) (pv 1))))))), ?_⟩
  have nab := hR.ab
  walk_at "rd"
  refine ⟨fun m σ H' => σ = start N_law_draw [.ref a, .int (many : Nat)] ∧ RK a b H H' ∧ ∃ (zs : List Int) (st : Int), m = zs.length ∧ zs.length ≤ 60 ∧ H' a = some (.lst [.ref b, .int st]) ∧ H' b = some (.lst (zs.map V.int)), ?_, ?_⟩
  · obtain ⟨zs, st, h1, h2, h3⟩ := hR
    exact ⟨_, rfl, RK.refl _ _ _, zs, st, rfl, h1, h2, h3⟩
  rintro m σ H' ⟨rfl, k, zs, st, rfl, hz, ea, eb⟩
  walk_at "rd"
  refine r_ixL (v := .ref b) (SqL.of ea) rfl ?_
  walk_at "rd"
  refine ⟨small (by decide), fun L hL => ?_⟩
  have s1 := same_upd (o := .lst []) hL
  refine ⟨ilD zs, ilD [], .lst (SqL.of (s1 _ _ eb)) (dpAll_ints zs), .lst (SqL.of upd_same) .nil, shaped_il _, shaped_il _, ?_⟩
  rw [eqv_il_nil]
  have k := k.trans (RK.of s1)
  have ea := s1 _ _ ea
  have eb := s1 _ _ eb
  generalize upd H' L (.lst []) = H1 at k ea eb ⊢
  walk_at "rd"
  rcases List.eq_nil_or_concat zs with rfl | ⟨zs', z, rfl⟩
  · refine r_no (by rfl) ?_
    walk_at "rd"
    refine r_ixL (v := .ref b) (SqL.of ea) rfl ?_
    walk_at "rd"
    refine ⟨small (by decide), fun L hL => ?_⟩
    have s1 := same_upd (o := .lst []) hL
    refine ⟨ilD [], ilD [], .lst (SqL.of (s1 _ _ eb)) .nil, .lst (SqL.of upd_same) .nil, shaped_il _, shaped_il _, ?_⟩
    rw [eqv_il_nil]
    have k := k.trans (RK.of s1)
    have ea := s1 _ _ ea
    have eb := s1 _ _ eb
    generalize upd H1 L (.lst []) = H2 at k ea eb ⊢
    walk_at "rd"
    refine r_no (by rfl) ?_
    walk_at "rd"
    refine r_ixL (v := .int st) (SqL.of ea) rfl ?_
    refine ⟨st, 48271, rfl, rfl, .inr ⟨by decide, by decide⟩, ?_⟩
    walk_at "rd"
    refine .inl ⟨_, rfl, ?_⟩
    refine ⟨_, 2147483647, rfl, rfl, (show (0 : Int) < 2147483647 by decide), ?_⟩
    walk_at "rd"
    refine ⟨a, _, 1, 1, rfl, rfl, ea, rfl, ?_⟩
    walk_at "rd"
    refine r_ixL (SqL.of upd_same) (v := .int ((st * 48271 + 17) % 2147483647)) rfl ?_
    refine ⟨_, 32, rfl, rfl, CDivW_of (n := 32) (by decide) (by decide), ?_⟩
    refine .inl ⟨_, rfl, ?_⟩
    walk_at "rd"
    refine ⟨_, (many : Int), rfl, rfl, by omega, ?_⟩
    obtain ⟨r, hr1, hr2⟩ := emod_nat ((st * 48271 + 17) % 2147483647 / 32) hm
    show Q (V.int ((st * 48271 + 17) % 2147483647 / 32 % (many : Int))) _
    rw [hr2]
    refine q _ r (Keep.trans k (keep_upd (by simp))) ⟨[], _, Nat.zero_le _, upd_same, (upd_ne nab.symm).trans eb⟩ hr1
  · have lz : zs'.length + 1 ≤ 60 := by
      rw [List.concat_eq_append, List.length_append, List.length_singleton] at hz
      exact hz
    rw [List.concat_eq_append, List.map_append] at eb
    have eb : H1 b = some (.lst (zs'.map V.int ++ [V.int z])) := eb
    have hlast : ∀ v : V, (zs'.map V.int ++ [v])[(zs'.map V.int ++ [v]).length - 1]? = some v := fun v => by simp
    refine r_yes (by rw [List.concat_eq_append]; simp) ?_
    walk_at "rd"
    refine r_ixL (v := .ref b) (SqL.of ea) rfl ?_
    walk_at "rd"
    refine r_ixL (v := .int z) (SqL.of eb) (atI_last _ _) ?_
    walk_at "rd"
    refine r_eq rfl ?_
    rw [int_eqd]
    walk_at "rd"
    refine r_dec (fun h0 => ?_) fun h0 => ?_
    · refine ⟨fun σ' H2 => σ' = start N_law_draw [.ref a, .int (many : Nat)] ∧ RK a b H H2 ∧ H2 a = some (.lst [.ref b, .int st]) ∧ H2 b = some (.lst (zs'.map V.int)), ?_, ?_⟩
      · rintro σ' H2 ⟨rfl, k2, e2, e3⟩
        exact ⟨_, (by rw [List.concat_eq_append, List.length_append, List.length_singleton]; omega : zs'.length < (zs'.concat z).length), rfl, k2, zs', st, rfl, by omega, e2, e3⟩
      · walk_at "rd"
        refine r_ixL (v := .ref b) (SqL.of ea) rfl ?_
        refine r_tyL eb ?_
        refine ⟨b, _, _, rfl, rfl, eb, hlast _, ?_⟩
        refine ⟨rfl, Keep.trans k (keep_upd (by simp)), (upd_ne nab).trans ea, ?_⟩
        rw [upd_same]
        show some (HO.lst (zs'.map V.int ++ [V.int z]).dropLast) = _
        rw [List.dropLast_concat]
    · walk_at "rd"
      refine r_ixL (v := .ref b) (SqL.of ea) rfl ?_
      walk_at "rd"
      refine ⟨small (by decide), fun L hL => ?_⟩
      have s1 := same_upd (o := .lst []) hL
      have hm1 : zs'.map V.int ++ [V.int z] = (zs' ++ [z]).map V.int := by rw [List.map_append] <;> rfl
      refine ⟨ilD (zs' ++ [z]), ilD [], .lst (SqL.of ((s1 _ _ eb).trans (congrArg (fun l => some (HO.lst l)) hm1))) (dpAll_ints _), .lst (SqL.of upd_same) .nil, shaped_il _, shaped_il _, ?_⟩
      rw [eqv_il_nil]
      have k := k.trans (RK.of s1)
      have ea := s1 _ _ ea
      have eb := s1 _ _ eb
      generalize upd H1 L (.lst []) = H2 at k ea eb ⊢
      walk_at "rd"
      refine r_yes (by simp) ?_
      walk_at "rd"
      refine r_ixL (v := .ref b) (SqL.of ea) rfl ?_
      refine r_tyL eb ?_
      refine ⟨b, _, _, rfl, rfl, eb, hlast _, ?_⟩
      walk_at "rd"
      have ea3 : upd H2 b (.lst (zs'.map V.int ++ [V.int z]).dropLast) a = some (.lst [.ref b, .int st]) := (upd_ne nab).trans ea
      refine r_ixL (v := .ref b) (SqL.of ea3) rfl ?_
      refine r_tyL upd_same ?_
      walk_at "rd"
      refine ⟨z, (many : Int), rfl, rfl, CDivW_of hm hm2, ?_⟩
      walk_at "rd"
      refine r_app upd_same (by rw [List.dropLast_concat, List.length_map]; omega) ?_
      walk_at "rd"
      refine .inl ⟨_, rfl, ?_⟩
      walk_at "rd"
      refine ⟨_, (many : Int), rfl, rfl, by omega, ?_⟩
      obtain ⟨r, hr1, hr2⟩ := emod_nat z hm
      show Q (V.int (z % (many : Int))) _
      rw [hr2]
      refine q _ r (Keep.trans k (Keep.trans (keep_upd (by simp)) (keep_upd (by simp)))) ⟨zs' ++ [z / many], st, by rw [List.length_append, List.length_singleton]; exact lz, (upd_ne nab).trans ea3, ?_⟩ hr1
      rw [upd_same, List.dropLast_concat, List.map_append] <;> rfl
def spPick : Sp := fun vs H Q _ => ∃ (a b l : Addr) (xs : List V), vs = [.ref a, .ref l] ∧ Rng H a b ∧ H l = some (.lst xs) ∧ (l ≠ a ∧ l ≠ b) ∧ xs ≠ [] ∧ xs.length ≤ 1000 ∧ ∀ (H' : Hp) (x : V), RK a b H H' → Rng H' a b → x ∈ xs → Q x H'
theorem cal_law_pick (W : Wd K mg) : C8.Cal P w K mg base 2 "_law_pick" spPick [] := by
  refine mk_law_pick W (fun vs H Q E h => ?_) fun cdv A outer s H vs Q E hr h => ?_
  · obtain ⟨a, b, l, xs, rfl, _⟩ := h
    rfl
  obtain ⟨a, b, l, xs, rfl, hR, el, nl, hne, hl, q⟩ := h
  refine ⟨_, (pss_one (ps_ret (pe_ix (ixL (K := K)) (pv 1) (C8.pe_c (cal_law_draw W) hr (by decide) rfl (pa_cons (pv 0) (pa_cons (pe_callB (crLn (K := K)) rfl W.z_len (by decide +kernel) (pa_cons (pv 1) pa_nil)) pa_nil))) (fun _ _ => rfl)))), ?_⟩
  walk_at "rd"
  refine r_lnL (SqL.of el) ?_
  have hpos := List.length_pos_iff.mpr hne
  walk_at "rd"
  refine ⟨a, b, xs.length, rfl, hR, by omega, by omega, fun H' r k hR' hr' => ?_⟩
  refine r_ixL (v := xs[r]) (SqL.of (k.at el nl)) (atI_nat (List.getElem?_eq_getElem hr')) ?_
  exact q H' _ k hR' (List.getElem_mem hr')
def spMixed : Sp := fun vs H Q _ => ∃ (a b l : Addr) (xs : List V), vs = [.ref a, .ref l] ∧ Rng H a b ∧ H l = some (.lst xs) ∧ (l ≠ a ∧ l ≠ b) ∧ xs.length ≤ 100 ∧
  ∀ (H' : Hp) (p : Addr) (ys : List V), RK a b H H' → Rng H' a b → H p = none → H' p = some (.lst ys) → ys.Perm xs → Q (.ref p) H'
theorem seq_nat {r n : Nat} (h : r < n) : seqIndex? ((r : Nat) : Int) n = some r := (ixN_seq (ixN_nat h)).1
theorem pull_perm {α : Type} : ∀ (l : List α) (r : Nat) (h : r < l.length), (l[r] :: l.eraseIdx r).Perm l
  | a :: l, 0, _ => List.Perm.refl _
  | a :: l, r + 1, h => by
    have := pull_perm l r (Nat.lt_of_succ_lt_succ h)
    show (l[r]'(Nat.lt_of_succ_lt_succ h) :: a :: l.eraseIdx r).Perm (a :: l)
    exact (List.Perm.swap _ _ _).trans (List.Perm.cons a this)
theorem cal_law_mixed (W : Wd K mg) : C8.Cal P w K mg base 2 "_law_mixed" spMixed [] := by
  refine mk_law_mixed W (fun vs H Q E h => ?_) fun cdv A outer s H vs Q E hr h => ?_
  · obtain ⟨a, b, l, xs, rfl, _⟩ := h
    rfl
  obtain ⟨a, b, l, xs, rfl, hR, el, nl, hl, q⟩ := h
  refine ⟨_, (pss_cons (ps_par (i := 2) (j := 3) rfl sc_law_mixed.nd rfl rfl (by decide) rfl rfl (pa_cons (pe_callTy (crLs (K := K)) rfl W.z_list (by decide +kernel) (pa_cons (pv 1) pa_nil)) (pa_cons (pe_lst pa_nil) pa_nil)) (by rfl))
    (pss_cons (ps_for PassesOwn.never rfl (pi_range1 rfl W.z_range (pa_cons (pe_callB (crLn (K := K)) rfl W.z_len (by decide +kernel) (pa_cons (pv 1) pa_nil)) pa_nil)) (pg_name (i := 4) sc_law_mixed.nd rfl (Or.inl rfl))
    (pss_one (ps_expr (pe_bm PySem.F.plainAttrs_list PySem.F.slot_list_append PySem.F.type_list_append mt_append (pv 3) (pa_cons (pe_bm PySem.F.plainAttrs_list PySem.F.slot_list_pop PySem.F.type_list_pop mt_popAt (pv 2) (pa_cons (C8.pe_c (cal_law_draw W) hr (by decide) rfl (pa_cons (pv 0) (pa_cons (pe_callB (crLn (K := K)) rfl W.z_len (by decide +kernel) (pa_cons (pv 2) pa_nil)) pa_nil))) pa_nil)) pa_nil)))))
    (pss_one (ps_ret (pv 3))))), ?_⟩
  walk_at "rd"
  refine ⟨l, _, rfl, .inl (SqL.of el), fun L hL => ?_⟩
  have s1 := same_upd (o := .lst xs) hL
  have eL : upd H L (.lst xs) L = some (.lst xs) := upd_same
  generalize upd H L (.lst xs) = H1 at s1 eL ⊢
  walk_at "rd"
  refine ⟨small (by decide), fun F hF => ?_⟩
  have hFH : H F = none := none_of s1 hF
  have s2 := same_upd (o := .lst []) hF
  have LF : L ≠ F := ne_none eL hF
  have eF : upd H1 F (.lst []) F = some (.lst []) := upd_same
  have eL2 := s2 _ _ eL
  have s12 := s1.trans s2
  generalize upd H1 F (.lst []) = H2 at s12 eF eL2 ⊢
  walk_at "rd"
  refine r_lnL (SqL.of (s12 _ _ el)) ?_
  refine ⟨_, rfl, by omega, by omega, ?_⟩
  rw [Int.toNat_natCast]
  have nL := hR.fresh hL
  have nF := hR.fresh hFH
  refine for_w walk_nat (fun i σ H' => (∃ y4, σ = [some (.ref a), some (.ref l), some (.ref L), some (.ref F), y4]) ∧ RK a b H H' ∧ Rng H' a b ∧ ∃ ls fs : List V, H' L = some (.lst ls) ∧ H' F = some (.lst fs) ∧ (fs ++ ls).Perm xs ∧ fs.length = i) ⟨⟨_, rfl⟩, RK.of s12, hR.same s12, xs, [], eL2, eF, List.Perm.refl _, rfl⟩ (fun _ _ _ _ _ => trivial) ?_ ?_
  · rintro i v σ H3 H4 N hi ⟨⟨y4, rfl⟩, k3, hR3, ls, fs, e1, e2, hp, hf⟩ ⟨rfl, rfl⟩ k
    have ll : fs.length + ls.length = xs.length := by
      rw [← hp.length_eq, List.length_append]
    walk_at "rd"
    refine r_tyL e2 ?_
    walk_at "rd"
    refine r_tyL e1 ?_
    walk_at "rd"
    refine r_lnL (SqL.of e1) ?_
    walk_at "rd"
    refine ⟨a, b, ls.length, rfl, hR3, by omega, by omega, fun H5 r k5 hR5 hr5 => ?_⟩
    walk_at "rd"
    refine ⟨L, ls, _, r, ls[r], rfl, rfl, k5.at e1 nL, by omega, by omega, seq_nat hr5, List.getElem?_eq_getElem hr5, ?_⟩
    walk_at "rd"
    have e6 : upd H5 L (.lst (ls.eraseIdx r)) F = some (.lst fs) := (upd_ne LF.symm).trans (k5.at e2 nF)
    refine r_app e6 (by omega) (k _ _ ⟨⟨_, rfl⟩, RK.set hFH (RK.set hL (k3.trans k5)), (hR5.upd nL).upd nF, ls.eraseIdx r, fs ++ [ls[r]], (upd_ne LF).trans upd_same, upd_same, ?_, by rw [List.length_append, hf] <;> rfl⟩)
    refine List.Perm.trans ?_ hp
    rw [List.append_assoc]
    exact List.Perm.append_left fs (pull_perm ls r hr5)
  · rintro σ H3 ⟨⟨y4, rfl⟩, k3, hR3, ls, fs, e1, e2, hp, hf⟩
    walk_at "rd"
    have ll : fs.length + ls.length = xs.length := by
      rw [← hp.length_eq, List.length_append]
    have : ls = [] := List.eq_nil_of_length_eq_zero (by omega)
    rw [this, List.append_nil] at hp
    exact q H3 F fs k3 hR3 hFH e2 hp
end
end K07

set_option maxRecDepth 100000
set_option maxHeartbeats 4000000
namespace K07
open PySem PySem.Spec PyProof.Rows L2
local macro_rules | `(tactic| walk_at "rd") => `(tactic| repeat (first
  | with_reducible refine r_seq ?_ | with_reducible refine r_asg ?_ | with_reducible refine r_name ?_ | with_reducible refine r_ret ?_ | with_reducible refine r_drop ?_ | with_reducible refine r_if ?_ | with_reducible refine r_nx ?_
  | with_reducible refine r_c ?_ | with_reducible refine r_op ?_ | with_reducible refine r_un ?_ | with_reducible refine r_cons ?_ | with_reducible refine r_nil ?_ | with_reducible refine r_test ?_ | with_reducible refine r_B ?_
  | with_reducible refine r_and ?_ | with_reducible refine r_or ?_ | with_reducible refine r_not ?_ | with_reducible refine r_andV ?_ | with_reducible refine r_orV ?_ | with_reducible refine r_notV ?_ | with_reducible refine r_tif ?_
  | with_reducible refine r_chain ?_ | with_reducible refine r_tyes ?_ | with_reducible refine r_lc ?_ | with_reducible refine r_rng1 ?_ | with_reducible refine r_itup ?_ | with_reducible refine r_ilist ?_ | with_reducible refine r_ienum ?_ | with_reducible refine r_istr ?_
  | with_reducible refine r_tup ?_ | with_reducible refine r_lst ?_ | with_reducible refine r_tfld ?_ | with_reducible refine r_gcons ?_ | with_reducible refine r_gnil ?_ | with_reducible refine r_gfld ?_ | with_reducible refine r_for ?_ | with_reducible refine r_sfld ?_ | with_reducible refine r_call ?_ | with_reducible refine r_cb ?_ | with_reducible refine r_sl ?_ | with_reducible refine r_np ?_ | with_reducible refine r_pt ?_ | with_reducible refine r_m1 ?_ | with_reducible refine r_par ?_ | with_reducible refine r_p2 ?_ | with_reducible refine r_u ?_ | with_reducible refine r_meth ?_ | with_reducible refine r_make ?_ | with_reducible refine r_gsub ?_ | with_reducible refine r_bm ?_ | with_reducible refine r_bm0 ?_ | with_reducible refine r_j0 ?_ | with_reducible refine r_jF ?_ | with_reducible refine r_jN ?_ | with_reducible refine r_bl ?_ | with_reducible refine r_i0 ?_ | with_reducible refine tt_ite ?_ | with_reducible refine ff_ite ?_ | with_reducible refine nt_ite ?_ | with_reducible refine nf_ite ?_
  | with_reducible refine r_var (by with_unfolding_all exact rfl) ?_))
theorem r_par3 {σ : L2.St} {H : Hp} {D : Ends} {i j l : Nat} {t : TA} (h : t σ H fun vs H1 => ∃ u v w, vs = [u, v, w] ∧ D.nx (((σ.set i (some u)).set j (some v)).set l (some w)) H1) : tPar3 i j l t D σ H := h
section
variable {P : Program} {w : World} {K : PySem.W.Frag} {mg : Str → Option Value} {base : Heap}
def spInteger : Sp := fun vs H Q _ => ∃ (a b : Addr) (most : Nat), vs = [.ref a, .int (most : Nat)] ∧ Rng H a b ∧ 1000 ≤ most ∧ most ≤ 1000000000 ∧ ∀ (H' : Hp) (n : Int), RK a b H H' → Rng H' a b → n.natAbs ≤ most → Q (.int n) H'
theorem cal_law_integer (W : Wd K mg) : C8.Cal P w K mg base 3 "_law_integer" spInteger [] := by
  refine mk_law_integer W (fun vs H Q E h => ?_) fun cdv A outer s H vs Q E hr h => ?_
  · obtain ⟨a, b, most, rfl, _⟩ := h
    rfl
  obtain ⟨a, b, most, rfl, hR, h1, h2, q⟩ := h
  refine ⟨_, (pss_cons (ps_set (i := 2) sc_law_integer.nd rfl (.inl rfl) (C8.pe_c (cal_law_pick W) hr (by decide) rfl (pa_cons (pv 0) (pa_cons (pe_lst (pa_cons pe_int (pa_cons pe_int (pa_cons pe_int (pa_cons pe_int (pa_cons (pv 1) pa_nil)))))) pa_nil))))
    (pss_one (ps_ret (pe_op op_sub (C8.pe_c (cal_law_draw W) hr (by decide) rfl (pa_cons (pv 0) (pa_cons (pe_op op_add (pe_op op_mul pe_int (pv 2)) pe_int) pa_nil))) (pv 2))))), ?_⟩
  walk_at "rd"
  refine ⟨small (show 5 ≤ 100 by decide), fun l hl => ?_⟩
  have s1 := same_upd (o := .lst [.int 3, .int 3, .int 12, .int 1000, .int (most : Nat)]) hl
  walk_at "rd"
  refine ⟨a, b, l, _, rfl, hR.same s1, upd_same, hR.fresh hl, List.cons_ne_nil _ _, (show 5 ≤ 1000 by decide), fun H1 x k1 hR1 hx => ?_⟩
  obtain ⟨wd, rfl, hw1⟩ : ∃ wd : Nat, x = .int (wd : Nat) ∧ wd ≤ most := by
    simp only [List.mem_cons, List.not_mem_nil, or_false] at hx
    rcases hx with rfl | rfl | rfl | rfl | rfl
    · exact ⟨3, rfl, by omega⟩
    · exact ⟨3, rfl, by omega⟩
    · exact ⟨12, rfl, by omega⟩
    · exact ⟨1000, rfl, by omega⟩
    · exact ⟨most, rfl, Nat.le_refl _⟩
  walk_at "rd"
  refine ⟨2, _, rfl, rfl, .inl ⟨by decide, by decide⟩, ?_⟩
  walk_at "rd"
  refine ⟨a, b, 2 * wd + 1, ?_, hR1, by omega, by omega, fun H2 r k2 hR2 hr2 => ?_⟩
  · show [V.ref a, V.int (2 * (wd : Int) + 1)] = _
    rw [show (2 * (wd : Int) + 1) = ((2 * wd + 1 : Nat) : Int) by omega]
  walk_at "rd"
  exact q H2 _ (((RK.of s1).trans k1).trans k2) hR2 (by omega)
def spMarks : Sp := fun vs H Q _ => ∃ (n : Int), vs = [.int n] ∧ n.natAbs ≤ 1000000000 ∧ ∀ (H' : Hp) (p : Addr), Same H H' → H p = none → H' p = some (.lst (strL (intM n))) → Q (.ref p) H'
theorem cal_law_integer_marks (W : Wd K mg) : C8.Cal P w K mg base 1 "_law_integer_marks" spMarks [] := by
  refine mk_law_integer_marks W (fun vs H Q E h => ?_) fun cdv A outer s H vs Q E hr h => ?_
  · obtain ⟨n, rfl, _⟩ := h
    rfl
  obtain ⟨n, rfl, hn, q⟩ := h
  refine ⟨_, (pss_one (ps_ret (pe_op op_cat (pe_op op_rep (pe_lst (pa_cons pe_str pa_nil)) (pe_callTy call_int1 rfl W.z_int (by decide +kernel) (pa_cons (pe_cmpR op_lt (pv 0) pe_int (nomark _)) pa_nil))) (pe_lst (pa_cons (pe_callTy call_str_int rfl W.z_str (by decide +kernel) (pa_cons (pe_callB call_abs rfl W.z_abs (by decide +kernel) (pa_cons (pv 0) pa_nil)) pa_nil)) pa_nil))))), ?_⟩
  walk_at "rd"
  refine ⟨small (show 1 ≤ 100 by decide), fun l hl => ?_⟩
  have s1 := same_upd (o := .lst [.str "-"]) hl
  walk_at "rd"
  refine .inr ⟨_, rfl, ?_⟩
  have e1 : upd H l (.lst [.str "-"]) l = some (.lst [.str "-"]) := upd_same
  generalize upd H l (.lst [.str "-"]) = H1 at s1 e1 ⊢
  have hk : ∃ k : Nat, k ≤ 1 ∧ (if decide (n < 0) = true then (1 : Int) else 0) = (k : Int) ∧ (List.replicate k [V.str "-"]).flatten = strL (if n < 0 then [[45]] else []) := by
    by_cases h : n < 0
    · exact ⟨1, Nat.le_refl _, by rw [if_pos (decide_eq_true h)] <;> rfl, by rw [if_pos h]; rfl⟩
    · exact ⟨0, Nat.zero_le _, by rw [if_neg (by rw [decide_eq_false h]; decide)] <;> rfl, by rw [if_neg h]; rfl⟩
  obtain ⟨k, hk1, hk2, hk3⟩ := hk
  rw [hk2]
  refine ⟨l, k, _, rfl, rfl, e1, by omega, by omega, ?_, fun p hp => ?_⟩
  · rw [Int.toNat_natCast]
    exact small (show 1 * k ≤ 100 by omega)
  rw [Int.toNat_natCast, hk3]
  have s2 := same_upd (o := .lst (strL (if n < 0 then [[45]] else []))) hp
  have e2 : upd H1 p (.lst (strL (if n < 0 then [[45]] else []))) p = some (.lst (strL (if n < 0 then [[45]] else []))) := upd_same
  generalize upd H1 p (.lst (strL (if n < 0 then [[45]] else []))) = H2 at s2 e2 ⊢
  walk_at "rd"
  refine ⟨_, rfl, ?_⟩
  walk_at "rd"
  have ea : (if n < 0 then -n else n) = ((n.natAbs : Nat) : Int) := by split <;> omega
  rw [ea]
  refine ⟨_, rfl, log_le (by omega), ?_⟩
  rw [intL_str, show intL ((n.natAbs : Nat) : Int) = numL n.natAbs by
    unfold intL
    rw [if_neg (by omega)] <;> rfl]
  walk_at "rd"
  refine ⟨small (show 1 ≤ 100 by decide), fun r hr => ?_⟩
  have s3 := same_upd (o := .lst [.str (SX.S (numL n.natAbs))]) hr
  refine ⟨p, r, _, _, rfl, rfl, s3 _ _ e2, upd_same, ?_, fun v hv => ?_⟩
  · refine small ?_
    rw [List.length_map]
    by_cases h : n < 0
    · rw [if_pos h]
      show 1 + 1 ≤ 100
      decide
    · rw [if_neg h]
      show 0 + 1 ≤ 100
      decide
  · have sA := (s1.trans s2).trans s3
    refine q _ v (sA.trans (same_upd hv)) (none_of sA hv) ?_
    rw [upd_same]
    show some (HO.lst (strL (if n < 0 then [[45]] else []) ++ [V.str (SX.S (numL n.natAbs))])) = some (HO.lst (strL (intM n)))
    unfold intM
    rw [strL, strL, List.map_append] <;> rfl
/-! ### rows of words -/
theorem joinL_snoc (S : Cs) : ∀ (l : List Cs) (x : Cs), TL.joinL S (l ++ [x]) = TL.joinL S l ++ ((if l = [] then [] else S) ++ x)
  | [], x => by
    show TL.joinL S [x] = _
    rw [if_pos rfl] <;> rfl
  | a :: l, x => by
    rw [if_neg (List.cons_ne_nil _ _)]
    show TL.joinL S (a :: (l ++ [x])) = _
    rw [joinL_cons, joinL_cons, List.flatMap_append, List.flatMap_cons, List.flatMap_nil, List.append_nil, List.append_assoc]
theorem joinL_le {S : Cs} {k : Nat} (hS : S.length = 1) : ∀ (l : List Cs), (∀ x ∈ l, x.length ≤ k) → (TL.joinL S l).length ≤ l.length * (k + 1) := fun l hl => by
  cases l with
  | nil => exact Nat.zero_le _
  | cons x l =>
    rw [joinL_cons, List.length_append, List.length_cons, Nat.succ_mul]
    have a := hl x List.mem_cons_self
    have : ∀ l : List Cs, (∀ x ∈ l, x.length ≤ k) → (l.flatMap fun q => S ++ q).length ≤ l.length * (k + 1) := fun l hl => by
      induction l with
      | nil => exact Nat.zero_le _
      | cons y l ih =>
        rw [List.flatMap_cons, List.length_append, List.length_append, show (y :: l).length = l.length + 1 from rfl, Nat.succ_mul]
        have := ih fun x hx => hl x (List.mem_cons_of_mem _ hx)
        have := hl y List.mem_cons_self
        omega
    have := this l fun x hx => hl x (List.mem_cons_of_mem _ hx)
    omega
def RowsAt (H : Hp) (l : Addr) (rows : List (List Cs)) : Prop := ∃ as : List Addr, H l = some (.lst (as.map V.ref)) ∧ All2 (fun a ws => H a = some (.lst (strL ws))) as rows
def spLines : Sp := fun vs H Q _ => ∃ (l : Addr) (rows : List (List Cs)), vs = [.ref l] ∧ RowsAt H l rows ∧ rows.length ≤ 100 ∧ (∀ ws ∈ rows, ws.length ≤ 50 ∧ ∀ x ∈ ws, x.length ≤ 20) ∧ Q (.str (SX.S (TL.joinL [10] (rows.map (TL.joinL [32]))))) H
theorem cal_law_lines (W : Wd K mg) : C8.Cal P w K mg base 1 "_law_lines" spLines [] := by
  refine mk_law_lines W (fun vs H Q E h => ?_) fun cdv A outer s H vs Q E hr h => ?_
  · obtain ⟨l, rows, rfl, _⟩ := h
    rfl
  obtain ⟨l, rows, rfl, ⟨as, el, hall⟩, hl, hw, q⟩ := h
  refine ⟨_, (pss_cons (ps_set (i := 1) sc_law_lines.nd rfl (.inl rfl) pe_str)
    (pss_cons (ps_for PassesOwn.never rfl (pi_range1 rfl W.z_range (pa_cons (pe_callB (crLn (K := K)) rfl W.z_len (by decide +kernel) (pa_cons (pv 0) pa_nil)) pa_nil)) (pg_name (i := 2) sc_law_lines.nd rfl (Or.inl rfl))
    (pss_one (ps_set (i := 1) sc_law_lines.nd rfl (.inl rfl) (pe_op op_add_str (pe_op op_add_str (pv 1) (pe_ifExp (pt_cmpR op_gt (pv 2) pe_int (nomark _)) pe_str pe_str)) (peJn (K := K) rfl pe_str (pe_ix (ixL (K := K)) (pv 0) (pv 2) (fun _ _ => rfl)))))))
    (pss_one (ps_ret (pv 1))))), ?_⟩
  walk_at "rd"
  refine r_lnL (SqL.of el) ?_
  refine ⟨_, rfl, by rw [List.length_map, hall.length]; omega, by rw [List.length_map, hall.length]; omega, ?_⟩
  rw [List.length_map, hall.length, Int.toNat_natCast]
  let txt : List Cs → Cs := TL.joinL [32]
  have rl : ∀ ws ∈ rows, (txt ws).length ≤ 1050 := fun ws h => by
    obtain ⟨h1, h2⟩ := hw ws h
    have := joinL_le (S := [32]) (k := 20) rfl ws h2
    show (TL.joinL [32] ws).length ≤ _
    omega
  refine for_w walk_nat (fun i σ H' => (∃ y2, σ = [some (.ref l), some (.str (SX.S (TL.joinL [10] ((rows.take i).map txt)))), y2]) ∧ H' = H) ⟨⟨_, rfl⟩, rfl⟩ (fun _ _ _ _ _ => trivial) ?_ ?_
  · rintro i v σ H1 H2 N hi ⟨⟨y2, rfl⟩, rfl⟩ ⟨rfl, rfl⟩ k
    have e0 : rows[i]? = some rows[i] := List.getElem?_eq_getElem hi
    have hia : i < as.length := by rw [hall.length]; exact hi
    have ea : as[i]? = some as[i] := List.getElem?_eq_getElem hia
    have er := hall.get ea e0
    have tk : (rows.take (i + 1)).map txt = (rows.take i).map txt ++ [txt rows[i]] := by
      rw [List.take_succ, e0, List.map_append] <;> rfl
    have tn : ((rows.take i).map txt = []) ↔ i = 0 := by
      rw [List.map_eq_nil_iff, List.take_eq_nil_iff]
      constructor
      · rintro (h | h)
        · exact h
        · rw [h] at hi
          cases hi
      · exact .inl
    have tl : (TL.joinL [10] ((rows.take i).map txt)).length ≤ 100 * 1051 := by
      have := joinL_le (S := [10]) (k := 1050) rfl ((rows.take i).map txt) fun x hx => by
        obtain ⟨ws, hws, rfl⟩ := List.mem_map.mp hx
        exact rl ws (List.mem_of_mem_take hws)
      rw [List.length_map, List.length_take] at this
      have h2 : min i rows.length ≤ 100 := by omega
      exact Nat.le_trans this (Nat.mul_le_mul_right _ h2)
    have rli := rl rows[i] (List.getElem_mem hi)
    walk_at "rd"
    refine r_dec (fun h0 => ?_) fun h0 => ?_
    · walk_at "rd"
      refine ⟨_, SX.S [10], rfl, rfl, ?_, ?_⟩
      · rw [SX.S_len, SX.S_len]
        exact Nat.le_trans (show _ ≤ 10000000 by simp only [List.length_nil, List.length_cons]; omega) (by decide)
      rw [SX.S_cat]
      walk_at "rd"
      refine r_ixL (v := .ref as[i]) (SqL.of el) (atI_nat (by rw [List.getElem?_map, ea] <;> rfl)) ?_
      refine ⟨[32], as[i], rows[i], rfl, rfl, .inl (SqL.of er), ?_, ?_⟩
      · exact join_le (x := 32) (m := 50) (k := 20) (hw _ (List.getElem_mem hi)).1 (hw _ (List.getElem_mem hi)).2 (by decide)
      refine ⟨_, _, rfl, rfl, ?_, ?_⟩
      · rw [SX.S_len, SX.S_len]
        exact Nat.le_trans (show _ ≤ 10000000 by rw [List.length_append]; simp only [List.length_nil, List.length_cons]; show _ + (txt rows[i]).length ≤ _; omega) (by decide)
      refine k _ _ ⟨⟨some (.int ((i : Nat) : Int)), ?_⟩, rfl⟩
      rw [SX.S_cat, tk, joinL_snoc, if_neg (fun z => by have := tn.mp z; omega), ← List.append_assoc] <;> rfl
    · walk_at "rd"
      refine ⟨_, SX.S [], rfl, rfl, ?_, ?_⟩
      · rw [SX.S_len, SX.S_len]
        exact Nat.le_trans (show _ ≤ 10000000 by simp only [List.length_nil, List.length_cons]; omega) (by decide)
      rw [SX.S_cat]
      walk_at "rd"
      refine r_ixL (v := .ref as[i]) (SqL.of el) (atI_nat (by rw [List.getElem?_map, ea] <;> rfl)) ?_
      refine ⟨[32], as[i], rows[i], rfl, rfl, .inl (SqL.of er), ?_, ?_⟩
      · exact join_le (x := 32) (m := 50) (k := 20) (hw _ (List.getElem_mem hi)).1 (hw _ (List.getElem_mem hi)).2 (by decide)
      refine ⟨_, _, rfl, rfl, ?_, ?_⟩
      · rw [SX.S_len, SX.S_len]
        exact Nat.le_trans (show _ ≤ 10000000 by rw [List.length_append]; simp only [List.length_nil, List.length_cons]; show _ + (txt rows[i]).length ≤ _; omega) (by decide)
      refine k _ _ ⟨⟨some (.int ((i : Nat) : Int)), ?_⟩, rfl⟩
      rw [SX.S_cat, tk, joinL_snoc, if_pos (tn.mpr (by omega)), ← List.append_assoc] <;> rfl
  · rintro σ H1 ⟨⟨y2, rfl⟩, rfl⟩
    walk_at "rd"
    rw [List.take_length]
    exact q
end
end K07

set_option maxRecDepth 100000
set_option maxHeartbeats 4000000
namespace K07
open PySem PySem.Spec PyProof.Rows L2
local macro_rules | `(tactic| walk_at "rd") => `(tactic| repeat (first
  | with_reducible refine r_seq ?_ | with_reducible refine r_asg ?_ | with_reducible refine r_name ?_ | with_reducible refine r_ret ?_ | with_reducible refine r_drop ?_ | with_reducible refine r_if ?_ | with_reducible refine r_nx ?_
  | with_reducible refine r_c ?_ | with_reducible refine r_op ?_ | with_reducible refine r_un ?_ | with_reducible refine r_cons ?_ | with_reducible refine r_nil ?_ | with_reducible refine r_test ?_ | with_reducible refine r_B ?_
  | with_reducible refine r_and ?_ | with_reducible refine r_or ?_ | with_reducible refine r_not ?_ | with_reducible refine r_andV ?_ | with_reducible refine r_orV ?_ | with_reducible refine r_notV ?_ | with_reducible refine r_tif ?_
  | with_reducible refine r_chain ?_ | with_reducible refine r_tyes ?_ | with_reducible refine r_lc ?_ | with_reducible refine r_rng1 ?_ | with_reducible refine r_itup ?_ | with_reducible refine r_ilist ?_ | with_reducible refine r_ienum ?_ | with_reducible refine r_istr ?_
  | with_reducible refine r_tup ?_ | with_reducible refine r_lst ?_ | with_reducible refine r_tfld ?_ | with_reducible refine r_gcons ?_ | with_reducible refine r_gnil ?_ | with_reducible refine r_gfld ?_ | with_reducible refine r_for ?_ | with_reducible refine r_sfld ?_ | with_reducible refine r_call ?_ | with_reducible refine r_cb ?_ | with_reducible refine r_sl ?_ | with_reducible refine r_np ?_ | with_reducible refine r_pt ?_ | with_reducible refine r_m1 ?_ | with_reducible refine r_par ?_ | with_reducible refine r_p2 ?_ | with_reducible refine r_u ?_ | with_reducible refine r_meth ?_ | with_reducible refine r_make ?_ | with_reducible refine r_gsub ?_ | with_reducible refine r_bm ?_ | with_reducible refine r_bm0 ?_ | with_reducible refine r_j0 ?_ | with_reducible refine r_jF ?_ | with_reducible refine r_jN ?_ | with_reducible refine r_bl ?_ | with_reducible refine r_i0 ?_ | with_reducible refine tt_ite ?_ | with_reducible refine ff_ite ?_ | with_reducible refine nt_ite ?_ | with_reducible refine nf_ite ?_
  | with_reducible refine r_var (by with_unfolding_all exact rfl) ?_))
theorem lt_of_not {a b : Cs} (h : ¬ b < a) (n : a ≠ b) : a < b := Std.lt_of_le_of_ne (List.not_lt.mp h) n
def baseN (fr : Cs) (i : Nat) : Cs := fr ++ [97 + (7 * i + 3) % 26]
theorem ltS_at : ∀ j : Nat, j < 26 → ltS[j]? = some (97 + j) := by decide
theorem base_inj {fr : Cs} {i j : Nat} (hi : i < 26) (hj : j < 26) (e : baseN fr i = baseN fr j) : i = j := by
  have := List.append_cancel_left e
  have := List.head_eq_of_cons_eq this
  omega
theorem base_name {fr : Cs} (hl : fr.length ≤ 5) (hf : ∀ c ∈ fr, IsL c) (i : Nat) : IsName (baseN fr i) := by
  unfold baseN
  refine ⟨by rw [List.length_append, List.length_singleton]; omega, by rw [List.length_append, List.length_singleton]; omega, fun c hc => ?_⟩
  rcases List.mem_append.mp hc with h | h
  · exact hf c h
  · rw [List.mem_singleton.mp h]
    have := Nat.mod_lt (7 * i + 3) (show 0 < 26 by decide)
    unfold IsL
    omega
/-- the names of a draw, sorted -/
theorem names_ok {fr : Cs} {many r : Nat} {x : Cs} (h1 : 1 ≤ many) (h2 : many ≤ 12) (hl : fr.length ≤ 5) (hf : ∀ c ∈ fr, IsL c) (hr : r < many) (hx : x = baseN fr r ∨ (x = baseN fr r ++ [111] ∧ (baseN fr r).length < 6)) {ys : List Str}
    (hp : ys.Perm ((((List.range many).map (baseN fr)).set r x).map SX.S)) (hs : sortedS ys = true) : ∃ ns : List Cs, ys = ns.map SX.S ∧ NamesOk ns ∧ ns.length = many := by
  refine ⟨ys.map fun z => z.cps.toList, ?_, ?_, ?_⟩
  · rw [List.map_map]
    have : ∀ l : List Str, l = l.map (SX.S ∘ fun x => x.cps.toList) := fun l => by
      induction l with
      | nil => rfl
      | cons a l ih => rw [List.map_cons, ← ih] <;> rfl
    exact this ys
  · have hp2 : (ys.map fun z => z.cps.toList).Perm (((List.range many).map (baseN fr)).set r x) := by
      have := hp.map fun z : Str => z.cps.toList
      rw [List.map_map, show ((fun z : Str => z.cps.toList) ∘ SX.S) = id from rfl, List.map_id] at this
      exact this
    have len : (((List.range many).map (baseN fr)).set r x).length = many := by rw [List.length_set, List.length_map, List.length_range]
    have mem : ∀ n ∈ ((List.range many).map (baseN fr)).set r x, (∃ i, i < many ∧ n = baseN fr i) ∨ n = x := fun n hn => by
      rcases List.mem_or_eq_of_mem_set hn with h | h
      · obtain ⟨i, hi, rfl⟩ := List.mem_map.mp h
        exact .inl ⟨i, List.mem_range.mp hi, rfl⟩
      · exact .inr h
    have nd : (((List.range many).map (baseN fr)).set r x).Nodup := by
      show List.Pairwise _ _
      rw [List.pairwise_iff_getElem]
      intro i j hi hj hij
      have hi : i < many := by rw [len] at hi; exact hi
      have hj : j < many := by rw [len] at hj; exact hj
      rw [List.getElem_set, List.getElem_set, List.getElem_map, List.getElem_map, List.getElem_range, List.getElem_range]
      have key : ∀ k, k ≠ r → k < many → x ≠ baseN fr k := fun k hk hkm e => by
        rcases hx with h | ⟨h, _⟩
        · rw [h] at e
          exact hk (base_inj (by omega) (by omega) e).symm
        · rw [h] at e
          have := congrArg List.length e
          unfold baseN at this
          simp only [List.length_append, List.length_singleton] at this
          omega
      by_cases h1 : r = i
      · rw [if_pos h1]
        rw [if_neg (by omega)]
        exact key j (by omega) hj
      · rw [if_neg h1]
        by_cases h2 : r = j
        · rw [if_pos h2]
          exact fun e => key i (fun z => h1 z.symm) hi e.symm
        · rw [if_neg h2]
          exact fun e => by
            have := base_inj (fr := fr) (by omega) (by omega) e
            omega
    have nm : ∀ n ∈ ((List.range many).map (baseN fr)).set r x, IsName n := fun n hn => by
      rcases mem n hn with ⟨i, _, rfl⟩ | rfl
      · exact base_name hl hf i
      · rcases hx with h | ⟨h, h6⟩
        · rw [h]
          exact base_name hl hf r
        · rw [h]
          obtain ⟨a, b, c⟩ := base_name hl hf r
          refine ⟨by rw [List.length_append]; omega, by rw [List.length_append, List.length_singleton]; omega, fun d hd => ?_⟩
          rcases List.mem_append.mp hd with h | h
          · exact c d h
          · rw [List.mem_singleton.mp h]
            unfold IsL
            omega
    refine ⟨by rw [hp2.length_eq, len]; exact h1, by rw [hp2.length_eq, len]; exact h2, fun n hn => nm n (hp2.mem_iff.mp hn), ?_⟩
    have nd2 := hp2.nodup_iff.mpr nd
    exact List.Pairwise.imp₂ (R := fun a b => ¬ b < a) (S := fun a b : Cs => a ≠ b) (fun a b h n => lt_of_not h n) (sortedS_pw ys hs) nd2
  · rw [List.length_map, hp.length_eq, List.length_map, List.length_set, List.length_map, List.length_range]
section
variable {P : Program} {w : World} {K : PySem.W.Frag} {mg : Str → Option Value} {base : Heap}
def spNames : Sp := fun vs H Q _ => ∃ (a b : Addr) (many : Nat), vs = [.ref a, .int (many : Nat)] ∧ Rng H a b ∧ 1 ≤ many ∧ many ≤ 12 ∧ ∀ (H' : Hp) (p : Addr) (o : Obj) (ns : List Cs), RK a b H H' → Rng H' a b → H p = none → H' p = some (.frz o (.tup (strL ns))) → o.dict = none → NamesOk ns → ns.length = many → Q (.ref p) H'
theorem cal_law_names (W : Wd K mg) : C8.Cal P w K mg base 3 "_law_names" spNames [] := by
  refine mk_law_names W (fun vs H Q E h => ?_) fun cdv A outer s H vs Q E hr h => ?_
  · obtain ⟨a, b, many, rfl, _⟩ := h
    rfl
  obtain ⟨a, b, many, rfl, hR, h1, h2, q⟩ := h
  refine ⟨_, (pss_cons (ps_par3 (i := 2) (j := 3) (l := 4) rfl sc_law_names.nd rfl rfl rfl (by decide) (by decide) (by decide) rfl rfl rfl (pa_cons pe_str (pa_cons (C8.pe_c (cal_law_pick W) hr (by decide) rfl (pa_cons (pv 0) (pa_cons (pe_lst (pa_cons pe_str (pa_cons pe_str (pa_cons pe_str (pa_cons pe_str (pa_cons pe_str pa_nil)))))) pa_nil))) (pa_cons (pe_lst pa_nil) pa_nil))) (by rfl))
    (pss_cons (ps_for PassesOwn.never rfl (pi_range1 rfl W.z_range (pa_cons (pv 1) pa_nil)) (pg_name (i := 5) sc_law_names.nd rfl (Or.inl rfl))
    (pss_one (ps_expr (pe_bm PySem.F.plainAttrs_list PySem.F.slot_list_append PySem.F.type_list_append mt_append (pv 4) (pa_cons (pe_op op_add_str (pv 3) (pe_item_str (pv 2) (pe_op op_mod (pe_callTy call_int1 rfl W.z_int (by decide +kernel) (pa_cons (pe_op op_add (pe_op op_mul pe_int (pv 5)) pe_int) pa_nil)) pe_int) (fun _ _ => rfl))) pa_nil)))))
    (pss_cons (ps_set (i := 5) sc_law_names.nd rfl (.inl rfl) (C8.pe_c (cal_law_draw W) hr (by decide) rfl (pa_cons (pv 0) (pa_cons (pv 1) pa_nil))))
    (pss_cons (ps_asg (pe_op op_add_str (pe_ix (ixL (K := K)) (pv 4) (pv 5) (fun _ _ => rfl)) (pe_op op_repS pe_str (pe_callTy call_int1 rfl W.z_int (by decide +kernel) (pa_cons (pe_and (pe_cmpR op_lt (pe_callB crLnS rfl W.z_len (by decide +kernel) (pa_cons (pe_ix (ixL (K := K)) (pv 4) (pv 5) (fun _ _ => rfl)) pa_nil)) pe_int (nomark _)) (pe_one (pe_cmpR op_eq (C8.pe_c (cal_law_draw W) hr (by decide) rfl (pa_cons (pv 0) (pa_cons pe_int pa_nil))) pe_int (nomark _)))) pa_nil)))) (pg_sub (pv 4) (pv 5) set_list))
    (pss_one (ps_ret (pe_callTy (crTp (K := K)) rfl W.z_tuple (by decide +kernel) (pa_cons (pe_callB (crSortS (K := K)) rfl W.z_sorted (by decide +kernel) (pa_cons (pv 4) pa_nil)) pa_nil)))))))), ?_⟩
  walk_at "rd"
  refine r_par3 ?_
  walk_at "rd"
  refine ⟨small (show 5 ≤ 100 by decide), fun l hl => ?_⟩
  have s1 := same_upd (o := .lst [.str "", .str "", .str "b", .str "zz", .str "mnopu"]) hl
  refine ⟨a, b, l, _, rfl, hR.same s1, upd_same, hR.fresh hl, List.cons_ne_nil _ _, (show 5 ≤ 1000 by decide), fun H1 x k1 hR1 hx => ?_⟩
  obtain ⟨fr, rfl, hfl, hfm⟩ : ∃ fr : Cs, x = .str (SX.S fr) ∧ fr.length ≤ 5 ∧ ∀ c ∈ fr, IsL c := by
    simp only [List.mem_cons, List.not_mem_nil, or_false] at hx
    rcases hx with rfl | rfl | rfl | rfl | rfl
    · exact ⟨[], by decide +kernel, by decide, by decide⟩
    · exact ⟨[], by decide +kernel, by decide, by decide⟩
    · exact ⟨[98], by decide +kernel, by decide, by decide⟩
    · exact ⟨[122, 122], by decide +kernel, by decide, by decide⟩
    · exact ⟨[109, 110, 111, 112, 117], by decide +kernel, by decide, by decide⟩
  have k1 := (RK.of s1).trans k1
  walk_at "rd"
  refine ⟨small (by decide), fun F hF => ?_⟩
  have hR2 : Rng (upd H1 F (.lst [])) a b := hR1.same (same_upd hF)
  have nF := hR1.fresh hF
  have k2 := k1.trans (RK.of (same_upd (o := .lst []) hF))
  have eF : upd H1 F (.lst []) F = some (.lst []) := upd_same
  have hFH : H F = none := by
    cases e : H F with
    | none => rfl
    | some o => exact absurd (k1.at e nF) (by rw [hF]; exact fun z => by cases z)
  generalize upd H1 F (.lst []) = H2 at hR2 k2 eF ⊢
  refine ⟨_, _, _, rfl, ?_⟩
  walk_at "rd"
  refine ⟨_, rfl, by omega, by omega, ?_⟩
  rw [Int.toNat_natCast]
  refine for_w walk_nat (fun i σ H' => (∃ y5, σ = [some (.ref a), some (.int (many : Nat)), some (.str "abcdefghijklmnopqrstuvwxyz"), some (.str (SX.S fr)), some (.ref F), y5]) ∧ RK a b H H' ∧ Rng H' a b ∧ H' F = some (.lst (strL ((List.range i).map (baseN fr))))) ⟨⟨_, rfl⟩, k2, hR2, eF⟩ (fun _ _ _ _ _ => trivial) ?_ ?_
  · rintro i v σ H3 H4 N hi ⟨⟨y5, rfl⟩, k3, hR3, e3⟩ ⟨rfl, rfl⟩ k
    walk_at "rd"
    refine r_tyL e3 ?_
    walk_at "rd"
    refine ⟨7, _, rfl, rfl, .inl ⟨by decide, by decide⟩, ?_⟩
    walk_at "rd"
    refine .inl ⟨_, rfl, ?_⟩
    walk_at "rd"
    refine ⟨_, 26, rfl, rfl, (show (0 : Int) < 26 by decide), ?_⟩
    rw [lt_S]
    have hm := Nat.mod_lt (7 * i + 3) (show 0 < 26 by decide)
    show ∃ z i' c, V.str (SX.S ltS) = .str z ∧ V.int ((7 * ((i : Nat) : Int) + 3) % 26) = .int i' ∧ _
    rw [show (7 * ((i : Nat) : Int) + 3) % 26 = (((7 * i + 3) % 26 : Nat) : Int) by omega]
    refine r_itS (by decide) (ltS_at _ hm) ?_
    refine ⟨_, SX.S [97 + (7 * i + 3) % 26], rfl, rfl, ?_, ?_⟩
    · rw [SX.S_len, SX.S_len]
      exact small (by simp only [List.length_singleton]; omega)
    rw [SX.S_cat]
    walk_at "rd"
    refine r_app e3 (by rw [List.length_map, List.length_map, List.length_range]; omega) (k _ _ ⟨⟨_, rfl⟩, RK.set hFH k3, hR3.upd nF, ?_⟩)
    rw [upd_same, List.range_succ, List.map_append (l₁ := List.range i), strL, strL, List.map_append (l₂ := List.map (baseN fr) [i])] <;> rfl
  · rintro σ H3 ⟨⟨y5, rfl⟩, k3, hR3, e3⟩
    walk_at "rd"
    refine ⟨a, b, many, rfl, hR3, h1, by omega, fun H4 r k4 hR4 hr4 => ?_⟩
    walk_at "rd"
    have e4 := k4.at e3 nF
    have er : atI (strL ((List.range many).map (baseN fr))) ((r : Nat) : Int) = some (.str (SX.S (baseN fr r))) := atI_nat (by rw [List.getElem?_map, List.getElem?_map, List.getElem?_range hr4] <;> rfl)
    refine r_ixL (SqL.of e4) er ?_
    obtain ⟨b1, b2, b3⟩ := base_name hfl hfm r
    have key : ∀ (H5 : Hp) (k : Nat) (x : Cs), RK a b H H5 → Rng H5 a b → H5 F = some (.lst (strL ((List.range many).map (baseN fr)))) → x = baseN fr r ++ repT [111] (k : Nat) → k ≤ 1 → (x = baseN fr r ∨ (x = baseN fr r ++ [111] ∧ (baseN fr r).length < 6)) →
        ∃ i j, V.str (SX.S (baseN fr r)) = V.str i ∧ V.str (SX.S (repT [111] (k : Nat))) = V.str j ∧ i.length + j.length ≤ sizeLine ∧
          gSub (tVar 4) (tVar 5) rSetL (V.str (i ++ j)) [some (.ref a), some (.int (many : Nat)), some (.str "abcdefghijklmnopqrstuvwxyz"), some (.str (SX.S fr)), some (.ref F), some (.int (r : Nat))] H5 fun σ' H' =>
            tRet (tCB (rTp K) (tCons (tCB (rSortedS K) (tCons (tVar 4) tNil)) tNil)) { nx := fun _ H' => Q .non H', rt := Q } σ' H' := by
      intro H5 k x k5 hR5 e5 hx hk hx2
      have lx : x.length ≤ 7 := by
        rcases hx2 with h | ⟨h, h6⟩
        · rw [h]
          omega
        · rw [h, List.length_append, List.length_singleton]
          omega
      refine ⟨_, _, rfl, rfl, ?_, ?_⟩
      · rw [SX.S_len, SX.S_len, ← List.length_append, ← hx]
        exact small (by omega)
      rw [SX.S_cat, ← hx]
      walk_at "rd"
      refine ⟨F, _, r, r, rfl, rfl, e5, ixN_nat (by rw [List.length_map, List.length_map, List.length_range]; exact hr4), ?_⟩
      walk_at "rd"
      have e6 : upd H5 F (.lst ((strL ((List.range many).map (baseN fr))).set r (.str (SX.S x)))) F = some (.lst (((((List.range many).map (baseN fr)).set r x).map SX.S).map V.str)) := by
        rw [upd_same, List.map_map]
        show some (HO.lst ((List.map _ ((List.range many).map (baseN fr))).set r _)) = _
        rw [List.map_set] <;> rfl
      refine ⟨F, _, rfl, SqL.of e6, by rw [List.length_map, List.length_set, List.length_map, List.length_range]; omega, fun ys p hp1 hp2 hp => ?_⟩
      obtain ⟨ns, rfl, hok, hlen⟩ := names_ok h1 h2 hfl hfm hr4 hx2 hp1 hp2
      walk_at "rd"
      refine ⟨p, _, rfl, SqL.of upd_same, fun t o ht ho => ?_⟩
      have s7 := same_upd (o := .lst ((ns.map SX.S).map V.str)) hp
      have s8 := same_upd (o := .frz o (.tup ((ns.map SX.S).map V.str))) ht
      have k6 : RK a b H (upd H5 F (.lst ((strL ((List.range many).map (baseN fr))).set r (.str (SX.S x))))) := RK.set hFH k5
      have hR6 := (hR5.upd (o := .lst ((strL ((List.range many).map (baseN fr))).set r (.str (SX.S x)))) nF).same (s7.trans s8)
      have k8 := k6.trans (RK.of (s7.trans s8))
      refine q _ t o ns k8 hR6 ?_ (by rw [upd_same, List.map_map] <;> rfl) ho hok hlen
      have nt := ((hR5.upd (o := .lst ((strL ((List.range many).map (baseN fr))).set r (.str (SX.S x)))) nF).same s7).fresh ht
      cases e : H t with
      | none => rfl
      | some o' => exact absurd (s7 _ _ (k6.at e nt)) (by rw [ht]; exact fun z => by cases z)
    walk_at "rd"
    refine r_ixL (SqL.of e4) er ?_
    walk_at "rd"
    refine r_lnS (by omega) ?_
    walk_at "rd"
    have oS : Str.ofString "o" = SX.S [111] := by decide +kernel
    rw [oS]
    refine r_dec (fun h6 => ?_) fun h6 => ?_
    · walk_at "rd"
      refine ⟨a, b, 2, rfl, hR4, by decide, by decide, fun H5 r2 k5 hR5 _ => ?_⟩
      walk_at "rd"
      refine r_eq rfl ?_
      rw [int_eqd]
      by_cases h0 : ((r2 : Nat) : Int) = 0
      · rw [decide_eq_true h0]
        refine .inr ⟨true, rfl, ?_⟩
        refine ⟨[111], ((1 : Nat) : Int), rfl, rfl, by decide, by decide, by decide, ?_⟩
        exact key H5 1 _ ((k3.trans k4).trans k5) hR5 (k5.at e4 nF) rfl (Nat.le_refl _) (.inr ⟨rfl, by omega⟩)
      · rw [decide_eq_false h0]
        refine .inr ⟨false, rfl, ?_⟩
        refine ⟨[111], ((0 : Nat) : Int), rfl, rfl, by decide, by decide, by decide, ?_⟩
        exact key H5 0 _ ((k3.trans k4).trans k5) hR5 (k5.at e4 nF) rfl (Nat.zero_le _) (.inl (List.append_nil _))
    · walk_at "rd"
      refine .inr ⟨false, rfl, ?_⟩
      refine ⟨[111], ((0 : Nat) : Int), rfl, rfl, by decide, by decide, by decide, ?_⟩
      exact key H4 0 _ (k3.trans k4) hR4 e4 rfl (Nat.zero_le _) (.inl (List.append_nil _))
end
end K07

set_option maxRecDepth 100000
set_option maxHeartbeats 4000000
namespace K07
open PySem PySem.Spec PyProof.Rows L2
local macro_rules | `(tactic| walk_at "rd") => `(tactic| repeat (first
  | with_reducible refine r_seq ?_ | with_reducible refine r_asg ?_ | with_reducible refine r_name ?_ | with_reducible refine r_ret ?_ | with_reducible refine r_drop ?_ | with_reducible refine r_if ?_ | with_reducible refine r_nx ?_
  | with_reducible refine r_c ?_ | with_reducible refine r_op ?_ | with_reducible refine r_un ?_ | with_reducible refine r_cons ?_ | with_reducible refine r_nil ?_ | with_reducible refine r_test ?_ | with_reducible refine r_B ?_
  | with_reducible refine r_and ?_ | with_reducible refine r_or ?_ | with_reducible refine r_not ?_ | with_reducible refine r_andV ?_ | with_reducible refine r_orV ?_ | with_reducible refine r_notV ?_ | with_reducible refine r_tif ?_
  | with_reducible refine r_chain ?_ | with_reducible refine r_tyes ?_ | with_reducible refine r_lc ?_ | with_reducible refine r_rng1 ?_ | with_reducible refine r_itup ?_ | with_reducible refine r_ilist ?_ | with_reducible refine r_ienum ?_ | with_reducible refine r_istr ?_
  | with_reducible refine r_tup ?_ | with_reducible refine r_lst ?_ | with_reducible refine r_tfld ?_ | with_reducible refine r_gcons ?_ | with_reducible refine r_gnil ?_ | with_reducible refine r_gfld ?_ | with_reducible refine r_for ?_ | with_reducible refine r_sfld ?_ | with_reducible refine r_call ?_ | with_reducible refine r_cb ?_ | with_reducible refine r_sl ?_ | with_reducible refine r_np ?_ | with_reducible refine r_pt ?_ | with_reducible refine r_m1 ?_ | with_reducible refine r_par ?_ | with_reducible refine r_p2 ?_ | with_reducible refine r_u ?_ | with_reducible refine r_meth ?_ | with_reducible refine r_make ?_ | with_reducible refine r_gsub ?_ | with_reducible refine r_bm ?_ | with_reducible refine r_bm0 ?_ | with_reducible refine r_j0 ?_ | with_reducible refine r_jF ?_ | with_reducible refine r_jN ?_ | with_reducible refine r_bl ?_ | with_reducible refine r_i0 ?_ | with_reducible refine tt_ite ?_ | with_reducible refine ff_ite ?_ | with_reducible refine nt_ite ?_ | with_reducible refine nf_ite ?_
  | with_reducible refine r_var (by with_unfolding_all exact rfl) ?_))
def Va (te : TE) (σ : L2.St) (H : Hp) (v : V) : Prop := ∀ Q : VK, Q v H → te σ H Q
theorem va_c {σ : L2.St} {H : Hp} {v : V} : Va (tC v) σ H v := fun _ q => q
def rLeS : R2 := fun x y H Q => ∃ i j, x = .str i ∧ y = .str j ∧ Q (.bl (!decide (j.cps.toList < i.cps.toList))) H
theorem one_lt {a b : Nat} : (([a] : Cs) < [b]) ↔ a < b := by
  rw [List.cons_lt_cons_iff]
  constructor
  · rintro (h | ⟨_, h⟩)
    · exact h
    · exact absurd h (List.lt_irrefl _)
  · exact .inl
section
variable {σ : L2.St} {H : Hp} {ta tb tc : TE} {u v : Bool} {x c y : Nat}
theorem va_chain (ha : Va ta σ H (.str (SX.S [x]))) (hb : Va tb σ H (.str (SX.S [c]))) (hc : Va tc σ H (.str (SX.S [y]))) : Va (tChain rLeS rLeS ta tb tc) σ H (.bl (decide (x ≤ c) && decide (c ≤ y))) := by
  intro Q q
  refine r_chain (ha _ (hb _ ⟨_, _, rfl, rfl, _, rfl, ?_⟩))
  have e1 : (!decide ((SX.S [c]).cps.toList < (SX.S [x]).cps.toList)) = decide (x ≤ c) := by
    rw [show decide ((SX.S [c]).cps.toList < (SX.S [x]).cps.toList) = decide (c < x) from decide_eq_decide.mpr one_lt]
    by_cases h : x ≤ c
    · rw [decide_eq_true h, decide_eq_false (by omega)] <;> rfl
    · rw [decide_eq_false h, decide_eq_true (by omega)] <;> rfl
  have e2 : (!decide ((SX.S [y]).cps.toList < (SX.S [c]).cps.toList)) = decide (c ≤ y) := by
    rw [show decide ((SX.S [y]).cps.toList < (SX.S [c]).cps.toList) = decide (y < c) from decide_eq_decide.mpr one_lt]
    by_cases h : c ≤ y
    · rw [decide_eq_true h, decide_eq_false (by omega)] <;> rfl
    · rw [decide_eq_false h, decide_eq_true (by omega)] <;> rfl
  rw [e1]
  by_cases h : x ≤ c
  · rw [decide_eq_true h] at q ⊢
    rw [if_pos rfl]
    refine hc _ ⟨_, _, rfl, rfl, ?_⟩
    rw [e2]
    exact q
  · rw [decide_eq_false h] at q ⊢
    rw [if_neg Bool.false_ne_true]
    exact q
theorem va_and (ha : Va ta σ H (.bl u)) (hb : Va tb σ H (.bl v)) : Va (tAndV ta tb) σ H (.bl (u && v)) := by
  intro Q q
  refine r_andV (ha _ ⟨u, rfl, ?_⟩)
  cases u with
  | true => exact hb _ q
  | false => exact q
theorem va_or (ha : Va ta σ H (.bl u)) (hb : Va tb σ H (.bl v)) : Va (tOrV ta tb) σ H (.bl (u || v)) := by
  intro Q q
  refine r_orV (ha _ ⟨u, rfl, ?_⟩)
  cases u with
  | true => exact q
  | false => exact hb _ q
end
def inLs (c : Nat) : Bool := decide (97 ≤ c) && decide (c ≤ 122)
def inDs (c : Nat) : Bool := decide (48 ≤ c) && decide (c ≤ 57)
theorem inLs_iff {c : Nat} : inLs c = true ↔ IsL c := by
  unfold inLs IsL
  rw [Bool.and_eq_true, decide_eq_true_iff, decide_eq_true_iff]
theorem inDs_iff {c : Nat} : inDs c = true ↔ IsD c := by
  unfold inDs IsD
  rw [Bool.and_eq_true, decide_eq_true_iff, decide_eq_true_iff]
/-- one kind of sign throughout -/
def Hom (p : Cs) : Prop := Mark p ∨ p = [61]
theorem Hom.near {p m : Cs} (h : Hom p) {c d : Nat} (hc : m.head? = some c) (hd : p.head? = some d) (hn : Near p m) : ((inLs c && inLs d) || (inDs c && inDs d)) = true := by
  have kind : ∀ e, p.getLast? = some e → (IsL e → IsL d) ∧ (IsD e → IsD d) := fun e he => by
    have m1 : e ∈ p := List.mem_of_getLast? he
    have m2 : d ∈ p := List.mem_of_mem_head? hd
    rcases h with h | h
    · cases h with
      | word _ a => exact ⟨fun _ => a d m2, fun z => by have := a e m1; unfold IsL at this; unfold IsD at z; omega⟩
      | num _ a => exact ⟨fun z => by have := a e m1; unfold IsD at this; unfold IsL at z; omega, fun _ => a d m2⟩
      | one _ _ _ =>
        rw [List.mem_singleton.mp m1, List.mem_singleton.mp m2]
        exact ⟨id, id⟩
    · rw [h] at m1 m2
      rw [List.mem_singleton.mp m1, List.mem_singleton.mp m2]
      exact ⟨id, id⟩
  rcases hn with ⟨e, f, h1, h2, h3, h4⟩ | ⟨e, f, h1, h2, h3, h4⟩
  · rw [hc] at h2
    cases h2
    rw [inLs_iff.mpr h4, inLs_iff.mpr ((kind e h1).1 h3)] <;> rfl
  · rw [hc] at h2
    cases h2
    rw [inDs_iff.mpr h4, inDs_iff.mpr ((kind e h1).2 h3), Bool.or_comm] <;> rfl
theorem repT_one (n : Nat) : repT [32] (n : Int) = List.replicate n 32 := by
  unfold repT
  rw [Int.toNat_natCast]
  induction n with
  | zero => rfl
  | succ n ih => rw [List.replicate_succ, List.flatten_cons, ih, List.replicate_succ] <;> rfl
section
variable {P : Program} {w : World} {K : PySem.W.Frag} {mg : Str → Option Value} {base : Heap}
theorem va_var {σ : L2.St} {H : Hp} {i : Nat} {v : V} (h : σ[i]? = some (some v)) : Va (tVar i) σ H v := fun _ q => ⟨v, h, q⟩
theorem va_item {σ : L2.St} {H : Hp} {i : Nat} {z : Cs} {c : Nat} (h : σ[i]? = some (some (.str (SX.S z)))) (hz : z.length ≤ 1000000) (e : z.head? = some c) :
    Va (tOp (fun x y H Q => ∃ z i c, x = V.str z ∧ y = V.int i ∧ 0 ≤ i ∧ i < 2 ^ 63 ∧ i < z.length ∧ z.cps[i.toNat]? = some c ∧ Q (V.str ⟨#[c]⟩) H) (tVar i) (tC (.int 0))) σ H (.str (SX.S [c])) := by
  intro Q q
  refine r_op ⟨_, h, ?_⟩
  exact r_itS (i := 0) hz (by rw [← List.head?_eq_getElem?]; exact e) q
def spGlued : Sp := fun vs H Q _ => ∃ (a b l : Addr) (ms : List Cs), vs = [.ref a, .ref l] ∧ Rng H a b ∧ H l = some (.lst (strL ms)) ∧ (l ≠ a ∧ l ≠ b) ∧ ms.length ≤ 4000 ∧ (∀ m ∈ ms, Mark m ∧ m.length ≤ 12) ∧
  ∀ (H' : Hp) (z : Cs), RK a b H H' → Rng H' a b → Lex z ms → z.length ≤ 100000 → Q (.str (SX.S z)) H'
theorem cal_law_glued (W : Wd K mg) : C8.Cal P w K mg base 3 "_law_glued" spGlued [] := by
  refine mk_law_glued W (fun vs H Q E h => ?_) fun cdv A outer s H vs Q E hr h => ?_
  · obtain ⟨a, b, l, ms, rfl, _⟩ := h
    rfl
  obtain ⟨a, b, l, ms, rfl, hR, el, nl, hl, hms, q⟩ := h
  refine ⟨_, (pss_cons (ps_asg (pe_tup (pa_cons pe_str (pa_cons pe_str pa_nil))) (pgT (K := K) (n := 2) rfl rfl (pgs_cons (pg_name (i := 2) sc_law_glued.nd rfl (Or.inl rfl)) (pgs_cons (pg_name (i := 3) sc_law_glued.nd rfl (Or.inl rfl)) pgs_nil))))
    (pss_cons (ps_for PassesOwn.never rfl (piL (K := K) rfl (pv 1)) (pg_name (i := 4) sc_law_glued.nd rfl (Or.inl rfl))
    (pss_cons (ps_set (i := 5) sc_law_glued.nd rfl (.inl rfl) (pe_or (pe_and (pe_chain op_le_str op_le_str pe_str (pe_item_str (pv 4) pe_int (fun _ _ => rfl)) pe_str) (pe_one (pe_chain op_le_str op_le_str pe_str (pe_item_str (pv 3) pe_int (fun _ _ => rfl)) pe_str))) (pe_one (pe_and (pe_chain op_le_str op_le_str pe_str (pe_item_str (pv 4) pe_int (fun _ _ => rfl)) pe_str) (pe_one (pe_chain op_le_str op_le_str pe_str (pe_item_str (pv 3) pe_int (fun _ _ => rfl)) pe_str))))))
    (pss_one (ps_par (i := 2) (j := 3) rfl sc_law_glued.nd rfl rfl (by decide) rfl rfl (pa_cons (pe_op op_add_str (pe_op op_add_str (pv 2) (pe_op op_repS pe_str (pe_op op_add (pe_callTy call_int1 rfl W.z_int (by decide +kernel) (pa_cons (pv 5) pa_nil)) (C8.pe_c (cal_law_pick W) hr (by decide) rfl (pa_cons (pv 0) (pa_cons (pe_lst (pa_cons pe_int (pa_cons pe_int (pa_cons pe_int (pa_cons pe_int (pa_cons pe_int pa_nil)))))) pa_nil)))))) (pv 4)) (pa_cons (pv 4) pa_nil)) (by rfl)))))
    (pss_one (ps_ret (pe_op op_add_str (pv 2) (pe_op op_repS pe_str (C8.pe_c (cal_law_draw W) hr (by decide) rfl (pa_cons (pv 0) (pa_cons pe_int pa_nil))))))))), ?_⟩
  have aS : Str.ofString "a" = SX.S [97] := by decide +kernel
  have zS : Str.ofString "z" = SX.S [122] := by decide +kernel
  have d0S : Str.ofString "0" = SX.S [48] := by decide +kernel
  have d9S : Str.ofString "9" = SX.S [57] := by decide +kernel
  have eS : Str.ofString "=" = SX.S [61] := by decide +kernel
  have nS : Str.ofString "" = SX.S [] := by decide +kernel
  have bS : Str.ofString " " = SX.S [32] := by decide +kernel
  rw [aS, zS, d0S, d9S, eS, nS, bS]
  walk_at "rd"
  refine ⟨small (show 2 ≤ 100 by decide), fun T hT => ?_⟩
  have s0 := same_upd (o := .tup [.str (SX.S []), .str (SX.S [61])]) hT
  refine r_gtup (xs := [.str (SX.S []), .str (SX.S [61])]) (TupAt.of upd_same).sq rfl ?_
  have hR0 := hR.same s0
  have k0 : RK a b H _ := RK.of s0
  have el0 := s0 _ _ el
  generalize upd H T (.tup [.str (SX.S []), .str (SX.S [61])]) = H00 at hR0 k0 el0 ⊢
  walk_at "rd"
  refine ⟨l, rfl, ⟨_, SqL.of el0⟩, ?_⟩
  refine for_w (walk_list (xs := strL ms)) (fun i σ H' => ∃ (y4 y5 : Option V) (ps : List (Nat × Cs)) (p : Cs), σ = [some (.ref a), some (.ref l), some (.str (SX.S (glue ps))), some (.str (SX.S p)), y4, y5] ∧ RK a b H H' ∧ Rng H' a b ∧ Good [61] ps ∧ lastM [61] ps = p ∧ ps.map (·.2) = ms.take i ∧
    (glue ps).length ≤ 15 * i ∧ Hom p ∧ p ≠ [] ∧ p.length ≤ 12) ⟨_, _, [], [61], rfl, k0, hR0, trivial, rfl, rfl, Nat.zero_le _, .inr rfl, List.cons_ne_nil _ _, by decide⟩ (fun i σ H' _ h => ?_) ?_ ?_
  · obtain ⟨y4, y5, ps, p, _, k, _⟩ := h
    exact SqL.of (k.at el nl)
  · rintro i v σ H1 H2 N hi ⟨y4, y5, ps, p, rfl, k1, hR1, hg, hlast, hmap, hlen, hhom, hpn, hpl⟩ ⟨rfl, ev⟩ k
    have hi' : i < ms.length := by rw [List.length_map] at hi; exact hi
    have e0 : ms[i]? = some ms[i] := List.getElem?_eq_getElem hi'
    rw [List.getElem?_map, e0] at ev
    obtain rfl := Option.some.inj ev
    obtain ⟨hmk, hml⟩ := hms _ (List.getElem_mem hi')
    generalize ms[i] = m at hmk hml e0 ⊢
    obtain ⟨c, m', rfl⟩ := List.exists_cons_of_ne_nil hmk.ne
    obtain ⟨d, p', rfl⟩ := List.exists_cons_of_ne_nil hpn
    refine r_name ?_
    refine r_seq (r_asg ?_)
    refine va_or (va_and (va_chain va_c (va_item rfl (by omega) rfl) va_c) (va_chain va_c (va_item rfl (by omega) rfl) va_c)) (va_and (va_chain va_c (va_item rfl (by omega) rfl) va_c) (va_chain va_c (va_item rfl (by omega) rfl) va_c)) _ ?_
    have hnear := fun hn => Hom.near hhom (m := c :: m') rfl rfl hn
    generalize hv : ((decide (97 ≤ c) && decide (c ≤ 122) && (decide (97 ≤ d) && decide (d ≤ 122))) || (decide (48 ≤ c) && decide (c ≤ 57) && (decide (48 ≤ d) && decide (d ≤ 57)))) = nv
    have hnear : Near (d :: p') (c :: m') → nv = true := fun hn => by
      rw [← hv]
      exact hnear hn
    walk_at "rd"
    refine .inr ⟨nv, rfl, ?_⟩
    walk_at "rd"
    refine ⟨small (show 5 ≤ 100 by decide), fun L hL => ?_⟩
    have s2 := same_upd (o := .lst [.int 0, .int 0, .int 1, .int 1, .int 2]) hL
    walk_at "rd"
    refine ⟨a, b, L, _, rfl, hR1.same s2, upd_same, hR1.fresh hL, List.cons_ne_nil _ _, (show 5 ≤ 1000 by decide), fun H3 x k3 hR3 hx => ?_⟩
    obtain ⟨n, rfl, hn⟩ : ∃ n : Nat, x = .int (n : Nat) ∧ n ≤ 2 := by
      simp only [List.mem_cons, List.not_mem_nil, or_false] at hx
      rcases hx with rfl | rfl | rfl | rfl | rfl
      · exact ⟨0, rfl, by omega⟩
      · exact ⟨0, rfl, by omega⟩
      · exact ⟨1, rfl, by omega⟩
      · exact ⟨1, rfl, by omega⟩
      · exact ⟨2, rfl, by omega⟩
    walk_at "rd"
    obtain ⟨j, hj, hj1, hj2⟩ : ∃ j : Nat, (if nv = true then (1 : Int) else 0) + (n : Nat) = (j : Nat) ∧ (nv = true → 1 ≤ j) ∧ j ≤ 3 := by
      cases nv with
      | true => exact ⟨1 + n, by rw [if_pos rfl]; omega, fun _ => by omega, by omega⟩
      | false => exact ⟨n, by rw [if_neg Bool.false_ne_true]; omega, fun z => (by cases z), by omega⟩
    rw [hj]
    refine ⟨[32], (j : Nat), rfl, rfl, by omega, by omega, by decide, ?_⟩
    rw [repT_one]
    refine ⟨_, _, rfl, rfl, ?_, ?_⟩
    · rw [SX.S_len, SX.S_len, List.length_replicate]
      exact Nat.le_trans (show _ ≤ 10000000 by omega) (by decide)
    rw [SX.S_cat]
    walk_at "rd"
    refine ⟨_, _, rfl, rfl, ?_, ?_⟩
    · rw [SX.S_len, SX.S_len, List.length_append, List.length_replicate]
      exact Nat.le_trans (show _ ≤ 10000000 by omega) (by decide)
    rw [SX.S_cat]
    walk_at "rd"
    have eg : glue (ps ++ [(j, c :: m')]) = glue ps ++ List.replicate j 32 ++ (c :: m') := by
      rw [glue_append, List.append_assoc]
      show glue ps ++ (List.replicate j 32 ++ (c :: m' ++ [])) = _
      rw [List.append_nil]
    refine k _ _ ⟨some (.str (SX.S (c :: m'))), some (.bl nv), ps ++ [(j, c :: m')], c :: m', ?_, (k1.trans (RK.of s2)).trans k3, hR3, ?_, ?_, ?_, ?_, .inl hmk, List.cons_ne_nil _ _, hml⟩
    · rw [eg] <;> rfl
    · rw [good_append]
      refine ⟨hg, hmk, fun hnr => ?_, trivial⟩
      rw [hlast] at hnr
      exact hj1 (hnear hnr)
    · rw [lastM_append] <;> rfl
    · rw [List.map_append, hmap, List.take_succ, e0] <;> rfl
    · rw [eg, List.length_append, List.length_append, List.length_replicate]
      omega
  · rintro σ H1 ⟨y4, y5, ps, p, rfl, k1, hR1, hg, hlast, hmap, hlen, hhom, hpn, hpl⟩
    walk_at "rd"
    refine ⟨a, b, 2, rfl, hR1, by decide, by decide, fun H2 r k2 hR2 hr2 => ?_⟩
    refine ⟨[32], (r : Nat), rfl, rfl, by omega, by omega, by decide, ?_⟩
    rw [repT_one]
    rw [List.length_map] at hlen hmap
    refine ⟨_, _, rfl, rfl, ?_, ?_⟩
    · rw [SX.S_len, SX.S_len, List.length_replicate]
      exact Nat.le_trans (show _ ≤ 10000000 by omega) (by decide)
    rw [SX.S_cat]
    rw [List.take_of_length_le (Nat.le_refl _)] at hmap
    have lx := lex_glue [61] ps r hg
    rw [hmap] at lx
    exact q H2 _ (k1.trans k2) hR2 lx (by rw [List.length_append, List.length_replicate]; omega)
end
end K07

set_option maxRecDepth 100000
set_option maxHeartbeats 4000000
namespace K07
open PySem PySem.Spec PyProof.Rows L2
local macro_rules | `(tactic| walk_at "rd") => `(tactic| repeat (first
  | with_reducible refine r_seq ?_ | with_reducible refine r_asg ?_ | with_reducible refine r_name ?_ | with_reducible refine r_ret ?_ | with_reducible refine r_drop ?_ | with_reducible refine r_if ?_ | with_reducible refine r_nx ?_
  | with_reducible refine r_c ?_ | with_reducible refine r_op ?_ | with_reducible refine r_un ?_ | with_reducible refine r_cons ?_ | with_reducible refine r_nil ?_ | with_reducible refine r_test ?_ | with_reducible refine r_B ?_
  | with_reducible refine r_and ?_ | with_reducible refine r_or ?_ | with_reducible refine r_not ?_ | with_reducible refine r_andV ?_ | with_reducible refine r_orV ?_ | with_reducible refine r_notV ?_ | with_reducible refine r_tif ?_
  | with_reducible refine r_chain ?_ | with_reducible refine r_tyes ?_ | with_reducible refine r_lc ?_ | with_reducible refine r_rng1 ?_ | with_reducible refine r_itup ?_ | with_reducible refine r_ilist ?_ | with_reducible refine r_ienum ?_ | with_reducible refine r_istr ?_
  | with_reducible refine r_tup ?_ | with_reducible refine r_lst ?_ | with_reducible refine r_tfld ?_ | with_reducible refine r_gcons ?_ | with_reducible refine r_gnil ?_ | with_reducible refine r_gfld ?_ | with_reducible refine r_for ?_ | with_reducible refine r_sfld ?_ | with_reducible refine r_call ?_ | with_reducible refine r_cb ?_ | with_reducible refine r_sl ?_ | with_reducible refine r_np ?_ | with_reducible refine r_pt ?_ | with_reducible refine r_m1 ?_ | with_reducible refine r_par ?_ | with_reducible refine r_p2 ?_ | with_reducible refine r_u ?_ | with_reducible refine r_meth ?_ | with_reducible refine r_make ?_ | with_reducible refine r_gsub ?_ | with_reducible refine r_bm ?_ | with_reducible refine r_bm0 ?_ | with_reducible refine r_j0 ?_ | with_reducible refine r_jF ?_ | with_reducible refine r_jN ?_ | with_reducible refine r_bl ?_ | with_reducible refine r_i0 ?_ | with_reducible refine tt_ite ?_ | with_reducible refine ff_ite ?_ | with_reducible refine nt_ite ?_ | with_reducible refine nf_ite ?_
  | with_reducible refine r_var (by with_unfolding_all exact rfl) ?_))
theorem costM_append (a b : List (List Cs)) : costM (a ++ b) = costM a + costM b := by
  unfold costM
  rw [List.map_append, List.sum_append]
theorem costM_one (a : List Cs) : costM [a] = a.length + 1 := by
  unfold costM
  simp
/-- lists of marks, new in the heap -/
def LinesAt (H : Hp) (a b l : Addr) (lines : List (List Cs)) : Prop := (l ≠ a ∧ l ≠ b) ∧ ∃ as : List Addr, H l = some (.lst (as.map V.ref)) ∧ All2 (fun q ws => (q ≠ a ∧ q ≠ b) ∧ H q = some (.lst (strL ws))) as lines
theorem flat_rep (n : Nat) : (List.replicate n [V.str (SX.S [10])]).flatten = strL (List.replicate n [10]) := by
  induction n with
  | zero => rfl
  | succ n ih => rw [List.replicate_succ, List.flatten_cons, ih, List.replicate_succ] <;> rfl
section
variable {P : Program} {w : World} {K : PySem.W.Frag} {mg : Str → Option Value} {base : Heap}
def spSpread : Sp := fun vs H Q _ => ∃ (a b l : Addr) (lines : List (List Cs)), vs = [.ref a, .ref l] ∧ Rng H a b ∧ LinesAt H a b l lines ∧ lines.length ≤ 80 ∧ (∀ ws ∈ lines, ws.length ≤ 40) ∧
  ∀ (H' : Hp) (p : Addr) (ms : List Cs), RK a b H H' → Rng H' a b → H p = none → H' p = some (.lst (strL ms)) → ms.length ≤ 4000 → costM lines ≤ ms.length + 1 → (∀ m ∈ ms, m = [10] ∨ ∃ ws ∈ lines, m ∈ ws) → Q (.ref p) H'
theorem cal_law_spread (W : Wd K mg) : C8.Cal P w K mg base 3 "_law_spread" spSpread [] := by
  refine mk_law_spread W (fun vs H Q E h => ?_) fun cdv A outer s H vs Q E hr h => ?_
  · obtain ⟨a, b, l, lines, rfl, _⟩ := h
    rfl
  obtain ⟨a, b, l, lines, rfl, hR, ⟨nl, as, el, hall⟩, hl, hw, q⟩ := h
  refine ⟨_, (pss_cons (ps_par (i := 2) (j := 3) rfl sc_law_spread.nd rfl rfl (by decide) rfl rfl (pa_cons (pe_lst pa_nil) (pa_cons pe_int pa_nil)) (by rfl))
    (pss_cons (ps_for PassesOwn.never rfl (piL (K := K) rfl (pv 1)) (pg_name (i := 4) sc_law_spread.nd rfl (Or.inl rfl))
    (pss_cons (ps_set (i := 2) sc_law_spread.nd rfl (.inl rfl) (pe_op op_cat (pe_op op_cat (pv 2) (pe_op op_rep (pe_lst (pa_cons pe_str pa_nil)) (pe_op op_add (pe_callTy call_int1 rfl W.z_int (by decide +kernel) (pa_cons (pe_cmpR op_gt (pv 3) pe_int (nomark _)) pa_nil)) (pe_callTy call_int1 rfl W.z_int (by decide +kernel) (pa_cons (pe_cmpR op_eq (C8.pe_c (cal_law_draw W) hr (by decide) rfl (pa_cons (pv 0) (pa_cons pe_int pa_nil))) pe_int (nomark _)) pa_nil))))) (pv 4)))
    (pss_one (ps_set (i := 3) sc_law_spread.nd rfl (.inl rfl) (pe_op op_add (pv 3) pe_int)))))
    (pss_one (ps_ret (pe_op op_cat (pv 2) (pe_op op_rep (pe_lst (pa_cons pe_str pa_nil)) (C8.pe_c (cal_law_pick W) hr (by decide) rfl (pa_cons (pv 0) (pa_cons (pe_lst (pa_cons pe_int (pa_cons pe_int (pa_cons pe_int (pa_cons pe_int pa_nil))))) pa_nil))))))))), ?_⟩
  have nS : Str.ofString "\n" = SX.S [10] := by decide +kernel
  rw [nS]
  walk_at "rd"
  refine ⟨small (by decide), fun F0 hF0 => ?_⟩
  have s0 := same_upd (o := .lst []) hF0
  walk_at "rd"
  refine ⟨l, rfl, ⟨_, SqL.of (s0 _ _ el)⟩, ?_⟩
  refine for_w (walk_list (xs := as.map V.ref)) (fun i σ H' => ∃ (y4 : Option V) (F : Addr) (fs : List Cs), σ = [some (.ref a), some (.ref l), some (.ref F), some (.int ((i : Nat) : Int)), y4] ∧ RK a b H H' ∧ Rng H' a b ∧ H F = none ∧ H' F = some (.lst (strL fs)) ∧ fs.length ≤ 42 * i ∧
    costM (lines.take i) ≤ fs.length + (if i = 0 then 0 else 1) ∧ ∀ m ∈ fs, m = [10] ∨ ∃ ws ∈ lines, m ∈ ws) ⟨_, F0, [], rfl, RK.of s0, hR.same s0, hF0, upd_same, Nat.zero_le _, Nat.zero_le _, fun m hm => by cases hm⟩ (fun i σ H' _ h => ?_) ?_ ?_
  · obtain ⟨y4, F, fs, _, k, _⟩ := h
    exact SqL.of (k.at el nl)
  · rintro i v σ H1 H2 N hi ⟨y4, F, fs, rfl, k1, hR1, hF, eF, lf, hc, hm⟩ ⟨rfl, ev⟩ k
    obtain ⟨q0, ws, rfl, ew, nq, hq⟩ := hall.at i v ev
    have hws := hw ws (List.mem_of_getElem? ew)
    have hi80 : i < 80 := by
      have := (List.getElem?_eq_some_iff.mp ew).1
      omega
    have nF := hR.fresh hF
    walk_at "rd"
    refine ⟨small (show 1 ≤ 100 by decide), fun L hL => ?_⟩
    have s2 := same_upd (o := .lst [.str (SX.S [10])]) hL
    have hR2 := hR1.same s2
    have nL := hR1.fresh hL
    have eL : upd H2 L (.lst [.str (SX.S [10])]) L = some (.lst [.str (SX.S [10])]) := upd_same
    have eF2 := s2 _ _ eF
    have k2 := k1.trans (RK.of s2)
    generalize upd H2 L (.lst [.str (SX.S [10])]) = H3 at hR2 eL eF2 k2 ⊢
    walk_at "rd"
    refine .inr ⟨_, rfl, ?_⟩
    walk_at "rd"
    refine ⟨a, b, 4, rfl, hR2, by decide, by decide, fun H4 r k4 hR4 hr4 => ?_⟩
    walk_at "rd"
    refine r_eq rfl ?_
    walk_at "rd"
    refine .inr ⟨_, rfl, ?_⟩
    walk_at "rd"
    obtain ⟨n, hn1, hn2, hn3⟩ : ∃ n : Nat, (if decide ((0 : Int) < (i : Nat)) = true then (1 : Int) else 0) + (if decide (V.int ((r : Nat) : Int) = V.int 0) = true then (1 : Int) else 0) = (n : Nat) ∧ n ≤ 2 ∧ (i ≠ 0 → 1 ≤ n) := by
      refine ⟨(if decide ((0 : Int) < (i : Nat)) = true then 1 else 0) + (if decide (V.int ((r : Nat) : Int) = V.int 0) = true then 1 else 0), ?_, ?_, fun h => ?_⟩
      · split <;> split <;> rfl
      · split <;> split <;> omega
      · rw [if_pos (decide_eq_true (by omega))]
        omega
    rw [hn1]
    refine ⟨L, (n : Nat), _, rfl, rfl, k4.at eL nL, by omega, by omega, ?_, fun p hp => ?_⟩
    · rw [Int.toNat_natCast]
      exact small (show 1 * n ≤ 100 by omega)
    rw [Int.toNat_natCast, flat_rep]
    have s5 := same_upd (o := .lst (strL (List.replicate n [10]))) hp
    have eF5 := s5 _ _ (k4.at eF2 nF)
    have ep : upd H4 p (.lst (strL (List.replicate n [10]))) p = some (.lst (strL (List.replicate n [10]))) := upd_same
    have hR5 := hR4.same s5
    have k5 := (k2.trans k4).trans (RK.of s5)
    generalize upd H4 p (.lst (strL (List.replicate n [10]))) = H5 at eF5 ep hR5 k5 ⊢
    walk_at "rd"
    refine ⟨F, p, _, _, rfl, rfl, eF5, ep, ?_, fun F1 hF1 => ?_⟩
    · rw [List.length_map, List.length_map, List.length_replicate]
      exact Nat.le_trans (show _ ≤ 10000000 by omega) (by decide)
    have s6 := same_upd (o := .lst (strL fs ++ strL (List.replicate n [10]))) hF1
    have hR6 := hR5.same s6
    have k6 := k5.trans (RK.of s6)
    have e1 : upd H5 F1 (.lst (strL fs ++ strL (List.replicate n [10]))) F1 = some (.lst (strL fs ++ strL (List.replicate n [10]))) := upd_same
    generalize upd H5 F1 (.lst (strL fs ++ strL (List.replicate n [10]))) = H6 at hR6 k6 e1 ⊢
    walk_at "rd"
    refine ⟨F1, q0, _, _, rfl, rfl, e1, k6.at hq nq, ?_, fun F2 hF2 => ?_⟩
    · rw [List.length_append, List.length_map, List.length_map, List.length_map, List.length_replicate]
      exact Nat.le_trans (show _ ≤ 10000000 by omega) (by decide)
    have s7 := same_upd (o := .lst ((strL fs ++ strL (List.replicate n [10])) ++ strL ws)) hF2
    have k7 := k6.trans (RK.of s7)
    have nF2 := hR6.fresh hF2
    walk_at "rd"
    refine k _ _ ⟨some (.ref q0), F2, (fs ++ List.replicate n [10]) ++ ws, ?_, k7, hR6.same s7, ?_, ?_, ?_, ?_, ?_⟩
    · rw [show ((i : Nat) : Int) + 1 = ((i + 1 : Nat) : Int) by omega] <;> rfl
    · cases e : H F2 with
      | none => rfl
      | some o => exact absurd (k6.at e nF2) (by rw [hF2]; exact fun z => by cases z)
    · rw [upd_same, strL, strL, strL, strL, List.map_append, List.map_append]
    · rw [List.length_append, List.length_append, List.length_replicate]
      omega
    · rw [List.take_succ, ew, show (some ws).toList = [ws] from rfl, costM_append, costM_one, List.length_append, List.length_append, List.length_replicate, if_neg (Nat.succ_ne_zero i)]
      by_cases h0 : i = 0
      · rw [if_pos h0] at hc
        omega
      · rw [if_neg h0] at hc
        have := hn3 h0
        omega
    · intro m hm'
      rcases List.mem_append.mp hm' with h | h
      · rcases List.mem_append.mp h with h | h
        · exact hm m h
        · exact .inl (List.eq_of_mem_replicate h)
      · exact .inr ⟨ws, List.mem_of_getElem? ew, h⟩
  · rintro σ H1 ⟨y4, F, fs, rfl, k1, hR1, hF, eF, lf, hc, hm⟩
    have nF := hR.fresh hF
    walk_at "rd"
    refine ⟨small (show 1 ≤ 100 by decide), fun L hL => ?_⟩
    have s2 := same_upd (o := .lst [.str (SX.S [10])]) hL
    have hR2 := hR1.same s2
    have nL := hR1.fresh hL
    have eL : upd H1 L (.lst [.str (SX.S [10])]) L = some (.lst [.str (SX.S [10])]) := upd_same
    have eF2 := s2 _ _ eF
    have k2 := k1.trans (RK.of s2)
    generalize upd H1 L (.lst [.str (SX.S [10])]) = H3 at hR2 eL eF2 k2 ⊢
    walk_at "rd"
    refine ⟨small (show 4 ≤ 100 by decide), fun M hM => ?_⟩
    have s3 := same_upd (o := .lst [.int 0, .int 0, .int 1, .int 2]) hM
    walk_at "rd"
    refine ⟨a, b, M, _, rfl, hR2.same s3, upd_same, hR2.fresh hM, List.cons_ne_nil _ _, (show 4 ≤ 1000 by decide), fun H4 x k4 hR4 hx => ?_⟩
    obtain ⟨n, rfl, hn⟩ : ∃ n : Nat, x = .int (n : Nat) ∧ n ≤ 2 := by
      simp only [List.mem_cons, List.not_mem_nil, or_false] at hx
      rcases hx with rfl | rfl | rfl | rfl
      · exact ⟨0, rfl, by omega⟩
      · exact ⟨0, rfl, by omega⟩
      · exact ⟨1, rfl, by omega⟩
      · exact ⟨2, rfl, by omega⟩
    have k4 := (RK.of s3).trans k4
    refine ⟨L, (n : Nat), _, rfl, rfl, k4.at eL nL, by omega, by omega, ?_, fun p hp => ?_⟩
    · rw [Int.toNat_natCast]
      exact small (show 1 * n ≤ 100 by omega)
    rw [Int.toNat_natCast, flat_rep]
    have s5 := same_upd (o := .lst (strL (List.replicate n [10]))) hp
    have eF5 := s5 _ _ (k4.at eF2 nF)
    have ep : upd H4 p (.lst (strL (List.replicate n [10]))) p = some (.lst (strL (List.replicate n [10]))) := upd_same
    have hR5 := hR4.same s5
    have k5 := (k2.trans k4).trans (RK.of s5)
    generalize upd H4 p (.lst (strL (List.replicate n [10]))) = H5 at eF5 ep hR5 k5 ⊢
    walk_at "rd"
    have lall : as.length = lines.length := hall.length
    rw [List.length_map, lall] at lf hc
    refine ⟨F, p, _, _, rfl, rfl, eF5, ep, ?_, fun F1 hF1 => ?_⟩
    · rw [List.length_map, List.length_map, List.length_replicate]
      exact Nat.le_trans (show _ ≤ 10000000 by omega) (by decide)
    have s6 := same_upd (o := .lst (strL fs ++ strL (List.replicate n [10]))) hF1
    have nF1 := hR5.fresh hF1
    refine q _ F1 (fs ++ List.replicate n [10]) (k5.trans (RK.of s6)) (hR5.same s6) ?_ ?_ ?_ ?_ ?_
    · cases e : H F1 with
      | none => rfl
      | some o => exact absurd (k5.at e nF1) (by rw [hF1]; exact fun z => by cases z)
    · rw [upd_same, strL, strL, strL, List.map_append]
    · rw [List.length_append, List.length_replicate]
      omega
    · rw [List.take_of_length_le (Nat.le_refl _)] at hc
      rw [List.length_append]
      have : (if lines.length = 0 then 0 else 1) ≤ 1 := by split <;> omega
      omega
    · intro m hm'
      rcases List.mem_append.mp hm' with h | h
      · exact hm m h
      · exact .inl (List.eq_of_mem_replicate h)
end
end K07

set_option maxRecDepth 100000
set_option maxHeartbeats 4000000
namespace K07
open PySem PySem.Spec PyProof.Rows L2
local macro_rules | `(tactic| walk_at "rd") => `(tactic| repeat (first
  | with_reducible refine r_seq ?_ | with_reducible refine r_asg ?_ | with_reducible refine r_name ?_ | with_reducible refine r_ret ?_ | with_reducible refine r_drop ?_ | with_reducible refine r_if ?_ | with_reducible refine r_nx ?_
  | with_reducible refine r_c ?_ | with_reducible refine r_op ?_ | with_reducible refine r_un ?_ | with_reducible refine r_cons ?_ | with_reducible refine r_nil ?_ | with_reducible refine r_test ?_ | with_reducible refine r_B ?_
  | with_reducible refine r_and ?_ | with_reducible refine r_or ?_ | with_reducible refine r_not ?_ | with_reducible refine r_andV ?_ | with_reducible refine r_orV ?_ | with_reducible refine r_notV ?_ | with_reducible refine r_tif ?_
  | with_reducible refine r_chain ?_ | with_reducible refine r_tyes ?_ | with_reducible refine r_lc ?_ | with_reducible refine r_rng1 ?_ | with_reducible refine r_itup ?_ | with_reducible refine r_ilist ?_ | with_reducible refine r_ienum ?_ | with_reducible refine r_istr ?_
  | with_reducible refine r_tup ?_ | with_reducible refine r_lst ?_ | with_reducible refine r_tfld ?_ | with_reducible refine r_gcons ?_ | with_reducible refine r_gnil ?_ | with_reducible refine r_gfld ?_ | with_reducible refine r_for ?_ | with_reducible refine r_sfld ?_ | with_reducible refine r_call ?_ | with_reducible refine r_cb ?_ | with_reducible refine r_sl ?_ | with_reducible refine r_np ?_ | with_reducible refine r_pt ?_ | with_reducible refine r_m1 ?_ | with_reducible refine r_par ?_ | with_reducible refine r_p2 ?_ | with_reducible refine r_u ?_ | with_reducible refine r_meth ?_ | with_reducible refine r_make ?_ | with_reducible refine r_gsub ?_ | with_reducible refine r_bm ?_ | with_reducible refine r_bm0 ?_ | with_reducible refine r_j0 ?_ | with_reducible refine r_jF ?_ | with_reducible refine r_jN ?_ | with_reducible refine r_bl ?_ | with_reducible refine r_i0 ?_ | with_reducible refine tt_ite ?_ | with_reducible refine ff_ite ?_ | with_reducible refine nt_ite ?_ | with_reducible refine nf_ite ?_
  | with_reducible refine r_var (by with_unfolding_all exact rfl) ?_))
theorem vh_use {te : TE} {σ : L2.St} {H : Hp} {Q : VK} (Post : V → Hp → Prop) (h1 : ∀ Q : VK, (∀ v H', Post v H' → Q v H') → te σ H Q) (h2 : ∀ v H', Post v H' → Q v H') : te σ H Q := h1 Q h2
theorem fresh_back {a b D : Addr} {H H1 : Hp} (k : RK a b H H1) (hR : Rng H1 a b) (hD : H1 D = none) : H D = none := by
  have n := hR.fresh hD
  cases e : H D with
  | none => rfl
  | some o => exact absurd (k.at e n) (by rw [hD]; exact fun z => by cases z)
theorem Rng.tne {H : Hp} {a b q : Addr} {xs : List V} (h : Rng H a b) (e : H q = some (.tup xs)) : q ≠ a ∧ q ≠ b := by
  obtain ⟨zs, st, _, h2, h3⟩ := h
  refine ⟨fun z => ?_, fun z => ?_⟩
  · rw [z, h2] at e
    cases e
  · rw [z, h3] at e
    cases e
def tieD (x : Tie) : PyData := .tuple [.int x.1, .int x.2.1, .int x.2.2]
theorem dp_tie {K : PySem.W.Frag} {H : Hp} {q : Addr} {x : Tie} (h : TupAt H q (tieV x)) : Dp K H (.ref q) (tieD x) := .tup h.sq (.cons (.int _) (.cons (.int _) (.cons (.int _) .nil)))
theorem lay_ties : ∀ ps : List Tie, PyData.canLayAll0 (ps.map tieD) = true
  | [] => by simp [PyData.canLayAll0]
  | p :: ps => by
    rw [List.map_cons]
    simp only [PyData.canLayAll0, tieD, PyData.canLay0, Bool.true_and]
    exact lay_ties ps
theorem depth_ties : ∀ ps : List Tie, PyData.depthAll (ps.map tieD) ≤ 1
  | [] => by simp [PyData.depthAll]
  | p :: ps => by
    rw [List.map_cons]
    have := depth_ties ps
    simp only [PyData.depthAll, tieD, PyData.depth]
    exact Nat.max_le.mpr ⟨by decide, this⟩
theorem shaped_lties (ps : List Tie) : SeqAt.shaped (.list (ps.map tieD)) = true := by
  unfold SeqAt.shaped
  rw [Bool.and_eq_true]
  refine ⟨?_, decide_eq_true ?_⟩
  · simp only [PyData.canLay0]
    exact lay_ties ps
  · simp only [PyData.depth]
    have := depth_ties ps
    omega
theorem shaped_tties (ps : List Tie) : SeqAt.shaped (.tuple (ps.map tieD)) = true := by
  unfold SeqAt.shaped
  rw [Bool.and_eq_true]
  refine ⟨?_, decide_eq_true ?_⟩
  · simp only [PyData.canLay0]
    exact lay_ties ps
  · simp only [PyData.depth]
    have := depth_ties ps
    omega
theorem eqv_lties (ps : List Tie) : PyData.eqv (.list (ps.map tieD)) (.list (([] : List Tie).map tieD)) = decide (ps = []) := by
  cases ps with
  | nil => simp [PyData.eqv, PyData.eqvAll]
  | cons p ps => simp [PyData.eqv, PyData.eqvAll]
theorem eqv_tties (ps : List Tie) : PyData.eqv (.tuple (ps.map tieD)) (.tuple (([] : List Tie).map tieD)) = decide (ps = []) := by
  cases ps with
  | nil => simp [PyData.eqv, PyData.eqvAll]
  | cons p ps => simp [PyData.eqv, PyData.eqvAll]
section
variable {P : Program} {w : World} {K : PySem.W.Frag} {mg : Str → Option Value} {base : Heap}
def spTies : Sp := fun vs H Q _ => ∃ (a b : Addr) (many : Nat), vs = [.ref a, .int (many : Nat)] ∧ Rng H a b ∧ 1 ≤ many ∧ many ≤ 12 ∧ ∀ (H' : Hp) (p : Addr) (ts : List Tie), RK a b H H' → Rng H' a b → TiesAt H' p ts → (∀ x ∈ ts, TieOk many x) → ts.length ≤ 9 → Q (.ref p) H'
theorem cal_law_ties (W : Wd K mg) : C8.Cal P w K mg base 4 "_law_ties" spTies [] := by
  refine mk_law_ties W (fun vs H Q E h => ?_) fun cdv A outer s H vs Q E hr h => ?_
  · obtain ⟨a, b, many, rfl, _⟩ := h
    rfl
  obtain ⟨a, b, many, rfl, hR, h1, h2, q⟩ := h
  refine ⟨_, (pss_cons (ps_set (i := 2) sc_law_ties.nd rfl (.inl rfl) (pe_lst pa_nil))
    (pss_cons (ps_for PassesOwn.never rfl (pi_range1 rfl W.z_range (pa_cons (pe_ifExp (pt_cmpR op_gt (pv 1) pe_int (nomark _)) (C8.pe_c (cal_law_pick W) hr (by decide) rfl (pa_cons (pv 0) (pa_cons (pe_lst (pa_cons pe_int (pa_cons pe_int (pa_cons pe_int (pa_cons pe_int (pa_cons pe_int (pa_cons pe_int pa_nil))))))) pa_nil))) pe_int) pa_nil)) (pg_name (i := 3) sc_law_ties.nd rfl (Or.inl rfl))
    (pss_cons (ps_set (i := 4) sc_law_ties.nd rfl (.inl rfl) (C8.pe_c (cal_law_draw W) hr (by decide) rfl (pa_cons (pv 0) (pa_cons (pv 1) pa_nil))))
    (pss_one (ps_expr (pe_bm PySem.F.plainAttrs_list PySem.F.slot_list_append PySem.F.type_list_append mt_append (pv 2) (pa_cons (pe_tup (pa_cons (pv 4) (pa_cons (pe_op op_mod (pe_callTy call_int1 rfl W.z_int (by decide +kernel) (pa_cons (pe_op op_add (pe_op op_add (pv 4) pe_int) (C8.pe_c (cal_law_draw W) hr (by decide) rfl (pa_cons (pv 0) (pa_cons (pe_op op_sub (pv 1) pe_int) pa_nil)))) pa_nil)) (pv 1)) (pa_cons (C8.pe_c (cal_law_integer W) hr (by decide) rfl (pa_cons (pv 0) (pa_cons (pe_op op_pow pe_int pe_int) pa_nil))) pa_nil)))) pa_nil))))))
    (pss_cons (ps_if (PW.pt (pw_and (pt_cmpR (opNeD (K := K) hr) (pv 2) (pe_lst pa_nil) (nomark _)) (pw_and1 (pt_cmpR op_eq (C8.pe_c (cal_law_draw W) hr (by decide) rfl (pa_cons (pv 0) (pa_cons pe_int pa_nil))) pe_int (nomark _)))))
    (pss_one (ps_expr (pe_bm PySem.F.plainAttrs_list PySem.F.slot_list_append PySem.F.type_list_append mt_append (pv 2) (pa_cons (C8.pe_c (cal_law_pick W) hr (by decide) rfl (pa_cons (pv 0) (pa_cons (pv 2) pa_nil))) pa_nil))))
    pss_nil)
    (pss_one (ps_ret (pe_callTy (crTp (K := K)) rfl W.z_tuple (by decide +kernel) (pa_cons (pv 2) pa_nil))))))), ?_⟩
  refine r_seq (r_asg (r_lst (r_nil ⟨small (by decide), fun F hF => ?_⟩)))
  have s0 := same_upd (o := .lst []) hF
  have nF := hR.fresh hF
  have eF0 : upd H F (.lst []) F = some (.lst []) := upd_same
  have hR0 := hR.same s0
  have k0 : RK a b H _ := RK.of s0
  generalize upd H F (.lst []) = H0 at eF0 hR0 k0 ⊢
  with_reducible refine r_name ?_
  with_reducible refine r_seq ?_
  with_reducible refine r_for ?_
  with_reducible refine r_rng1 ?_
  with_reducible refine r_cons ?_
  refine vh_use (fun v H1 => ∃ n : Nat, v = .int (n : Nat) ∧ n ≤ 8 ∧ (n ≠ 0 → 1 < many) ∧ RK a b H H1 ∧ Rng H1 a b ∧ H1 F = some (.lst [])) (fun Q' kQ => ?_) ?_
  · walk_at "rd"
    refine r_dec (fun hm => ?_) fun hm => ?_
    · walk_at "rd"
      refine ⟨small (show 6 ≤ 100 by decide), fun M hM => ?_⟩
      have s3 := same_upd (o := .lst [.int 3, .int 2, .int 5, .int 0, .int 1, .int 8]) hM
      walk_at "rd"
      refine ⟨a, b, M, _, rfl, hR0.same s3, upd_same, hR0.fresh hM, List.cons_ne_nil _ _, (show 6 ≤ 1000 by decide), fun H4 x k4 hR4 hx => ?_⟩
      have k4 := (RK.of s3).trans k4
      refine kQ _ _ ?_
      have hm' : 1 < many := by omega
      simp only [List.mem_cons, List.not_mem_nil, or_false] at hx
      rcases hx with rfl | rfl | rfl | rfl | rfl | rfl
      · exact ⟨3, rfl, by omega, fun _ => hm', k0.trans k4, hR4, k4.at eF0 nF⟩
      · exact ⟨2, rfl, by omega, fun _ => hm', k0.trans k4, hR4, k4.at eF0 nF⟩
      · exact ⟨5, rfl, by omega, fun _ => hm', k0.trans k4, hR4, k4.at eF0 nF⟩
      · exact ⟨0, rfl, by omega, fun _ => hm', k0.trans k4, hR4, k4.at eF0 nF⟩
      · exact ⟨1, rfl, by omega, fun _ => hm', k0.trans k4, hR4, k4.at eF0 nF⟩
      · exact ⟨8, rfl, by omega, fun _ => hm', k0.trans k4, hR4, k4.at eF0 nF⟩
    · walk_at "rd"
      exact kQ _ _ ⟨0, rfl, by omega, fun z => absurd rfl z, k0, hR0, eF0⟩
  rintro v H1 ⟨n, rfl, hn8, hnm, k1, hR1, eF1⟩
  refine r_nil ⟨_, rfl, by omega, by omega, ?_⟩
  rw [Int.toNat_natCast]
  refine for_w walk_nat (fun i σ H' => (∃ y3 y4, σ = [some (.ref a), some (.int (many : Nat)), some (.ref F), y3, y4]) ∧ RK a b H H' ∧ Rng H' a b ∧ ∃ (as : List Addr) (ts : List Tie), H' F = some (.lst (as.map V.ref)) ∧ All2 (fun q x => H' q = some (.tup (tieV x))) as ts ∧ (∀ x ∈ ts, TieOk many x) ∧ ts.length = i) ⟨⟨_, _, rfl⟩, k1, hR1, [], [], eF1, .nil, fun x hx => (by cases hx), rfl⟩ (fun _ _ _ _ _ => trivial) ?_ ?_
  · rintro i v σ H2 H3 N hi ⟨⟨y3, y4, rfl⟩, k2, hR2, as, ts, e2, ha2, hok, hlen⟩ ⟨rfl, rfl⟩ k
    have hm : 1 < many := hnm (by omega)
    walk_at "rd"
    refine ⟨a, b, many, rfl, hR2, h1, by omega, fun H4 one k4 hR4 hone => ?_⟩
    walk_at "rd"
    refine r_tyL (k4.at e2 nF) ?_
    walk_at "rd"
    rw [show ((many : Nat) : Int) - 1 = ((many - 1 : Nat) : Int) by omega]
    refine ⟨a, b, many - 1, rfl, hR4, by omega, by omega, fun H5 d k5 hR5 hd => ?_⟩
    walk_at "rd"
    refine .inl ⟨_, rfl, ?_⟩
    walk_at "rd"
    refine ⟨_, (many : Nat), rfl, rfl, by omega, ?_⟩
    obtain ⟨other, ho1, ho2, ho3⟩ : ∃ other : Nat, other < many ∧ other ≠ one ∧ (((one : Nat) : Int) + 1 + (d : Nat)) % (many : Nat) = (other : Nat) := by
      by_cases hc : one + 1 + d < many
      · exact ⟨one + 1 + d, hc, by omega, by
          rw [show ((one : Nat) : Int) + 1 + (d : Nat) = ((one + 1 + d : Nat) : Int) by omega, Int.emod_eq_of_lt (by omega) (by omega)]⟩
      · exact ⟨one + 1 + d - many, by omega, by omega, by
          rw [show ((one : Nat) : Int) + 1 + (d : Nat) = ((one + 1 + d - many : Nat) : Int) + (many : Nat) by omega, Int.add_emod_right, Int.emod_eq_of_lt (by omega) (by omega)]⟩
    walk_at "rd"
    refine ⟨10, 6, rfl, rfl, ⟨by decide, by decide, by decide⟩, ?_⟩
    walk_at "rd"
    refine ⟨a, b, 1000000, rfl, hR5, by decide, by decide, fun H6 wt k6 hR6 hw => ?_⟩
    walk_at "rd"
    refine ⟨small (show 3 ≤ 100 by decide), fun T hT => ?_⟩
    have s7 := same_upd (o := .tup [.int (one : Nat), .int ((((one : Nat) : Int) + 1 + (d : Nat)) % (many : Nat)), .int wt]) hT
    have k7 := ((k4.trans k5).trans k6).trans (RK.of s7)
    have eT : upd H6 T (.tup [.int (one : Nat), .int ((((one : Nat) : Int) + 1 + (d : Nat)) % (many : Nat)), .int wt]) T = some (.tup (tieV (one, other, wt))) := by
      rw [upd_same, ho3]
      rfl
    have hR7 := hR6.same s7
    have e7 := k7.at e2 nF
    walk_at "rd"
    show rAppend (V.ref F) [V.ref T] (upd H6 T (.tup [.int (one : Nat), .int ((((one : Nat) : Int) + 1 + (d : Nat)) % (many : Nat)), .int wt])) _
    generalize upd H6 T (.tup [.int (one : Nat), .int ((((one : Nat) : Int) + 1 + (d : Nat)) % (many : Nat)), .int wt]) = H7 at k7 eT hR7 e7 ⊢
    refine r_app e7 (by rw [List.length_map, ha2.length]; omega) (k _ _ ⟨⟨_, _, rfl⟩, RK.set hF (k2.trans k7), hR7.upd nF, as ++ [T], ts ++ [(one, other, wt)], by rw [upd_same, List.map_append] <;> rfl, ?_, ?_, by rw [List.length_append, hlen] <;> rfl⟩)
    · refine All2.snoc (ha2.imp fun q x e => ?_) ?_
      · have e' := k7.at e (hR2.tne e)
        rw [upd_ne fun z => ?_]
        · exact e'
        · rw [z, e7] at e'
          cases e'
      · rw [upd_ne fun z => ?_]
        · exact eT
        · rw [z, e7] at eT
          cases eT
    · intro x hx
      rcases List.mem_append.mp hx with h | h
      · exact hok x h
      · rw [List.mem_singleton.mp h]
        exact ⟨hone, ho1, fun z => ho2 z.symm, hw⟩
  · rintro σ H2 ⟨⟨y3, y4, rfl⟩, k2, hR2, as, ts, e2, ha2, hok, hlen⟩
    walk_at "rd"
    refine ⟨small (by decide), fun L hL => ?_⟩
    have s3 := same_upd (o := .lst []) hL
    have e3 := s3 _ _ e2
    refine ⟨.list (ts.map tieD), .list (([] : List Tie).map tieD), .lst (SqL.of e3) (dpAll_all2 (fun q x h => dp_tie (TupAt.of (s3 _ _ h))) ha2), .lst (SqL.of upd_same) .nil, shaped_lties _, shaped_lties [], ?_⟩
    rw [eqv_lties]
    have k3 := k2.trans (RK.of s3)
    have hR3 := hR2.same s3
    have ha3 : All2 (fun q x => upd H2 L (.lst []) q = some (.tup (tieV x))) as ts := ha2.imp fun q x h => s3 _ _ h
    generalize upd H2 L (.lst []) = H3 at k3 hR3 e3 ha3 ⊢
    have lts : ts.length ≤ 8 := by omega
    have fin : ∀ (H4 : Hp) (as : List Addr) (ts : List Tie), RK a b H H4 → Rng H4 a b → H4 F = some (.lst (as.map V.ref)) → All2 (fun q x => H4 q = some (.tup (tieV x))) as ts → (∀ x ∈ ts, TieOk many x) → ts.length ≤ 9 → rTp K [.ref F] H4 Q := by
      intro H4 as ts k4 hR4 e4 ha4 hok4 hl4
      refine ⟨F, _, rfl, SqL.of e4, fun p o hp _ => ?_⟩
      have s5 := same_upd (o := .frz o (.tup (as.map V.ref))) hp
      exact q _ p ts (k4.trans (RK.of s5)) (hR4.same s5) ⟨as, TupAt.frz upd_same, ha4.imp fun q x h => TupAt.of (s5 _ _ h)⟩ hok4 hl4
    walk_at "rd"
    refine r_ndec (fun hne => ?_) fun he => ?_
    · walk_at "rd"
      refine ⟨a, b, 4, rfl, hR3, by decide, by decide, fun H4 r k4 hR4 hr4 => ?_⟩
      walk_at "rd"
      refine r_eq rfl ?_
      rw [int_eqd]
      have e4 := k4.at e3 nF
      have ha4 : All2 (fun q x => H4 q = some (.tup (tieV x))) as ts := ha3.imp fun q x h => k4.at h (hR3.tne h)
      walk_at "rd"
      refine r_dec (fun _ => ?_) fun _ => ?_
      · walk_at "rd"
        refine r_tyL e4 ?_
        walk_at "rd"
        have hasne : as.map V.ref ≠ [] := fun z => by
          have := congrArg List.length z
          rw [List.length_map, ha4.length] at this
          exact hne (List.eq_nil_of_length_eq_zero this)
        refine ⟨a, b, F, _, rfl, hR4, e4, nF, hasne, by rw [List.length_map, ha4.length]; omega, fun H5 x k5 hR5 hx => ?_⟩
        obtain ⟨q0, hq0, rfl⟩ := List.mem_map.mp hx
        obtain ⟨j, hj, rfl⟩ := List.getElem_of_mem hq0
        have hj2 : j < ts.length := by rw [← ha4.length]; exact hj
        have eq0 := ha4.get (List.getElem?_eq_getElem hj) (List.getElem?_eq_getElem hj2)
        have e5 := k5.at e4 nF
        walk_at "rd"
        refine r_app e5 (by rw [List.length_map, ha4.length]; omega) ?_
        walk_at "rd"
        refine fin _ (as ++ [as[j]]) (ts ++ [ts[j]]) (RK.set hF ((k3.trans k4).trans k5)) (hR5.upd nF) (by rw [upd_same, List.map_append] <;> rfl) ?_ ?_ ?_
        · have keep : ∀ (q : Addr) (x : Tie), H4 q = some (.tup (tieV x)) → upd H5 F (.lst (as.map V.ref ++ [V.ref as[j]])) q = some (.tup (tieV x)) := fun q x h => by
            have e' := k5.at h (hR4.tne h)
            rw [upd_ne fun z => ?_]
            · exact e'
            · rw [z, e5] at e'
              cases e'
          exact (ha4.imp keep).snoc (keep _ _ eq0)
        · intro x hx
          rcases List.mem_append.mp hx with h | h
          · exact hok x h
          · rw [List.mem_singleton.mp h]
            exact hok _ (List.getElem_mem hj2)
        · rw [List.length_append, List.length_singleton]
          omega
      · walk_at "rd"
        exact fin H4 as ts (k3.trans k4) hR4 e4 ha4 hok (by omega)
    · walk_at "rd"
      exact fin H3 as ts k3 hR3 e3 ha3 hok (by omega)
end
end K07

set_option maxRecDepth 100000
set_option maxHeartbeats 4000000
namespace K07
open PySem PySem.Spec PyProof.Rows L2
local macro_rules | `(tactic| walk_at "rd") => `(tactic| repeat (first
  | with_reducible refine r_seq ?_ | with_reducible refine r_asg ?_ | with_reducible refine r_name ?_ | with_reducible refine r_ret ?_ | with_reducible refine r_drop ?_ | with_reducible refine r_if ?_ | with_reducible refine r_nx ?_
  | with_reducible refine r_c ?_ | with_reducible refine r_op ?_ | with_reducible refine r_un ?_ | with_reducible refine r_cons ?_ | with_reducible refine r_nil ?_ | with_reducible refine r_test ?_ | with_reducible refine r_B ?_
  | with_reducible refine r_and ?_ | with_reducible refine r_or ?_ | with_reducible refine r_not ?_ | with_reducible refine r_andV ?_ | with_reducible refine r_orV ?_ | with_reducible refine r_notV ?_ | with_reducible refine r_tif ?_
  | with_reducible refine r_chain ?_ | with_reducible refine r_tyes ?_ | with_reducible refine r_lc ?_ | with_reducible refine r_rng1 ?_ | with_reducible refine r_itup ?_ | with_reducible refine r_ilist ?_ | with_reducible refine r_ienum ?_ | with_reducible refine r_istr ?_
  | with_reducible refine r_tup ?_ | with_reducible refine r_lst ?_ | with_reducible refine r_tfld ?_ | with_reducible refine r_gcons ?_ | with_reducible refine r_gnil ?_ | with_reducible refine r_gfld ?_ | with_reducible refine r_for ?_ | with_reducible refine r_sfld ?_ | with_reducible refine r_call ?_ | with_reducible refine r_cb ?_ | with_reducible refine r_sl ?_ | with_reducible refine r_np ?_ | with_reducible refine r_pt ?_ | with_reducible refine r_m1 ?_ | with_reducible refine r_par ?_ | with_reducible refine r_p2 ?_ | with_reducible refine r_u ?_ | with_reducible refine r_meth ?_ | with_reducible refine r_make ?_ | with_reducible refine r_gsub ?_ | with_reducible refine r_bm ?_ | with_reducible refine r_bm0 ?_ | with_reducible refine r_j0 ?_ | with_reducible refine r_jF ?_ | with_reducible refine r_jN ?_ | with_reducible refine r_bl ?_ | with_reducible refine r_i0 ?_ | with_reducible refine tt_ite ?_ | with_reducible refine ff_ite ?_ | with_reducible refine nt_ite ?_ | with_reducible refine nf_ite ?_
  | with_reducible refine r_var (by with_unfolding_all exact rfl) ?_))
theorem perm_map_inv {α β : Type} (f : α → β) {ys zs : List β} (h : ys.Perm zs) : ∀ {l : List α}, zs = l.map f → ∃ l' : List α, l'.Perm l ∧ ys = l'.map f := by
  induction h with
  | nil =>
    intro l e
    rw [List.map_eq_nil_iff.mp e.symm]
    exact ⟨[], List.Perm.refl _, rfl⟩
  | @cons x l1 l2 _ ih =>
    intro l e
    cases l with
    | nil => cases e
    | cons a l =>
      rw [List.map_cons] at e
      obtain ⟨e1, e2⟩ := List.cons.inj e
      obtain ⟨l', h1, h2⟩ := ih e2
      exact ⟨a :: l', List.Perm.cons a h1, by rw [List.map_cons, ← h2, e1]⟩
  | swap x y l1 =>
    intro l e
    match l, e with
    | a :: b :: l, e =>
      rw [List.map_cons, List.map_cons] at e
      obtain ⟨e1, e2⟩ := List.cons.inj e
      obtain ⟨e3, e4⟩ := List.cons.inj e2
      exact ⟨b :: a :: l, List.Perm.swap _ _ _, by rw [List.map_cons, List.map_cons, ← e1, ← e3, ← e4]⟩
  | trans _ _ ih1 ih2 =>
    intro l e
    obtain ⟨l2, h2, e2⟩ := ih2 e
    obtain ⟨l1, h1, e1⟩ := ih1 e2
    exact ⟨l1, h1.trans h2, e1⟩
theorem all2_perm {α β : Type} {R : α → β → Prop} {as' as : List α} (h : as'.Perm as) : ∀ {bs : List β}, All2 R as bs → ∃ bs' : List β, bs'.Perm bs ∧ All2 R as' bs' := by
  induction h with
  | nil =>
    intro bs h
    cases h
    exact ⟨[], List.Perm.refl _, .nil⟩
  | cons x _ ih =>
    intro bs h
    cases h with
    | cons r t =>
      obtain ⟨bs', h1, h2⟩ := ih t
      exact ⟨_ :: bs', List.Perm.cons _ h1, .cons r h2⟩
  | swap x y l =>
    intro bs h
    cases h with
    | cons r t =>
      cases t with
      | cons r2 t2 => exact ⟨_, List.Perm.swap _ _ _, .cons r2 (.cons r t2)⟩
  | trans _ _ ih1 ih2 =>
    intro bs h
    obtain ⟨b2, h2, e2⟩ := ih2 h
    obtain ⟨b1, h1, e1⟩ := ih1 e2
    exact ⟨b1, h1.trans h2, e1⟩
theorem srt_back {H : Hp} {qs : List Addr} {ps : List Pr} (h : All2 (fun q p => H q = some (.tup (prV p))) qs ps) (hs : SrtO.Srtd (ltP (kOf H)) (qs.map V.ref)) (hn : (ps.map (·.1)).Nodup) : ps.Pairwise fun p q => p.1 < q.1 := by
  have hs2 : List.Pairwise _ _ := hs
  rw [List.pairwise_map] at hs2
  clear hs
  induction h with
  | nil => exact .nil
  | @cons q p qs ps r t ih =>
    obtain ⟨h1, h2⟩ := List.pairwise_cons.mp hs2
    rw [List.map_cons] at hn
    obtain ⟨n1, n2⟩ := List.nodup_cons.mp hn
    refine .cons (fun p' hp' => ?_) (ih n2 h2)
    obtain ⟨k, hk, rfl⟩ := List.getElem_of_mem hp'
    have hk2 : k < qs.length := by rw [t.length]; exact hk
    have e := t.get (List.getElem?_eq_getElem hk2) (List.getElem?_eq_getElem hk)
    have z : SrtO.lexB (kOf H (.ref qs[k])) (kOf H (.ref q)) = false := h1 _ (List.getElem_mem hk2)
    rw [kOf_at e, kOf_at r] at z
    have z := SrtO.lexB_no.mp z
    have ne : p.1 ≠ (ps[k]).1 := fun e => n1 (List.mem_map.mpr ⟨_, List.getElem_mem hk, e.symm⟩)
    simp only at z
    omega
/-- a day that was drawn -/
structure DayD (many : Nat) (d : List (List Pr)) (ls : List Nat) : Prop where
  row : ∀ ps ∈ d, ps ≠ [] ∧ ps.length ≤ 3 ∧ (∀ p ∈ ps, PrOk many p) ∧ ps.Pairwise fun p q => p.1 < q.1
  nod : (d.flatten.map (·.1) ++ ls).Nodup
  lt : ∀ j ∈ ls, j < many
theorem DayD.run {many : Nat} {d : List (List Pr)} {ls : List Nat} (h : DayD many d ls) (hm : many ≤ 12) (hd : d.length ≤ 4) {ns : List Cs} (hn : ns.length = many) : DayRun true ns d := by
  have nd := (List.nodup_append.mp h.nod).1
  refine ⟨by omega, fun ps hps => ?_, nd, ?_, .inl rfl⟩
  · obtain ⟨a, b, c, e⟩ := h.row ps hps
    rw [hn]
    exact ⟨a, by omega, c, e⟩
  · have := len_sub nd (List.nodup_range (n := many)) fun x hx => by
      obtain ⟨p, hp, rfl⟩ := List.mem_map.mp hx
      obtain ⟨ps, hps, hp⟩ := List.mem_flatten.mp hp
      exact List.mem_range.mpr ((h.row ps hps).2.2.1 p hp).1
    rw [List.length_map, List.length_range] at this
    omega
section
variable {P : Program} {w : World} {K : PySem.W.Frag} {mg : Str → Option Value} {base : Heap}
def spDay : Sp := fun vs H Q _ => ∃ (a b : Addr) (many : Nat), vs = [.ref a, .int (many : Nat)] ∧ Rng H a b ∧ 1 ≤ many ∧ many ≤ 12 ∧ ∀ (H' : Hp) (p : Addr) (d : List (List Pr)), RK a b H H' → Rng H' a b → DayAt H' p d → (∀ ns : List Cs, ns.length = many → DayRun true ns d) → Q (.ref p) H'
theorem cutV_lo (n : Nat) (xs : List V) : cutV xs none (some (n : Int)) = xs.take n := by
  unfold cutV
  rw [HT.sIx_nat, HT.sIx_none, List.drop_zero, Nat.sub_zero]
  by_cases h : n ≤ xs.length
  · rw [Nat.min_eq_left h]
  · rw [Nat.min_eq_right (by omega), List.take_length, List.take_of_length_le (by omega)]
theorem cutV_hi (n : Nat) (xs : List V) : cutV xs (some (n : Int)) none = xs.drop n := by
  unfold cutV
  rw [HT.sIx_nat, HT.sIx_none]
  by_cases h : n ≤ xs.length
  · rw [Nat.min_eq_left h, List.take_of_length_le (by rw [List.length_drop]; omega)]
  · rw [Nat.min_eq_right (by omega), List.drop_length, List.drop_of_length_le (by omega), List.take_nil]
theorem cal_law_day (W : Wd K mg) : C8.Cal P w K mg base 4 "_law_day" spDay [] := by
  refine mk_law_day W (fun vs H Q E h => ?_) fun cdv A outer s H vs Q E hr h => ?_
  · obtain ⟨a, b, many, rfl, _⟩ := h
    rfl
  obtain ⟨a, b, many, rfl, hR, h1, h2, q⟩ := h
  refine ⟨_, (pss_cons (ps_par (i := 2) (j := 3) rfl sc_law_day.nd rfl rfl (by decide) rfl rfl (pa_cons (C8.pe_c (cal_law_mixed W) hr (by decide) rfl (pa_cons (pv 0) (pa_cons (pe_listRg rfl rfl W.z_list (prg_1 rfl W.z_range (pv 1))) pa_nil))) (pa_cons (pe_lst pa_nil) pa_nil)) (by rfl))
    (pss_cons (ps_for PassesOwn.never rfl (pi_range1 rfl W.z_range (pa_cons (C8.pe_c (cal_law_pick W) hr (by decide) rfl (pa_cons (pv 0) (pa_cons (pe_lst (pa_cons pe_int (pa_cons pe_int (pa_cons pe_int (pa_cons pe_int (pa_cons pe_int pa_nil)))))) pa_nil))) pa_nil)) (pg_name (i := 4) sc_law_day.nd rfl (Or.inl rfl))
    (pss_cons (ps_set (i := 5) sc_law_day.nd rfl (.inl rfl) (C8.pe_c (cal_law_pick W) hr (by decide) rfl (pa_cons (pv 0) (pa_cons (pe_lst (pa_cons pe_int (pa_cons pe_int (pa_cons pe_int (pa_cons pe_int pa_nil))))) pa_nil))))
    (pss_cons (ps_set (i := 6) sc_law_day.nd rfl (.inl rfl) (pe_callB (crSortP (K := K)) rfl W.z_sorted (by decide +kernel) (pa_cons (pe_lc (own := [("_law_thing", 7)]) (g := gName 7) (tt := tYes) rfl sc_law_day.nd (piL (K := K) rfl (pe_slice (slL (K := K)) (pv 2) po_none (po_some (pv 5)))) (blkOk_by (own := [("_law_thing", 7)]) (N := N_law_day) (sc := defScope s_law_day) (by decide +kernel)) (fun _ _ _ _ _ => (pg_name (i := 7) sc_law_day.nd rfl (Or.inl rfl))) (fun _ _ _ _ _ => pts_nil) (fun _ _ _ _ _ => (pe_tup (pa_cons (pv 7) (pa_cons (C8.pe_c (cal_law_integer W) hr (by decide) rfl (pa_cons (pv 0) (pa_cons (pe_op op_pow pe_int pe_int) pa_nil))) pa_nil))))) pa_nil)))
    (pss_cons (ps_set (i := 2) sc_law_day.nd rfl (.inl rfl) (pe_slice (slL (K := K)) (pv 2) (po_some (pv 5)) po_none))
    (pss_one (ps_if (pt_cmpR (opNeD (K := K) hr) (pv 6) (pe_lst pa_nil) (nomark _))
    (pss_one (ps_expr (pe_bm PySem.F.plainAttrs_list PySem.F.slot_list_append PySem.F.type_list_append mt_append (pv 3) (pa_cons (pe_callTy (crTp (K := K)) rfl W.z_tuple (by decide +kernel) (pa_cons (pv 6) pa_nil)) pa_nil))))
    pss_nil))))))
    (pss_one (ps_ret (pe_callTy (crTp (K := K)) rfl W.z_tuple (by decide +kernel) (pa_cons (pv 3) pa_nil)))))), ?_⟩
  walk_at "rd"
  refine ⟨_, rfl, _, rfl, RgOk.of_le (by omega) (by omega) (by omega) (by omega), fun L0 hL0 => ?_⟩
  have s0 := same_upd (o := .lst (rgV 0 (many : Nat))) hL0
  walk_at "rd"
  have lrg : (rgV 0 ((many : Nat) : Int)).length = many := by rw [rgV_length]; omega
  have erg : rgV 0 ((many : Nat) : Int) = (List.range many).map fun j => V.int ((j : Nat) : Int) := by
    unfold rgV
    rw [show (((many : Nat) : Int) - 0).toNat = many by omega]
    refine List.map_congr_left fun j _ => ?_
    rw [Int.zero_add]
  refine ⟨a, b, L0, _, rfl, hR.same s0, upd_same, hR.fresh hL0, by omega, fun H1 L ys k1 hR1 hL1 eL hys => ?_⟩
  rw [erg] at hys
  obtain ⟨ls0, hls0, rfl⟩ := perm_map_inv _ hys rfl
  have k1 := (RK.of s0).trans k1
  have hL : H L = none := none_of s0 hL1
  walk_at "rd"
  refine ⟨small (by decide), fun F hF1 => ?_⟩
  have s2 := same_upd (o := .lst []) hF1
  have nF := hR1.fresh hF1
  have hF := fresh_back k1 hR1 hF1
  have eF : upd H1 F (.lst []) F = some (.lst []) := upd_same
  have eL2 := s2 _ _ eL
  have LF : L ≠ F := ne_none eL hF1
  have hR2 := hR1.same s2
  have k2 := k1.trans (RK.of s2)
  generalize upd H1 F (.lst []) = H2 at eF eL2 hR2 k2 ⊢
  walk_at "rd"
  refine ⟨small (show 5 ≤ 100 by decide), fun M hM => ?_⟩
  have s3 := same_upd (o := .lst [.int 2, .int 3, .int 1, .int 0, .int 4]) hM
  walk_at "rd"
  refine ⟨a, b, M, _, rfl, hR2.same s3, upd_same, hR2.fresh hM, List.cons_ne_nil _ _, (show 5 ≤ 1000 by decide), fun H4 x k4 hR4 hx => ?_⟩
  obtain ⟨n, rfl, hn⟩ : ∃ n : Nat, x = .int (n : Nat) ∧ n ≤ 4 := by
    simp only [List.mem_cons, List.not_mem_nil, or_false] at hx
    rcases hx with rfl | rfl | rfl | rfl | rfl
    · exact ⟨2, rfl, by omega⟩
    · exact ⟨3, rfl, by omega⟩
    · exact ⟨1, rfl, by omega⟩
    · exact ⟨0, rfl, by omega⟩
    · exact ⟨4, rfl, by omega⟩
  have k4 := (RK.of s3).trans k4
  refine ⟨_, rfl, by omega, by omega, ?_⟩
  rw [Int.toNat_natCast]
  refine for_w walk_nat (fun i σ H' => ∃ (y4 y5 y6 y7 : Option V) (L : Addr) (ls : List Nat) (as : List Addr) (d : List (List Pr)), σ = [some (.ref a), some (.int (many : Nat)), some (.ref L), some (.ref F), y4, y5, y6, y7] ∧ RK a b H H' ∧ Rng H' a b ∧ (L ≠ F ∧ L ≠ a ∧ L ≠ b) ∧ H' L = some (.lst (ls.map fun j => V.int ((j : Nat) : Int))) ∧
    H' F = some (.lst (as.map V.ref)) ∧ All2 (fun q ps => PrsAt H' q ps) as d ∧ DayD many d ls ∧ d.length ≤ i) ⟨_, _, _, _, L, ls0, [], [], rfl, k2.trans k4, hR4, ⟨LF, hR.fresh hL⟩, k4.at eL2 (hR.fresh hL), k4.at eF nF, .nil, ⟨fun ps hps => (by cases hps), ?_, fun j hj => List.mem_range.mp (hls0.mem_iff.mp hj)⟩, Nat.zero_le _⟩ (fun _ _ _ _ _ => trivial) ?_ ?_
  · exact hls0.nodup_iff.mpr List.nodup_range
  · rintro i v σ H5 H6 N hi ⟨y4, y5, y6, y7, L, ls, as, d, rfl, k5, hR5, ⟨LF, nL⟩, e1, e2, had, hd, hdl⟩ ⟨rfl, rfl⟩ k
    walk_at "rd"
    refine ⟨small (show 4 ≤ 100 by decide), fun M hM => ?_⟩
    have s6 := same_upd (o := .lst [.int 1, .int 2, .int 1, .int 3]) hM
    walk_at "rd"
    refine ⟨a, b, M, _, rfl, hR5.same s6, upd_same, hR5.fresh hM, List.cons_ne_nil _ _, (show 4 ≤ 1000 by decide), fun H7 x k7 hR7 hx => ?_⟩
    obtain ⟨sz, rfl, hsz⟩ : ∃ n : Nat, x = .int (n : Nat) ∧ n ≤ 3 := by
      simp only [List.mem_cons, List.not_mem_nil, or_false] at hx
      rcases hx with rfl | rfl | rfl | rfl
      · exact ⟨1, rfl, by omega⟩
      · exact ⟨2, rfl, by omega⟩
      · exact ⟨1, rfl, by omega⟩
      · exact ⟨3, rfl, by omega⟩
    have k7 := (RK.of s6).trans k7
    have e17 := k7.at e1 nL
    have e27 := k7.at e2 nF
    have had7 := had.imp fun q ps h => PrsAt.tsame (RK.tsame hR5 k7) h
    have k57 := k5.trans k7
    walk_at "rd"
    refine ⟨_, rfl, ?_⟩
    refine ⟨L, _, rfl, SqL.of e17, fun S hS => ?_⟩
    rw [cutV_lo]
    have s8 := same_upd (o := .lst ((ls.map fun j => V.int ((j : Nat) : Int)).take sz)) hS
    have eS : upd H7 S (.lst ((ls.map fun j => V.int ((j : Nat) : Int)).take sz)) S = some (.lst ((ls.take sz).map fun j => V.int ((j : Nat) : Int))) := by
      rw [upd_same, List.map_take]
    have hR8 := hR7.same s8
    have e18 := s8 _ _ e17
    have e28 := s8 _ _ e27
    have nS := hR7.fresh hS
    have had8 := had7.imp fun q ps h => PrsAt.tsame (Same.ts s8) h
    have k58 := k57.trans (RK.of s8)
    generalize upd H7 S (.lst ((ls.map fun j => V.int ((j : Nat) : Int)).take sz)) = H8 at eS hR8 e18 e28 had8 k58 ⊢
    refine ⟨S, rfl, ⟨_, SqL.of eS⟩, fun D hD => lc_it walk_list (fun i H' => RK a b H8 H' ∧ Rng H' a b ∧ ∃ (qs : List Addr) (ps : List Pr), H' D = some (.lst (qs.map V.ref)) ∧ All2 (fun q p => H' q = some (.tup (prV p))) qs ps ∧ ps.map (·.1) = (ls.take sz).take i ∧ ∀ p ∈ ps, p.2.natAbs ≤ 1000000000)
      ⟨RK.of (same_upd hD), hR8.same (same_upd hD), [], [], upd_same, .nil, rfl, fun p hp => by cases hp⟩ (fun i H' _ p => SqL.of (p.1.at eS nS)) ?_ ?_⟩
    · rintro j v H9 H10 hj ⟨k9, hR9, qs, ps, e9, hq9, hm9, hb9⟩ ⟨rfl, ev⟩
      rw [List.length_map] at hj
      have hj3 : j < 3 := by
        rw [List.length_take] at hj
        omega
      rw [List.getElem?_map, List.getElem?_eq_getElem hj] at ev
      obtain rfl := Option.some.inj ev
      refine ⟨rfl, ?_⟩
      walk_at "rd"
      refine ⟨10, 9, rfl, rfl, ⟨by decide, by decide, by decide⟩, ?_⟩
      walk_at "rd"
      refine ⟨a, b, 1000000000, rfl, hR9, by decide, by decide, fun H11 wt k11 hR11 hw => ?_⟩
      walk_at "rd"
      refine ⟨small (show 2 ≤ 100 by decide), fun T hT => ?_⟩
      have s12 := same_upd (o := .tup (prV ((ls.take sz)[j], wt))) hT
      have nD := hR8.fresh hD
      have e12 := s12 _ _ (k11.at e9 nD)
      have k12 := k11.trans (RK.of s12)
      refine ⟨_, e12, by rw [List.length_map, hq9.length, ← List.length_map (f := fun p : Pr => p.1), hm9]; exact small' (by rw [List.length_take]; omega), RK.set hD (k9.trans k12), (hR11.same s12).upd nD, qs ++ [T], ps ++ [((ls.take sz)[j], wt)], by rw [upd_same, List.map_append] <;> rfl, ?_, ?_, ?_⟩
      · have keep : ∀ (q : Addr) (p : Pr), upd H11 T (.tup (prV ((ls.take sz)[j], wt))) q = some (.tup (prV p)) → upd (upd H11 T (.tup (prV ((ls.take sz)[j], wt)))) D (.lst (qs.map V.ref ++ [.ref T])) q = some (.tup (prV p)) := fun q p h => by
          rw [upd_ne fun z => ?_]
          · exact h
          · rw [z, e12] at h
            cases h
        exact (hq9.imp fun q p h => keep q p (k12.at h (hR9.tne h))).snoc (keep _ _ upd_same)
      · rw [List.map_append, hm9, List.take_succ, List.getElem?_eq_getElem hj] <;> rfl
      · intro p hp
        rcases List.mem_append.mp hp with h | h
        · exact hb9 p h
        · rw [List.mem_singleton.mp h]
          exact hw
    · rintro H9 ⟨k9, hR9, qs, ps, e9, hq9, hm9, hb9⟩
      rw [List.length_map, List.take_length] at hm9
      walk_at "rd"
      refine ⟨D, _, kOf H9, rfl, SqL.of e9, fun y hy => ?_, fun ys p hs1 hs2 hp => ?_⟩
      · obtain ⟨q0, hq, rfl⟩ := List.mem_map.mp hy
        obtain ⟨j, hj, rfl⟩ := List.getElem_of_mem hq
        have e := hq9.get (List.getElem?_eq_getElem hj) (List.getElem?_eq_getElem (by rw [← hq9.length]; exact hj))
        refine ⟨_, rfl, ?_⟩
        rw [kOf_at e]
        exact e
      · obtain ⟨qs', hqp, rfl⟩ := perm_map_inv _ hs2.perm rfl
        obtain ⟨ps', hpp, hq'⟩ := all2_perm hqp hq9
        have hfst : (ps'.map (·.1)).Perm (ls.take sz) := by
          rw [← hm9]
          exact hpp.map _
        have hnod : (ls.take sz ++ ls.drop sz).Nodup := by
          rw [List.take_append_drop]
          exact (List.nodup_append.mp hd.nod).2.1
        have hnd' : (ps'.map (·.1)).Nodup := hfst.nodup_iff.mpr (List.nodup_append.mp hnod).1
        have hsrt := srt_back hq' hs1 hnd'
        have s10 := same_upd (o := .lst (qs'.map V.ref)) hp
        have nD := hR8.fresh hD
        have e110 := s10 _ _ (k9.at e18 nL)
        have e210 := s10 _ _ (k9.at e28 nF)
        have hrow : RowAt (upd H9 p (.lst (qs'.map V.ref))) p ps' := ⟨qs', upd_same, hq'.imp fun q p h => s10 _ _ h⟩
        have hR10 := hR9.same s10
        have k510 := (k58.trans k9).trans (RK.of s10)
        have had10 := had8.imp fun q ps h => PrsAt.tsame ((RK.tsame hR8 k9).trans (Same.ts s10)) h
        generalize upd H9 p (.lst (qs'.map V.ref)) = H10 at e110 e210 hrow hR10 k510 had10 ⊢
        walk_at "rd"
        refine ⟨_, rfl, ?_⟩
        walk_at "rd"
        refine ⟨L, _, rfl, SqL.of e110, fun L2 hL2 => ?_⟩
        rw [cutV_hi]
        have s11 := same_upd (o := .lst ((ls.map fun j => V.int ((j : Nat) : Int)).drop sz)) hL2
        have eL2 : upd H10 L2 (.lst ((ls.map fun j => V.int ((j : Nat) : Int)).drop sz)) L2 = some (.lst ((ls.drop sz).map fun j => V.int ((j : Nat) : Int))) := by
          rw [upd_same, List.map_drop]
        have nL2 := hR10.fresh hL2
        have L2F : L2 ≠ F := (ne_none e210 hL2).symm
        have e211 := s11 _ _ e210
        have hrow := RowAt.same s11 hrow
        have hR11 := hR10.same s11
        have k511 := k510.trans (RK.of s11)
        have had11 := had10.imp fun q ps h => PrsAt.tsame (Same.ts s11) h
        generalize upd H10 L2 (.lst ((ls.map fun j => V.int ((j : Nat) : Int)).drop sz)) = H11 at eL2 e211 hrow hR11 k511 had11 ⊢
        walk_at "rd"
        refine ⟨small (by decide), fun E1 hE1 => ?_⟩
        have s12 := same_upd (o := .lst []) hE1
        have hrow := RowAt.same s12 hrow
        refine ⟨rowD ps', rowD [], hrow.dp, .lst (SqL.of upd_same) .nil, shaped_row _, shaped_row _, ?_⟩
        rw [eqv_row_nil]
        have eL2 := s12 _ _ eL2
        have e212 := s12 _ _ e211
        have hR12 := hR11.same s12
        have k512 := k511.trans (RK.of s12)
        have had12 := had11.imp fun q ps h => PrsAt.tsame (Same.ts s12) h
        generalize upd H11 E1 (.lst []) = H12 at eL2 e212 hrow hR12 k512 had12 ⊢
        have nodall : (d.flatten.map (·.1) ++ ps'.map (·.1) ++ ls.drop sz).Nodup := by
          have : (d.flatten.map (·.1) ++ ps'.map (·.1) ++ ls.drop sz).Perm (d.flatten.map (·.1) ++ ls) := by
            rw [List.append_assoc]
            refine List.Perm.append_left _ ?_
            have := hfst.append_right (ls.drop sz)
            rw [List.take_append_drop] at this
            exact this
          exact this.nodup_iff.mpr hd.nod
        have ltd : ∀ j ∈ ls.drop sz, j < many := fun j hj => hd.lt j (List.mem_of_mem_drop hj)
        walk_at "rd"
        refine r_ndec (fun hne => ?_) fun he => ?_
        · walk_at "rd"
          refine r_tyL e212 ?_
          obtain ⟨qr, hr1, hr2⟩ := hrow
          walk_at "rd"
          refine ⟨p, _, rfl, SqL.of hr1, fun T o hT _ => ?_⟩
          have s13 := same_upd (o := .frz o (.tup (qr.map V.ref))) hT
          have e213 := s13 _ _ e212
          have lad := had12.length
          walk_at "rd"
          refine r_app e213 (by rw [List.length_map]; omega) (k _ _ ⟨some (.int (i : Nat)), some (.int (sz : Nat)), some (.ref p), y7, L2, ls.drop sz, as ++ [T], d ++ [ps'], rfl, RK.set hF (k512.trans (RK.of s13)), (hR12.same s13).upd nF, ⟨L2F, nL2⟩, (upd_ne L2F).trans (s13 _ _ eL2), by rw [upd_same, List.map_append] <;> rfl, ?_, ⟨?_, ?_, ltd⟩, ?_⟩)
          · have t14 := upd_lst_ts (o := .lst (as.map V.ref ++ [.ref T])) e213
            exact (had12.imp fun q ps h => PrsAt.tsame ((Same.ts s13).trans t14) h).snoc (PrsAt.tsame t14 ⟨qr, TupAt.frz upd_same, hr2.imp fun q p h => TupAt.of (s13 _ _ h)⟩)
          · intro r hr
            rcases List.mem_append.mp hr with h | h
            · exact hd.row r h
            · rw [List.mem_singleton.mp h]
              refine ⟨hne, ?_, fun p hp => ⟨?_, ?_⟩, hsrt⟩
              · have := hfst.length_eq
                rw [List.length_map, List.length_take] at this
                omega
              · exact hd.lt _ (List.mem_of_mem_take (hfst.mem_iff.mp (List.mem_map.mpr ⟨p, hp, rfl⟩)))
              · exact hb9 p (hpp.mem_iff.mp hp)
          · rw [List.flatten_append, List.map_append, List.flatten_cons, List.flatten_nil, List.append_nil]
            exact nodall
          · rw [List.length_append, List.length_singleton]
            omega
        · walk_at "rd"
          refine k _ _ ⟨some (.int (i : Nat)), some (.int (sz : Nat)), some (.ref p), y7, L2, ls.drop sz, as, d, rfl, k512, hR12, ⟨L2F, nL2⟩, eL2, e212, had12, ⟨hd.row, ?_, ltd⟩, by omega⟩
          rw [he, List.map_nil, List.append_nil] at nodall
          exact nodall
  · rintro σ H5 ⟨y4, y5, y6, y7, L, ls, as, d, rfl, k5, hR5, ⟨LF, nL⟩, e1, e2, had, hd, hdl⟩
    walk_at "rd"
    refine ⟨F, _, rfl, SqL.of e2, fun p o hp _ => ?_⟩
    have s6 := same_upd (o := .frz o (.tup (as.map V.ref))) hp
    exact q _ p d (k5.trans (RK.of s6)) (hR5.same s6) ⟨as, TupAt.frz upd_same, had.imp fun q ps h => PrsAt.tsame (Same.ts s6) h⟩ fun ns hns => hd.run h2 (by omega) hns
end
end K07

set_option maxRecDepth 100000
set_option maxHeartbeats 4000000
namespace K07
open PySem PySem.Spec PyProof.Rows L2
local macro_rules | `(tactic| walk_at "rd") => `(tactic| repeat (first
  | with_reducible refine r_seq ?_ | with_reducible refine r_asg ?_ | with_reducible refine r_name ?_ | with_reducible refine r_ret ?_ | with_reducible refine r_drop ?_ | with_reducible refine r_if ?_ | with_reducible refine r_nx ?_
  | with_reducible refine r_c ?_ | with_reducible refine r_op ?_ | with_reducible refine r_un ?_ | with_reducible refine r_cons ?_ | with_reducible refine r_nil ?_ | with_reducible refine r_test ?_ | with_reducible refine r_B ?_
  | with_reducible refine r_and ?_ | with_reducible refine r_or ?_ | with_reducible refine r_not ?_ | with_reducible refine r_andV ?_ | with_reducible refine r_orV ?_ | with_reducible refine r_notV ?_ | with_reducible refine r_tif ?_
  | with_reducible refine r_chain ?_ | with_reducible refine r_tyes ?_ | with_reducible refine r_lc ?_ | with_reducible refine r_rng1 ?_ | with_reducible refine r_itup ?_ | with_reducible refine r_ilist ?_ | with_reducible refine r_ienum ?_ | with_reducible refine r_istr ?_
  | with_reducible refine r_tup ?_ | with_reducible refine r_lst ?_ | with_reducible refine r_tfld ?_ | with_reducible refine r_gcons ?_ | with_reducible refine r_gnil ?_ | with_reducible refine r_gfld ?_ | with_reducible refine r_for ?_ | with_reducible refine r_sfld ?_ | with_reducible refine r_call ?_ | with_reducible refine r_cb ?_ | with_reducible refine r_sl ?_ | with_reducible refine r_np ?_ | with_reducible refine r_pt ?_ | with_reducible refine r_m1 ?_ | with_reducible refine r_par ?_ | with_reducible refine r_p2 ?_ | with_reducible refine r_u ?_ | with_reducible refine r_meth ?_ | with_reducible refine r_make ?_ | with_reducible refine r_gsub ?_ | with_reducible refine r_bm ?_ | with_reducible refine r_bm0 ?_ | with_reducible refine r_j0 ?_ | with_reducible refine r_jF ?_ | with_reducible refine r_jN ?_ | with_reducible refine r_bl ?_ | with_reducible refine r_i0 ?_ | with_reducible refine tt_ite ?_ | with_reducible refine ff_ite ?_ | with_reducible refine nt_ite ?_ | with_reducible refine nf_ite ?_
  | with_reducible refine r_var (by with_unfolding_all exact rfl) ?_))
theorem tt_use {c : TT} {σ : L2.St} {H : Hp} {Q : Bool → Hp → Prop} (Post : Bool → Hp → Prop) (h1 : ∀ Q : Bool → Hp → Prop, (∀ v H', Post v H' → Q v H') → c σ H Q) (h2 : ∀ v H', Post v H' → Q v H') : c σ H Q := h1 Q h2
theorem All2.take {α β : Type} {R : α → β → Prop} : ∀ {as : List α} {bs : List β} (n : Nat), All2 R as bs → All2 R (as.take n) (bs.take n)
  | _, _, 0, _ => by
    rw [List.take_zero, List.take_zero]
    exact .nil
  | _, _, _ + 1, .nil => .nil
  | _, _, n + 1, .cons r t => .cons r (t.take n)
theorem All2.drop {α β : Type} {R : α → β → Prop} : ∀ {as : List α} {bs : List β} (n : Nat), All2 R as bs → All2 R (as.drop n) (bs.drop n)
  | _, _, 0, h => h
  | _, _, _ + 1, .nil => .nil
  | _, _, n + 1, .cons r t => t.drop n
theorem inV_used (ts : List Tie) (i : Nat) : inV (.int ((i : Nat) : Int)) ((ts.map fun x => V.int ((x.1 : Nat) : Int)) ++ (ts.map fun x => V.int ((x.2.1 : Nat) : Int))) = usedB ts i := by
  unfold inV usedB
  rw [List.any_append, List.any_map, List.any_map, Bool.eq_iff_iff, Bool.or_eq_true, List.any_eq_true, List.any_eq_true, List.any_eq_true]
  have e : ∀ j : Nat, eqV (V.int ((j : Nat) : Int)) (V.int ((i : Nat) : Int)) = (j == i) := fun j => by
    show (((j : Nat) : Int) == ((i : Nat) : Int)) = _
    rw [Bool.eq_iff_iff, beq_iff_eq, beq_iff_eq]
    omega
  constructor
  · rintro (⟨x, hx, h⟩ | ⟨x, hx, h⟩)
    · exact ⟨x, hx, by rw [Bool.or_eq_true]; exact .inl ((e x.1).symm.trans h)⟩
    · exact ⟨x, hx, by rw [Bool.or_eq_true]; exact .inr ((e x.2.1).symm.trans h)⟩
  · rintro ⟨x, hx, h⟩
    rcases Bool.or_eq_true_iff.mp h with h | h
    · exact .inl ⟨x, hx, (e x.1).trans h⟩
    · exact .inr ⟨x, hx, (e x.2.1).trans h⟩
theorem flat_used (ts : List Tie) : ((ts.map fun x => V.int ((x.1 : Nat) : Int)) ++ (ts.map fun x => V.int ((x.2.1 : Nat) : Int))).all flatV = true := by
  rw [List.all_eq_true]
  intro x hx
  rcases List.mem_append.mp hx with h | h
  · obtain ⟨y, _, rfl⟩ := List.mem_map.mp h
    rfl
  · obtain ⟨y, _, rfl⟩ := List.mem_map.mp h
    rfl
theorem intM_ok (n : Int) (h : n.natAbs ≤ 1000000000) : (intM n).length ≤ 2 ∧ ∀ m ∈ intM n, Mark m ∧ m.length ≤ 12 := by
  unfold intM
  have ln := numL_le (n := n.natAbs) (k := 10) (by omega) (by decide)
  by_cases h0 : n < 0
  · rw [if_pos h0]
    refine ⟨Nat.le_refl 2, fun m hm => ?_⟩
    rcases List.mem_cons.mp hm with rfl | hm
    · exact ⟨mark_minus, by decide⟩
    · rw [List.mem_singleton.mp hm]
      exact ⟨numL_mark _, by omega⟩
  · rw [if_neg h0]
    refine ⟨Nat.le_succ 1, fun m hm => ?_⟩
    rw [List.mem_singleton.mp hm]
    exact ⟨numL_mark _, by omega⟩
def tieM (ns : List Cs) (x : Tie) : List Cs := [nmAt ns x.1, nmAt ns x.2.1] ++ intM x.2.2
theorem tieM_row (ns : List Cs) (x : Tie) : rowM (tieW ns x) = tieM ns x := by
  show nmAt ns x.1 :: nmAt ns x.2.1 :: (intM x.2.2 ++ []) = _
  rw [List.append_nil] <;> rfl
theorem tieM_ok {ns : List Cs} (hn : NamesOk ns) {x : Tie} (h : TieOk ns.length x) : (tieM ns x).length ≤ 4 ∧ ∀ m ∈ tieM ns x, Mark m ∧ m.length ≤ 12 := by
  obtain ⟨h1, h2, h3, h4⟩ := h
  obtain ⟨a, b⟩ := intM_ok x.2.2 (by omega)
  refine ⟨?_, fun m hm => ?_⟩
  · unfold tieM
    rw [List.length_append]
    show 2 + _ ≤ 4
    omega
  · rcases List.mem_append.mp hm with h | h
    · rcases List.mem_cons.mp h with rfl | h
      · exact ⟨(nmAt_name hn h1).mark, Nat.le_trans (nm_le hn h1) (by decide)⟩
      · rw [List.mem_singleton.mp h]
        exact ⟨(nmAt_name hn h2).mark, Nat.le_trans (nm_le hn h2) (by decide)⟩
    · exact b m h
theorem cost_alone (ns : List Cs) (l : List Nat) : costM ((l.map fun i => [Word.nm (nmAt ns i)]).map rowM) = 2 * l.length := by
  induction l with
  | nil => rfl
  | cons a l ih =>
    rw [List.map_cons, List.map_cons, ← List.singleton_append, costM_append, costM_one, ih, List.length_cons]
    show 1 + 1 + _ = _
    omega
theorem cost_tabR (ns : List Cs) (ts : List Tie) : costM ((tabR ns ts).map rowM) = 2 * ((List.range ns.length).filter fun i => !usedB ts i).length + costM (ts.map (tieM ns)) := by
  unfold tabR
  rw [List.map_append, costM_append, cost_alone, List.map_map]
  congr 2
  exact List.map_congr_left fun x _ => tieM_row ns x
def LineOk (ws : List Cs) : Prop := ∀ m ∈ ws, Mark m ∧ m.length ≤ 12
section
variable {P : Program} {w : World} {K : PySem.W.Frag} {mg : Str → Option Value} {base : Heap}
def spTableLines : Sp := fun vs H Q _ => ∃ (a b A B : Addr) (ns : List Cs) (ts : List Tie), vs = [.ref a, .ref A, .ref B] ∧ Rng H a b ∧ TupAt H A (strL ns) ∧ TiesAt H B ts ∧ NamesOk ns ∧ TiesOk ns.length ts ∧
  ∀ (H' : Hp) (p : Addr) (lines : List (List Cs)), RK a b H H' → Rng H' a b → LinesAt H' a b p lines → lines.length ≤ 80 → (∀ ws ∈ lines, ws.length ≤ 40 ∧ LineOk ws) → costM ((tabR ns ts).map rowM) ≤ costM lines → Q (.ref p) H'
theorem cal_law_table_lines (W : Wd K mg) : C8.Cal P w K mg base 4 "_law_table_lines" spTableLines [] := by
  refine mk_law_table_lines W (fun vs H Q E h => ?_) fun cdv A outer s H vs Q E hr h => ?_
  · obtain ⟨a, b, A, B, ns, ts, rfl, _⟩ := h
    rfl
  obtain ⟨a, b, A, B, ns, ts, rfl, hR, hA, hB, hn, ⟨hl, hts⟩, q⟩ := h
  refine ⟨_, (pss_cons (ps_par (i := 3) (j := 4) rfl sc_law_table_lines.nd rfl rfl (by decide) rfl rfl (pa_cons (pe_lst pa_nil) (pa_cons (pe_op op_cat (pe_lc (own := [("_law_tie", 5)]) (g := gName 5) (tt := tYes) rfl sc_law_table_lines.nd (piT (K := K) rfl (pv 2)) (blkOk_by (own := [("_law_tie", 5)]) (N := N_law_table_lines) (sc := defScope s_law_table_lines) (by decide +kernel)) (fun _ _ _ _ _ => (pg_name (i := 5) sc_law_table_lines.nd rfl (Or.inl rfl))) (fun _ _ _ _ _ => pts_nil) (fun _ _ _ _ _ => (pe_ix (ixT (K := K)) (pv 5) pe_int (fun _ _ => rfl)))) (pe_lc (own := [("_law_tie", 5)]) (g := gName 5) (tt := tYes) rfl sc_law_table_lines.nd (piT (K := K) rfl (pv 2)) (blkOk_by (own := [("_law_tie", 5)]) (N := N_law_table_lines) (sc := defScope s_law_table_lines) (by decide +kernel)) (fun _ _ _ _ _ => (pg_name (i := 5) sc_law_table_lines.nd rfl (Or.inl rfl))) (fun _ _ _ _ _ => pts_nil) (fun _ _ _ _ _ => (pe_ix (ixT (K := K)) (pv 5) pe_int (fun _ _ => rfl))))) pa_nil)) (by rfl))
    (pss_cons (ps_for PassesOwn.never rfl (piT (K := K) rfl (pv 2)) (pgT (K := K) (n := 3) rfl rfl (pgs_cons (pg_name (i := 6) sc_law_table_lines.nd rfl (Or.inl rfl)) (pgs_cons (pg_name (i := 7) sc_law_table_lines.nd rfl (Or.inl rfl)) (pgs_cons (pg_name (i := 8) sc_law_table_lines.nd rfl (Or.inl rfl)) pgs_nil))))
    (pss_one (ps_expr (pe_bm PySem.F.plainAttrs_list PySem.F.slot_list_append PySem.F.type_list_append mt_append (pv 3) (pa_cons (pe_op op_cat (pe_lst (pa_cons (pe_ix (ixT (K := K)) (pv 1) (pv 6) (fun _ _ => rfl)) (pa_cons (pe_ix (ixT (K := K)) (pv 1) (pv 7) (fun _ _ => rfl)) pa_nil))) (C8.pe_c (cal_law_integer_marks W) hr (by decide) rfl (pa_cons (pv 8) pa_nil))) pa_nil)))))
    (pss_cons (ps_for PassesOwn.never rfl (pi_range1 rfl W.z_range (pa_cons (pe_callB (crLn (K := K)) rfl W.z_len (by decide +kernel) (pa_cons (pv 1) pa_nil)) pa_nil)) (pg_name (i := 9) sc_law_table_lines.nd rfl (Or.inl rfl))
    (pss_one (ps_if (PW.pt (pw_or (pt_cmpR (opNin (K := K)) (pv 9) (pv 4) rfl) (pw_or1 (pt_cmpR op_eq (C8.pe_c (cal_law_draw W) hr (by decide) rfl (pa_cons (pv 0) (pa_cons pe_int pa_nil))) pe_int (nomark _)))))
    (pss_cons (ps_set (i := 10) sc_law_table_lines.nd rfl (.inl rfl) (C8.pe_c (cal_law_draw W) hr (by decide) rfl (pa_cons (pv 0) (pa_cons (pe_op op_add (pe_callB (crLn (K := K)) rfl W.z_len (by decide +kernel) (pa_cons (pv 3) pa_nil)) pe_int) pa_nil))))
    (pss_one (ps_set (i := 3) sc_law_table_lines.nd rfl (.inl rfl) (pe_op op_cat (pe_op op_cat (pe_slice (slL (K := K)) (pv 3) po_none (po_some (pv 10))) (pe_lst (pa_cons (pe_lst (pa_cons (pe_ix (ixT (K := K)) (pv 1) (pv 9) (fun _ _ => rfl)) pa_nil)) pa_nil))) (pe_slice (slL (K := K)) (pv 3) (po_some (pv 10)) po_none)))))
    pss_nil)))
    (pss_one (ps_ret (pv 3)))))), ?_⟩
  obtain ⟨as0, hb0, hlen, hget⟩ := hB.get
  walk_at "rd"
  refine ⟨small (by decide), fun F hF => ?_⟩
  have nF := hR.fresh hF
  have s1 := same_upd (o := .lst []) hF
  have eF : upd H F (.lst []) F = some (.lst []) := upd_same
  generalize upd H F (.lst []) = H1 at s1 eF ⊢
  walk_at "rd"
  refine ⟨B, rfl, ⟨_, (hb0.same s1).sq⟩, fun D1 hD1 => lc_map walk_tup (fun j => ts[j]?.map fun x => .int ((x.1 : Nat) : Int)) hD1 ?_ (fun H' s2 => ((hb0.same s1).same s2).sq) yAt_same ?_ ?_⟩
  · rw [List.length_map, hlen]
    exact small' (by omega)
  · rintro j v H2 H3 R R0 hj s2 s3 ⟨rfl, ev⟩ k1 k2
    obtain ⟨a', x, rfl, ex, hx⟩ := hget j v ev
    refine ⟨rfl, ?_⟩
    walk_at "rd"
    refine r_ixT (v := .int ((x.1 : Nat) : Int)) ((hx.same s1).same s3).sq rfl ?_
    exact k1 _ _ (by rw [ex] <;> rfl) (Same.refl _)
  intro H2 s2 e2
  rw [List.length_map, hlen, filterMap_all ts _ (fun x => .int ((x.1 : Nat) : Int)) fun i hi => by rw [List.getElem?_eq_getElem hi] <;> rfl] at e2
  walk_at "rd"
  have s12 := s1.trans s2
  refine ⟨B, rfl, ⟨_, (hb0.same s12).sq⟩, fun D2 hD2 => lc_map walk_tup (fun j => ts[j]?.map fun x => .int ((x.2.1 : Nat) : Int)) hD2 ?_ (fun H' s3 => ((hb0.same s12).same s3).sq) yAt_same ?_ ?_⟩
  · rw [List.length_map, hlen]
    exact small' (by omega)
  · rintro j v H3 H4 R R0 hj s3 s4 ⟨rfl, ev⟩ k1 k2
    obtain ⟨a', x, rfl, ex, hx⟩ := hget j v ev
    refine ⟨rfl, ?_⟩
    walk_at "rd"
    refine r_ixT (v := .int ((x.2.1 : Nat) : Int)) ((hx.same s12).same s4).sq rfl ?_
    exact k1 _ _ (by rw [ex] <;> rfl) (Same.refl _)
  intro H3 s3 e3
  rw [List.length_map, hlen, filterMap_all ts _ (fun x => .int ((x.2.1 : Nat) : Int)) fun i hi => by rw [List.getElem?_eq_getElem hi] <;> rfl] at e3
  refine ⟨D1, D2, _, _, rfl, rfl, s3 _ _ e2, e3, ?_, fun U hU => ?_⟩
  · rw [List.length_map, List.length_map]
    exact Nat.le_trans (show _ ≤ 10000000 by omega) (by decide)
  have s4 := same_upd (o := .lst ((ts.map fun x => V.int ((x.1 : Nat) : Int)) ++ (ts.map fun x => V.int ((x.2.1 : Nat) : Int)))) hU
  have s04 := (s12.trans s3).trans s4
  have eU : upd H3 U (.lst ((ts.map fun x => V.int ((x.1 : Nat) : Int)) ++ (ts.map fun x => V.int ((x.2.1 : Nat) : Int)))) U = some (.lst ((ts.map fun x => V.int ((x.1 : Nat) : Int)) ++ (ts.map fun x => V.int ((x.2.1 : Nat) : Int)))) := upd_same
  have eF4 := s4 _ _ (s3 _ _ (s2 _ _ eF))
  have hUH := none_of ((s12.trans s3)) hU
  have nU := hR.fresh hUH
  have UF : U ≠ F := (ne_none (s3 _ _ (s2 _ _ eF)) hU).symm
  have hR4 := hR.same s04
  generalize upd H3 U (.lst ((ts.map fun x => V.int ((x.1 : Nat) : Int)) ++ (ts.map fun x => V.int ((x.2.1 : Nat) : Int)))) = H4 at s04 eU eF4 hR4 ⊢
  walk_at "rd"
  refine ⟨B, rfl, ⟨_, (hb0.same s04).sq⟩, ?_⟩
  refine for_w (walk_tup (xs := as0.map V.ref)) (fun i σ H' => (∃ y5 y6 y7 y8 y9 y10, σ = [some (.ref a), some (.ref A), some (.ref B), some (.ref F), some (.ref U), y5, y6, y7, y8, y9, y10]) ∧ Same H H' ∧ H' U = some (.lst ((ts.map fun x => V.int ((x.1 : Nat) : Int)) ++ (ts.map fun x => V.int ((x.2.1 : Nat) : Int)))) ∧
    ∃ as : List Addr, H' F = some (.lst (as.map V.ref)) ∧ All2 (fun q ws => q ≠ F ∧ (q ≠ a ∧ q ≠ b) ∧ H' q = some (.lst (strL ws))) as ((ts.take i).map (tieM ns))) ⟨⟨_, _, _, _, _, _, rfl⟩, s04, eU, [], eF4, .nil⟩ (fun i σ H' _ p => (hb0.same p.2.1).sq) ?_ ?_
  · rintro i v σ H5 H6 N hi ⟨⟨y5, y6, y7, y8, y9, y10, rfl⟩, s5, eU5, as, eF5, ha5⟩ ⟨rfl, ev⟩ k
    obtain ⟨a', x, rfl, ex, hx⟩ := hget i v ev
    have hxm := List.mem_of_getElem? ex
    obtain ⟨g1, g2, g3, g4⟩ := hts x hxm
    have hi60 : i < 60 := by
      have := (List.getElem?_eq_some_iff.mp ex).1
      omega
    refine r_gtup (xs := [.int x.1, .int x.2.1, .int x.2.2]) (hx.same s5).sq rfl ?_
    walk_at "rd"
    refine r_tyL eF5 ?_
    walk_at "rd"
    refine r_ixT (hA.same s5).sq (at_nm g1) ?_
    walk_at "rd"
    refine r_ixT (hA.same s5).sq (at_nm g2) ?_
    walk_at "rd"
    refine ⟨small (show 2 ≤ 100 by decide), fun L hL => ?_⟩
    have s6 := same_upd (o := .lst [.str (SX.S (nmAt ns x.1)), .str (SX.S (nmAt ns x.2.1))]) hL
    walk_at "rd"
    refine ⟨x.2.2, rfl, by omega, fun H7 M s7 hM eM => ?_⟩
    have eL7 := s7 _ _ (upd_same : upd H6 L (.lst [.str (SX.S (nmAt ns x.1)), .str (SX.S (nmAt ns x.2.1))]) L = _)
    have s67 := s6.trans s7
    generalize upd H6 L (.lst [.str (SX.S (nmAt ns x.1)), .str (SX.S (nmAt ns x.2.1))]) = H66 at s6 s7 hM eL7 s67
    have li := (intM_ok x.2.2 (by omega)).1
    refine ⟨L, M, _, _, rfl, rfl, eL7, eM, ?_, fun T hT => ?_⟩
    · rw [List.length_map]
      exact small (show 2 + _ ≤ 100 by omega)
    have s8 := same_upd (o := .lst ([V.str (SX.S (nmAt ns x.1)), V.str (SX.S (nmAt ns x.2.1))] ++ strL (intM x.2.2))) hT
    have s58 := s67.trans s8
    have eF8 := s58 _ _ eF5
    have TF : T ≠ F := (ne_none (s67 _ _ eF5) hT).symm
    have nT := (hR.same (s5.trans s67)).fresh hT
    walk_at "rd"
    refine r_app eF8 (by rw [List.length_map, ha5.length, List.length_map, List.length_take]; omega) (k _ _ ⟨⟨_, _, _, _, _, _, rfl⟩, same_set hF (s5.trans s58), (upd_ne UF).trans (s58 _ _ eU5), as ++ [T], by rw [upd_same, List.map_append] <;> rfl, ?_⟩)
    rw [List.take_succ, ex, show (some x).toList = [x] from rfl, List.map_append]
    refine All2.snoc (ha5.imp fun q ws h => ⟨h.1, h.2.1, (upd_ne h.1).trans (s58 _ _ h.2.2)⟩) ⟨TF, nT, (upd_ne TF).trans ?_⟩
    rw [upd_same] <;> rfl
  rintro σ H5 ⟨⟨y5, y6, y7, y8, y9, y10, rfl⟩, s5, eU5, as, eF5, ha5⟩
  rw [List.take_of_length_le (by rw [List.length_map]; omega)] at ha5
  walk_at "rd"
  refine r_lnT (hA.same s5).sq ?_
  have hn2 := hn.2.1
  refine ⟨_, rfl, by rw [List.length_map]; omega, by rw [List.length_map]; omega, ?_⟩
  rw [List.length_map, Int.toNat_natCast]
  have hR5 := hR.same s5
  refine for_w walk_nat (fun i σ H' => ∃ (y5 y6 y7 y8 y9 y10 : Option V) (F : Addr) (as : List Addr) (lines : List (List Cs)), σ = [some (.ref a), some (.ref A), some (.ref B), some (.ref F), some (.ref U), y5, y6, y7, y8, y9, y10] ∧ RK a b H H' ∧ Rng H' a b ∧ TupAt H' A (strL ns) ∧
    H' U = some (.lst ((ts.map fun x => V.int ((x.1 : Nat) : Int)) ++ (ts.map fun x => V.int ((x.2.1 : Nat) : Int)))) ∧ (F ≠ a ∧ F ≠ b) ∧ H' F = some (.lst (as.map V.ref)) ∧ All2 (fun q ws => (q ≠ a ∧ q ≠ b) ∧ H' q = some (.lst (strL ws))) as lines ∧ lines.length ≤ 60 + i ∧ (∀ ws ∈ lines, ws.length ≤ 4 ∧ LineOk ws) ∧
    2 * ((List.range i).filter fun i => !usedB ts i).length + costM (ts.map (tieM ns)) ≤ costM lines) ⟨_, _, _, _, _, _, F, as, _, rfl, RK.of s5, hR5, hA.same s5, eU5, nF, eF5, ha5.imp fun q ws h => h.2, by rw [List.length_map]; omega, fun ws hws => ?_, by rw [List.range_zero, List.filter_nil, List.length_nil, Nat.mul_zero, Nat.zero_add]; exact Nat.le_refl _⟩ (fun _ _ _ _ _ => trivial) ?_ ?_
  · obtain ⟨x, hx, rfl⟩ := List.mem_map.mp hws
    obtain ⟨h1, h2⟩ := tieM_ok hn (hts x hx)
    exact ⟨h1, h2⟩
  · rintro i v σ H6 H7 N hi ⟨y5, y6, y7, y8, y9, y10, F, as, lines, rfl, k6, hR6, hA6, eU6, nF, eF6, ha6, hll, hlo, hc⟩ ⟨rfl, rfl⟩ k
    with_reducible refine r_name ?_
    with_reducible refine r_if ?_
    refine tt_use (fun bb H1 => RK a b H7 H1 ∧ Rng H1 a b ∧ (bb = false → usedB ts i = true)) (fun Q' kQ => ?_) ?_
    · walk_at "rd"
      refine ⟨U, _, rfl, .inl (SqL.of eU6), rfl, flat_used ts, ?_⟩
      rw [if_pos rfl, inV_used]
      walk_at "rd"
      cases hu : usedB ts i with
      | false =>
        walk_at "rd"
        exact kQ _ _ ⟨RK.refl _ _ _, hR6, fun z => by cases z⟩
      | true =>
        walk_at "rd"
        refine ⟨a, b, 5, rfl, hR6, by decide, by decide, fun H8 r k8 hR8 _ => ?_⟩
        walk_at "rd"
        refine r_eq rfl ?_
        walk_at "rd"
        exact kQ _ _ ⟨k8, hR8, fun _ => hu⟩
    rintro bb H8 ⟨k8, hR8, hbb⟩
    have eF8 := k8.at eF6 nF
    have eU8 := k8.at eU6 nU
    have hA8 := RK.tsame hR6 k8 _ _ hA6
    have ha8 : All2 (fun q ws => (q ≠ a ∧ q ≠ b) ∧ H8 q = some (.lst (strL ws))) as lines := ha6.imp fun q ws h => ⟨h.1, k8.at h.2 h.1⟩
    have k68 := k6.trans k8
    have hfilt : ((List.range (i + 1)).filter fun i => !usedB ts i).length ≤ ((List.range i).filter fun i => !usedB ts i).length + 1 := by
      rw [List.range_succ, List.filter_append, List.length_append]
      have := List.length_filter_le (fun i => !usedB ts i) [i]
      rw [List.length_singleton] at this
      omega
    cases bb with
    | false =>
      refine r_no rfl ?_
      walk_at "rd"
      refine k _ _ ⟨y5, y6, y7, y8, some (.int ((i : Nat) : Int)), y10, F, as, lines, rfl, k68, hR8, hA8, eU8, nF, eF8, ha8, by omega, hlo, ?_⟩
      rw [List.range_succ, List.filter_append, List.filter_cons_of_neg (by rw [hbb rfl]; decide), List.filter_nil, List.append_nil]
      exact hc
    | true =>
      refine r_yes rfl ?_
      walk_at "rd"
      refine r_lnL (SqL.of eF8) ?_
      walk_at "rd"
      have lal : as.length = lines.length := ha8.length
      refine ⟨a, b, as.length + 1, ?_, hR8, by omega, by omega, fun H9 r k9 hR9 hr9 => ?_⟩
      · rw [List.length_map] <;> rfl
      have eF9 := k9.at eF8 nF
      have eU9 := k9.at eU8 nU
      have hA9 := RK.tsame hR8 k9 _ _ hA8
      have ha9 : All2 (fun q ws => (q ≠ a ∧ q ≠ b) ∧ H9 q = some (.lst (strL ws))) as lines := ha8.imp fun q ws h => ⟨h.1, k9.at h.2 h.1⟩
      have k69 := k68.trans k9
      walk_at "rd"
      refine ⟨_, rfl, ?_⟩
      refine ⟨F, _, rfl, SqL.of eF9, fun P1 hP1 => ?_⟩
      rw [cutV_lo]
      have s10 := same_upd (o := .lst ((as.map V.ref).take r)) hP1
      have eP1 : upd H9 P1 (.lst ((as.map V.ref).take r)) P1 = some (.lst ((as.map V.ref).take r)) := upd_same
      generalize upd H9 P1 (.lst ((as.map V.ref).take r)) = H10 at s10 eP1 ⊢
      walk_at "rd"
      refine r_ixT (hA9.same s10).sq (at_nm hi) ?_
      walk_at "rd"
      refine ⟨small (show 1 ≤ 100 by decide), fun T hT => ?_⟩
      have s11 := same_upd (o := .lst [.str (SX.S (nmAt ns i))]) hT
      have eT : upd H10 T (.lst [.str (SX.S (nmAt ns i))]) T = some (.lst [.str (SX.S (nmAt ns i))]) := upd_same
      have nT := (hR9.same s10).fresh hT
      have eP11 := s11 _ _ eP1
      have s911 := s10.trans s11
      generalize upd H10 T (.lst [.str (SX.S (nmAt ns i))]) = H11 at s911 eT eP11 ⊢
      walk_at "rd"
      refine ⟨small (show 1 ≤ 100 by decide), fun O hO => ?_⟩
      have s12 := same_upd (o := .lst [.ref T]) hO
      have eO : upd H11 O (.lst [.ref T]) O = some (.lst [.ref T]) := upd_same
      have eP12 := s12 _ _ eP11
      have eT12 := s12 _ _ eT
      have s912 := s911.trans s12
      generalize upd H11 O (.lst [.ref T]) = H12 at s912 eO eP12 eT12 ⊢
      refine ⟨P1, O, _, _, rfl, rfl, eP12, eO, ?_, fun C1 hC1 => ?_⟩
      · rw [List.length_take, List.length_map]
        exact Nat.le_trans (show _ + 1 ≤ 10000000 by omega) (by decide)
      have s13 := same_upd (o := .lst ((as.map V.ref).take r ++ [.ref T])) hC1
      have eC1 : upd H12 C1 (.lst ((as.map V.ref).take r ++ [.ref T])) C1 = some (.lst ((as.map V.ref).take r ++ [.ref T])) := upd_same
      have eT13 := s13 _ _ eT12
      have s913 := s912.trans s13
      generalize upd H12 C1 (.lst ((as.map V.ref).take r ++ [.ref T])) = H13 at s913 eC1 eT13 ⊢
      walk_at "rd"
      refine ⟨_, rfl, ?_⟩
      walk_at "rd"
      refine ⟨F, _, rfl, SqL.of (s913 _ _ eF9), fun P2 hP2 => ?_⟩
      rw [cutV_hi]
      have s14 := same_upd (o := .lst ((as.map V.ref).drop r)) hP2
      have eP2 : upd H13 P2 (.lst ((as.map V.ref).drop r)) P2 = some (.lst ((as.map V.ref).drop r)) := upd_same
      have eC14 := s14 _ _ eC1
      have eT14 := s14 _ _ eT13
      have s914 := s913.trans s14
      generalize upd H13 P2 (.lst ((as.map V.ref).drop r)) = H14 at s914 eP2 eC14 eT14 ⊢
      refine ⟨C1, P2, _, _, rfl, rfl, eC14, eP2, ?_, fun F2 hF2 => ?_⟩
      · rw [List.length_append, List.length_take, List.length_drop, List.length_map]
        exact Nat.le_trans (show _ ≤ 10000000 by simp only [List.length_singleton]; omega) (by decide)
      have s15 := same_upd (o := .lst (((as.map V.ref).take r ++ [.ref T]) ++ (as.map V.ref).drop r)) hF2
      have nF2 := (hR9.same s914).fresh hF2
      have s915 := s914.trans s15
      have eF2 : upd H14 F2 (.lst (((as.map V.ref).take r ++ [.ref T]) ++ (as.map V.ref).drop r)) F2 = some (.lst (((as.take r ++ [T]) ++ as.drop r).map V.ref)) := by
        rw [upd_same, List.map_append, List.map_append, List.map_take, List.map_drop] <;> rfl
      have eT15 := s15 _ _ eT14
      generalize upd H14 F2 (.lst (((as.map V.ref).take r ++ [.ref T]) ++ (as.map V.ref).drop r)) = H15 at s915 eF2 eT15 ⊢
      walk_at "rd"
      have ha15 : All2 (fun q ws => (q ≠ a ∧ q ≠ b) ∧ H15 q = some (.lst (strL ws))) as lines := ha9.imp fun q ws h => ⟨h.1, s915 _ _ h.2⟩
      have hone : All2 (fun q ws => (q ≠ a ∧ q ≠ b) ∧ H15 q = some (.lst (strL ws))) [T] [[nmAt ns i]] := .cons ⟨nT, eT15⟩ .nil
      refine k _ _ ⟨y5, y6, y7, y8, some (.int ((i : Nat) : Int)), some (.int ((r : Nat) : Int)), F2, (as.take r ++ [T]) ++ as.drop r, (lines.take r ++ [[nmAt ns i]]) ++ lines.drop r, rfl, k69.trans (RK.of s915), hR9.same s915, hA9.same s915, s915 _ _ eU9, nF2, eF2, ((ha15.take r).append hone).append (ha15.drop r), ?_, ?_, ?_⟩
      · rw [List.length_append, List.length_append, List.length_take, List.length_drop, List.length_singleton]
        omega
      · intro ws hws
        rcases List.mem_append.mp hws with h | h
        · rcases List.mem_append.mp h with h | h
          · exact hlo ws (List.mem_of_mem_take h)
          · rw [List.mem_singleton.mp h]
            refine ⟨(show 1 ≤ 4 by decide), fun m hm => ?_⟩
            rw [List.mem_singleton.mp hm]
            exact ⟨(nmAt_name hn hi).mark, Nat.le_trans (nm_le hn hi) (by decide)⟩
        · exact hlo ws (List.mem_of_mem_drop h)
      · have e : costM ((lines.take r ++ [[nmAt ns i]]) ++ lines.drop r) = costM lines + 2 := by
          rw [costM_append, costM_append, costM_one]
          have := costM_append (lines.take r) (lines.drop r)
          rw [List.take_append_drop] at this
          rw [this]
          show _ + (1 + 1) + _ = _
          omega
        rw [e]
        omega
  · rintro σ H6 ⟨y5, y6, y7, y8, y9, y10, F, as, lines, rfl, k6, hR6, hA6, eU6, nF, eF6, ha6, hll, hlo, hc⟩
    walk_at "rd"
    refine q H6 F lines k6 hR6 ⟨nF, as, eF6, ha6⟩ (by omega) (fun ws hws => ⟨Nat.le_trans (hlo ws hws).1 (by decide), (hlo ws hws).2⟩) ?_
    rw [cost_tabR]
    exact hc
end
end K07

set_option maxRecDepth 100000
set_option maxHeartbeats 4000000
namespace K07
open PySem PySem.Spec PyProof.Rows L2
local macro_rules | `(tactic| walk_at "rd") => `(tactic| repeat (first
  | with_reducible refine r_seq ?_ | with_reducible refine r_asg ?_ | with_reducible refine r_name ?_ | with_reducible refine r_ret ?_ | with_reducible refine r_drop ?_ | with_reducible refine r_if ?_ | with_reducible refine r_nx ?_
  | with_reducible refine r_c ?_ | with_reducible refine r_op ?_ | with_reducible refine r_un ?_ | with_reducible refine r_cons ?_ | with_reducible refine r_nil ?_ | with_reducible refine r_test ?_ | with_reducible refine r_B ?_
  | with_reducible refine r_and ?_ | with_reducible refine r_or ?_ | with_reducible refine r_not ?_ | with_reducible refine r_andV ?_ | with_reducible refine r_orV ?_ | with_reducible refine r_notV ?_ | with_reducible refine r_tif ?_
  | with_reducible refine r_chain ?_ | with_reducible refine r_tyes ?_ | with_reducible refine r_lc ?_ | with_reducible refine r_rng1 ?_ | with_reducible refine r_itup ?_ | with_reducible refine r_ilist ?_ | with_reducible refine r_ienum ?_ | with_reducible refine r_istr ?_
  | with_reducible refine r_tup ?_ | with_reducible refine r_lst ?_ | with_reducible refine r_tfld ?_ | with_reducible refine r_gcons ?_ | with_reducible refine r_gnil ?_ | with_reducible refine r_gfld ?_ | with_reducible refine r_for ?_ | with_reducible refine r_sfld ?_ | with_reducible refine r_call ?_ | with_reducible refine r_cb ?_ | with_reducible refine r_sl ?_ | with_reducible refine r_np ?_ | with_reducible refine r_pt ?_ | with_reducible refine r_m1 ?_ | with_reducible refine r_par ?_ | with_reducible refine r_p2 ?_ | with_reducible refine r_u ?_ | with_reducible refine r_meth ?_ | with_reducible refine r_make ?_ | with_reducible refine r_gsub ?_ | with_reducible refine r_bm ?_ | with_reducible refine r_bm0 ?_ | with_reducible refine r_j0 ?_ | with_reducible refine r_jF ?_ | with_reducible refine r_jN ?_ | with_reducible refine r_bl ?_ | with_reducible refine r_i0 ?_ | with_reducible refine tt_ite ?_ | with_reducible refine ff_ite ?_ | with_reducible refine nt_ite ?_ | with_reducible refine nf_ite ?_
  | with_reducible refine r_var (by with_unfolding_all exact rfl) ?_))
def prM (ns : List Cs) (p : Pr) : List Cs := [nmAt ns p.1] ++ intM p.2
theorem prM_row (ns : List Cs) : ∀ ps : List Pr, rowM (dayRow ns ps) = ps.flatMap (prM ns)
  | [] => rfl
  | p :: ps => by
    have := prM_row ns ps
    unfold rowM dayRow at this ⊢
    rw [List.flatMap_cons, List.flatMap_append, this, List.flatMap_cons]
    show (nmAt ns p.1 :: (intM p.2 ++ [])) ++ _ = _
    rw [List.append_nil] <;> rfl
theorem flatMap_len_perm {α β : Type} (f : α → List β) {l l' : List α} (h : l'.Perm l) : (l'.flatMap f).length = (l.flatMap f).length := by
  rw [List.length_flatMap, List.length_flatMap]
  exact (h.map _).sum_nat
theorem prM_ok {ns : List Cs} (hn : NamesOk ns) {p : Pr} (h : PrOk ns.length p) : (prM ns p).length ≤ 3 ∧ LineOk (prM ns p) := by
  obtain ⟨a, b⟩ := intM_ok p.2 h.2
  refine ⟨?_, fun m hm => ?_⟩
  · unfold prM
    rw [List.length_append]
    show 1 + _ ≤ 3
    omega
  · rcases List.mem_append.mp hm with h' | h'
    · rw [List.mem_singleton.mp h']
      exact ⟨(nmAt_name hn h.1).mark, Nat.le_trans (nm_le hn h.1) (by decide)⟩
    · exact b m h'
theorem prs_len {ns : List Cs} (hn : NamesOk ns) : ∀ {ps : List Pr}, (∀ p ∈ ps, PrOk ns.length p) → (ps.flatMap (prM ns)).length ≤ 3 * ps.length
  | [], _ => Nat.zero_le _
  | p :: ps, h => by
    rw [List.flatMap_cons, List.length_append, List.length_cons]
    have := prs_len hn fun q hq => h q (List.mem_cons_of_mem _ hq)
    have := (prM_ok hn (h p List.mem_cons_self)).1
    omega
theorem prs_ok {ns : List Cs} (hn : NamesOk ns) {ps : List Pr} (h : ∀ p ∈ ps, PrOk ns.length p) : LineOk (ps.flatMap (prM ns)) := fun m hm => by
  obtain ⟨p, hp, hm⟩ := List.mem_flatMap.mp hm
  exact (prM_ok hn (h p hp)).2 m hm
section
variable {P : Program} {w : World} {K : PySem.W.Frag} {mg : Str → Option Value} {base : Heap}
def spDayLines : Sp := fun vs H Q _ => ∃ (a b A B : Addr) (ns : List Cs) (d : List (List Pr)), vs = [.ref a, .ref A, .ref B] ∧ Rng H a b ∧ TupAt H A (strL ns) ∧ DayAt H B d ∧ NamesOk ns ∧ d.length ≤ 12 ∧ (∀ ps ∈ d, ps.length ≤ 12 ∧ ∀ p ∈ ps, PrOk ns.length p) ∧
  ∀ (H' : Hp) (p : Addr) (lines : List (List Cs)), RK a b H H' → Rng H' a b → LinesAt H' a b p lines → lines.length ≤ 80 → (∀ ws ∈ lines, ws.length ≤ 40 ∧ LineOk ws) → costM ((d.map (dayRow ns)).map rowM) ≤ costM lines → Q (.ref p) H'
theorem cal_law_day_lines (W : Wd K mg) : C8.Cal P w K mg base 4 "_law_day_lines" spDayLines [] := by
  refine mk_law_day_lines W (fun vs H Q E h => ?_) fun cdv A outer s H vs Q E hr h => ?_
  · obtain ⟨a, b, A, B, ns, d, rfl, _⟩ := h
    rfl
  obtain ⟨a, b, A, B, ns, d, rfl, hR, hA, hB, hn, hdl, hd, q⟩ := h
  refine ⟨_, (pss_cons (ps_set (i := 3) sc_law_day_lines.nd rfl (.inl rfl) (pe_lst pa_nil))
    (pss_cons (ps_for PassesOwn.never rfl (piT (K := K) rfl (pv 2)) (pg_name (i := 4) sc_law_day_lines.nd rfl (Or.inl rfl))
    (pss_cons (ps_set (i := 5) sc_law_day_lines.nd rfl (.inl rfl) (pe_lst pa_nil))
    (pss_cons (ps_for PassesOwn.never rfl (piL (K := K) rfl (C8.pe_c (cal_law_mixed W) hr (by decide) rfl (pa_cons (pv 0) (pa_cons (pe_callTy (crLs (K := K)) rfl W.z_list (by decide +kernel) (pa_cons (pv 4) pa_nil)) pa_nil)))) (pgT (K := K) (n := 2) rfl rfl (pgs_cons (pg_name (i := 6) sc_law_day_lines.nd rfl (Or.inl rfl)) (pgs_cons (pg_name (i := 7) sc_law_day_lines.nd rfl (Or.inl rfl)) pgs_nil)))
    (pss_one (ps_set (i := 5) sc_law_day_lines.nd rfl (.inl rfl) (pe_op op_cat (pe_op op_cat (pv 5) (pe_lst (pa_cons (pe_ix (ixT (K := K)) (pv 1) (pv 6) (fun _ _ => rfl)) pa_nil))) (C8.pe_c (cal_law_integer_marks W) hr (by decide) rfl (pa_cons (pv 7) pa_nil))))))
    (pss_one (ps_expr (pe_bm PySem.F.plainAttrs_list PySem.F.slot_list_append PySem.F.type_list_append mt_append (pv 3) (pa_cons (pv 5) pa_nil)))))))
    (pss_one (ps_ret (pv 3))))), ?_⟩
  obtain ⟨as0, hB0, h2⟩ := id hB
  walk_at "rd"
  refine ⟨small (by decide), fun F hF => ?_⟩
  have nF := hR.fresh hF
  have s1 := same_upd (o := .lst []) hF
  have eF : upd H F (.lst []) F = some (.lst []) := upd_same
  generalize upd H F (.lst []) = H1 at s1 eF ⊢
  walk_at "rd"
  refine ⟨B, rfl, ⟨_, (hB0.same s1).sq⟩, ?_⟩
  refine for_w (walk_tup (xs := as0.map V.ref)) (fun i σ H' => (∃ y4 y5 y6 y7, σ = [some (.ref a), some (.ref A), some (.ref B), some (.ref F), y4, y5, y6, y7]) ∧ RK a b H H' ∧ Rng H' a b ∧ TSame H H' ∧
    ∃ (as : List Addr) (lines : List (List Cs)), H' F = some (.lst (as.map V.ref)) ∧ All2 (fun q ws => q ≠ F ∧ (q ≠ a ∧ q ≠ b) ∧ H' q = some (.lst (strL ws))) as lines ∧ lines.length = i ∧ (∀ ws ∈ lines, ws.length ≤ 40 ∧ LineOk ws) ∧ costM lines = costM (((d.take i).map (dayRow ns)).map rowM))
    ⟨⟨_, _, _, _, rfl⟩, RK.of s1, hR.same s1, Same.ts s1, [], [], eF, .nil, rfl, fun ws h => (by cases h), rfl⟩ (fun i σ H' _ p => (p.2.2.2.1 _ _ hB0).sq) ?_ ?_
  · rintro i v σ H2 H3 N hi ⟨⟨y4, y5, y6, y7, rfl⟩, k2, hR2, t2, as, lines, e2, ha2, hll, hlo, hc⟩ ⟨rfl, ev⟩ k
    obtain ⟨B1, ps, rfl, ex, qs, hq1, hq2⟩ := h2.at i v ev
    obtain ⟨hp12, hpok⟩ := hd ps (List.mem_of_getElem? ex)
    have hi12 : i < 12 := by
      have := (List.getElem?_eq_some_iff.mp ex).1
      omega
    walk_at "rd"
    refine ⟨small (by decide), fun R0 hR0 => ?_⟩
    have s3 := same_upd (o := .lst []) hR0
    have eR0 : upd H3 R0 (.lst []) R0 = some (.lst []) := upd_same
    have nR0 := hR2.fresh hR0
    have RF0 : R0 ≠ F := (ne_none e2 hR0).symm
    generalize upd H3 R0 (.lst []) = H4 at s3 eR0 ⊢
    walk_at "rd"
    have t4 := t2.trans (Same.ts s3)
    refine ⟨B1, _, rfl, .inr (t4 _ _ hq1).sq, fun L hL => ?_⟩
    have s5 := same_upd (o := .lst (qs.map V.ref)) hL
    have hR5 := hR2.same (s3.trans s5)
    walk_at "rd"
    refine ⟨a, b, L, _, rfl, hR5, upd_same, (hR2.same s3).fresh hL, by rw [List.length_map, hq2.length]; omega, fun H6 p ys k6 hR6 hp5 ep hys => ?_⟩
    obtain ⟨qs', hqp, rfl⟩ := perm_map_inv _ hys rfl
    obtain ⟨ps', hpp, hq'⟩ := all2_perm hqp hq2
    have np := hR5.fresh hp5
    have k36 := (RK.of (a := a) (b := b) (s3.trans s5)).trans k6
    have t6 := t2.trans (RK.tsame hR2 k36)
    have e6 := k36.at e2 nF
    have eR6 := k6.at (s5 _ _ eR0) nR0
    have ha6 : All2 (fun q ws => q ≠ F ∧ (q ≠ a ∧ q ≠ b) ∧ H6 q = some (.lst (strL ws))) as lines := ha2.imp fun q ws h => ⟨h.1, h.2.1, k36.at h.2.2 h.2.1⟩
    have k26 := k2.trans k36
    have hpok' : ∀ p ∈ ps', PrOk ns.length p := fun p hp => hpok p (hpp.mem_iff.mp hp)
    have lp' : ps'.length ≤ 12 := by rw [hpp.length_eq]; exact hp12
    refine ⟨p, rfl, ⟨_, SqL.of ep⟩, ?_⟩
    refine for_w (walk_list (xs := qs'.map V.ref)) (fun j σ H' => ∃ (y6 y7 : Option V) (R1 : Addr), σ = [some (.ref a), some (.ref A), some (.ref B), some (.ref F), some (.ref B1), some (.ref R1), y6, y7] ∧ Same H6 H' ∧ (R1 ≠ F ∧ R1 ≠ a ∧ R1 ≠ b) ∧ H' R1 = some (.lst (strL ((ps'.take j).flatMap (prM ns)))))
      ⟨_, _, R0, rfl, Same.refl _, ⟨RF0, nR0⟩, eR6⟩ (fun j σ H' _ h => ?_) ?_ ?_
    · obtain ⟨_, _, _, _, s7, _⟩ := h
      exact SqL.of (s7 _ _ ep)
    · rintro j v σ H7 H8 N2 hj ⟨y6, y7, R1, rfl, s7, nR1, eR1⟩ ⟨rfl, ev⟩ k'
      obtain ⟨q0, pr, rfl, epr, hq0⟩ := hq'.at j v ev
      have hprm := List.mem_of_getElem? epr
      have hok := hpok' pr hprm
      have t8 := t6.trans (Same.ts s7)
      refine r_gtup (xs := [.int pr.1, .int pr.2]) (t8 _ _ hq0).sq rfl ?_
      walk_at "rd"
      refine r_ixT (t8 _ _ hA).sq (at_nm hok.1) ?_
      walk_at "rd"
      refine ⟨small (show 1 ≤ 100 by decide), fun L1 hL1 => ?_⟩
      have s9 := same_upd (o := .lst [.str (SX.S (nmAt ns pr.1))]) hL1
      have lt := prs_len hn (ps := ps'.take j) fun p hp => hpok' p (List.mem_of_mem_take hp)
      rw [List.length_take] at lt
      refine ⟨R1, L1, _, _, rfl, rfl, s9 _ _ eR1, upd_same, ?_, fun C1 hC1 => ?_⟩
      · rw [List.length_map]
        exact small (show _ + 1 ≤ 100 by omega)
      have s10 := same_upd (o := .lst (strL ((ps'.take j).flatMap (prM ns)) ++ [.str (SX.S (nmAt ns pr.1))])) hC1
      have s910 := s9.trans s10
      have eC1 : upd (upd H8 L1 (.lst [.str (SX.S (nmAt ns pr.1))])) C1 (.lst (strL ((ps'.take j).flatMap (prM ns)) ++ [.str (SX.S (nmAt ns pr.1))])) C1 = _ := upd_same
      generalize upd (upd H8 L1 (.lst [.str (SX.S (nmAt ns pr.1))])) C1 (.lst (strL ((ps'.take j).flatMap (prM ns)) ++ [.str (SX.S (nmAt ns pr.1))])) = H10 at s910 eC1 ⊢
      walk_at "rd"
      refine ⟨pr.2, rfl, hok.2, fun H11 M s11 hM eM => ?_⟩
      have lm := (intM_ok pr.2 hok.2).1
      have eC11 := s11 _ _ eC1
      refine ⟨C1, M, _, _, rfl, rfl, eC11, eM, ?_, fun R2 hR2' => ?_⟩
      · rw [List.length_append, List.length_map, List.length_map]
        exact small (show _ + 1 + _ ≤ 100 by omega)
      have s12 := same_upd (o := .lst ((strL ((ps'.take j).flatMap (prM ns)) ++ [.str (SX.S (nmAt ns pr.1))]) ++ strL (intM pr.2))) hR2'
      have sA := s910.trans s11
      have nR2 := (hR6.same (s7.trans sA)).fresh hR2'
      have R2F : R2 ≠ F := (ne_none (sA _ _ (s7 _ _ e6)) hR2').symm
      walk_at "rd"
      refine k' _ _ ⟨some (.int (pr.1 : Nat)), some (.int pr.2), R2, rfl, s7.trans (sA.trans s12), ⟨R2F, nR2⟩, ?_⟩
      rw [upd_same, List.take_succ, epr, show (some pr).toList = [pr] from rfl, List.flatMap_append, List.flatMap_cons, List.flatMap_nil, List.append_nil]
      unfold prM
      rw [strL, strL, strL, List.map_append, List.map_append, List.append_assoc] <;> rfl
    · rintro σ H7 ⟨y6, y7, R1, rfl, s7, nR1, eR1⟩
      rw [List.take_of_length_le (by rw [List.length_map, hq'.length]; omega)] at eR1
      have e7 := s7 _ _ e6
      have lal := ha6.length
      have hlen : (ps'.flatMap (prM ns)).length = (ps.flatMap (prM ns)).length := flatMap_len_perm _ hpp
      have hl36 := prs_len hn hpok'
      walk_at "rd"
      refine r_tyL e7 ?_
      walk_at "rd"
      refine r_app e7 (by rw [List.length_map]; omega) (k _ _ ⟨⟨_, _, _, _, rfl⟩, RK.set hF (k26.trans (RK.of s7)), (hR6.same s7).upd nF, t6.trans ((Same.ts s7).trans (upd_lst_ts e7)), as ++ [R1], lines ++ [ps'.flatMap (prM ns)], by rw [upd_same, List.map_append] <;> rfl, ?_, by rw [List.length_append, hll] <;> rfl, ?_, ?_⟩)
      · exact (ha6.imp fun q ws h => ⟨h.1, h.2.1, (upd_ne h.1).trans (s7 _ _ h.2.2)⟩).snoc ⟨nR1.1, nR1.2, (upd_ne nR1.1).trans eR1⟩
      · intro ws hws
        rcases List.mem_append.mp hws with h | h
        · exact hlo ws h
        · rw [List.mem_singleton.mp h]
          exact ⟨by omega, prs_ok hn hpok'⟩
      · rw [costM_append, costM_one, hc, List.take_succ, ex, show (some ps).toList = [ps] from rfl, List.map_append, List.map_append, costM_append, hlen]
        show _ = _ + costM [rowM (dayRow ns ps)]
        rw [costM_one, prM_row]
  · rintro σ H2 ⟨⟨y4, y5, y6, y7, rfl⟩, k2, hR2, t2, as, lines, e2, ha2, hll, hlo, hc⟩
    walk_at "rd"
    rw [List.length_map, h2.length] at hll hc
    rw [List.take_length] at hc
    refine q H2 F lines k2 hR2 ⟨nF, as, e2, ha2.imp fun q ws h => h.2⟩ (by omega) hlo (Nat.le_of_eq hc.symm)
end
end K07

set_option maxRecDepth 100000
set_option maxHeartbeats 4000000
namespace K07
open PySem PySem.Spec PyProof.Rows L2
local macro_rules | `(tactic| walk_at "rd") => `(tactic| repeat (first
  | with_reducible refine r_seq ?_ | with_reducible refine r_asg ?_ | with_reducible refine r_name ?_ | with_reducible refine r_ret ?_ | with_reducible refine r_drop ?_ | with_reducible refine r_if ?_ | with_reducible refine r_nx ?_
  | with_reducible refine r_c ?_ | with_reducible refine r_op ?_ | with_reducible refine r_un ?_ | with_reducible refine r_cons ?_ | with_reducible refine r_nil ?_ | with_reducible refine r_test ?_ | with_reducible refine r_B ?_
  | with_reducible refine r_and ?_ | with_reducible refine r_or ?_ | with_reducible refine r_not ?_ | with_reducible refine r_andV ?_ | with_reducible refine r_orV ?_ | with_reducible refine r_notV ?_ | with_reducible refine r_tif ?_
  | with_reducible refine r_chain ?_ | with_reducible refine r_tyes ?_ | with_reducible refine r_lc ?_ | with_reducible refine r_rng1 ?_ | with_reducible refine r_itup ?_ | with_reducible refine r_ilist ?_ | with_reducible refine r_ienum ?_ | with_reducible refine r_istr ?_
  | with_reducible refine r_tup ?_ | with_reducible refine r_lst ?_ | with_reducible refine r_tfld ?_ | with_reducible refine r_gcons ?_ | with_reducible refine r_gnil ?_ | with_reducible refine r_gfld ?_ | with_reducible refine r_for ?_ | with_reducible refine r_sfld ?_ | with_reducible refine r_call ?_ | with_reducible refine r_cb ?_ | with_reducible refine r_sl ?_ | with_reducible refine r_np ?_ | with_reducible refine r_pt ?_ | with_reducible refine r_m1 ?_ | with_reducible refine r_par ?_ | with_reducible refine r_p2 ?_ | with_reducible refine r_u ?_ | with_reducible refine r_meth ?_ | with_reducible refine r_make ?_ | with_reducible refine r_gsub ?_ | with_reducible refine r_bm ?_ | with_reducible refine r_bm0 ?_ | with_reducible refine r_j0 ?_ | with_reducible refine r_jF ?_ | with_reducible refine r_jN ?_ | with_reducible refine r_bl ?_ | with_reducible refine r_i0 ?_ | with_reducible refine tt_ite ?_ | with_reducible refine ff_ite ?_ | with_reducible refine nt_ite ?_ | with_reducible refine nf_ite ?_
  | with_reducible refine r_var (by with_unfolding_all exact rfl) ?_))
/-! ### calls by keywords, defs under guards -/
def swap2 {α : Type} : List α → List α
  | [a, b] => [b, a]
  | l => l
theorem swap2_vals {zs : List V} {ws : List Value} (h : Vals zs ws) : Vals (swap2 zs) (swap2 ws) := by
  cases h with
  | nil => exact .nil
  | cons r1 t =>
    cases t with
    | nil => exact .cons r1 .nil
    | cons r2 t2 =>
      cases t2 with
      | nil => exact .cons r2 (.cons r1 .nil)
      | cons r3 t3 => exact .cons r1 (.cons r2 (.cons r3 t3))
def same1 {α : Type} (l : List α) : List α := l
structure KCal (P : Program) (w : World) (K : PySem.W.Frag) (mg : Str → Option Value) (base : Heap) (k : Nat) (x : Str) (sp : Sp) (ks : List Str) (g : {α : Type} → List α → List α) : Prop where
  ex : ∃ (f : Addr) (fd : FuncData) (ps : List Str), FnOk P w K mg base CX0 k f fd ps sp ∧ mg x = some (.ref f) ∧ PySem.W.keepIn K (.ref f) = true ∧ KwOnly fd ps ks g
section
variable {X : Cx} {k j : Nat} {x : Str} {sp : Sp} {p pos : Pos} {kws : List Keyword} {tk : TA} {ks : List Str}
theorem pe_kw {g : {α : Type} → List α → List α} (c : KCal X.prog X.w X.K X.mg X.base k x sp ks g) (hr : Room j X.A) (hk : k ≤ j) (hg : Gl X x)
    (hkw : PK X kws tk) (hall : (backToKw pos (keywordEach kws X.env)).all (·.1.isSome) = true := by rfl) (hks : (backToKw pos (keywordEach kws X.env)).filterMap (·.1) = ks := by rfl) (hdb : (x == ("__debug__" : Str)) = false := by decide)
    (hpl : ((backTo pos (starEach [] X.env)).any (·.1) || (backToKw pos (keywordEach kws X.env)).any (·.1.isNone)) = false := by rfl) : PE X (.Call (.Name x p) [] kws pos) (tCallKw sp ks.length g C8.E0 tk) := by
  obtain ⟨f, fd, ps, F, hm, kp, b⟩ := c.ex
  exact pe_callKw F (hr.mono hk) hg hm kp b pass0 hkw hall hks hdb hpl
end
structure CalG (P : Program) (w : World) (K : PySem.W.Frag) (mg : Str → Option Value) (base : Heap) (k : Nat) (x : Str) (sp : Sp) : Prop where
  ex : ∃ (f : Addr) (fd : FuncData) (ps : List Str), FnG P w K mg base k f fd ps sp ∧ mg x = some (.ref f) ∧ PySem.W.keepIn K (.ref f) = true ∧ Binds K fd ps []
section
variable {X : Cx} {k j : Nat} {x : Str} {sp : Sp} {p pos : Pos} {e : Expr} {es : List Expr} {t : TA}
theorem pe_calG (c : CalG X.prog X.w X.K X.mg X.base k x sp) (hgd : X.A.guards = some []) (hr : Room j X.A) (hk : k ≤ j) (hg : Gl X x)
    (ha : PA X (e :: es) t) (hdb : (x == ("__debug__" : Str)) = false := by decide) (he : starEach (e :: es) X.env = (false, eval e X.env) :: starEach es X.env := by rfl) (hpl : (backTo pos (starEach es X.env)).any (·.1) = false := by rfl) :
    PE X (.Call (.Name x p) (e :: es) [] pos) (tCall sp [] E0 t) := by
  obtain ⟨f, fd, ps, F, hm, kp, b⟩ := c.ex
  exact pe_callG F hgd (hr.mono hk) hg hm kp b ha hdb he hpl
end
/-- a guarded def's body keeps sp -/
def BodyG (P : Program) (w : World) (K : PySem.W.Frag) (mg : Str → Option Value) (base : Heap) (N : List Str) (qual : Str) (st : Stmt) (f : Addr) (k : Nat) (sp : Sp) : Prop :=
  ∀ (cdv : Value) (A : Around) (outer : List Env) (s : Shared) (H : Hp) (vs : List V) (Q : VK) (E : XK), A.guards = some [] → Room k (A.deeper (envOfC qual (defScope st) s.heap.objs.size f cdv)) → sp vs H Q E →
    ∃ t, PSs (cxOf CX0 P w K mg base N qual (defScope st) f cdv A outer s H E).nox (defBody st) t ∧ t { nx := fun _ H' => Q .non H', rt := Q } (start N vs) H
section
variable {P : Program} {w : World} {K : PySem.W.Frag} {mg : Str → Option Value} {base : Heap}
theorem bodyG_ok {x qual : Str} {st : Stmt} {at_ : Str × Option Str} {fd : FuncData} {N ps : List Str} {k n : Nat} {sp : Sp} (F : FD K x qual st at_ fd) (S : FnScope N ps (defScope st)) (len : Len n sp) (h : BodyG P w K mg base N qual st (He.fAd K at_) k sp)
    (hn : ps.length = n := by rfl) : FnG P w K mg base (k + 1) (He.fAd K at_) fd ps sp := by
  refine FnG.of F S (fun vs H Q E z => (len vs H Q E z).trans hn.symm) fun cdv A outer s H vs Q E hgd hr hsp => ?_
  obtain ⟨t, h1, h2⟩ := h cdv A outer s H vs Q E hgd hr hsp
  exact ⟨t, h1.nox, h2⟩
theorem kcal_show_table (W : Wd K mg) : KCal P w K mg base 2 "show_table" (spShowTable K) ["table"] same1 := by
  obtain ⟨fd, F⟩ := W.says.f_show_table
  refine ⟨_, fd, ["table"], body_ok F sc_show_table (bd_show_table (P := P) (w := w) (base := base) W).1 (bd_show_table (P := P) (w := w) (base := base) W).2, W.g_show_table, F.kp, ⟨fun s ws hl => ?_, fun r => r⟩⟩
  obtain ⟨oc, od, dV, kV, doc, pm, an, cdv, ct, osl, rfl, lk, hcd, hD, hK⟩ := F.ex
  rcases hD with ⟨_, rfl⟩ | ⟨e, _⟩
  · exact .of_eq (match ws, hl with | [_], _ => rfl)
  · exact absurd rfl e
theorem kcal_show_batches (W : Wd K mg) : KCal P w K mg base 2 "show_batches" (spShowBatches K) ["batches"] same1 := by
  obtain ⟨fd, F⟩ := W.says.f_show_batches
  refine ⟨_, fd, ["batches"], body_ok F sc_show_batches (bd_show_batches (P := P) (w := w) (base := base) W).1 (bd_show_batches (P := P) (w := w) (base := base) W).2, W.g_show_batches, F.kp, ⟨fun s ws hl => ?_, fun r => r⟩⟩
  obtain ⟨oc, od, dV, kV, doc, pm, an, cdv, ct, osl, rfl, lk, hcd, hD, hK⟩ := F.ex
  rcases hD with ⟨_, rfl⟩ | ⟨e, _⟩
  · exact .of_eq (match ws, hl with | [_], _ => rfl)
  · exact absurd rfl e
theorem kcal_show_times (W : Wd K mg) : KCal P w K mg base 2 "show_times" (spShowTimes K) ["times", "table"] swap2 := by
  obtain ⟨fd, F⟩ := W.says.f_show_times
  refine ⟨_, fd, ["table", "times"], body_ok F sc_show_times (bd_show_times (P := P) (w := w) (base := base) W).1 (bd_show_times (P := P) (w := w) (base := base) W).2, W.g_show_times, F.kp, ⟨fun s ws hl => ?_, swap2_vals⟩⟩
  obtain ⟨oc, od, dV, kV, doc, pm, an, cdv, ct, osl, rfl, lk, hcd, hD, hK⟩ := F.ex
  rcases hD with ⟨_, rfl⟩ | ⟨e, _⟩
  · exact .of_eq (match ws, hl with | [_, _], _ => rfl)
  · exact absurd rfl e
theorem kcal_show_day (W : Wd K mg) : KCal P w K mg base 2 "show_day" (spShowDay K) ["day", "table"] swap2 := by
  obtain ⟨fd, F⟩ := W.says.f_show_day
  refine ⟨_, fd, ["table", "day"], body_ok F sc_show_day (bd_show_day (P := P) (w := w) (base := base) W).1 (bd_show_day (P := P) (w := w) (base := base) W).2, W.g_show_day, F.kp, ⟨fun s ws hl => ?_, swap2_vals⟩⟩
  obtain ⟨oc, od, dV, kV, doc, pm, an, cdv, ct, osl, rfl, lk, hcd, hD, hK⟩ := F.ex
  rcases hD with ⟨_, rfl⟩ | ⟨e, _⟩
  · exact .of_eq (match ws, hl with | [_, _], _ => rfl)
  · exact absurd rfl e
theorem kcal_show_lot (W : Wd K mg) : KCal P w K mg base 2 "show_lot" (spShowLot K) ["lot", "table"] swap2 := by
  obtain ⟨fd, F⟩ := W.says.f_show_lot
  refine ⟨_, fd, ["table", "lot"], body_ok F sc_show_lot (bd_show_lot (P := P) (w := w) (base := base) W).1 (bd_show_lot (P := P) (w := w) (base := base) W).2, W.g_show_lot, F.kp, ⟨fun s ws hl => ?_, swap2_vals⟩⟩
  obtain ⟨oc, od, dV, kV, doc, pm, an, cdv, ct, osl, rfl, lk, hcd, hD, hK⟩ := F.ex
  rcases hD with ⟨_, rfl⟩ | ⟨e, _⟩
  · exact .of_eq (match ws, hl with | [_, _], _ => rfl)
  · exact absurd rfl e
end
end K07

set_option maxRecDepth 100000
set_option maxHeartbeats 4000000
namespace K07
open PySem PySem.Spec PyProof.Rows L2
local macro_rules | `(tactic| walk_at "rd") => `(tactic| repeat (first
  | with_reducible refine r_seq ?_ | with_reducible refine r_asg ?_ | with_reducible refine r_name ?_ | with_reducible refine r_ret ?_ | with_reducible refine r_drop ?_ | with_reducible refine r_if ?_ | with_reducible refine r_nx ?_
  | with_reducible refine r_c ?_ | with_reducible refine r_op ?_ | with_reducible refine r_un ?_ | with_reducible refine r_cons ?_ | with_reducible refine r_nil ?_ | with_reducible refine r_test ?_ | with_reducible refine r_B ?_
  | with_reducible refine r_and ?_ | with_reducible refine r_or ?_ | with_reducible refine r_not ?_ | with_reducible refine r_andV ?_ | with_reducible refine r_orV ?_ | with_reducible refine r_notV ?_ | with_reducible refine r_tif ?_
  | with_reducible refine r_chain ?_ | with_reducible refine r_tyes ?_ | with_reducible refine r_lc ?_ | with_reducible refine r_rng1 ?_ | with_reducible refine r_itup ?_ | with_reducible refine r_ilist ?_ | with_reducible refine r_ienum ?_ | with_reducible refine r_istr ?_
  | with_reducible refine r_tup ?_ | with_reducible refine r_lst ?_ | with_reducible refine r_tfld ?_ | with_reducible refine r_gcons ?_ | with_reducible refine r_gnil ?_ | with_reducible refine r_gfld ?_ | with_reducible refine r_for ?_ | with_reducible refine r_sfld ?_ | with_reducible refine r_call ?_ | with_reducible refine r_cb ?_ | with_reducible refine r_sl ?_ | with_reducible refine r_np ?_ | with_reducible refine r_pt ?_ | with_reducible refine r_m1 ?_ | with_reducible refine r_par ?_ | with_reducible refine r_p2 ?_ | with_reducible refine r_u ?_ | with_reducible refine r_meth ?_ | with_reducible refine r_make ?_ | with_reducible refine r_gsub ?_ | with_reducible refine r_bm ?_ | with_reducible refine r_bm0 ?_ | with_reducible refine r_j0 ?_ | with_reducible refine r_jF ?_ | with_reducible refine r_jN ?_ | with_reducible refine r_bl ?_ | with_reducible refine r_i0 ?_ | with_reducible refine tt_ite ?_ | with_reducible refine ff_ite ?_ | with_reducible refine nt_ite ?_ | with_reducible refine nf_ite ?_
  | with_reducible refine r_var (by with_unfolding_all exact rfl) ?_))
/-! ### data that is shown -/
structure Fine (k W : Nat) (d : PyData) : Prop where
  lay : d.canLay0 = true
  shw : d.showable = true
  dep : d.depth ≤ k
  wt : d.weight ≤ W
  sht : d.intsShort 13 = true
theorem Fine.mono {k W k' W' : Nat} {d : PyData} (h : Fine k W d) (hk : k ≤ k') (hW : W ≤ W') : Fine k' W' d := ⟨h.lay, h.shw, Nat.le_trans h.dep hk, Nat.le_trans h.wt hW, h.sht⟩
theorem fine_none : Fine 0 0 .none := ⟨rfl, rfl, Nat.le_refl _, Nat.le_refl _, rfl⟩
theorem fine_int {i : Int} (h : i.natAbs ≤ 1000000000) : Fine 0 31 (.int i) := by
  refine ⟨rfl, ?_, Nat.le_refl _, ?_, ?_⟩
  · simp only [PyData.showable]
    exact decide_eq_true (log_le h)
  · simp only [PyData.weight]
    split
    · exact Nat.zero_le _
    · rename_i h0
      have h0 : i ≠ 0 := fun e => h0 (by rw [e] <;> rfl)
      have b := (Nat.log2_lt (k := 30) (show i.natAbs ≠ 0 by omega)).mpr (show i.natAbs < 2 ^ 30 by omega)
      omega
  · simp only [PyData.intsShort]
    exact decide_eq_true (PyData.shown_int_le (by omega))
theorem fine_str {x : Cs} (h : ∀ c ∈ x, c < 128) : Fine 0 x.length (.str (SX.S x)) := by
  refine ⟨?_, rfl, Nat.le_refl _, ?_, rfl⟩
  · simp only [PyData.canLay0]
    unfold PyData.strOk
    show x.toArray.all _ = true
    rw [List.all_toArray, List.all_eq_true]
    intro c hc
    have := h c hc
    exact decide_eq_true (by omega)
  · simp only [PyData.weight]
    show x.toArray.size ≤ _
    rw [List.size_toArray]
    exact Nat.le_refl _
theorem fine_all {k W : Nat} : ∀ {ds : List PyData}, (∀ d ∈ ds, Fine k W d) → PyData.canLayAll0 ds = true ∧ PyData.showableAll ds = true ∧ PyData.depthAll ds ≤ k ∧ PyData.weightAll ds ≤ ds.length * (W + 1) ∧ PyData.intsShortAll 13 ds = true
  | [], _ => ⟨rfl, rfl, Nat.zero_le _, Nat.zero_le _, rfl⟩
  | d :: ds, h => by
    obtain ⟨a1, a2, a3, a4, a5⟩ := h d List.mem_cons_self
    obtain ⟨b1, b2, b3, b4, b5⟩ := fine_all fun e he => h e (List.mem_cons_of_mem _ he)
    refine ⟨?_, ?_, ?_, ?_, ?_⟩
    · simp only [PyData.canLayAll0, a1, b1, Bool.and_self]
    · simp only [PyData.showableAll, a2, b2, Bool.and_self]
    · simp only [PyData.depthAll]
      exact Nat.max_le.mpr ⟨a3, b3⟩
    · simp only [PyData.weightAll]
      rw [List.length_cons, Nat.succ_mul]
      omega
    · simp only [PyData.intsShortAll, a5, b5, Bool.and_self]
theorem fine_tuple {k W n : Nat} {ds : List PyData} (h : ∀ d ∈ ds, Fine k W d) (hn : ds.length ≤ n) : Fine (k + 1) (n * (W + 1)) (.tuple ds) := by
  obtain ⟨b1, b2, b3, b4, b5⟩ := fine_all h
  refine ⟨?_, ?_, ?_, ?_, ?_⟩
  · simp only [PyData.canLay0, b1]
  · simp only [PyData.showable, b2]
  · simp only [PyData.depth]
    omega
  · simp only [PyData.weight]
    exact Nat.le_trans b4 (Nat.mul_le_mul_right _ hn)
  · simp only [PyData.intsShort, b5]
theorem Fine.shaped {k W : Nat} {d : PyData} (h : Fine k W d) (hk : k ≤ 20) : SeqAt.shaped d = true := by
  unfold SeqAt.shaped
  rw [Bool.and_eq_true]
  have := h.dep
  exact ⟨h.lay, decide_eq_true (by omega)⟩
section
variable {K : PySem.W.Frag} {H : Hp} {Q : VK} {x : V} {d : PyData} {k W : Nat}
theorem r_repr (hd : Dp K H x d) (f : Fine k W d) (hk : k ≤ 20) (hW : W ≤ 1000000) (hx : (∃ a, x = .ref a) ∨ ∃ z, x = .str z) (q : Q (.str d.shown) H) : rReprD K [x] H Q :=
  ⟨x, d, rfl, hd, f.shw, PyData.hasDict_of_canLay d f.lay, Nat.le_trans f.dep hk, PyData.shown_fits (B := 13) (by decide) (by decide) (PyData.leavesShort_of_canLay0 13 d f.lay f.sht) (Nat.le_trans f.wt (Nat.le_trans hW (by decide))), hx, q⟩
end
theorem mem_joinL {S : Cs} {c : Nat} : ∀ {l : List Cs}, c ∈ TL.joinL S l → c ∈ S ∨ ∃ x ∈ l, c ∈ x := fun {l} h => by
  cases l with
  | nil => cases h
  | cons x l =>
    rw [joinL_cons] at h
    rcases List.mem_append.mp h with h | h
    · exact .inr ⟨x, List.mem_cons_self, h⟩
    · obtain ⟨y, hy, h⟩ := List.mem_flatMap.mp h
      rcases List.mem_append.mp h with h | h
      · exact .inl h
      · exact .inr ⟨y, List.mem_cons_of_mem _ hy, h⟩
theorem word_chars {w : Word} (h : w.Ok) : ∀ c ∈ w.text, c < 128 := fun c hc => by
  cases w with
  | nm n =>
    have := h.2.2 c hc
    unfold IsL at this
    omega
  | it i =>
    have hc : c ∈ intL i := hc
    unfold intL at hc
    split at hc
    · rcases List.mem_cons.mp hc with rfl | hc
      · decide
      · have := numL_d _ c hc
        unfold IsD at this
        omega
    · have := numL_d _ c hc
      unfold IsD at this
      omega
theorem rowT_chars {r : List Word} (h : ∀ w ∈ r, w.Ok) : ∀ c ∈ rowT r, c < 128 := fun c hc => by
  rcases mem_joinL hc with h1 | ⟨x, hx, h1⟩
  · rw [List.mem_singleton.mp h1]
    decide
  · obtain ⟨w, hw, rfl⟩ := List.mem_map.mp hx
    exact word_chars (h w hw) c h1
theorem showR_chars {rs : List (List Word)} (h : ∀ r ∈ rs, ∀ w ∈ r, w.Ok) : ∀ c ∈ showR rs, c < 128 := fun c hc => by
  rcases mem_joinL hc with h1 | ⟨x, hx, h1⟩
  · rw [List.mem_singleton.mp h1]
    decide
  · obtain ⟨r, hr, rfl⟩ := List.mem_map.mp hx
    exact rowT_chars (h r hr) c h1
def tblD (ns : List Cs) (ts : List Tie) : PyData := .tuple [.tuple (ns.map fun n => .str (SX.S n)), .tuple (ts.map tieD)]
theorem fine_tie {many : Nat} {x : Tie} (hm : many ≤ 12) (h : TieOk many x) : Fine 1 (3 * 32) (tieD x) := by
  obtain ⟨h1, h2, h3, h4⟩ := h
  refine fine_tuple (k := 0) (W := 31) (fun d hd => ?_) (Nat.le_refl 3)
  rcases List.mem_cons.mp hd with rfl | hd
  · exact fine_int (by omega)
  · rcases List.mem_cons.mp hd with rfl | hd
    · exact fine_int (by omega)
    · rw [List.mem_singleton.mp hd]
      exact fine_int (by omega)
theorem fine_tbl {ns : List Cs} {ts : List Tie} (hn : NamesOk ns) (ht : TiesOk ns.length ts) : Fine 3 100000 (tblD ns ts) := by
  have key : Fine 3 (2 * (10000 + 1)) (tblD ns ts) := by
    refine fine_tuple (k := 2) (W := 10000) (n := 2) (fun d hd => ?_) (Nat.le_refl 2)
    rcases List.mem_cons.mp hd with rfl | hd
    · refine (fine_tuple (k := 0) (W := 6) (n := 12) (fun d hd => ?_) (by rw [List.length_map]; exact hn.2.1)).mono (by decide) (by decide)
      obtain ⟨n, hn', rfl⟩ := List.mem_map.mp hd
      obtain ⟨a, b, c⟩ := hn.2.2.1 n hn'
      exact (fine_str fun d hd => by have := c d hd; unfold IsL at this; omega).mono (Nat.le_refl _) b
    · rw [List.mem_singleton.mp hd]
      refine (fine_tuple (k := 1) (W := 3 * 32) (n := 60) (fun d hd => ?_) (by rw [List.length_map]; exact ht.1)).mono (by decide) (by decide)
      obtain ⟨x, hx, rfl⟩ := List.mem_map.mp hd
      exact fine_tie hn.2.1 (ht.2 x hx)
  exact key.mono (Nat.le_refl _) (by decide)
theorem dp_tbl {K : PySem.W.Frag} {H : Hp} {T A B : Addr} {ns : List Cs} {ts : List Tie} (hT : TupAt H T [.ref A, .ref B]) (hA : TupAt H A (strL ns)) (hB : TiesAt H B ts) : Dp K H (.ref T) (tblD ns ts) := by
  obtain ⟨as, h1, h2⟩ := hB
  exact .tup hT.sq (.cons (.tup hA.sq (dpAll_strs ns)) (.cons (.tup h1.sq (dpAll_all2 (fun q x h => dp_tie h) h2)) .nil))
section
variable {K : PySem.W.Frag} {σ : L2.St} {H : Hp} {Q : VK} {n : Nat} {sp : Sp} {g : {α : Type} → List α → List α} {E : XK} {tk : TA}
theorem r_kw (h : tk σ H fun zs H1 => zs.length = n ∧ sp (g zs) H1 Q E) : tCallKw sp n g E tk σ H Q := h
end
/-! ### a table shown, read, told again -/
section
variable {P : Program} {w : World} {K : PySem.W.Frag} {mg : Str → Option Value} {base : Heap}
def spTableShown : Sp := fun vs H Q _ => ∃ (a b A B : Addr) (o : Obj) (ns : List Cs) (ts : List Tie), vs = [.ref a, .ref A, .ref B] ∧ Rng H a b ∧ H A = some (.frz o (.tup (strL ns))) ∧ TiesAt H B ts ∧ NamesOk ns ∧ TiesOk ns.length ts ∧
  ∀ (H' : Hp), RK a b H H' → Rng H' a b → Q (.bl true) H'
theorem mkG_law_table_shown (W : Wd K mg) {k : Nat} {sp : Sp} (len : Len 3 sp) (h : BodyG P w K mg base N_law_table_shown "_law_table_shown" s_law_table_shown (He.fAd K ("_law_table_shown", none)) k sp) : CalG P w K mg base (k + 1) "_law_table_shown" sp := by
  obtain ⟨fd, F⟩ := W.says.f_law_table_shown
  exact ⟨_, fd, ["_law_heap_here", "_law_things", "_law_ties_here"], bodyG_ok F sc_law_table_shown len h, W.g_law_table_shown, F.kp, F.bindsN (fun _ _ _ _ _ _ us hl => match us, hl with | [_, _, _], _ => rfl)⟩
theorem cal_law_table_shown (W : Wd K mg) : CalG P w K mg base 10 "_law_table_shown" spTableShown := by
  refine mkG_law_table_shown W (fun vs H Q E h => ?_) fun cdv A0 outer s H vs Q E hgd hr h => ?_
  · obtain ⟨a, b, A, B, o, ns, ts, rfl, _⟩ := h
    rfl
  obtain ⟨a, b, A, B, o, ns, ts, rfl, hR, eA, hB, hn, ht, q⟩ := h
  refine ⟨_, (pss_cons (ps_asg (pe_tup (pa_cons (pe_op op_cat (pe_lc (own := [("_law_tie", 5)]) (g := gName 5) (tt := tYes) rfl sc_law_table_shown.nd (piT (K := K) rfl (pv 2)) (blkOk_by (own := [("_law_tie", 5)]) (N := N_law_table_shown) (sc := defScope s_law_table_shown) (by decide +kernel)) (fun _ _ _ _ _ => (pg_name (i := 5) sc_law_table_shown.nd rfl (Or.inl rfl))) (fun _ _ _ _ _ => pts_nil) (fun _ _ _ _ _ => (pe_ix (ixT (K := K)) (pv 5) pe_int (fun _ _ => rfl)))) (pe_lc (own := [("_law_tie", 5)]) (g := gName 5) (tt := tYes) rfl sc_law_table_shown.nd (piT (K := K) rfl (pv 2)) (blkOk_by (own := [("_law_tie", 5)]) (N := N_law_table_shown) (sc := defScope s_law_table_shown) (by decide +kernel)) (fun _ _ _ _ _ => (pg_name (i := 5) sc_law_table_shown.nd rfl (Or.inl rfl))) (fun _ _ _ _ _ => pts_nil) (fun _ _ _ _ _ => (pe_ix (ixT (K := K)) (pv 5) pe_int (fun _ _ => rfl))))) (pa_cons (pe_callB (crRepr (K := K) hgd hr) rfl W.z_repr (by decide +kernel) (pa_cons (pe_tup (pa_cons (pv 1) (pa_cons (pv 2) pa_nil))) pa_nil)) pa_nil))) (pgT (K := K) (n := 2) rfl rfl (pgs_cons (pg_name (i := 3) sc_law_table_shown.nd rfl (Or.inr rfl)) (pgs_cons (pg_name (i := 4) sc_law_table_shown.nd rfl (Or.inl rfl)) pgs_nil))))
    (pss_cons (ps_setLc (i := 6) (own := [("_law_thing", 7)]) (g := gName 7) rfl sc_law_table_shown.nd rfl rfl (sw_true rfl rfl rfl (by decide +kernel)) (pi_range1 rfl W.z_range (pa_cons (pe_callB (crLn (K := K)) rfl W.z_len (by decide +kernel) (pa_cons (pv 1) pa_nil)) pa_nil)) (blkOk_by (own := [("_law_thing", 7)]) (N := N_law_table_shown) (sc := defScope s_law_table_shown) (by decide +kernel)) (fun _ _ _ _ _ => (pg_name (i := 7) sc_law_table_shown.nd rfl (Or.inl rfl))) (fun _ _ _ _ _ => pts_one (pt_cmpR (opNin (K := K)) (pv 7) (pv 3) rfl)) (fun _ _ _ _ _ => (pe_lst (pa_cons (pe_ix (ixT (K := K)) (pv 1) (pv 7) (fun _ _ => rfl)) pa_nil))))
    (pss_cons (ps_set (i := 6) sc_law_table_shown.nd rfl (.inl rfl) (pe_op op_cat (pv 6) (pe_lc (own := [("_law_one", 8), ("_law_other", 9), ("_law_weight", 10)]) (g := gTup K 3 (gCons (gName 8) (gCons (gName 9) (gCons (gName 10) gNil)))) (tt := tYes) rfl sc_law_table_shown.nd (piT (K := K) rfl (pv 2)) (blkOk_by (own := [("_law_one", 8), ("_law_other", 9), ("_law_weight", 10)]) (N := N_law_table_shown) (sc := defScope s_law_table_shown) (by decide +kernel)) (fun _ _ _ _ _ => (pgT (K := K) (n := 3) rfl rfl (pgs_cons (pg_name (i := 8) sc_law_table_shown.nd rfl (Or.inl rfl)) (pgs_cons (pg_name (i := 9) sc_law_table_shown.nd rfl (Or.inl rfl)) (pgs_cons (pg_name (i := 10) sc_law_table_shown.nd rfl (Or.inl rfl)) pgs_nil))))) (fun _ _ _ _ _ => pts_nil) (fun _ _ _ _ _ => (pe_lst (pa_cons (pe_ix (ixT (K := K)) (pv 1) (pv 8) (fun _ _ => rfl)) (pa_cons (pe_ix (ixT (K := K)) (pv 1) (pv 9) (fun _ _ => rfl)) (pa_cons (pe_callTy call_str_int rfl W.z_str (by decide +kernel) (pa_cons (pv 10) pa_nil)) pa_nil))))))))
    (pss_cons (ps_par (i := 11) (j := 12) rfl sc_law_table_shown.nd rfl rfl (by decide) rfl rfl (pa_cons (C8.pe_mk (mak_Table W) hr (by decide) rfl (pa_cons (pv 1) (pa_cons (pv 2) pa_nil))) (pa_cons (C8.pe_c (cal_law_lines W) hr (by decide) rfl (pa_cons (pv 6) pa_nil)) pa_nil)) (by rfl))
    (pss_cons (ps_set (i := 13) sc_law_table_shown.nd rfl (.inl rfl) (C8.pe_c (cal_show_table W) hr (by decide) rfl (pa_cons (pv 11) pa_nil)))
    (pss_cons (ps_if (PW.pt (pw_or (pt_cmpR op_ne (pe_callB (crRepr (K := K) hgd hr) rfl W.z_repr (by decide +kernel) (pa_cons (pv 13) pa_nil)) (pe_callB (crRepr (K := K) hgd hr) rfl W.z_repr (by decide +kernel) (pa_cons (pv 12) pa_nil)) (nomark _)) (pw_or (pt_cmpR op_ne (pe_kw (kcal_show_table W) hr (by decide) rfl (pk_cons (pv 11) pk_nil)) (pv 12) (nomark _)) (pw_or1 (pt_cmpR op_ne (pe_callB (crRepr (K := K) hgd hr) rfl W.z_repr (by decide +kernel) (pa_cons (pe_tup (pa_cons (peFld (K := K) rfl (pv 11)) (pa_cons (peFld (K := K) rfl (pv 11)) pa_nil))) pa_nil)) (pv 4) (nomark _))))))
    (pss_one (ps_ret pe_bl))
    pss_nil)
    (pss_cons (ps_set (i := 14) sc_law_table_shown.nd rfl (.inl rfl) (C8.pe_c (cal_read_table W) hr (by decide) rfl (pa_cons (pv 13) pa_nil)))
    (pss_cons (ps_if (pt_cmpR op_ne (pe_callB (crRepr (K := K) hgd hr) rfl W.z_repr (by decide +kernel) (pa_cons (pe_tup (pa_cons (peFld (K := K) rfl (pv 14)) (pa_cons (peFld (K := K) rfl (pv 14)) pa_nil))) pa_nil)) (pv 4) (nomark _))
    (pss_one (ps_ret pe_bl))
    pss_nil)
    (pss_cons (ps_set (i := 9) sc_law_table_shown.nd rfl (.inl rfl) (C8.pe_c (cal_law_glued W) hr (by decide) rfl (pa_cons (pv 0) (pa_cons (C8.pe_c (cal_law_spread W) hr (by decide) rfl (pa_cons (pv 0) (pa_cons (C8.pe_c (cal_law_table_lines W) hr (by decide) rfl (pa_cons (pv 0) (pa_cons (pv 1) (pa_cons (pv 2) pa_nil)))) pa_nil))) pa_nil))))
    (pss_one (ps_ret (pe_cmpR op_le (pe_callB (crLn (K := K)) rfl W.z_len (by decide +kernel) (pa_cons (C8.pe_c (cal_marks_in W) hr (by decide) rfl (pa_cons (pv 13) pa_nil)) pa_nil)) (pe_callB (crLn (K := K)) rfl W.z_len (by decide +kernel) (pa_cons (C8.pe_c (cal_marks_in W) hr (by decide) rfl (pa_cons (pv 9) pa_nil)) pa_nil)) (nomark _))))))))))))), ?_⟩
  have hA : TupAt H A (strL ns) := TupAt.frz eA
  obtain ⟨as0, hb0, hlen, hget⟩ := hB.get
  have hl := ht.1
  have hn2 := hn.2.1
  walk_at "rd"
  refine ⟨B, rfl, ⟨_, hb0.sq⟩, fun D1 hD1 => lc_map walk_tup (fun j => ts[j]?.map fun x => .int ((x.1 : Nat) : Int)) hD1 ?_ (fun H' s2 => (hb0.same s2).sq) yAt_same ?_ ?_⟩
  · rw [List.length_map, hlen]
    exact small' (by omega)
  · rintro j v H2 H3 R R0 hj s2 s3 ⟨rfl, ev⟩ k1 k2
    obtain ⟨a', x, rfl, ex, hx⟩ := hget j v ev
    refine ⟨rfl, ?_⟩
    walk_at "rd"
    refine r_ixT (v := .int ((x.1 : Nat) : Int)) (hx.same s3).sq rfl ?_
    exact k1 _ _ (by rw [ex] <;> rfl) (Same.refl _)
  intro H2 s2 e2
  rw [List.length_map, hlen, filterMap_all ts _ (fun x => .int ((x.1 : Nat) : Int)) fun i hi => by rw [List.getElem?_eq_getElem hi] <;> rfl] at e2
  walk_at "rd"
  refine ⟨B, rfl, ⟨_, (hb0.same s2).sq⟩, fun D2 hD2 => lc_map walk_tup (fun j => ts[j]?.map fun x => .int ((x.2.1 : Nat) : Int)) hD2 ?_ (fun H' s3 => ((hb0.same s2).same s3).sq) yAt_same ?_ ?_⟩
  · rw [List.length_map, hlen]
    exact small' (by omega)
  · rintro j v H3 H4 R R0 hj s3 s4 ⟨rfl, ev⟩ k1 k2
    obtain ⟨a', x, rfl, ex, hx⟩ := hget j v ev
    refine ⟨rfl, ?_⟩
    walk_at "rd"
    refine r_ixT (v := .int ((x.2.1 : Nat) : Int)) ((hx.same s2).same s4).sq rfl ?_
    exact k1 _ _ (by rw [ex] <;> rfl) (Same.refl _)
  intro H3 s3 e3
  rw [List.length_map, hlen, filterMap_all ts _ (fun x => .int ((x.2.1 : Nat) : Int)) fun i hi => by rw [List.getElem?_eq_getElem hi] <;> rfl] at e3
  refine ⟨D1, D2, _, _, rfl, rfl, s3 _ _ e2, e3, ?_, fun U hU => ?_⟩
  · rw [List.length_map, List.length_map]
    exact Nat.le_trans (show _ ≤ 10000000 by omega) (by decide)
  have s4 := same_upd (o := .lst ((ts.map fun x => V.int ((x.1 : Nat) : Int)) ++ (ts.map fun x => V.int ((x.2.1 : Nat) : Int)))) hU
  have s04 := (s2.trans s3).trans s4
  have eU : upd H3 U (.lst ((ts.map fun x => V.int ((x.1 : Nat) : Int)) ++ (ts.map fun x => V.int ((x.2.1 : Nat) : Int)))) U = some (.lst ((ts.map fun x => V.int ((x.1 : Nat) : Int)) ++ (ts.map fun x => V.int ((x.2.1 : Nat) : Int)))) := upd_same
  generalize upd H3 U (.lst ((ts.map fun x => V.int ((x.1 : Nat) : Int)) ++ (ts.map fun x => V.int ((x.2.1 : Nat) : Int)))) = H4 at s04 eU ⊢
  walk_at "rd"
  refine ⟨small (show 2 ≤ 100 by decide), fun T hT => ?_⟩
  have s5 := same_upd (o := .tup [.ref A, .ref B]) hT
  have s05 := s04.trans s5
  have eU5 := s5 _ _ eU
  have dT : Dp K (upd H4 T (.tup [.ref A, .ref B])) (.ref T) (tblD ns ts) := dp_tbl (TupAt.of upd_same) (hA.same s05) (hB.tsame (Same.ts s05))
  generalize upd H4 T (.tup [.ref A, .ref B]) = H5 at s05 eU5 dT ⊢
  have hfine := fine_tbl hn ht
  walk_at "rd"
  refine r_repr dT hfine (by decide) (by decide) (.inl ⟨_, rfl⟩) ?_
  walk_at "rd"
  refine ⟨small (show 2 ≤ 100 by decide), fun T2 hT2 => ?_⟩
  have s6 := same_upd (o := .tup [.ref U, .str (tblD ns ts).shown]) hT2
  refine r_gtup (xs := [.ref U, .str (tblD ns ts).shown]) (TupAt.of upd_same).sq rfl ?_
  have s06 := s05.trans s6
  have eU6 := s6 _ _ eU5
  generalize upd H5 T2 (.tup [.ref U, .str (tblD ns ts).shown]) = H6 at s06 eU6 ⊢
  walk_at "rd"
  refine r_lnT (hA.same s06).sq ?_
  refine ⟨_, rfl, by rw [List.length_map]; omega, by rw [List.length_map]; omega, fun D hD => ?_⟩
  rw [List.length_map, Int.toNat_natCast]
  refine lc_it walk_nat (fun i H' => Same H6 H' ∧ ∃ as : List Addr, H' D = some (.lst (as.map V.ref)) ∧ All2 (fun q ws => q ≠ D ∧ H' q = some (.lst (strL ws))) as (((List.range i).filter fun i => !usedB ts i).map fun i => [nmAt ns i])) ⟨same_upd hD, [], upd_same, .nil⟩ (fun _ _ _ _ => trivial) ?_ ?_
  · rintro i v H7 H8 hi ⟨s7, as, eD, has⟩ ⟨rfl, rfl⟩
    have lf := List.length_filter_le (fun i => !usedB ts i) (List.range i)
    rw [List.length_range] at lf
    have las := has.length
    rw [List.length_map] at las
    refine ⟨rfl, ?_⟩
    walk_at "rd"
    refine ⟨U, _, rfl, .inl (SqL.of (s7 _ _ eU6)), rfl, flat_used ts, ?_⟩
    rw [if_pos rfl, inV_used]
    walk_at "rd"
    cases hu : usedB ts i with
    | true =>
      walk_at "rd"
      refine ⟨s7, as, eD, ?_⟩
      rw [List.range_succ, List.filter_append, List.filter_cons_of_neg (by rw [hu]; decide), List.filter_nil, List.append_nil]
      exact has
    | false =>
      walk_at "rd"
      refine r_ixT (hA.same (s06.trans s7)).sq (at_nm hi) ?_
      walk_at "rd"
      refine ⟨small (show 1 ≤ 100 by decide), fun L hL => ?_⟩
      have s8 := same_upd (o := .lst [.str (SX.S (nmAt ns i))]) hL
      have eD8 := s8 _ _ eD
      have LD : L ≠ D := (ne_none eD hL).symm
      refine ⟨_, eD8, by rw [List.length_map]; exact small' (by omega), same_set hD (s7.trans s8), as ++ [L], by rw [upd_same, List.map_append] <;> rfl, ?_⟩
      rw [List.range_succ, List.filter_append, List.filter_cons_of_pos (by rw [hu] <;> rfl), List.filter_nil, List.map_append]
      exact (has.imp fun q ws h => ⟨h.1, (upd_ne h.1).trans (s8 _ _ h.2)⟩).snoc ⟨LD, (upd_ne LD).trans (by rw [upd_same] <;> rfl)⟩
  rintro H7 ⟨s7, as1, eD7, has1⟩
  walk_at "rd"
  have s07 := s06.trans s7
  refine ⟨B, rfl, ⟨_, (hb0.same s07).sq⟩, fun D2 hD2 => lc_it walk_tup (fun i H' => Same H7 H' ∧ ∃ as : List Addr, H' D2 = some (.lst (as.map V.ref)) ∧ All2 (fun q ws => q ≠ D2 ∧ H' q = some (.lst (strL ws))) as ((ts.take i).map fun x => [nmAt ns x.1, nmAt ns x.2.1, intL x.2.2])) ⟨same_upd hD2, [], upd_same, .nil⟩ (fun _ _ _ p => ((hb0.same s07).same p.1).sq) ?_ ?_⟩
  · rintro i v H8 H9 hi ⟨s8, as, eD, has⟩ ⟨rfl, ev⟩
    obtain ⟨a', x, rfl, ex, hx⟩ := hget i v ev
    obtain ⟨g1, g2, g3, g4⟩ := ht.2 x (List.mem_of_getElem? ex)
    have las := has.length
    rw [List.length_map, List.length_take] at las
    have s08 := s07.trans s8
    refine r_gtup (xs := [.int x.1, .int x.2.1, .int x.2.2]) (hx.same s08).sq rfl ?_
    walk_at "rd"
    refine ⟨rfl, ?_⟩
    walk_at "rd"
    refine r_ixT (hA.same s08).sq (at_nm g1) ?_
    walk_at "rd"
    refine r_ixT (hA.same s08).sq (at_nm g2) ?_
    walk_at "rd"
    refine ⟨_, rfl, log_le (by omega), ?_⟩
    rw [intL_str]
    walk_at "rd"
    refine ⟨small (show 3 ≤ 100 by decide), fun L hL => ?_⟩
    have s9 := same_upd (o := .lst [.str (SX.S (nmAt ns x.1)), .str (SX.S (nmAt ns x.2.1)), .str (SX.S (intL x.2.2))]) hL
    have eD9 := s9 _ _ eD
    have LD : L ≠ D2 := (ne_none eD hL).symm
    refine ⟨_, eD9, by rw [List.length_map]; exact small' (by omega), same_set hD2 (s8.trans s9), as ++ [L], by rw [upd_same, List.map_append] <;> rfl, ?_⟩
    rw [List.take_succ, ex, show (some x).toList = [x] from rfl, List.map_append]
    exact (has.imp fun q ws h => ⟨h.1, (upd_ne h.1).trans (s9 _ _ h.2)⟩).snoc ⟨LD, (upd_ne LD).trans (by rw [upd_same] <;> rfl)⟩
  rintro H8 ⟨s8, as2, eD8, has2⟩
  rw [List.take_of_length_le (by rw [List.length_map]; omega)] at has2
  have l1 := has1.length
  have l2 := has2.length
  rw [List.length_map] at l1 l2
  have lf := List.length_filter_le (fun i => !usedB ts i) (List.range ns.length)
  rw [List.length_range] at lf
  refine ⟨D, D2, _, _, rfl, rfl, s8 _ _ eD7, eD8, ?_, fun R hRn => ?_⟩
  · rw [List.length_map, List.length_map]
    exact Nat.le_trans (show _ ≤ 10000000 by omega) (by decide)
  have s9 := same_upd (o := .lst (as1.map V.ref ++ as2.map V.ref)) hRn
  have eR : RowsAt (upd H8 R (.lst (as1.map V.ref ++ as2.map V.ref))) R ((tabR ns ts).map fun r => r.map Word.text) := by
    refine ⟨as1 ++ as2, by rw [upd_same, List.map_append], ?_⟩
    unfold tabR
    rw [List.map_append, List.map_map, List.map_map]
    exact (has1.imp fun q ws h => s9 _ _ (s8 _ _ h.2)).append (has2.imp fun q ws h => s9 _ _ h.2)
  have s09 := (s07.trans s8).trans s9
  generalize upd H8 R (.lst (as1.map V.ref ++ as2.map V.ref)) = H9 at s09 eR ⊢
  walk_at "rd"
  intro X DX hX hDX hne
  have s10 : Same H9 (upd (upd H9 DX (.own X)) X (.ins (He.ga K "Table") DX [])) := same_set hX (same_set hDX (Same.refl H9))
  refine ⟨X, A, B, DX, ns, ts, rfl, upd_same, (hA.same s09).same s10, (hB.tsame (Same.ts s09)).tsame (Same.ts s10), hn, ht, fun H11 k11 e11 => ⟨rfl, ?_⟩⟩
  have s911 : Same H9 H11 := fun c o' e => k11 _ _ (s10 _ _ e) (by rw [List.mem_singleton]; exact ne_none e hX)
  have s011 := s09.trans s911
  have hTab : TabAt K H11 X ns ts := ⟨DX, A, B, e11, hA.same s011, hB.tsame (Same.ts s011)⟩
  have eR11 : RowsAt H11 R ((tabR ns ts).map fun r => r.map Word.text) := by
    obtain ⟨as, h1, h2⟩ := eR
    exact ⟨as, s911 _ _ h1, h2.imp fun q ws h => s911 _ _ h⟩
  have wle : ∀ r ∈ tabR ns ts, r.length ≤ 3 ∧ ∀ w ∈ r, w.text.length ≤ 11 := fun r hr => by
    rcases List.mem_append.mp hr with h | h
    · obtain ⟨i, hi, rfl⟩ := List.mem_map.mp h
      refine ⟨(show 1 ≤ 3 by decide), fun w hw => ?_⟩
      rw [List.mem_singleton.mp hw]
      exact Nat.le_trans (nm_le hn (List.mem_range.mp (List.mem_filter.mp hi).1)) (by decide)
    · obtain ⟨x, hx, rfl⟩ := List.mem_map.mp h
      obtain ⟨g1, g2, g3, g4⟩ := ht.2 x hx
      refine ⟨Nat.le_refl 3, fun w hw => ?_⟩
      rcases List.mem_cons.mp hw with rfl | hw
      · exact Nat.le_trans (nm_le hn g1) (by decide)
      · rcases List.mem_cons.mp hw with rfl | hw
        · exact Nat.le_trans (nm_le hn g2) (by decide)
        · rw [List.mem_singleton.mp hw]
          exact intL_le (by omega)
  have ltab : (tabR ns ts).length ≤ 72 := by
    unfold tabR
    rw [List.length_append, List.length_map, List.length_map]
    omega
  walk_at "rd"
  refine ⟨R, _, rfl, eR11, by rw [List.length_map]; omega, fun ws hws => ?_, ?_⟩
  · obtain ⟨r, hr, rfl⟩ := List.mem_map.mp hws
    obtain ⟨h1, h2⟩ := wle r hr
    refine ⟨by rw [List.length_map]; omega, fun x hx => ?_⟩
    obtain ⟨w, hw, rfl⟩ := List.mem_map.mp hx
    exact Nat.le_trans (h2 w hw) (by decide)
  rw [show TL.joinL [10] (((tabR ns ts).map fun r => r.map Word.text).map (TL.joinL [32])) = showR (tabR ns ts) by
    unfold showR
    rw [List.map_map] <;> rfl]
  walk_at "rd"
  refine ⟨X, ns, ts, rfl, hTab, hn, ht, fun H12 s12 => ?_⟩
  have s012 := s011.trans s12
  have hTab12 := hTab.same s12
  have ftext := (fine_str (showR_chars (tabR_ok hn ht))).mono (Nat.le_refl 0) (Nat.le_trans (tabR_le hn ht) (show 10000 ≤ 10000 by decide))
  walk_at "rd"
  refine r_repr (.str _) ftext (by decide) (by decide) (.inr ⟨_, rfl⟩) ?_
  walk_at "rd"
  refine r_repr (.str _) ftext (by decide) (by decide) (.inr ⟨_, rfl⟩) ?_
  refine r_ne rfl ?_
  rw [v_eq]
  walk_at "rd"
  refine r_kw ?_
  walk_at "rd"
  refine ⟨rfl, X, ns, ts, rfl, hTab12, hn, ht, fun H13 s13 => ?_⟩
  walk_at "rd"
  refine r_ne rfl ?_
  rw [v_eq]
  have s013 := s012.trans s13
  have hTab13 := hTab12.same s13
  have e13 := s13 _ _ (s12 _ _ e11)
  walk_at "rd"
  refine r_fl e13 W.c_Table W.n_Table_things rfl ?_
  walk_at "rd"
  refine r_fl e13 W.c_Table W.n_Table_ties rfl ?_
  walk_at "rd"
  refine ⟨small (show 2 ≤ 100 by decide), fun T3 hT3 => ?_⟩
  have s14 := same_upd (o := .tup [.ref A, .ref B]) hT3
  have s014 := s013.trans s14
  have dT3 : Dp K (upd H13 T3 (.tup [.ref A, .ref B])) (.ref T3) (tblD ns ts) := dp_tbl (TupAt.of upd_same) (hA.same s014) (hB.tsame (Same.ts s014))
  walk_at "rd"
  refine r_repr dT3 hfine (by decide) (by decide) (.inl ⟨_, rfl⟩) ?_
  generalize upd H13 T3 (.tup [.ref A, .ref B]) = H14 at s014 ⊢
  walk_at "rd"
  refine r_ne rfl ?_
  rw [v_eq]
  walk_at "rd"
  refine ⟨ns, ts, rfl, hn, ht, fun t2 H15 s15 hT15 => ?_⟩
  have s015 := s014.trans s15
  obtain ⟨dx2, A2, B2, o2, f1, f2, f3, f4⟩ := hT15.ex
  walk_at "rd"
  refine r_fl f1 W.c_Table W.n_Table_things rfl ?_
  walk_at "rd"
  refine r_fl f1 W.c_Table W.n_Table_ties rfl ?_
  walk_at "rd"
  refine ⟨small (show 2 ≤ 100 by decide), fun T4 hT4 => ?_⟩
  have s16 := same_upd (o := .tup [.ref A2, .ref B2]) hT4
  have s016 := s015.trans s16
  have dT4 : Dp K (upd H15 T4 (.tup [.ref A2, .ref B2])) (.ref T4) (tblD ns ts) := dp_tbl (TupAt.of upd_same) ((TupAt.frz f2).same s16) (f4.tsame (Same.ts s16))
  walk_at "rd"
  refine r_repr dT4 hfine (by decide) (by decide) (.inl ⟨_, rfl⟩) ?_
  generalize upd H15 T4 (.tup [.ref A2, .ref B2]) = H16 at s016 ⊢
  walk_at "rd"
  refine r_ne rfl ?_
  rw [v_eq]
  walk_at "rd"
  refine ⟨a, b, A, B, ns, ts, rfl, hR.same s016, hA.same s016, hB.tsame (Same.ts s016), hn, ht, fun H17 P1 lines k17 hR17 hL17 hll hlo hcost => ?_⟩
  walk_at "rd"
  refine ⟨a, b, P1, lines, rfl, hR17, hL17, hll, fun ws hws => (hlo ws hws).1, fun H18 P2 ms k18 hR18 hP2 eP2 hml hmc hmm => ?_⟩
  walk_at "rd"
  refine ⟨a, b, P2, ms, rfl, hR18, eP2, hR17.fresh hP2, hml, fun m hm => ?_, fun H19 z k19 hR19 hlex hzl => ?_⟩
  · rcases hmm m hm with rfl | ⟨ws, hws, hm'⟩
    · exact ⟨mark_line, by decide⟩
    · exact (hlo ws hws).2 m hm'
  have k019 := ((RK.of s016).trans k17).trans (k18.trans k19)
  walk_at "rd"
  refine ⟨_, marksR (tabR ns ts), rfl, lex_rows (tabR_ok hn ht), Nat.le_trans (tabR_le hn ht) (by decide), fun P3 H20 as3 s20 hP3 ha3 _ => ?_⟩
  walk_at "rd"
  refine r_lnT hP3.sq ?_
  walk_at "rd"
  refine ⟨z, ms, rfl, hlex, hzl, fun P4 H21 as4 s21 hP4 ha4 _ => ?_⟩
  walk_at "rd"
  refine r_lnT hP4.sq ?_
  walk_at "rd"
  have fin : (marksR (tabR ns ts)).length ≤ ms.length := by
    have := marksR_len (tabR ns ts)
    by_cases h0 : tabR ns ts = []
    · rw [h0]
      exact Nat.zero_le _
    · rw [if_neg h0] at this
      omega
  rw [List.length_map, List.length_map, ha3.length, ha4.length, show decide (((marksR (tabR ns ts)).length : Int) ≤ (ms.length : Nat)) = true from decide_eq_true (by omega)]
  exact q H21 (k019.trans (RK.of (s20.trans s21))) (hR19.same (s20.trans s21))
end
end K07

set_option maxRecDepth 100000
set_option maxHeartbeats 4000000
namespace K07
open PySem PySem.Spec PyProof.Rows L2
local macro_rules | `(tactic| walk_at "rd") => `(tactic| repeat (first
  | with_reducible refine r_seq ?_ | with_reducible refine r_asg ?_ | with_reducible refine r_name ?_ | with_reducible refine r_ret ?_ | with_reducible refine r_drop ?_ | with_reducible refine r_if ?_ | with_reducible refine r_nx ?_
  | with_reducible refine r_c ?_ | with_reducible refine r_op ?_ | with_reducible refine r_un ?_ | with_reducible refine r_cons ?_ | with_reducible refine r_nil ?_ | with_reducible refine r_test ?_ | with_reducible refine r_B ?_
  | with_reducible refine r_and ?_ | with_reducible refine r_or ?_ | with_reducible refine r_not ?_ | with_reducible refine r_andV ?_ | with_reducible refine r_orV ?_ | with_reducible refine r_notV ?_ | with_reducible refine r_tif ?_
  | with_reducible refine r_chain ?_ | with_reducible refine r_tyes ?_ | with_reducible refine r_lc ?_ | with_reducible refine r_rng1 ?_ | with_reducible refine r_itup ?_ | with_reducible refine r_ilist ?_ | with_reducible refine r_ienum ?_ | with_reducible refine r_istr ?_
  | with_reducible refine r_tup ?_ | with_reducible refine r_lst ?_ | with_reducible refine r_tfld ?_ | with_reducible refine r_gcons ?_ | with_reducible refine r_gnil ?_ | with_reducible refine r_gfld ?_ | with_reducible refine r_for ?_ | with_reducible refine r_sfld ?_ | with_reducible refine r_call ?_ | with_reducible refine r_cb ?_ | with_reducible refine r_sl ?_ | with_reducible refine r_np ?_ | with_reducible refine r_pt ?_ | with_reducible refine r_m1 ?_ | with_reducible refine r_par ?_ | with_reducible refine r_p2 ?_ | with_reducible refine r_u ?_ | with_reducible refine r_meth ?_ | with_reducible refine r_make ?_ | with_reducible refine r_gsub ?_ | with_reducible refine r_bm ?_ | with_reducible refine r_bm0 ?_ | with_reducible refine r_j0 ?_ | with_reducible refine r_jF ?_ | with_reducible refine r_jN ?_ | with_reducible refine r_bl ?_ | with_reducible refine r_i0 ?_ | with_reducible refine tt_ite ?_ | with_reducible refine ff_ite ?_ | with_reducible refine nt_ite ?_ | with_reducible refine nf_ite ?_
  | with_reducible refine r_var (by with_unfolding_all exact rfl) ?_))
/-! ### batches and lots shown -/
section
variable {P : Program} {w : World} {K : PySem.W.Frag} {mg : Str → Option Value} {base : Heap}
def spRowsShown (K : PySem.W.Frag) : Sp := fun vs H Q _ => ∃ (a b t A : Addr) (ns : List Cs) (ts : List Tie), vs = [.ref a, .ref t, .ref A] ∧ Rng H a b ∧ TabF K H t ns ts ∧ TupAt H A (strL ns) ∧ NamesOk ns ∧ (t ≠ a ∧ t ≠ b) ∧
  ∀ (H' : Hp), RK a b H H' → Rng H' a b → Q (.bl true) H'
theorem mkG_law_rows_shown (W : Wd K mg) {k : Nat} {sp : Sp} (len : Len 3 sp) (h : BodyG P w K mg base N_law_rows_shown "_law_rows_shown" s_law_rows_shown (He.fAd K ("_law_rows_shown", none)) k sp) : CalG P w K mg base (k + 1) "_law_rows_shown" sp := by
  obtain ⟨fd, F⟩ := W.says.f_law_rows_shown
  exact ⟨_, fd, ["_law_heap_here", "_law_table", "_law_things"], bodyG_ok F sc_law_rows_shown len h, W.g_law_rows_shown, F.kp, F.bindsN (fun _ _ _ _ _ _ us hl => match us, hl with | [_, _, _], _ => rfl)⟩
theorem TabF.rk {a b t : Addr} {H H' : Hp} {ns : List Cs} {ts : List Tie} (hR : Rng H a b) (k : RK a b H H') (nt : t ≠ a ∧ t ≠ b) (h : TabF K H t ns ts) : TabF K H' t ns ts := by
  obtain ⟨dx, A, B, o, h1, h2, h3, h4⟩ := h.ex
  have nA : A ≠ a ∧ A ≠ b := by
    obtain ⟨zs, st, _, e2, e3⟩ := hR
    refine ⟨fun z => ?_, fun z => ?_⟩
    · rw [z, e2] at h2
      cases h2
    · rw [z, e3] at h2
      cases h2
  exact ⟨dx, A, B, o, k.at h1 nt, k.at h2 nA, h3, h4.tsame (RK.tsame hR k)⟩
theorem fine_nats {js : List Nat} (hl : js.length ≤ 60) (h : ∀ j ∈ js, j ≤ 1000) : Fine 1 10000 (intsD (js.map fun j => ((j : Nat) : Int))) := by
  have key : Fine 1 (60 * (31 + 1)) (intsD (js.map fun j => ((j : Nat) : Int))) := by
    refine fine_tuple (k := 0) (W := 31) (n := 60) (fun d hd => ?_) (by rw [List.length_map, List.length_map]; exact hl)
    obtain ⟨i, hi, rfl⟩ := List.mem_map.mp hd
    obtain ⟨j, hj, rfl⟩ := List.mem_map.mp hi
    have := h j hj
    exact fine_int (by omega)
  exact key.mono (Nat.le_refl _) (by decide)
theorem nats_int (js : List Nat) : (js.map fun j => V.int ((j : Nat) : Int)) = (js.map fun j => ((j : Nat) : Int)).map V.int := by
  rw [List.map_map] <;> rfl
theorem cal_law_rows_shown (W : Wd K mg) : CalG P w K mg base 10 "_law_rows_shown" (spRowsShown K) := by
  refine mkG_law_rows_shown W (fun vs H Q E h => ?_) fun cdv A0 outer s H vs Q E hgd hr h => ?_
  · obtain ⟨a, b, t, A, ns, ts, rfl, _⟩ := h
    rfl
  obtain ⟨a, b, t, A, ns, ts, rfl, hR, hT, hA, hn, nt, q⟩ := h
  refine ⟨_, (pss_cons (ps_set (i := 3) sc_law_rows_shown.nd rfl (.inl rfl) (pe_callTy (crTp (K := K)) rfl W.z_tuple (by decide +kernel) (pa_cons (pe_lc (own := [("_law_at", 4)]) (g := gName 4) (tt := tYes) rfl sc_law_rows_shown.nd (pi_range1 rfl W.z_range (pa_cons (C8.pe_c (cal_law_pick W) hr (by decide) rfl (pa_cons (pv 0) (pa_cons (pe_lst (pa_cons pe_int (pa_cons pe_int (pa_cons pe_int (pa_cons pe_int (pa_cons pe_int pa_nil)))))) pa_nil))) pa_nil)) (blkOk_by (own := [("_law_at", 4)]) (N := N_law_rows_shown) (sc := defScope s_law_rows_shown) (by decide +kernel)) (fun _ _ _ _ _ => (pg_name (i := 4) sc_law_rows_shown.nd rfl (Or.inl rfl))) (fun _ _ _ _ _ => pts_nil) (fun _ _ _ _ _ => (pe_op op_add pe_int (C8.pe_c (cal_law_draw W) hr (by decide) rfl (pa_cons (pv 0) (pa_cons (C8.pe_c (cal_law_pick W) hr (by decide) rfl (pa_cons (pv 0) (pa_cons (pe_lst (pa_cons pe_int (pa_cons pe_int pa_nil))) pa_nil))) pa_nil)))))) pa_nil)))
    (pss_cons (ps_set (i := 5) sc_law_rows_shown.nd rfl (.inl rfl) (peJn (K := K) rfl pe_str (pe_lc (own := [("_law_size", 6)]) (g := gName 6) (tt := tYes) rfl sc_law_rows_shown.nd (piT (K := K) rfl (pv 3)) (blkOk_by (own := [("_law_size", 6)]) (N := N_law_rows_shown) (sc := defScope s_law_rows_shown) (by decide +kernel)) (fun _ _ _ _ _ => (pg_name (i := 6) sc_law_rows_shown.nd rfl (Or.inl rfl))) (fun _ _ _ _ _ => pts_nil) (fun _ _ _ _ _ => (pe_callTy call_str_int rfl W.z_str (by decide +kernel) (pa_cons (pv 6) pa_nil))))))
    (pss_cons (ps_if (PW.pt (pw_or (pt_cmpR op_ne (pe_callB (crRepr (K := K) hgd hr) rfl W.z_repr (by decide +kernel) (pa_cons (C8.pe_c (cal_show_batches W) hr (by decide) rfl (pa_cons (pv 3) pa_nil)) pa_nil)) (pe_callB (crRepr (K := K) hgd hr) rfl W.z_repr (by decide +kernel) (pa_cons (pv 5) pa_nil)) (nomark _)) (pw_or (pt_cmpR op_ne (pe_kw (kcal_show_batches W) hr (by decide) rfl (pk_cons (pv 3) pk_nil)) (pv 5) (nomark _)) (pw_or1 (pt_cmpR (opNeD (K := K) hr) (C8.pe_c (cal_read_batches W) hr (by decide) rfl (pa_cons (pv 5) pa_nil)) (pv 3) (nomark _))))))
    (pss_one (ps_ret pe_bl))
    pss_nil)
    (pss_cons (ps_set (i := 7) sc_law_rows_shown.nd rfl (.inl rfl) (pe_callTy (crTp (K := K)) rfl W.z_tuple (by decide +kernel) (pa_cons (pe_lc (own := [("_law_thing", 8)]) (g := gName 8) rfl sc_law_rows_shown.nd (pi_range1 rfl W.z_range (pa_cons (pe_callB (crLn (K := K)) rfl W.z_len (by decide +kernel) (pa_cons (pv 2) pa_nil)) pa_nil)) (blkOk_by (own := [("_law_thing", 8)]) (N := N_law_rows_shown) (sc := defScope s_law_rows_shown) (by decide +kernel)) (fun _ _ _ _ _ => (pg_name (i := 8) sc_law_rows_shown.nd rfl (Or.inl rfl))) (fun _ _ _ _ _ => pts_one (pt_cmpR op_eq (C8.pe_c (cal_law_draw W) hr (by decide) rfl (pa_cons (pv 0) (pa_cons pe_int pa_nil))) pe_int (nomark _))) (fun _ _ _ _ _ => (pv 8))) pa_nil)))
    (pss_cons (ps_set (i := 5) sc_law_rows_shown.nd rfl (.inl rfl) (peJn (K := K) rfl pe_str (pe_lc (own := [("_law_thing", 8)]) (g := gName 8) (tt := tYes) rfl sc_law_rows_shown.nd (piT (K := K) rfl (pv 7)) (blkOk_by (own := [("_law_thing", 8)]) (N := N_law_rows_shown) (sc := defScope s_law_rows_shown) (by decide +kernel)) (fun _ _ _ _ _ => (pg_name (i := 8) sc_law_rows_shown.nd rfl (Or.inl rfl))) (fun _ _ _ _ _ => pts_nil) (fun _ _ _ _ _ => (pe_ix (ixT (K := K)) (pv 2) (pv 8) (fun _ _ => rfl))))))
    (pss_one (ps_ret (pe_and (pe_cmpR op_eq (pe_callB (crRepr (K := K) hgd hr) rfl W.z_repr (by decide +kernel) (pa_cons (C8.pe_c (cal_show_lot W) hr (by decide) rfl (pa_cons (pv 1) (pa_cons (pv 7) pa_nil))) pa_nil)) (pe_callB (crRepr (K := K) hgd hr) rfl W.z_repr (by decide +kernel) (pa_cons (pv 5) pa_nil)) (nomark _)) (pe_and (pe_cmpR op_eq (pe_kw (kcal_show_lot W) hr (by decide) rfl (pk_cons (pv 7) (pk_cons (pv 1) pk_nil))) (pv 5) (nomark _)) (pe_one (pe_cmpR (opEqD (K := K) hr) (C8.pe_c (cal_read_lot W) hr (by decide) rfl (pa_cons (pv 1) (pa_cons (pv 5) pa_nil))) (pv 7) (nomark _)))))))))))), ?_⟩
  have hn2 := hn.2.1
  walk_at "rd"
  refine ⟨small (show 5 ≤ 100 by decide), fun M hM => ?_⟩
  have s1 := same_upd (o := .lst [.int 2, .int 3, .int 0, .int 1, .int 60]) hM
  walk_at "rd"
  refine ⟨a, b, M, _, rfl, hR.same s1, upd_same, hR.fresh hM, List.cons_ne_nil _ _, (show 5 ≤ 1000 by decide), fun H1 x k1 hR1 hx => ?_⟩
  obtain ⟨n, rfl, hn60⟩ : ∃ n : Nat, x = .int (n : Nat) ∧ n ≤ 60 := by
    simp only [List.mem_cons, List.not_mem_nil, or_false] at hx
    rcases hx with rfl | rfl | rfl | rfl | rfl
    · exact ⟨2, rfl, by omega⟩
    · exact ⟨3, rfl, by omega⟩
    · exact ⟨0, rfl, by omega⟩
    · exact ⟨1, rfl, by omega⟩
    · exact ⟨60, rfl, by omega⟩
  have k1 := (RK.of s1).trans k1
  refine ⟨_, rfl, by omega, by omega, fun D hD => ?_⟩
  rw [Int.toNat_natCast]
  have nD := hR1.fresh hD
  refine lc_it walk_nat (fun i H' => RK a b H1 H' ∧ Rng H' a b ∧ ∃ js : List Nat, H' D = some (.lst (js.map fun j => V.int ((j : Nat) : Int))) ∧ js.length = i ∧ ∀ j ∈ js, 1 ≤ j ∧ j ≤ 100) ⟨RK.of (same_upd hD), hR1.same (same_upd hD), [], upd_same, rfl, fun j hj => by cases hj⟩ (fun _ _ _ _ => trivial) ?_ ?_
  · rintro i v H2 H3 hi ⟨k2, hR2, js, eD, hlj, hj⟩ ⟨rfl, rfl⟩
    refine ⟨rfl, ?_⟩
    walk_at "rd"
    refine ⟨small (show 2 ≤ 100 by decide), fun M hM => ?_⟩
    have s4 := same_upd (o := .lst [.int 3, .int 100]) hM
    walk_at "rd"
    refine ⟨a, b, M, _, rfl, hR2.same s4, upd_same, hR2.fresh hM, List.cons_ne_nil _ _, (show 2 ≤ 1000 by decide), fun H5 x k5 hR5 hx => ?_⟩
    obtain ⟨n5, rfl, hn5, hn5'⟩ : ∃ n : Nat, x = .int (n : Nat) ∧ 1 ≤ n ∧ n ≤ 100 := by
      simp only [List.mem_cons, List.not_mem_nil, or_false] at hx
      rcases hx with rfl | rfl
      · exact ⟨3, rfl, by omega, by omega⟩
      · exact ⟨100, rfl, by omega, by omega⟩
    walk_at "rd"
    refine ⟨a, b, n5, rfl, hR5, hn5, by omega, fun H6 r k6 hR6 hr6 => ?_⟩
    walk_at "rd"
    have k26 := ((RK.of s4).trans k5).trans k6
    have eD6 := k26.at eD nD
    refine ⟨_, eD6, by rw [List.length_map]; exact small' (by omega), RK.set hD (k2.trans k26), hR6.upd nD, js ++ [1 + r], ?_, by rw [List.length_append, hlj] <;> rfl, fun j hj' => ?_⟩
    · rw [upd_same, List.map_append]
      show some (HO.lst (_ ++ [V.int (1 + (r : Nat))])) = some (HO.lst (_ ++ [V.int ((1 + r : Nat) : Int)]))
      rw [show (1 + (r : Nat) : Int) = ((1 + r : Nat) : Int) by omega]
    · rcases List.mem_append.mp hj' with h | h
      · exact hj j h
      · rw [List.mem_singleton.mp h]
        omega
  rintro H2 ⟨k2, hR2, js, eD, hlj, hj⟩
  have k02 := k1.trans k2
  walk_at "rd"
  refine ⟨D, _, rfl, SqL.of eD, fun Bt o3 hBt _ => ?_⟩
  have s3 := same_upd (o := .frz o3 (.tup (js.map fun j => V.int ((j : Nat) : Int)))) hBt
  have eB : TupAt (upd H2 Bt (.frz o3 (.tup (js.map fun j => V.int ((j : Nat) : Int))))) Bt (js.map fun j => V.int ((j : Nat) : Int)) := TupAt.frz upd_same
  have hR3 := hR2.same s3
  have k03 := k02.trans (RK.of s3)
  generalize upd H2 Bt (.frz o3 (.tup (js.map fun j => V.int ((j : Nat) : Int)))) = H3 at eB hR3 k03 ⊢
  walk_at "rd"
  refine ⟨Bt, rfl, ⟨_, eB.sq⟩, fun D2 hD2 => lc_map walk_tup (fun j => js[j]?.map fun i => .str (SX.S (intL ((i : Nat) : Int)))) hD2 ?_ (fun H' s2 => (eB.same s2).sq) yAt_same ?_ ?_⟩
  · rw [List.length_map]
    exact small' (by omega)
  · rintro j v H4 H5 R R0 hi s4 s5 ⟨rfl, ev⟩ c1 c2
    rw [List.length_map] at hi
    rw [List.getElem?_map, List.getElem?_eq_getElem hi] at ev
    obtain rfl := Option.some.inj ev
    refine ⟨rfl, ?_⟩
    walk_at "rd"
    have := hj _ (List.getElem_mem hi)
    refine ⟨_, rfl, log_le (by omega), ?_⟩
    rw [intL_str]
    exact c1 _ _ (by rw [List.getElem?_eq_getElem hi] <;> rfl) (Same.refl _)
  intro H4 s4 e4
  rw [List.length_map, filterMap_all js _ (fun i => .str (SX.S (intL ((i : Nat) : Int)))) fun i hi => by rw [List.getElem?_eq_getElem hi] <;> rfl] at e4
  refine ⟨[32], D2, js.map fun j => intL ((j : Nat) : Int), rfl, rfl, .inl (SqL.of (e4.trans (by rw [List.map_map] <;> rfl))), ?_, ?_⟩
  · refine join_le (x := 32) (m := 60) (k := 11) (by rw [List.length_map]; omega) (fun y hy => ?_) (by decide)
    obtain ⟨i, hi, rfl⟩ := List.mem_map.mp hy
    have := hj _ hi
    exact intL_le (by omega)
  have eT : TL.joinL [32] (js.map fun j => intL ((j : Nat) : Int)) = rowT (js.map fun j => Word.it ((j : Nat) : Int)) := by
    unfold rowT
    rw [List.map_map] <;> rfl
  rw [eT]
  have eT2 : rowT ((js.map fun j => ((j : Nat) : Int)).map Word.it) = rowT (js.map fun j => Word.it ((j : Nat) : Int)) := by
    rw [List.map_map] <;> rfl
  have ok1 : ∀ w ∈ js.map fun j => Word.it ((j : Nat) : Int), w.Ok := fun w hw => by
    obtain ⟨j, _, rfl⟩ := List.mem_map.mp hw
    trivial
  have ftext := (fine_str (rowT_chars ok1)).mono (Nat.le_refl 0) (Nat.le_trans (rowT_le (k := 11) fun w hw => by
    obtain ⟨j, hj1, rfl⟩ := List.mem_map.mp hw
    have := hj j hj1
    exact intL_le (by omega)) (show (js.map fun j => Word.it ((j : Nat) : Int)).length * 12 ≤ 1000 by rw [List.length_map]; omega))
  have hbI : ∀ j ∈ js.map fun j => ((j : Nat) : Int), j.natAbs ≤ 1000 := fun i hi => by
    obtain ⟨j, hj1, rfl⟩ := List.mem_map.mp hi
    have := hj j hj1
    omega
  have hR4 := hR3.same s4
  have k04 := k03.trans (RK.of s4)
  have eB4 : TupAt H4 Bt ((js.map fun j => ((j : Nat) : Int)).map V.int) := by
    rw [← nats_int]
    exact eB.same s4
  walk_at "rd"
  refine ⟨Bt, js.map fun j => ((j : Nat) : Int), rfl, eB4, by rw [List.length_map]; omega, hbI, fun H5 s5 => ?_⟩
  rw [eT2]
  walk_at "rd"
  refine r_repr (.str _) ftext (by decide) (by decide) (.inr ⟨_, rfl⟩) ?_
  walk_at "rd"
  refine r_repr (.str _) ftext (by decide) (by decide) (.inr ⟨_, rfl⟩) ?_
  walk_at "rd"
  refine r_ne rfl ?_
  rw [v_eq]
  walk_at "rd"
  refine r_kw ?_
  walk_at "rd"
  refine ⟨rfl, Bt, js.map fun j => ((j : Nat) : Int), rfl, eB4.same s5, by rw [List.length_map]; omega, hbI, fun H6 s6 => ?_⟩
  rw [eT2]
  walk_at "rd"
  refine r_ne rfl ?_
  rw [v_eq]
  walk_at "rd"
  refine ⟨js, rfl, by omega, hj, fun P1 H7 s7 eP1 => ?_⟩
  have s47 := (s5.trans s6).trans s7
  rw [nats_int] at eP1
  walk_at "rd"
  refine ⟨intsD (js.map fun j => ((j : Nat) : Int)), intsD (js.map fun j => ((j : Nat) : Int)), eP1.ints, (eB4.same s47).ints, shaped_ints _, shaped_ints _, ?_⟩
  have lay1 : (intsD (js.map fun j => ((j : Nat) : Int))).canLay0 = true := by
    unfold intsD
    simp only [PyData.canLay0]
    exact lay_ints _
  rw [SeqAt.eqv_refl _ lay1]
  walk_at "rd"
  have hR7 := hR4.same s47
  have k07 := k04.trans (RK.of s47)
  have hT7 := hT.rk hR k07 nt
  have hA7 := RK.tsame hR k07 _ _ hA
  refine r_lnT hA7.sq ?_
  refine ⟨_, rfl, by rw [List.length_map]; omega, by rw [List.length_map]; omega, fun D3 hD3 => ?_⟩
  rw [List.length_map, Int.toNat_natCast]
  have nD3 := hR7.fresh hD3
  refine lc_it walk_nat (fun i H' => RK a b H7 H' ∧ Rng H' a b ∧ ∃ ls : List Nat, H' D3 = some (.lst (ls.map fun j => V.int ((j : Nat) : Int))) ∧ ls.length ≤ i ∧ (∀ j ∈ ls, j < i) ∧ ls.Pairwise (· < ·)) ⟨RK.of (same_upd hD3), hR7.same (same_upd hD3), [], upd_same, Nat.le_refl _, fun j hj => (by cases hj), .nil⟩ (fun _ _ _ _ => trivial) ?_ ?_
  · rintro i v H8 H9 hi ⟨k8, hR8, ls, eD3, hll, hlt, hpw⟩ ⟨rfl, rfl⟩
    refine ⟨rfl, ?_⟩
    walk_at "rd"
    refine ⟨a, b, 2, rfl, hR8, by decide, by decide, fun H10 r k10 hR10 hr10 => ?_⟩
    walk_at "rd"
    refine r_eq rfl ?_
    rw [int_eqd]
    have eD10 := k10.at eD3 nD3
    walk_at "rd"
    refine r_dec (fun _ => ?_) fun _ => ?_
    · walk_at "rd"
      refine ⟨_, eD10, by rw [List.length_map]; exact small' (by omega), RK.set hD3 (k8.trans k10), hR10.upd nD3, ls ++ [i], by rw [upd_same, List.map_append] <;> rfl, by rw [List.length_append, List.length_singleton]; omega, fun j hj' => ?_, ?_⟩
      · rcases List.mem_append.mp hj' with h | h
        · have := hlt j h
          omega
        · rw [List.mem_singleton.mp h]
          omega
      · refine List.pairwise_append.mpr ⟨hpw, List.pairwise_singleton _ _, fun x hx y hy => ?_⟩
        rw [List.mem_singleton.mp hy]
        exact hlt x hx
    · exact ⟨k8.trans k10, hR10, ls, eD10, by omega, fun j hj' => Nat.lt_succ_of_lt (hlt j hj'), hpw⟩
  rintro H8 ⟨k8, hR8, ls, eD8, hll, hlt, hpw⟩
  have k08 := k07.trans k8
  walk_at "rd"
  refine ⟨D3, _, rfl, SqL.of eD8, fun Lt o9 hLt _ => ?_⟩
  have s9 := same_upd (o := .frz o9 (.tup (ls.map fun j => V.int ((j : Nat) : Int)))) hLt
  have eL : TupAt (upd H8 Lt (.frz o9 (.tup (ls.map fun j => V.int ((j : Nat) : Int))))) Lt (ls.map fun j => V.int ((j : Nat) : Int)) := TupAt.frz upd_same
  have hR9 := hR8.same s9
  have k09 := k08.trans (RK.of s9)
  generalize upd H8 Lt (.frz o9 (.tup (ls.map fun j => V.int ((j : Nat) : Int)))) = H9 at eL hR9 k09 ⊢
  have hA9 := RK.tsame hR k09 _ _ hA
  have hT9 := hT.rk hR k09 nt
  walk_at "rd"
  refine ⟨Lt, rfl, ⟨_, eL.sq⟩, fun D4 hD4 => lc_map walk_tup (fun j => ls[j]?.map fun i => .str (SX.S (nmAt ns i))) hD4 ?_ (fun H' s2 => (eL.same s2).sq) yAt_same ?_ ?_⟩
  · rw [List.length_map]
    exact small' (by omega)
  · rintro j v H10 H11 R R0 hi s10 s11 ⟨rfl, ev⟩ c1 c2
    rw [List.length_map] at hi
    rw [List.getElem?_map, List.getElem?_eq_getElem hi] at ev
    obtain rfl := Option.some.inj ev
    refine ⟨rfl, ?_⟩
    walk_at "rd"
    refine r_ixT (hA9.same s11).sq (at_nm (hlt _ (List.getElem_mem hi))) ?_
    exact c1 _ _ (by rw [List.getElem?_eq_getElem hi] <;> rfl) (Same.refl _)
  intro H10 s10 e10
  rw [List.length_map, filterMap_all ls _ (fun i => .str (SX.S (nmAt ns i))) fun i hi => by rw [List.getElem?_eq_getElem hi] <;> rfl] at e10
  refine ⟨[32], D4, ls.map (nmAt ns), rfl, rfl, .inl (SqL.of (e10.trans (by rw [List.map_map] <;> rfl))), ?_, ?_⟩
  · refine join_le (x := 32) (m := 12) (k := 6) (by rw [List.length_map]; omega) (fun y hy => ?_) (by decide)
    obtain ⟨i, hi, rfl⟩ := List.mem_map.mp hy
    exact nm_le hn (hlt _ hi)
  have eT3 : TL.joinL [32] (ls.map (nmAt ns)) = rowT (ls.map fun j => Word.nm (nmAt ns j)) := by
    unfold rowT
    rw [List.map_map] <;> rfl
  rw [eT3]
  have ok2 : ∀ w ∈ ls.map fun j => Word.nm (nmAt ns j), w.Ok := fun w hw => by
    obtain ⟨j, hj, rfl⟩ := List.mem_map.mp hw
    exact nmAt_name hn (hlt j hj)
  have ftext2 := (fine_str (rowT_chars ok2)).mono (Nat.le_refl 0) (Nat.le_trans (rowT_le (k := 11) fun w hw => by
    obtain ⟨j, hj1, rfl⟩ := List.mem_map.mp hw
    exact Nat.le_trans (nm_le hn (hlt j hj1)) (by decide)) (show (ls.map fun j => Word.nm (nmAt ns j)).length * 12 ≤ 1000 by rw [List.length_map]; omega))
  have hR10 := hR9.same s10
  have k010 := k09.trans (RK.of s10)
  have eL10 := eL.same s10
  have hT10 := hT9.same s10
  walk_at "rd"
  refine ⟨t, Lt, ns, ts, ls, rfl, hT10.at, hn, eL10, by omega, hlt, fun H11 s11 => ?_⟩
  walk_at "rd"
  refine r_repr (.str _) ftext2 (by decide) (by decide) (.inr ⟨_, rfl⟩) ?_
  walk_at "rd"
  refine r_repr (.str _) ftext2 (by decide) (by decide) (.inr ⟨_, rfl⟩) ?_
  walk_at "rd"
  refine r_eq rfl ?_
  rw [v_eq]
  walk_at "rd"
  refine r_kw ?_
  walk_at "rd"
  refine ⟨rfl, t, Lt, ns, ts, ls, rfl, (hT10.same s11).at, hn, eL10.same s11, by omega, hlt, fun H12 s12 => ?_⟩
  walk_at "rd"
  refine r_eq rfl ?_
  rw [v_eq]
  walk_at "rd"
  refine ⟨t, ns, ts, ls, rfl, (hT10.same s11).same s12, hn, by omega, hlt, hpw, fun P2 H13 s13 eP2 => ?_⟩
  have s1013 := (s11.trans s12).trans s13
  rw [nats_int] at eP2
  rw [nats_int] at eL10
  walk_at "rd"
  refine ⟨intsD (ls.map fun j => ((j : Nat) : Int)), intsD (ls.map fun j => ((j : Nat) : Int)), eP2.ints, (eL10.same s1013).ints, shaped_ints _, shaped_ints _, ?_⟩
  have lay2 : (intsD (ls.map fun j => ((j : Nat) : Int))).canLay0 = true := by
    unfold intsD
    simp only [PyData.canLay0]
    exact lay_ints _
  rw [SeqAt.eqv_refl _ lay2]
  exact q H13 (k010.trans (RK.of s1013)) (hR10.same s1013)
end
end K07

set_option maxRecDepth 100000
set_option maxHeartbeats 4000000
namespace K07
open PySem PySem.Spec PyProof.Rows L2
local macro_rules | `(tactic| walk_at "rd") => `(tactic| repeat (first
  | with_reducible refine r_seq ?_ | with_reducible refine r_asg ?_ | with_reducible refine r_name ?_ | with_reducible refine r_ret ?_ | with_reducible refine r_drop ?_ | with_reducible refine r_if ?_ | with_reducible refine r_nx ?_
  | with_reducible refine r_c ?_ | with_reducible refine r_op ?_ | with_reducible refine r_un ?_ | with_reducible refine r_cons ?_ | with_reducible refine r_nil ?_ | with_reducible refine r_test ?_ | with_reducible refine r_B ?_
  | with_reducible refine r_and ?_ | with_reducible refine r_or ?_ | with_reducible refine r_not ?_ | with_reducible refine r_andV ?_ | with_reducible refine r_orV ?_ | with_reducible refine r_notV ?_ | with_reducible refine r_tif ?_
  | with_reducible refine r_chain ?_ | with_reducible refine r_tyes ?_ | with_reducible refine r_lc ?_ | with_reducible refine r_rng1 ?_ | with_reducible refine r_itup ?_ | with_reducible refine r_ilist ?_ | with_reducible refine r_ienum ?_ | with_reducible refine r_istr ?_
  | with_reducible refine r_tup ?_ | with_reducible refine r_lst ?_ | with_reducible refine r_tfld ?_ | with_reducible refine r_gcons ?_ | with_reducible refine r_gnil ?_ | with_reducible refine r_gfld ?_ | with_reducible refine r_for ?_ | with_reducible refine r_sfld ?_ | with_reducible refine r_call ?_ | with_reducible refine r_cb ?_ | with_reducible refine r_sl ?_ | with_reducible refine r_np ?_ | with_reducible refine r_pt ?_ | with_reducible refine r_m1 ?_ | with_reducible refine r_par ?_ | with_reducible refine r_p2 ?_ | with_reducible refine r_u ?_ | with_reducible refine r_meth ?_ | with_reducible refine r_make ?_ | with_reducible refine r_gsub ?_ | with_reducible refine r_bm ?_ | with_reducible refine r_bm0 ?_ | with_reducible refine r_j0 ?_ | with_reducible refine r_jF ?_ | with_reducible refine r_jN ?_ | with_reducible refine r_bl ?_ | with_reducible refine r_i0 ?_ | with_reducible refine tt_ite ?_ | with_reducible refine ff_ite ?_ | with_reducible refine nt_ite ?_ | with_reducible refine nf_ite ?_
  | with_reducible refine r_var (by with_unfolding_all exact rfl) ?_))
/-! ### days and times shown -/
def timeD : Time → PyData
  | none => .none
  | some i => .int i
theorem dp_times {K : PySem.W.Frag} {H : Hp} : ∀ l : List Time, DpAll K H (l.map timeV) (l.map timeD)
  | [] => .nil
  | none :: l => .cons .non (dp_times l)
  | some i :: l => .cons (.int i) (dp_times l)
theorem fine_times {l : List Time} (h : TimesOk l) : Fine 1 1000 (.tuple (l.map timeD)) := by
  have key : Fine 1 (12 * (31 + 1)) (.tuple (l.map timeD)) := by
    refine fine_tuple (k := 0) (W := 31) (n := 12) (fun d hd => ?_) (by rw [List.length_map]; exact h.1)
    obtain ⟨x, hx, rfl⟩ := List.mem_map.mp hd
    cases x with
    | none => exact fine_none.mono (Nat.le_refl _) (by decide)
    | some i => exact fine_int (h.2 i hx)
  exact key.mono (Nat.le_refl _) (by decide)
def dayD (d : List (List Pr)) : PyData := .tuple (d.map fun ps => .tuple (ps.map prD))
theorem DayAt.dp {K : PySem.W.Frag} {H : Hp} {p : Addr} {d : List (List Pr)} (h : DayAt H p d) : Dp K H (.ref p) (dayD d) := by
  obtain ⟨as, h1, h2⟩ := h
  refine .tup h1.sq (dpAll_all2 (fun q ps h => ?_) h2)
  obtain ⟨qs, g1, g2⟩ := h
  exact .tup g1.sq (dpAll_all2 (fun q p h => dp_pr h) g2)
theorem fine_day {ns : List Cs} {d : List (List Pr)} (h : DayRun true ns d) (hn : ns.length ≤ 12) : Fine 3 100000 (dayD d) := by
  have key : Fine 3 (12 * (5000 + 1)) (dayD d) := by
    refine fine_tuple (k := 2) (W := 5000) (n := 12) (fun e he => ?_) (by rw [List.length_map]; exact h.len)
    obtain ⟨ps, hps, rfl⟩ := List.mem_map.mp he
    obtain ⟨_, h2, h3, _⟩ := h.row ps hps
    refine (fine_tuple (k := 1) (W := 2 * 32) (n := 12) (fun e he => ?_) (by rw [List.length_map]; exact h2)).mono (Nat.le_refl _) (by decide)
    obtain ⟨p, hp, rfl⟩ := List.mem_map.mp he
    obtain ⟨g1, g2⟩ := h3 p hp
    refine fine_tuple (k := 0) (W := 31) (n := 2) (fun e he => ?_) (Nat.le_refl 2)
    rcases List.mem_cons.mp he with rfl | he
    · exact fine_int (by omega)
    · rw [List.mem_singleton.mp he]
      exact fine_int g2
  exact key.mono (Nat.le_refl _) (by decide)
theorem setAll_vals {ps : List Pr} : ∀ {l : List Time}, (∀ i : Int, some i ∈ l → i.natAbs ≤ 1000000000) → (∀ p ∈ ps, p.2.natAbs ≤ 1000000000) → ∀ i : Int, some i ∈ setAll l ps → i.natAbs ≤ 1000000000 := by
  induction ps with
  | nil => intro l h _ i hi; exact h i hi
  | cons p ps ih =>
    intro l h hp
    refine ih (l := l.set p.1 (some p.2)) (fun i hi => ?_) fun q hq => hp q (List.mem_cons_of_mem _ hq)
    rcases List.mem_or_eq_of_mem_set hi with h1 | h1
    · exact h i h1
    · rw [Option.some.inj h1]
      exact hp p List.mem_cons_self
theorem timesAll_ok {ns : List Cs} {d : List (List Pr)} (h : ∀ ps ∈ d, ∀ p ∈ ps, PrOk ns.length p) (hn : ns.length ≤ 12) : TimesOk (timesAll ns.length d) := by
  refine ⟨by rw [timesAll_len]; exact hn, ?_⟩
  have : ∀ (d : List (List Pr)) (l : List Time), (∀ ps ∈ d, ∀ p ∈ ps, PrOk ns.length p) → (∀ i : Int, some i ∈ l → i.natAbs ≤ 1000000000) → ∀ i : Int, some i ∈ d.foldl setAll l → i.natAbs ≤ 1000000000 := by
    intro d
    induction d with
    | nil => intro l _ h i hi; exact h i hi
    | cons ps d ih =>
      intro l hd h
      exact ih (setAll l ps) (fun q hq => hd q (List.mem_cons_of_mem _ hq)) (setAll_vals h fun p hp => (hd ps List.mem_cons_self p hp).2)
  exact this d _ h fun i hi => by
    have := List.eq_of_mem_replicate hi
    cases this
def dayTx (ns : List Cs) (ps : List Pr) : List Cs := ps.flatMap fun p => [nmAt ns p.1, intL p.2]
theorem dayTx_eq (ns : List Cs) (ps : List Pr) : dayTx ns ps = (dayRow ns ps).map Word.text := by
  unfold dayTx dayRow
  induction ps with
  | nil => rfl
  | cons p ps ih => rw [List.flatMap_cons, List.flatMap_cons, List.map_append, ih] <;> rfl
theorem dayTx_le (ns : List Cs) (ps : List Pr) : (dayTx ns ps).length = 2 * ps.length := by
  unfold dayTx
  induction ps with
  | nil => rfl
  | cons p ps ih =>
    rw [List.flatMap_cons, List.length_append, ih, show (p :: ps).length = ps.length + 1 from rfl]
    show 2 + _ = _
    omega
section
variable {P : Program} {w : World} {K : PySem.W.Frag} {mg : Str → Option Value} {base : Heap}
def spDaysShown (K : PySem.W.Frag) : Sp := fun vs H Q _ => ∃ (a b t A : Addr) (ns : List Cs) (ts : List Tie), vs = [.ref a, .ref t, .ref A] ∧ Rng H a b ∧ TabF K H t ns ts ∧ TupAt H A (strL ns) ∧ NamesOk ns ∧ (t ≠ a ∧ t ≠ b) ∧
  ∀ (H' : Hp), RK a b H H' → Rng H' a b → Q (.bl true) H'
theorem mkG_law_days_shown (W : Wd K mg) {k : Nat} {sp : Sp} (len : Len 3 sp) (h : BodyG P w K mg base N_law_days_shown "_law_days_shown" s_law_days_shown (He.fAd K ("_law_days_shown", none)) k sp) : CalG P w K mg base (k + 1) "_law_days_shown" sp := by
  obtain ⟨fd, F⟩ := W.says.f_law_days_shown
  exact ⟨_, fd, ["_law_heap_here", "_law_table", "_law_things"], bodyG_ok F sc_law_days_shown len h, W.g_law_days_shown, F.kp, F.bindsN (fun _ _ _ _ _ _ us hl => match us, hl with | [_, _, _], _ => rfl)⟩
theorem flat_non (n : Nat) : (List.replicate n [V.non]).flatten = (List.replicate n (none : Time)).map timeV := by
  induction n with
  | zero => rfl
  | succ n ih => rw [List.replicate_succ, List.flatten_cons, ih, List.replicate_succ] <;> rfl
theorem cal_law_days_shown (W : Wd K mg) : CalG P w K mg base 10 "_law_days_shown" (spDaysShown K) := by
  refine mkG_law_days_shown W (fun vs H Q E h => ?_) fun cdv A0 outer s H vs Q E hgd hr h => ?_
  · obtain ⟨a, b, t, A, ns, ts, rfl, _⟩ := h
    rfl
  obtain ⟨a, b, t, A, ns, ts, rfl, hR, hT, hA, hn, nt, q⟩ := h
  refine ⟨_, (pss_cons (ps_asg (pe_tup (pa_cons (C8.pe_c (cal_law_day W) hr (by decide) rfl (pa_cons (pv 0) (pa_cons (pe_callB (crLn (K := K)) rfl W.z_len (by decide +kernel) (pa_cons (pv 2) pa_nil)) pa_nil))) (pa_cons (pe_op op_rep (pe_lst (pa_cons pe_non pa_nil)) (pe_callB (crLn (K := K)) rfl W.z_len (by decide +kernel) (pa_cons (pv 2) pa_nil))) pa_nil))) (pgT (K := K) (n := 2) rfl rfl (pgs_cons (pg_name (i := 3) sc_law_days_shown.nd rfl (Or.inl rfl)) (pgs_cons (pg_name (i := 4) sc_law_days_shown.nd rfl (Or.inr rfl)) pgs_nil))))
    (pss_cons (ps_set (i := 5) sc_law_days_shown.nd rfl (.inl rfl) (pe_lst pa_nil))
    (pss_cons (ps_for PassesOwn.never rfl (piT (K := K) rfl (pv 3)) (pg_name (i := 6) sc_law_days_shown.nd rfl (Or.inl rfl))
    (pss_cons (ps_set (i := 7) sc_law_days_shown.nd rfl (.inl rfl) (pe_lst pa_nil))
    (pss_cons (ps_for PassesOwn.never rfl (piT (K := K) rfl (pv 6)) (pgT (K := K) (n := 2) rfl rfl (pgs_cons (pg_name (i := 8) sc_law_days_shown.nd rfl (Or.inl rfl)) (pgs_cons (pg_name (i := 9) sc_law_days_shown.nd rfl (Or.inl rfl)) pgs_nil)))
    (pss_cons (ps_set (i := 7) sc_law_days_shown.nd rfl (.inl rfl) (pe_op op_cat (pv 7) (pe_lst (pa_cons (pe_ix (ixT (K := K)) (pv 2) (pv 8) (fun _ _ => rfl)) (pa_cons (pe_callTy call_str_int rfl W.z_str (by decide +kernel) (pa_cons (pv 9) pa_nil)) pa_nil)))))
    (pss_one (ps_asg (pv 9) (pg_sub (pv 4) (pv 8) set_list)))))
    (pss_one (ps_expr (pe_bm PySem.F.plainAttrs_list PySem.F.slot_list_append PySem.F.type_list_append mt_append (pv 5) (pa_cons (pv 7) pa_nil)))))))
    (pss_cons (ps_set (i := 10) sc_law_days_shown.nd rfl (.inl rfl) (C8.pe_c (cal_law_lines W) hr (by decide) rfl (pa_cons (pv 5) pa_nil)))
    (pss_cons (ps_if (PW.pt (pw_or (pt_cmpR op_ne (pe_callB (crRepr (K := K) hgd hr) rfl W.z_repr (by decide +kernel) (pa_cons (C8.pe_c (cal_show_day W) hr (by decide) rfl (pa_cons (pv 1) (pa_cons (pv 3) pa_nil))) pa_nil)) (pe_callB (crRepr (K := K) hgd hr) rfl W.z_repr (by decide +kernel) (pa_cons (pv 10) pa_nil)) (nomark _)) (pw_or (pt_cmpR op_ne (pe_kw (kcal_show_day W) hr (by decide) rfl (pk_cons (pv 3) (pk_cons (pv 1) pk_nil))) (pv 10) (nomark _)) (pw_or1 (pt_cmpR op_ne (pe_callB (crRepr (K := K) hgd hr) rfl W.z_repr (by decide +kernel) (pa_cons (C8.pe_c (cal_read_day W) hr (by decide) rfl (pa_cons (pv 1) (pa_cons (pv 10) pa_nil))) pa_nil)) (pe_callB (crRepr (K := K) hgd hr) rfl W.z_repr (by decide +kernel) (pa_cons (pv 3) pa_nil)) (nomark _))))))
    (pss_one (ps_ret pe_bl))
    pss_nil)
    (pss_cons (ps_set (i := 11) sc_law_days_shown.nd rfl (.inl rfl) (C8.pe_c (cal_law_glued W) hr (by decide) rfl (pa_cons (pv 0) (pa_cons (C8.pe_c (cal_law_spread W) hr (by decide) rfl (pa_cons (pv 0) (pa_cons (C8.pe_c (cal_law_day_lines W) hr (by decide) rfl (pa_cons (pv 0) (pa_cons (pv 2) (pa_cons (pv 3) pa_nil)))) pa_nil))) pa_nil))))
    (pss_cons (ps_if (pt_cmpR op_gt (pe_callB (crLn (K := K)) rfl W.z_len (by decide +kernel) (pa_cons (C8.pe_c (cal_marks_in W) hr (by decide) rfl (pa_cons (pv 10) pa_nil)) pa_nil)) (pe_callB (crLn (K := K)) rfl W.z_len (by decide +kernel) (pa_cons (C8.pe_c (cal_marks_in W) hr (by decide) rfl (pa_cons (pv 11) pa_nil)) pa_nil)) (nomark _))
    (pss_one (ps_ret pe_bl))
    pss_nil)
    (pss_cons (ps_set (i := 10) sc_law_days_shown.nd rfl (.inl rfl) (C8.pe_c (cal_law_lines W) hr (by decide) rfl (pa_cons (pe_lc (own := [("_law_thing", 8)]) (g := gName 8) rfl sc_law_days_shown.nd (pi_range1 rfl W.z_range (pa_cons (pe_callB (crLn (K := K)) rfl W.z_len (by decide +kernel) (pa_cons (pv 2) pa_nil)) pa_nil)) (blkOk_by (own := [("_law_thing", 8)]) (N := N_law_days_shown) (sc := defScope s_law_days_shown) (by decide +kernel)) (fun _ _ _ _ _ => (pg_name (i := 8) sc_law_days_shown.nd rfl (Or.inl rfl))) (fun _ _ _ _ _ => pts_one (pt_cmpR op_notN (pe_ix (ixL (K := K)) (pv 4) (pv 8) (fun _ _ => rfl)) pe_non (nomark _))) (fun _ _ _ _ _ => (pe_lst (pa_cons (pe_ix (ixT (K := K)) (pv 2) (pv 8) (fun _ _ => rfl)) (pa_cons (pe_callTy call_str_int rfl W.z_str (by decide +kernel) (pa_cons (pe_ix (ixL (K := K)) (pv 4) (pv 8) (fun _ _ => rfl)) pa_nil)) pa_nil))))) pa_nil)))
    (pss_cons (ps_if (PW.pt (pw_or (pt_cmpR op_ne (pe_callB (crRepr (K := K) hgd hr) rfl W.z_repr (by decide +kernel) (pa_cons (C8.pe_c (cal_show_times W) hr (by decide) rfl (pa_cons (pv 1) (pa_cons (pe_callTy (crTp (K := K)) rfl W.z_tuple (by decide +kernel) (pa_cons (pv 4) pa_nil)) pa_nil))) pa_nil)) (pe_callB (crRepr (K := K) hgd hr) rfl W.z_repr (by decide +kernel) (pa_cons (pv 10) pa_nil)) (nomark _)) (pw_or1 (pt_cmpR op_ne (pe_kw (kcal_show_times W) hr (by decide) rfl (pk_cons (pe_callTy (crTp (K := K)) rfl W.z_tuple (by decide +kernel) (pa_cons (pv 4) pa_nil)) (pk_cons (pv 1) pk_nil))) (pv 10) (nomark _)))))
    (pss_one (ps_ret pe_bl))
    pss_nil)
    (pss_one (ps_ret (pe_cmpR op_eq (pe_callB (crRepr (K := K) hgd hr) rfl W.z_repr (by decide +kernel) (pa_cons (C8.pe_c (cal_read_times W) hr (by decide) rfl (pa_cons (pv 1) (pa_cons (pv 10) pa_nil))) pa_nil)) (pe_callB (crRepr (K := K) hgd hr) rfl W.z_repr (by decide +kernel) (pa_cons (pe_callTy (crTp (K := K)) rfl W.z_tuple (by decide +kernel) (pa_cons (pv 4) pa_nil)) pa_nil)) (nomark _))))))))))))), ?_⟩
  have hn1 := hn.1
  have hn2 := hn.2.1
  walk_at "rd"
  refine r_lnT hA.sq ?_
  rw [List.length_map]
  walk_at "rd"
  refine ⟨a, b, ns.length, rfl, hR, hn1, hn2, fun H1 B d k1 hR1 hB hrun => ?_⟩
  have hrun := hrun ns rfl
  have hA1 := RK.tsame hR k1 _ _ hA
  have hT1 := hT.rk hR k1 nt
  walk_at "rd"
  refine ⟨small (show 1 ≤ 100 by decide), fun L0 hL0 => ?_⟩
  have s2 := same_upd (o := .lst [.non]) hL0
  have eL0 : upd H1 L0 (.lst [.non]) L0 = some (.lst [.non]) := upd_same
  generalize upd H1 L0 (.lst [.non]) = H2 at s2 eL0 ⊢
  walk_at "rd"
  refine r_lnT (hA1.same s2).sq ?_
  rw [List.length_map]
  refine ⟨L0, (ns.length : Nat), _, rfl, rfl, eL0, by omega, by omega, ?_, fun L hL => ?_⟩
  · rw [Int.toNat_natCast]
    exact small (show 1 * ns.length ≤ 100 by omega)
  rw [Int.toNat_natCast, flat_non]
  have s3 := same_upd (o := .lst ((List.replicate ns.length (none : Time)).map timeV)) hL
  have eL3 : upd H2 L (.lst ((List.replicate ns.length (none : Time)).map timeV)) L = some (.lst ((List.replicate ns.length (none : Time)).map timeV)) := upd_same
  have hL1 : H1 L = none := none_of s2 hL
  have s13 := s2.trans s3
  generalize upd H2 L (.lst ((List.replicate ns.length (none : Time)).map timeV)) = H3 at s13 eL3 ⊢
  walk_at "rd"
  refine ⟨small (show 2 ≤ 100 by decide), fun T hT' => ?_⟩
  have s4 := same_upd (o := .tup [.ref B, .ref L]) hT'
  refine r_gtup (xs := [.ref B, .ref L]) (TupAt.of upd_same).sq rfl ?_
  have s14 := s13.trans s4
  have eL4 := s4 _ _ eL3
  generalize upd H3 T (.tup [.ref B, .ref L]) = H4 at s14 eL4 ⊢
  walk_at "rd"
  refine ⟨small (by decide), fun R hRf => ?_⟩
  have s5 := same_upd (o := .lst []) hRf
  have hR1n : H1 R = none := none_of s14 hRf
  have s15 := s14.trans s5
  have eL5 := s5 _ _ eL4
  have LR : L ≠ R := ne_none eL4 hRf
  have eR5 : upd H4 R (.lst []) R = some (.lst []) := upd_same
  generalize upd H4 R (.lst []) = H5 at s15 eL5 eR5 ⊢
  obtain ⟨bs, hB0, h2⟩ := id hB
  walk_at "rd"
  refine ⟨B, rfl, ⟨_, (hB0.same s15).sq⟩, ?_⟩
  refine for_w (walk_tup (xs := bs.map V.ref)) (fun i σ H' => (∃ y6 y7 y8 y9 y10 y11, σ = [some (.ref a), some (.ref t), some (.ref A), some (.ref B), some (.ref L), some (.ref R), y6, y7, y8, y9, y10, y11]) ∧ Same H1 H' ∧ H' L = some (.lst ((timesAll ns.length (d.take i)).map timeV)) ∧
    ∃ as : List Addr, H' R = some (.lst (as.map V.ref)) ∧ All2 (fun q ws => (q ≠ L ∧ q ≠ R) ∧ H' q = some (.lst (strL ws))) as ((d.take i).map (dayTx ns))) ⟨⟨_, _, _, _, _, _, rfl⟩, s15, eL5, [], eR5, .nil⟩ (fun i σ H' _ p => (hB0.same p.2.1).sq) ?_ ?_
  · rintro i v σ H6 H7 N hi ⟨⟨y6, y7, y8, y9, y10, y11, rfl⟩, s6, eL6, as, eR6, has⟩ ⟨rfl, ev⟩ k
    obtain ⟨B1, ps, rfl, ex, qs, hq1, hq2⟩ := h2.at i v ev
    obtain ⟨hpne, hp12, hpok, hpw⟩ := hrun.row ps (List.mem_of_getElem? ex)
    have hi12 : i < 12 := by
      have := (List.getElem?_eq_some_iff.mp ex).1
      have := hrun.len
      omega
    have tk : d.take (i + 1) = d.take i ++ [ps] := by rw [List.take_succ, ex] <;> rfl
    walk_at "rd"
    refine ⟨small (by decide), fun W0 hW0 => ?_⟩
    have s8 := same_upd (o := .lst []) hW0
    have eW0 : upd H7 W0 (.lst []) W0 = some (.lst []) := upd_same
    have nW0 : W0 ≠ L ∧ W0 ≠ R := ⟨(ne_none eL6 hW0).symm, (ne_none eR6 hW0).symm⟩
    have eL8 := s8 _ _ eL6
    have eR8 := s8 _ _ eR6
    have has8 : All2 (fun q ws => (q ≠ L ∧ q ≠ R) ∧ upd H7 W0 (.lst []) q = some (.lst (strL ws))) as ((d.take i).map (dayTx ns)) := has.imp fun q ws h => ⟨h.1, s8 _ _ h.2⟩
    have s18 := s6.trans s8
    generalize upd H7 W0 (.lst []) = H8 at s18 eW0 eL8 eR8 has8 ⊢
    walk_at "rd"
    refine ⟨B1, rfl, ⟨_, (hq1.same s18).sq⟩, ?_⟩
    refine for_w (walk_tup (xs := qs.map V.ref)) (fun j σ H' => ∃ (y8 y9 : Option V) (W1 : Addr), σ = [some (.ref a), some (.ref t), some (.ref A), some (.ref B), some (.ref L), some (.ref R), some (.ref B1), some (.ref W1), y8, y9, y10, y11] ∧ Same H1 H' ∧ (W1 ≠ L ∧ W1 ≠ R) ∧ H' W1 = some (.lst (strL (dayTx ns (ps.take j)))) ∧
      H' L = some (.lst ((setAll (timesAll ns.length (d.take i)) (ps.take j)).map timeV)) ∧ H' R = some (.lst (as.map V.ref)) ∧ All2 (fun q ws => (q ≠ L ∧ q ≠ R) ∧ H' q = some (.lst (strL ws))) as ((d.take i).map (dayTx ns))) ⟨_, _, W0, rfl, s18, nW0, eW0, eL8, eR8, has8⟩ (fun j σ H' _ h => ?_) ?_ ?_
    · obtain ⟨_, _, _, _, s9, _⟩ := h
      exact (hq1.same s9).sq
    · rintro j v σ H9 H10 N2 hj ⟨y8, y9, W1, rfl, s9, nW1, eW1, eL9, eR9, has9⟩ ⟨rfl, ev⟩ k'
      obtain ⟨q0, pr, rfl, epr, hq0⟩ := hq2.at j v ev
      have hok := hpok pr (List.mem_of_getElem? epr)
      have hj12 : j < 12 := by
        have := (List.getElem?_eq_some_iff.mp epr).1
        omega
      refine r_gtup (xs := [.int pr.1, .int pr.2]) (hq0.same s9).sq rfl ?_
      walk_at "rd"
      refine r_ixT (hA1.same s9).sq (at_nm hok.1) ?_
      walk_at "rd"
      refine ⟨_, rfl, log_le hok.2, ?_⟩
      rw [intL_str]
      walk_at "rd"
      refine ⟨small (show 2 ≤ 100 by decide), fun M hM => ?_⟩
      have s11 := same_upd (o := .lst [.str (SX.S (nmAt ns pr.1)), .str (SX.S (intL pr.2))]) hM
      have lw := dayTx_le ns (ps.take j)
      rw [List.length_take] at lw
      refine ⟨W1, M, _, _, rfl, rfl, s11 _ _ eW1, upd_same, ?_, fun W2 hW2 => ?_⟩
      · rw [List.length_map]
        exact small (show _ + 2 ≤ 100 by omega)
      have s12 := same_upd (o := .lst (strL (dayTx ns (ps.take j)) ++ [.str (SX.S (nmAt ns pr.1)), .str (SX.S (intL pr.2))])) hW2
      have sA := s11.trans s12
      have eL12 := sA _ _ eL9
      have eR12 := sA _ _ eR9
      have nW2 : W2 ≠ L ∧ W2 ≠ R := ⟨(ne_none (s11 _ _ eL9) hW2).symm, (ne_none (s11 _ _ eR9) hW2).symm⟩
      have eW2 : upd (upd H10 M (.lst [.str (SX.S (nmAt ns pr.1)), .str (SX.S (intL pr.2))])) W2 (.lst (strL (dayTx ns (ps.take j)) ++ [.str (SX.S (nmAt ns pr.1)), .str (SX.S (intL pr.2))])) W2 = some (.lst (strL (dayTx ns (ps.take (j + 1))))) := by
        rw [upd_same, List.take_succ, epr, show (some pr).toList = [pr] from rfl]
        unfold dayTx
        rw [List.flatMap_append, List.flatMap_cons, List.flatMap_nil, List.append_nil, strL, strL, List.map_append] <;> rfl
      have has12 : All2 (fun q ws => (q ≠ L ∧ q ≠ R) ∧ upd (upd H10 M (.lst [.str (SX.S (nmAt ns pr.1)), .str (SX.S (intL pr.2))])) W2 (.lst (strL (dayTx ns (ps.take j)) ++ [.str (SX.S (nmAt ns pr.1)), .str (SX.S (intL pr.2))])) q = some (.lst (strL ws))) as ((d.take i).map (dayTx ns)) := has9.imp fun q ws h => ⟨h.1, sA _ _ h.2⟩
      have s112 := s9.trans sA
      generalize upd (upd H10 M (.lst [.str (SX.S (nmAt ns pr.1)), .str (SX.S (intL pr.2))])) W2 (.lst (strL (dayTx ns (ps.take j)) ++ [.str (SX.S (nmAt ns pr.1)), .str (SX.S (intL pr.2))])) = H12 at s112 eL12 eR12 eW2 has12 ⊢
      walk_at "rd"
      refine ⟨L, _, pr.1, pr.1, rfl, rfl, eL12, ixN_nat (by rw [List.length_map, setAll_len, timesAll_len]; exact hok.1), ?_⟩
      refine k' _ _ ⟨some (.int (pr.1 : Nat)), some (.int pr.2), W2, rfl, same_set hL1 s112, nW2, (upd_ne nW2.1).trans eW2, ?_, (upd_ne LR.symm).trans eR12, has12.imp fun q ws h => ⟨h.1, (upd_ne h.1.1).trans h.2⟩⟩
      rw [upd_same, List.take_succ, epr, show (some pr).toList = [pr] from rfl, setAll_snoc, List.map_set] <;> rfl
    · rintro σ H9 ⟨y8, y9, W1, rfl, s9, nW1, eW1, eL9, eR9, has9⟩
      have tkp : ps.take (qs.map V.ref).length = ps := List.take_of_length_le (by rw [List.length_map, hq2.length]; exact Nat.le_refl _)
      rw [tkp] at eW1 eL9
      have las := has9.length
      rw [List.length_map, List.length_take] at las
      walk_at "rd"
      refine r_tyL eR9 ?_
      walk_at "rd"
      refine r_app eR9 (by rw [List.length_map]; omega) (k _ _ ⟨⟨_, _, _, _, _, _, rfl⟩, same_set hR1n s9, ?_, as ++ [W1], by rw [upd_same, List.map_append] <;> rfl, ?_⟩)
      · rw [upd_ne LR, eL9, tk]
        unfold timesAll
        rw [List.foldl_append] <;> rfl
      · rw [tk, List.map_append]
        exact (has9.imp fun q ws h => ⟨h.1, (upd_ne h.1.2).trans h.2⟩).snoc ⟨nW1, (upd_ne nW1.2).trans eW1⟩
  rintro σ H6 ⟨⟨y6, y7, y8, y9, y10, y11, rfl⟩, s6, eL6, as, eR6, has⟩
  have tkd : d.take (bs.map V.ref).length = d := List.take_of_length_le (by rw [List.length_map, h2.length]; exact Nat.le_refl _)
  rw [tkd] at eL6 has
  have hpok : ∀ ps ∈ d, ∀ p ∈ ps, PrOk ns.length p := fun ps hps => (hrun.row ps hps).2.2.1
  have eD : (d.map (dayTx ns)).map (TL.joinL [32]) = (d.map (dayRow ns)).map rowT := by
    rw [List.map_map, List.map_map]
    refine List.map_congr_left fun ps _ => ?_
    show TL.joinL [32] (dayTx ns ps) = rowT (dayRow ns ps)
    rw [dayTx_eq] <;> rfl
  walk_at "rd"
  refine ⟨R, d.map (dayTx ns), rfl, ⟨as, eR6, has.imp fun q ws h => h.2⟩, by rw [List.length_map]; have := hrun.len; omega, fun ws hws => ?_, ?_⟩
  · obtain ⟨ps, hps, rfl⟩ := List.mem_map.mp hws
    obtain ⟨_, g2, g3, _⟩ := hrun.row ps hps
    refine ⟨by rw [dayTx_le]; omega, fun x hx => ?_⟩
    obtain ⟨p, hp, hx⟩ := List.mem_flatMap.mp hx
    rcases List.mem_cons.mp hx with rfl | hx
    · exact Nat.le_trans (nm_le hn (g3 p hp).1) (by decide)
    · rw [List.mem_singleton.mp hx]
      exact Nat.le_trans (intL_le (g3 p hp).2) (by decide)
  rw [show TL.joinL [10] ((d.map (dayTx ns)).map (TL.joinL [32])) = showR (d.map (dayRow ns)) by rw [eD] <;> rfl]
  have hT6 := hT1.same s6
  have hA6 := hA1.same s6
  have hB6 := DayAt.tsame (Same.ts s6) hB
  have hdok : DayOk ns.length d := ⟨hrun.len, fun ps hps => ⟨(hrun.row ps hps).1, (hrun.row ps hps).2.1, (hrun.row ps hps).2.2.1⟩⟩
  have okW := dayR_ok hn hpok
  have leW := dayR_le hn hrun.len fun ps hps => ⟨(hrun.row ps hps).2.1, (hrun.row ps hps).2.2.1⟩
  have ftext := (fine_str (showR_chars okW)).mono (Nat.le_refl 0) leW
  have fday := fine_day hrun hn2
  walk_at "rd"
  refine ⟨t, B, ns, ts, d, rfl, hT6.at, hn, hB6, hdok, fun H7 s7 => ?_⟩
  walk_at "rd"
  refine r_repr (.str _) ftext (by decide) (by decide) (.inr ⟨_, rfl⟩) ?_
  walk_at "rd"
  refine r_repr (.str _) ftext (by decide) (by decide) (.inr ⟨_, rfl⟩) ?_
  walk_at "rd"
  refine r_ne rfl ?_
  rw [v_eq]
  walk_at "rd"
  refine r_kw ?_
  walk_at "rd"
  refine ⟨rfl, t, B, ns, ts, d, rfl, (hT6.same s7).at, hn, DayAt.tsame (Same.ts s7) hB6, hdok, fun H8 s8 => ?_⟩
  walk_at "rd"
  refine r_ne rfl ?_
  rw [v_eq]
  walk_at "rd"
  have s68 := s7.trans s8
  refine ⟨t, ns, ts, d, rfl, hT6.same s68, hn, hrun, fun P1 H9 s9 hP1 => ?_⟩
  have s69 := s68.trans s9
  walk_at "rd"
  refine r_repr hP1.dp fday (by decide) (by decide) (.inl ⟨_, rfl⟩) ?_
  walk_at "rd"
  refine r_repr (DayAt.dp (DayAt.tsame (Same.ts s69) hB6)) fday (by decide) (by decide) (.inl ⟨_, rfl⟩) ?_
  walk_at "rd"
  refine r_ne rfl ?_
  rw [v_eq]
  have s19 := s6.trans s69
  have eL9 := s69 _ _ eL6
  have hR9 := hR1.same s19
  have k09 := k1.trans (RK.of s19)
  have nL := hR1.fresh hL1
  walk_at "rd"
  refine ⟨a, b, A, B, ns, d, rfl, hR9, hA1.same s19, DayAt.tsame (Same.ts s19) hB, hn, hrun.len, fun ps hps => ⟨(hrun.row ps hps).2.1, (hrun.row ps hps).2.2.1⟩, fun H10 Q1 lines k10 hR10 hL10 hll hlo hcost => ?_⟩
  walk_at "rd"
  refine ⟨a, b, Q1, lines, rfl, hR10, hL10, hll, fun ws hws => (hlo ws hws).1, fun H11 Q2 ms k11 hR11 hQ2 eQ2 hml hmc hmm => ?_⟩
  walk_at "rd"
  refine ⟨a, b, Q2, ms, rfl, hR11, eQ2, hR10.fresh hQ2, hml, fun m hm => ?_, fun H12 z k12 hR12 hlex hzl => ?_⟩
  · rcases hmm m hm with rfl | ⟨ws, hws, hm'⟩
    · exact ⟨mark_line, by decide⟩
    · exact (hlo ws hws).2 m hm'
  have k912 := k10.trans (k11.trans k12)
  have eL12 := k912.at eL9 nL
  have k012 := k09.trans k912
  walk_at "rd"
  refine ⟨_, marksR (d.map (dayRow ns)), rfl, lex_rows okW, Nat.le_trans leW (by decide), fun P3 H13 as3 s13 hP3 ha3 _ => ?_⟩
  walk_at "rd"
  refine r_lnT hP3.sq ?_
  walk_at "rd"
  refine ⟨z, ms, rfl, hlex, hzl, fun P4 H14 as4 s14 hP4 ha4 _ => ?_⟩
  walk_at "rd"
  refine r_lnT hP4.sq ?_
  walk_at "rd"
  have fin : (marksR (d.map (dayRow ns))).length ≤ ms.length := by
    have := marksR_len (d.map (dayRow ns))
    by_cases h0 : d.map (dayRow ns) = []
    · rw [h0]
      exact Nat.zero_le _
    · rw [if_neg h0] at this
      omega
  rw [List.length_map, List.length_map, ha3.length, ha4.length, show decide ((ms.length : Int) < ((marksR (d.map (dayRow ns))).length : Nat)) = false from decide_eq_false (by omega)]
  have s1214 := s13.trans s14
  have hR14 := hR12.same s1214
  have k014 := k012.trans (RK.of s1214)
  have eL14 := s1214 _ _ eL12
  have hA14 := RK.tsame hR k014 _ _ hA
  have hT14 := hT.rk hR k014 nt
  obtain ⟨l, hl⟩ : ∃ l, l = timesAll ns.length d := ⟨_, rfl⟩
  have hlen : l.length = ns.length := by rw [hl, timesAll_len]
  have hlok : TimesOk l := by rw [hl]; exact timesAll_ok hpok hn2
  rw [← hl] at eL14
  walk_at "rd"
  refine r_lnT hA14.sq ?_
  refine ⟨_, rfl, by rw [List.length_map]; omega, by rw [List.length_map]; omega, fun D hD => ?_⟩
  rw [List.length_map, Int.toNat_natCast]
  have atl : ∀ i, i < ns.length → (l.map timeV)[i]? = some (timeV (l[i]?.getD none)) := fun i hi => by
    rw [List.getElem?_map, List.getElem?_eq_getElem (by omega : i < l.length)] <;> rfl
  refine lc_it walk_nat (fun i H' => Same H14 H' ∧ ∃ as : List Addr, H' D = some (.lst (as.map V.ref)) ∧ All2 (fun q ws => q ≠ D ∧ H' q = some (.lst (strL ws))) as (((List.range i).filter fun i => (l[i]?.getD none).isSome).map fun i => [nmAt ns i, intL ((l[i]?.getD none).getD 0)])) ⟨same_upd hD, [], upd_same, .nil⟩ (fun _ _ _ _ => trivial) ?_ ?_
  · rintro i v H15 H16 hi ⟨s15, as', eD, has'⟩ ⟨rfl, rfl⟩
    have lf := List.length_filter_le (fun i => (l[i]?.getD none).isSome) (List.range i)
    rw [List.length_range] at lf
    have las := has'.length
    rw [List.length_map] at las
    have ati := atI_nat (atl i hi)
    have eL16 := s15 _ _ eL14
    refine ⟨rfl, ?_⟩
    walk_at "rd"
    refine r_ixL (SqL.of eL16) ati ?_
    walk_at "rd"
    refine ⟨rfl, ?_⟩
    cases hv : l[i]?.getD none with
    | none =>
      rw [show (!decide (timeV (none : Time) = V.non)) = false from rfl]
      walk_at "rd"
      refine ⟨s15, as', eD, ?_⟩
      rw [List.range_succ, List.filter_append, List.filter_cons_of_neg (by rw [hv]; decide), List.filter_nil, List.append_nil]
      exact has'
    | some v =>
      rw [show (!decide (timeV (some v) = V.non)) = true from by rw [show decide (timeV (some v) = V.non) = false from decide_eq_false fun z => by cases z] <;> rfl]
      rw [hv] at ati
      have hvm : v.natAbs ≤ 1000000000 := by
        rw [List.getElem?_eq_getElem (by omega : i < l.length)] at hv
        exact hlok.2 v (by rw [← (show l[i] = some v from hv)]; exact List.getElem_mem _)
      walk_at "rd"
      refine r_ixT (hA14.same s15).sq (at_nm hi) ?_
      walk_at "rd"
      refine r_ixL (SqL.of eL16) ati ?_
      walk_at "rd"
      refine ⟨v, rfl, log_le hvm, ?_⟩
      rw [intL_str]
      walk_at "rd"
      refine ⟨small (show 2 ≤ 100 by decide), fun M hM => ?_⟩
      have s17 := same_upd (o := .lst [.str (SX.S (nmAt ns i)), .str (SX.S (intL v))]) hM
      have eD17 := s17 _ _ eD
      have MD : M ≠ D := (ne_none eD hM).symm
      refine ⟨_, eD17, by rw [List.length_map]; exact small' (by omega), same_set hD (s15.trans s17), as' ++ [M], by rw [upd_same, List.map_append] <;> rfl, ?_⟩
      rw [List.range_succ, List.filter_append, List.filter_cons_of_pos (by rw [hv] <;> rfl), List.filter_nil, List.map_append]
      refine (has'.imp fun q ws h => ⟨h.1, (upd_ne h.1).trans (s17 _ _ h.2)⟩).snoc ⟨MD, (upd_ne MD).trans ?_⟩
      rw [upd_same]
      show _ = some (HO.lst [V.str (SX.S (nmAt ns i)), V.str (SX.S (intL ((l[i]?.getD none).getD 0)))])
      rw [hv] <;> rfl
  rintro H15 ⟨s15, as', eD15, has'⟩
  have eTx : (((List.range ns.length).filter fun i => (l[i]?.getD none).isSome).map fun i => [nmAt ns i, intL ((l[i]?.getD none).getD 0)]) = (timesR ns l).map fun r => r.map Word.text := by
    unfold timesR timesP
    rw [hlen, List.map_map, List.map_map] <;> rfl
  rw [eTx] at has'
  have lP : (timesP l).length ≤ 12 := by
    unfold timesP
    rw [List.length_map]
    have := List.length_filter_le (fun i => (l[i]?.getD none).isSome) (List.range l.length)
    rw [List.length_range] at this
    omega
  have hPm : ∀ p ∈ timesP l, PrOk ns.length p := fun p hp => by
    obtain ⟨g1, g2⟩ := timesP_mem hp
    exact ⟨by omega, hlok.2 _ (List.mem_of_getElem? g2)⟩
  walk_at "rd"
  refine ⟨D, _, rfl, ⟨as', eD15, has'.imp fun q ws h => h.2⟩, by rw [List.length_map]; unfold timesR; rw [List.length_map]; omega, fun ws hws => ?_, ?_⟩
  · obtain ⟨r, hr, rfl⟩ := List.mem_map.mp hws
    unfold timesR at hr
    obtain ⟨p, hp, rfl⟩ := List.mem_map.mp hr
    obtain ⟨g1, g2⟩ := hPm p hp
    refine ⟨(show 2 ≤ 50 by decide), fun x hx => ?_⟩
    rcases List.mem_cons.mp hx with rfl | hx
    · exact Nat.le_trans (nm_le hn g1) (by decide)
    · rw [List.mem_singleton.mp hx]
      exact Nat.le_trans (intL_le g2) (by decide)
  rw [show TL.joinL [10] (((timesR ns l).map fun r => r.map Word.text).map (TL.joinL [32])) = showR (timesR ns l) by
    unfold showR
    rw [List.map_map] <;> rfl]
  have hd2 := times_run hlen hlok hn
  have okT := dayR_ok hn fun ps hps => (hd2.row ps hps).2.2.1
  have leT := dayR_le hn hd2.len fun ps hps => ⟨(hd2.row ps hps).2.1, (hd2.row ps hps).2.2.1⟩
  rw [times_rows] at okT leT
  have ftimes := (fine_str (showR_chars okT)).mono (Nat.le_refl 0) leT
  have flist := fine_times hlok
  have eL15 := s15 _ _ eL14
  have hT15 := hT14.same s15
  walk_at "rd"
  refine ⟨L, _, rfl, SqL.of eL15, fun T1 o1 hT1n _ => ?_⟩
  have s16 := same_upd (o := .frz o1 (.tup (l.map timeV))) hT1n
  have eT1 : TupAt (upd H15 T1 (.frz o1 (.tup (l.map timeV)))) T1 (l.map timeV) := TupAt.frz upd_same
  generalize upd H15 T1 (.frz o1 (.tup (l.map timeV))) = H16 at s16 eT1 ⊢
  walk_at "rd"
  refine ⟨t, T1, ns, ts, l, rfl, (hT15.same s16).at, hn, eT1, hlen, hlok, fun H17 s17 => ?_⟩
  walk_at "rd"
  refine r_repr (.str _) ftimes (by decide) (by decide) (.inr ⟨_, rfl⟩) ?_
  walk_at "rd"
  refine r_repr (.str _) ftimes (by decide) (by decide) (.inr ⟨_, rfl⟩) ?_
  walk_at "rd"
  refine r_ne rfl ?_
  rw [v_eq]
  have s1517 := s16.trans s17
  walk_at "rd"
  refine r_kw ?_
  walk_at "rd"
  refine ⟨L, _, rfl, SqL.of (s1517 _ _ eL15), fun T2 o2 hT2n _ => ?_⟩
  have s18 := same_upd (o := .frz o2 (.tup (l.map timeV))) hT2n
  have eT2 : TupAt (upd H17 T2 (.frz o2 (.tup (l.map timeV)))) T2 (l.map timeV) := TupAt.frz upd_same
  have s1518 := s1517.trans s18
  generalize upd H17 T2 (.frz o2 (.tup (l.map timeV))) = H18 at s1518 eT2 ⊢
  walk_at "rd"
  refine ⟨rfl, t, T2, ns, ts, l, rfl, (hT15.same s1518).at, hn, eT2, hlen, hlok, fun H19 s19 => ?_⟩
  walk_at "rd"
  refine r_ne rfl ?_
  rw [v_eq]
  have s1519 := s1518.trans s19
  walk_at "rd"
  refine ⟨t, ns, ts, l, rfl, hT15.same s1519, hn, hlen, hlok, fun P5 H20 s20 hP5 => ?_⟩
  have s1520 := s1519.trans s20
  walk_at "rd"
  refine r_repr (.tup hP5.sq (dp_times l)) flist (by decide) (by decide) (.inl ⟨_, rfl⟩) ?_
  walk_at "rd"
  refine ⟨L, _, rfl, SqL.of (s1520 _ _ eL15), fun T3 o3 hT3n _ => ?_⟩
  have s21 := same_upd (o := .frz o3 (.tup (l.map timeV))) hT3n
  have eT3 : TupAt (upd H20 T3 (.frz o3 (.tup (l.map timeV)))) T3 (l.map timeV) := TupAt.frz upd_same
  have s1521 := s1520.trans s21
  generalize upd H20 T3 (.frz o3 (.tup (l.map timeV))) = H21 at s1521 eT3 ⊢
  walk_at "rd"
  refine r_repr (.tup eT3.sq (dp_times l)) flist (by decide) (by decide) (.inl ⟨_, rfl⟩) ?_
  walk_at "rd"
  refine r_eq rfl ?_
  rw [v_eq]
  exact q H21 (k014.trans (RK.of (s15.trans s1521))) (hR14.same (s15.trans s1521))
end
end K07

set_option maxRecDepth 100000
set_option maxHeartbeats 4000000
namespace K07
open PySem PySem.Spec PyProof.Rows L2
local macro_rules | `(tactic| walk_at "rd") => `(tactic| repeat (first
  | with_reducible refine r_seq ?_ | with_reducible refine r_asg ?_ | with_reducible refine r_name ?_ | with_reducible refine r_ret ?_ | with_reducible refine r_drop ?_ | with_reducible refine r_if ?_ | with_reducible refine r_nx ?_
  | with_reducible refine r_c ?_ | with_reducible refine r_op ?_ | with_reducible refine r_un ?_ | with_reducible refine r_cons ?_ | with_reducible refine r_nil ?_ | with_reducible refine r_test ?_ | with_reducible refine r_B ?_
  | with_reducible refine r_and ?_ | with_reducible refine r_or ?_ | with_reducible refine r_not ?_ | with_reducible refine r_andV ?_ | with_reducible refine r_orV ?_ | with_reducible refine r_notV ?_ | with_reducible refine r_tif ?_
  | with_reducible refine r_chain ?_ | with_reducible refine r_tyes ?_ | with_reducible refine r_lc ?_ | with_reducible refine r_rng1 ?_ | with_reducible refine r_itup ?_ | with_reducible refine r_ilist ?_ | with_reducible refine r_ienum ?_ | with_reducible refine r_istr ?_
  | with_reducible refine r_tup ?_ | with_reducible refine r_lst ?_ | with_reducible refine r_tfld ?_ | with_reducible refine r_gcons ?_ | with_reducible refine r_gnil ?_ | with_reducible refine r_gfld ?_ | with_reducible refine r_for ?_ | with_reducible refine r_sfld ?_ | with_reducible refine r_call ?_ | with_reducible refine r_cb ?_ | with_reducible refine r_sl ?_ | with_reducible refine r_np ?_ | with_reducible refine r_pt ?_ | with_reducible refine r_m1 ?_ | with_reducible refine r_par ?_ | with_reducible refine r_p2 ?_ | with_reducible refine r_u ?_ | with_reducible refine r_meth ?_ | with_reducible refine r_make ?_ | with_reducible refine r_gsub ?_ | with_reducible refine r_bm ?_ | with_reducible refine r_bm0 ?_ | with_reducible refine r_j0 ?_ | with_reducible refine r_jF ?_ | with_reducible refine r_jN ?_ | with_reducible refine r_bl ?_ | with_reducible refine r_i0 ?_ | with_reducible refine tt_ite ?_ | with_reducible refine ff_ite ?_ | with_reducible refine nt_ite ?_ | with_reducible refine nf_ite ?_
  | with_reducible refine r_var (by with_unfolding_all exact rfl) ?_))
theorem sql_same {K : PySem.W.Frag} {H H' : Hp} {a : Addr} {xs : List V} (s : Same H H') (h : SqL K H a xs) : SqL K H' a xs := by
  rcases h with (h | ⟨o, h⟩) | h
  · exact .inl (.inl (s _ _ h))
  · exact .inl (.inr ⟨o, s _ _ h⟩)
  · exact .inr h
theorem r_rev {K : PySem.W.Frag} {te : TE} {σ : L2.St} {H : Hp} {Q : VK} (h : te σ H fun x H1 => ∃ a xs, x = .ref a ∧ SqL K H1 a xs ∧ ∀ p, H1 p = none → Q (.ref p) (upd H1 p (.lst xs.reverse))) : tRevL K te σ H Q := h
theorem ts_use {c : TT} {t u : L2.TS} {D : Ends} {σ : L2.St} {H : Hp} (Post : L2.St → Hp → Prop) (h1 : ∀ D' : Ends, (∀ σ' H', Post σ' H' → D'.nx σ' H') → tIfS c t u D' σ H) (h2 : ∀ σ' H', Post σ' H' → D.nx σ' H') : tIfS c t u D σ H := h1 D h2
def cellV (c : Int) : Int := 2 * (if c < 0 then -c else c) + (if decide (c < 0) = true then 1 else 0)
section
variable {P : Program} {w : World} {K : PySem.W.Frag} {mg : Str → Option Value} {base : Heap}
def spHeap (K : PySem.W.Frag) : Sp := fun vs H Q _ => ∃ (S : Addr) (ns : List Int), vs = [.ref S] ∧ SqL K H S (ns.map V.int) ∧ ∀ (H' : Hp) (a b : Addr), Same H H' → H a = none → H b = none → Rng H' a b → Q (.ref a) H'
theorem cal_law_heap (W : Wd K mg) : C8.Cal P w K mg base 1 "_law_heap" (spHeap K) [] := by
  refine mk_law_heap W (fun vs H Q E h => ?_) fun cdv A outer s H vs Q E hr h => ?_
  · obtain ⟨S, ns, rfl, _⟩ := h
    rfl
  obtain ⟨S, ns, rfl, hS, q⟩ := h
  refine ⟨_, (pss_cons (ps_par (i := 1) (j := 2) rfl sc_law_heap.nd rfl rfl (by decide) rfl rfl (pa_cons (pe_lc (own := [("_law_cell", 3)]) (g := gName 3) (tt := tYes) rfl sc_law_heap.nd (piL (K := K) rfl (pe_slice (slL (K := K)) (pv 0) po_none (po_some pe_int))) (blkOk_by (own := [("_law_cell", 3)]) (N := N_law_heap) (sc := defScope s_law_heap) (by decide +kernel)) (fun _ _ _ _ _ => (pg_name (i := 3) sc_law_heap.nd rfl (Or.inl rfl))) (fun _ _ _ _ _ => pts_nil) (fun _ _ _ _ _ => (pe_op op_add (pe_op op_mul pe_int (pe_callB call_abs rfl W.z_abs (by decide +kernel) (pa_cons (pv 3) pa_nil))) (pe_callTy call_int1 rfl W.z_int (by decide +kernel) (pa_cons (pe_cmpR op_lt (pv 3) pe_int (nomark _)) pa_nil))))) (pa_cons pe_int pa_nil)) (by rfl))
    (pss_cons (ps_for PassesOwn.never rfl (piL (K := K) rfl (pv 1)) (pg_name (i := 3) sc_law_heap.nd rfl (Or.inl rfl))
    (pss_one (ps_set (i := 2) sc_law_heap.nd rfl (.inl rfl) (pe_op op_mod (pe_callTy call_int1 rfl W.z_int (by decide +kernel) (pa_cons (pe_op op_add (pe_op op_add (pe_op op_mul (pv 2) pe_int) (pe_op op_mod (pe_callTy call_int1 rfl W.z_int (by decide +kernel) (pa_cons (pv 3) pa_nil)) pe_int)) pe_int) pa_nil)) pe_int))))
    (pss_one (ps_ret (pe_lst (pa_cons (pe_revL (pe_lc (own := [("_law_cell", 3)]) (g := gName 3) rfl sc_law_heap.nd (piL (K := K) rfl (pv 1)) (blkOk_by (own := [("_law_cell", 3)]) (N := N_law_heap) (sc := defScope s_law_heap) (by decide +kernel)) (fun _ _ _ _ _ => (pg_name (i := 3) sc_law_heap.nd rfl (Or.inl rfl))) (fun _ _ _ _ _ => pts_one (pt_cmpR op_ge (pv 3) (pe_op op_pow pe_int pe_int) (nomark _))) (fun _ _ _ _ _ => (pv 3)))) (pa_cons (pv 2) pa_nil))))))), ?_⟩
  walk_at "rd"
  refine ⟨60, rfl, ?_⟩
  refine ⟨S, _, rfl, hS, fun L hL => ?_⟩
  rw [show (60 : Int) = ((60 : Nat) : Int) from rfl, cutV_lo, ← List.map_take]
  have s1 := same_upd (o := .lst ((ns.take 60).map V.int)) hL
  have eL : upd H L (.lst ((ns.take 60).map V.int)) L = some (.lst ((ns.take 60).map V.int)) := upd_same
  generalize upd H L (.lst ((ns.take 60).map V.int)) = H1 at s1 eL ⊢
  have l60 : (ns.take 60).length ≤ 60 := by rw [List.length_take]; omega
  generalize ns.take 60 = cs at eL l60 ⊢
  refine ⟨L, rfl, ⟨_, SqL.of eL⟩, fun D hD => lc_map walk_list (fun j => cs[j]?.map fun c => .int (cellV c)) hD ?_ (fun H' s2 => SqL.of (s2 _ _ eL)) yAt_same ?_ ?_⟩
  · rw [List.length_map]
    exact small' (by omega)
  · rintro j v H2 H3 R R0 hj s2 s3 ⟨rfl, ev⟩ k1 k2
    rw [List.length_map] at hj
    rw [List.getElem?_map, List.getElem?_eq_getElem hj] at ev
    obtain rfl := Option.some.inj ev
    refine ⟨rfl, ?_⟩
    walk_at "rd"
    refine ⟨_, rfl, ?_⟩
    refine ⟨2, _, rfl, rfl, .inl ⟨by decide, by decide⟩, ?_⟩
    walk_at "rd"
    refine .inr ⟨_, rfl, ?_⟩
    walk_at "rd"
    exact k1 _ _ (by rw [List.getElem?_eq_getElem hj] <;> rfl) (Same.refl _)
  intro H2 s2 e2
  rw [List.length_map, filterMap_all cs _ (fun c => .int (cellV c)) fun i hi => by rw [List.getElem?_eq_getElem hi] <;> rfl] at e2
  have lz : (cs.map cellV).length ≤ 60 := by rw [List.length_map]; exact l60
  have e2 : H2 D = some (.lst ((cs.map cellV).map V.int)) := by rw [e2, List.map_map] <;> rfl
  generalize cs.map cellV = zs at e2 lz
  have s12 := s1.trans s2
  walk_at "rd"
  refine ⟨D, rfl, ⟨_, SqL.of e2⟩, ?_⟩
  refine for_w (walk_list (xs := zs.map V.int)) (fun i σ H' => (∃ (st : Int) (y3 : Option V), σ = [some (.ref S), some (.ref D), some (.int st), y3]) ∧ H' = H2) ⟨⟨_, _, rfl⟩, rfl⟩ (fun i σ H' _ p => by rw [p.2]; exact SqL.of e2) ?_ ?_
  · rintro i v σ H3 H4 N hi ⟨⟨st, y3, rfl⟩, rfl⟩ ⟨rfl, ev⟩ k
    have hi' : i < zs.length := by rw [List.length_map] at hi; exact hi
    rw [List.getElem?_map, List.getElem?_eq_getElem hi'] at ev
    obtain rfl := Option.some.inj ev
    walk_at "rd"
    refine ⟨st, 69621, rfl, rfl, .inr ⟨by decide, by decide⟩, ?_⟩
    walk_at "rd"
    refine .inl ⟨_, rfl, ?_⟩
    walk_at "rd"
    refine ⟨_, 2147483563, rfl, rfl, (show (0 : Int) < 2147483563 by decide), ?_⟩
    walk_at "rd"
    refine .inl ⟨_, rfl, ?_⟩
    walk_at "rd"
    refine ⟨_, 2147483647, rfl, rfl, (show (0 : Int) < 2147483647 by decide), ?_⟩
    walk_at "rd"
    exact k _ _ ⟨⟨_, _, rfl⟩, rfl⟩
  rintro σ H3 ⟨⟨st, y3, rfl⟩, rfl⟩
  walk_at "rd"
  refine r_rev ?_
  walk_at "rd"
  let c : Int → Bool := fun z => decide ((10 : Int) ^ (18 : Int).toNat ≤ z)
  refine ⟨D, rfl, ⟨_, SqL.of e2⟩, fun E1 hE1 => lc_map walk_list (fun j => (zs[j]?).bind fun z => if c z = true then some (.int z) else none) hE1 ?_ (fun H' s2 => SqL.of (s2 _ _ e2)) yAt_same ?_ ?_⟩
  · rw [List.length_map]
    exact small' (by omega)
  · rintro j v H5 H6 R R0 hj s5 s6 ⟨rfl, ev⟩ k1 k2
    rw [List.length_map] at hj
    rw [List.getElem?_map, List.getElem?_eq_getElem hj] at ev
    obtain rfl := Option.some.inj ev
    refine ⟨rfl, ?_⟩
    walk_at "rd"
    refine ⟨10, 18, rfl, rfl, ⟨by decide, by decide, by decide⟩, ?_⟩
    walk_at "rd"
    by_cases hc : c zs[j] = true
    · refine r_yes hc ?_
      walk_at "rd"
      refine k1 _ _ ?_ (Same.refl _)
      rw [List.getElem?_eq_getElem hj]
      exact if_pos hc
    · refine r_no (Bool.eq_false_iff.mpr hc) ?_
      refine k2 _ ?_ (Same.refl _)
      rw [List.getElem?_eq_getElem hj]
      exact if_neg hc
  intro H5 s5 e5
  have e6 : (List.range (zs.map V.int).length).filterMap (fun j => (zs[j]?).bind fun z => if c z = true then some (V.int z) else none) = (zs.filter c).map V.int := by
    rw [List.length_map]
    have : ∀ l : List Int, (List.range l.length).filterMap (fun j => (l[j]?).bind fun z => if c z = true then some (V.int z) else none) = (l.filter c).map V.int := by
      intro l
      rw [← fm_filter c V.int l]
      have h1 : l = (List.range l.length).filterMap fun j => l[j]? := by
        refine List.ext_getElem? fun i => ?_
        have : ∀ n, n ≤ l.length → (List.range n).filterMap (fun j => l[j]?) = l.take n := by
          intro n
          induction n with
          | zero => intro _; rw [List.take_zero] <;> rfl
          | succ n ih =>
            intro hn
            rw [List.range_succ, List.filterMap_append, ih (by omega), List.take_succ, List.getElem?_eq_getElem (by omega : n < l.length)]
            congr 1
            rw [List.filterMap_cons_some (f := fun j => l[j]?) (List.getElem?_eq_getElem (by omega : n < l.length))] <;> rfl
        rw [this l.length (Nat.le_refl _), List.take_length]
      conv => rhs; rw [h1, List.filterMap_filterMap]
    exact this zs
  rw [e6] at e5
  refine ⟨E1, _, rfl, SqL.of e5, fun b hb => ?_⟩
  have s7 := same_upd (o := .lst ((zs.filter c).map V.int).reverse) hb
  walk_at "rd"
  refine ⟨small (show 2 ≤ 100 by decide), fun a ha => ?_⟩
  have s8 := same_upd (o := .lst [.ref b, .int st]) ha
  have sA := (s12.trans s5).trans s7
  refine q _ a b (sA.trans s8) (none_of sA ha) (none_of (s12.trans s5) hb) ⟨(zs.filter c).reverse, st, ?_, upd_same, ?_⟩
  · rw [List.length_reverse]
    exact Nat.le_trans (List.length_filter_le _ _) lz
  · rw [List.map_reverse]
    exact s8 _ _ upd_same
end
end K07

set_option maxRecDepth 100000
set_option maxHeartbeats 4000000
namespace K07
open PySem PySem.Spec PyProof.Rows L2
local macro_rules | `(tactic| walk_at "rd") => `(tactic| repeat (first
  | with_reducible refine r_seq ?_ | with_reducible refine r_asg ?_ | with_reducible refine r_name ?_ | with_reducible refine r_ret ?_ | with_reducible refine r_drop ?_ | with_reducible refine r_if ?_ | with_reducible refine r_nx ?_
  | with_reducible refine r_c ?_ | with_reducible refine r_op ?_ | with_reducible refine r_un ?_ | with_reducible refine r_cons ?_ | with_reducible refine r_nil ?_ | with_reducible refine r_test ?_ | with_reducible refine r_B ?_
  | with_reducible refine r_and ?_ | with_reducible refine r_or ?_ | with_reducible refine r_not ?_ | with_reducible refine r_andV ?_ | with_reducible refine r_orV ?_ | with_reducible refine r_notV ?_ | with_reducible refine r_tif ?_
  | with_reducible refine r_chain ?_ | with_reducible refine r_tyes ?_ | with_reducible refine r_lc ?_ | with_reducible refine r_rng1 ?_ | with_reducible refine r_itup ?_ | with_reducible refine r_ilist ?_ | with_reducible refine r_ienum ?_ | with_reducible refine r_istr ?_
  | with_reducible refine r_tup ?_ | with_reducible refine r_lst ?_ | with_reducible refine r_tfld ?_ | with_reducible refine r_gcons ?_ | with_reducible refine r_gnil ?_ | with_reducible refine r_gfld ?_ | with_reducible refine r_for ?_ | with_reducible refine r_sfld ?_ | with_reducible refine r_call ?_ | with_reducible refine r_cb ?_ | with_reducible refine r_sl ?_ | with_reducible refine r_np ?_ | with_reducible refine r_pt ?_ | with_reducible refine r_m1 ?_ | with_reducible refine r_par ?_ | with_reducible refine r_p2 ?_ | with_reducible refine r_u ?_ | with_reducible refine r_meth ?_ | with_reducible refine r_make ?_ | with_reducible refine r_gsub ?_ | with_reducible refine r_bm ?_ | with_reducible refine r_bm0 ?_ | with_reducible refine r_j0 ?_ | with_reducible refine r_jF ?_ | with_reducible refine r_jN ?_ | with_reducible refine r_bl ?_ | with_reducible refine r_i0 ?_ | with_reducible refine tt_ite ?_ | with_reducible refine ff_ite ?_ | with_reducible refine nt_ite ?_ | with_reducible refine nf_ite ?_
  | with_reducible refine r_var (by with_unfolding_all exact rfl) ?_))
theorem All2.flat60 {α β : Type} {R : α → β → Prop} {as : List α} {bs : List β} (h : All2 R as bs) : ∀ n : Nat, All2 R (List.replicate n as).flatten (List.replicate n bs).flatten
  | 0 => .nil
  | n + 1 => by
    rw [List.replicate_succ, List.flatten_cons, List.replicate_succ, List.flatten_cons]
    exact h.append (h.flat60 n)
theorem map_flat60 {α β : Type} (f : α → β) (l : List α) (n : Nat) : (List.replicate n (l.map f)).flatten = ((List.replicate n l).flatten).map f := by
  induction n with
  | zero => rfl
  | succ n ih => rw [List.replicate_succ, List.flatten_cons, ih, List.replicate_succ, List.flatten_cons, List.map_append]
theorem same_of {a b : Addr} {H H1 H2 : Hp} (s : Same H H1) (ha : H a = none) (hb : H b = none) (k : RK a b H1 H2) : Same H H2 := fun c o e => k.at (s _ _ e) ⟨ne_none e ha, ne_none e hb⟩
theorem Rng.instne {H : Hp} {a b x C dx : Addr} {fs : List (Str × V)} (h : Rng H a b) (e : H x = some (.ins C dx fs)) : x ≠ a ∧ x ≠ b := by
  obtain ⟨zs, st, _, h2, h3⟩ := h
  refine ⟨fun z => ?_, fun z => ?_⟩
  · rw [z, h2] at e
    cases e
  · rw [z, h3] at e
    cases e
theorem Rng.frzne {H : Hp} {a b x : Addr} {o : Obj} {o2 : HO} (h : Rng H a b) (e : H x = some (.frz o o2)) : x ≠ a ∧ x ≠ b := by
  obtain ⟨zs, st, _, h2, h3⟩ := h
  refine ⟨fun z => ?_, fun z => ?_⟩
  · rw [z, h2] at e
    cases e
  · rw [z, h3] at e
    cases e
/-! ### the last table -/
def ns0 : List Cs := [[99, 117, 112], [106, 97, 109], [116, 101, 97]]
def ts0 : List Tie := [(2, 0, -3), (0, 2, 12)]
theorem names_dec {ns : List Cs} (h1 : 1 ≤ ns.length ∧ ns.length ≤ 12) (h2 : ∀ n ∈ ns, 1 ≤ n.length ∧ n.length ≤ 6 ∧ ∀ c ∈ n, 97 ≤ c ∧ c ≤ 122) (h3 : ns.Pairwise (· < ·)) : NamesOk ns := ⟨h1.1, h1.2, h2, h3⟩
theorem ok_ns0 : NamesOk ns0 := names_dec (by decide) (by decide) (by decide)
theorem ok_ts0 : TiesOk ns0.length ts0 := ⟨by decide, fun x hx => by
  rcases List.mem_cons.mp hx with rfl | hx
  · exact ⟨by decide, by decide, by decide, by decide⟩
  · rw [List.mem_singleton.mp hx]
    exact ⟨by decide, by decide, by decide, by decide⟩⟩
def ns1 : List Cs := [[97]]
theorem ok_ns1 : NamesOk ns1 := names_dec (by decide) (by decide) (by decide)
theorem shown0 : SX.S (showR (tabR ns0 ts0)) = ("jam\ntea cup -3\ncup tea 12" : Str) := by decide +kernel
theorem shown1 : SX.S (showR (timesR ns0 [some (-5), none, some 0])) = ("cup -5\ntea 0" : Str) := by decide +kernel
theorem shown2 : SX.S (showR (([[(0, -5), (2, 7)], [(1, 0)]] : List (List Pr)).map (dayRow ns0))) = ("cup -5 tea 7\njam 0" : Str) := by decide +kernel
theorem shown3 : SX.S (showR (([] : List (List Pr)).map (dayRow ns0))) = ("" : Str) := by decide +kernel
theorem shown4 : SX.S (showR (tabR ns1 [])) = ("a" : Str) := by decide +kernel
section
variable {P : Program} {w : World} {K : PySem.W.Frag} {mg : Str → Option Value} {base : Heap}
def spLaw (K : PySem.W.Frag) : Sp := fun vs H Q _ => ∃ (S : Addr) (ns : List Int), vs = [.ref S] ∧ SqL K H S (ns.map V.int) ∧ ns.length ≤ 63 ∧ ∀ H', Q (.bl true) H'
theorem bd_law (W : Wd K mg) : Len 1 (spLaw K) ∧ BodyG P w K mg base N_law "law" s_law (He.fAd K ("law", none)) 10 (spLaw K) := by
  refine ⟨fun vs H Q E h => ?_, fun cdv A0 outer s H vs Q E hgd hr h => ?_⟩
  · obtain ⟨S, ns, rfl, _⟩ := h
    rfl
  obtain ⟨S, zs, rfl, hS, hz, q⟩ := h
  refine ⟨_, (pss_cons (ps_set (i := 1) sc_law.nd rfl (.inl rfl) (C8.pe_c (cal_law_heap W) hr (by decide) rfl (pa_cons (pv 0) pa_nil)))
    (pss_cons (ps_for PassesOwn.never rfl (pi_range1 rfl W.z_range (pa_cons (pe_op op_add pe_int (pe_callTy call_int1 rfl W.z_int (by decide +kernel) (pa_cons (pe_cmpR op_gt (pe_callB (crLn (K := K)) rfl W.z_len (by decide +kernel) (pa_cons (pv 0) pa_nil)) pe_int (nomark _)) pa_nil))) pa_nil)) (pg_name (i := 2) sc_law.nd rfl (Or.inl rfl))
    (pss_cons (ps_set (i := 3) sc_law.nd rfl (.inl rfl) (C8.pe_c (cal_law_pick W) hr (by decide) rfl (pa_cons (pv 1) (pa_cons (pe_lst (pa_cons pe_int (pa_cons pe_int (pa_cons pe_int (pa_cons pe_int (pa_cons pe_int pa_nil)))))) pa_nil))))
    (pss_cons (ps_if (PW.pt (pw_and (pt_cmpR op_gt (pe_callB (crLn (K := K)) rfl W.z_len (by decide +kernel) (pa_cons (pv 0) pa_nil)) pe_int (nomark _)) (pw_and1 (pt_cmpR op_eq (C8.pe_c (cal_law_draw W) hr (by decide) rfl (pa_cons (pv 1) (pa_cons pe_int pa_nil))) pe_int (nomark _)))))
    (pss_one (ps_set (i := 3) sc_law.nd rfl (.inl rfl) pe_int))
    pss_nil)
    (pss_cons (ps_set (i := 4) sc_law.nd rfl (.inl rfl) (C8.pe_c (cal_law_names W) hr (by decide) rfl (pa_cons (pv 1) (pa_cons (pv 3) pa_nil))))
    (pss_cons (ps_set (i := 5) sc_law.nd rfl (.inl rfl) (C8.pe_c (cal_law_ties W) hr (by decide) rfl (pa_cons (pv 1) (pa_cons (pv 3) pa_nil))))
    (pss_cons (ps_if (PW.pt (pw_and (pt_cmpR op_eq (pv 3) pe_int (nomark _)) (pw_and1 (pt_cmpR (opNeD (K := K) hr) (pv 5) (pe_tup pa_nil) (nomark _)))))
    (pss_one (ps_set (i := 5) sc_law.nd rfl (.inl rfl) (pe_slice (slT (K := K)) (pe_op (opRepT (K := K)) (pv 5) pe_int) po_none (po_some pe_int))))
    pss_nil)
    (pss_cons (ps_if (pt_not (pt_val (pe_calG (cal_law_table_shown W) hgd hr (by decide) rfl (pa_cons (pv 1) (pa_cons (pv 4) (pa_cons (pv 5) pa_nil))))))
    (pss_one (ps_ret pe_bl))
    pss_nil)
    (pss_cons (ps_set (i := 6) sc_law.nd rfl (.inl rfl) (C8.pe_mk (mak_Table W) hr (by decide) rfl (pa_cons (pv 4) (pa_cons (pv 5) pa_nil))))
    (pss_one (ps_if (PW.pt (pw_or (pt_not (pt_val (pe_calG (cal_law_days_shown W) hgd hr (by decide) rfl (pa_cons (pv 1) (pa_cons (pv 6) (pa_cons (pv 4) pa_nil)))))) (pw_or1 (pt_not (pt_val (pe_calG (cal_law_rows_shown W) hgd hr (by decide) rfl (pa_cons (pv 1) (pa_cons (pv 6) (pa_cons (pv 4) pa_nil)))))))))
    (pss_one (ps_ret pe_bl))
    pss_nil))))))))))
    (pss_cons (ps_set (i := 6) sc_law.nd rfl (.inl rfl) (C8.pe_mk (mak_Table W) hr (by decide) rfl (pa_cons (pe_tup (pa_cons pe_str (pa_cons pe_str (pa_cons pe_str pa_nil)))) (pa_cons (pe_tup (pa_cons (pe_tup (pa_cons pe_int (pa_cons pe_int (pa_cons (pe_op op_sub pe_int pe_int) pa_nil)))) (pa_cons (pe_tup (pa_cons pe_int (pa_cons pe_int (pa_cons pe_int pa_nil)))) pa_nil))) pa_nil))))
    (pss_cons (ps_if (PW.pt (pw_or (pt_cmpR op_ne (C8.pe_c (cal_show_table W) hr (by decide) rfl (pa_cons (pv 6) pa_nil)) pe_str (nomark _)) (pw_or1 (pt_cmpR op_ne (C8.pe_c (cal_show_times W) hr (by decide) rfl (pa_cons (pv 6) (pa_cons (pe_tup (pa_cons (pe_op op_sub pe_int pe_int) (pa_cons pe_non (pa_cons pe_int pa_nil)))) pa_nil))) pe_str (nomark _)))))
    (pss_one (ps_ret pe_bl))
    pss_nil)
    (pss_one (ps_ret (pe_and (pe_cmpR op_eq (C8.pe_c (cal_show_day W) hr (by decide) rfl (pa_cons (pv 6) (pa_cons (pe_tup (pa_cons (pe_tup (pa_cons (pe_tup (pa_cons pe_int (pa_cons (pe_op op_sub pe_int pe_int) pa_nil))) (pa_cons (pe_tup (pa_cons pe_int (pa_cons pe_int pa_nil))) pa_nil))) (pa_cons (pe_tup (pa_cons (pe_tup (pa_cons pe_int (pa_cons pe_int pa_nil))) pa_nil)) pa_nil))) pa_nil))) pe_str (nomark _)) (pe_and (pe_cmpR op_eq (C8.pe_c (cal_show_day W) hr (by decide) rfl (pa_cons (pv 6) (pa_cons (pe_tup pa_nil) pa_nil))) pe_str (nomark _)) (pe_one (pe_cmpR op_eq (C8.pe_c (cal_show_table W) hr (by decide) rfl (pa_cons (C8.pe_mk (mak_Table W) hr (by decide) rfl (pa_cons (pe_tup (pa_cons pe_str pa_nil)) (pa_cons (pe_tup pa_nil) pa_nil))) pa_nil)) pe_str (nomark _))))))))))), ?_⟩
  walk_at "rd"
  refine ⟨S, zs, rfl, hS, fun H1 a b s1 ha hb hR1 => ?_⟩
  walk_at "rd"
  refine r_lnL (sql_same s1 hS) ?_
  walk_at "rd"
  refine .inr ⟨_, rfl, ?_⟩
  walk_at "rd"
  obtain ⟨n, hn⟩ : ∃ n : Nat, (2 : Int) + (if decide ((2 : Int) < ((zs.map V.int).length : Nat)) = true then 1 else 0) = (n : Nat) ∧ n ≤ 3 := by
    split
    · exact ⟨3, rfl, by omega⟩
    · exact ⟨2, rfl, by omega⟩
  rw [hn.1]
  refine ⟨_, rfl, by omega, by omega, ?_⟩
  rw [Int.toNat_natCast]
  refine for_w walk_nat (fun i σ H' => (∃ y2 y3 y4 y5 y6, σ = [some (.ref S), some (.ref a), y2, y3, y4, y5, y6]) ∧ Same H H' ∧ Rng H' a b) ⟨⟨_, _, _, _, _, rfl⟩, s1, hR1⟩ (fun _ _ _ _ _ => trivial) ?_ ?_
  · rintro i v σ H2 H3 N hi ⟨⟨y2, y3, y4, y5, y6, rfl⟩, s2, hR2⟩ ⟨rfl, rfl⟩ k
    walk_at "rd"
    refine ⟨small (show 5 ≤ 100 by decide), fun M hM => ?_⟩
    have s3 := same_upd (o := .lst [.int 3, .int 4, .int 1, .int 2, .int 7]) hM
    walk_at "rd"
    refine ⟨a, b, M, _, rfl, hR2.same s3, upd_same, hR2.fresh hM, List.cons_ne_nil _ _, (show 5 ≤ 1000 by decide), fun H4 x k4 hR4 hx => ?_⟩
    obtain ⟨m, rfl, hm1, hm12⟩ : ∃ m : Nat, x = .int (m : Nat) ∧ 1 ≤ m ∧ m ≤ 12 := by
      simp only [List.mem_cons, List.not_mem_nil, or_false] at hx
      rcases hx with rfl | rfl | rfl | rfl | rfl
      · exact ⟨3, rfl, by omega, by omega⟩
      · exact ⟨4, rfl, by omega, by omega⟩
      · exact ⟨1, rfl, by omega, by omega⟩
      · exact ⟨2, rfl, by omega, by omega⟩
      · exact ⟨7, rfl, by omega, by omega⟩
    have s4 := same_of (s2.trans s3) ha hb k4
    with_reducible refine r_name ?_
    with_reducible refine r_seq ?_
    refine ts_use (fun σ' H' => ∃ m : Nat, 1 ≤ m ∧ m ≤ 12 ∧ σ' = [some (.ref S), some (.ref a), some (.int (i : Nat)), some (.int (m : Nat)), y4, y5, y6] ∧ Same H H' ∧ Rng H' a b) (fun D' kD => ?_) ?_
    · walk_at "rd"
      refine r_lnL (sql_same s4 hS) ?_
      walk_at "rd"
      refine r_dec (fun _ => ?_) fun _ => ?_
      · walk_at "rd"
        refine ⟨a, b, 9, rfl, hR4, by decide, by decide, fun H5 r k5 hR5 _ => ?_⟩
        walk_at "rd"
        refine r_eq rfl ?_
        rw [int_eqd]
        have s5 := same_of s4 ha hb k5
        walk_at "rd"
        refine r_dec (fun _ => ?_) fun _ => ?_
        · walk_at "rd"
          exact kD _ _ ⟨12, by omega, by omega, rfl, s5, hR5⟩
        · walk_at "rd"
          exact kD _ _ ⟨m, hm1, hm12, rfl, s5, hR5⟩
      · walk_at "rd"
        exact kD _ _ ⟨m, hm1, hm12, rfl, s4, hR4⟩
    rintro σ5 H5 ⟨m, hm1, hm12, rfl, s5, hR5⟩
    walk_at "rd"
    refine ⟨a, b, m, rfl, hR5, hm1, hm12, fun H6 A o ns k6 hR6 _ eA hod hns hnl => ?_⟩
    have s6 := same_of s5 ha hb k6
    walk_at "rd"
    refine ⟨a, b, m, rfl, hR6, hm1, hm12, fun H7 B ts k7 hR7 hB hts htl => ?_⟩
    have s7 := same_of s6 ha hb k7
    have nA := hR6.frzne eA
    have eA7 := k7.at eA nA
    with_reducible refine r_name ?_
    with_reducible refine r_seq ?_
    refine ts_use (fun σ' H' => ∃ (B : Addr) (ts : List Tie), σ' = [some (.ref S), some (.ref a), some (.int (i : Nat)), some (.int (m : Nat)), some (.ref A), some (.ref B), y6] ∧ Same H7 H' ∧ TiesAt H' B ts ∧ TiesOk ns.length ts) (fun D' kD => ?_) ?_
    · have fin0 : TiesOk ns.length ts := ⟨by omega, by rw [hnl]; exact hts⟩
      walk_at "rd"
      refine r_eq rfl ?_
      rw [int_eqd]
      walk_at "rd"
      refine r_dec (fun _ => ?_) fun _ => ?_
      · walk_at "rd"
        refine ⟨small (by decide), fun T hT => ?_⟩
        have s8 := same_upd (o := .tup []) hT
        obtain ⟨as, hB0, hall⟩ := hB.tsame (Same.ts s8)
        refine ⟨.tuple (ts.map tieD), .tuple (([] : List Tie).map tieD), .tup hB0.sq (dpAll_all2 (fun q x h => dp_tie h) hall), .tup (TupAt.of upd_same).sq .nil, shaped_tties _, shaped_tties [], ?_⟩
        rw [eqv_tties]
        generalize upd H7 T (.tup []) = H8 at s8 hB0 hall ⊢
        walk_at "rd"
        refine r_ndec (fun hne => ?_) fun he => ?_
        · have lal := hall.length
          have lpos : 0 < ts.length := List.length_pos_iff.mpr hne
          walk_at "rd"
          refine ⟨B, 60, as.map V.ref, rfl, rfl, hB0.sq, fun z => ?_, by decide, by decide, by rw [List.length_map]; omega, fun z => absurd z (by decide), fun _ p hp => ?_⟩
          · have := congrArg List.length z
            rw [List.length_map, List.length_nil] at this
            omega
          have s9 := same_upd (o := .tup (List.replicate (60 : Int).toNat (as.map V.ref)).flatten) hp
          have hall9 := (hall.imp fun q x h => h.same s9).flat60 60
          have e9 : upd H8 p (.tup (List.replicate (60 : Int).toNat (as.map V.ref)).flatten) p = some (.tup (((List.replicate 60 as).flatten).map V.ref)) := by
            rw [upd_same, ← map_flat60] <;> rfl
          have s89 := s8.trans s9
          generalize upd H8 p (.tup (List.replicate (60 : Int).toNat (as.map V.ref)).flatten) = H9 at s89 hall9 e9 ⊢
          have lfl : ((List.replicate 60 ts).flatten).length = 60 * ts.length := by
            rw [List.length_flatten, List.map_replicate, List.sum_replicate_nat]
          have okfl : ∀ x ∈ (List.replicate 60 ts).flatten, TieOk ns.length x := fun x hx => by
            obtain ⟨l, hl, hx⟩ := List.mem_flatten.mp hx
            rw [List.eq_of_mem_replicate hl] at hx
            exact fin0.2 x hx
          have lafl := hall9.length
          walk_at "rd"
          refine ⟨60, rfl, ?_⟩
          refine ⟨p, _, rfl, (TupAt.of e9).sq, fun z => ?_, fun _ p2 hp2 => ?_⟩
          · have z2 := z.2
            rw [show (some (60 : Int)) = some ((60 : Nat) : Int) from rfl, HT.sIx_nat, List.length_map] at z2
            walk_at "rd"
            refine kD _ _ ⟨p, (List.replicate 60 ts).flatten, rfl, s89, ⟨_, TupAt.of e9, hall9⟩, ⟨by omega, okfl⟩⟩
          · have s10 := same_upd (o := .tup (cutV (((List.replicate 60 as).flatten).map V.ref) none (some 60))) hp2
            walk_at "rd"
            refine kD _ _ ⟨p2, ((List.replicate 60 ts).flatten).take 60, rfl, s89.trans s10, ⟨((List.replicate 60 as).flatten).take 60, ?_, (hall9.take 60).imp fun q x h => h.same s10⟩, ⟨by rw [List.length_take]; omega, fun x hx => okfl x (List.mem_of_mem_take hx)⟩⟩
            refine TupAt.of ?_
            rw [upd_same, show (some (60 : Int)) = some ((60 : Nat) : Int) from rfl, cutV_lo, List.map_take]
        · walk_at "rd"
          exact kD _ _ ⟨B, ts, rfl, s8, ⟨as, hB0, hall⟩, fin0⟩
      · walk_at "rd"
        exact kD _ _ ⟨B, ts, rfl, Same.refl _, hB, fin0⟩
    rintro σ8 H8 ⟨B, ts, rfl, s8, hB8, hok⟩
    have hR8 := hR7.same s8
    have eA8 := s8 _ _ eA7
    have s08 := s7.trans s8
    walk_at "rd"
    refine ⟨a, b, A, B, o, ns, ts, rfl, hR8, eA8, hB8, hns, hok, fun H9 k9 hR9 => ?_⟩
    have s9 := same_of s08 ha hb k9
    have eA9 := k9.at eA8 nA
    have hB9 := hB8.tsame (RK.tsame hR8 k9)
    walk_at "rd"
    intro X DX hX hDX hne
    have s10 : Same H9 (upd (upd H9 DX (.own X)) X (.ins (He.ga K "Table") DX [])) := same_set hX (same_set hDX (Same.refl H9))
    refine ⟨X, A, B, DX, ns, ts, rfl, upd_same, TupAt.same s10 (TupAt.frz eA9), hB9.tsame (Same.ts s10), hns, hok, fun H11 k11 e11 => ⟨rfl, ?_⟩⟩
    have s11 : Same H9 H11 := fun c o' e => k11 _ _ (s10 _ _ e) (by rw [List.mem_singleton]; exact ne_none e hX)
    have hR11 := hR9.same s11
    have eA11 := s11 _ _ eA9
    have hTab : TabF K H11 X ns ts := ⟨DX, A, B, o, e11, eA11, hod, hB9.tsame (Same.ts s11)⟩
    have nX := hR11.instne e11
    walk_at "rd"
    refine ⟨a, b, X, A, ns, ts, rfl, hR11, hTab, TupAt.frz eA11, hns, nX, fun H12 k12 hR12 => ?_⟩
    have s12 := same_of (s9.trans s11) ha hb k12
    walk_at "rd"
    refine ⟨a, b, X, A, ns, ts, rfl, hR12, hTab.rk hR11 k12 nX, RK.tsame hR11 k12 _ _ (TupAt.frz eA11), hns, nX, fun H13 k13 hR13 => ?_⟩
    have s13 := same_of s12 ha hb k13
    walk_at "rd"
    exact k _ _ ⟨⟨_, _, _, _, _, rfl⟩, s13, hR13⟩
  rintro σ H2 ⟨⟨y2, y3, y4, y5, y6, rfl⟩, s2, hR2⟩
  have cS : Str.ofString "cup" = SX.S [99, 117, 112] := by decide +kernel
  have jS : Str.ofString "jam" = SX.S [106, 97, 109] := by decide +kernel
  have tS : Str.ofString "tea" = SX.S [116, 101, 97] := by decide +kernel
  have aS : Str.ofString "a" = SX.S [97] := by decide +kernel
  walk_at "rd"
  refine ⟨small (show 3 ≤ 100 by decide), fun A hA => ?_⟩
  have s3 := same_upd (o := .tup [.str "cup", .str "jam", .str "tea"]) hA
  have eA : TupAt (upd H2 A (.tup [.str "cup", .str "jam", .str "tea"])) A (strL ns0) := TupAt.of (by rw [upd_same, cS, jS, tS] <;> rfl)
  generalize upd H2 A (.tup [.str "cup", .str "jam", .str "tea"]) = H3 at s3 eA ⊢
  walk_at "rd"
  refine ⟨small (show 3 ≤ 100 by decide), fun T1 hT1 => ?_⟩
  have s4 := same_upd (o := .tup [.int 2, .int 0, .int (0 - 3)]) hT1
  have eT1 : TupAt (upd H3 T1 (.tup [.int 2, .int 0, .int (0 - 3)])) T1 (tieV (2, 0, -3)) := TupAt.of upd_same
  generalize upd H3 T1 (.tup [.int 2, .int 0, .int (0 - 3)]) = H4 at s4 eT1 ⊢
  walk_at "rd"
  refine ⟨small (show 3 ≤ 100 by decide), fun T2 hT2 => ?_⟩
  have s5 := same_upd (o := .tup [.int 0, .int 2, .int 12]) hT2
  have eT2 : TupAt (upd H4 T2 (.tup [.int 0, .int 2, .int 12])) T2 (tieV (0, 2, 12)) := TupAt.of upd_same
  have eT1 := eT1.same s5
  generalize upd H4 T2 (.tup [.int 0, .int 2, .int 12]) = H5 at s5 eT1 eT2 ⊢
  walk_at "rd"
  refine ⟨small (show 2 ≤ 100 by decide), fun B hB => ?_⟩
  have s6 := same_upd (o := .tup [.ref T1, .ref T2]) hB
  have eB : TiesAt (upd H5 B (.tup [.ref T1, .ref T2])) B ts0 := ⟨[T1, T2], TupAt.of upd_same, .cons (eT1.same s6) (.cons (eT2.same s6) .nil)⟩
  have eA := ((eA.same s4).same s5).same s6
  generalize upd H5 B (.tup [.ref T1, .ref T2]) = H6 at eA eB ⊢
  walk_at "rd"
  intro X DX hX hDX hne
  have s7 : Same H6 (upd (upd H6 DX (.own X)) X (.ins (He.ga K "Table") DX [])) := same_set hX (same_set hDX (Same.refl H6))
  refine ⟨X, A, B, DX, ns0, ts0, rfl, upd_same, TupAt.same s7 eA, eB.tsame (Same.ts s7), ok_ns0, ok_ts0, fun H8 k8 e8 => ⟨rfl, ?_⟩⟩
  have s8 : Same H6 H8 := fun c o' e => k8 _ _ (s7 _ _ e) (by rw [List.mem_singleton]; exact ne_none e hX)
  have hTab : TabAt K H8 X ns0 ts0 := ⟨DX, A, B, e8, eA.same s8, eB.tsame (Same.ts s8)⟩
  walk_at "rd"
  refine ⟨X, ns0, ts0, rfl, hTab, ok_ns0, ok_ts0, fun H9 s9 => ?_⟩
  rw [shown0]
  walk_at "rd"
  refine r_ne rfl ?_
  rw [v_eq]
  have hTab := hTab.same s9
  walk_at "rd"
  refine ⟨small (show 3 ≤ 100 by decide), fun T3 hT3 => ?_⟩
  have s10 := same_upd (o := .tup [.int (0 - 5), .non, .int 0]) hT3
  have eT3 : TupAt (upd H9 T3 (.tup [.int (0 - 5), .non, .int 0])) T3 (([some (-5), none, some 0] : List Time).map timeV) := TupAt.of upd_same
  have hTab := hTab.same s10
  generalize upd H9 T3 (.tup [.int (0 - 5), .non, .int 0]) = H10 at hTab eT3 ⊢
  walk_at "rd"
  refine ⟨X, T3, ns0, ts0, [some (-5), none, some 0], rfl, hTab, ok_ns0, eT3, rfl, ⟨by decide, fun i hi => ?_⟩, fun H11 s11 => ?_⟩
  · rcases List.mem_cons.mp hi with h | hi
    · rw [Option.some.inj h]
      decide
    · rcases List.mem_cons.mp hi with h | hi
      · cases h
      · rw [Option.some.inj (List.mem_singleton.mp hi)]
        decide
  rw [shown1]
  walk_at "rd"
  refine r_ne rfl ?_
  rw [v_eq]
  have hTab := hTab.same s11
  walk_at "rd"
  refine ⟨small (show 2 ≤ 100 by decide), fun P1 hP1 => ?_⟩
  have s12 := same_upd (o := .tup [.int 0, .int (0 - 5)]) hP1
  have eP1 : TupAt (upd H11 P1 (.tup [.int 0, .int (0 - 5)])) P1 (prV (0, -5)) := TupAt.of upd_same
  have hTab := hTab.same s12
  generalize upd H11 P1 (.tup [.int 0, .int (0 - 5)]) = H12 at hTab eP1 ⊢
  walk_at "rd"
  refine ⟨small (show 2 ≤ 100 by decide), fun P2 hP2 => ?_⟩
  have s13 := same_upd (o := .tup [.int 2, .int 7]) hP2
  have eP2 : TupAt (upd H12 P2 (.tup [.int 2, .int 7])) P2 (prV (2, 7)) := TupAt.of upd_same
  have hTab := hTab.same s13
  have eP1 := eP1.same s13
  generalize upd H12 P2 (.tup [.int 2, .int 7]) = H13 at hTab eP1 eP2 ⊢
  walk_at "rd"
  refine ⟨small (show 2 ≤ 100 by decide), fun R1 hR1' => ?_⟩
  have s14 := same_upd (o := .tup [.ref P1, .ref P2]) hR1'
  have eR1 : PrsAt (upd H13 R1 (.tup [.ref P1, .ref P2])) R1 [(0, -5), (2, 7)] := ⟨[P1, P2], TupAt.of upd_same, .cons (eP1.same s14) (.cons (eP2.same s14) .nil)⟩
  have hTab := hTab.same s14
  generalize upd H13 R1 (.tup [.ref P1, .ref P2]) = H14 at hTab eR1 ⊢
  walk_at "rd"
  refine ⟨small (show 2 ≤ 100 by decide), fun P3 hP3 => ?_⟩
  have s15 := same_upd (o := .tup [.int 1, .int 0]) hP3
  have eP3 : TupAt (upd H14 P3 (.tup [.int 1, .int 0])) P3 (prV (1, 0)) := TupAt.of upd_same
  have hTab := hTab.same s15
  have eR1 := PrsAt.tsame (Same.ts s15) eR1
  generalize upd H14 P3 (.tup [.int 1, .int 0]) = H15 at hTab eR1 eP3 ⊢
  walk_at "rd"
  refine ⟨small (show 1 ≤ 100 by decide), fun R2 hR2' => ?_⟩
  have s16 := same_upd (o := .tup [.ref P3]) hR2'
  have eR2 : PrsAt (upd H15 R2 (.tup [.ref P3])) R2 [(1, 0)] := ⟨[P3], TupAt.of upd_same, .cons (eP3.same s16) .nil⟩
  have hTab := hTab.same s16
  have eR1 := PrsAt.tsame (Same.ts s16) eR1
  generalize upd H15 R2 (.tup [.ref P3]) = H16 at hTab eR1 eR2 ⊢
  walk_at "rd"
  refine ⟨small (show 2 ≤ 100 by decide), fun D hD => ?_⟩
  have s17 := same_upd (o := .tup [.ref R1, .ref R2]) hD
  have eD : DayAt (upd H16 D (.tup [.ref R1, .ref R2])) D [[(0, -5), (2, 7)], [(1, 0)]] := ⟨[R1, R2], TupAt.of upd_same, .cons (PrsAt.tsame (Same.ts s17) eR1) (.cons (PrsAt.tsame (Same.ts s17) eR2) .nil)⟩
  have hTab := hTab.same s17
  generalize upd H16 D (.tup [.ref R1, .ref R2]) = H17 at hTab eD ⊢
  walk_at "rd"
  refine ⟨X, D, ns0, ts0, _, rfl, hTab, ok_ns0, eD, ⟨by decide, fun ps hps => ?_⟩, fun H18 s18 => ?_⟩
  · rcases List.mem_cons.mp hps with rfl | hps
    · refine ⟨List.cons_ne_nil _ _, by decide, fun p hp => ?_⟩
      rcases List.mem_cons.mp hp with rfl | hp
      · exact ⟨by decide, by decide⟩
      · rw [List.mem_singleton.mp hp]
        exact ⟨by decide, by decide⟩
    · rw [List.mem_singleton.mp hps]
      refine ⟨List.cons_ne_nil _ _, by decide, fun p hp => ?_⟩
      rw [List.mem_singleton.mp hp]
      exact ⟨by decide, by decide⟩
  rw [shown2]
  walk_at "rd"
  refine r_eq rfl ?_
  rw [v_eq]
  have hTab := hTab.same s18
  walk_at "rd"
  refine ⟨small (by decide), fun E1 hE1 => ?_⟩
  have s19 := same_upd (o := .tup []) hE1
  have eE : DayAt (upd H18 E1 (.tup [])) E1 [] := ⟨[], TupAt.of upd_same, .nil⟩
  have hTab := hTab.same s19
  generalize upd H18 E1 (.tup []) = H19 at hTab eE ⊢
  walk_at "rd"
  refine ⟨X, E1, ns0, ts0, [], rfl, hTab, ok_ns0, eE, ⟨Nat.zero_le _, fun ps hps => by cases hps⟩, fun H20 s20 => ?_⟩
  rw [shown3]
  walk_at "rd"
  refine r_eq rfl ?_
  rw [v_eq]
  walk_at "rd"
  refine ⟨small (show 1 ≤ 100 by decide), fun A1 hA1 => ?_⟩
  have eA1 : TupAt (upd H20 A1 (.tup [.str "a"])) A1 (strL ns1) := TupAt.of (by rw [upd_same, aS] <;> rfl)
  generalize upd H20 A1 (.tup [.str "a"]) = H21 at eA1 ⊢
  walk_at "rd"
  refine ⟨small (by decide), fun B1 hB1 => ?_⟩
  have s22 := same_upd (o := .tup []) hB1
  have eB1 : TiesAt (upd H21 B1 (.tup [])) B1 [] := ⟨[], TupAt.of upd_same, .nil⟩
  have eA1 := eA1.same s22
  generalize upd H21 B1 (.tup []) = H22 at eA1 eB1 ⊢
  walk_at "rd"
  intro X1 DX1 hX1 hDX1 hne1
  have s23 : Same H22 (upd (upd H22 DX1 (.own X1)) X1 (.ins (He.ga K "Table") DX1 [])) := same_set hX1 (same_set hDX1 (Same.refl H22))
  refine ⟨X1, A1, B1, DX1, ns1, [], rfl, upd_same, TupAt.same s23 eA1, eB1.tsame (Same.ts s23), ok_ns1, ⟨Nat.zero_le _, fun x hx => by cases hx⟩, fun H24 k24 e24 => ⟨rfl, ?_⟩⟩
  have s24 : Same H22 H24 := fun c o' e => k24 _ _ (s23 _ _ e) (by rw [List.mem_singleton]; exact ne_none e hX1)
  have hTab1 : TabAt K H24 X1 ns1 [] := ⟨DX1, A1, B1, e24, eA1.same s24, eB1.tsame (Same.ts s24)⟩
  walk_at "rd"
  refine ⟨X1, ns1, [], rfl, hTab1, ok_ns1, ⟨Nat.zero_le _, fun x hx => by cases hx⟩, fun H25 s25 => ?_⟩
  rw [shown4]
  walk_at "rd"
  refine r_eq rfl ?_
  rw [v_eq]
  exact q H25
end
end K07

set_option maxRecDepth 100000
set_option maxHeartbeats 4000000
namespace K07
open PySem PySem.Spec PyProof.Rows L2
/-! ### the end: the law's call, its def under guards -/
section
variable {P : Program} {w : World} {K : PySem.W.Frag} {mg mb : Str → Option Value} {h : Heap} {H : Hp}
theorem hid_in (X : K.In h) (no : ∀ b o, K.lookup b = some o → H b = none) : K.In (hidT h H) := fun b o e => hidT_get (X b o e) (no b o e)
theorem hid_ns {c : Addr} {m : Str → Option Value} (no : ∀ b o es ep, h.get? b = some o → o.data = Data.dict es ep → H b = none) (n : h.Ns c m) : (hidT h H).Ns c m := by
  obtain ⟨o, es, ep, e, d, r⟩ := n
  exact ⟨o, es, ep, hidT_get e (no _ _ _ _ e d), d, r⟩
/-- from a heap that tracks the script or nothing -/
theorem call_core {k : Nat} {fa a : Addr} {fd : FuncData} {x : Str} {sp : Sp} {s : Shared} {zs : List Int} (X : K.In s.heap) (hns : s.heap.Ns mainGlobals mg) (hb : s.heap.Ns builtinsNs mb) (hbb : ∀ x : Str, x ≠ "__name__" → mb x = bootBuiltins x) (hlim : s.heap.NoLimit)
    (hg : s.gens = #[]) (hr : Room k callerA) (F : ∀ base : Heap, K.In base → base.Ns mainGlobals mg → FnG P w K mg base k fa fd [x] sp) (hbind : BindsTo s fd ⟨[.ref a], []⟩ [(x, .ref a)]) (hO : Only H) (hok : HOk P w H s.heap)
    (hsp : sp [.ref a] H (fun v _ => v = .bl true) fun _ _ _ => False) (no1 : ∀ b o, K.lookup b = some o → H b = none) (no2 : ∀ b o es ep, s.heap.get? b = some o → o.data = Data.dict es ep → H b = none) :
    codeAny (model P w) callerA (.call (.ref fa) ⟨[.ref a], []⟩) (fun r s' => r = .ok (.ret (.bool true)) ∧ OldK s.heap s'.heap ∧ s'.os = s.os ∧ AllBare s'.gens) s := by
  have X2 : K.In (hidT s.heap H) := hid_in X no1
  have n2 := hid_ns no2 hns
  have lim2 : (hidT s.heap H).NoLimit := by
    obtain ⟨mc, e1, e2⟩ := hlim
    exact ⟨mc, hid_ns no2 e1, e2⟩
  have e0 : Env0 P w K mg (hidT s.heap H) callerA [] s H :=
    ⟨rfl, ⟨X2, n2, ⟨mb, hid_ns no2 hb, hbb⟩, lim2⟩, fun b o e => of_hidT e, Nat.le_of_eq (hidT_size _ _), trivial, fun b z => (by cases z), hok, .of_eq hg⟩
  have run := (F _ X2 n2).run callerA [] s H ⟨[.ref a], []⟩ [.ref a] [.ref a] (fun v _ => v = .bl true) (fun _ _ _ => False) hr rfl e0 hbind (.cons rfl .nil) hsp
  refine codeAny_mono run fun r s' z => ?_
  match r, z with
  | .error e, z => exact False.elim z
  | .ok .next, z => exact False.elim z
  | .ok .brk, z => exact False.elim z
  | .ok .cont, z => exact False.elim z
  | .ok (.ret u), ⟨v, H', os, bare, un, hok', r', q⟩ =>
    have q : v = .bl true := q
    subst q
    obtain rfl : u = Value.bool true := r'
    refine ⟨rfl, OldK.of_keep fun b o e => ?_, os, bare⟩
    rcases hO b with n | ⟨ob, xs, t⟩
    · exact un.keep b o e n (fun z => by cases z) (by simp)
    · have a1 := (hok b _ t).1
      have a2 := (hok' b _ (un.frzs b ob _ t)).1
      rw [e] at a1
      rw [Option.some.inj a1]
      exact a2
theorem law_callG {k : Nat} {fa a : Addr} {fd : FuncData} {x : Str} {sp : Sp} {s : Shared} {vs : List Value} {zs : List Int} (X : K.In s.heap) (hns : s.heap.Ns mainGlobals mg) (hb : s.heap.Ns builtinsNs mb) (hbb : ∀ x : Str, x ≠ "__name__" → mb x = bootBuiltins x) (hlim : s.heap.NoLimit)
    (hg : s.gens = #[]) (ha : s.heap.get? a = some { cls := .type "list", data := .seq vs.toArray }) (hi : IntsAre vs zs) (hl : zs.length ≤ sizeLine) (hr : Room k callerA) (F : ∀ base : Heap, K.In base → base.Ns mainGlobals mg → FnG P w K mg base k fa fd [x] sp)
    (hbind : ∀ (s : Shared) (u : Value), BindsTo s fd ⟨[u], []⟩ [(x, u)]) (hsp : ∀ H : Hp, SqL K H a (zs.map V.int) → sp [.ref a] H (fun v _ => v = .bl true) fun _ _ _ => False) :
    codeAny (model P w) callerA (.call (.ref fa) ⟨[.ref a], []⟩) (fun r s' => r = .ok (.ret (.bool true)) ∧ OldK s.heap s'.heap ∧ s'.os = s.os ∧ AllBare s'.gens) s := by
  have rv := vals_ints hi
  have lv := hi.length
  cases hk : K.lookup a with
  | some o =>
    have e := X a o hk
    rw [ha] at e
    obtain rfl := Option.some.inj e
    refine call_core (H := fun _ => none) (zs := zs) X hns hb hbb hlim hg hr F (hbind s _) (fun _ => .inl rfl) (fun b u z => by cases z) (hsp _ (.inr ⟨_, vs.toArray, _, hk, rfl, rfl, rfl, ?_, by simpa using rv⟩)) (fun _ _ _ => rfl) fun _ _ _ _ _ _ => rfl
    rw [List.size_toArray, lv]
    exact hl
  | none =>
    have same : (fun b => if b = a then some (HO.frz { cls := .type "list", data := .seq vs.toArray } (.lst (zs.map V.int))) else none : Hp) a = some (.frz { cls := .type "list", data := .seq vs.toArray } (.lst (zs.map V.int))) := if_pos rfl
    have other : ∀ b, b ≠ a → (fun b => if b = a then some (HO.frz { cls := .type "list", data := .seq vs.toArray } (.lst (zs.map V.int))) else none : Hp) b = none := fun b n => if_neg n
    generalize (fun b => if b = a then some (HO.frz { cls := .type "list", data := .seq vs.toArray } (.lst (zs.map V.int))) else none : Hp) = H at same other
    refine call_core (H := H) (zs := zs) X hns hb hbb hlim hg hr F (hbind s _) (fun b => ?_) (fun b u z => ?_) (hsp _ (.inl (.inr ⟨_, same⟩))) (fun b o z => other b fun e => ?_) fun b o es ep z d => other b fun e => ?_
    · by_cases e : b = a
      · rw [e]
        exact .inr ⟨_, _, same⟩
      · exact .inl (other b e)
    · by_cases e : b = a
      · subst e
        rw [same] at z
        obtain rfl := Option.some.inj z
        exact ⟨ha, by rw [List.length_map]; exact hl, vs, _, rv, ha⟩
      · rw [other b e] at z
        cases z
    · rw [e, hk] at z
      cases z
    · rw [e, ha] at z
      obtain rfl := Option.some.inj z
      cases d
end
theorem walk_ofG {l : PySem.W.OpenLaw} {n k : Nat} {q : Program} {loose : List Str} {XP : (Str → Option Value) → Heap → Prop} {YP : World → Heap → Prop} {d : DefRec} {x : Str}
    (hn : l.most = some n) (hn2 : n ≤ sizeLine) (hdf : d.params.defaults = []) (hr : Room k callerA)
    (F : ∀ (w : World) (mg : Str → Option Value) (fa : Addr) (h : Heap), YP w h → h.Ns mainGlobals mg → mg d.name = some (.ref fa) →
      ∃ (K : PySem.W.Frag) (fd : FuncData) (sp : Sp), K.In h ∧ (∀ (s : Shared) (u : Value), BindsTo s fd ⟨[u], []⟩ [(x, u)]) ∧
        (∀ (H : Hp) (a : Addr) (ns : List Int), ns.length ≤ n → SqL K H a (ns.map V.int) → sp [.ref a] H (fun v _ => v = .bl true) fun _ _ _ => False) ∧
        ∀ base : Heap, K.In base → base.Ns mainGlobals mg → FnG l.prog w K mg base k fa fd [x] sp) :
    PySem.W.WalkO q loose XP YP l.row.toRowW d [] (fun f vs => PySem.call f vs) := by
  refine Att.attach_call hn hdf fun w s₀ s₁ mg mb fa o pm cd doc a vs ns G Y ho hd hcd hmg hobj hints hlen hg => ?_
  obtain ⟨K, fd, sp, KX, hb, hsp, hF⟩ := F w mg fa _ Y G.T.g hmg
  exact law_callG KX G.T.g G.T.b G.T.builtins G.T.nolimit hg hobj hints (Nat.le_trans hlen hn2) hr hF hb fun H hS => hsp H a ns hlen hS
theorem facts {P : Program} {w : World} {K : PySem.W.Frag} {h : Heap} {mg : Str → Option Value} {f : Addr} (X : K.In h) (G : h.Ns mainGlobals mg) (hfa : mg ("law" : Str) = some (.ref f)) (c : Says K) :
    ∃ fd : FuncData, (∀ (s : Shared) (v : Value), BindsTo s fd ⟨[v], []⟩ [("_law_script", v)]) ∧ ∀ base : Heap, K.In base → base.Ns mainGlobals mg → FnG P w K mg base 11 f fd ["_law_script"] (spLaw K) := by
  have W : Wd K mg := ⟨c, h, X, G⟩
  obtain ⟨fd, F⟩ := c.f_law
  have e := hfa.symm.trans W.g_law
  have b := FunD.bindsA (ps := ["_law_script"]) F fun _ _ _ _ _ _ us hl => match us, hl with | [_], _ => rfl
  refine ⟨fd, fun s v => b s [v] rfl, fun base _ _ => ?_⟩
  have B := bd_law (P := P) (w := w) (base := base) W
  have fin : FnG P w K mg base 11 (He.fAd K ("law", none)) fd ["_law_script"] (spLaw K) := bodyG_ok F sc_law B.1 B.2
  cases e
  exact fin
end K07

set_option maxRecDepth 100000
set_option maxHeartbeats 4000000
open PySem PySem.W PySem.Calls PyProof.Rows
theorem PySem.Challenge.cw_saidatonce_k07_whole_there_and_back_with_holds : PySem.Challenge.rw_saidatonce_k07_whole_there_and_back_with.Holds := by
  refine K07H.head_of (K07.walk_ofG (l := PySem.Challenge.rw_saidatonce_k07_whole_there_and_back_with) (n := 63) (k := 11) (x := "_law_script") rfl (by decide) K07H.top_plain ⟨rfl, by decide, by decide⟩ ?_)
  intro w mg fa h Y G hmg0
  obtain ⟨K, KX, c⟩ := Y
  rw [K07H.top_name] at hmg0
  obtain ⟨fd, hb, hF⟩ := K07.facts (P := (PySem.Challenge.rw_saidatonce_k07_whole_there_and_back_with).prog) (w := w) KX G hmg0 c
  exact ⟨K, fd, K07.spLaw K, KX, hb, fun H a ns hl hS => ⟨a, ns, rfl, hS, hl, fun _ => rfl⟩, hF⟩
