import PyProof.Rows.All
import Wide.All
import OpenK.AllK
import Wide.FinOn
import HandS.ForMost
import PySem.Challenge.RW_centsatonce_k07_whole_there_and_back_wit
import KE.KStateDown
import Lean
import HandS.Head0
import HandS.Head1
import HandS.Head2
import HandS.HeadEnd
import HandS.HeadHook1
import HandS.HeadHook2
import HandS.ForExc
import HandS.Style
import HandS.Flow
import HandS.FStr
import HandS.IsInst
import HandS.OwnEq
import HandS.Strs
import HandS.Conv
import HandS.Walk
import HandS.MakeKwOnly
import KE.GoesEnum
import HandS.Defaults
import HandS.Text
import HandS.List
import PyProof.StrLawsRepr
import PyProof.P3Eq
/-! ## K7Text -/
set_option Elab.async false
set_option linter.all false
set_option maxRecDepth 100000
namespace K7
open PySem L2
/-! ### the text by places -/
def top (i : Nat) : Stmt := PySem.Challenge.pw_centsatonce_k07_whole_there_and_back_wit.main.body.getD i (.Pass ⟨0, 0, 0, 0⟩)
abbrev s_show_fraction : Stmt := top 2
abbrev s_show_table : Stmt := top 3
abbrev s_show_lines : Stmt := top 4
abbrev s_show_day : Stmt := top 5
abbrev s_show_sequence : Stmt := top 6
abbrev s_is_integer : Stmt := top 15
abbrev s_is_number : Stmt := top 16
abbrev s_is_name : Stmt := top 17
abbrev s_are_numbers : Stmt := top 18
abbrev s_is_ascending : Stmt := top 19
abbrev s_is_listing : Stmt := top 20
abbrev s_run_end : Stmt := top 23
abbrev s_mark_at : Stmt := top 24
abbrev s_marks_of : Stmt := top 25
abbrev s_numeral_of : Stmt := top 27
abbrev s_common_divisor : Stmt := top 29
abbrev s_fraction_of : Stmt := top 30
abbrev s_floor_of : Stmt := top 31
abbrev s_ceiling_of : Stmt := top 32
abbrev s_F_init : Stmt := inClass (top 35) 0
abbrev s_F_take : Stmt := inClass (top 35) 1
abbrev s_F_take_number : Stmt := inClass (top 35) 2
abbrev s_F_ends : Stmt := inClass (top 35) 3
abbrev s_F_told : Stmt := inClass (top 35) 5
abbrev s_D_init : Stmt := inClass (top 38) 0
abbrev s_D_take : Stmt := inClass (top 38) 1
abbrev s_D_take_kind : Stmt := inClass (top 38) 2
abbrev s_D_take_amount : Stmt := inClass (top 38) 3
abbrev s_D_end_line : Stmt := inClass (top 38) 4
abbrev s_D_take_whole : Stmt := inClass (top 38) 5
abbrev s_D_ends : Stmt := inClass (top 38) 6
abbrev s_D_told : Stmt := inClass (top 38) 8
abbrev s_S_init : Stmt := inClass (top 39) 0
abbrev s_S_take : Stmt := inClass (top 39) 1
abbrev s_S_ends : Stmt := inClass (top 39) 2
abbrev s_S_told : Stmt := inClass (top 39) 4
abbrev s_are_kinds : Stmt := top 43
abbrev s_Tb_init : Stmt := inClass (top 44) 0
abbrev s_Tb_eq : Stmt := inClass (top 44) 1
abbrev s_T_init : Stmt := inClass (top 46) 0
abbrev s_T_take : Stmt := inClass (top 46) 1
abbrev s_T_end_line : Stmt := inClass (top 46) 2
abbrev s_T_ends : Stmt := inClass (top 46) 3
abbrev s_T_told : Stmt := inClass (top 46) 5
abbrev s_taken_in : Stmt := top 48
abbrev s_read_whole : Stmt := top 49
abbrev s_read_fraction : Stmt := top 50
abbrev s_read_table : Stmt := top 51
abbrev s_read_lines : Stmt := top 52
abbrev s_read_day : Stmt := top 53
abbrev s_read_sequence : Stmt := top 54
abbrev s_L_heap : Stmt := top 56
abbrev s_L_draw : Stmt := top 57
abbrev s_L_pick : Stmt := top 58
abbrev s_L_mixed : Stmt := top 59
abbrev s_L_names : Stmt := top 60
abbrev s_L_totals : Stmt := top 61
abbrev s_L_lowest : Stmt := top 62
abbrev s_L_amount : Stmt := top 63
abbrev s_L_amount_marks : Stmt := top 64
abbrev s_L_wholes : Stmt := top 65
abbrev s_L_lines : Stmt := top 66
abbrev s_L_table_marks : Stmt := top 67
abbrev s_L_day_marks : Stmt := top 68
abbrev s_L_spread : Stmt := top 69
abbrev s_L_fewest : Stmt := top 70
abbrev s_L_shown : Stmt := top 71
abbrev s_L_fraction_right : Stmt := top 72
abbrev s_L_table_right : Stmt := top 73
abbrev s_L_days_right : Stmt := top 74
abbrev s_law : Stmt := top 75
end K7
/-! ## K7Head -/
set_option Elab.async false
set_option linter.all false
set_option maxRecDepth 100000
set_option maxHeartbeats 0
namespace K7
open PySem PySem.Spec PyProof.Rows L2
def d_show_fraction : He.DefD := ⟨("show_fraction", none), "show_fraction", "show_fraction", defArgs s_show_fraction, defBody s_show_fraction, defScope s_show_fraction, [], []⟩
def d_show_table : He.DefD := ⟨("show_table", none), "show_table", "show_table", defArgs s_show_table, defBody s_show_table, defScope s_show_table, [], []⟩
def d_show_lines : He.DefD := ⟨("show_lines", none), "show_lines", "show_lines", defArgs s_show_lines, defBody s_show_lines, defScope s_show_lines, [], []⟩
def d_show_day : He.DefD := ⟨("show_day", none), "show_day", "show_day", defArgs s_show_day, defBody s_show_day, defScope s_show_day, [], []⟩
def d_show_sequence : He.DefD := ⟨("show_sequence", none), "show_sequence", "show_sequence", defArgs s_show_sequence, defBody s_show_sequence, defScope s_show_sequence, [], []⟩
def d_is_integer : He.DefD := ⟨("is_integer", none), "is_integer", "is_integer", defArgs s_is_integer, defBody s_is_integer, defScope s_is_integer, [], []⟩
def d_is_number : He.DefD := ⟨("is_number", none), "is_number", "is_number", defArgs s_is_number, defBody s_is_number, defScope s_is_number, [], []⟩
def d_is_name : He.DefD := ⟨("is_name", none), "is_name", "is_name", defArgs s_is_name, defBody s_is_name, defScope s_is_name, [], []⟩
def d_are_numbers : He.DefD := ⟨("are_numbers", none), "are_numbers", "are_numbers", defArgs s_are_numbers, defBody s_are_numbers, defScope s_are_numbers, [], []⟩
def d_is_ascending : He.DefD := ⟨("is_ascending", none), "is_ascending", "is_ascending", defArgs s_is_ascending, defBody s_is_ascending, defScope s_is_ascending, [], []⟩
def d_is_listing : He.DefD := ⟨("is_listing", none), "is_listing", "is_listing", defArgs s_is_listing, defBody s_is_listing, defScope s_is_listing, [], []⟩
def d_run_end : He.DefD := ⟨("run_end", none), "run_end", "run_end", defArgs s_run_end, defBody s_run_end, defScope s_run_end, [], []⟩
def d_mark_at : He.DefD := ⟨("mark_at", none), "mark_at", "mark_at", defArgs s_mark_at, defBody s_mark_at, defScope s_mark_at, [], []⟩
def d_marks_of : He.DefD := ⟨("marks_of", none), "marks_of", "marks_of", defArgs s_marks_of, defBody s_marks_of, defScope s_marks_of, [], []⟩
def d_numeral_of : He.DefD := ⟨("numeral_of", none), "numeral_of", "numeral_of", defArgs s_numeral_of, defBody s_numeral_of, defScope s_numeral_of, [], []⟩
def d_common_divisor : He.DefD := ⟨("common_divisor", none), "common_divisor", "common_divisor", defArgs s_common_divisor, defBody s_common_divisor, defScope s_common_divisor, [], []⟩
def d_fraction_of : He.DefD := ⟨("fraction_of", none), "fraction_of", "fraction_of", defArgs s_fraction_of, defBody s_fraction_of, defScope s_fraction_of, [], []⟩
def d_floor_of : He.DefD := ⟨("floor_of", none), "floor_of", "floor_of", defArgs s_floor_of, defBody s_floor_of, defScope s_floor_of, [], []⟩
def d_ceiling_of : He.DefD := ⟨("ceiling_of", none), "ceiling_of", "ceiling_of", defArgs s_ceiling_of, defBody s_ceiling_of, defScope s_ceiling_of, [], []⟩
def d_F_init : He.DefD := ⟨("FractionText", some "__init__"), "__init__", "FractionText.__init__", defArgs s_F_init, defBody s_F_init, defScope s_F_init, [], []⟩
def d_F_take : He.DefD := ⟨("FractionText", some "take"), "take", "FractionText.take", defArgs s_F_take, defBody s_F_take, defScope s_F_take, [], []⟩
def d_F_take_number : He.DefD := ⟨("FractionText", some "take_number"), "take_number", "FractionText.take_number", defArgs s_F_take_number, defBody s_F_take_number, defScope s_F_take_number, [], []⟩
def d_F_ends : He.DefD := ⟨("FractionText", some "ends"), "ends", "FractionText.ends", defArgs s_F_ends, defBody s_F_ends, defScope s_F_ends, [], []⟩
def d_F_told : He.DefD := ⟨("FractionText", some "told"), "told", "FractionText.told", defArgs s_F_told, defBody s_F_told, defScope s_F_told, [], []⟩
def d_D_init : He.DefD := ⟨("DayText", some "__init__"), "__init__", "DayText.__init__", defArgs s_D_init, defBody s_D_init, defScope s_D_init, [], []⟩
def d_D_take : He.DefD := ⟨("DayText", some "take"), "take", "DayText.take", defArgs s_D_take, defBody s_D_take, defScope s_D_take, [], []⟩
def d_D_take_kind : He.DefD := ⟨("DayText", some "take_kind"), "take_kind", "DayText.take_kind", defArgs s_D_take_kind, defBody s_D_take_kind, defScope s_D_take_kind, [], []⟩
def d_D_take_amount : He.DefD := ⟨("DayText", some "take_amount"), "take_amount", "DayText.take_amount", defArgs s_D_take_amount, defBody s_D_take_amount, defScope s_D_take_amount, [], []⟩
def d_D_end_line : He.DefD := ⟨("DayText", some "end_line"), "end_line", "DayText.end_line", defArgs s_D_end_line, defBody s_D_end_line, defScope s_D_end_line, [], []⟩
def d_D_take_whole : He.DefD := ⟨("DayText", some "take_whole"), "take_whole", "DayText.take_whole", defArgs s_D_take_whole, defBody s_D_take_whole, defScope s_D_take_whole, [], []⟩
def d_D_ends : He.DefD := ⟨("DayText", some "ends"), "ends", "DayText.ends", defArgs s_D_ends, defBody s_D_ends, defScope s_D_ends, [], []⟩
def d_D_told : He.DefD := ⟨("DayText", some "told"), "told", "DayText.told", defArgs s_D_told, defBody s_D_told, defScope s_D_told, [], []⟩
def d_S_init : He.DefD := ⟨("SequenceText", some "__init__"), "__init__", "SequenceText.__init__", defArgs s_S_init, defBody s_S_init, defScope s_S_init, [], []⟩
def d_S_take : He.DefD := ⟨("SequenceText", some "take"), "take", "SequenceText.take", defArgs s_S_take, defBody s_S_take, defScope s_S_take, [], []⟩
def d_S_ends : He.DefD := ⟨("SequenceText", some "ends"), "ends", "SequenceText.ends", defArgs s_S_ends, defBody s_S_ends, defScope s_S_ends, [], []⟩
def d_S_told : He.DefD := ⟨("SequenceText", some "told"), "told", "SequenceText.told", defArgs s_S_told, defBody s_S_told, defScope s_S_told, [], []⟩
def d_are_kinds : He.DefD := ⟨("are_kinds", none), "are_kinds", "are_kinds", defArgs s_are_kinds, defBody s_are_kinds, defScope s_are_kinds, [], []⟩
def d_Tb_init : He.DefD := ⟨("Table", some "__init__"), "__init__", "Table.__init__", defArgs s_Tb_init, defBody s_Tb_init, defScope s_Tb_init, [], []⟩
def d_Tb_eq : He.DefD := ⟨("Table", some "__eq__"), "__eq__", "Table.__eq__", defArgs s_Tb_eq, defBody s_Tb_eq, defScope s_Tb_eq, [], []⟩
def d_T_init : He.DefD := ⟨("TableText", some "__init__"), "__init__", "TableText.__init__", defArgs s_T_init, defBody s_T_init, defScope s_T_init, [], []⟩
def d_T_take : He.DefD := ⟨("TableText", some "take"), "take", "TableText.take", defArgs s_T_take, defBody s_T_take, defScope s_T_take, [], []⟩
def d_T_end_line : He.DefD := ⟨("TableText", some "end_line"), "end_line", "TableText.end_line", defArgs s_T_end_line, defBody s_T_end_line, defScope s_T_end_line, [], []⟩
def d_T_ends : He.DefD := ⟨("TableText", some "ends"), "ends", "TableText.ends", defArgs s_T_ends, defBody s_T_ends, defScope s_T_ends, [], []⟩
def d_T_told : He.DefD := ⟨("TableText", some "told"), "told", "TableText.told", defArgs s_T_told, defBody s_T_told, defScope s_T_told, [], []⟩
def d_taken_in : He.DefD := ⟨("taken_in", none), "taken_in", "taken_in", defArgs s_taken_in, defBody s_taken_in, defScope s_taken_in, [], []⟩
def d_read_whole : He.DefD := ⟨("read_whole", none), "read_whole", "read_whole", defArgs s_read_whole, defBody s_read_whole, defScope s_read_whole, [], []⟩
def d_read_fraction : He.DefD := ⟨("read_fraction", none), "read_fraction", "read_fraction", defArgs s_read_fraction, defBody s_read_fraction, defScope s_read_fraction, [], []⟩
def d_read_table : He.DefD := ⟨("read_table", none), "read_table", "read_table", defArgs s_read_table, defBody s_read_table, defScope s_read_table, [], []⟩
def d_read_lines : He.DefD := ⟨("read_lines", none), "read_lines", "read_lines", defArgs s_read_lines, defBody s_read_lines, defScope s_read_lines, [], []⟩
def d_read_day : He.DefD := ⟨("read_day", none), "read_day", "read_day", defArgs s_read_day, defBody s_read_day, defScope s_read_day, [], []⟩
def d_read_sequence : He.DefD := ⟨("read_sequence", none), "read_sequence", "read_sequence", defArgs s_read_sequence, defBody s_read_sequence, defScope s_read_sequence, [], []⟩
def d_L_heap : He.DefD := ⟨("_law_heap", none), "_law_heap", "_law_heap", defArgs s_L_heap, defBody s_L_heap, defScope s_L_heap, [], []⟩
def d_L_draw : He.DefD := ⟨("_law_draw", none), "_law_draw", "_law_draw", defArgs s_L_draw, defBody s_L_draw, defScope s_L_draw, [], []⟩
def d_L_pick : He.DefD := ⟨("_law_pick", none), "_law_pick", "_law_pick", defArgs s_L_pick, defBody s_L_pick, defScope s_L_pick, [], []⟩
def d_L_mixed : He.DefD := ⟨("_law_mixed", none), "_law_mixed", "_law_mixed", defArgs s_L_mixed, defBody s_L_mixed, defScope s_L_mixed, [], []⟩
def d_L_names : He.DefD := ⟨("_law_names", none), "_law_names", "_law_names", defArgs s_L_names, defBody s_L_names, defScope s_L_names, [], []⟩
def d_L_totals : He.DefD := ⟨("_law_totals", none), "_law_totals", "_law_totals", defArgs s_L_totals, defBody s_L_totals, defScope s_L_totals, [], []⟩
def d_L_lowest : He.DefD := ⟨("_law_lowest", none), "_law_lowest", "_law_lowest", defArgs s_L_lowest, defBody s_L_lowest, defScope s_L_lowest, [], []⟩
def d_L_amount : He.DefD := ⟨("_law_amount", none), "_law_amount", "_law_amount", defArgs s_L_amount, defBody s_L_amount, defScope s_L_amount, [], []⟩
def d_L_amount_marks : He.DefD := ⟨("_law_amount_marks", none), "_law_amount_marks", "_law_amount_marks", defArgs s_L_amount_marks, defBody s_L_amount_marks, defScope s_L_amount_marks, [], []⟩
def d_L_wholes : He.DefD := ⟨("_law_wholes", none), "_law_wholes", "_law_wholes", defArgs s_L_wholes, defBody s_L_wholes, defScope s_L_wholes, [], []⟩
def d_L_lines : He.DefD := ⟨("_law_lines", none), "_law_lines", "_law_lines", defArgs s_L_lines, defBody s_L_lines, defScope s_L_lines, [], []⟩
def d_L_table_marks : He.DefD := ⟨("_law_table_marks", none), "_law_table_marks", "_law_table_marks", defArgs s_L_table_marks, defBody s_L_table_marks, defScope s_L_table_marks, [], []⟩
def d_L_day_marks : He.DefD := ⟨("_law_day_marks", none), "_law_day_marks", "_law_day_marks", defArgs s_L_day_marks, defBody s_L_day_marks, defScope s_L_day_marks, [], []⟩
def d_L_spread : He.DefD := ⟨("_law_spread", none), "_law_spread", "_law_spread", defArgs s_L_spread, defBody s_L_spread, defScope s_L_spread, [], []⟩
def d_L_fewest : He.DefD := ⟨("_law_fewest", none), "_law_fewest", "_law_fewest", defArgs s_L_fewest, defBody s_L_fewest, defScope s_L_fewest, [], []⟩
def d_L_shown : He.DefD := ⟨("_law_shown", none), "_law_shown", "_law_shown", defArgs s_L_shown, defBody s_L_shown, defScope s_L_shown, [], []⟩
def d_L_fraction_right : He.DefD := ⟨("_law_fraction_right", none), "_law_fraction_right", "_law_fraction_right", defArgs s_L_fraction_right, defBody s_L_fraction_right, defScope s_L_fraction_right, [], []⟩
def d_L_table_right : He.DefD := ⟨("_law_table_right", none), "_law_table_right", "_law_table_right", defArgs s_L_table_right, defBody s_L_table_right, defScope s_L_table_right, [], []⟩
def d_L_days_right : He.DefD := ⟨("_law_days_right", none), "_law_days_right", "_law_days_right", defArgs s_L_days_right, defBody s_L_days_right, defScope s_L_days_right, [], []⟩
def d_law : He.DefD := ⟨("law", none), "law", "law", defArgs s_law, defBody s_law, defScope s_law, [], []⟩
def fn0 : List He.DefD := [d_show_fraction, d_show_table, d_show_lines, d_show_day, d_show_sequence, d_is_integer, d_is_number, d_is_name, d_are_numbers, d_is_ascending, d_is_listing, d_run_end, d_mark_at, d_marks_of, d_numeral_of, d_common_divisor, d_fraction_of, d_floor_of, d_ceiling_of, d_F_init, d_F_take, d_F_take_number, d_F_ends, d_F_told, d_D_init, d_D_take, d_D_take_kind, d_D_take_amount, d_D_end_line, d_D_take_whole]
def fn1 : List He.DefD := [d_D_ends, d_D_told, d_S_init, d_S_take, d_S_ends, d_S_told, d_are_kinds, d_Tb_init, d_Tb_eq, d_T_init, d_T_take, d_T_end_line, d_T_ends, d_T_told, d_taken_in, d_read_whole, d_read_fraction, d_read_table, d_read_lines, d_read_day, d_read_sequence, d_L_heap, d_L_draw, d_L_pick, d_L_mixed, d_L_names, d_L_totals, d_L_lowest, d_L_amount, d_L_amount_marks]
def fn2 : List He.DefD := [d_L_wholes, d_L_lines, d_L_table_marks, d_L_day_marks, d_L_spread, d_L_fewest, d_L_shown, d_L_fraction_right, d_L_table_right, d_L_days_right, d_law]
def fn : List He.DefD := fn0 ++ (fn1 ++ (fn2))
def fa0 : List He.Fa := [.glo "show_fraction", .glo "show_table", .glo "show_lines", .glo "show_day", .glo "show_sequence", .glo "is_integer", .glo "is_number", .glo "is_name", .glo "are_numbers", .glo "is_ascending", .glo "is_listing", .glo "run_end", .glo "mark_at", .glo "marks_of", .glo "numeral_of", .glo "common_divisor", .glo "fraction_of", .glo "floor_of", .glo "ceiling_of", .glo "are_kinds", .glo "taken_in", .glo "read_whole", .glo "read_fraction", .glo "read_table", .glo "read_lines", .glo "read_day", .glo "read_sequence", .glo "_law_heap", .glo "_law_draw", .glo "_law_pick"]
def fa1 : List He.Fa := [.glo "_law_mixed", .glo "_law_names", .glo "_law_totals", .glo "_law_lowest", .glo "_law_amount", .glo "_law_amount_marks", .glo "_law_wholes", .glo "_law_lines", .glo "_law_table_marks", .glo "_law_day_marks", .glo "_law_spread", .glo "_law_fewest", .glo "_law_shown", .glo "_law_fraction_right", .glo "_law_table_right", .glo "_law_days_right", .glo "law", .glo "FractionText", .cls "FractionText", .mkr "FractionText", .noat "FractionText" "stage", .noat "FractionText" "sign", .noat "FractionText" "top", .noat "FractionText" "bottom", .meth "FractionText" "take", .meth "FractionText" "take_number", .meth "FractionText" "ends", .meth "FractionText" "told", .glo "DayText", .cls "DayText"]
def fa2 : List He.Fa := [.mkr "DayText", .noat "DayText" "table", .noat "DayText" "rounded", .noat "DayText" "stage", .noat "DayText" "lines", .noat "DayText" "kind", .noat "DayText" "amount", .noat "DayText" "wholes", .meth "DayText" "take", .meth "DayText" "take_kind", .meth "DayText" "take_amount", .meth "DayText" "end_line", .meth "DayText" "take_whole", .meth "DayText" "ends", .meth "DayText" "told", .glo "SequenceText", .cls "SequenceText", .mkr "SequenceText", .noat "SequenceText" "table", .noat "SequenceText" "row", .meth "SequenceText" "take", .meth "SequenceText" "ends", .meth "SequenceText" "told", .glo "Table", .cls "Table", .mkr "Table", .noat "Table" "kinds", .noat "Table" "totals", .meth "Table" "__eq__", .glo "TableText"]
def fa3 : List He.Fa := [.cls "TableText", .mkr "TableText", .noat "TableText" "stage", .noat "TableText" "kinds", .noat "TableText" "totals", .meth "TableText" "take", .meth "TableText" "end_line", .meth "TableText" "ends", .meth "TableText" "told", .str "LETTERS" "abcdefghijklmnopqrstuvwxyz", .str "DIGITS" "0123456789", .int "LONGEST_NAME" 6, .int "MOST_PART" 1000000, .int "MOST_LINES" 400, .int "MOST_KINDS" 12, .int "MOST_TOTALS" 12, .free "isinstance", .free "int", .free "bool", .free "str", .free "tuple", .free "list", .free "len", .free "all", .free "any", .free "range", .free "enumerate", .free "sorted", .free "abs", .free "sum"]
def fa4 : List He.Fa := [.free "max", .free "repr"]
def fa : List He.Fa := fa0 ++ (fa1 ++ (fa2 ++ (fa3 ++ (fa4))))
def loose0 : List PySem.Str := ["_wall", "show_fraction", "show_table", "show_lines", "show_day", "show_sequence", "TillError", "InvalidTable", "InvalidText", "InvalidNumber", "LETTERS", "LONGEST_NAME", "is_integer", "is_number", "is_name", "are_numbers", "is_ascending", "is_listing", "DIGITS", "run_end", "mark_at", "marks_of", "text_end", "numeral_of", "common_divisor", "fraction_of", "floor_of", "ceiling_of", "MOST_PART", "FractionText"]
def loose1 : List PySem.Str := ["MOST_LINES", "DayText", "SequenceText", "MOST_KINDS", "MOST_TOTALS", "are_kinds", "Table", "TableText", "taken_in", "read_whole", "read_fraction", "read_table", "read_lines", "read_day", "read_sequence", "_law_heap", "_law_draw", "_law_pick", "_law_mixed", "_law_names", "_law_totals", "_law_lowest", "_law_amount", "_law_amount_marks", "_law_wholes", "_law_lines", "_law_table_marks", "_law_day_marks", "_law_spread", "_law_fewest"]
def loose2 : List PySem.Str := ["_law_shown", "_law_fraction_right", "_law_table_right", "_law_days_right"]
def loose : List PySem.Str := loose0 ++ (loose1 ++ (loose2))
/-- isinstance(other, Table): what is asked of the class -/
def exB (K : PySem.W.Frag) : Bool :=
  (match PySem.W.findIn K (.ref (He.ga K "Table")) "__class__" with
  | some (some (.builtin s)) => decide (s = "object.__class__")
  | _ => false) &&
  ((match PySem.W.specialIn K (.builtin "object.__class__") "__get__" with
  | some (some (.builtin s)) => decide (s = "getset_descriptor.__get__")
  | _ => false) &&
  ((match PySem.W.takesIn K (.builtin "object.__class__") with
  | some b => b
  | _ => false) &&
  (match PySem.W.mroIn K (He.ga K "Table") (.type "object") with
  | some b => b
  | _ => false)))
theorem exB_ok {K : PySem.W.Frag} (h : exB K = true) : PySem.W.findIn K (.ref (He.ga K "Table")) "__class__" = some (some (.builtin "object.__class__")) ∧ PySem.W.specialIn K (.builtin "object.__class__") "__get__" = some (some (.builtin "getset_descriptor.__get__")) ∧
    PySem.W.takesIn K (.builtin "object.__class__") = some true ∧ PySem.W.mroIn K (He.ga K "Table") (.type "object") = some true := by
  unfold exB at h
  obtain ⟨h1, h⟩ := Bool.and_eq_true_iff.mp h
  obtain ⟨h2, h⟩ := Bool.and_eq_true_iff.mp h
  obtain ⟨h3, h4⟩ := Bool.and_eq_true_iff.mp h
  refine ⟨?_, ?_, ?_, ?_⟩
  · split at h1
    · rename_i e
      rw [e, of_decide_eq_true h1]
    · cases h1
  · split at h2
    · rename_i e
      rw [e, of_decide_eq_true h2]
    · cases h2
  · split at h3
    · rename_i e
      rw [e, h3]
    · cases h3
  · split at h4
    · rename_i e
      rw [e, h4]
    · cases h4
abbrev R : PySem.W.OpenRow := PySem.W.OpenLaw.row PySem.Challenge.rw_centsatonce_k07_whole_there_and_back_wit
abbrev AlE : Type := He.AlD × Bool
def obsE (g : Addr → Option Obj) : AlE := (He.obsDG 4 fa fn g, exB (He.frG g (He.asD g 4)))
def hk : PySem.W.Hook where
  α := AlE
  obs := fun s => obsE s.heap.get?
  val := fun _ => (He.valD fn, true)
  says := fun _ h => ∃ K : PySem.W.Frag, K.In h ∧ He.SaysD fa fn K ∧ exB K = true
  of := fun _ _ e => ⟨_, He.frG_in, congrArg Prod.fst e, congrArg Prod.snd e⟩
  keeps := fun _ _ _ ⟨K, hK, c, d⟩ k => ⟨K, PySem.W.Frag.In.keeps hK k, c, d⟩
def ob (s : PySem.W.SharedT) : AlE := obsE (HandSHeadRun.getT s)
theorem ob_eq (s : PySem.W.SharedT) : ob s = hk.obs s.abs := congrArg obsE (funext fun a => HandSHeadRun.getT_eq s a)
theorem run (w : World) : HandSHeadRun.RunEq R (PySem.W.view R.prog [75]) hk ob 6000 loose w := by
  intro os
  kernel_rfl
end K7
/-! ## K7Rules -/
set_option Elab.async false
set_option linter.all false
set_option maxRecDepth 100000
set_option maxHeartbeats 4000000
/-! Rules of our own over HandS: an attribute as a target; a def called by keywords alone; repr of a text; a text times an int; enumerate over a tuple; a tuple whose object is known, its methods. -/
namespace K7
open PySem PySem.Spec PyProof.Rows L2
section
variable {X : Cx}
/-! ### o.f as a target -/
def gFld (K : PySem.W.Frag) (to : TE) (f : Str) : TG := fun v σ H Q => to σ H fun x H1 => ∃ a C dx fs, x = .ref a ∧ H1 a = some (.ins C dx fs) ∧ Cls K C ∧ NoAttr K C f ∧ fs.length < 1000 ∧ Q σ (upd H1 a (.ins C dx (putF f v fs)))
theorem pg_fld {o : Expr} {f : Str} {pos : Pos} {to : TE} (ho : PE X o to)
    (ha : ∀ v, assign (.Attribute o f pos) X.env v = (do
      let ov ← holding [v] (eval o X.env)
      standAt pos.atName
      holding [v, ov] (setAttr ov f v)
      release [v, ov] []) := by intro _; rfl) : PG X (.Attribute o f pos) (gFld X.K to f) := by
  refine ⟨fun pins s σ H v u Q I r h => ?_⟩
  rw [ha]
  refine wpAny_bind (wpAny_holding (thn (ho.run pins s σ H _ I h) fun ov s1 ⟨x, H1, I1, r1, a, C, dx, fs, ex, ea, c, n, l, q⟩ => ?_))
  subst ex
  obtain rfl : ov = Value.ref a := r1
  refine wpAny_bind (wpAny_standAt (wpAny_bind (wpAny_holding (setattr_ok I1 ea c n l r fun s3 I3 => ?_))))
  exact wpAny_release ⟨σ, _, I3, q⟩
/-! ### f(k = v, ..) -/
theorem pe_callK0 {CX : CXT} {k : Nat} {f : Addr} {fd : FuncData} {ps ks : List Str} {sp : Sp} {E : XK} {x : Str} {p pos : Pos} {kws : List Keyword} {tk : TA} {g : List Value → List Value → List Value} {gV : List V → List V → List V}
    (F : FnOk X.prog X.w X.K X.mg X.base CX k f fd ps sp) (hr : Room k X.A) (hg : Gl X x) (hm : X.mg x = some (.ref f)) (hk : PySem.W.keepIn X.K (.ref f) = true) (hb : KBinds X.K fd ps ks g gV) (hx : Passes CX X E)
    (hkw : PK X kws tk) (hall : (backToKw pos (keywordEach kws X.env)).all (·.1.isSome) = true := by rfl) (hks : (backToKw pos (keywordEach kws X.env)).filterMap (·.1) = ks := by rfl)
    (hdb : (x == ("__debug__" : Str)) = false := by decide)
    (hpl : ((backTo pos (starEach [] X.env)).any (·.1) || (backToKw pos (keywordEach kws X.env)).any (·.1.isNone)) = false := by rfl) :
    PE X (.Call (.Name x p) [] kws pos) (tCallK sp gV E tNil tk) := by
  refine ⟨fun pins s σ H Q I h => ?_⟩
  refine wpAny_Call_Name_kw (ld_glob I hg hm ?_ hdb)
  refine PySem.W.callWith_KW0 (h₀ := X.base) I.ok.mod.kin hk hall ?_ hpl
  refine thn (hkw.run pos pins s σ H _ I h) fun ws s2 ⟨zs, H2, I2, rz, q2⟩ => ⟨I2.kIn, ?_⟩
  rw [hks]
  exact run_fnk (us := []) (vs := []) F hr hb hx I2 .nil rz q2
/-! ### repr(text) -/
theorem call_repr_str : CallR X (.builtin "repr") (fun xs H Q => ∃ z : Str, xs = [.str z] ∧ (reprText z).length ≤ sizeLine ∧ Q (.str (reprText z)) H) := by
  intro pins s σ H xs us Q I r h
  obtain ⟨z, rfl, hz, q⟩ := h
  obtain ⟨u, rfl, t, rfl⟩ := vals1 r
  exact PySem.P.repr_of_str ⟨.str (reprText z), H, I.tok _, ⟨_, rfl⟩, q⟩ hz
/-! ### text * int -/
theorem op_mul_str : OpR X (binaryOp .Mult) (fun x y H Q => ∃ (z : Str) (i : Int), x = .str z ∧ y = .int i ∧ z.length ≤ 16 ∧ -(2 ^ 63) ≤ i ∧ i ≤ 1048576 ∧ Q (.str (PySem.Txt.mul z i)) H) := by
  intro pins s σ H x y v u Q I rx ry h
  obtain ⟨z, i, rfl, rfl, hz, hlo, hhi, q⟩ := h
  obtain ⟨t, rfl⟩ := (show ∃ t, v = Value.str z t from rx)
  obtain ⟨t', rfl⟩ := (show ∃ t, u = Value.int i t from ry)
  exact PySem.SB.mul (mulOk_of 16 1048576 hz hhi hlo (by decide) (by decide)) fun t' k => ⟨.str (PySem.Txt.mul z i), H, I.tok _, ⟨_, rfl⟩, q⟩
end
/-! ### a tuple whose object is known -/
section
variable {X : Cx}
/-- at p a tuple of ys stands, its object known: of the class itself, without a dict (its methods can be called) -/
def FzT (H : Hp) (p : Addr) (ys : List V) : Prop := ∃ o : Obj, o.cls = .type "tuple" ∧ o.dict = none ∧ H p = some (.frz o (.tup ys))
theorem FzT.seq {K : PySem.W.Frag} {H : Hp} {p : Addr} {ys : List V} (h : FzT H p ys) : SqT K H p ys := let ⟨o, _, _, e⟩ := h; .inl (.inr ⟨o, e⟩)
/-- tuple(a list): a new tuple, its object known -/
theorem call_tuple_frz : CallR X (.type "tuple") (fun xs H Q => ∃ p ys, xs = [.ref p] ∧ SqL X.K H p ys ∧ ∀ l o, H l = none → o.cls = .type "tuple" → o.dict = none → Q (.ref l) (upd H l (.frz o (.tup ys)))) := by
  intro pins s σ H xs us Q I r h
  obtain ⟨p, ys, rfl, hq, q⟩ := h
  obtain ⟨u, rfl, rx⟩ := vals1 r
  cases rx
  obtain ⟨its, r', pl, hz⟩ := I.list hq
  have hlen := r'.length
  refine call_tuple_list pl.isList (fun h' kp => ?_) (by simp only [List.size_toArray] <;> omega)
  have I1 : Inv X pins σ H { s with heap := h' } := I.kept (t' := s.toks) kp
  have e0 : (h'.push { cls := .type "tuple", data := .seq its.toArray }).get? h'.objs.size = some { cls := .type "tuple", data := .seq its.toArray } := Heap.get?_push_size _ rfl
  have I2 : Inv X pins σ (upd H h'.objs.size (.frz { cls := .type "tuple", data := .seq its.toArray } (.tup ys))) { s with heap := h'.push { cls := .type "tuple", data := .seq its.toArray } } :=
    I1.laid (t' := s.toks) (fun b o e => Heap.get?_push_of_some _ e) (Nat.le_refl _) ⟨e0, hz, its, r', IsTup.new _ _⟩
  exact ⟨.ref h'.objs.size, _, I2, rfl, q _ _ (I1.hok.fresh (Nat.le_refl _)) rfl rfl⟩
def tBMT (r : V → List V → Hp → VK → Prop) (to : TE) (t : TA) : TE := fun σ H Q => to σ H fun x H1 => (∃ p ys, x = .ref p ∧ FzT H1 p ys) ∧ t σ H1 fun xs H2 => r x xs H2 Q
/-- t.m(e, ..) of such a tuple -/
theorem pe_bmT {o e : Expr} {es : List Expr} {to : TE} {t : TA} {name : Str} {apos cpos : Pos} {id : String} {r : V → List V → Hp → VK → Prop} (slot : Slot "tuple" name id) (hty : typeOf (.builtin id) = pure (.type "method_descriptor")) (hm : MtR X id r) (ho : PE X o to) (ha : PA X (e :: es) t)
    (hbase : attributeBase o name X.env (eval o X.env) = eval o X.env := by rfl)
    (hfew : ((backTo cpos (starEach (e :: es) X.env)).all (fun x => !x.1) && (backToKw cpos (keywordEach [] X.env)).all (fun x => x.1.isSome)
      && decide ((e :: es).length + ([] : List Keyword).length + (if ([] : List Keyword).isEmpty then 0 else 1) < 30)) = true := by rfl)
    (hline : (apos.endLine == cpos.line) = true := by rfl) (hs : starEach (e :: es) X.env = (false, eval e X.env) :: starEach es X.env := by rfl) (hplain : (backTo cpos (starEach es X.env)).any (·.1) = false := by rfl) :
    PE X (.Call (.Attribute o name apos) (e :: es) [] cpos) (tBMT r to t) := by
  refine ⟨fun pins s σ H Q I h => ?_⟩
  refine wpAny_Call_method_late hbase hfew hline rfl (thn (ho.run pins s σ H _ I h) fun v s1 ⟨x, H1, I1, r1, ⟨p, ys, ex, ob, oc, od, oh⟩, q1⟩ => ?_)
  subst ex
  obtain rfl : v = Value.ref p := r1
  have hob : s1.heap.get? p = some ob := (I1.hok p _ oh).1
  refine ⟨"tuple", id, PySem.F.plainAttrs_tuple, slot, hty, ⟨ob, hob, oc⟩, fun a e => ?_, ?_⟩
  · cases e
    exact ⟨ob, hob, od⟩
  have hA := ha.run cpos pins s1 σ H1 _ I1 q1
  rw [hs] at hA ⊢
  refine Calls.callWith_builtin (by show (false || (backTo cpos (starEach es X.env)).any (·.1)) = false; rw [hplain] <;> rfl) (Calls.evalArgs_plain ?_)
  exact thn hA fun us s2 ⟨vs, H2, I2, r2, q2⟩ => hm pins s2 σ H2 (.ref p) vs (.ref p) us Q I2 rfl r2 q2
end
/-! ### enumerate(tuple) -/
theorem meets_enumerate_newT (l : Addr) (items : Array Value) (n : Nat) (dct : Option Addr) (sl : Array (Option Value)) :
    Meets (Builtin.«enumerate.__new__» ⟨[.type "enumerate", .ref l], []⟩) (fun _ R s => s.heap.get? l = some { cls := .type "tuple", dict := dct, data := .seq items n, slots := sl } ∧
      R (.ok (.ret (.ref (s.heap.push { cls := .type "tuple_iterator", data := .fields #[.ref l, .int 0 0] }).objs.size)))
        { s with heap := (s.heap.push { cls := .type "tuple_iterator", data := .fields #[.ref l, .int 0 0] }).push { cls := .type "enumerate", data := .fields #[.none, .bool false, .ref s.heap.objs.size, rawInt 0, .none, .none] } }) :=
  .of_wp fun prog w A R s h => by
    obtain ⟨hp, g, d, tk, os⟩ := s; obtain ⟨hl, h⟩ := h
    have hsub := sub_enumerate
    have hL : Heap.IsTuple (Shared.heap ⟨hp, g, d, tk, os⟩) l items := ⟨_, hl, rfl, n, rfl⟩
    wp_walk using PySem.AutoSeq1.wpAny_loadPart' hl
    refine wpAny_stack_any fun st => wpAny_pure ?_
    split
    · rename_i c _ _ _ _ _
      cases (c == Value.type "enumerate")
      · wp_walk using PySem.AutoSeq1.wpAny_loadPart' hl, wpAny_pyIter_tuple hL
        exact ⟨_, rfl, h⟩
      · wp_walk using PySem.AutoSeq1.wpAny_loadPart' hl, wpAny_pyIter_tuple hL
        exact ⟨_, rfl, h⟩
    · wp_walk using PySem.AutoSeq1.wpAny_loadPart' hl, wpAny_pyIter_tuple hL
      exact ⟨_, rfl, h⟩
theorem call_enumerate_tuple {prog : Program} {w : World} {A : Around} {E : Value → Shared → Prop} {s : Shared} {l : Addr} {items : Array Value} {Q : Value → Shared → Prop} (hL : IsTup s.heap l items)
    (h : ∀ h', IsEnum h' (s.heap.objs.size + 1) s.heap.objs.size 0 .none → h'.IsTupleIter s.heap.objs.size l 0 → h'.objs.size = s.heap.objs.size + 2 →
      (∀ b o, s.heap.get? b = some o → h'.get? b = some o) → Q (.ref (s.heap.objs.size + 1)) { s with heap := h' }) :
    wpAny (model prog w) A (call (.type "enumerate") [.ref l]) Q E s := by
  obtain ⟨⟨c, dct, dt, sl⟩, hl, hc, n, hd⟩ := hL
  replace hc : c = .type "tuple" := hc
  replace hd : dt = .seq items n := hd
  subst hc hd
  refine callType_new F.called_enumerate (by decide) (F.typeCall_enumerate_1 _) (F.newCall_enumerate_1 _) (fun obj => F.args_object_init_2 obj _) F.entry_enumerate_new
    (meets_enumerate_newT l items n dct sl) ⟨hl, ?_⟩
  have hz : (s.heap.push { cls := .type "tuple_iterator", data := .fields #[.ref l, .int 0 0] }).objs.size = s.heap.objs.size + 1 := Heap.size_push ..
  show _ ∧ _
  rw [hz]
  have he : IsEnum ((s.heap.push { cls := .type "tuple_iterator", data := .fields #[.ref l, .int 0 0] }).push
      { cls := .type "enumerate", data := .fields #[.none, .bool false, .ref s.heap.objs.size, rawInt 0, .none, .none] }) (s.heap.objs.size + 1) s.heap.objs.size 0 .none := by
    have := Heap.get?_push_size (s.heap.push { cls := .type "tuple_iterator", data := .fields #[.ref l, .int 0 0] })
      (o := { cls := .type "enumerate", data := .fields #[.none, .bool false, .ref s.heap.objs.size, rawInt 0, .none, .none] }) rfl
    rw [hz] at this; exact this
  refine ⟨⟨_, he, rfl⟩, h _ he ⟨_, Heap.get?_push_of_some _ (Heap.get?_push_size _ rfl), rfl, rfl⟩ (by rw [Heap.size_push, hz]) fun b o x => Heap.get?_push_of_some _ (Heap.get?_push_of_some _ x)⟩
/-- the tuple at a as it stands at each turn, each item in a new pair -/
def IteT (K : PySem.W.Frag) (a : Addr) : It :=
  ⟨fun i H => ∃ (xs : List V) (x : V), SqT K H a xs ∧ xs[i]? = some x, fun i H v H' => ∃ T x, v = .ref T ∧ H T = none ∧ H' = upd H T (.tup [.int (i : Nat), x]) ∧ ∀ xs, SqT K H a xs → xs[i]? = some x, fun i H => ∃ xs : List V, SqT K H a xs ∧ xs.length ≤ i⟩
theorem turn_enumT {P : Program} {w : World} {K : PySem.W.Frag} {elts : List Expr} {kk : Nat} {tpos : Pos} (a e it : Addr) :
    Turn P w K (.Tuple elts kk tpos) (IteT K a) [e, it] e (fun i h => (∃ old, IsEnum h e it ((i : Nat) : Int) old) ∧ h.IsTupleIter it a i ∧ e ≠ it) where
  mem := by simp
  obj := fun i h st b hb => by
    obtain ⟨⟨old, he⟩, ⟨o, ho, hc, hd⟩, _⟩ := st
    have e' : b = e ∨ b = it := by simpa using hb
    rcases e' with z | z
    · rw [z]; exact ⟨_, he, fun v q => nomatch q⟩
    · rw [z]; exact ⟨o, ho, fun v q => by rw [hd] at q; cases q⟩
  keep := fun i h h' st k => let ⟨⟨old, he⟩, hi, hne⟩ := st; ⟨⟨old, k e (by simp) _ he⟩, hi.at fun o q => k it (by simp) o q, hne⟩
  item := by
    intro X hP hw hK hc i pins s σ H E I hf st hg
    subst hP hw hK
    obtain ⟨⟨old, he⟩, hit, hne⟩ := st
    obtain ⟨xs, x, hq, hx⟩ := hg
    obtain ⟨its, rv, p, hz⟩ := I.tuple hq
    obtain ⟨u, hu, ru⟩ := rv.get hx
    have hel : e < s.heap.objs.size := Heap.lt_size he
    have hil : it < s.heap.objs.size := by obtain ⟨_, q, _⟩ := hit; exact Heap.lt_size q
    have hai : a ≠ it := by
      rintro rfl
      obtain ⟨o1, e1, c1, _⟩ := p
      obtain ⟨o2, e2, c2, _⟩ := hit
      rw [e1] at e2
      cases e2
      rw [c1] at c2
      exact absurd c2 (by intro z; injection z with z; exact absurd z (by decide))
    have hae : e ≠ a := by
      rintro rfl
      obtain ⟨o1, e1, c1, _⟩ := p
      have e2 : s.heap.get? e = _ := he
      rw [e1] at e2
      cases e2
      exact absurd c1 (by intro z; injection z with z; exact absurd z (by decide))
    have hh : X.A.in1.handled = none := I.ok.hd hc
    refine wpAny_pyNext_enum_itemD (Draws.tuple hh it a hai its.toArray) he ⟨hit, p⟩ (by have := (List.getElem?_eq_some_iff.mp hu).1; simpa using this) hne (by simp [hne, hae]) fun x' h' tk hP ho hit' hT hsz hk => ?_
    have ex' : x' = u := by
      have hu' : its.toArray[i]? = some u := by simpa using hu
      rw [hu'] at hP
      exact (Option.some.inj hP).symm
    subst ex'
    refine ⟨_, rfl, wpAny_letOwnedTupleGo_enum (s := { s with heap := h', toks := tk + 1 }) ho fun h'' he' sb => ?_⟩
    have hT2 : h''.get? s.heap.objs.size = some { cls := .type "tuple", data := .seq #[.int i tk, x'] } := (sb.2 _ (Nat.ne_of_gt hel)).trans hT
    have new : ObjOk X.prog X.w (upd H s.heap.objs.size (.tup [.int (i : Nat), x])) h'' s.heap.objs.size (.tup [.int (i : Nat), x]) :=
      ⟨by show 2 ≤ sizeLine; decide, [.int i tk, x'], .cons ⟨_, rfl⟩ (.cons ru .nil), ⟨_, hT2, rfl, _, rfl⟩⟩
    have I1 : Inv X pins σ (upd H s.heap.objs.size (.tup [.int (i : Nat), x])) { s with heap := h'', toks := tk + 1 } :=
      I.turnedNew (ch := [e, it]) (fun b ob hb q => (sb.2 b (fun z => hb (by simp [z]))).trans (hk b ob (fun z => hb (by simp [z])) (fun z => hb (by simp [z])) q)) hf (Nat.le_refl _) new
    refine ⟨.ref s.heap.objs.size, _, I1, rfl, ⟨_, x, rfl, I.hok.fresh (Nat.le_refl _), rfl, fun ys hy => by rw [I.tuple_inj hy hq]; exact hx⟩, ⟨⟨x', ?_⟩, hit'.1.at fun o q => (sb.2 it (Ne.symm hne)).trans q, hne⟩, fun b hb => ?_⟩
    · have e1 : ((i + 1 : Nat) : Int) = (i : Int) + 1 := by omega
      rw [e1]; exact he'
    · have hb' : b < s.heap.objs.size := by
        have e' : b = e ∨ b = it := by simpa using hb
        rcases e' with z | z
        · rw [z]; exact hel
        · rw [z]; exact hil
      rw [upd_ne (Nat.ne_of_lt hb')]
      exact (hf b hb).1
  done := by
    intro X hP hw hK hc i pins s σ H E I hf st hg
    subst hP hw hK
    obtain ⟨⟨old, he⟩, hit, hne⟩ := st
    obtain ⟨xs, hq, hx⟩ := hg
    obtain ⟨its, rv, p, hz⟩ := I.tuple hq
    obtain ⟨f0, f1, f2, f3, f4, f5⟩ := hf it (by simp)
    have hl := rv.length
    have hh : X.A.in1.handled = none := I.ok.hd hc
    have hT : s.TypeIs (.ref e) "enumerate" := ⟨_, he, rfl⟩
    unfold pyNext
    refine wpAny_bind (wpAny_attempt (wpAny_callSpecial?_slot (name := Str.ofString "__next__") hT F.slot_enumerate_next
      (wpAny_call_entry F.slot_enumerate_next hT F.entry_enumerate_next ?_ (F.args_enumerate_next_1 _))))
    show wpAny _ _ (field (.ref e) 2 >>= _) _ _ _
    refine wpAny_bind (wpAny_field he rfl (x := .ref it) rfl ?_)
    refine wpAny_bind (wpAny_nextOf_tuple_end hh hit p (by simp; omega) fun h' x he' hx' => ?_)
    obtain ⟨o, ho, hc'⟩ := hx'
    refine wpAny_bind (wpAny_isInstance (T := "StopIteration") (b := true) ⟨o, ho, hc'⟩ isSubtype_stop ?_)
    exact wpAny_pure ⟨rfl, I.turned (t' := s.toks) (fun b o hb q => he' b o hb q) f0 f1 f3 f4 f5⟩
  self := fun A i s Q E st h => let ⟨⟨_, he⟩, _⟩ := st; wpAny_pyIter_enum he h
def iEnumT (K : PySem.W.Frag) (ta : TA) : TI := fun σ H R => ta σ H fun vs H1 => ∃ a xs, vs = [.ref a] ∧ SqT K H1 a xs ∧ R (IteT K a) H1
theorem pi_enumT {X : Cx} {e : Expr} {ta : TA} {p pos tpos : Pos} {elts : List Expr} {kk : Nat} (hg : Gl X "enumerate") (hm : X.mg "enumerate" = none) (ha : PA X [e] ta) (hs : starEach [e] X.env = [(false, eval e X.env)] := by rfl) :
    PI X (.Tuple elts kk tpos) (.Call (.Name "enumerate" p) [e] [] pos) (iEnumT X.K ta) := by
  refine ⟨fun pins s σ H R I h => ?_⟩
  refine Call_ (ld_blt I hg hm boot_enumerate (PyProof.Rows.callWith_type1 (thn (ha.run pos pins s σ H _ I h) fun us s1 ⟨vs, H1, I1, r1, q1⟩ => ?_) hs rfl))
  obtain ⟨a, xs, ex, hq, q⟩ := q1
  subst ex
  cases r1 with
  | cons r rr =>
    cases rr
    cases r
    obtain ⟨its, rv, p', hz⟩ := I1.tuple hq
    refine call_enumerate_tuple p' fun h' he hit hsz hk => wpAny_pyIter_enum he ?_
    have I2 : Inv X pins σ H1 { s1 with heap := h' } := I1.kept (t' := s1.toks) hk
    refine ⟨s1.heap.objs.size + 1, [s1.heap.objs.size + 1, s1.heap.objs.size], _, _, H1, rfl, I2, turn_enumT a (s1.heap.objs.size + 1) s1.heap.objs.size, ⟨⟨.none, he⟩, hit, Nat.succ_ne_self _⟩, fun b hb => ?_, q⟩
    have e' : b = s1.heap.objs.size + 1 ∨ b = s1.heap.objs.size := by simpa using hb
    have hle : s1.heap.objs.size ≤ b := by
      rcases e' with z | z
      · rw [z]; exact Nat.le_add_right _ _
      · rw [z]; exact Nat.le_refl _
    exact I1.fpOk hle (I1.hok.fresh hle)
theorem walk_enumT {K : PySem.W.Frag} {a : Addr} {xs : List V} : Walk (IteT K a) xs.length (fun H => SqT K H a xs) (YPair (fun i => some (.int (i : Nat))) (fun i => xs[i]?)) where
  goes := fun i H hi hG => ⟨xs, xs[i], hG, List.getElem?_eq_getElem hi⟩
  stops := fun H hG => ⟨xs, hG, Nat.le_refl _⟩
  yields := fun i H x H' hi hG ⟨T, y, e, n, u, f⟩ => ⟨T, _, y, e, n, u, rfl, f xs hG⟩
end K7
/-! ## K7Txt -/
set_option Elab.async false
set_option linter.all false
set_option maxRecDepth 100000
set_option maxHeartbeats 4000000
/-! What the walk asks of the top; a def's promise by its body. -/
namespace K7
open PySem PySem.Spec PyProof.Rows L2
abbrev FdD (K : PySem.W.Frag) (x qual : Str) (st : Stmt) (f : Addr) (fd : FuncData) : Prop := FunD K x qual (defArgs st) (defBody st) (defScope st) [] [] f fd
/-- a def of the module -/
structure Fx (K : PySem.W.Frag) (mg : Str → Option Value) (x : Str) (st : Stmt) : Prop where
  ex : ∃ f fd, mg x = some (.ref f) ∧ FdD K x x st f fd
/-- a method of the class at C -/
structure Mx (K : PySem.W.Frag) (C : Addr) (m qual : Str) (st : Stmt) : Prop where
  ex : ∃ f fd, Meth K C m f ∧ FdD K m qual st f fd
/-- the __init__ of the class at C -/
structure Ix (K : PySem.W.Frag) (C : Addr) (qual : Str) (st : Stmt) : Prop where
  ex : ∃ f fd, Mk K C f ∧ FdD K "__init__" qual st f fd
abbrev CF (K : PySem.W.Frag) : Addr := He.ga K "FractionText"
abbrev CD (K : PySem.W.Frag) : Addr := He.ga K "DayText"
abbrev CS (K : PySem.W.Frag) : Addr := He.ga K "SequenceText"
abbrev CTb (K : PySem.W.Frag) : Addr := He.ga K "Table"
abbrev CT (K : PySem.W.Frag) : Addr := He.ga K "TableText"
structure Txt (K : PySem.W.Frag) (mg : Str → Option Value) : Prop where
  f_show_fraction : Fx K mg "show_fraction" s_show_fraction
  f_show_table : Fx K mg "show_table" s_show_table
  f_show_lines : Fx K mg "show_lines" s_show_lines
  f_show_day : Fx K mg "show_day" s_show_day
  f_show_sequence : Fx K mg "show_sequence" s_show_sequence
  f_is_integer : Fx K mg "is_integer" s_is_integer
  f_is_number : Fx K mg "is_number" s_is_number
  f_is_name : Fx K mg "is_name" s_is_name
  f_are_numbers : Fx K mg "are_numbers" s_are_numbers
  f_is_ascending : Fx K mg "is_ascending" s_is_ascending
  f_is_listing : Fx K mg "is_listing" s_is_listing
  f_run_end : Fx K mg "run_end" s_run_end
  f_mark_at : Fx K mg "mark_at" s_mark_at
  f_marks_of : Fx K mg "marks_of" s_marks_of
  f_numeral_of : Fx K mg "numeral_of" s_numeral_of
  f_common_divisor : Fx K mg "common_divisor" s_common_divisor
  f_fraction_of : Fx K mg "fraction_of" s_fraction_of
  f_floor_of : Fx K mg "floor_of" s_floor_of
  f_ceiling_of : Fx K mg "ceiling_of" s_ceiling_of
  f_are_kinds : Fx K mg "are_kinds" s_are_kinds
  f_taken_in : Fx K mg "taken_in" s_taken_in
  f_read_whole : Fx K mg "read_whole" s_read_whole
  f_read_fraction : Fx K mg "read_fraction" s_read_fraction
  f_read_table : Fx K mg "read_table" s_read_table
  f_read_lines : Fx K mg "read_lines" s_read_lines
  f_read_day : Fx K mg "read_day" s_read_day
  f_read_sequence : Fx K mg "read_sequence" s_read_sequence
  f_L_heap : Fx K mg "_law_heap" s_L_heap
  f_L_draw : Fx K mg "_law_draw" s_L_draw
  f_L_pick : Fx K mg "_law_pick" s_L_pick
  f_L_mixed : Fx K mg "_law_mixed" s_L_mixed
  f_L_names : Fx K mg "_law_names" s_L_names
  f_L_totals : Fx K mg "_law_totals" s_L_totals
  f_L_lowest : Fx K mg "_law_lowest" s_L_lowest
  f_L_amount : Fx K mg "_law_amount" s_L_amount
  f_L_amount_marks : Fx K mg "_law_amount_marks" s_L_amount_marks
  f_L_wholes : Fx K mg "_law_wholes" s_L_wholes
  f_L_lines : Fx K mg "_law_lines" s_L_lines
  f_L_table_marks : Fx K mg "_law_table_marks" s_L_table_marks
  f_L_day_marks : Fx K mg "_law_day_marks" s_L_day_marks
  f_L_spread : Fx K mg "_law_spread" s_L_spread
  f_L_fewest : Fx K mg "_law_fewest" s_L_fewest
  f_L_shown : Fx K mg "_law_shown" s_L_shown
  f_L_fraction_right : Fx K mg "_law_fraction_right" s_L_fraction_right
  f_L_table_right : Fx K mg "_law_table_right" s_L_table_right
  f_L_days_right : Fx K mg "_law_days_right" s_L_days_right
  f_law : Fx K mg "law" s_law
  m_F_take : Mx K (CF K) "take" "FractionText.take" s_F_take
  m_F_take_number : Mx K (CF K) "take_number" "FractionText.take_number" s_F_take_number
  m_F_ends : Mx K (CF K) "ends" "FractionText.ends" s_F_ends
  m_F_told : Mx K (CF K) "told" "FractionText.told" s_F_told
  m_D_take : Mx K (CD K) "take" "DayText.take" s_D_take
  m_D_take_kind : Mx K (CD K) "take_kind" "DayText.take_kind" s_D_take_kind
  m_D_take_amount : Mx K (CD K) "take_amount" "DayText.take_amount" s_D_take_amount
  m_D_end_line : Mx K (CD K) "end_line" "DayText.end_line" s_D_end_line
  m_D_take_whole : Mx K (CD K) "take_whole" "DayText.take_whole" s_D_take_whole
  m_D_ends : Mx K (CD K) "ends" "DayText.ends" s_D_ends
  m_D_told : Mx K (CD K) "told" "DayText.told" s_D_told
  m_S_take : Mx K (CS K) "take" "SequenceText.take" s_S_take
  m_S_ends : Mx K (CS K) "ends" "SequenceText.ends" s_S_ends
  m_S_told : Mx K (CS K) "told" "SequenceText.told" s_S_told
  m_Tb_eq : Mx K (CTb K) "__eq__" "Table.__eq__" s_Tb_eq
  m_T_take : Mx K (CT K) "take" "TableText.take" s_T_take
  m_T_end_line : Mx K (CT K) "end_line" "TableText.end_line" s_T_end_line
  m_T_ends : Mx K (CT K) "ends" "TableText.ends" s_T_ends
  m_T_told : Mx K (CT K) "told" "TableText.told" s_T_told
  i_F : Ix K (CF K) "FractionText.__init__" s_F_init
  i_D : Ix K (CD K) "DayText.__init__" s_D_init
  i_S : Ix K (CS K) "SequenceText.__init__" s_S_init
  i_Tb : Ix K (CTb K) "Table.__init__" s_Tb_init
  i_T : Ix K (CT K) "TableText.__init__" s_T_init
  c_F : Cls K (CF K)
  g_F : mg "FractionText" = some (.ref (CF K))
  n_F_stage : NoAttr K (CF K) "stage"
  n_F_sign : NoAttr K (CF K) "sign"
  n_F_top : NoAttr K (CF K) "top"
  n_F_bottom : NoAttr K (CF K) "bottom"
  c_D : Cls K (CD K)
  g_D : mg "DayText" = some (.ref (CD K))
  n_D_table : NoAttr K (CD K) "table"
  n_D_rounded : NoAttr K (CD K) "rounded"
  n_D_stage : NoAttr K (CD K) "stage"
  n_D_lines : NoAttr K (CD K) "lines"
  n_D_kind : NoAttr K (CD K) "kind"
  n_D_amount : NoAttr K (CD K) "amount"
  n_D_wholes : NoAttr K (CD K) "wholes"
  c_S : Cls K (CS K)
  g_S : mg "SequenceText" = some (.ref (CS K))
  n_S_table : NoAttr K (CS K) "table"
  n_S_row : NoAttr K (CS K) "row"
  c_Tb : Cls K (CTb K)
  g_Tb : mg "Table" = some (.ref (CTb K))
  n_Tb_kinds : NoAttr K (CTb K) "kinds"
  n_Tb_totals : NoAttr K (CTb K) "totals"
  c_T : Cls K (CT K)
  g_T : mg "TableText" = some (.ref (CT K))
  n_T_stage : NoAttr K (CT K) "stage"
  n_T_kinds : NoAttr K (CT K) "kinds"
  n_T_totals : NoAttr K (CT K) "totals"
  letters : ∃ t, mg "LETTERS" = some (.str "abcdefghijklmnopqrstuvwxyz" t)
  digits : ∃ t, mg "DIGITS" = some (.str "0123456789" t)
  k_LONGEST_NAME : ∃ t, mg "LONGEST_NAME" = some (.int 6 t)
  k_MOST_PART : ∃ t, mg "MOST_PART" = some (.int 1000000 t)
  k_MOST_LINES : ∃ t, mg "MOST_LINES" = some (.int 400 t)
  k_MOST_KINDS : ∃ t, mg "MOST_KINDS" = some (.int 12 t)
  k_MOST_TOTALS : ∃ t, mg "MOST_TOTALS" = some (.int 12 t)
  e_Tb_cls : PySem.W.findIn K (.ref (CTb K)) "__class__" = some (some (.builtin "object.__class__"))
  e_Tb_get : PySem.W.specialIn K (.builtin "object.__class__") "__get__" = some (some (.builtin "getset_descriptor.__get__"))
  e_Tb_tk : PySem.W.takesIn K (.builtin "object.__class__") = some true
  e_Tb_mro : PySem.W.mroIn K (CTb K) (.type "object") = some true

  z_isinstance : mg "isinstance" = none
  z_int : mg "int" = none
  z_bool : mg "bool" = none
  z_str : mg "str" = none
  z_tuple : mg "tuple" = none
  z_list : mg "list" = none
  z_len : mg "len" = none
  z_all : mg "all" = none
  z_any : mg "any" = none
  z_range : mg "range" = none
  z_enumerate : mg "enumerate" = none
  z_sorted : mg "sorted" = none
  z_abs : mg "abs" = none
  z_sum : mg "sum" = none
  z_max : mg "max" = none
  z_repr : mg "repr" = none
theorem b_isinstance : bootBuiltins "isinstance" = some (.builtin "isinstance") := by decide +kernel
theorem b_len : bootBuiltins "len" = some (.builtin "len") := by decide +kernel
theorem b_all : bootBuiltins "all" = some (.builtin "all") := by decide +kernel
theorem b_any : bootBuiltins "any" = some (.builtin "any") := by decide +kernel
theorem b_sorted : bootBuiltins "sorted" = some (.builtin "sorted") := by decide +kernel
theorem b_abs : bootBuiltins "abs" = some (.builtin "abs") := by decide +kernel
theorem b_sum : bootBuiltins "sum" = some (.builtin "sum") := by decide +kernel
theorem b_max : bootBuiltins "max" = some (.builtin "max") := by decide +kernel
theorem b_repr : bootBuiltins "repr" = some (.builtin "repr") := by decide +kernel
theorem b_int : bootBuiltins "int" = some (.type "int") := by decide +kernel
theorem b_bool : bootBuiltins "bool" = some (.type "bool") := by decide +kernel
theorem b_str : bootBuiltins "str" = some (.type "str") := by decide +kernel
theorem b_tuple : bootBuiltins "tuple" = some (.type "tuple") := by decide +kernel
theorem b_list : bootBuiltins "list" = some (.type "list") := by decide +kernel
theorem b_range : bootBuiltins "range" = some (.type "range") := by decide +kernel
theorem b_enumerate : bootBuiltins "enumerate" = some (.type "enumerate") := by decide +kernel
/-- a call of the module's def x -/
structure Cal (P : Program) (w : World) (K : PySem.W.Frag) (mg : Str → Option Value) (base : Heap) (x : Str) (k : Nat) (ps : List Str) (sp : Sp) : Prop where
  ex : ∃ f fd, mg x = some (.ref f) ∧ PySem.W.keepIn K (.ref f) = true ∧ Binds K fd ps [] ∧ FnOk P w K mg base CX0 k f fd ps sp
/-- .. its text told -/
structure CalS (P : Program) (w : World) (K : PySem.W.Frag) (mg : Str → Option Value) (base : Heap) (x : Str) (st : Stmt) (k : Nat) (ps : List Str) (sp : Sp) : Prop where
  ex : ∃ f fd, mg x = some (.ref f) ∧ FdD K x x st f fd ∧ FnOk P w K mg base CX0 k f fd ps sp
/-- a call of it by keywords ks alone -/
structure CalK (P : Program) (w : World) (K : PySem.W.Frag) (mg : Str → Option Value) (base : Heap) (x : Str) (k : Nat) (ps ks : List Str) (gV : List V → List V → List V) (sp : Sp) : Prop where
  ex : ∃ f fd g, mg x = some (.ref f) ∧ PySem.W.keepIn K (.ref f) = true ∧ KBinds K fd ps ks g gV ∧ FnOk P w K mg base CX0 k f fd ps sp
/-- a call of a method of the class at C -/
structure CalM (P : Program) (w : World) (K : PySem.W.Frag) (mg : Str → Option Value) (base : Heap) (C : Addr) (m : Str) (k : Nat) (ps : List Str) (sp : Sp) : Prop where
  ex : ∃ f fd, Meth K C m f ∧ Binds K fd ps [] ∧ FnOk P w K mg base CX0 k f fd ps sp
/-- C(..) by its __init__ -/
structure CalI (P : Program) (w : World) (K : PySem.W.Frag) (mg : Str → Option Value) (base : Heap) (C : Addr) (k : Nat) (ps : List Str) (sp : Sp) : Prop where
  ex : ∃ f fd, Mk K C f ∧ Binds K fd ps [] ∧ FnOk P w K mg base CX0 k f fd ps sp
section
variable {X : Cx} {x m : Str} {p pos apos : Pos} {k : Nat} {ps : List Str} {sp : Sp} {o e : Expr} {es : List Expr} {ta : TE} {t : TA} {C : Addr}
theorem pe_cal (c : Cal X.prog X.w X.K X.mg X.base x k ps sp) (hr : Room k X.A) (hg : Gl X x) (ha : PA X (e :: es) t) (hdb : (x == ("__debug__" : Str)) = false := by decide)
    (he : starEach (e :: es) X.env = (false, eval e X.env) :: starEach es X.env := by rfl) (hpl : (backTo pos (starEach es X.env)).any (·.1) = false := by rfl) :
    PE X (.Call (.Name x p) (e :: es) [] pos) (tCall sp [] E0 t) := by
  obtain ⟨f, fd, hm, hk, hb, F⟩ := c.ex
  exact pe_call F hr hg hm hk hb .nil pass0 ha hdb he hpl
theorem pe_calK {ks : List Str} {gV : List V → List V → List V} {kws : List Keyword} {tk : TA} (c : CalK X.prog X.w X.K X.mg X.base x k ps ks gV sp) (hr : Room k X.A) (hg : Gl X x) (hkw : PK X kws tk)
    (hall : (backToKw pos (keywordEach kws X.env)).all (·.1.isSome) = true := by rfl) (hks : (backToKw pos (keywordEach kws X.env)).filterMap (·.1) = ks := by rfl)
    (hdb : (x == ("__debug__" : Str)) = false := by decide)
    (hpl : ((backTo pos (starEach [] X.env)).any (·.1) || (backToKw pos (keywordEach kws X.env)).any (·.1.isNone)) = false := by rfl) :
    PE X (.Call (.Name x p) [] kws pos) (tCallK sp gV E0 tNil tk) := by
  obtain ⟨f, fd, g, hm, hk, hb, F⟩ := c.ex
  exact pe_callK0 F hr hg hm hk hb pass0 hkw hall hks hdb hpl
theorem pe_calM {pl : Sem Bool} (c : CalM X.prog X.w X.K X.mg X.base C m k ps sp) (cl : Cls X.K C) (hr : Room k X.A) (he : PE X o ta) (ha : PA X (e :: es) t)
    (hst : starEach (e :: es) X.env = (false, eval e X.env) :: starEach es X.env := by rfl) (hpl : (backTo pos (starEach es X.env)).any (·.1) = false := by rfl)
    (ht : eval (.Call (.Attribute o m apos) (e :: es) [] pos) X.env = (do
      let ov ← eval o X.env
      standAt apos.atName
      let (f, first) ← holding [ov] (getMethod ov m pl)
      callWith pos f first (backTo pos (starEach (e :: es) X.env)) (backToKw pos (keywordEach [] X.env))) := by rfl) :
    PE X (.Call (.Attribute o m apos) (e :: es) [] pos) (tMeth C m sp [] E0 ta t) := by
  obtain ⟨f, fd, hm, hb, F⟩ := c.ex
  exact pe_meth he cl hm F hr hb .nil pass0 ha hst hpl ht
theorem pe_calM0 {pl : Sem Bool} (c : CalM X.prog X.w X.K X.mg X.base C m k ps sp) (cl : Cls X.K C) (hr : Room k X.A) (he : PE X o ta)
    (ht : eval (.Call (.Attribute o m apos) [] [] pos) X.env = (do
      let ov ← eval o X.env
      standAt apos.atName
      let (f, first) ← holding [ov] (getMethod ov m pl)
      callWith pos f first (backTo pos (starEach [] X.env)) (backToKw pos (keywordEach [] X.env))) := by rfl) :
    PE X (.Call (.Attribute o m apos) [] [] pos) (tMeth C m sp [] E0 ta tNil) := by
  obtain ⟨f, fd, hm, hb, F⟩ := c.ex
  exact pe_meth0 he cl hm F hr hb .nil pass0 ht
theorem pe_calI (c : CalI X.prog X.w X.K X.mg X.base C k ps sp) (hr : Room (k + 1) X.A) (hg : Gl X x) (hm : X.mg x = some (.ref C)) (ha : PA X (e :: es) t) (hdb : (x == ("__debug__" : Str)) = false := by decide)
    (he : starEach (e :: es) X.env = (false, eval e X.env) :: starEach es X.env := by rfl) (hpl : (backTo pos (starEach es X.env)).any (·.1) = false := by rfl) :
    PE X (.Call (.Name x p) (e :: es) [] pos) (tMake C sp [] E0 t) := by
  obtain ⟨f, fd, M, hb, F⟩ := c.ex
  exact pe_make M F hr hg hm hb .nil pass0 ha hdb he hpl
theorem pe_calI0 (c : CalI X.prog X.w X.K X.mg X.base C k ps sp) (hr : Room (k + 1) X.A) (hg : Gl X x) (hm : X.mg x = some (.ref C)) (hdb : (x == ("__debug__" : Str)) = false := by decide) :
    PE X (.Call (.Name x p) [] [] pos) (tMake C sp [] E0 tNil) := by
  obtain ⟨f, fd, M, hb, F⟩ := c.ex
  exact pe_make0 M F hr hg hm hb .nil pass0 hdb
end
section
variable {P : Program} {w : World} {K : PySem.W.Frag} {mg : Str → Option Value} {base : Heap}
/-- a body keeps a promise -/
abbrev Body (P : Program) (w : World) (K : PySem.W.Frag) (mg : Str → Option Value) (base : Heap) (k : Nat) (qual : Str) (st : Stmt) (N : List Str) (sp : Sp) : Prop :=
  ∀ (f : Addr) (cdv : Value) (A : Around) (outer : List Env) (s : Shared) (H : Hp) (vs : List V) (Q : VK) (E : XK), Room k (A.deeper (envOfC qual (defScope st) s.heap.objs.size f cdv)) → sp vs H Q E →
    ∃ t, PSs (cxOf CX0 P w K mg base N qual (defScope st) f cdv A outer s H E).nox (defBody st) t ∧ t { nx := fun _ H' => Q .non H', rt := Q } (start N vs) H
/-- how n written arguments bind -/
abbrev BindAll (x qual : Str) (st : Stmt) (ps : List Str) : Prop :=
  ∀ (kV doc pm : Value) (an : Option Addr) (cdv ct : Value) (us : List Value), us.length = ps.length → bindArgs (PySem.W.fnOf x qual (defArgs st) (defBody st) (defScope st) .none kV doc pm an cdv ct) ⟨us, []⟩ = pure (ps.zip us)
theorem fd_ok {x qual : Str} {st : Stmt} {f : Addr} {fd : FuncData} {N ps : List Str} {k : Nat} {sp : Sp} (F : FdD K x qual st f fd) (S : FnScope N ps (defScope st)) (len : ∀ vs H Q E, sp vs H Q E → vs.length = ps.length) (hbody : Body P w K mg base k qual st N sp) :
    FnOk P w K mg base CX0 (k + 1) f fd ps sp :=
  F.ok S len fun cdv A outer s H vs Q E hr h => let ⟨t, h1, h2⟩ := hbody f cdv A outer s H vs Q E hr h; ⟨t, h1.nox, h2⟩
theorem Fx.cal {x : Str} {st : Stmt} {N ps : List Str} {k : Nat} {sp : Sp} (F : Fx K mg x st) (S : FnScope N ps (defScope st)) (hb : BindAll x x st ps) (len : ∀ vs H Q E, sp vs H Q E → vs.length = ps.length) (hbody : Body P w K mg base k x st N sp) : Cal P w K mg base x (k + 1) ps sp := by
  obtain ⟨f, fd, hm, FD⟩ := F.ex
  exact ⟨f, fd, hm, FD.kp, FD.bindsN hb, fd_ok FD S len hbody⟩
theorem Fx.calS {x : Str} {st : Stmt} {N ps : List Str} {k : Nat} {sp : Sp} (F : Fx K mg x st) (S : FnScope N ps (defScope st)) (len : ∀ vs H Q E, sp vs H Q E → vs.length = ps.length) (hbody : Body P w K mg base k x st N sp) : CalS P w K mg base x st (k + 1) ps sp := by
  obtain ⟨f, fd, hm, FD⟩ := F.ex
  exact ⟨f, fd, hm, FD, fd_ok FD S len hbody⟩
theorem CalS.cal {x : Str} {st : Stmt} {ps : List Str} {k : Nat} {sp : Sp} (c : CalS P w K mg base x st k ps sp) (hb : BindAll x x st ps) : Cal P w K mg base x k ps sp := by
  obtain ⟨f, fd, hm, FD, F⟩ := c.ex
  exact ⟨f, fd, hm, FD.kp, FD.bindsN hb, F⟩
theorem vals_rep : ∀ n : Nat, Vals (List.replicate n V.non) (List.replicate n Value.none)
  | 0 => .nil
  | n + 1 => .cons rfl (vals_rep n)
def gKw (n : Nat) {α : Type} (z : α) (g : List α → List α) : List α → List α → List α
  | [], ws => g ws
  | _ :: _, _ => List.replicate (n + 1) z
/-- by keywords alone: g puts their values in the parameters' order -/
theorem CalS.calK {x : Str} {st : Stmt} {ps ks : List Str} {k : Nat} {sp : Sp} (c : CalS P w K mg base x st k ps sp) (g : {α : Type} → List α → List α) (hl : ∀ {α : Type} (ws : List α), (g ws).length = ps.length → ws.length = ks.length)
    (hrel : ∀ {zs : List V} {ws : List Value}, Vals zs ws → Vals (g zs) (g ws))
    (h : ∀ (kV doc pm : Value) (an : Option Addr) (cdv ct : Value) (ws : List Value), ws.length = ks.length → bindArgs (PySem.W.fnOf x x (defArgs st) (defBody st) (defScope st) .none kV doc pm an cdv ct) ⟨[], ks.zip ws⟩ = pure (ps.zip (g ws))) :
    CalK P w K mg base x k ps ks (gKw ps.length V.non g) sp := by
  obtain ⟨f, fd, hm, FD, F⟩ := c.ex
  refine ⟨f, fd, gKw ps.length Value.none g, hm, FD.kp, ⟨fun s us ws X hl' => ?_, fun {vs us zs ws} r1 r => ?_⟩, F⟩
  · cases us with
    | cons u us =>
      have e : (List.replicate (ps.length + 1) Value.none).length = ps.length := hl'
      rw [List.length_replicate] at e
      omega
    | nil =>
      obtain ⟨oc, od, dV, kV, doc, pm, an, cdv, ct, osl, rfl, lk, hcd, hD, hK⟩ := FD.ex
      rcases hD with ⟨_, rfl⟩ | ⟨e, _⟩
      · exact .of_eq (h kV doc pm an cdv ct ws (hl ws hl'))
      · exact absurd rfl e
  · cases r1 with
    | nil => exact hrel r
    | cons _ _ => exact vals_rep _
theorem Mx.cal {C : Addr} {m qual : Str} {st : Stmt} {N ps : List Str} {k : Nat} {sp : Sp} (F : Mx K C m qual st) (S : FnScope N ps (defScope st)) (hb : BindAll m qual st ps) (len : ∀ vs H Q E, sp vs H Q E → vs.length = ps.length) (hbody : Body P w K mg base k qual st N sp) : CalM P w K mg base C m (k + 1) ps sp := by
  obtain ⟨f, fd, hm, FD⟩ := F.ex
  exact ⟨f, fd, hm, FD.bindsN hb, fd_ok FD S len hbody⟩
theorem Ix.cal {C : Addr} {qual : Str} {st : Stmt} {N ps : List Str} {k : Nat} {sp : Sp} (F : Ix K C qual st) (S : FnScope N ps (defScope st)) (hb : BindAll "__init__" qual st ps) (len : ∀ vs H Q E, sp vs H Q E → vs.length = ps.length) (hbody : Body P w K mg base k qual st N sp) : CalI P w K mg base C (k + 1) ps sp := by
  obtain ⟨f, fd, hm, FD⟩ := F.ex
  exact ⟨f, fd, hm, FD.bindsN hb, fd_ok FD S len hbody⟩
end
/-! ### promises by the number of the arguments -/
def sp1 (f : V → Hp → VK → Prop) : Sp := fun vs H Q _ => ∃ a, vs = [a] ∧ f a H Q
def sp2 (f : V → V → Hp → VK → Prop) : Sp := fun vs H Q _ => ∃ a b, vs = [a, b] ∧ f a b H Q
def sp3 (f : V → V → V → Hp → VK → Prop) : Sp := fun vs H Q _ => ∃ a b c, vs = [a, b, c] ∧ f a b c H Q
def sp4 (f : V → V → V → V → Hp → VK → Prop) : Sp := fun vs H Q _ => ∃ a b c d, vs = [a, b, c, d] ∧ f a b c d H Q
theorem len1 {f} : ∀ vs H Q E, sp1 f vs H Q E → vs.length = 1 := by rintro _ _ _ _ ⟨_, rfl, _⟩; rfl
theorem len2 {f} : ∀ vs H Q E, sp2 f vs H Q E → vs.length = 2 := by rintro _ _ _ _ ⟨_, _, rfl, _⟩; rfl
theorem len3 {f} : ∀ vs H Q E, sp3 f vs H Q E → vs.length = 3 := by rintro _ _ _ _ ⟨_, _, _, rfl, _⟩; rfl
theorem len4 {f} : ∀ vs H Q E, sp4 f vs H Q E → vs.length = 4 := by rintro _ _ _ _ ⟨_, _, _, _, rfl, _⟩; rfl
end K7
/-! ## K7Math -/
set_option Elab.async false
set_option linter.all false
set_option maxRecDepth 100000
set_option maxHeartbeats 4000000
/-! Plain laws: marks of texts. No program in sight. -/
namespace K7
open PySem TL
/-- a text by its signs -/
abbrev S (l : List Nat) : Str := ⟨l.toArray⟩
theorem tl_S (l : List Nat) : tl (S l) = l := rfl
theorem S_tl (x : Str) : S (tl x) = x := mk_tl x
theorem S_eq {l : List Nat} {x : Str} : S l = x ↔ l = tl x := ⟨fun h => by rw [← h], fun h => by rw [h]⟩
theorem tl_inj {x y : Str} (h : tl x = tl y) : x = y := ext_tl h
theorem S_append (a b : List Nat) : S (a ++ b) = S a ++ S b := ext_tl (by rw [tl_append])
theorem len_S (l : List Nat) : (S l).length = l.length := by rw [len_tl]
/-! ### signs -/
def letL : List Nat := [97, 98, 99, 100, 101, 102, 103, 104, 105, 106, 107, 108, 109, 110, 111, 112, 113, 114, 115, 116, 117, 118, 119, 120, 121, 122]
def digL : List Nat := [48, 49, 50, 51, 52, 53, 54, 55, 56, 57]
theorem tl_letters : tl ("abcdefghijklmnopqrstuvwxyz" : Str) = letL := by decide +kernel
theorem tl_digits : tl ("0123456789" : Str) = digL := by decide +kernel
def isLet (c : Nat) : Bool := decide (c ∈ letL)
def isDig (c : Nat) : Bool := decide (c ∈ digL)
theorem isLet_iff {c : Nat} : isLet c = true ↔ 97 ≤ c ∧ c ≤ 122 := by
  unfold isLet letL
  rw [decide_eq_true_iff]
  simp only [List.mem_cons, List.not_mem_nil, or_false]
  omega
theorem isDig_iff {c : Nat} : isDig c = true ↔ 48 ≤ c ∧ c ≤ 57 := by
  unfold isDig digL
  rw [decide_eq_true_iff]
  simp only [List.mem_cons, List.not_mem_nil, or_false]
  omega
theorem isLet_false {c : Nat} (h : c < 97 ∨ 122 < c) : isLet c = false := by
  cases e : isLet c with
  | false => rfl
  | true =>
    have := isLet_iff.mp e
    omega
theorem isDig_false {c : Nat} (h : c < 48 ∨ 57 < c) : isDig c = false := by
  cases e : isDig c with
  | false => rfl
  | true =>
    have := isDig_iff.mp e
    omega
/-! ### marks -/
/-- how long the mark is that begins a text -/
def mlen : List Nat → Nat
  | [] => 0
  | c :: r => if isLet c = true then ((c :: r).takeWhile isLet).length else if isDig c = true then ((c :: r).takeWhile isDig).length else 1
def lexN : Nat → List Nat → List (List Nat)
  | 0, _ => []
  | _ + 1, [] => []
  | k + 1, c :: r => (if (c :: r).take (mlen (c :: r)) = [32] then [] else [(c :: r).take (mlen (c :: r))]) ++ lexN k ((c :: r).drop (mlen (c :: r)))
def lex (l : List Nat) : List (List Nat) := lexN l.length l
theorem mlen_cons (c : Nat) (r : List Nat) : mlen (c :: r) = if isLet c = true then ((c :: r).takeWhile isLet).length else if isDig c = true then ((c :: r).takeWhile isDig).length else 1 := rfl
theorem mlen_pos (c : Nat) (r : List Nat) : 0 < mlen (c :: r) := by
  rw [mlen_cons]
  split
  · rename_i h
    rw [List.takeWhile_cons, if_pos h]
    exact Nat.succ_pos _
  · split
    · rename_i h
      rw [List.takeWhile_cons, if_pos h]
      exact Nat.succ_pos _
    · exact Nat.one_pos
theorem takeWhile_le (p : Nat → Bool) (l : List Nat) : (l.takeWhile p).length ≤ l.length := (List.takeWhile_prefix p).length_le
theorem mlen_le (l : List Nat) : mlen l ≤ l.length := by
  cases l with
  | nil => exact Nat.le_refl _
  | cons c r =>
    rw [mlen_cons]
    split
    · exact takeWhile_le _ _
    · split
      · exact takeWhile_le _ _
      · exact Nat.succ_le_succ (Nat.zero_le _)
theorem lexN_eq : ∀ (k j : Nat) (l : List Nat), l.length ≤ k → l.length ≤ j → lexN k l = lexN j l
  | 0, j, l, h, _ => by
    have e : l = [] := List.eq_nil_of_length_eq_zero (Nat.le_zero.mp h)
    subst e
    cases j <;> rfl
  | k + 1, 0, l, _, h => by
    have e : l = [] := List.eq_nil_of_length_eq_zero (Nat.le_zero.mp h)
    subst e
    rfl
  | k + 1, j + 1, [], _, _ => rfl
  | k + 1, j + 1, c :: r, h1, h2 => by
    have hp := mlen_pos c r
    have hl : ((c :: r).drop (mlen (c :: r))).length ≤ r.length := by
      rw [List.length_drop, List.length_cons]
      omega
    rw [List.length_cons] at h1 h2
    show _ ++ lexN k _ = _ ++ lexN j _
    rw [lexN_eq k j _ (by omega) (by omega)]
theorem lex_nil : lex [] = [] := rfl
theorem lex_cons (c : Nat) (r : List Nat) : lex (c :: r) = (if (c :: r).take (mlen (c :: r)) = [32] then [] else [(c :: r).take (mlen (c :: r))]) ++ lex ((c :: r).drop (mlen (c :: r))) := by
  have hp := mlen_pos c r
  have hl : ((c :: r).drop (mlen (c :: r))).length ≤ r.length := by
    rw [List.length_drop, List.length_cons]
    omega
  show _ ++ lexN r.length _ = _ ++ lexN _ _
  rw [lexN_eq r.length _ _ hl (Nat.le_refl _)]
/-- what a text begins with -/
def hd (p : Nat → Bool) : List Nat → Bool
  | [] => false
  | c :: _ => p c
theorem takeWhile_all {p : Nat → Bool} : ∀ {w rest : List Nat}, (∀ c ∈ w, p c = true) → hd p rest = false → (w ++ rest).takeWhile p = w
  | [], [], _, _ => rfl
  | [], c :: r, _, h => by
    have h' : p c = false := h
    show (c :: r).takeWhile p = []
    rw [List.takeWhile_cons, if_neg (by rw [h']; exact Bool.false_ne_true)]
  | c :: w, rest, h, hr => by
    show (c :: (w ++ rest)).takeWhile p = c :: w
    rw [List.takeWhile_cons, if_pos (h c List.mem_cons_self), takeWhile_all (fun d hd' => h d (List.mem_cons_of_mem _ hd')) hr]
theorem lex_word {w rest : List Nat} (hw : w ≠ []) (h : ∀ c ∈ w, isLet c = true) (hr : hd isLet rest = false) : lex (w ++ rest) = w :: lex rest := by
  cases w with
  | nil => exact absurd rfl hw
  | cons c r =>
    have hc : isLet c = true := h c List.mem_cons_self
    have e : mlen (c :: (r ++ rest)) = (c :: r).length := by
      rw [mlen_cons, if_pos hc]
      exact congrArg List.length (takeWhile_all (w := c :: r) h hr)
    show lex (c :: (r ++ rest)) = _
    rw [lex_cons, e]
    have e1 : (c :: (r ++ rest)).take (c :: r).length = c :: r := List.take_left (l₁ := c :: r)
    have e2 : (c :: (r ++ rest)).drop (c :: r).length = rest := List.drop_left (l₁ := c :: r)
    rw [e1, e2, if_neg]
    · rfl
    · intro z
      injection z with z _
      rw [z] at hc
      exact absurd hc (by decide)
theorem lex_num {w rest : List Nat} (hw : w ≠ []) (h : ∀ c ∈ w, isDig c = true) (hr : hd isDig rest = false) : lex (w ++ rest) = w :: lex rest := by
  cases w with
  | nil => exact absurd rfl hw
  | cons c r =>
    have hc : isDig c = true := h c List.mem_cons_self
    have hl : isLet c = false := isLet_false (by have := isDig_iff.mp hc; omega)
    have e : mlen (c :: (r ++ rest)) = (c :: r).length := by
      rw [mlen_cons, if_neg (by rw [hl]; exact Bool.false_ne_true), if_pos hc]
      exact congrArg List.length (takeWhile_all (w := c :: r) h hr)
    show lex (c :: (r ++ rest)) = _
    rw [lex_cons, e]
    have e1 : (c :: (r ++ rest)).take (c :: r).length = c :: r := List.take_left (l₁ := c :: r)
    have e2 : (c :: (r ++ rest)).drop (c :: r).length = rest := List.drop_left (l₁ := c :: r)
    rw [e1, e2, if_neg]
    · rfl
    · intro z
      injection z with z _
      rw [z] at hc
      exact absurd hc (by decide)
theorem mlen_sign {c : Nat} {r : List Nat} (h1 : isLet c = false) (h2 : isDig c = false) : mlen (c :: r) = 1 := by
  rw [mlen_cons, if_neg (by rw [h1]; exact Bool.false_ne_true), if_neg (by rw [h2]; exact Bool.false_ne_true)]
theorem lex_blank (rest : List Nat) : lex (32 :: rest) = lex rest := by
  rw [lex_cons, mlen_sign (by decide) (by decide)]
  have e : (32 :: rest).take 1 = [32] := rfl
  rw [if_pos e]
  rfl
theorem lex_sign {c : Nat} {rest : List Nat} (h1 : isLet c = false) (h2 : isDig c = false) (h3 : c ≠ 32) : lex (c :: rest) = [c] :: lex rest := by
  rw [lex_cons, mlen_sign h1 h2]
  have e : (c :: rest).take 1 = [c] := rfl
  rw [e, if_neg (by intro z; injection z with z _; exact h3 z)]
  rfl
theorem lex_mem {l : List Nat} : ∀ m ∈ lex l, m ≠ [] := by
  have key : ∀ (k : Nat) (l : List Nat), ∀ m ∈ lexN k l, m ≠ [] := by
    intro k
    induction k with
    | zero =>
      intro l m hm
      exact absurd hm (by simp [lexN])
    | succ k ih =>
      intro l m hm
      cases l with
      | nil => exact absurd hm (by simp [lexN])
      | cons c r =>
        unfold lexN at hm
        rcases List.mem_append.mp hm with h | h
        · split at h
          · exact absurd h (by simp)
          · have e := List.mem_singleton.mp h
            rw [e]
            intro z
            have hp := mlen_pos c r
            have hl := congrArg List.length z
            rw [List.length_take, List.length_cons, List.length_nil] at hl
            omega
        · exact ih _ m h
  exact key _ l
theorem lex_len (l : List Nat) : (lex l).length ≤ l.length := by
  have key : ∀ (k : Nat) (l : List Nat), (lexN k l).length ≤ k := by
    intro k
    induction k with
    | zero => intro l; exact Nat.le_refl _
    | succ k ih =>
      intro l
      cases l with
      | nil => exact Nat.zero_le _
      | cons c r =>
        unfold lexN
        rw [List.length_append]
        have := ih ((c :: r).drop (mlen (c :: r)))
        split <;> simp <;> omega
  exact key _ l
/-- the marks of a text -/
def marks (x : Str) : List Str := (lex (tl x)).map S
theorem marks_len (x : Str) : (marks x).length ≤ x.length := by
  unfold marks
  rw [List.length_map, len_tl]
  exact lex_len _
/-! ### numbers -/
theorem numL_dig (n : Nat) : ∀ c ∈ numL n, isDig c = true := by
  intro c hc
  cases e : isDig c with
  | true => rfl
  | false =>
    have hn : ¬ (48 ≤ c ∧ c ≤ 57) := fun q => by
      rw [isDig_iff.mpr q] at e
      cases e
    exact absurd hc (numL_free (n := n) (by omega))
theorem num_len {n : Nat} (h : n ≤ 1000000) : (numL n).length ≤ 7 := numL_len (by decide) (by omega)
/-- the signs of an int -/
def numT (i : Int) : List Nat := tl (Str.ofString (toString i))
theorem numT_nat (n : Nat) : numT (n : Int) = numL n := tl_num n
theorem numT_eq (i : Int) : numT i = (if i < 0 then [45] else []) ++ numL i.natAbs := by
  cases i with
  | ofNat n =>
    rw [if_neg (by show ¬ (n : Int) < 0; omega)]
    exact numT_nat n
  | negSucc n =>
    rw [if_pos (Int.negSucc_lt_zero n)]
    unfold numT
    rw [tl_ofString]
    show ((("-" ++ toString (n + 1)) : String).toList.map Char.toNat) = [45] ++ numL (n + 1)
    rw [String.toList_append, List.map_append]
    have e := tl_num (n + 1)
    rw [tl_ofString] at e
    exact congrArg (fun z => [45] ++ z) e
theorem hd_digit {n : Nat} {rest : List Nat} : hd isLet (numL n ++ rest) = false := by
  cases e : numL n with
  | nil => exact absurd e (numL_ne n)
  | cons c r =>
    have hc : isDig c = true := numL_dig n c (by rw [e]; exact List.mem_cons_self)
    exact isLet_false (by have := isDig_iff.mp hc; omega)
theorem lex_numL {n : Nat} {rest : List Nat} (hr : hd isDig rest = false) : lex (numL n ++ rest) = numL n :: lex rest := lex_num (numL_ne n) (numL_dig n) hr
/-- an int as marks -/
def intM (i : Int) : List (List Nat) := (if i < 0 then [[45]] else []) ++ [numL i.natAbs]
theorem lex_int {i : Int} {rest : List Nat} (hr : hd isDig rest = false) : lex (numT i ++ rest) = intM i ++ lex rest := by
  rw [numT_eq]
  unfold intM
  by_cases h : i < 0
  · rw [if_pos h, if_pos h, List.append_assoc]
    show lex (45 :: (numL i.natAbs ++ rest)) = _
    rw [lex_sign (by decide) (by decide) (by decide), lex_numL hr]
    rfl
  · rw [if_neg h, if_neg h]
    show lex (numL i.natAbs ++ rest) = _
    rw [lex_numL hr]
    rfl
/-! ### fractions -/
def amT (t : Int) (b : Nat) : List Nat := numT t ++ (if b = 1 then [] else 47 :: numL b)
def amM (t : Int) (b : Nat) : List (List Nat) := intM t ++ (if b = 1 then [] else [[47], numL b])
theorem lex_am {t : Int} {b : Nat} {rest : List Nat} (hr : hd isDig rest = false) : lex (amT t b ++ rest) = amM t b ++ lex rest := by
  unfold amT amM
  rw [List.append_assoc, List.append_assoc]
  by_cases h : b = 1
  · rw [if_pos h, if_pos h]
    exact lex_int hr
  · rw [if_neg h, if_neg h]
    show lex (numT t ++ (47 :: (numL b ++ rest))) = intM t ++ ([47] :: numL b :: lex rest)
    rw [lex_int (i := t) (rest := 47 :: (numL b ++ rest)) (show isDig 47 = false by decide), lex_sign (by decide) (by decide) (by decide), lex_numL hr]
theorem amM_len (t : Int) (b : Nat) : (amM t b).length = (if t < 0 then 1 else 0) + 1 + (if b = 1 then 0 else 2) := by
  unfold amM intM
  by_cases h : t < 0 <;> by_cases h2 : b = 1 <;> simp [h, h2]
end K7
/-! ## K7Read -/
set_option Elab.async false
set_option linter.all false
set_option maxRecDepth 100000
set_option maxHeartbeats 4000000
/-! Plain laws: the readings as machines over marks, run over the marks of shown texts. -/
namespace K7
open PySem TL
/-! ### numbers as marks -/
def num? (m : Str) : Option Nat := if tl m = numL (NumText.digitsVal (tl m)) ∧ NumText.digitsVal (tl m) ≤ 1000000 then some (NumText.digitsVal (tl m)) else none
theorem num?_num {n : Nat} (h : n ≤ 1000000) : num? (S (numL n)) = some n := by
  unfold num?
  rw [tl_S, numL_val, if_pos ⟨rfl, h⟩]
theorem num?_some {m : Str} {n : Nat} (h : num? m = some n) : m = S (numL n) ∧ n ≤ 1000000 := by
  unfold num? at h
  split at h
  · rename_i e
    have e2 := Option.some.inj h
    rw [e2] at e
    exact ⟨tl_inj e.1, e.2⟩
  · cases h
theorem numL_minus {n : Nat} : S (numL n) ≠ ("-" : Str) := by
  intro h
  have e := S_eq.mp h
  have e2 : tl ("-" : Str) = [45] := by decide +kernel
  have hm : 45 ∈ numL n := by rw [e, e2]; exact List.mem_cons_self
  exact absurd hm (numL_free (by omega))
/-! ### fractions -/
inductive FS where
  | sign | top | slash | bottom | fin
  deriving DecidableEq
def FS.str : FS → Str
  | .sign => "sign"
  | .top => "top"
  | .slash => "slash"
  | .bottom => "bottom"
  | .fin => "end"
structure FSt where
  st : FS
  sg : Int
  tp : Nat
  bt : Nat
def FSt.init : FSt := ⟨.sign, 1, 0, 1⟩
def stepF (s : FSt) (m : Str) : Option FSt :=
  match s.st with
  | .sign => if m = "-" then some ⟨.top, -1, s.tp, s.bt⟩ else (num? m).map fun n => ⟨.slash, s.sg, n, s.bt⟩
  | .top => (num? m).bind fun n => if n = 0 then none else some ⟨.slash, s.sg, n, s.bt⟩
  | .slash => if m = "/" then some ⟨.bottom, s.sg, s.tp, s.bt⟩ else none
  | .bottom => (num? m).bind fun n => if n = 0 then none else some ⟨.fin, s.sg, s.tp, n⟩
  | .fin => none
def FSt.ends (s : FSt) : Bool := decide (s.st = .slash) || decide (s.st = .fin)
def FSt.top (s : FSt) : Int := s.sg * (s.tp : Int)
/-- the fraction told is as it stands -/
def FSt.good (s : FSt) : Prop := 0 < s.bt ∧ Nat.gcd s.tp s.bt = 1 ∧ (s.sg = 1 ∨ s.sg = -1) ∧ s.tp ≤ 1000000 ∧ s.bt ≤ 1000000
instance (s : FSt) : Decidable s.good := inferInstanceAs (Decidable (_ ∧ _ ∧ _ ∧ _ ∧ _))
def finF (t : Int) (b : Nat) : FSt := ⟨if b = 1 then .slash else .fin, if t < 0 then -1 else 1, t.natAbs, b⟩
/-- a fraction within the bounds, in lowest terms -/
def FrOk (t : Int) (b : Nat) : Prop := t.natAbs ≤ 1000000 ∧ 0 < b ∧ b ≤ 1000000 ∧ Nat.gcd t.natAbs b = 1
theorem finF_top (t : Int) (b : Nat) : (finF t b).top = t := by
  show (if t < 0 then (-1 : Int) else 1) * (t.natAbs : Int) = t
  split <;> omega
theorem finF_good {t : Int} {b : Nat} (h : FrOk t b) : (finF t b).good := by
  refine ⟨h.2.1, h.2.2.2, ?_, h.1, h.2.2.1⟩
  show (if t < 0 then (-1 : Int) else 1) = 1 ∨ (if t < 0 then (-1 : Int) else 1) = -1
  by_cases q : t < 0
  · rw [if_pos q]; exact .inr rfl
  · rw [if_neg q]; exact .inl rfl
theorem finF_ends (t : Int) (b : Nat) : (finF t b).ends = true := by
  show (decide ((if b = 1 then FS.slash else FS.fin) = .slash) || decide ((if b = 1 then FS.slash else FS.fin) = .fin)) = true
  by_cases q : b = 1
  · rw [if_pos q]; rfl
  · rw [if_neg q]; rfl
theorem finF_bt (t : Int) (b : Nat) : (finF t b).bt = b := rfl
theorem S_minus : S [45] = ("-" : Str) := by decide +kernel
theorem S_slash : S [47] = ("/" : Str) := by decide +kernel
theorem S_nl : S [10] = ("\n" : Str) := by decide +kernel
theorem S_eq61 : S [61] = ("=" : Str) := by decide +kernel
/-- the marks of a fraction, read one behind another -/
theorem runF {t : Int} {b : Nat} (h : FrOk t b) (f : FSt → Str → Option FSt) (hf : ∀ s m, f s m = stepF s m) : ((amM t b).map S).foldlM f FSt.init = some (finF t b) := by
  have ef : f = stepF := by funext s m; exact hf s m
  subst ef
  obtain ⟨h1, h2, h3, _⟩ := h
  have hm : (S (numL t.natAbs)) ≠ ("-" : Str) := numL_minus
  unfold amM intM finF
  by_cases ht : t < 0
  · have hz : t.natAbs ≠ 0 := by omega
    rw [if_pos ht, if_pos ht]
    by_cases hb : b = 1
    · subst hb
      rw [if_pos rfl, if_pos rfl]
      show (stepF FSt.init (S [45]) >>= fun s => stepF s (S (numL t.natAbs)) >>= fun s => some s) = _
      rw [S_minus]
      show ((stepF ⟨.top, -1, 0, 1⟩ (S (numL t.natAbs))) >>= fun s => some s) = _
      show (((num? (S (numL t.natAbs))).bind fun n => if n = 0 then none else some (⟨.slash, -1, n, 1⟩ : FSt)) >>= fun s => some s) = _
      rw [num?_num h1]
      show ((if t.natAbs = 0 then none else some (⟨.slash, -1, t.natAbs, 1⟩ : FSt)) >>= fun s => some s) = _
      rw [if_neg hz]
      rfl
    · rw [if_neg hb, if_neg hb]
      show (stepF FSt.init (S [45]) >>= fun s => stepF s (S (numL t.natAbs)) >>= fun s => stepF s (S [47]) >>= fun s => stepF s (S (numL b)) >>= fun s => some s) = _
      rw [S_minus, S_slash]
      show (((num? (S (numL t.natAbs))).bind fun n => if n = 0 then none else some (⟨.slash, -1, n, 1⟩ : FSt)) >>= fun s => stepF s ("/" : Str) >>= fun s => stepF s (S (numL b)) >>= fun s => some s) = _
      rw [num?_num h1]
      show ((if t.natAbs = 0 then none else some (⟨.slash, -1, t.natAbs, 1⟩ : FSt)) >>= fun s => stepF s ("/" : Str) >>= fun s => stepF s (S (numL b)) >>= fun s => some s) = _
      rw [if_neg hz]
      show ((if ("/" : Str) = "/" then some (⟨.bottom, -1, t.natAbs, 1⟩ : FSt) else none) >>= fun s => stepF s (S (numL b)) >>= fun s => some s) = _
      rw [if_pos rfl]
      show (((num? (S (numL b))).bind fun n => if n = 0 then none else some (⟨.fin, -1, t.natAbs, n⟩ : FSt)) >>= fun s => some s) = _
      rw [num?_num h3]
      show ((if b = 0 then none else some (⟨.fin, -1, t.natAbs, b⟩ : FSt)) >>= fun s => some s) = _
      rw [if_neg (by omega)]
      rfl
  · rw [if_neg ht, if_neg ht]
    by_cases hb : b = 1
    · subst hb
      rw [if_pos rfl, if_pos rfl]
      show ((if S (numL t.natAbs) = ("-" : Str) then some (⟨.top, -1, 0, 1⟩ : FSt) else (num? (S (numL t.natAbs))).map fun n => ⟨.slash, 1, n, 1⟩) >>= fun s => some s) = _
      rw [if_neg hm, num?_num h1]
      rfl
    · rw [if_neg hb, if_neg hb]
      show ((if S (numL t.natAbs) = ("-" : Str) then some (⟨.top, -1, 0, 1⟩ : FSt) else (num? (S (numL t.natAbs))).map fun n => ⟨.slash, 1, n, 1⟩) >>= fun s => stepF s (S [47]) >>= fun s => stepF s (S (numL b)) >>= fun s => some s) = _
      rw [if_neg hm, num?_num h1, S_slash]
      show ((if ("/" : Str) = "/" then some (⟨.bottom, 1, t.natAbs, 1⟩ : FSt) else none) >>= fun s => stepF s (S (numL b)) >>= fun s => some s) = _
      rw [if_pos rfl]
      show (((num? (S (numL b))).bind fun n => if n = 0 then none else some (⟨.fin, 1, t.natAbs, n⟩ : FSt)) >>= fun s => some s) = _
      rw [num?_num h3]
      show ((if b = 0 then none else some (⟨.fin, 1, t.natAbs, b⟩ : FSt)) >>= fun s => some s) = _
      rw [if_neg (by omega)]
      rfl
/-! ### names, tables -/
def isName (m : Str) : Bool := decide (1 ≤ m.length) && (decide (m.length ≤ 6) && (tl m).all isLet)
theorem name_ne {m : Str} (h : isName m = true) : tl m ≠ [] := by
  unfold isName at h
  have h1 := of_decide_eq_true (Bool.and_eq_true_iff.mp h).1
  rw [len_tl] at h1
  intro z
  rw [z] at h1
  exact absurd h1 (by decide)
theorem name_let {m : Str} (h : isName m = true) : ∀ c ∈ tl m, isLet c = true := by
  unfold isName at h
  have h1 := (Bool.and_eq_true_iff.mp (Bool.and_eq_true_iff.mp h).2).2
  exact List.all_eq_true.mp h1
theorem name_len {m : Str} (h : isName m = true) : m.length ≤ 6 := by
  unfold isName at h
  exact of_decide_eq_true (Bool.and_eq_true_iff.mp (Bool.and_eq_true_iff.mp h).2).1
theorem name_nl {m : Str} (h : isName m = true) : m ≠ ("\n" : Str) := by
  intro z
  have h1 := name_let h 10 (by rw [z]; have e : tl ("\n" : Str) = [10] := by decide +kernel
                               rw [e]; exact List.mem_cons_self)
  exact absurd h1 (by decide)
theorem lex_name {m : Str} {rest : List Nat} (h : isName m = true) (hr : hd isLet rest = false) : lex (tl m ++ rest) = tl m :: lex rest := lex_word (name_ne h) (name_let h) hr
inductive TS' where
  | begin | kinds | line | total
  deriving DecidableEq
def TS'.str : TS' → Str
  | .begin => "begin"
  | .kinds => "kinds"
  | .line => "line"
  | .total => "total"
structure TSt where
  st : TS'
  ks : List Str
  ts : List (List Str)
def TSt.init : TSt := ⟨.begin, [], []⟩
def stepT (s : TSt) (m : Str) : Option TSt :=
  if m = "\n" then (if s.st = .kinds ∧ s.ks = [] then none else some (if s.st = .begin then s else ⟨.line, s.ks, s.ts⟩))
  else match s.st with
  | .begin => if m = "kinds" then some ⟨.kinds, s.ks, s.ts⟩ else none
  | .kinds => if isName m = true ∧ m ∉ s.ks ∧ s.ks.length + 1 ≤ 12 then some ⟨.kinds, s.ks ++ [m], s.ts⟩ else none
  | .line => if m = "total" ∧ s.ts.length + 1 ≤ 12 then some ⟨.total, s.ks, s.ts ++ [[]]⟩ else none
  | .total => if m ∈ s.ks ∧ m ∉ s.ts.getLastD [] ∧ s.ts ≠ [] ∧ (s.ts.getLastD []).length < 12 then some ⟨.total, s.ks, s.ts.dropLast ++ [s.ts.getLastD [] ++ [m]]⟩ else none
theorem kinds_nl : ("kinds" : Str) ≠ "\n" := by decide +kernel
theorem total_nl : ("total" : Str) ≠ "\n" := by decide +kernel
theorem runT_kinds : ∀ (ks done : List Str) (ts : List (List Str)), (∀ k ∈ ks, isName k = true) → (done ++ ks).Nodup → (done ++ ks).length ≤ 12 → ks.foldlM stepT ⟨.kinds, done, ts⟩ = some ⟨.kinds, done ++ ks, ts⟩
  | [], done, ts, _, _, _ => by rw [List.append_nil]; rfl
  | k :: ks, done, ts, hn, hd', hl => by
    have h1 := hn k List.mem_cons_self
    have h2 : k ∉ done := fun q => by
      have := (List.nodup_append.mp hd').2.2 k q k List.mem_cons_self
      exact this rfl
    have h3 : done.length + 1 ≤ 12 := by
      rw [List.length_append, List.length_cons] at hl
      omega
    show (stepT ⟨.kinds, done, ts⟩ k >>= fun s => ks.foldlM stepT s) = _
    have e : stepT ⟨.kinds, done, ts⟩ k = some ⟨.kinds, done ++ [k], ts⟩ := by
      unfold stepT
      rw [if_neg (name_nl h1)]
      show (if isName k = true ∧ k ∉ done ∧ done.length + 1 ≤ 12 then _ else _) = _
      rw [if_pos ⟨h1, h2, h3⟩]
    rw [e]
    have e2 : done ++ k :: ks = (done ++ [k]) ++ ks := by rw [List.append_assoc]; rfl
    rw [e2] at hd' hl ⊢
    exact runT_kinds ks (done ++ [k]) ts (fun k' h => hn k' (List.mem_cons_of_mem _ h)) hd' hl
theorem getLastD_concat (l : List (List Str)) (x : List Str) : (l ++ [x]).getLastD [] = x := by
  rw [List.getLastD_eq_getLast?, List.getLast?_concat]
  rfl
theorem runT_total (ks : List Str) (hk : ∀ k ∈ ks, isName k = true) : ∀ (t done : List Str) (ts : List (List Str)), (∀ k ∈ t, k ∈ ks) → (done ++ t).Nodup → (done ++ t).length ≤ 12 →
    t.foldlM stepT ⟨.total, ks, ts ++ [done]⟩ = some ⟨.total, ks, ts ++ [done ++ t]⟩
  | [], done, ts, _, _, _ => by rw [List.append_nil]; rfl
  | k :: t, done, ts, hn, hd', hl => by
    have h1 := hn k List.mem_cons_self
    have h2 : k ∉ done := fun q => by
      have := (List.nodup_append.mp hd').2.2 k q k List.mem_cons_self
      exact this rfl
    have h3 : done.length < 12 := by
      rw [List.length_append, List.length_cons] at hl
      omega
    show (stepT ⟨.total, ks, ts ++ [done]⟩ k >>= fun s => t.foldlM stepT s) = _
    have e : stepT ⟨.total, ks, ts ++ [done]⟩ k = some ⟨.total, ks, ts ++ [done ++ [k]]⟩ := by
      unfold stepT
      rw [if_neg (name_nl (hk k h1))]
      show (if k ∈ ks ∧ k ∉ (ts ++ [done]).getLastD [] ∧ ts ++ [done] ≠ [] ∧ ((ts ++ [done]).getLastD []).length < 12 then some (⟨.total, ks, (ts ++ [done]).dropLast ++ [(ts ++ [done]).getLastD [] ++ [k]]⟩ : TSt) else none) = _
      rw [getLastD_concat, if_pos ⟨h1, h2, by simp, h3⟩, List.dropLast_concat]
    rw [e]
    have e2 : done ++ k :: t = (done ++ [k]) ++ t := by rw [List.append_assoc]; rfl
    rw [e2] at hd' hl ⊢
    exact runT_total ks hk t (done ++ [k]) ts (fun k' h => hn k' (List.mem_cons_of_mem _ h)) hd' hl
/-- the lines of the totals, each behind its newline -/
def totM (ts : List (List Str)) : List Str := ts.flatMap fun t => ("\n" : Str) :: "total" :: t
theorem runT_totals (ks : List Str) (hk : ∀ k ∈ ks, isName k = true) (hne : ks ≠ []) : ∀ (ts done : List (List Str)) (st : TS'), st ≠ .begin → (∀ t ∈ ts, (∀ k ∈ t, k ∈ ks) ∧ t.Nodup ∧ t.length ≤ 12) → (done ++ ts).length ≤ 12 →
    ∃ st', st' ≠ .begin ∧ (totM ts).foldlM stepT ⟨st, ks, done⟩ = some ⟨st', ks, done ++ ts⟩
  | [], done, st, h0, _, _ => ⟨st, h0, by rw [List.append_nil]; rfl⟩
  | t :: ts, done, st, h0, ht, hl => by
    obtain ⟨t1, t2, t3⟩ := ht t List.mem_cons_self
    have h3 : done.length + 1 ≤ 12 := by
      rw [List.length_append, List.length_cons] at hl
      omega
    have e2 : done ++ t :: ts = (done ++ [t]) ++ ts := by rw [List.append_assoc]; rfl
    rw [e2] at hl
    obtain ⟨st', q1, q2⟩ := runT_totals ks hk hne ts (done ++ [t]) .total (by decide) (fun t' h => ht t' (List.mem_cons_of_mem _ h)) hl
    refine ⟨st', q1, ?_⟩
    have em : totM (t :: ts) = ("\n" : Str) :: "total" :: (t ++ totM ts) := rfl
    rw [em, e2]
    show (stepT ⟨st, ks, done⟩ "\n" >>= fun s => stepT s "total" >>= fun s => (t ++ totM ts).foldlM stepT s) = _
    have e3 : stepT ⟨st, ks, done⟩ "\n" = some ⟨.line, ks, done⟩ := by
      unfold stepT
      rw [if_pos rfl, if_neg (fun q => hne q.2), if_neg h0]
    have e4 : stepT ⟨.line, ks, done⟩ "total" = some ⟨.total, ks, done ++ [[]]⟩ := by
      unfold stepT
      rw [if_neg total_nl]
      show (if ("total" : Str) = "total" ∧ done.length + 1 ≤ 12 then _ else _) = _
      rw [if_pos ⟨rfl, h3⟩]
    rw [e3]
    show (stepT ⟨.line, ks, done⟩ "total" >>= fun s => (t ++ totM ts).foldlM stepT s) = _
    rw [e4]
    show (t ++ totM ts).foldlM stepT ⟨.total, ks, done ++ [[]]⟩ = _
    rw [List.foldlM_append, runT_total ks hk t [] done t1 t2 t3]
    exact q2
/-- the marks of a table's text -/
def tabM (ks : List Str) (ts : List (List Str)) : List Str := ("kinds" : Str) :: (ks ++ totM ts)
/-- a table by names: kinds unlike, totals of unlike kinds -/
structure TabOk (ks : List Str) (ts : List (List Str)) : Prop where
  name : ∀ k ∈ ks, isName k = true
  nd : ks.Nodup
  ne : ks ≠ []
  len : ks.length ≤ 12
  tot : ∀ t ∈ ts, (∀ k ∈ t, k ∈ ks) ∧ t.Nodup ∧ t.length ≤ 12
  tlen : ts.length ≤ 12
theorem runT {ks : List Str} {ts : List (List Str)} (h : TabOk ks ts) : ∃ st, (tabM ks ts).foldlM stepT TSt.init = some ⟨st, ks, ts⟩ := by
  obtain ⟨st', _, q⟩ := runT_totals ks h.name h.ne ts [] .kinds (by decide) h.tot h.tlen
  refine ⟨st', ?_⟩
  show (stepT TSt.init "kinds" >>= fun s => (ks ++ totM ts).foldlM stepT s) = _
  have e : stepT TSt.init "kinds" = some ⟨.kinds, [], []⟩ := by
    unfold stepT
    rw [if_neg kinds_nl]
    show (if ("kinds" : Str) = "kinds" then _ else _) = _
    rw [if_pos rfl]
    rfl
  rw [e]
  show (ks ++ totM ts).foldlM stepT ⟨.kinds, [], []⟩ = _
  rw [List.foldlM_append, runT_kinds ks [] [] h.name h.nd h.len]
  exact q
/-! ### lines, days -/
inductive DS where
  | kind | amount | whole | size | fin
  deriving DecidableEq
def DS.str : DS → Str
  | .kind => "kind"
  | .amount => "amount"
  | .whole => "whole"
  | .size => "size"
  | .fin => "end"
/-- a line: its kind, its amount, its whole (0 where none is told) -/
structure Ln where
  k : Nat
  t : Int
  b : Nat
  w : Int
structure DSt where
  st : DS
  ls : List Ln
  k : Nat
  am : FSt
  w1 : Int
  w2 : Int
def DSt.init : DSt := ⟨.kind, [], 0, FSt.init, 0, 0⟩
/-- the floor, the ceiling of a fraction -/
def flo (t : Int) (b : Nat) : Int := t / (b : Int)
def cei (t : Int) (b : Nat) : Int := -(-t / (b : Int))
/-- what stands behind an amount -/
def sepD (rd : Bool) : Str := if rd = true then ("=" : Str) else ("\n" : Str)
def stepD (ks : List Str) (rd : Bool) (s : DSt) (m : Str) : Option DSt :=
  match s.st with
  | .kind => if m = "\n" then some s else if m ∈ ks ∧ s.ls.length < 400 then some ⟨.amount, s.ls, ks.idxOf m, FSt.init, s.w1, s.w2⟩ else none
  | .amount => if m = sepD rd then
      (if s.am.ends = true ∧ s.am.good ∧ s.ls.length < 400 then some (if rd = true then ⟨.whole, s.ls, s.k, s.am, flo s.am.top s.am.bt, cei s.am.top s.am.bt⟩ else ⟨.kind, s.ls ++ [⟨s.k, s.am.top, s.am.bt, 0⟩], s.k, s.am, s.w1, s.w2⟩) else none)
      else (stepF s.am m).map fun a => ⟨.amount, s.ls, s.k, a, s.w1, s.w2⟩
  | .fin => if m = "\n" then some ⟨.kind, s.ls, s.k, s.am, s.w1, s.w2⟩ else none
  | .whole => if m = "-" then (if s.w1 < 0 ∨ s.w2 < 0 then some ⟨.size, s.ls, s.k, s.am, s.w1, s.w2⟩ else none)
      else (num? m).bind fun n => if ((n : Int) = s.w1 ∨ (n : Int) = s.w2) ∧ s.am.good ∧ s.ls.length < 400 then some ⟨.fin, s.ls ++ [⟨s.k, s.am.top, s.am.bt, n⟩], s.k, s.am, s.w1, s.w2⟩ else none
  | .size => (num? m).bind fun n => if n ≠ 0 ∧ (-(n : Int) = s.w1 ∨ -(n : Int) = s.w2) ∧ s.am.good ∧ s.ls.length < 400 then some ⟨.fin, s.ls ++ [⟨s.k, s.am.top, s.am.bt, -(n : Int)⟩], s.k, s.am, s.w1, s.w2⟩ else none
/-- a line of a table of these kinds; rounded to a whole next to its amount -/
structure LnOk (ks : List Str) (rd : Bool) (l : Ln) : Prop where
  k : l.k < ks.length
  fr : FrOk l.t l.b
  w : rd = true → (l.w = flo l.t l.b ∨ l.w = cei l.t l.b) ∧ l.w.natAbs ≤ 1000000
  w0 : rd = false → l.w = 0
def lineM (ks : List Str) (rd : Bool) (l : Ln) : List Str := ks.getD l.k Str.empty :: ((amM l.t l.b).map S ++ (if rd = true then ("=" : Str) :: (intM l.w).map S else []))
/-- behind a line's marks -/
def lnSt (rd : Bool) (ls : List Ln) (l : Ln) : DSt := if rd = true then ⟨.fin, ls ++ [l], l.k, finF l.t l.b, flo l.t l.b, cei l.t l.b⟩ else ⟨.amount, ls, l.k, finF l.t l.b, 0, 0⟩
theorem getD_mem {ks : List Str} {i : Nat} (h : i < ks.length) : ks.getD i Str.empty ∈ ks := by
  rw [List.getD_eq_getElem?_getD, List.getElem?_eq_getElem h]
  exact List.getElem_mem h
theorem idxOf_getD {ks : List Str} (hn : ks.Nodup) {i : Nat} (h : i < ks.length) : ks.idxOf (ks.getD i Str.empty) = i := by
  rw [List.getD_eq_getElem?_getD, List.getElem?_eq_getElem h]
  exact List.Nodup.idxOf_getElem hn i h
theorem amt_run {ks : List Str} {rd : Bool} {ls : List Ln} {k : Nat} {w1 w2 : Int} : ∀ (ms : List Str) (a a' : FSt), (∀ m ∈ ms, m ≠ sepD rd) → ms.foldlM stepF a = some a' →
    ms.foldlM (stepD ks rd) ⟨.amount, ls, k, a, w1, w2⟩ = some ⟨.amount, ls, k, a', w1, w2⟩
  | [], a, a', _, h => by
    have e : a = a' := Option.some.inj h
    rw [e]
    rfl
  | m :: ms, a, a', hm, h => by
    have h' : (stepF a m >>= fun s => ms.foldlM stepF s) = some a' := h
    cases e : stepF a m with
    | none =>
      rw [e] at h'
      cases h'
    | some a1 =>
      rw [e] at h'
      show (stepD ks rd ⟨.amount, ls, k, a, w1, w2⟩ m >>= fun s => ms.foldlM (stepD ks rd) s) = _
      have e2 : stepD ks rd ⟨.amount, ls, k, a, w1, w2⟩ m = some ⟨.amount, ls, k, a1, w1, w2⟩ := by
        unfold stepD
        show (if m = sepD rd then _ else (stepF a m).map fun a => (⟨.amount, ls, k, a, w1, w2⟩ : DSt)) = _
        rw [if_neg (hm m List.mem_cons_self), e]
        rfl
      rw [e2]
      exact amt_run ms a1 a' (fun m' h => hm m' (List.mem_cons_of_mem _ h)) h'
theorem numL_ne_of {n : Nat} {x : Str} {c : Nat} (hx : tl x = [c]) (hc : c < 48 ∨ 57 < c) : S (numL n) ≠ x := by
  intro h
  have e := S_eq.mp h
  have hm : c ∈ numL n := by rw [e, hx]; exact List.mem_cons_self
  exact absurd hm (numL_free hc)
theorem tl_eqs : tl ("=" : Str) = [61] := by decide +kernel
theorem tl_nl : tl ("\n" : Str) = [10] := by decide +kernel
theorem tl_sl : tl ("/" : Str) = [47] := by decide +kernel
theorem tl_mi : tl ("-" : Str) = [45] := by decide +kernel
theorem am_ne {t : Int} {b : Nat} {x : Str} {c : Nat} (hx : tl x = [c]) (h1 : c < 45 ∨ 57 < c) : ∀ m ∈ (amM t b).map S, m ≠ x := by
  intro m hm
  obtain ⟨l, hl, rfl⟩ := List.mem_map.mp hm
  unfold amM intM at hl
  have h45 : S [45] ≠ x := fun q => by
    have e := S_eq.mp q
    rw [hx] at e
    injection e with e _
    omega
  have h47 : S [47] ≠ x := fun q => by
    have e := S_eq.mp q
    rw [hx] at e
    injection e with e _
    omega
  rcases List.mem_append.mp hl with h | h
  · rcases List.mem_append.mp h with h | h
    · split at h
      · rw [List.mem_singleton.mp h]; exact h45
      · exact absurd h (by simp)
    · rw [List.mem_singleton.mp h]; exact numL_ne_of hx (by omega)
  · split at h
    · exact absurd h (by simp)
    · rcases List.mem_cons.mp h with h | h
      · rw [h]; exact h47
      · rw [List.mem_singleton.mp h]; exact numL_ne_of hx (by omega)
theorem runLn {ks : List Str} {rd : Bool} {l : Ln} {ls : List Ln} {k0 : Nat} {a0 : FSt} {v1 v2 : Int} (hk : ∀ k ∈ ks, isName k = true) (hn : ks.Nodup) (h : LnOk ks rd l) (hl : ls.length < 400) (hv : rd = false → v1 = 0 ∧ v2 = 0) :
    (lineM ks rd l).foldlM (stepD ks rd) ⟨.kind, ls, k0, a0, v1, v2⟩ = some (lnSt rd ls l) := by
  have hm := getD_mem h.k
  unfold lineM lnSt
  show (stepD ks rd ⟨.kind, ls, k0, a0, v1, v2⟩ (ks.getD l.k Str.empty) >>= fun s => ((amM l.t l.b).map S ++ _).foldlM (stepD ks rd) s) = _
  have e1 : stepD ks rd ⟨.kind, ls, k0, a0, v1, v2⟩ (ks.getD l.k Str.empty) = some ⟨.amount, ls, l.k, FSt.init, v1, v2⟩ := by
    unfold stepD
    show (if ks.getD l.k Str.empty = "\n" then _ else if ks.getD l.k Str.empty ∈ ks ∧ ls.length < 400 then some (⟨.amount, ls, ks.idxOf (ks.getD l.k Str.empty), FSt.init, v1, v2⟩ : DSt) else none) = _
    rw [if_neg (name_nl (hk _ hm)), if_pos ⟨hm, hl⟩, idxOf_getD hn h.k]
  rw [e1]
  show ((amM l.t l.b).map S ++ _).foldlM (stepD ks rd) ⟨.amount, ls, l.k, FSt.init, v1, v2⟩ = _
  have ea := runF h.fr stepF (fun _ _ => rfl)
  cases rd with
  | false =>
    obtain ⟨rfl, rfl⟩ := hv rfl
    rw [if_neg Bool.false_ne_true, List.append_nil]
    exact amt_run _ _ _ (am_ne (x := sepD false) tl_nl (by omega)) ea
  | true =>
    rw [if_pos rfl, List.foldlM_append, amt_run _ _ _ (am_ne (x := sepD true) tl_eqs (by omega)) ea]
    show (stepD ks true ⟨.amount, ls, l.k, finF l.t l.b, v1, v2⟩ "=" >>= fun s => ((intM l.w).map S).foldlM (stepD ks true) s) = _
    have e2 : stepD ks true ⟨.amount, ls, l.k, finF l.t l.b, v1, v2⟩ "=" = some ⟨.whole, ls, l.k, finF l.t l.b, flo l.t l.b, cei l.t l.b⟩ := by
      unfold stepD
      show (if ("=" : Str) = sepD true then (if (finF l.t l.b).ends = true ∧ (finF l.t l.b).good ∧ ls.length < 400 then some (⟨.whole, ls, l.k, finF l.t l.b, flo (finF l.t l.b).top l.b, cei (finF l.t l.b).top l.b⟩ : DSt) else none) else _) = _
      rw [if_pos (show ("=" : Str) = sepD true from rfl), if_pos ⟨finF_ends _ _, finF_good h.fr, hl⟩, finF_top]
    rw [e2]
    show ((intM l.w).map S).foldlM (stepD ks true) ⟨.whole, ls, l.k, finF l.t l.b, flo l.t l.b, cei l.t l.b⟩ = _
    obtain ⟨hw, hz⟩ := h.w rfl
    have el : (⟨l.k, l.t, l.b, l.w⟩ : Ln) = l := rfl
    rw [if_pos rfl]
    unfold intM
    by_cases hw0 : l.w < 0
    · have ew : -((l.w.natAbs : Nat) : Int) = l.w := by omega
      rw [if_pos hw0]
      show (stepD ks true ⟨.whole, ls, l.k, finF l.t l.b, flo l.t l.b, cei l.t l.b⟩ (S [45]) >>= fun s => stepD ks true s (S (numL l.w.natAbs)) >>= fun s => some s) = _
      rw [S_minus]
      have e3 : stepD ks true ⟨.whole, ls, l.k, finF l.t l.b, flo l.t l.b, cei l.t l.b⟩ "-" = some ⟨.size, ls, l.k, finF l.t l.b, flo l.t l.b, cei l.t l.b⟩ := by
        unfold stepD
        show (if ("-" : Str) = "-" then (if flo l.t l.b < 0 ∨ cei l.t l.b < 0 then _ else none) else _) = _
        rw [if_pos rfl, if_pos (by rcases hw with q | q <;> rw [← q] <;> simp [hw0])]
      rw [e3]
      show (stepD ks true ⟨.size, ls, l.k, finF l.t l.b, flo l.t l.b, cei l.t l.b⟩ (S (numL l.w.natAbs)) >>= fun s => some s) = _
      have e4 : stepD ks true ⟨.size, ls, l.k, finF l.t l.b, flo l.t l.b, cei l.t l.b⟩ (S (numL l.w.natAbs)) = some ⟨.fin, ls ++ [l], l.k, finF l.t l.b, flo l.t l.b, cei l.t l.b⟩ := by
        unfold stepD
        show ((num? (S (numL l.w.natAbs))).bind fun n => if n ≠ 0 ∧ (-(n : Int) = flo l.t l.b ∨ -(n : Int) = cei l.t l.b) ∧ (finF l.t l.b).good ∧ ls.length < 400 then some (⟨.fin, ls ++ [⟨l.k, (finF l.t l.b).top, (finF l.t l.b).bt, -(n : Int)⟩], l.k, finF l.t l.b, flo l.t l.b, cei l.t l.b⟩ : DSt) else none) = _
        rw [num?_num hz]
        show (if l.w.natAbs ≠ 0 ∧ (-((l.w.natAbs : Nat) : Int) = flo l.t l.b ∨ -((l.w.natAbs : Nat) : Int) = cei l.t l.b) ∧ (finF l.t l.b).good ∧ ls.length < 400 then some (⟨.fin, ls ++ [⟨l.k, (finF l.t l.b).top, (finF l.t l.b).bt, -((l.w.natAbs : Nat) : Int)⟩], l.k, finF l.t l.b, flo l.t l.b, cei l.t l.b⟩ : DSt) else none) = _
        rw [ew, finF_top, if_pos ⟨by omega, hw, finF_good h.fr, hl⟩]
        rfl
      rw [e4]
      rfl
    · have ew : ((l.w.natAbs : Nat) : Int) = l.w := by omega
      rw [if_neg hw0]
      show (stepD ks true ⟨.whole, ls, l.k, finF l.t l.b, flo l.t l.b, cei l.t l.b⟩ (S (numL l.w.natAbs)) >>= fun s => some s) = _
      have e4 : stepD ks true ⟨.whole, ls, l.k, finF l.t l.b, flo l.t l.b, cei l.t l.b⟩ (S (numL l.w.natAbs)) = some ⟨.fin, ls ++ [l], l.k, finF l.t l.b, flo l.t l.b, cei l.t l.b⟩ := by
        unfold stepD
        show (if S (numL l.w.natAbs) = ("-" : Str) then _ else (num? (S (numL l.w.natAbs))).bind fun n => if ((n : Int) = flo l.t l.b ∨ (n : Int) = cei l.t l.b) ∧ (finF l.t l.b).good ∧ ls.length < 400 then some (⟨.fin, ls ++ [⟨l.k, (finF l.t l.b).top, (finF l.t l.b).bt, (n : Int)⟩], l.k, finF l.t l.b, flo l.t l.b, cei l.t l.b⟩ : DSt) else none) = _
        rw [if_neg numL_minus, num?_num hz]
        show (if (((l.w.natAbs : Nat) : Int) = flo l.t l.b ∨ ((l.w.natAbs : Nat) : Int) = cei l.t l.b) ∧ (finF l.t l.b).good ∧ ls.length < 400 then some (⟨.fin, ls ++ [⟨l.k, (finF l.t l.b).top, (finF l.t l.b).bt, ((l.w.natAbs : Nat) : Int)⟩], l.k, finF l.t l.b, flo l.t l.b, cei l.t l.b⟩ : DSt) else none) = _
        rw [ew, finF_top, if_pos ⟨hw, finF_good h.fr, hl⟩]
        rfl
      rw [e4]
      rfl
/-- the marks of lines: a newline between two -/
def dayM (ks : List Str) (rd : Bool) : List Ln → List Str
  | [] => []
  | [l] => lineM ks rd l
  | l :: l2 :: r => lineM ks rd l ++ ("\n" : Str) :: dayM ks rd (l2 :: r)
/-- behind all lines -/
def daySt (rd : Bool) (ls : List Ln) (r : List Ln) (s : DSt) : DSt := match r with
  | [] => s
  | l :: r => lnSt rd (ls ++ (l :: r).dropLast) ((l :: r).getLast (List.cons_ne_nil l r))
theorem runD {ks : List Str} {rd : Bool} (hk : ∀ k ∈ ks, isName k = true) (hn : ks.Nodup) : ∀ (r : List Ln) (ls : List Ln) (k0 : Nat) (a0 : FSt) (v1 v2 : Int), (∀ l ∈ r, LnOk ks rd l) → ls.length + r.length ≤ 400 → (rd = false → v1 = 0 ∧ v2 = 0) →
    (dayM ks rd r).foldlM (stepD ks rd) ⟨.kind, ls, k0, a0, v1, v2⟩ = some (daySt rd ls r ⟨.kind, ls, k0, a0, v1, v2⟩)
  | [], ls, k0, a0, v1, v2, _, _, _ => rfl
  | [l], ls, k0, a0, v1, v2, h, hl, hv => by
    have q := runLn (k0 := k0) (a0 := a0) hk hn (h l List.mem_cons_self) (show ls.length < 400 by rw [List.length_singleton] at hl; omega) hv
    show (lineM ks rd l).foldlM (stepD ks rd) _ = some (lnSt rd (ls ++ []) l)
    rw [List.append_nil]
    exact q
  | l :: l2 :: r, ls, k0, a0, v1, v2, h, hl, hv => by
    have hl1 : ls.length < 400 := by rw [List.length_cons] at hl; omega
    have q := runLn (k0 := k0) (a0 := a0) hk hn (h l List.mem_cons_self) hl1 hv
    show (lineM ks rd l ++ ("\n" : Str) :: dayM ks rd (l2 :: r)).foldlM (stepD ks rd) _ = some (lnSt rd (ls ++ l :: (l2 :: r).dropLast) ((l2 :: r).getLast (List.cons_ne_nil l2 r)))
    rw [List.foldlM_append, q]
    show (stepD ks rd (lnSt rd ls l) "\n" >>= fun s => (dayM ks rd (l2 :: r)).foldlM (stepD ks rd) s) = _
    have e2 : ls ++ l :: (l2 :: r).dropLast = (ls ++ [l]) ++ (l2 :: r).dropLast := by rw [List.append_assoc]; rfl
    have hl2 : (ls ++ [l]).length + (l2 :: r).length ≤ 400 := by
      rw [List.length_append, List.length_singleton]
      rw [List.length_cons] at hl
      omega
    have hr : ∀ l' ∈ l2 :: r, LnOk ks rd l' := fun l' h' => h l' (List.mem_cons_of_mem _ h')
    rw [e2]
    cases rd with
    | true =>
      have e : stepD ks true (lnSt true ls l) "\n" = some ⟨.kind, ls ++ [l], l.k, finF l.t l.b, flo l.t l.b, cei l.t l.b⟩ := by
        unfold lnSt stepD
        show (if ("\n" : Str) = "\n" then _ else none) = _
        rw [if_pos rfl]
        rfl
      rw [e]
      exact runD hk hn (l2 :: r) (ls ++ [l]) _ _ _ _ hr hl2 (fun z => by cases z)
    | false =>
      have hlo := h l List.mem_cons_self
      have el : (⟨l.k, (finF l.t l.b).top, (finF l.t l.b).bt, 0⟩ : Ln) = l := by
        rw [finF_top, ← hlo.w0 rfl]
        rfl
      have e : stepD ks false (lnSt false ls l) "\n" = some ⟨.kind, ls ++ [l], l.k, finF l.t l.b, 0, 0⟩ := by
        have es : lnSt false ls l = ⟨.amount, ls, l.k, finF l.t l.b, 0, 0⟩ := rfl
        rw [es]
        unfold stepD
        show (if ("\n" : Str) = sepD false then (if (finF l.t l.b).ends = true ∧ (finF l.t l.b).good ∧ ls.length < 400 then some (⟨.kind, ls ++ [⟨l.k, (finF l.t l.b).top, (finF l.t l.b).bt, 0⟩], l.k, finF l.t l.b, 0, 0⟩ : DSt) else none) else _) = _
        rw [if_pos (show ("\n" : Str) = sepD false from rfl), if_pos ⟨finF_ends _ _, finF_good hlo.fr, hl1⟩, el]
      rw [e]
      exact runD hk hn (l2 :: r) (ls ++ [l]) _ _ _ _ hr hl2 (fun _ => ⟨rfl, rfl⟩)
end K7
/-! ## K7Due -/
set_option Elab.async false
set_option linter.all false
set_option maxRecDepth 100000
set_option maxHeartbeats 4000000
/-! Plain laws: the texts that are shown, and their marks. -/
namespace K7
open PySem TL
theorem joinL_cons (S : List Nat) : ∀ (p : List Nat) (r : List (List Nat)), joinL S (p :: r) = p ++ r.flatMap fun q => S ++ q
  | p, [] => by simp [joinL]
  | p, q :: r => by
    show p ++ (S ++ joinL S (q :: r)) = _
    rw [joinL_cons S q r]
    simp [List.flatMap_cons, List.append_assoc]
/-! ### fractions -/
theorem marks_am (t : Int) (b : Nat) : marks (S (amT t b)) = (amM t b).map S := by
  have e := lex_am (t := t) (b := b) (rest := []) rfl
  rw [List.append_nil, lex_nil, List.append_nil] at e
  show (lex (amT t b)).map S = _
  rw [e]
/-! ### names behind blanks -/
def spN (ks : List Str) : List Nat := ks.flatMap fun k => 32 :: tl k
theorem spN_nil : spN [] = [] := rfl
theorem spN_cons (k : Str) (ks : List Str) : spN (k :: ks) = 32 :: (tl k ++ spN ks) := by
  unfold spN
  rw [List.flatMap_cons]
  rfl
theorem hd_spN {ks : List Str} {rest : List Nat} {p : Nat → Bool} (hp : p 32 = false) (hr : hd p rest = false) : hd p (spN ks ++ rest) = false := by
  cases ks with
  | nil => exact hr
  | cons k ks =>
    rw [spN_cons]
    exact hp
theorem lex_spN : ∀ {ks : List Str} {rest : List Nat}, (∀ k ∈ ks, isName k = true) → hd isLet rest = false → lex (spN ks ++ rest) = ks.map tl ++ lex rest
  | [], rest, _, _ => rfl
  | k :: ks, rest, h, hr => by
    rw [spN_cons]
    show lex (32 :: ((tl k ++ spN ks) ++ rest)) = tl k :: (ks.map tl ++ lex rest)
    rw [lex_blank, List.append_assoc, lex_name (h k List.mem_cons_self) (hd_spN (by decide) hr), lex_spN (fun k' h' => h k' (List.mem_cons_of_mem _ h')) hr]
/-! ### tables -/
theorem tl_kinds : tl ("kinds" : Str) = [107, 105, 110, 100, 115] := by decide +kernel
theorem tl_total : tl ("total" : Str) = [116, 111, 116, 97, 108] := by decide +kernel
def totTx (ts : List (List Str)) : List Nat := ts.flatMap fun t => 10 :: (tl ("total" : Str) ++ spN t)
def tabTx (ks : List Str) (ts : List (List Str)) : List Nat := tl ("kinds" : Str) ++ (spN ks ++ totTx ts)
theorem hd_totTx {ts : List (List Str)} : hd isLet (totTx ts) = false := by
  cases ts with
  | nil => rfl
  | cons t ts => exact (show isLet 10 = false by decide)
theorem let_total : ∀ c ∈ tl ("total" : Str), isLet c = true := by rw [tl_total]; decide
theorem let_kinds : ∀ c ∈ tl ("kinds" : Str), isLet c = true := by rw [tl_kinds]; decide
theorem lex_totTx : ∀ {ts : List (List Str)}, (∀ t ∈ ts, ∀ k ∈ t, isName k = true) → lex (totTx ts) = (totM ts).map tl
  | [], _ => rfl
  | t :: ts, h => by
    have e : totTx (t :: ts) = 10 :: (tl ("total" : Str) ++ (spN t ++ totTx ts)) := by
      unfold totTx
      rw [List.flatMap_cons]
      show 10 :: ((tl ("total" : Str) ++ spN t) ++ _) = _
      rw [List.append_assoc]
    have e2 : totM (t :: ts) = ("\n" : Str) :: "total" :: (t ++ totM ts) := rfl
    rw [e, e2, lex_sign (by decide) (by decide) (by decide), lex_word (by rw [tl_total]; decide) let_total (hd_spN (by decide) hd_totTx), lex_spN (h t List.mem_cons_self) hd_totTx, lex_totTx (fun t' h' => h t' (List.mem_cons_of_mem _ h'))]
    rw [List.map_cons, List.map_cons, List.map_append, tl_nl]
theorem map_S_tl (l : List Str) : (l.map tl).map S = l := by
  rw [List.map_map]
  have e : (S ∘ tl) = id := by funext x; exact mk_tl x
  rw [e, List.map_id]
theorem marks_tab {ks : List Str} {ts : List (List Str)} (hk : ∀ k ∈ ks, isName k = true) (ht : ∀ t ∈ ts, ∀ k ∈ t, isName k = true) : marks (S (tabTx ks ts)) = tabM ks ts := by
  have e : lex (tabTx ks ts) = (tabM ks ts).map tl := by
    unfold tabTx tabM
    rw [lex_word (by rw [tl_kinds]; decide) let_kinds (hd_spN (by decide) hd_totTx), lex_spN hk hd_totTx, lex_totTx ht, List.map_cons, List.map_append]
  show (lex (tabTx ks ts)).map S = _
  rw [e, map_S_tl]
theorem tabM_len (ks : List Str) (ts : List (List Str)) : (tabM ks ts).length = 1 + ks.length + (ts.map fun t => 2 + t.length).sum := by
  unfold tabM
  rw [List.length_cons, List.length_append]
  have e : (totM ts).length = (ts.map fun t => 2 + t.length).sum := by
    unfold totM
    rw [List.length_flatMap]
    congr 1
    apply List.map_congr_left
    intro t _
    simp only [List.length_cons]
    omega
  rw [e]
  omega
/-- as the program shows it -/
theorem tab_shown {ks : List Str} {ts : List (List Str)} (hne : ks ≠ []) : tabTx ks ts = joinL [10] ((tl ("kinds" : Str) ++ (32 :: joinL [32] (ks.map tl))) :: ts.map fun t => joinL [32] (tl ("total" : Str) :: t.map tl)) := by
  have sp : ∀ t : List Str, (t.map tl).flatMap (fun q => [32] ++ q) = spN t := by
    intro t
    unfold spN
    rw [List.flatMap_map]
    rfl
  have e1 : 32 :: joinL [32] (ks.map tl) = spN ks := by
    cases ks with
    | nil => exact absurd rfl hne
    | cons k ks =>
      rw [List.map_cons, joinL_cons, sp, spN_cons]
  rw [joinL_cons, e1]
  unfold tabTx totTx
  rw [List.append_assoc, List.flatMap_map]
  congr 2
  congr 1
  funext t
  rw [joinL_cons, sp]
  rfl
/-! ### lines, days -/
def lineTx (ks : List Str) (rd : Bool) (l : Ln) : List Nat := tl (ks.getD l.k Str.empty) ++ (32 :: (amT l.t l.b ++ (if rd = true then [32, 61, 32] ++ numT l.w else [])))
def dayTx (ks : List Str) (rd : Bool) (r : List Ln) : List Nat := joinL [10] (r.map (lineTx ks rd))
theorem lex_line {ks : List Str} {rd : Bool} {l : Ln} {rest : List Nat} (hk : ∀ k ∈ ks, isName k = true) (h : LnOk ks rd l) (hr : hd isDig rest = false) : lex (lineTx ks rd l ++ rest) = (lineM ks rd l).map tl ++ lex rest := by
  unfold lineTx lineM
  rw [List.append_assoc, lex_name (hk _ (getD_mem h.k)) (by exact (show isLet 32 = false by decide))]
  rw [List.map_cons, List.map_append]
  have em : ((amM l.t l.b).map S).map tl = amM l.t l.b := by
    rw [List.map_map]
    have e : (tl ∘ S) = id := by funext x; rfl
    rw [e, List.map_id]
  rw [em]
  show _ :: lex (32 :: ((amT l.t l.b ++ _) ++ rest)) = _ :: (_ ++ lex rest)
  rw [lex_blank]
  cases rd with
  | false =>
    rw [if_neg Bool.false_ne_true, if_neg Bool.false_ne_true, List.append_nil, List.map_nil, List.append_nil, lex_am hr]
  | true =>
    rw [if_pos rfl, if_pos rfl, List.append_assoc]
    have e1 : ([32, 61, 32] ++ numT l.w) ++ rest = 32 :: 61 :: 32 :: (numT l.w ++ rest) := rfl
    rw [e1, lex_am (by exact (show isDig 32 = false by decide)), lex_blank, lex_sign (by decide) (by decide) (by decide), lex_blank, lex_int hr]
    have ei : ((intM l.w).map S).map tl = intM l.w := by
      rw [List.map_map]
      have e : (tl ∘ S) = id := by funext x; rfl
      rw [e, List.map_id]
    rw [List.map_cons, ei, tl_eqs, List.append_assoc]
    rfl
theorem lex_day {ks : List Str} {rd : Bool} (hk : ∀ k ∈ ks, isName k = true) : ∀ {r : List Ln}, (∀ l ∈ r, LnOk ks rd l) → lex (dayTx ks rd r) = (dayM ks rd r).map tl
  | [], _ => rfl
  | [l], h => by
    have e := lex_line (rest := []) hk (h l List.mem_cons_self) rfl
    rw [List.append_nil, lex_nil, List.append_nil] at e
    exact e
  | l :: l2 :: r, h => by
    show lex (lineTx ks rd l ++ ([10] ++ dayTx ks rd (l2 :: r))) = (lineM ks rd l ++ ("\n" : Str) :: dayM ks rd (l2 :: r)).map tl
    rw [lex_line hk (h l List.mem_cons_self) (by exact (show isDig 10 = false by decide))]
    show _ ++ lex (10 :: dayTx ks rd (l2 :: r)) = _
    rw [lex_sign (by decide) (by decide) (by decide), lex_day hk (fun l' h' => h l' (List.mem_cons_of_mem _ h')), List.map_append, List.map_cons, tl_nl]
theorem marks_day {ks : List Str} {rd : Bool} {r : List Ln} (hk : ∀ k ∈ ks, isName k = true) (h : ∀ l ∈ r, LnOk ks rd l) : marks (S (dayTx ks rd r)) = dayM ks rd r := by
  show (lex (dayTx ks rd r)).map S = _
  rw [lex_day hk h, map_S_tl]
theorem dayM_len (ks : List Str) (rd : Bool) : ∀ r : List Ln, (dayM ks rd r).length = (r.map fun l => (lineM ks rd l).length).sum + (r.length - 1)
  | [] => rfl
  | [l] => by simp [dayM]
  | l :: l2 :: r => by
    show (lineM ks rd l ++ ("\n" : Str) :: dayM ks rd (l2 :: r)).length = _
    rw [List.length_append, List.length_cons, dayM_len ks rd (l2 :: r)]
    simp only [List.map_cons, List.sum_cons, List.length_cons]
    omega
theorem lineM_len (ks : List Str) (rd : Bool) (l : Ln) : (lineM ks rd l).length = 1 + (amM l.t l.b).length + (if rd = true then 1 + (if l.w < 0 then 1 else 0) + 1 else 0) := by
  unfold lineM
  cases rd with
  | false => simp; omega
  | true =>
    unfold intM
    by_cases h : l.w < 0 <;> simp [h] <;> omega
/-! ### sequences -/
theorem marks_seq : ∀ {row : List Str}, (∀ k ∈ row, isName k = true) → marks (S (joinL [32] (row.map tl))) = row
  | [], _ => rfl
  | k :: row, h => by
    have sp : (row.map tl).flatMap (fun q => [32] ++ q) = spN row := by
      unfold spN
      rw [List.flatMap_map]
      rfl
    have e : lex (joinL [32] ((k :: row).map tl)) = (k :: row).map tl := by
      rw [List.map_cons, joinL_cons, sp]
      have e1 := hd_spN (ks := row) (rest := []) (p := isLet) (by decide) rfl
      rw [List.append_nil] at e1
      have e2 := lex_spN (ks := row) (rest := []) (fun k' h' => h k' (List.mem_cons_of_mem _ h')) rfl
      rw [List.append_nil, lex_nil, List.append_nil] at e2
      rw [lex_name (h k List.mem_cons_self) e1, e2]
    show (lex _).map S = _
    rw [e, map_S_tl]
end K7
/-! ## K7Ord -/
set_option Elab.async false
set_option linter.all false
set_option maxRecDepth 100000
set_option maxHeartbeats 4000000
/-! Plain laws: order of texts, common divisors, floors. -/
namespace K7
open PySem TL
open PyProof.Rows (sortedS risingS)
open PySem.Spec (ltCps)
/-! ### order -/
theorem lt_cps : ∀ a b : List Nat, ltCps a b = decide (a < b)
  | [], [] => by simp [ltCps]
  | [], b :: t => by simp [ltCps]
  | a :: r, [] => by simp [ltCps]
  | a :: r, b :: t => by
    show (decide (a < b) || (a == b && ltCps r t)) = _
    rw [lt_cps r t]
    by_cases h : a < b
    · have : (a :: r) < (b :: t) := List.cons_lt_cons_iff.mpr (.inl h)
      simp [h, this]
    · by_cases h2 : a = b
      · subst h2
        by_cases h3 : r < t
        · have : (a :: r) < (a :: t) := List.cons_lt_cons_iff.mpr (.inr ⟨rfl, h3⟩)
          simp [h3, this]
        · have : ¬ (a :: r) < (a :: t) := fun q => by
            rcases List.cons_lt_cons_iff.mp q with q | q
            · exact h q
            · exact h3 q.2
          simp [h3, this]
      · have : ¬ (a :: r) < (b :: t) := fun q => by
          rcases List.cons_lt_cons_iff.mp q with q | q
          · exact h q
          · exact h2 q.1
        simp [h, h2, this]
theorem cps_irr : ∀ a : List Nat, ltCps a a = false
  | [] => rfl
  | a :: r => by
    show (decide (a < a) || (a == a && ltCps r r)) = false
    rw [cps_irr r]
    simp
theorem cps_anti : ∀ a b : List Nat, ltCps a b = false → ltCps b a = false → a = b
  | [], [], _, _ => rfl
  | [], b :: t, h, _ => by cases h
  | a :: r, [], _, h => by cases h
  | a :: r, b :: t, h1, h2 => by
    have h1' : (decide (a < b) || (a == b && ltCps r t)) = false := h1
    have h2' : (decide (b < a) || (b == a && ltCps t r)) = false := h2
    rw [Bool.or_eq_false_iff] at h1' h2'
    have e : a = b := by
      have p := of_decide_eq_false h1'.1
      have q := of_decide_eq_false h2'.1
      omega
    subst e
    have p := h1'.2
    have q := h2'.2
    rw [beq_self_eq_true, Bool.true_and] at p q
    rw [cps_anti r t p q]
theorem cps_trans : ∀ a b c : List Nat, ltCps b a = false → ltCps c b = false → ltCps c a = false
  | a, b, [], h1, h2 => by
    cases b with
    | nil =>
      cases a with
      | nil => rfl
      | cons x a => cases h1
    | cons y b => cases h2
  | a, [], z :: c, h1, h2 => by
    cases a with
    | nil => rfl
    | cons x a => cases h1
  | [], y :: b, z :: c, h1, h2 => rfl
  | x :: a, y :: b, z :: c, h1, h2 => by
    have h1' : (decide (y < x) || (y == x && ltCps b a)) = false := h1
    have h2' : (decide (z < y) || (z == y && ltCps c b)) = false := h2
    show (decide (z < x) || (z == x && ltCps c a)) = false
    rw [Bool.or_eq_false_iff] at h1' h2' ⊢
    have p := of_decide_eq_false h1'.1
    have q := of_decide_eq_false h2'.1
    refine ⟨decide_eq_false (by omega), ?_⟩
    by_cases e : z = x
    · subst e
      have e2 : y = z := by omega
      subst e2
      have p' := h1'.2
      have q' := h2'.2
      rw [beq_self_eq_true, Bool.true_and] at p' q' ⊢
      exact cps_trans a b c p' q'
    · rw [beq_eq_false_iff_ne.mpr e]
      rfl
/-- not above -/
def leS (a b : Str) : Prop := ltCps (tl b) (tl a) = false
/-- below -/
def ltS (a b : Str) : Prop := ltCps (tl a) (tl b) = true
theorem leS_anti {a b : Str} (h1 : leS a b) (h2 : leS b a) : a = b := tl_inj (cps_anti _ _ h2 h1)
theorem leS_trans {a b c : Str} (h1 : leS a b) (h2 : leS b c) : leS a c := cps_trans _ _ _ h1 h2
theorem ltS_le {a b : Str} (h : ltS a b) : leS a b := by
  unfold leS
  cases e : ltCps (tl b) (tl a) with
  | false => rfl
  | true =>
    unfold ltS at h
    rw [lt_cps] at h e
    have h1 := of_decide_eq_true h
    have h2 := of_decide_eq_true e
    exact absurd (List.lt_trans h1 h2) (List.lt_irrefl _)
theorem leS_ne {a b : Str} (h : leS a b) (hn : a ≠ b) : ltS a b := by
  unfold ltS
  cases e : ltCps (tl a) (tl b) with
  | true => rfl
  | false => exact absurd (leS_anti h e) hn
theorem ltS_ne {a b : Str} (h : ltS a b) : a ≠ b := by
  rintro rfl
  unfold ltS at h
  rw [cps_irr] at h
  cases h
theorem rising_pw : ∀ (l : List Str) (p : Str), risingS p l = true → (p :: l).Pairwise leS
  | [], p, _ => List.pairwise_singleton _ _
  | x :: r, p, h => by
    have h' : (!ltCps x.cps.toList p.cps.toList && risingS x r) = true := h
    rw [Bool.and_eq_true] at h'
    have h1 : leS p x := by
      unfold leS
      have := h'.1
      cases e : ltCps (tl x) (tl p) with
      | false => rfl
      | true =>
        rw [show ltCps x.cps.toList p.cps.toList = true from e] at this
        cases this
    have ih := rising_pw r x h'.2
    refine List.pairwise_cons.mpr ⟨fun y hy => ?_, ih⟩
    rcases List.mem_cons.mp hy with rfl | hy
    · exact h1
    · exact leS_trans h1 ((List.pairwise_cons.mp ih).1 y hy)
theorem sorted_pw {l : List Str} (h : sortedS l = true) : l.Pairwise leS := by
  cases l with
  | nil => exact List.Pairwise.nil
  | cons x r => exact rising_pw r x h
theorem sorted_same {ys xs : List Str} (hp : ys.Perm xs) (hs : sortedS ys = true) (ha : xs.Pairwise ltS) : ys = xs :=
  List.Perm.eq_of_pairwise (fun x y _ _ h1 h2 => leS_anti h1 h2) (sorted_pw hs) (ha.imp ltS_le) hp
theorem sorted_lt {ys xs : List Str} (hp : ys.Perm xs) (hs : sortedS ys = true) (hn : xs.Nodup) : ys.Pairwise ltS := by
  have hn' : ys.Nodup := hp.nodup_iff.mpr hn
  have h1 := sorted_pw hs
  exact (List.Pairwise.and h1 hn').imp fun ⟨a, b⟩ => leS_ne a b
theorem ltS_nodup {l : List Str} (h : l.Pairwise ltS) : l.Nodup := h.imp ltS_ne
theorem ints_same {ys xs : List Int} (hp : ys.Perm xs) (hs : ys.Pairwise (· ≤ ·)) (ha : xs.Pairwise (· < ·)) : ys = xs :=
  List.Perm.eq_of_pairwise (fun x y _ _ h1 h2 => Int.le_antisymm h1 h2) hs (ha.imp (fun h => Int.le_of_lt h)) hp
/-- each below the next one -/
theorem pw_next {α : Type} {R : α → α → Prop} {l : List α} (h : l.Pairwise R) {i : Nat} {x y : α} (hx : l[i]? = some x) (hy : l[i + 1]? = some y) : R x y := by
  obtain ⟨h1, e1⟩ := List.getElem?_eq_some_iff.mp hx
  obtain ⟨h2, e2⟩ := List.getElem?_eq_some_iff.mp hy
  have := List.pairwise_iff_getElem.mp h i (i + 1) h1 h2 (Nat.lt_succ_self i)
  rw [e1, e2] at this
  exact this
/-! ### divisors -/
theorem gcd_step (a b : Nat) : Nat.gcd b (a % b) = Nat.gcd a b := by
  rw [Nat.gcd_comm b, ← Nat.gcd_rec, Nat.gcd_comm]
theorem half_step {a b : Nat} (hb : 0 < b) (h : b < a) : b * (a % b) * 2 ≤ a * b := by
  have h1 : a % b < b := Nat.mod_lt a hb
  have h2 : b * (a / b) + a % b = a := Nat.div_add_mod a b
  have h3 : 1 ≤ a / b := (Nat.le_div_iff_mul_le hb).mpr (by omega)
  have h4 : b * 1 ≤ b * (a / b) := Nat.mul_le_mul_left b h3
  have h5 : a % b * 2 ≤ a := by omega
  calc b * (a % b) * 2 = b * (a % b * 2) := Nat.mul_assoc _ _ _
    _ ≤ b * a := Nat.mul_le_mul_left b h5
    _ = a * b := Nat.mul_comm _ _
theorem gcd_emod (t : Int) {b : Nat} (hb : 0 < b) : Nat.gcd b (t % (b : Int)).toNat = Nat.gcd t.natAbs b := by
  have h0 : 0 ≤ t % (b : Int) := Int.emod_nonneg t (by omega)
  have hm := Int.mul_ediv_add_emod t (b : Int)
  have e1 : (((t % (b : Int)).toNat : Nat) : Int) = t % (b : Int) := Int.toNat_of_nonneg h0
  refine Nat.dvd_antisymm ?_ ?_
  · refine Nat.dvd_gcd ?_ (Nat.gcd_dvd_left _ _)
    have d1 : ((Nat.gcd b (t % (b : Int)).toNat : Nat) : Int) ∣ (b : Int) := Int.ofNat_dvd.mpr (Nat.gcd_dvd_left _ _)
    have d2 : ((Nat.gcd b (t % (b : Int)).toNat : Nat) : Int) ∣ t % (b : Int) := by
      have := Int.ofNat_dvd.mpr (Nat.gcd_dvd_right b (t % (b : Int)).toNat)
      rw [e1] at this
      exact this
    have d3 : ((Nat.gcd b (t % (b : Int)).toNat : Nat) : Int) ∣ t := by
      have d4 := Int.dvd_add (Int.dvd_trans d1 (Int.dvd_mul_right (b : Int) (t / (b : Int)))) d2
      rw [hm] at d4
      exact d4
    exact Int.ofNat_dvd_left.mp d3
  · refine Nat.dvd_gcd (Nat.gcd_dvd_right _ _) ?_
    have d1 : ((Nat.gcd t.natAbs b : Nat) : Int) ∣ (b : Int) := Int.ofNat_dvd.mpr (Nat.gcd_dvd_right _ _)
    have d2 : ((Nat.gcd t.natAbs b : Nat) : Int) ∣ t := Int.ofNat_dvd_left.mpr (Nat.gcd_dvd_left _ _)
    have d3 : ((Nat.gcd t.natAbs b : Nat) : Int) ∣ t % (b : Int) := by
      have e : t % (b : Int) = t - (b : Int) * (t / (b : Int)) := by omega
      rw [e]
      exact Int.dvd_sub d2 (Int.dvd_trans d1 (Int.dvd_mul_right _ _))
    rw [← e1] at d3
    exact Int.ofNat_dvd.mp d3
/-- the fraction in lowest terms -/
def lowT (t : Int) (b : Nat) : Int := t / ((Nat.gcd t.natAbs b : Nat) : Int)
def lowB (t : Int) (b : Nat) : Nat := b / Nat.gcd t.natAbs b
theorem low_eq (t : Int) {b : Nat} (hb : 0 < b) : 0 < Nat.gcd t.natAbs b ∧ t = ((Nat.gcd t.natAbs b : Nat) : Int) * lowT t b ∧ b = Nat.gcd t.natAbs b * lowB t b := by
  have hg : 0 < Nat.gcd t.natAbs b := Nat.gcd_pos_of_pos_right _ hb
  refine ⟨hg, ?_, ?_⟩
  · have hd : ((Nat.gcd t.natAbs b : Nat) : Int) ∣ t := Int.ofNat_dvd_left.mpr (Nat.gcd_dvd_left _ _)
    exact (Int.mul_ediv_cancel' hd).symm
  · exact (Nat.mul_div_cancel' (Nat.gcd_dvd_right _ _)).symm
theorem low_ok {t : Int} {b : Nat} (ht : t.natAbs ≤ 1000000) (hb : 0 < b) (hb2 : b ≤ 1000000) : FrOk (lowT t b) (lowB t b) := by
  obtain ⟨hg, e1, e2⟩ := low_eq t hb
  have ea : t.natAbs = Nat.gcd t.natAbs b * (lowT t b).natAbs := by
    have := congrArg Int.natAbs e1
    rw [Int.natAbs_mul, Int.natAbs_natCast] at this
    exact this
  have le1 : (lowT t b).natAbs ≤ t.natAbs := by
    rw [ea]
    exact Nat.le_mul_of_pos_left _ hg
  have le2 : lowB t b ≤ b := Nat.div_le_self _ _
  have p2 : 0 < lowB t b := Nat.div_pos (Nat.le_of_dvd hb (Nat.gcd_dvd_right _ _)) hg
  refine ⟨by omega, p2, by omega, ?_⟩
  have : Nat.gcd t.natAbs b = Nat.gcd t.natAbs b * Nat.gcd (lowT t b).natAbs (lowB t b) := by
    rw [← Nat.gcd_mul_left, ← ea, ← e2]
  have h1 : Nat.gcd t.natAbs b * 1 = Nat.gcd t.natAbs b * Nat.gcd (lowT t b).natAbs (lowB t b) := by rw [Nat.mul_one]; exact this
  exact (Nat.eq_of_mul_eq_mul_left hg h1).symm
theorem low_neg {t : Int} {b : Nat} (hb : 0 < b) : lowT t b < 0 ↔ t < 0 := by
  obtain ⟨hg, e1, _⟩ := low_eq t hb
  have hg' : (0 : Int) < ((Nat.gcd t.natAbs b : Nat) : Int) := by omega
  constructor
  · intro h
    rw [e1]
    exact Int.mul_neg_of_pos_of_neg hg' h
  · intro h
    by_cases q : lowT t b < 0
    · exact q
    · have := Int.mul_nonneg (Int.le_of_lt hg') (show 0 ≤ lowT t b by omega)
      omega
theorem low_one {t : Int} {b : Nat} (hb : b = 1) : lowB t b = 1 := by
  subst hb
  unfold lowB
  rw [Nat.gcd_one_right]
theorem low_flo {t : Int} {b : Nat} (hb : 0 < b) : flo (lowT t b) (lowB t b) = flo t b := by
  obtain ⟨hg, e1, e2⟩ := low_eq t hb
  have hg' : (0 : Int) < ((Nat.gcd t.natAbs b : Nat) : Int) := by omega
  unfold flo
  have h : t / (b : Int) = (((Nat.gcd t.natAbs b : Nat) : Int) * lowT t b) / (((Nat.gcd t.natAbs b : Nat) : Int) * ((lowB t b : Nat) : Int)) := by
    rw [← e1, ← Int.natCast_mul, ← e2]
  rw [h, Int.mul_ediv_mul_of_pos _ _ hg']
theorem low_cei {t : Int} {b : Nat} (hb : 0 < b) : cei (lowT t b) (lowB t b) = cei t b := by
  obtain ⟨hg, e1, e2⟩ := low_eq t hb
  have hg' : (0 : Int) < ((Nat.gcd t.natAbs b : Nat) : Int) := by omega
  unfold cei
  have h : (-t) / (b : Int) = (((Nat.gcd t.natAbs b : Nat) : Int) * (-lowT t b)) / (((Nat.gcd t.natAbs b : Nat) : Int) * ((lowB t b : Nat) : Int)) := by
    rw [Int.mul_neg, ← e1, ← Int.natCast_mul, ← e2]
  rw [h, Int.mul_ediv_mul_of_pos _ _ hg']
/-- the wholes next to a fraction -/
theorem cei_eq {t : Int} {b : Nat} (hb : 0 < b) : cei t b = if flo t b * (b : Int) = t then flo t b else flo t b + 1 := by
  unfold cei flo
  have hb' : (b : Int) ≠ 0 := by omega
  have hm := Int.mul_ediv_add_emod t (b : Int)
  have h0 := Int.emod_nonneg t hb'
  have h1 := Int.emod_lt_of_pos t (show (0 : Int) < b by omega)
  have hc : (b : Int) * (t / (b : Int)) = t / (b : Int) * (b : Int) := Int.mul_comm _ _
  by_cases h : t / (b : Int) * (b : Int) = t
  · rw [if_pos h]
    have e : -t = 0 + (b : Int) * (-(t / (b : Int))) := by
      rw [Int.mul_neg, hc]
      omega
    have e2 : -t / (b : Int) = -(t / (b : Int)) := by
      rw [e, Int.add_mul_ediv_left _ _ hb', Int.zero_ediv]
      omega
    rw [e2]
    omega
  · rw [if_neg h]
    have e : -t = ((b : Int) - t % (b : Int)) + (b : Int) * (-(t / (b : Int)) - 1) := by
      rw [Int.mul_sub, Int.mul_neg, hc, Int.mul_one]
      omega
    have e2 : -t / (b : Int) = -(t / (b : Int)) - 1 := by
      rw [e, Int.add_mul_ediv_left _ _ hb', Int.ediv_eq_zero_of_lt (by omega) (by omega)]
      omega
    rw [e2]
    omega
theorem flo_bd {t : Int} {b : Nat} (ht : t.natAbs ≤ 1000000) (hb : 0 < b) : (flo t b).natAbs ≤ 1000000 ∧ (flo t b * (b : Int) ≠ t → (flo t b + 1).natAbs ≤ 1000000) := by
  have hb' : (0 : Int) < (b : Int) := by omega
  have h1 : flo t b * (b : Int) ≤ t := Int.ediv_mul_le t (by omega)
  have h2 : t < (flo t b + 1) * (b : Int) := Int.lt_ediv_add_one_mul_self t hb'
  have h3 : -1000000 ≤ flo t b := by
    by_cases q : flo t b + 1 ≤ -1000000
    · have h4 : (flo t b + 1) * (b : Int) ≤ (flo t b + 1) * 1 := Int.mul_le_mul_of_nonpos_left (by omega) (by omega)
      omega
    · omega
  have h5 : flo t b ≤ 1000000 := by
    by_cases q : 0 ≤ flo t b
    · have h4 : flo t b * 1 ≤ flo t b * (b : Int) := Int.mul_le_mul_of_nonneg_left (by omega) q
      omega
    · omega
  refine ⟨by omega, fun hne => ?_⟩
  by_cases q : 0 ≤ flo t b
  · by_cases q2 : b = 1
    · subst q2
      exfalso
      apply hne
      unfold flo
      simp
    · have h4 : flo t b * 2 ≤ flo t b * (b : Int) := Int.mul_le_mul_of_nonneg_left (by omega) q
      omega
  · omega
end K7
/-! ## K7Heap -/
set_option Elab.async false
set_option linter.all false
set_option maxRecDepth 100000
set_option maxHeartbeats 4000000
/-! Heaps; comprehensions whose element leaves the heap as it is. -/
namespace K7
open PySem PySem.Spec PyProof.Rows L2
theorem same_upd {H : Hp} {p : Addr} {o : HO} (h : H p = none) : Same H (upd H p o) := fun b x e => by
  rw [upd_ne (ne_of_none e h)]
  exact e
theorem stup {K : PySem.W.Frag} {H H' : Hp} {a : Addr} {xs : List V} (e : Same H H') (h : SqT K H a xs) : SqT K H' a xs := h.ext e
theorem slst {K : PySem.W.Frag} {H H' : Hp} {a : Addr} {xs : List V} (e : Same H H') (h : SqL K H a xs) : SqL K H' a xs := h.ext e
theorem small {n : Nat} (h : n ≤ 100000) : n < sizeLine := Nat.lt_of_le_of_lt h (by decide)
theorem small' {n : Nat} (h : n ≤ 100000) : n ≤ sizeLine := Nat.le_of_lt (small h)
/-- the list behind one more item -/
theorem lc_app {H1 : Hp} {D : Addr} {xs : List V} {φ : V → V} {i : Nat} {x : V} {N : Hp → Prop} (hx : xs[i]? = some x) (hz : xs.length ≤ 100000) (hN : N (upd H1 D (.lst ((xs.take (i + 1)).map φ)))) :
    ∃ acc, (upd H1 D (.lst ((xs.take i).map φ))) D = some (.lst acc) ∧ acc.length < sizeLine ∧ N (upd (upd H1 D (.lst ((xs.take i).map φ))) D (.lst (acc ++ [φ x]))) := by
  refine ⟨_, upd_same, ?_, ?_⟩
  · rw [List.length_map, List.length_take]
    exact small (Nat.le_trans (Nat.min_le_right _ _) hz)
  · rw [upd_upd]
    have e : (xs.take (i + 1)).map φ = (xs.take i).map φ ++ [φ x] := by
      rw [List.take_add_one, hx, List.map_append]
      rfl
    rw [e] at hN
    exact hN
/-- a comprehension over xs: each element a value of the item, the heap as it was -/
theorem lc_map {J : It} {G : Hp → Prop} {xs : List V} (wk : Walk J xs.length G (YAt xs)) {g : TG} {tt : TT} {te : TE} {vs : List Nat} {σ : L2.St} {H1 : Hp} {D : Addr} {Qd : Hp → Prop} (φ : V → V)
    (hG : ∀ ys, G (upd H1 D (.lst ys)))
    (hs : ∀ i x (N : Hp → Prop), xs[i]? = some x → N (upd H1 D (.lst ((xs.take (i + 1)).map φ))) → g x (wipe σ vs) (upd H1 D (.lst ((xs.take i).map φ))) fun σ2 H2 => wipe σ2 vs = wipe σ vs ∧ tt σ2 H2 fun b H3 =>
      if b = true then te σ2 H3 fun y H4 => ∃ acc, H4 D = some (.lst acc) ∧ acc.length < sizeLine ∧ N (upd H4 D (.lst (acc ++ [y]))) else N H3)
    (hd : Qd (upd H1 D (.lst (xs.map φ)))) :
    ∃ W : Nat → Nat → Hp → Prop, (∃ m, W 0 m (upd H1 D (.lst []))) ∧ ∀ i m H, W i m H →
      (J.stop i H ∧ Qd H) ∨ (J.go i H ∧ ∃ Nx : Hp → Prop, (∀ H', Nx H' → ∃ m', m' < m ∧ W (i + 1) m' H') ∧ ∀ x H', J.yld i H x H' → g x (wipe σ vs) H' fun σ2 H2 => wipe σ2 vs = wipe σ vs ∧ tt σ2 H2 fun b H3 =>
        if b = true then te σ2 H3 fun y H4 => ∃ acc, H4 D = some (.lst acc) ∧ acc.length < sizeLine ∧ Nx (upd H4 D (.lst (acc ++ [y]))) else Nx H3) := by
  refine lc_it wk (fun i H => H = upd H1 D (.lst ((xs.take i).map φ))) rfl (fun i H _ e => by rw [e]; exact hG _) (fun i x H H' hi e hy => ?_) (fun H e => ?_)
  · obtain ⟨rfl, hx⟩ := hy
    subst e
    exact hs i x _ hx rfl
  · rw [e, List.take_of_length_le (Nat.le_refl _)]
    exact hd
/-- .. over a text, sign by sign -/
def signV (z : Str) : List V := (TL.tl z).map fun c => V.str ⟨#[c]⟩
theorem walk_sign {z : Str} : Walk (Its z) (signV z).length (fun _ => True) (YAt (signV z)) := by
  have hl : (signV z).length = z.cps.size := by
    unfold signV
    rw [List.length_map, Array.length_toList]
  rw [hl]
  refine walk_str.mono (fun _ h => h) fun i H x H' _ _ hy => ?_
  obtain ⟨e, c, hc, rfl⟩ := hy
  refine ⟨e, ?_⟩
  unfold signV
  rw [List.getElem?_map, Array.getElem?_toList, hc]
  rfl
/-- .. over a range -/
def rangeV (n : Nat) : List V := (List.range n).map fun i : Nat => V.int (i : Int)
theorem rangeV_at {n i : Nat} (h : i < n) : (rangeV n)[i]? = some (.int (i : Int)) := by
  unfold rangeV
  rw [List.getElem?_map, List.getElem?_range h]
  rfl
theorem rangeV_len (n : Nat) : (rangeV n).length = n := by
  unfold rangeV
  rw [List.length_map, List.length_range]
theorem walk_rangeV {n : Nat} : Walk (Itr 0 n) (rangeV n).length (fun _ => True) (YAt (rangeV n)) := by
  rw [rangeV_len]
  refine walk_range.mono (fun _ h => h) fun i H x H' hi _ hy => ?_
  obtain ⟨e, rfl⟩ := hy
  refine ⟨e, ?_⟩
  rw [rangeV_at hi]
  show some (V.int (i : Int)) = some (V.int (0 + (i : Int)))
  rw [Int.zero_add]
theorem all_id_map {α : Type} (l : List α) (p : α → Bool) : (l.map p).all id = l.all p := by
  rw [List.all_map]
  rfl
theorem any_id_map {α : Type} (l : List α) (p : α → Bool) : (l.map p).any id = l.any p := by
  rw [List.any_map]
  rfl
theorem sign_at {z : Str} {i : Nat} {v : V} (h : (signV z)[i]? = some v) : ∃ c, (TL.tl z)[i]? = some c ∧ v = .str ⟨#[c]⟩ := by
  unfold signV at h
  rw [List.getElem?_map] at h
  cases e : (TL.tl z)[i]? with
  | none =>
    rw [e] at h
    cases h
  | some c =>
    rw [e] at h
    exact ⟨c, rfl, (Option.some.inj h).symm⟩
theorem signV_len (z : Str) : (signV z).length = z.length := by
  unfold signV
  rw [List.length_map, ← TL.len_tl]
def signLet : V → V
  | .str z => .bl (isLet (z.cps.getD 0 0))
  | _ => .non
theorem signLet_map (z : Str) : (signV z).map signLet = ((TL.tl z).map isLet).map V.bl := by
  unfold signV
  rw [List.map_map, List.map_map]
  rfl
/-! ### two lists, item by item -/
def All2 {α β : Type} (R : α → β → Prop) (xs : List α) (ys : List β) : Prop := xs.length = ys.length ∧ ∀ (i : Nat) x y, xs[i]? = some x → ys[i]? = some y → R x y
section
variable {α β : Type} {R R' : α → β → Prop} {xs : List α} {ys : List β}
theorem All2.nil : All2 R [] [] := ⟨rfl, fun i x y h => by simp at h⟩
theorem All2.mono (h : All2 R xs ys) (m : ∀ x y, R x y → R' x y) : All2 R' xs ys := ⟨h.1, fun i x y hx hy => m _ _ (h.2 i x y hx hy)⟩
theorem All2.snoc (h : All2 R xs ys) {x : α} {y : β} (r : R x y) : All2 R (xs ++ [x]) (ys ++ [y]) := by
  refine ⟨by rw [List.length_append, List.length_append, h.1]; rfl, fun i a b ha hb => ?_⟩
  by_cases hi : i < xs.length
  · rw [List.getElem?_append_left hi] at ha
    rw [List.getElem?_append_left (h.1 ▸ hi)] at hb
    exact h.2 i a b ha hb
  · rw [List.getElem?_append_right (by omega)] at ha
    rw [List.getElem?_append_right (by rw [← h.1]; omega)] at hb
    rw [← h.1] at hb
    by_cases h0 : i - xs.length = 0
    · rw [h0] at ha hb
      have e1 := Option.some.inj ha
      have e2 := Option.some.inj hb
      rw [← e1, ← e2]
      exact r
    · rw [List.getElem?_eq_none (by show 1 ≤ _; omega)] at ha
      cases ha
theorem All2.get (h : All2 R xs ys) {i : Nat} {x : α} (hx : xs[i]? = some x) : ∃ y, ys[i]? = some y ∧ R x y := by
  have hi := (List.getElem?_eq_some_iff.mp hx).1
  have hy : ys[i]? = some (ys[i]'(h.1 ▸ hi)) := List.getElem?_eq_getElem (h.1 ▸ hi)
  exact ⟨_, hy, h.2 i x _ hx hy⟩
theorem All2.get' (h : All2 R xs ys) {i : Nat} {y : β} (hy : ys[i]? = some y) : ∃ x, xs[i]? = some x ∧ R x y := by
  have hi := (List.getElem?_eq_some_iff.mp hy).1
  have hx : xs[i]? = some (xs[i]'(h.1.symm ▸ hi)) := List.getElem?_eq_getElem (h.1.symm ▸ hi)
  exact ⟨_, hx, h.2 i _ y hx hy⟩
theorem All2.cons {x : α} {y : β} (r : R x y) (h : All2 R xs ys) : All2 R (x :: xs) (y :: ys) := by
  refine ⟨congrArg (· + 1) h.1, fun i a b ha hb => ?_⟩
  cases i with
  | zero =>
    have e1 := Option.some.inj ha
    have e2 := Option.some.inj hb
    rw [← e1, ← e2]
    exact r
  | succ i => exact h.2 i a b ha hb
theorem All2.uncons {x : α} {y : β} (h : All2 R (x :: xs) (y :: ys)) : R x y ∧ All2 R xs ys :=
  ⟨h.2 0 x y rfl rfl, Nat.succ.inj h.1, fun i a b ha hb => h.2 (i + 1) a b ha hb⟩
end
/-- a comprehension over xs whose elements only make things: each element a value of the item -/
theorem lc_mapS {J : It} {G : Hp → Prop} {xs : List V} (wk : Walk J xs.length G (YAt xs)) {g : TG} {tt : TT} {te : TE} {vs : List Nat} {σ : L2.St} {H1 : Hp} {D : Addr} {Qd : Hp → Prop} (φ : V → V) (hD : H1 D = none) (hz : xs.length ≤ 100000)
    (hG : ∀ H', Same H1 H' → G H')
    (hs : ∀ (i : Nat) (x : V) (H' : Hp) (N : Hp → Prop), xs[i]? = some x → Same H1 H' → (∀ H'', Same H' H'' → ∃ acc, H'' D = some (.lst acc) ∧ acc.length < sizeLine ∧ N (upd H'' D (.lst (acc ++ [φ x])))) → g x (wipe σ vs) H' fun σ2 H2 => wipe σ2 vs = wipe σ vs ∧ tt σ2 H2 fun b H3 =>
      if b = true then te σ2 H3 fun y H4 => ∃ acc, H4 D = some (.lst acc) ∧ acc.length < sizeLine ∧ N (upd H4 D (.lst (acc ++ [y]))) else N H3)
    (hd : ∀ H', Same H1 H' → H' D = some (.lst (xs.map φ)) → Qd H') :
    ∃ W : Nat → Nat → Hp → Prop, (∃ m, W 0 m (upd H1 D (.lst []))) ∧ ∀ i m H, W i m H →
      (J.stop i H ∧ Qd H) ∨ (J.go i H ∧ ∃ Nx : Hp → Prop, (∀ H', Nx H' → ∃ m', m' < m ∧ W (i + 1) m' H') ∧ ∀ x H', J.yld i H x H' → g x (wipe σ vs) H' fun σ2 H2 => wipe σ2 vs = wipe σ vs ∧ tt σ2 H2 fun b H3 =>
        if b = true then te σ2 H3 fun y H4 => ∃ acc, H4 D = some (.lst acc) ∧ acc.length < sizeLine ∧ Nx (upd H4 D (.lst (acc ++ [y]))) else Nx H3) := by
  refine lc_it wk (fun i H => Same H1 H ∧ H D = some (.lst ((xs.take i).map φ))) ⟨same_upd hD, upd_same⟩ (fun i H _ e => hG _ e.1) (fun i x H H' hi e hy => ?_) (fun H e => ?_)
  · obtain ⟨rfl, hx⟩ := hy
    refine hs i x H' _ hx e.1 fun H'' sm => ⟨_, sm _ _ e.2, ?_, fun b o eb => ?_, ?_⟩
    · rw [List.length_map, List.length_take]
      exact small (Nat.le_trans (Nat.min_le_right _ _) hz)
    · rw [upd_ne (ne_of_none eb hD)]
      exact sm _ _ (e.1 _ _ eb)
    · rw [upd_same, List.take_add_one, hx, List.map_append]
      rfl
  · refine hd H e.1 ?_
    rw [e.2, List.take_of_length_le (Nat.le_refl _)]
/-- a comprehension over xs by a word of the turn, the list so far and the heap -/
theorem lc_gen {J : It} {G : Hp → Prop} {xs : List V} (wk : Walk J xs.length G (YAt xs)) {g : TG} {tt : TT} {te : TE} {vs : List Nat} {σ : L2.St} {H1 : Hp} {D : Addr} {Qd : Hp → Prop} (P : Nat → List V → Hp → Prop)
    (h0 : P 0 [] (upd H1 D (.lst []))) (hG : ∀ i ys H', i ≤ xs.length → P i ys H' → G H') (hz : ∀ i ys H', i < xs.length → P i ys H' → ys.length ≤ 100000)
    (hs : ∀ (i : Nat) (x : V) (ys : List V) (H' : Hp) (N : Hp → Prop), xs[i]? = some x → P i ys H' → H' D = some (.lst ys) →
      (∀ H'' y, H'' D = some (.lst ys) → P (i + 1) (ys ++ [y]) (upd H'' D (.lst (ys ++ [y]))) → ∃ acc, H'' D = some (.lst acc) ∧ acc.length < sizeLine ∧ N (upd H'' D (.lst (acc ++ [y])))) →
      (∀ H'', H'' D = some (.lst ys) → P (i + 1) ys H'' → N H'') →
      g x (wipe σ vs) H' fun σ2 H2 => wipe σ2 vs = wipe σ vs ∧ tt σ2 H2 fun b H3 =>
      if b = true then te σ2 H3 fun y H4 => ∃ acc, H4 D = some (.lst acc) ∧ acc.length < sizeLine ∧ N (upd H4 D (.lst (acc ++ [y]))) else N H3)
    (hd : ∀ ys H', P xs.length ys H' → H' D = some (.lst ys) → Qd H') :
    ∃ W : Nat → Nat → Hp → Prop, (∃ m, W 0 m (upd H1 D (.lst []))) ∧ ∀ i m H, W i m H →
      (J.stop i H ∧ Qd H) ∨ (J.go i H ∧ ∃ Nx : Hp → Prop, (∀ H', Nx H' → ∃ m', m' < m ∧ W (i + 1) m' H') ∧ ∀ x H', J.yld i H x H' → g x (wipe σ vs) H' fun σ2 H2 => wipe σ2 vs = wipe σ vs ∧ tt σ2 H2 fun b H3 =>
        if b = true then te σ2 H3 fun y H4 => ∃ acc, H4 D = some (.lst acc) ∧ acc.length < sizeLine ∧ Nx (upd H4 D (.lst (acc ++ [y]))) else Nx H3) := by
  refine lc_it wk (fun i H => ∃ ys, P i ys H ∧ H D = some (.lst ys)) ⟨[], h0, upd_same⟩ (fun i H hi ⟨ys, e, _⟩ => hG i ys H hi e) (fun i x H H' hi ⟨ys, e, eD⟩ hy => ?_) (fun H ⟨ys, e, eD⟩ => hd ys H e eD)
  obtain ⟨rfl, hx⟩ := hy
  exact hs i x ys H' _ hx e eD (fun H'' y eD' h => ⟨ys, eD', small (hz i ys H' hi e), ys ++ [y], h, upd_same⟩) fun H'' eD' h => ⟨ys, h, eD'⟩
theorem take_snoc {α : Type} {xs : List α} {i : Nat} {x : α} (h : xs[i]? = some x) : xs.take (i + 1) = xs.take i ++ [x] := by
  rw [List.take_add_one, h]
  rfl
theorem take_all {α : Type} {xs : List α} : xs.take xs.length = xs := List.take_of_length_le (Nat.le_refl _)
end K7
/-! ## K7W1 -/
set_option Elab.async false
set_option linter.all false
set_option maxRecDepth 100000
set_option maxHeartbeats 4000000
namespace K7
open PySem PySem.Spec PyProof.Rows L2
section
variable {P : Program} {w : World} {K : PySem.W.Frag} {mg : Str → Option Value} {base : Heap}
/-! ### is_integer -/
/-- an int -/
def p_is_integer (v : V) (H : Hp) (Q : VK) : Prop := ∃ i : Int, v = .int i ∧ Q (.bl true) H
theorem sc_is_integer : FnScope ["value"] ["value"] (defScope s_is_integer) := ⟨rfl, rfl, rfl, by decide +kernel, rfl, by decide +kernel, by decide +kernel⟩
theorem ok_is_integer (T : Txt K mg) : Cal P w K mg base "is_integer" 1 ["value"] (sp1 p_is_integer) := by
  refine T.f_is_integer.cal sc_is_integer (fun _ _ _ _ _ _ us hl => match us, hl with | [_], _ => rfl) len1 fun f cdv A outer s H vs Q E hr h => ?_
  obtain ⟨_, rfl, i, rfl, q⟩ := h
  refine ⟨_, pss_one (ps_ret (pe_and (pe_callB call_isi (by rfl) T.z_isinstance b_isinstance (pa_cons (pv 0) (pa_cons (pe_bltn (v := .ty "int") (by rfl) T.z_int b_int rfl) pa_nil)))
    (pe_one (pe_not (pe_callB call_isi (by rfl) T.z_isinstance b_isinstance (pa_cons (pv 0) (pa_cons (pe_bltn (v := .ty "bool") (by rfl) T.z_bool b_bool rfl) pa_nil))))))), ?_⟩
  refine ⟨_, rfl, _, _, _, _, true, rfl, .ty _, .base (.int i), kit_ty (by decide +kernel), true, rfl, ?_⟩
  rw [if_pos rfl]
  exact ⟨_, rfl, _, _, _, _, false, rfl, .ty _, .base (.int i), kit_ty (by decide +kernel), false, rfl, q⟩
/-! ### is_number -/
def p_is_number (v : V) (H : Hp) (Q : VK) : Prop := ∃ i : Int, v = .int i ∧ Q (.bl (decide (0 ≤ i))) H
theorem sc_is_number : FnScope ["value"] ["value"] (defScope s_is_number) := ⟨rfl, rfl, rfl, by decide +kernel, rfl, by decide +kernel, by decide +kernel⟩
theorem ok_is_number (T : Txt K mg) : Cal P w K mg base "is_number" 2 ["value"] (sp1 p_is_number) := by
  have G := ok_is_integer (P := P) (w := w) (base := base) T
  refine T.f_is_number.cal sc_is_number (fun _ _ _ _ _ _ us hl => match us, hl with | [_], _ => rfl) len1 fun f cdv A outer s H vs Q E hr h => ?_
  obtain ⟨_, rfl, i, rfl, q⟩ := h
  refine ⟨_, pss_one (ps_ret (pe_and (pe_cal G hr (by rfl) (pa_cons (pv 0) pa_nil)) (pe_one (pe_cmpR op_ge (pv 0) pe_int (nomark _))))), ?_⟩
  refine ⟨_, rfl, _, rfl, i, rfl, true, rfl, ?_⟩
  rw [if_pos rfl]
  exact ⟨_, rfl, _, _, rfl, rfl, q⟩
/-! ### is_name -/
def p_is_name (v : V) (H : Hp) (Q : VK) : Prop := ∃ x : Str, v = .str x ∧ x.length ≤ 100000 ∧ ∀ H', Same H H' → Q (.bl (isName x)) H'
theorem sc_is_name : FnScope ["value", "sign"] ["value"] (defScope s_is_name) := ⟨rfl, rfl, rfl, by decide +kernel, rfl, by decide +kernel, by decide +kernel⟩
theorem ok_is_name (T : Txt K mg) : Cal P w K mg base "is_name" 1 ["value"] (sp1 p_is_name) := by
  obtain ⟨tl_, hl_⟩ := T.letters
  obtain ⟨tn, hn_⟩ := T.k_LONGEST_NAME
  refine T.f_is_name.cal sc_is_name (fun _ _ _ _ _ _ us hl => match us, hl with | [_], _ => rfl) len1 fun f cdv A outer s H vs Q E hr h => ?_
  obtain ⟨_, rfl, x, rfl, hx, q⟩ := h
  have hx' : x.length ≤ sizeLine := Nat.le_trans hx (by decide)
  refine ⟨_, pss_cons (ps_if (PW.pt (pw_or (pt_not (pt_val (pe_callB call_isi (by rfl) T.z_isinstance b_isinstance (pa_cons (pv 0) (pa_cons (pe_bltn (v := .ty "str") (by rfl) T.z_str b_str rfl) pa_nil)))))
      (pw_or1 (pt_not (pt_chain op_le op_le pe_int (pe_callB call_len_str (by rfl) T.z_len b_len (pa_cons (pv 0) pa_nil)) (pe_glob (v := .int 6) (by rfl) hn_ ⟨_, rfl⟩))))))
      (pss_one (ps_ret pe_bl)) pss_nil)
    (pss_one (ps_ret (pe_callB (cr_all rfl) (by rfl) T.z_all b_all (pa_cons
      (pe_lc (own := [("sign", 1)]) (g := gName 1) (tt := tYes) rfl sc_is_name.nd (pi_str (pv 0)) (blkOk_by (N := ["value", "sign"]) (sc := defScope s_is_name) (by decide +kernel))
        (fun _ _ _ _ _ => pg_name (i := 1) sc_is_name.nd rfl (Or.inl rfl)) (fun _ _ _ _ _ => pts_nil)
        (fun _ _ _ _ _ => pe_cmpR op_in_sign (pv 1) (pe_glob (v := .str "abcdefghijklmnopqrstuvwxyz") (by rfl) hl_ ⟨_, rfl⟩) (by rfl))) pa_nil)))), ?_⟩
  -- isinstance(value, str); 1 <= len(value) <= 6
  refine ⟨_, rfl, _, _, _, _, true, rfl, .ty _, .base (.str x), kit_ty (by decide +kernel), true, rfl, ?_⟩
  refine iteF ?_
  refine ⟨_, rfl, x, rfl, hx', 1, _, rfl, rfl, _, rfl, ite2 (fun h1 => ?_) (fun h1 => ?_)⟩
  · refine ⟨_, _, rfl, rfl, _, rfl, ?_⟩
    by_cases h2 : x.length ≤ 6
    · rw [decide_eq_true (show (x.length : Int) ≤ 6 by omega)]
      refine iteF ?_
      -- all(sign in LETTERS)
      refine ⟨_, rfl, x, rfl, fun D hD => lc_map walk_sign signLet (fun _ => trivial) (fun i v N hv hN => ?_) ?_⟩
      · obtain ⟨c, hc, rfl⟩ := sign_at hv
        refine ⟨rfl, _, rfl, c, _, rfl, rfl, ?_⟩
        rw [show (Str.ofString "abcdefghijklmnopqrstuvwxyz").cps.toList = letL from tl_letters]
        exact lc_app (φ := signLet) hv (by rw [signV_len]; omega) hN
      · refine ⟨D, (TL.tl x).map isLet, rfl, .of (by rw [upd_same, signLet_map]), ?_⟩
        rw [all_id_map]
        have e : isName x = (TL.tl x).all isLet := by
          unfold isName
          have := of_decide_eq_true h1
          rw [decide_eq_true (show 1 ≤ x.length by omega), decide_eq_true h2]
          rfl
        rw [← e]
        exact q _ (same_upd hD)
    · rw [decide_eq_false (show ¬ (x.length : Int) ≤ 6 by omega)]
      refine iteT ?_
      have e : isName x = false := by
        unfold isName
        rw [decide_eq_false h2]
        simp
      have := q H (Same.refl H)
      rw [e] at this
      exact this
  · refine ⟨_, rfl, iteT ?_⟩
    have e : isName x = false := by
      unfold isName
      rw [decide_eq_false (show ¬ 1 ≤ x.length from fun z => h1 (decide_eq_true (by omega)))]
      rfl
    have := q H (Same.refl H)
    rw [e] at this
    exact this
/-! ### are_numbers -/
/-- a tuple of numbers -/
def p_are_numbers (v : V) (H : Hp) (Q : VK) : Prop := ∃ (a : Addr) (ns : List Int), v = .ref a ∧ H a = some (.tup (ns.map V.int)) ∧ ns.length ≤ 1000 ∧ (∀ n ∈ ns, 0 ≤ n) ∧ ∀ H', Same H H' → Q (.bl true) H'
theorem sc_are_numbers : FnScope ["value", "item"] ["value"] (defScope s_are_numbers) := ⟨rfl, rfl, rfl, by decide +kernel, rfl, by decide +kernel, by decide +kernel⟩
def numOk : V → V
  | .int i => .bl (decide (0 ≤ i))
  | _ => .non
theorem int_at {ns : List Int} {i : Nat} {v : V} (h : (ns.map V.int)[i]? = some v) : ∃ n, ns[i]? = some n ∧ v = .int n := by
  rw [List.getElem?_map] at h
  cases e : ns[i]? with
  | none =>
    rw [e] at h
    cases h
  | some c =>
    rw [e] at h
    exact ⟨c, rfl, (Option.some.inj h).symm⟩
theorem ok_are_numbers (T : Txt K mg) : Cal P w K mg base "are_numbers" 3 ["value"] (sp1 p_are_numbers) := by
  have G := ok_is_number (P := P) (w := w) (base := base) T
  refine T.f_are_numbers.cal sc_are_numbers (fun _ _ _ _ _ _ us hl => match us, hl with | [_], _ => rfl) len1 fun f cdv A outer s H vs Q E hr h => ?_
  obtain ⟨_, rfl, a, ns, rfl, ha, hl, hn, q⟩ := h
  refine ⟨_, pss_one (ps_ret (pe_and (pe_callB call_isi (by rfl) T.z_isinstance b_isinstance (pa_cons (pv 0) (pa_cons (pe_bltn (v := .ty "tuple") (by rfl) T.z_tuple b_tuple rfl) pa_nil)))
    (pe_one (pe_callB (cr_all rfl) (by rfl) T.z_all b_all (pa_cons
      (pe_lc (own := [("item", 1)]) (g := gName 1) (tt := tYes) rfl sc_are_numbers.nd (pi_tup (pv 0)) (blkOk_by (N := ["value", "item"]) (sc := defScope s_are_numbers) (by decide +kernel))
        (fun _ _ _ _ _ => pg_name (i := 1) sc_are_numbers.nd rfl (Or.inl rfl)) (fun _ _ _ _ _ => pts_nil)
        (fun _ _ _ _ _ => pe_cal G hr (by rfl) (pa_cons (pv 1) pa_nil))) pa_nil))))), ?_⟩
  refine ⟨_, rfl, _, _, _, _, true, rfl, .ty _, .base (.tup ha), kit_ty (by decide +kernel), true, rfl, ?_⟩
  refine iteT ?_
  refine ⟨_, rfl, a, rfl, ⟨_, .of ha⟩, fun D hD => lc_map walk_tup numOk (fun ys => stup (same_upd hD) (.of ha)) (fun i v N hv hN => ?_) ?_⟩
  · obtain ⟨n, hn', rfl⟩ := int_at hv
    refine ⟨rfl, _, rfl, _, rfl, n, rfl, ?_⟩
    exact lc_app (φ := numOk) hv (by rw [List.length_map]; omega) hN
  · refine ⟨D, ns.map (fun n => decide (0 ≤ n)), rfl, .of (by rw [upd_same, List.map_map, List.map_map]; rfl), ?_⟩
    rw [all_id_map, List.all_eq_true.mpr fun n h => decide_eq_true (hn n h)]
    exact q _ (same_upd hD)
/-! ### is_ascending -/
/-- texts, ints in order -/
def ltV : V → V → Prop
  | .str a, .str b => ltS a b
  | .int a, .int b => a < b
  | _, _ => False
def p_is_ascending (v : V) (H : Hp) (Q : VK) : Prop := ∃ (a : Addr) (xs : List V), v = .ref a ∧ SqT K H a xs ∧ xs.length ≤ 1000 ∧ (∀ (i : Nat) x y, xs[i]? = some x → xs[i + 1]? = some y → ltV x y) ∧ ∀ H', Same H H' → Q (.bl true) H'
theorem sc_is_ascending : FnScope ["items", "at"] ["items"] (defScope s_is_ascending) := ⟨rfl, rfl, rfl, by decide +kernel, rfl, by decide +kernel, by decide +kernel⟩
theorem ok_is_ascending (T : Txt K mg) : Cal P w K mg base "is_ascending" 1 ["items"] (sp1 (p_is_ascending (K := K))) := by
  refine T.f_is_ascending.cal sc_is_ascending (fun _ _ _ _ _ _ us hl => match us, hl with | [_], _ => rfl) len1 fun f cdv A outer s H vs Q E hr h => ?_
  obtain ⟨_, rfl, a, xs, rfl, ha, hl, hx, q⟩ := h
  refine ⟨_, pss_one (ps_ret (pe_callB (cr_all rfl) (by rfl) T.z_all b_all (pa_cons
      (pe_lc (own := [("at", 1)]) (g := gName 1) (tt := tYes) rfl sc_is_ascending.nd (pi_range1 (by rfl) T.z_range (pa_cons (pe_op op_sub (pe_callB call_len_seq (by rfl) T.z_len b_len (pa_cons (pv 0) pa_nil)) pe_int) pa_nil))
        (blkOk_by (N := ["items", "at"]) (sc := defScope s_is_ascending) (by decide +kernel))
        (fun _ _ _ _ _ => pg_name (i := 1) sc_is_ascending.nd rfl (Or.inl rfl)) (fun _ _ _ _ _ => pts_nil)
        (fun _ _ _ _ _ => pe_cmpR (op_lt.or op_lt_str) (pe_ix (r := rIxT K) ix_tup (pv 0) (pv 1) (fun _ _ => rfl)) (pe_ix (r := rIxT K) ix_tup (pv 0) (pe_op op_add (pv 1) pe_int) (fun _ _ => rfl)) (nomark _))) pa_nil))), ?_⟩
  refine ⟨_, rfl, a, xs, rfl, .inr ha, _, _, rfl, rfl, _, rfl, by omega, by omega, ?_⟩
  have ej : ((xs.length : Int) - 1).toNat = xs.length - 1 := by omega
  rw [ej]
  refine fun D hD => lc_map (xs := rangeV (xs.length - 1)) walk_rangeV (fun _ => .bl true) (fun _ => trivial) (fun i v N hv hN => ?_) ?_
  · have hi : i < xs.length - 1 := by
      have := (List.getElem?_eq_some_iff.mp hv).1
      rw [rangeV_len] at this
      exact this
    have hv2 := hv
    rw [rangeV_at hi] at hv2
    cases hv2
    have h1 : xs[i]? = some xs[i] := List.getElem?_eq_getElem (by omega)
    have h2 : xs[i + 1]? = some xs[i + 1] := List.getElem?_eq_getElem (by omega)
    have hlt := hx i _ _ h1 h2
    have hS : SqT K (upd H D (.lst (((rangeV (xs.length - 1)).take i).map fun _ => V.bl true))) a xs := stup (same_upd hD) ha
    refine ⟨rfl, _, rfl, _, rfl, a, xs, _, _, rfl, rfl, hS, atI_nat h1, _, rfl, _, rfl, _, _, rfl, rfl, a, xs, _, _, rfl, rfl, hS, atI_nat (j := i + 1) h2, ?_⟩
    have fin := lc_app (φ := fun _ => V.bl true) hv (by rw [rangeV_len]; omega) hN
    revert hlt
    cases xs[i] <;> cases xs[i + 1] <;> intro hlt <;> try exact hlt.elim
    · refine .inl ⟨_, _, rfl, rfl, ?_⟩
      dsimp only
      rw [decide_eq_true (show _ < _ from hlt)]
      exact fin
    · refine .inr ⟨_, _, rfl, rfl, ?_⟩
      have hlt' : ltCps _ _ = true := hlt
      rw [lt_cps] at hlt'
      dsimp only
      rw [show (decide ((_ : List Nat) < _)) = true from hlt']
      exact fin
  · refine ⟨D, (List.range (xs.length - 1)).map (fun _ => true), rfl, .of (by rw [upd_same]; unfold rangeV; rw [List.map_map, List.map_map]; rfl), ?_⟩
    rw [all_id_map, List.all_eq_true.mpr fun n h => rfl]
    exact q _ (same_upd hD)
/-! ### is_listing -/
/-- a lot of numbers below a bound -/
def p_is_listing (v b : V) (H : Hp) (Q : VK) : Prop := ∃ (a : Addr) (ns : List Int) (n : Int), v = .ref a ∧ b = .int n ∧ H a = some (.tup (ns.map V.int)) ∧ ns.length ≤ 1000 ∧ (∀ i ∈ ns, 0 ≤ i ∧ i < n) ∧ ns.Pairwise (· < ·) ∧ ∀ H', Same H H' → Q (.bl true) H'
theorem sc_is_listing : FnScope ["value", "bound", "item"] ["value", "bound"] (defScope s_is_listing) := ⟨rfl, rfl, rfl, by decide +kernel, rfl, by decide +kernel, by decide +kernel⟩
theorem ok_is_listing (T : Txt K mg) : Cal P w K mg base "is_listing" 4 ["value", "bound"] (sp2 p_is_listing) := by
  have G := ok_are_numbers (P := P) (w := w) (base := base) T
  have G2 := ok_is_ascending (P := P) (w := w) (base := base) T
  refine T.f_is_listing.cal sc_is_listing (fun _ _ _ _ _ _ us hl => match us, hl with | [_, _], _ => rfl) len2 fun f cdv A outer s H vs Q E hr h => ?_
  obtain ⟨_, _, rfl, a, ns, n, rfl, rfl, ha, hl, hn, hp, q⟩ := h
  refine ⟨_, pss_one (ps_ret (pe_and (pe_cal G hr (by rfl) (pa_cons (pv 0) pa_nil))
    (pe_and (pe_callB (cr_all rfl) (by rfl) T.z_all b_all (pa_cons
      (pe_lc (own := [("item", 2)]) (g := gName 2) (tt := tYes) rfl sc_is_listing.nd (pi_tup (pv 0)) (blkOk_by (N := ["value", "bound", "item"]) (sc := defScope s_is_listing) (by decide +kernel))
        (fun _ _ _ _ _ => pg_name (i := 2) sc_is_listing.nd rfl (Or.inl rfl)) (fun _ _ _ _ _ => pts_nil)
        (fun _ _ _ _ _ => pe_cmpR op_lt (pv 2) (pv 1) (nomark _))) pa_nil))
    (pe_one (pe_cal G2 (hr.mono (by decide)) (by rfl) (pa_cons (pv 0) pa_nil)))))), ?_⟩
  refine ⟨_, rfl, _, rfl, a, ns, rfl, ha, hl, fun i h => (hn i h).1, fun H1 sm => ⟨true, rfl, ?_⟩⟩
  have ha1 := sm _ _ ha
  refine iteT ?_
  refine ⟨_, rfl, a, rfl, ⟨_, .of ha1⟩, fun D hD => lc_map walk_tup (fun _ => .bl true) (fun ys => stup (same_upd hD) (.of ha1)) (fun i v N hv hN => ?_) ?_⟩
  · obtain ⟨m, hm, rfl⟩ := int_at hv
    refine ⟨rfl, _, rfl, _, rfl, _, _, rfl, rfl, ?_⟩
    dsimp only
    rw [decide_eq_true (hn m (List.mem_of_getElem? hm)).2]
    exact lc_app (φ := fun _ => V.bl true) hv (by rw [List.length_map]; omega) hN
  · refine ⟨D, ns.map (fun _ => true), rfl, .of (by rw [upd_same, List.map_map, List.map_map]; rfl), ?_⟩
    rw [all_id_map, List.all_eq_true.mpr fun n h => rfl]
    refine ⟨true, rfl, iteT ?_⟩
    have sm2 := sm.trans (same_upd (o := .lst ((ns.map V.int).map fun _ => V.bl true)) hD)
    refine ⟨_, rfl, _, rfl, a, ns.map V.int, rfl, .of (sm2 _ _ ha), by rw [List.length_map]; exact hl, fun i x y hx hy => ?_, fun H2 sm3 => q _ (sm2.trans sm3)⟩
    obtain ⟨m, hm, rfl⟩ := int_at hx
    obtain ⟨m2, hm2, rfl⟩ := int_at hy
    exact pw_next hp hm hm2
end
end K7
/-! ## K7W2 -/
set_option Elab.async false
set_option linter.all false
set_option maxRecDepth 100000
set_option maxHeartbeats 4000000
namespace K7
open PySem PySem.Spec PyProof.Rows L2
/-- how many signs of z stand at the head of l -/
def runL (z : Str) (l : List Nat) : Nat := (l.takeWhile fun c => decide (c ∈ TL.tl z)).length
theorem runL_le (z : Str) (l : List Nat) : runL z l ≤ l.length := takeWhile_le _ _
theorem runL_hit {z : Str} {c : Nat} {r : List Nat} (h : c ∈ TL.tl z) : runL z (c :: r) = runL z r + 1 := by
  unfold runL
  rw [List.takeWhile_cons, if_pos (decide_eq_true h)]
  rfl
theorem runL_miss {z : Str} {c : Nat} {r : List Nat} (h : ¬ c ∈ TL.tl z) : runL z (c :: r) = 0 := by
  unfold runL
  rw [List.takeWhile_cons, if_neg (by rw [decide_eq_false h]; exact Bool.false_ne_true)]
  rfl
theorem drop_at {l : List Nat} {n : Nat} (h : n < l.length) : l.drop n = l[n] :: l.drop (n + 1) := List.drop_eq_getElem_cons h
section
variable {P : Program} {w : World} {K : PySem.W.Frag} {mg : Str → Option Value} {base : Heap}
/-! ### run_end -/
def p_run_end (t a g : V) (H : Hp) (Q : VK) : Prop := ∃ (x z : Str) (n : Nat), t = .str x ∧ a = .int (n : Int) ∧ g = .str z ∧ n ≤ x.length ∧ x.length ≤ 100000 ∧ Q (.int ((n + runL z ((TL.tl x).drop n) : Nat) : Int)) H
theorem sc_run_end : FnScope ["text", "at", "signs"] ["text", "at", "signs"] (defScope s_run_end) := ⟨rfl, rfl, rfl, by decide +kernel, rfl, by decide +kernel, by decide +kernel⟩
theorem ok_run_end (T : Txt K mg) : Cal P w K mg base "run_end" 1 ["text", "at", "signs"] (sp3 p_run_end) := by
  refine T.f_run_end.cal sc_run_end (fun _ _ _ _ _ _ us hl => match us, hl with | [_, _, _], _ => rfl) len3 fun f cdv A outer s H vs Q E hr h => ?_
  obtain ⟨_, _, _, rfl, x, z, n, rfl, rfl, rfl, hn, hx, q⟩ := h
  refine ⟨_, pss_cons (ps_while PassesOwn.never (PW.pt (pw_and (pt_cmpR op_lt (pv 1) (pe_callB call_len_str (by rfl) T.z_len b_len (pa_cons (pv 0) pa_nil)) (nomark _))
      (pw_and1 (pt_cmpR op_in_sign (pe_ix ix_str (pv 0) (pv 1) (fun _ _ => rfl)) (pv 2) (by rfl)))))
      (pss_one (ps_set (i := 1) sc_run_end.nd rfl (.inl rfl) (pe_op op_add (pv 1) pe_int)))) (pss_one (ps_ret (pv 1))), ?_⟩
  have hxl : x.length = (TL.tl x).length := TL.len_tl x
  refine ⟨fun m σ H' => ∃ k : Nat, σ = [some (.str x), some (.int (k : Int)), some (.str z)] ∧ H' = H ∧ k ≤ x.length ∧ m = x.length - k ∧ k + runL z ((TL.tl x).drop k) = n + runL z ((TL.tl x).drop n), ⟨_, n, rfl, rfl, hn, rfl, rfl⟩, fun m σ H' hW => ?_⟩
  obtain ⟨k, rfl, rfl, hk, rfl, he⟩ := hW
  refine ⟨_, rfl, _, rfl, x, rfl, small' hx, _, _, rfl, rfl, _, rfl, ?_⟩
  by_cases hlt : k < x.length
  · rw [decide_eq_true (show (k : Int) < (x.length : Int) by omega)]
    refine iteT ?_
    have hk' : k < (TL.tl x).length := by omega
    refine ⟨_, rfl, _, rfl, x, _, (TL.tl x)[k], rfl, rfl, small' hx, atI_nat (List.getElem?_eq_getElem hk'), _, rfl, _, _, rfl, rfl, _, rfl, ?_⟩
    by_cases hin : (TL.tl x)[k] ∈ z.cps.toList
    · rw [decide_eq_true hin]
      refine iteT ⟨fun σ' H'' => ∃ m', m' < x.length - k ∧ ∃ k : Nat, σ' = [some (.str x), some (.int (k : Int)), some (.str z)] ∧ H'' = H' ∧ k ≤ x.length ∧ m' = x.length - k ∧ k + runL z ((TL.tl x).drop k) = n + runL z ((TL.tl x).drop n), fun σ' H'' h => h, ?_⟩
      refine ⟨_, rfl, _, _, rfl, rfl, x.length - (k + 1), by omega, k + 1, rfl, rfl, hlt, rfl, ?_⟩
      rw [drop_at hk', runL_hit hin] at he
      omega
    · rw [decide_eq_false hin]
      refine iteF ⟨_, rfl, ?_⟩
      rw [drop_at hk', runL_miss hin, Nat.add_zero] at he
      rw [← he] at q
      exact q
  · rw [decide_eq_false (show ¬ (k : Int) < (x.length : Int) by omega)]
    refine iteF (iteF ⟨_, rfl, ?_⟩)
    rw [List.drop_eq_nil_of_le (show (TL.tl x).length ≤ k by omega)] at he
    have e0 : runL z [] = 0 := rfl
    rw [e0, Nat.add_zero] at he
    rw [← he] at q
    exact q
/-! ### mark_at -/
def p_mark_at (t a : V) (H : Hp) (Q : VK) : Prop := ∃ (x : Str) (n : Nat), t = .str x ∧ a = .int (n : Int) ∧ n < x.length ∧ x.length ≤ 100000 ∧ Q (.str (S (((TL.tl x).drop n).take (mlen ((TL.tl x).drop n))))) H
theorem sc_mark_at : FnScope ["text", "at"] ["text", "at"] (defScope s_mark_at) := ⟨rfl, rfl, rfl, by decide +kernel, rfl, by decide +kernel, by decide +kernel⟩
theorem cutS_run {x : Str} {n k : Nat} (hk : n + k ≤ x.length) : cutS x (some (n : Int)) (some ((n + k : Nat) : Int)) = S (((TL.tl x).drop n).take k) := by
  unfold cutS
  rw [HT.sIx_nat, HT.sIx_nat, Nat.min_eq_left hk, Nat.min_eq_left (show n ≤ x.length by omega), Nat.add_sub_cancel_left]
theorem ok_mark_at (T : Txt K mg) : Cal P w K mg base "mark_at" 2 ["text", "at"] (sp2 p_mark_at) := by
  obtain ⟨tl_, hl_⟩ := T.letters
  obtain ⟨td_, hd_⟩ := T.digits
  have G := ok_run_end (P := P) (w := w) (base := base) T
  refine T.f_mark_at.cal sc_mark_at (fun _ _ _ _ _ _ us hl => match us, hl with | [_, _], _ => rfl) len2 fun f cdv A outer s H vs Q E hr h => ?_
  obtain ⟨_, _, rfl, x, n, rfl, rfl, hn, hx, q⟩ := h
  refine ⟨_, pss_cons (ps_if (pt_cmpR op_in_sign (pe_ix ix_str (pv 0) (pv 1) (fun _ _ => rfl)) (pe_glob (v := .str "abcdefghijklmnopqrstuvwxyz") (by rfl) hl_ ⟨_, rfl⟩) (by rfl))
      (pss_one (ps_ret (pe_slice sl_str (pv 0) (po_some (pv 1)) (po_some (pe_cal G hr (by rfl) (pa_cons (pv 0) (pa_cons (pv 1) (pa_cons (pe_glob (v := .str "abcdefghijklmnopqrstuvwxyz") (by rfl) hl_ ⟨_, rfl⟩) pa_nil)))))))) pss_nil)
    (pss_one (ps_ret (pe_ifExp (pt_cmpR op_in_sign (pe_ix ix_str (pv 0) (pv 1) (fun _ _ => rfl)) (pe_glob (v := .str "0123456789") (by rfl) hd_ ⟨_, rfl⟩) (by rfl))
      (pe_slice sl_str (pv 0) (po_some (pv 1)) (po_some (pe_cal G hr (by rfl) (pa_cons (pv 0) (pa_cons (pv 1) (pa_cons (pe_glob (v := .str "0123456789") (by rfl) hd_ ⟨_, rfl⟩) pa_nil))))))
      (pe_ix ix_str (pv 0) (pv 1) (fun _ _ => rfl))))), ?_⟩
  have hxl : x.length = (TL.tl x).length := TL.len_tl x
  have hn' : n < (TL.tl x).length := by omega
  have at_ : atI (TL.tl x) (n : Int) = some (TL.tl x)[n] := atI_nat (List.getElem?_eq_getElem hn')
  have lenL : ∀ z : Str, n + runL z ((TL.tl x).drop n) ≤ x.length := fun z => by
    have := runL_le z ((TL.tl x).drop n)
    rw [List.length_drop] at this
    omega
  have eL : (Str.ofString "abcdefghijklmnopqrstuvwxyz").cps.toList = letL := tl_letters
  have eD : (Str.ofString "0123456789").cps.toList = digL := tl_digits
  refine ⟨_, rfl, _, rfl, x, _, _, rfl, rfl, small' hx, at_, _, _, rfl, rfl, _, rfl, ?_⟩
  dsimp only
  rw [eL]
  by_cases h1 : isLet (TL.tl x)[n] = true
  · rw [show decide ((TL.tl x)[n] ∈ letL) = true from h1]
    refine iteT ⟨_, rfl, _, rfl, _, rfl, _, rfl, _, rfl, _, _, _, rfl, x, _, n, rfl, rfl, rfl, by omega, hx, _, rfl, x, rfl, small' hx, ?_⟩
    have e : mlen ((TL.tl x).drop n) = runL "abcdefghijklmnopqrstuvwxyz" ((TL.tl x).drop n) := by
      rw [drop_at hn', mlen_cons, if_pos h1]
      unfold runL
      rw [tl_letters]
      rfl
    rw [cutS_run (lenL _), ← e]
    exact q
  · rw [show decide ((TL.tl x)[n] ∈ letL) = false from by rw [Bool.not_eq_true] at h1; exact h1]
    refine iteF ?_
    refine ⟨_, rfl, _, rfl, x, _, _, rfl, rfl, small' hx, at_, _, _, rfl, rfl, _, rfl, ?_⟩
    dsimp only
    rw [eD]
    by_cases h2 : isDig (TL.tl x)[n] = true
    · rw [show decide ((TL.tl x)[n] ∈ digL) = true from h2]
      refine iteT ⟨_, rfl, _, rfl, _, rfl, _, rfl, _, rfl, _, _, _, rfl, x, _, n, rfl, rfl, rfl, by omega, hx, _, rfl, x, rfl, small' hx, ?_⟩
      have e : mlen ((TL.tl x).drop n) = runL "0123456789" ((TL.tl x).drop n) := by
        rw [drop_at hn', mlen_cons, if_neg h1, if_pos h2]
        unfold runL
        rw [tl_digits]
        rfl
      rw [cutS_run (lenL _), ← e]
      exact q
    · rw [show decide ((TL.tl x)[n] ∈ digL) = false from by rw [Bool.not_eq_true] at h2; exact h2]
      refine iteF ⟨_, rfl, _, rfl, x, _, _, rfl, rfl, small' hx, at_, ?_⟩
      have e : ((TL.tl x).drop n).take (mlen ((TL.tl x).drop n)) = [(TL.tl x)[n]] := by
        rw [drop_at hn', mlen_cons, if_neg h1, if_neg h2]
        rfl
      rw [e] at q
      exact q
/-! ### marks_of -/
/-- a mark, with its line and place -/
def MarkAt (H : Hp) (r : V) (m : Str) : Prop := ∃ a l c, r = .ref a ∧ H a = some (.tup [l, c, .str m])
theorem MarkAt.keep {H H' : Hp} (k : ∀ a xs, H a = some (.tup xs) → H' a = some (.tup xs)) {r : V} {m : Str} (h : MarkAt H r m) : MarkAt H' r m :=
  let ⟨a, l, c, e, u⟩ := h; ⟨a, l, c, e, k _ _ u⟩
def p_marks_of (t : V) (H : Hp) (Q : VK) : Prop := ∃ x : Str, t = .str x ∧ x.length ≤ 100000 ∧ ∀ H' p rs, Same H H' → H p = none → H' p = some (.tup rs) → All2 (MarkAt H') rs (marks x) → Q (.ref p) H'
theorem sc_marks_of : FnScope ["text", "found", "line", "start", "at", "mark"] ["text"] (defScope s_marks_of) := ⟨rfl, rfl, rfl, by decide +kernel, rfl, by decide +kernel, by decide +kernel⟩
theorem lex_step {l : List Nat} {n : Nat} (h : n < l.length) : (lex (l.drop n)).map S = (if (l.drop n).take (mlen (l.drop n)) = [32] then [] else [S ((l.drop n).take (mlen (l.drop n)))]) ++ (lex (l.drop (n + mlen (l.drop n)))).map S := by
  have e := lex_cons l[n] (l.drop (n + 1))
  rw [← drop_at h, List.drop_drop] at e
  rw [e, List.map_append]
  congr 1
  split <;> rfl
theorem ok_marks_of (T : Txt K mg) : Cal P w K mg base "marks_of" 3 ["text"] (sp1 p_marks_of) := by
  have G := ok_mark_at (P := P) (w := w) (base := base) T
  refine T.f_marks_of.cal sc_marks_of (fun _ _ _ _ _ _ us hl => match us, hl with | [_], _ => rfl) len1 fun f cdv A outer s H vs Q E hr h => ?_
  obtain ⟨_, rfl, x, rfl, hx, q⟩ := h
  have nd := sc_marks_of.nd
  refine ⟨_, pss_cons (ps_asg (pe_tup (pa_cons (pe_lst pa_nil) (pa_cons pe_int (pa_cons pe_int (pa_cons pe_int pa_nil)))))
      (pg_tup rfl (pgs_cons (pg_name (i := 1) nd rfl (.inl rfl)) (pgs_cons (pg_name (i := 2) nd rfl (.inl rfl)) (pgs_cons (pg_name (i := 3) nd rfl (.inl rfl)) (pgs_cons (pg_name (i := 4) nd rfl (.inl rfl)) pgs_nil))))))
    (pss_cons (ps_while PassesOwn.never (pt_cmpR op_lt (pv 4) (pe_callB call_len_str (by rfl) T.z_len b_len (pa_cons (pv 0) pa_nil)) (nomark _))
      (pss_cons (ps_set (i := 5) nd rfl (.inl rfl) (pe_cal G hr (by rfl) (pa_cons (pv 0) (pa_cons (pv 4) pa_nil))))
      (pss_cons (ps_if (pt_cmpR op_ne (pv 5) pe_str (nomark _))
        (pss_one (ps_expr (pe_bm PySem.F.plainAttrs_list PySem.F.slot_list_append PySem.F.type_list_append mt_append (pv 1) (pa_cons (pe_tup (pa_cons (pv 2) (pa_cons (pe_op op_sub (pv 4) (pv 3)) (pa_cons (pv 5) pa_nil)))) pa_nil)))) pss_nil)
      (pss_cons (ps_set (i := 4) nd rfl (.inl rfl) (pe_op op_add (pv 4) (pe_callB call_len_str (by rfl) T.z_len b_len (pa_cons (pv 5) pa_nil))))
      (pss_one (ps_if (pt_cmpR op_eq (pv 5) pe_str (nomark _)) (pss_one (ps_par (i := 2) (j := 3) (by rfl) nd rfl rfl (by decide) rfl rfl (pa_cons (pe_op op_add (pv 2) pe_int) (pa_cons (pv 4) pa_nil)) (by rfl))) pss_nil))))))
    (pss_one (ps_ret (pe_callTy call_tuple_of (by rfl) T.z_tuple b_tuple (pa_cons (pv 1) pa_nil))))), ?_⟩
  have hxl : x.length = (TL.tl x).length := TL.len_tl x
  refine ⟨Nat.zero_le _, fun o no => ⟨(by show 4 ≤ sizeLine; decide), fun p np => ?_⟩⟩
  have npo : o ≠ p := fun e => by
    rw [← e, upd_same] at np
    cases np
  refine ⟨p, _, rfl, .of upd_same, rfl, _, _, rfl, _, _, rfl, _, _, rfl, _, _, rfl, rfl, ?_⟩
  refine ⟨fun m σ H' => ∃ (rs : List V) (done : List Str) (ln st : Int) (n : Nat) (mk : Option V), σ = [some (.str x), some (.ref o), some (.int ln), some (.int st), some (.int (n : Int)), mk] ∧ Same H H' ∧ H' o = some (.lst rs) ∧ All2 (MarkAt H') rs done ∧ n ≤ x.length ∧ m = x.length - n ∧
    done ++ (lex ((TL.tl x).drop n)).map S = marks x, ⟨_, [], [], 0, 0, 0, none, rfl, (same_upd no).trans (same_upd np), ?_, All2.nil, Nat.zero_le _, rfl, rfl⟩, fun m σ H' hW => ?_⟩
  · rw [upd_ne npo, upd_same]
  obtain ⟨rs, done, ln, st, n, mk, rfl, sm, ho, hall, hn, rfl, he⟩ := hW
  have hdl : done.length ≤ 100000 := by
    have h1 := congrArg List.length he
    rw [List.length_append] at h1
    have := marks_len x
    omega
  refine ⟨_, rfl, _, rfl, x, rfl, small' hx, _, _, rfl, rfl, _, rfl, ?_⟩
  by_cases hlt : n < x.length
  · rw [decide_eq_true (show (n : Int) < (x.length : Int) by omega)]
    have hn' : n < (TL.tl x).length := by omega
    refine iteT ⟨fun σ' H'' => ∃ m', m' < x.length - n ∧ ∃ (rs : List V) (done : List Str) (ln st : Int) (n : Nat) (mk : Option V), σ' = [some (.str x), some (.ref o), some (.int ln), some (.int st), some (.int (n : Int)), mk] ∧ Same H H'' ∧ H'' o = some (.lst rs) ∧ All2 (MarkAt H'') rs done ∧ n ≤ x.length ∧ m' = x.length - n ∧
      done ++ (lex ((TL.tl x).drop n)).map S = marks x, fun σ' H'' h => h, ?_⟩
    -- mark = mark_at(text, at)
    have hm1 : 0 < mlen ((TL.tl x).drop n) := by
      rw [drop_at hn']
      exact mlen_pos _ _
    have hm2 : n + mlen ((TL.tl x).drop n) ≤ x.length := by
      have := mlen_le ((TL.tl x).drop n)
      rw [List.length_drop] at this
      omega
    have hml : (S (((TL.tl x).drop n).take (mlen ((TL.tl x).drop n)))).length = mlen ((TL.tl x).drop n) := by
      rw [len_S, List.length_take, Nat.min_eq_left (mlen_le _)]
    refine ⟨_, rfl, _, rfl, _, _, rfl, x, n, rfl, rfl, hlt, hx, ?_⟩
    generalize hM : S (((TL.tl x).drop n).take (mlen ((TL.tl x).drop n))) = M at hml ⊢
    have hst := lex_step hn'
    rw [hM] at hst
    have hb : (((TL.tl x).drop n).take (mlen ((TL.tl x).drop n)) = [32]) ↔ M = (" " : Str) := by
      rw [← hM, S_eq, show TL.tl (" " : Str) = [32] by decide +kernel]
    -- what follows: at = at + len(mark); if mark == newline
    have rest : ∀ (rs' : List V) (done' : List Str) (H2 : Hp), Same H H2 → H2 o = some (.lst rs') → All2 (MarkAt H2) rs' done' → done' ++ (lex ((TL.tl x).drop (n + mlen ((TL.tl x).drop n)))).map S = marks x →
        ∀ (ln' st' : Int), ∃ m', m' < x.length - n ∧ ∃ (rs : List V) (done : List Str) (ln st : Int) (n' : Nat) (mk : Option V), [some (V.str x), some (V.ref o), some (V.int ln'), some (V.int st'), some (V.int ((n : Int) + (mlen ((TL.tl x).drop n) : Nat))), some (V.str M)] = [some (.str x), some (.ref o), some (.int ln), some (.int st), some (.int (n' : Int)), mk] ∧ Same H H2 ∧ H2 o = some (.lst rs) ∧ All2 (MarkAt H2) rs done ∧ n' ≤ x.length ∧ m' = x.length - n' ∧
      done ++ (lex ((TL.tl x).drop n')).map S = marks x := fun rs' done' H2 sm2 ho2 ha2 he2 ln' st' =>
      ⟨x.length - (n + mlen ((TL.tl x).drop n)), by omega, rs', done', ln', st', n + mlen ((TL.tl x).drop n), _, by rw [Int.natCast_add], sm2, ho2, ha2, hm2, rfl, he2⟩
    have tail : ∀ (rs' : List V) (done' : List Str) (H2 : Hp), Same H H2 → H2 o = some (.lst rs') → All2 (MarkAt H2) rs' done' → done' ++ (lex ((TL.tl x).drop (n + mlen ((TL.tl x).drop n)))).map S = marks x → _ := fun rs' done' H2 sm2 ho2 ha2 he2 => rest rs' done' H2 sm2 ho2 ha2 he2
    refine ⟨_, rfl, rfl, _, rfl, ?_⟩
    by_cases hbl : M = (" " : Str)
    · rw [decide_eq_true (congrArg V.str hbl)]
      rw [if_pos (hb.mpr hbl), List.nil_append] at hst
      rw [hst] at he
      refine iteF ?_
      refine ⟨_, rfl, _, rfl, _, rfl, by rw [hml]; exact small' (by omega), _, _, rfl, rfl, ?_⟩
      rw [hml]
      refine ⟨_, rfl, rfl, _, rfl, ite2 (fun _ => ?_) (fun _ => ?_)⟩
      · exact ⟨_, rfl, _, _, rfl, rfl, _, rfl, _, _, rfl, tail rs done H' sm ho hall he _ _⟩
      · exact tail rs done H' sm ho hall he _ _
    · rw [decide_eq_false (fun z => hbl (V.str.inj z))]
      rw [if_neg (fun z => hbl (hb.mp z))] at hst
      rw [hst, ← List.append_assoc] at he
      refine iteT ?_
      -- found.append((line, at - start, mark))
      refine ⟨_, rfl, .inl ⟨rfl, _, .of ho⟩, _, rfl, _, rfl, _, rfl, _, _, rfl, rfl, _, rfl, (by show 3 ≤ sizeLine; decide), fun a na => ?_⟩
      have noa : o ≠ a := ne_of_none ho na
      have ho2 : (upd H' a (.tup [.int ln, .int ((n : Int) - st), .str M])) o = some (.lst rs) := by
        rw [upd_ne noa]
        exact ho
      refine ⟨o, rs, _, rfl, rfl, ho2, small (by rw [hall.1]; exact hdl), ?_⟩
      have kp : ∀ b xs, H' b = some (.tup xs) → (upd (upd H' a (.tup [.int ln, .int ((n : Int) - st), .str M])) o (.lst (rs ++ [V.ref a]))) b = some (.tup xs) := fun b xs e => by
        rw [upd_ne (ne_of e ho (by intro z; cases z)), upd_ne (ne_of_none e na)]
        exact e
      have ha3 : (upd (upd H' a (.tup [.int ln, .int ((n : Int) - st), .str M])) o (.lst (rs ++ [V.ref a]))) a = some (.tup [.int ln, .int ((n : Int) - st), .str M]) := by
        rw [upd_ne noa.symm, upd_same]
      have sm2 : Same H (upd (upd H' a (.tup [.int ln, .int ((n : Int) - st), .str M])) o (.lst (rs ++ [V.ref a]))) := fun b u e => by
        rw [upd_ne (ne_of_none e no), upd_ne (ne_of_none (sm _ _ e) na)]
        exact sm _ _ e
      have hall2 := (hall.mono fun r m h => MarkAt.keep kp h).snoc (x := V.ref a) (y := M) ⟨a, _, _, rfl, ha3⟩
      refine ⟨_, rfl, _, rfl, _, rfl, by rw [hml]; exact small' (by omega), _, _, rfl, rfl, ?_⟩
      rw [hml]
      refine ⟨_, rfl, rfl, _, rfl, ite2 (fun _ => ?_) (fun _ => ?_)⟩
      · exact ⟨_, rfl, _, _, rfl, rfl, _, rfl, _, _, rfl, tail _ _ _ sm2 upd_same hall2 he _ _⟩
      · exact tail _ _ _ sm2 upd_same hall2 he _ _
  · rw [decide_eq_false (show ¬ (n : Int) < (x.length : Int) by omega)]
    refine iteF ?_
    rw [List.drop_eq_nil_of_le (show (TL.tl x).length ≤ n by omega), lex_nil, List.map_nil, List.append_nil] at he
    rw [he] at hall
    refine ⟨_, rfl, o, rs, rfl, .inl ⟨.of ho, fun p' np' => ?_⟩⟩
    refine q _ p' rs (sm.trans (same_upd np')) (sm.free np') upd_same (hall.mono fun r m h => MarkAt.keep (fun b xs e => same_upd np' _ _ e) h)
end
end K7
/-! ## K7W3 -/
set_option Elab.async false
set_option linter.all false
set_option maxRecDepth 100000
set_option maxHeartbeats 4000000
namespace K7
open PySem PySem.Spec PyProof.Rows L2
theorem numL_head : ∀ (n : Nat) (c : Nat) (r : List Nat), TL.numL n = c :: r → c = 48 → n = 0 := by
  intro n
  induction n using Nat.strongRecOn with
  | ind n ih =>
    intro c r h hc
    by_cases h10 : n < 10
    · rw [TL.numL_lt h10] at h
      injection h with h _
      omega
    · rw [TL.numL_step (by omega)] at h
      cases e : TL.numL (n / 10) with
      | nil => exact absurd e (TL.numL_ne _)
      | cons d r' =>
        rw [e] at h
        injection h with h _
        have := ih (n / 10) (by omega) d r' e (h.trans hc)
        omega
theorem S_num (n : Nat) : S (TL.numL n) = Str.ofString (toString ((n : Nat) : Int)) := TL.ext_tl (TL.tl_num n).symm
section
variable {P : Program} {w : World} {K : PySem.W.Frag} {mg : Str → Option Value} {base : Heap}
/-! ### numeral_of -/
def p_numeral_of (m b : V) (H : Hp) (Q : VK) : Prop := ∃ n : Nat, m = .str (S (TL.numL n)) ∧ b = .int 1000000 ∧ n ≤ 1000000 ∧ Q (.int (n : Int)) H
theorem sc_numeral_of : FnScope ["mark", "most"] ["mark", "most"] (defScope s_numeral_of) := ⟨rfl, rfl, rfl, by decide +kernel, rfl, by decide +kernel, by decide +kernel⟩
theorem ok_numeral_of (T : Txt K mg) : Cal P w K mg base "numeral_of" 1 ["mark", "most"] (sp2 p_numeral_of) := by
  obtain ⟨td_, hd_⟩ := T.digits
  refine T.f_numeral_of.cal sc_numeral_of (fun _ _ _ _ _ _ us hl => match us, hl with | [_, _], _ => rfl) len2 fun f cdv A outer s H vs Q E hr h => ?_
  obtain ⟨_, _, rfl, n, rfl, rfl, hn, q⟩ := h
  refine ⟨_, pss_cons (ps_if (PW.pt (pw_or (pt_cmpR op_notIn_sign (pe_ix ix_str (pv 0) pe_int (fun _ _ => rfl)) (pe_glob (v := .str "0123456789") (by rfl) hd_ ⟨_, rfl⟩) (by rfl))
      (pw_or (pt_cmpR op_gt (pe_callB call_len_str (by rfl) T.z_len b_len (pa_cons (pv 0) pa_nil)) (pe_callB call_len_str (by rfl) T.z_len b_len (pa_cons (pe_callTy call_str_int (by rfl) T.z_str b_str (pa_cons (pv 1) pa_nil)) pa_nil)) (nomark _))
      (pw_or1 (PW.pt (pw_and (pt_cmpR op_eq (pe_ix ix_str (pv 0) pe_int (fun _ _ => rfl)) pe_str (nomark _)) (pw_and1 (pt_cmpR op_ne (pv 0) pe_str (nomark _)))))))))
      (pss_one (ps_ret pe_non)) pss_nil)
    (pss_one (ps_ret (pe_ifExp (pt_cmpR op_le (pe_callTy call_int_str (by rfl) T.z_int b_int (pa_cons (pv 0) pa_nil)) (pv 1) (nomark _)) (pe_callTy call_int_str (by rfl) T.z_int b_int (pa_cons (pv 0) pa_nil)) pe_non))), ?_⟩
  have hlen : (S (TL.numL n)).length = (TL.numL n).length := len_S _
  have h7 : (TL.numL n).length ≤ 7 := num_len hn
  obtain ⟨c, r, hc⟩ : ∃ c r, TL.numL n = c :: r := by
    cases e : TL.numL n with
    | nil => exact absurd e (TL.numL_ne n)
    | cons c r => exact ⟨c, r, rfl⟩
  have hat : atI (S (TL.numL n)).cps.toList 0 = some c := by
    rw [show (S (TL.numL n)).cps.toList = TL.numL n from rfl, hc]
    exact atI_nat (j := 0) rfl
  have hdig : c ∈ (Str.ofString "0123456789").cps.toList := by
    rw [show (Str.ofString "0123456789").cps.toList = digL from tl_digits]
    have := numL_dig n c (by rw [hc]; exact List.mem_cons_self)
    exact of_decide_eq_true this
  have hint : PySem.intText? (S (TL.numL n)) = some (n : Int) := by
    rw [S_num]
    exact TL.int_num (by omega)
  refine ⟨_, rfl, _, _, c, rfl, rfl, by rw [hlen]; exact small' (by omega), hat, c, _, rfl, rfl, _, rfl, ?_⟩
  dsimp only
  rw [decide_eq_true hdig]
  refine iteF ?_
  refine ⟨_, rfl, _, rfl, by rw [hlen]; exact small' (by omega), _, rfl, 1000000, rfl, by decide, _, rfl, by decide +kernel, _, _, rfl, rfl, _, rfl, ?_⟩
  have e7 : (Str.ofString (toString (1000000 : Int))).length = 7 := by decide +kernel
  rw [decide_eq_false (by rw [hlen, e7]; omega)]
  refine iteF ?_
  refine ⟨_, rfl, _, _, c, rfl, rfl, by rw [hlen]; exact small' (by omega), hat, rfl, _, rfl, ?_⟩
  have fin : ∃ v : V, [some (V.str (S (TL.numL n))), some (V.int 1000000)][0]? = some (some v) ∧ ∃ a m, [v] = [V.str a] ∧ PySem.intText? a = some m ∧ a.length ≤ 640 ∧ ∃ x : V, [some (V.str (S (TL.numL n))), some (V.int 1000000)][1]? = some (some x) ∧ True := ⟨_, rfl, _, _, rfl, hint, by rw [hlen]; omega, _, rfl, trivial⟩
  have last : tRet (tIf (tTest (tOp (rI0 fun i j => .bl (decide (i ≤ j))) (tCB (fun xs H Q => ∃ a n, xs = [.str a] ∧ PySem.intText? a = some n ∧ a.length ≤ 640 ∧ Q (.int n) H) (tCons (tVar 0) tNil)) (tVar 1))) (tCB (fun xs H Q => ∃ a n, xs = [.str a] ∧ PySem.intText? a = some n ∧ a.length ≤ 640 ∧ Q (.int n) H) (tCons (tVar 0) tNil)) (tC .non))
      { nx := fun _ H' => Q .non H', rt := Q } [some (V.str (S (TL.numL n))), some (V.int 1000000)] H := by
    refine ⟨_, rfl, _, _, rfl, hint, by rw [hlen]; omega, _, rfl, _, _, rfl, rfl, _, rfl, ?_⟩
    rw [decide_eq_true (show (n : Int) ≤ 1000000 by omega)]
    exact iteT ⟨_, rfl, _, _, rfl, hint, by rw [hlen]; omega, q⟩
  by_cases h0 : c = 48
  · have hn0 := numL_head n c r hc h0
    subst hn0
    have e0 : S (TL.numL 0) = ("0" : Str) := by decide +kernel
    subst h0
    rw [decide_eq_true (show V.str ⟨#[48]⟩ = V.str "0" by decide +kernel)]
    refine iteT ⟨_, rfl, rfl, _, rfl, ?_⟩
    rw [e0] at last ⊢
    rw [decide_eq_true rfl]
    exact iteF last
  · rw [decide_eq_false (fun z => h0 (by
      have e1 := V.str.inj z
      have e2 : (⟨#[c]⟩ : Str) = S [c] := rfl
      rw [e2, S_eq, show TL.tl ("0" : Str) = [48] by decide +kernel] at e1
      injection e1))]
    exact iteF (iteF last)
/-! ### common_divisor -/
def p_common_divisor (a b : V) (H : Hp) (Q : VK) : Prop := ∃ m n : Nat, a = .int (m : Int) ∧ b = .int (n : Int) ∧ Q (.int ((Nat.gcd m n : Nat) : Int)) H
theorem sc_common_divisor : FnScope ["one", "other"] ["one", "other"] (defScope s_common_divisor) := ⟨rfl, rfl, rfl, by decide +kernel, rfl, by decide +kernel, by decide +kernel⟩
theorem ok_common_divisor (T : Txt K mg) : Cal P w K mg base "common_divisor" 1 ["one", "other"] (sp2 p_common_divisor) := by
  refine T.f_common_divisor.cal sc_common_divisor (fun _ _ _ _ _ _ us hl => match us, hl with | [_, _], _ => rfl) len2 fun f cdv A outer s H vs Q E hr h => ?_
  obtain ⟨_, _, rfl, m0, n0, rfl, rfl, q⟩ := h
  have nd := sc_common_divisor.nd
  refine ⟨_, pss_cons (ps_while PassesOwn.never (pt_cmpR op_ne (pv 1) pe_int (nomark _))
      (pss_one (ps_par (i := 0) (j := 1) (by rfl) nd rfl rfl (by decide) rfl rfl (pa_cons (pv 1) (pa_cons (pe_op op_mod (pv 0) (pv 1)) pa_nil)) (by rfl))))
    (pss_one (ps_ret (pv 0))), ?_⟩
  refine ⟨fun k σ H' => ∃ m n : Nat, σ = [some (.int (m : Int)), some (.int (n : Int))] ∧ H' = H ∧ k = n ∧ Nat.gcd m n = Nat.gcd m0 n0, ⟨_, m0, n0, rfl, rfl, rfl, rfl⟩, fun k σ H' hW => ?_⟩
  obtain ⟨m, n, rfl, rfl, rfl, hg⟩ := hW
  refine ⟨_, rfl, rfl, _, rfl, ?_⟩
  by_cases h0 : k = 0
  · subst h0
    rw [decide_eq_true (show V.int ((0 : Nat) : Int) = V.int 0 from rfl)]
    refine iteF ⟨_, rfl, ?_⟩
    rw [Nat.gcd_zero_right] at hg
    rw [← hg] at q
    exact q
  · rw [decide_eq_false (fun z => h0 (by have := V.int.inj z; omega))]
    refine iteT ⟨fun σ' H'' => ∃ k', k' < k ∧ ∃ m n : Nat, σ' = [some (.int (m : Int)), some (.int (n : Int))] ∧ H'' = H' ∧ k' = n ∧ Nat.gcd m n = Nat.gcd m0 n0, fun σ' H'' h => h, ?_⟩
    have hp : 0 < k := Nat.pos_of_ne_zero h0
    refine ⟨_, rfl, _, rfl, _, rfl, _, _, rfl, rfl, (by show (0 : Int) < (k : Int); omega), _, _, rfl, m % k, Nat.mod_lt _ hp, k, m % k, ?_, rfl, rfl, ?_⟩
    · rw [Int.natCast_emod]
      rfl
    · rw [gcd_step, hg]
/-! ### fraction_of -/
def p_fraction_of (a b : V) (H : Hp) (Q : VK) : Prop := ∃ (t : Int) (n : Nat), a = .int t ∧ b = .int (n : Int) ∧ 0 < n ∧ Nat.gcd t.natAbs n = 1 ∧ ∀ p, H p = none → Q (.ref p) (upd H p (.tup [.int t, .int (n : Int)]))
theorem sc_fraction_of : FnScope ["top", "bottom", "most"] ["top", "bottom"] (defScope s_fraction_of) := ⟨rfl, rfl, rfl, by decide +kernel, rfl, by decide +kernel, by decide +kernel⟩
theorem ok_fraction_of (T : Txt K mg) : Cal P w K mg base "fraction_of" 2 ["top", "bottom"] (sp2 p_fraction_of) := by
  have G := ok_common_divisor (P := P) (w := w) (base := base) T
  refine T.f_fraction_of.cal sc_fraction_of (fun _ _ _ _ _ _ us hl => match us, hl with | [_, _], _ => rfl) len2 fun f cdv A outer s H vs Q E hr h => ?_
  obtain ⟨_, _, rfl, t, n, rfl, rfl, hn, hg, q⟩ := h
  have nd := sc_fraction_of.nd
  refine ⟨_, pss_cons (ps_if (pt_cmpR op_eq (pv 1) pe_int (nomark _)) pss_never pss_nil)
    (pss_cons (ps_set (i := 2) nd rfl (.inl rfl) (pe_cal G hr (by rfl) (pa_cons (pe_callB call_abs (by rfl) T.z_abs b_abs (pa_cons (pv 0) pa_nil)) (pa_cons (pe_callB call_abs (by rfl) T.z_abs b_abs (pa_cons (pv 1) pa_nil)) pa_nil))))
    (pss_cons (ps_if (pt_cmpR op_lt (pv 1) pe_int (nomark _)) pss_never pss_nil)
    (pss_one (ps_ret (pe_tup (pa_cons (pe_op op_fdiv (pv 0) (pv 2)) (pa_cons (pe_op op_fdiv (pv 1) (pv 2)) pa_nil))))))), ?_⟩
  refine ⟨_, rfl, rfl, _, rfl, ?_⟩
  rw [decide_eq_false (fun z => by have := V.int.inj z; omega)]
  refine iteF ?_
  have ea : (if t < 0 then -t else t) = ((t.natAbs : Nat) : Int) := by split <;> omega
  have eb : (if (n : Int) < 0 then -(n : Int) else (n : Int)) = (n : Int) := if_neg (by omega)
  refine ⟨_, rfl, _, rfl, _, rfl, _, rfl, _, _, rfl, t.natAbs, n, congrArg V.int ea, congrArg V.int eb, ?_⟩
  · rw [hg]
    refine ⟨_, rfl, _, _, rfl, rfl, _, rfl, ?_⟩
    rw [decide_eq_false (by omega)]
    refine iteF ?_
    refine ⟨_, rfl, _, rfl, _, _, rfl, rfl, ⟨by decide, by decide⟩, _, rfl, _, rfl, _, _, rfl, rfl, ⟨by decide, by decide⟩, (by show 2 ≤ sizeLine; decide), fun p hp => ?_⟩
    have e1 : t / ((1 : Nat) : Int) = t := Int.ediv_one t
    have e2 : (n : Int) / ((1 : Nat) : Int) = n := Int.ediv_one _
    dsimp only
    rw [e1, e2]
    exact q p hp
/-! ### floor_of, ceiling_of -/
def p_floor_of (a : V) (H : Hp) (Q : VK) : Prop := ∃ (p : Addr) (t : Int) (n : Nat), a = .ref p ∧ SqT K H p [.int t, .int (n : Int)] ∧ 0 < n ∧ n ≤ 1000000 ∧ Q (.int (flo t n)) H
theorem sc_floor_of : FnScope ["one"] ["one"] (defScope s_floor_of) := ⟨rfl, rfl, rfl, by decide +kernel, rfl, by decide +kernel, by decide +kernel⟩
theorem ok_floor_of (T : Txt K mg) : Cal P w K mg base "floor_of" 1 ["one"] (sp1 (p_floor_of (K := K))) := by
  refine T.f_floor_of.cal sc_floor_of (fun _ _ _ _ _ _ us hl => match us, hl with | [_], _ => rfl) len1 fun f cdv A outer s H vs Q E hr h => ?_
  obtain ⟨_, rfl, p, t, n, rfl, hp, h0, h1, q⟩ := h
  refine ⟨_, pss_one (ps_ret (pe_op op_fdiv (pe_ix ix_tup (pv 0) pe_int (fun _ _ => rfl)) (pe_ix ix_tup (pv 0) pe_int (fun _ _ => rfl)))), ?_⟩
  exact ⟨_, rfl, p, _, 0, _, rfl, rfl, hp, atI_nat (j := 0) rfl, _, rfl, p, _, 1, _, rfl, rfl, hp, atI_nat (j := 1) rfl, _, _, rfl, rfl, ⟨by omega, by omega⟩, q⟩
def p_ceiling_of (a : V) (H : Hp) (Q : VK) : Prop := ∃ (p : Addr) (t : Int) (n : Nat), a = .ref p ∧ SqT K H p [.int t, .int (n : Int)] ∧ 0 < n ∧ n ≤ 1000000 ∧ Q (.int (cei t n)) H
theorem sc_ceiling_of : FnScope ["one"] ["one"] (defScope s_ceiling_of) := ⟨rfl, rfl, rfl, by decide +kernel, rfl, by decide +kernel, by decide +kernel⟩
theorem ok_ceiling_of (T : Txt K mg) : Cal P w K mg base "ceiling_of" 1 ["one"] (sp1 (p_ceiling_of (K := K))) := by
  refine T.f_ceiling_of.cal sc_ceiling_of (fun _ _ _ _ _ _ us hl => match us, hl with | [_], _ => rfl) len1 fun f cdv A outer s H vs Q E hr h => ?_
  obtain ⟨_, rfl, p, t, n, rfl, hp, h0, h1, q⟩ := h
  refine ⟨_, pss_one (ps_ret (pe_un un_neg (pe_op op_fdiv (pe_un un_neg (pe_ix ix_tup (pv 0) pe_int (fun _ _ => rfl))) (pe_ix ix_tup (pv 0) pe_int (fun _ _ => rfl))))), ?_⟩
  exact ⟨_, rfl, p, _, 0, _, rfl, rfl, hp, atI_nat (j := 0) rfl, _, rfl, _, rfl, p, _, 1, _, rfl, rfl, hp, atI_nat (j := 1) rfl, _, _, rfl, rfl, ⟨by omega, by omega⟩, _, rfl, q⟩
end
end K7
/-! ## K7W4 -/
set_option Elab.async false
set_option linter.all false
set_option maxRecDepth 100000
set_option maxHeartbeats 4000000
namespace K7
open PySem PySem.Spec PyProof.Rows L2
/-- all but the object at p -/
def But (p : Addr) (H H' : Hp) : Prop := ∀ b o, H b = some o → b ≠ p → H' b = some o
theorem But.upd {p : Addr} {H : Hp} {o : HO} : But p H (upd H p o) := fun b u e h => by
  rw [upd_ne h]
  exact e
theorem But.trans {p : Addr} {H H1 H2 : Hp} (a : But p H H1) (b : But p H1 H2) : But p H H2 := fun c o e h => b c o (a c o e h) h
theorem But.same {p : Addr} {H H' : Hp} (a : Same H H') : But p H H' := fun c o e _ => a c o e
/-! ### a FractionText -/
def fF (s : FSt) : List (Str × V) := [("stage", .str s.st.str), ("sign", .int s.sg), ("top", .int (s.tp : Int)), ("bottom", .int (s.bt : Int))]
theorem fF_stage (s : FSt) : (fF s).lookup ("stage" : Str) = some (.str s.st.str) := by kernel_rfl
theorem fF_sign (s : FSt) : (fF s).lookup ("sign" : Str) = some (.int s.sg) := by kernel_rfl
theorem fF_top (s : FSt) : (fF s).lookup ("top" : Str) = some (.int (s.tp : Int)) := by kernel_rfl
theorem fF_bottom (s : FSt) : (fF s).lookup ("bottom" : Str) = some (.int (s.bt : Int)) := by kernel_rfl
theorem fF_m1 (s : FSt) : (fF s).lookup ("take_number" : Str) = none := by kernel_rfl
theorem fF_m2 (s : FSt) : (fF s).lookup ("take" : Str) = none := by kernel_rfl
theorem fF_m3 (s : FSt) : (fF s).lookup ("ends" : Str) = none := by kernel_rfl
theorem fF_m4 (s : FSt) : (fF s).lookup ("told" : Str) = none := by kernel_rfl
theorem fF_pstage (s : FSt) (x : FS) : putF "stage" (.str x.str) (fF s) = fF ⟨x, s.sg, s.tp, s.bt⟩ := by kernel_rfl
theorem fF_psign (s : FSt) (i : Int) : putF "sign" (.int i) (fF s) = fF ⟨s.st, i, s.tp, s.bt⟩ := by kernel_rfl
theorem fF_ptop (s : FSt) (n : Nat) : putF "top" (.int (n : Int)) (fF s) = fF ⟨s.st, s.sg, n, s.bt⟩ := by kernel_rfl
theorem fF_pbottom (s : FSt) (n : Nat) : putF "bottom" (.int (n : Int)) (fF s) = fF ⟨s.st, s.sg, s.tp, n⟩ := by kernel_rfl
theorem fF_init : putF "bottom" (.int 1) (putF "top" (.int 0) (putF "sign" (.int 1) (putF "stage" (.str "sign") []))) = fF FSt.init := by kernel_rfl
theorem fF_len (s : FSt) : (fF s).length < 1000 := by show 4 < 1000; decide
theorem fs_dec (a b : FS) : decide (V.str a.str = V.str b.str) = decide (a = b) := by
  cases a <;> cases b <;> decide +kernel
def FAt (C : Addr) (H : Hp) (p : Addr) (s : FSt) : Prop := ∃ dx, H p = some (.ins C dx (fF s))
section
variable {P : Program} {w : World} {K : PySem.W.Frag} {mg : Str → Option Value} {base : Heap}
/-! ### __init__ -/
def p_F_init (C : Addr) (v : V) (H : Hp) (Q : VK) : Prop := ∃ p dx, v = .ref p ∧ H p = some (.ins C dx []) ∧ ∀ H', FAt C H' p FSt.init → But p H H' → Q .non H'
theorem sc_F_init : FnScope ["self"] ["self"] (defScope s_F_init) := ⟨rfl, rfl, rfl, by decide +kernel, rfl, by decide +kernel, by decide +kernel⟩
theorem ok_F_init (T : Txt K mg) : CalI P w K mg base (CF K) 1 ["self"] (sp1 (p_F_init (CF K))) := by
  refine T.i_F.cal sc_F_init (fun _ _ _ _ _ _ us hl => match us, hl with | [_], _ => rfl) len1 fun f cdv A outer s H vs Q E hr h => ?_
  obtain ⟨_, rfl, p, dx, rfl, hp, q⟩ := h
  refine ⟨_, pss_cons (ps_fld (pv 0) pe_str rfl) (pss_one (ps_asg (pe_tup (pa_cons pe_int (pa_cons pe_int (pa_cons pe_int pa_nil))))
    (pg_tup rfl (pgs_cons (pg_fld (pv 0)) (pgs_cons (pg_fld (pv 0)) (pgs_cons (pg_fld (pv 0)) pgs_nil)))))), ?_⟩
  refine ⟨_, rfl, p, _, dx, [], rfl, hp, T.c_F, T.n_F_stage, (by show 0 < 1000; decide), (by show 3 ≤ sizeLine; decide), fun t nt => ?_⟩
  have npt : p ≠ t := fun e => by
    rw [← e, upd_same] at nt
    cases nt
  refine ⟨t, _, rfl, .of upd_same, rfl, ?_⟩
  refine ⟨_, _, rfl, _, rfl, p, _, dx, _, rfl, (by rw [upd_ne npt, upd_same]), T.c_F, T.n_F_sign, (by show 1 < 1000; decide), ?_⟩
  refine ⟨_, _, rfl, _, rfl, p, _, dx, _, rfl, upd_same, T.c_F, T.n_F_top, (by show 2 < 1000; decide), ?_⟩
  refine ⟨_, _, rfl, _, rfl, p, _, dx, _, rfl, upd_same, T.c_F, T.n_F_bottom, (by show 3 < 1000; decide), rfl, ?_⟩
  refine q _ ⟨dx, ?_⟩ fun b o e hb => ?_
  · rw [upd_same]
    exact congrArg (fun z => some (HO.ins (CF K) dx z)) fF_init
  · have nt' : H t = none := by
      rw [upd_ne npt.symm] at nt
      exact nt
    rw [upd_ne hb, upd_ne hb, upd_ne hb, upd_ne (ne_of_none e nt'), upd_ne hb]
    exact e
/-! ### take_number -/
def numStep (s : FSt) (n : Nat) : Option FSt :=
  match s.st with
  | .sign => some ⟨.slash, s.sg, n, s.bt⟩
  | .top => if n = 0 then none else some ⟨.slash, s.sg, n, s.bt⟩
  | .bottom => if n = 0 then none else some ⟨.fin, s.sg, s.tp, n⟩
  | _ => none
def p_F_take_number (C : Addr) (v a : V) (H : Hp) (Q : VK) : Prop := ∃ (p : Addr) (s : FSt) (n : Nat) (s' : FSt), v = .ref p ∧ a = .int (n : Int) ∧ FAt C H p s ∧ numStep s n = some s' ∧ ∀ H', FAt C H' p s' → But p H H' → Q (.bl true) H'
theorem sc_F_take_number : FnScope ["self", "number"] ["self", "number"] (defScope s_F_take_number) := ⟨rfl, rfl, rfl, by decide +kernel, rfl, by decide +kernel, by decide +kernel⟩
theorem ok_F_take_number (T : Txt K mg) : CalM P w K mg base (CF K) "take_number" 1 ["self", "number"] (sp2 (p_F_take_number (CF K))) := by
  refine T.m_F_take_number.cal sc_F_take_number (fun _ _ _ _ _ _ us hl => match us, hl with | [_, _], _ => rfl) len2 fun f cdv A outer s0 H vs Q E hr h => ?_
  obtain ⟨_, _, rfl, p, s, n, s', rfl, rfl, ⟨dx, hp⟩, hs, q⟩ := h
  refine ⟨_, pss_cons (ps_if (PW.pt (pw_or (pt_cmpR op_isN (pv 1) pe_non (nomark _)) (pw_or1 (PW.pt (pw_and (pt_cmpR op_eq (pv 1) pe_int (nomark _)) (pw_and1 (pt_cmpR op_ne (pe_fld (pv 0) rfl) pe_str (nomark _)))))))) (pss_one (ps_ret pe_bl)) pss_nil)
    (pss_cons (ps_if (pt_cmpR op_eq (pe_fld (pv 0) rfl) pe_str (nomark _))
      (pss_one (ps_asg (pe_tup (pa_cons pe_str (pa_cons (pv 1) pa_nil))) (pg_tup rfl (pgs_cons (pg_fld (pv 0)) (pgs_cons (pg_fld (pv 0)) pgs_nil)))))
      (pss_one (ps_asg (pe_tup (pa_cons pe_str (pa_cons (pv 1) pa_nil))) (pg_tup rfl (pgs_cons (pg_fld (pv 0)) (pgs_cons (pg_fld (pv 0)) pgs_nil))))))
    (pss_one (ps_ret pe_bl))), ?_⟩
  -- number is None: no
  refine ⟨_, rfl, rfl, _, rfl, ?_⟩
  rw [decide_eq_false (fun z => by cases z)]
  refine iteF ?_
  have hstage : ∀ (x : FS), decide (V.str s.st.str = V.str x.str) = decide (s.st = x) := fun x => fs_dec _ _
  -- behind the first test
  have body : (tSeq (tIfS (tTest (tOp rEq (tFld K (tVar 0) "stage") (tC (.str "bottom")))) (tAsg (tTup (tCons (tC (.str "end")) (tCons (tVar 1) tNil))) (gTup K 2 (gCons (gFld K (tVar 0) "stage") (gCons (gFld K (tVar 0) "bottom") gNil))))
      (tAsg (tTup (tCons (tC (.str "slash")) (tCons (tVar 1) tNil))) (gTup K 2 (gCons (gFld K (tVar 0) "stage") (gCons (gFld K (tVar 0) "top") gNil))))) (tRet (tC (.bl true))))
      { nx := fun _ H' => Q .non H', rt := Q } [some (.ref p), some (.int (n : Int))] H := by
    refine ⟨_, rfl, p, _, dx, _, _, rfl, hp, T.c_F, T.n_F_stage, fF_stage s, rfl, _, rfl, ?_⟩
    rw [show decide (V.str s.st.str = V.str (Str.ofString "bottom")) = decide (s.st = .bottom) from hstage .bottom]
    by_cases hb : s.st = .bottom
    · rw [decide_eq_true hb]
      refine iteT ⟨_, rfl, (by show 2 ≤ sizeLine; decide), fun t nt => ?_⟩
      have npt : p ≠ t := ne_of_none hp nt
      refine ⟨t, _, rfl, .of upd_same, rfl, _, _, rfl, _, rfl, p, _, dx, _, rfl, (by rw [upd_ne npt]; exact hp), T.c_F, T.n_F_stage, fF_len s, ?_⟩
      rw [show putF (Str.ofString "stage") (V.str (Str.ofString "end")) (fF s) = _ from fF_pstage s .fin]
      refine ⟨_, _, rfl, _, rfl, p, _, dx, _, rfl, upd_same, T.c_F, T.n_F_bottom, fF_len _, rfl, ?_⟩
      rw [fF_pbottom]
      unfold numStep at hs
      rw [hb] at hs
      dsimp only at hs
      split at hs
      · cases hs
      · cases hs
        refine q _ ⟨dx, upd_same⟩ fun b o e hb => ?_
        rw [upd_ne hb, upd_ne hb, upd_ne (ne_of_none e nt)]
        exact e
    · rw [decide_eq_false hb]
      refine iteF ⟨_, rfl, (by show 2 ≤ sizeLine; decide), fun t nt => ?_⟩
      have npt : p ≠ t := ne_of_none hp nt
      refine ⟨t, _, rfl, .of upd_same, rfl, _, _, rfl, _, rfl, p, _, dx, _, rfl, (by rw [upd_ne npt]; exact hp), T.c_F, T.n_F_stage, fF_len s, ?_⟩
      rw [show putF (Str.ofString "stage") (V.str (Str.ofString "slash")) (fF s) = _ from fF_pstage s .slash]
      refine ⟨_, _, rfl, _, rfl, p, _, dx, _, rfl, upd_same, T.c_F, T.n_F_top, fF_len _, rfl, ?_⟩
      rw [fF_ptop]
      have es : s' = ⟨.slash, s.sg, n, s.bt⟩ := by
        unfold numStep at hs
        revert hs
        cases e : s.st with
        | sign => intro hs; exact (Option.some.inj hs).symm
        | top =>
          intro hs
          dsimp only at hs
          split at hs
          · cases hs
          · exact (Option.some.inj hs).symm
        | slash => intro hs; cases hs
        | bottom => exact absurd e hb
        | fin => intro hs; cases hs
      rw [es] at q
      refine q _ ⟨dx, upd_same⟩ fun b o e hb => ?_
      rw [upd_ne hb, upd_ne hb, upd_ne (ne_of_none e nt)]
      exact e
  refine ⟨_, rfl, rfl, _, rfl, ?_⟩
  by_cases h0 : n = 0
  · rw [decide_eq_true (show V.int (n : Int) = V.int 0 by rw [h0]; rfl)]
    refine iteT ⟨_, rfl, p, _, dx, _, _, rfl, hp, T.c_F, T.n_F_stage, fF_stage s, rfl, _, rfl, ?_⟩
    have e : s.st = .sign := by
      unfold numStep at hs
      revert hs
      cases e : s.st <;> intro hs <;> dsimp only at hs
      · rfl
      · rw [if_pos h0] at hs; cases hs
      · cases hs
      · rw [if_pos h0] at hs; cases hs
      · cases hs
    rw [show decide (V.str s.st.str = V.str (Str.ofString "sign")) = decide (s.st = .sign) from hstage .sign, decide_eq_true e]
    exact iteF body
  · rw [decide_eq_false (fun z => h0 (by have := V.int.inj z; omega))]
    exact iteF (iteF body)
/-! ### take -/
def p_F_take (C : Addr) (v a : V) (H : Hp) (Q : VK) : Prop := ∃ (p : Addr) (s : FSt) (m : Str) (s' : FSt), v = .ref p ∧ a = .str m ∧ FAt C H p s ∧ stepF s m = some s' ∧ ∀ H', FAt C H' p s' → But p H H' → Q (.bl true) H'
theorem sc_F_take : FnScope ["self", "mark"] ["self", "mark"] (defScope s_F_take) := ⟨rfl, rfl, rfl, by decide +kernel, rfl, by decide +kernel, by decide +kernel⟩
theorem step_num {s s' : FSt} {m : Str} (hs : stepF s m = some s') (h : ¬ (s.st = .sign ∧ m = "-")) (h1 : s.st ≠ .slash) (h2 : s.st ≠ .fin) : ∃ n, m = S (TL.numL n) ∧ n ≤ 1000000 ∧ numStep s n = some s' := by
  have key : ∃ n, num? m = some n ∧ numStep s n = some s' := by
    unfold stepF at hs
    unfold numStep
    revert hs
    cases e : s.st with
    | sign =>
      intro hs
      dsimp only at hs
      rw [if_neg (fun z => h ⟨e, z⟩)] at hs
      cases en : num? m with
      | none => rw [en] at hs; cases hs
      | some n => rw [en] at hs; exact ⟨n, rfl, hs⟩
    | top =>
      intro hs
      dsimp only at hs
      cases en : num? m with
      | none => rw [en] at hs; cases hs
      | some n => rw [en] at hs; exact ⟨n, rfl, hs⟩
    | slash => exact absurd e h1
    | bottom =>
      intro hs
      dsimp only at hs
      cases en : num? m with
      | none => rw [en] at hs; cases hs
      | some n => rw [en] at hs; exact ⟨n, rfl, hs⟩
    | fin => exact absurd e h2
  obtain ⟨n, e1, e2⟩ := key
  obtain ⟨e3, e4⟩ := num?_some e1
  exact ⟨n, e3, e4, e2⟩
theorem ok_F_take (T : Txt K mg) : CalM P w K mg base (CF K) "take" 2 ["self", "mark"] (sp2 (p_F_take (CF K))) := by
  have G := ok_numeral_of (P := P) (w := w) (base := base) T
  have G2 := ok_F_take_number (P := P) (w := w) (base := base) T
  obtain ⟨tm, hm_⟩ := T.k_MOST_PART
  refine T.m_F_take.cal sc_F_take (fun _ _ _ _ _ _ us hl => match us, hl with | [_, _], _ => rfl) len2 fun f cdv A outer s0 H vs Q E hr h => ?_
  obtain ⟨_, _, rfl, p, s, m, s', rfl, rfl, ⟨dx, hp⟩, hs, q⟩ := h
  refine ⟨_, pss_cons (ps_if (PW.pt (pw_and (pt_cmpR op_eq (pe_fld (pv 0) rfl) pe_str (nomark _)) (pw_and1 (pt_cmpR op_eq (pv 1) pe_str (nomark _)))))
      (pss_cons (ps_asg (pe_tup (pa_cons pe_str (pa_cons (pe_un un_neg pe_int) pa_nil))) (pg_tup rfl (pgs_cons (pg_fld (pv 0)) (pgs_cons (pg_fld (pv 0)) pgs_nil)))) (pss_one (ps_ret pe_bl))) pss_nil)
    (pss_cons (ps_if (pt_cmpR op_eq (pe_fld (pv 0) rfl) pe_str (nomark _)) (pss_cons (ps_fld (pv 0) pe_str rfl) (pss_one (ps_ret (pe_cmpR op_eq (pv 1) pe_str (nomark _))))) pss_nil)
    (pss_cons (ps_if (pt_cmpR op_eq (pe_fld (pv 0) rfl) pe_str (nomark _)) (pss_one (ps_ret pe_bl)) pss_nil)
    (pss_one (ps_ret (pe_calM G2 T.c_F hr (pv 0) (pa_cons (pe_cal G hr (by rfl) (pa_cons (pv 1) (pa_cons (pe_glob (v := .int 1000000) (by rfl) hm_ ⟨_, rfl⟩) pa_nil))) pa_nil)))))), ?_⟩
  have hstage : ∀ (x : FS), decide (V.str s.st.str = V.str x.str) = decide (s.st = x) := fun x => fs_dec _ _
  -- what stands behind the first test
  have rest : ¬ (s.st = .sign ∧ m = "-") → (tSeq (tIfS (tTest (tOp rEq (tFld K (tVar 0) "stage") (tC (.str "slash")))) (tSeq (sFld K (tVar 0) (tC (.str "bottom")) "stage") (tRet (tOp rEq (tVar 1) (tC (.str "/"))))) tNext)
      (tSeq (tIfS (tTest (tOp rEq (tFld K (tVar 0) "stage") (tC (.str "end")))) (tRet (tC (.bl false))) tNext)
      (tRet (tMeth (CF K) "take_number" (sp2 (p_F_take_number (CF K))) [] E0 (tVar 0) (tCons (tCall (sp2 p_numeral_of) [] E0 (tCons (tVar 1) (tCons (tC (.int 1000000)) tNil))) tNil)))))
      { nx := fun _ H' => Q .non H', rt := Q } [some (.ref p), some (.str m)] H := by
    intro hn
    refine ⟨_, rfl, p, _, dx, _, _, rfl, hp, T.c_F, T.n_F_stage, fF_stage s, rfl, _, rfl, ?_⟩
    rw [show decide (V.str s.st.str = V.str (Str.ofString "slash")) = decide (s.st = .slash) from hstage .slash]
    by_cases h1 : s.st = .slash
    · rw [decide_eq_true h1]
      have hs' := hs
      unfold stepF at hs'
      rw [h1] at hs'
      dsimp only at hs'
      split at hs'
      · rename_i hm
        cases hs'
        refine iteT ⟨_, rfl, p, _, dx, _, rfl, hp, T.c_F, T.n_F_stage, fF_len s, ?_⟩
        rw [show putF (Str.ofString "stage") (V.str (Str.ofString "bottom")) (fF s) = _ from fF_pstage s .bottom]
        refine ⟨_, rfl, rfl, ?_⟩
        rw [decide_eq_true (congrArg V.str hm)]
        exact q _ ⟨dx, upd_same⟩ But.upd
      · cases hs'
    · rw [decide_eq_false h1]
      refine iteF ⟨_, rfl, p, _, dx, _, _, rfl, hp, T.c_F, T.n_F_stage, fF_stage s, rfl, _, rfl, ?_⟩
      rw [show decide (V.str s.st.str = V.str (Str.ofString "end")) = decide (s.st = .fin) from hstage .fin]
      have h2 : s.st ≠ .fin := fun h2 => by
        unfold stepF at hs
        rw [h2] at hs
        cases hs
      rw [decide_eq_false h2]
      obtain ⟨n, em, hn', hns⟩ := step_num hs hn h1 h2
      refine iteF ⟨_, rfl, p, dx, _, rfl, hp, fF_m1 s, _, rfl, _, _, rfl, n, congrArg V.str em, rfl, hn', _, _, rfl, p, s, n, s', rfl, rfl, ⟨dx, hp⟩, hns, q⟩
  refine ⟨_, rfl, p, _, dx, _, _, rfl, hp, T.c_F, T.n_F_stage, fF_stage s, rfl, _, rfl, ?_⟩
  rw [show decide (V.str s.st.str = V.str (Str.ofString "sign")) = decide (s.st = .sign) from hstage .sign]
  by_cases h1 : s.st = .sign
  · rw [decide_eq_true h1]
    refine iteT ⟨_, rfl, rfl, _, rfl, ?_⟩
    by_cases h2 : m = "-"
    · rw [decide_eq_true (congrArg V.str h2)]
      refine iteT ⟨_, rfl, (by show 2 ≤ sizeLine; decide), fun t nt => ?_⟩
      have npt : p ≠ t := ne_of_none hp nt
      refine ⟨t, _, rfl, .of upd_same, rfl, _, _, rfl, _, rfl, p, _, dx, _, rfl, (by rw [upd_ne npt]; exact hp), T.c_F, T.n_F_stage, fF_len s, ?_⟩
      rw [show putF (Str.ofString "stage") (V.str (Str.ofString "top")) (fF s) = _ from fF_pstage s .top]
      refine ⟨_, _, rfl, _, rfl, p, _, dx, _, rfl, upd_same, T.c_F, T.n_F_sign, fF_len _, rfl, ?_⟩
      dsimp only
      rw [fF_psign]
      have es : s' = ⟨.top, -1, s.tp, s.bt⟩ := by
        unfold stepF at hs
        rw [h1] at hs
        dsimp only at hs
        rw [if_pos h2] at hs
        exact (Option.some.inj hs).symm
      rw [es] at q
      refine q _ ⟨dx, upd_same⟩ fun b o e hb => ?_
      rw [upd_ne hb, upd_ne hb, upd_ne (ne_of_none e nt)]
      exact e
    · rw [decide_eq_false (fun z => h2 (V.str.inj z))]
      exact iteF (rest fun z => h2 z.2)
  · rw [decide_eq_false h1]
    exact iteF (iteF (rest fun z => h1 z.1))
/-! ### ends, told -/
def p_F_ends (C : Addr) (v : V) (H : Hp) (Q : VK) : Prop := ∃ p s, v = .ref p ∧ FAt C H p s ∧ ∀ H', Same H H' → Q (.bl s.ends) H'
theorem sc_F_ends : FnScope ["self"] ["self"] (defScope s_F_ends) := ⟨rfl, rfl, rfl, by decide +kernel, rfl, by decide +kernel, by decide +kernel⟩
theorem ok_F_ends (T : Txt K mg) : CalM P w K mg base (CF K) "ends" 1 ["self"] (sp1 (p_F_ends (CF K))) := by
  refine T.m_F_ends.cal sc_F_ends (fun _ _ _ _ _ _ us hl => match us, hl with | [_], _ => rfl) len1 fun f cdv A outer s0 H vs Q E hr h => ?_
  obtain ⟨_, rfl, p, s, rfl, ⟨dx, hp⟩, q⟩ := h
  refine ⟨_, pss_one (ps_ret (pe_cmpR op_in_seq (pe_fld (pv 0) rfl) (pe_tup (pa_cons pe_str (pa_cons pe_str pa_nil))) (by rfl))), ?_⟩
  refine ⟨_, rfl, p, _, dx, _, _, rfl, hp, T.c_F, T.n_F_stage, fF_stage s, (by show 2 ≤ sizeLine; decide), fun t nt => ?_⟩
  refine ⟨t, _, rfl, .inr (.of upd_same), rfl, rfl, ?_⟩
  have e : inV (.str s.st.str) [.str "slash", .str "end"] = s.ends := by
    unfold FSt.ends
    cases s.st <;> decide +kernel
  rw [if_neg Bool.false_ne_true, e]
  exact q _ (same_upd nt)
def p_F_told (C : Addr) (v : V) (H : Hp) (Q : VK) : Prop := ∃ p s, v = .ref p ∧ FAt C H p s ∧ s.good ∧ ∀ t, H t = none → Q (.ref t) (upd H t (.tup [.int s.top, .int (s.bt : Int)]))
theorem sc_F_told : FnScope ["self"] ["self"] (defScope s_F_told) := ⟨rfl, rfl, rfl, by decide +kernel, rfl, by decide +kernel, by decide +kernel⟩
theorem ok_F_told (T : Txt K mg) : CalM P w K mg base (CF K) "told" 3 ["self"] (sp1 (p_F_told (CF K))) := by
  have G := ok_fraction_of (P := P) (w := w) (base := base) T
  refine T.m_F_told.cal sc_F_told (fun _ _ _ _ _ _ us hl => match us, hl with | [_], _ => rfl) len1 fun f cdv A outer s0 H vs Q E hr h => ?_
  obtain ⟨_, rfl, p, s, rfl, ⟨dx, hp⟩, hg, q⟩ := h
  refine ⟨_, pss_one (ps_ret (pe_cal G hr (by rfl) (pa_cons (pe_op op_mul (pe_fld (pv 0) rfl) (pe_fld (pv 0) rfl)) (pa_cons (pe_fld (pv 0) rfl) pa_nil)))), ?_⟩
  refine ⟨_, rfl, p, _, dx, _, _, rfl, hp, T.c_F, T.n_F_sign, fF_sign s, _, rfl, p, _, dx, _, _, rfl, hp, T.c_F, T.n_F_top, fF_top s, _, _, rfl, rfl, .inl ?_, _, rfl, p, _, dx, _, _, rfl, hp, T.c_F, T.n_F_bottom, fF_bottom s, _, _, rfl, s.top, s.bt, rfl, rfl, hg.1, ?_, q⟩
  · rcases hg.2.2.1 with e | e <;> rw [e] <;> decide
  · have e : s.top.natAbs = s.tp := by
      unfold FSt.top
      rcases hg.2.2.1 with e | e <;> rw [e] <;> omega
    rw [e]
    exact hg.2.1
end
end K7
/-! ## K7W5 -/
set_option Elab.async false
set_option linter.all false
set_option maxRecDepth 100000
set_option maxHeartbeats 4000000
namespace K7
open PySem PySem.Spec PyProof.Rows L2
/-- tuples stand -/
def TupK (H H' : Hp) : Prop := ∀ a xs, H a = some (.tup xs) → H' a = some (.tup xs)
theorem TupK.same {H H' : Hp} (h : Same H H') : TupK H H' := fun a xs e => h _ _ e
theorem TupK.trans {H H1 H2 : Hp} (a : TupK H H1) (b : TupK H1 H2) : TupK H H2 := fun c xs e => b _ _ (a _ _ e)
/-! ### a reading: its object, its states, what its methods do on the ways that succeed -/
structure Rdg (α : Type) where
  C : Addr
  /-- the object at p is in that state; H0 is what stood besides -/
  At : Hp → Hp → Addr → α → Prop
  step : α → Str → Option α
  fin : α → Prop
  res : Hp → V → α → Prop
def p_take {α : Type} (R : Rdg α) (v a : V) (H : Hp) (Q : VK) : Prop := ∃ (H0 : Hp) (p : Addr) (st : α) (m : Str) (st' : α), v = .ref p ∧ a = .str m ∧ R.At H0 H p st ∧ R.step st m = some st' ∧ ∀ H', R.At H0 H' p st' → TupK H H' → Q (.bl true) H'
def p_ends {α : Type} (R : Rdg α) (v : V) (H : Hp) (Q : VK) : Prop := ∃ (H0 : Hp) (p : Addr) (st : α), v = .ref p ∧ R.At H0 H p st ∧ R.fin st ∧ ∀ H', R.At H0 H' p st → Q (.bl true) H'
def p_told {α : Type} (R : Rdg α) (v : V) (H : Hp) (Q : VK) : Prop := ∃ (H0 : Hp) (p : Addr) (st : α), v = .ref p ∧ R.At H0 H p st ∧ R.fin st ∧ ∀ H' r, Same H0 H' → R.res H' r st → Q r H'
/-- what stood besides, with all that is new -/
def grow (H0 H H1 : Hp) : Hp := fun b => match H b with
  | none => H1 b
  | some _ => H0 b
theorem grow_same {H0 H H1 : Hp} (a : Same H0 H) (b : Same H H1) : Same (grow H0 H H1) H1 := fun c o e => by
  unfold grow at e
  cases h : H c with
  | none => rw [h] at e; exact e
  | some u => rw [h] at e; exact b _ _ (a _ _ e)
theorem grow_old {H0 H H1 : Hp} (a : Same H0 H) : Same H0 (grow H0 H H1) := fun c o e => by
  unfold grow
  rw [a _ _ e]
  exact e
theorem grow_new {H0 H H1 : Hp} {b : Addr} {o : HO} (h : H b = none) (h1 : H1 b = some o) : grow H0 H H1 b = some o := by
  unfold grow
  rw [h]
  exact h1
theorem grow_none {H0 H H1 : Hp} {b : Addr} {o : HO} (h : H b = some o) (h1 : H0 b = none) : grow H0 H H1 b = none := by
  unfold grow
  rw [h]
  exact h1
section
variable {P : Program} {w : World} {K : PySem.W.Frag} {mg : Str → Option Value} {base : Heap}
theorem CalM.mono {C : Addr} {m : Str} {j k : Nat} {ps : List Str} {sp : Sp} (c : CalM P w K mg base C m j ps sp) (h : j ≤ k) : CalM P w K mg base C m k ps sp := by
  obtain ⟨f, fd, a, b, F⟩ := c.ex
  exact ⟨f, fd, a, b, F.mono h⟩
theorem CalM.imp {C : Addr} {m : Str} {k : Nat} {ps : List Str} {sp sp' : Sp} (c : CalM P w K mg base C m k ps sp) (h : ∀ vs H Q E, sp' vs H Q E → sp vs H Q E) : CalM P w K mg base C m k ps sp' := by
  obtain ⟨f, fd, a, b, F⟩ := c.ex
  exact ⟨f, fd, a, b, F.imp h⟩
theorem Cal.mono {x : Str} {j k : Nat} {ps : List Str} {sp : Sp} (c : Cal P w K mg base x j ps sp) (h : j ≤ k) : Cal P w K mg base x k ps sp := by
  obtain ⟨f, fd, a, b, d, F⟩ := c.ex
  exact ⟨f, fd, a, b, d, F.mono h⟩
structure RdgOk {α : Type} (P : Program) (w : World) (K : PySem.W.Frag) (mg : Str → Option Value) (base : Heap) (R : Rdg α) (k : Nat) : Prop where
  ins : ∀ {H0 H p st}, R.At H0 H p st → ∃ dx fs, H p = some (.ins R.C dx fs) ∧ fs.lookup ("take" : Str) = none ∧ fs.lookup ("ends" : Str) = none ∧ fs.lookup ("told" : Str) = none
  same : ∀ {H0 H p st}, R.At H0 H p st → Same H0 H
  grow : ∀ {H0 H H1 p st}, R.At H0 H p st → Same H H1 → R.At (grow H0 H H1) H1 p st
  weak : ∀ {H0 H0' H p st}, R.At H0' H p st → Same H0 H0' → R.At H0 H p st
  cls : Cls K R.C
  take : CalM P w K mg base R.C "take" k ["self", "mark"] (sp2 (p_take R))
  ends : CalM P w K mg base R.C "ends" k ["self"] (sp1 (p_ends R))
  told : CalM P w K mg base R.C "told" k ["self"] (sp1 (p_told R))
/-! ### taken_in -/
def p_taken_in {α : Type} (R : Rdg α) (v a : V) (H : Hp) (Q : VK) : Prop := ∃ (H0 : Hp) (p : Addr) (st : α) (x : Str) (st' : α), v = .ref p ∧ a = .str x ∧ x.length ≤ 100000 ∧ R.At H0 H p st ∧ (marks x).foldlM R.step st = some st' ∧ ∀ H', R.At H0 H' p st' → Q (.ref p) H'
theorem sc_taken_in : FnScope ["reading", "text", "line", "at", "mark"] ["reading", "text"] (defScope s_taken_in) := ⟨rfl, rfl, rfl, by decide +kernel, rfl, by decide +kernel, by decide +kernel⟩
theorem ok_taken_in {α : Type} {R : Rdg α} {k : Nat} (T : Txt K mg) (O : RdgOk P w K mg base R k) (hk : 3 ≤ k) : Cal P w K mg base "taken_in" (k + 1) ["reading", "text"] (sp2 (p_taken_in R)) := by
  have G := (ok_marks_of (P := P) (w := w) (base := base) T).mono hk
  refine T.f_taken_in.cal sc_taken_in (fun _ _ _ _ _ _ us hl => match us, hl with | [_, _], _ => rfl) len2 fun f cdv A outer s0 H vs Q E hr h => ?_
  obtain ⟨_, _, rfl, H0, p, st, x, st', rfl, rfl, hx, hA, hf, q⟩ := h
  have nd := sc_taken_in.nd
  refine ⟨_, pss_cons (ps_if (pt_not (pt_val (pe_callB call_isi (by rfl) T.z_isinstance b_isinstance (pa_cons (pv 1) (pa_cons (pe_bltn (v := .ty "str") (by rfl) T.z_str b_str rfl) pa_nil))))) pss_never pss_nil)
    (pss_cons (ps_for PassesOwn.never rfl (pi_tup (pe_cal G hr (by rfl) (pa_cons (pv 1) pa_nil)))
      (pg_tup rfl (pgs_cons (pg_name (i := 2) nd rfl (.inl rfl)) (pgs_cons (pg_name (i := 3) nd rfl (.inl rfl)) (pgs_cons (pg_name (i := 4) nd rfl (.inl rfl)) pgs_nil))))
      (pss_one (ps_if (pt_not (pt_val (pe_calM O.take O.cls hr (pv 0) (pa_cons (pv 4) pa_nil)))) pss_never pss_nil)))
    (pss_one (ps_ret (pv 0)))), ?_⟩
  refine ⟨_, rfl, _, _, _, _, true, rfl, .ty _, .base (.str x), kit_ty (by decide +kernel), true, rfl, ?_⟩
  refine iteF ?_
  refine ⟨_, rfl, _, rfl, x, rfl, hx, fun H1 pm rs sm npm hpm hall => ?_⟩
  refine ⟨pm, rfl, ⟨_, .of hpm⟩, ?_⟩
  have hA1 := O.grow hA sm
  refine for_tup (K := K) (a := pm) (xs := rs) (fun i σ H' => ∃ (sti : α) (v2 v3 v4 : Option V), σ = [some (.ref p), some (.str x), v2, v3, v4] ∧ R.At (grow H0 H H1) H' p sti ∧ TupK H1 H' ∧ ((marks x).drop i).foldlM R.step sti = some st')
    ⟨st, none, none, none, rfl, hA1, fun _ _ e => e, hf⟩ (fun i σ H' _ h => ?_) (fun i v σ H' hv h => ?_) (fun σ H' h => ?_)
  · obtain ⟨_, _, _, _, _, _, kp, _⟩ := h
    exact .of (kp _ _ hpm)
  · obtain ⟨sti, v2, v3, v4, rfl, hAi, kp, hfi⟩ := h
    obtain ⟨m, hm, a, l, c, rfl, ha⟩ := hall.get hv
    have hma : (marks x).drop i = m :: (marks x).drop (i + 1) := by
      obtain ⟨hi, e⟩ := List.getElem?_eq_some_iff.mp hm
      rw [List.drop_eq_getElem_cons hi, e]
    rw [hma] at hfi
    have hfi' : (R.step sti m >>= fun s => ((marks x).drop (i + 1)).foldlM R.step s) = some st' := hfi
    cases es : R.step sti m with
    | none => rw [es] at hfi'; cases hfi'
    | some s1 =>
      rw [es] at hfi'
      obtain ⟨dx, fs, hi1, hi2, _, _⟩ := O.ins hAi
      refine ⟨a, _, rfl, .of (kp _ _ ha), rfl, _, _, rfl, _, _, rfl, _, _, rfl, rfl, ?_⟩
      refine ⟨_, rfl, p, dx, fs, rfl, hi1, hi2, _, rfl, _, _, rfl, grow H0 H H1, p, sti, m, s1, rfl, rfl, hAi, es, fun H2 hA2 kp2 => ⟨_, rfl, iteF ?_⟩⟩
      exact ⟨s1, _, _, _, rfl, hA2, kp.trans kp2, hfi'⟩
  · obtain ⟨sti, v2, v3, v4, rfl, hAi, kp, hfi⟩ := h
    rw [List.drop_eq_nil_of_le (by rw [hall.1]; exact Nat.le_refl _)] at hfi
    have e : sti = st' := Option.some.inj hfi
    subst e
    exact ⟨_, rfl, q _ (O.weak hAi (grow_old (O.same hA)))⟩
/-! ### read_whole -/
def p_read_whole {α : Type} (R : Rdg α) (v a : V) (H : Hp) (Q : VK) : Prop := ∃ (H0 : Hp) (p : Addr) (st : α) (x : Str) (st' : α), v = .ref p ∧ a = .str x ∧ x.length ≤ 100000 ∧ R.At H0 H p st ∧ (marks x).foldlM R.step st = some st' ∧ R.fin st' ∧ ∀ H' r, Same H0 H' → R.res H' r st' → Q r H'
theorem sc_read_whole : FnScope ["reading", "text", "line", "at"] ["reading", "text"] (defScope s_read_whole) := ⟨rfl, rfl, rfl, by decide +kernel, rfl, by decide +kernel, by decide +kernel⟩
theorem ok_read_whole {α : Type} {R : Rdg α} {k : Nat} (T : Txt K mg) (O : RdgOk P w K mg base R k) (hk : 3 ≤ k) : Cal P w K mg base "read_whole" (k + 2) ["reading", "text"] (sp2 (p_read_whole R)) := by
  have G := ok_taken_in T O hk
  refine T.f_read_whole.cal sc_read_whole (fun _ _ _ _ _ _ us hl => match us, hl with | [_, _], _ => rfl) len2 fun f cdv A outer s0 H vs Q E hr h => ?_
  obtain ⟨_, _, rfl, H0, p, st, x, st', rfl, rfl, hx, hA, hf, hfin, q⟩ := h
  have hr' := hr.mono (Nat.le_succ k)
  refine ⟨_, pss_cons (ps_expr (pe_cal G hr (by rfl) (pa_cons (pv 0) (pa_cons (pv 1) pa_nil))))
    (pss_cons (ps_if (pt_not (pt_val (pe_calM0 O.ends O.cls hr' (pv 0)))) pss_never pss_nil)
    (pss_one (ps_ret (pe_calM0 O.told O.cls hr' (pv 0))))), ?_⟩
  refine ⟨_, rfl, _, rfl, _, _, rfl, H0, p, st, x, st', rfl, rfl, hx, hA, hf, fun H1 hA1 => ?_⟩
  obtain ⟨dx, fs, i1, _, i3, _⟩ := O.ins hA1
  refine ⟨_, rfl, p, dx, fs, rfl, i1, i3, _, rfl, H0, p, st', rfl, hA1, hfin, fun H2 hA2 => ⟨_, rfl, iteF ?_⟩⟩
  obtain ⟨dx2, fs2, j1, _, _, j4⟩ := O.ins hA2
  exact ⟨_, rfl, p, dx2, fs2, rfl, j1, j4, _, rfl, H0, p, st', rfl, hA2, hfin, q⟩
/-! ### the fraction's reading -/
/-- a fraction's tuple -/
def FrAt (H : Hp) (v : V) (t : Int) (b : Nat) : Prop := ∃ a, v = .ref a ∧ H a = some (.tup [.int t, .int (b : Int)])
theorem FrAt.keep {H H' : Hp} (k : TupK H H') {v : V} {t : Int} {b : Nat} (h : FrAt H v t b) : FrAt H' v t b := let ⟨a, e, u⟩ := h; ⟨a, e, k _ _ u⟩
def RF (K : PySem.W.Frag) : Rdg FSt where
  C := CF K
  At := fun H0 H p s => Same H0 H ∧ H0 p = none ∧ FAt (CF K) H p s
  step := stepF
  fin := fun s => s.ends = true ∧ s.good
  res := fun H v s => FrAt H v s.top s.bt
theorem RF_ok (T : Txt K mg) : RdgOk P w K mg base (RF K) 3 where
  ins := fun h => let ⟨_, _, dx, e⟩ := h; ⟨dx, _, e, fF_m2 _, fF_m3 _, fF_m4 _⟩
  same := fun h => h.1
  grow := fun h sm => let ⟨a, b, dx, e⟩ := h; ⟨grow_same a sm, grow_none e b, dx, sm _ _ e⟩
  weak := fun h sm => ⟨sm.trans h.1, sm.free h.2.1, h.2.2⟩
  cls := T.c_F
  take := ((ok_F_take T).mono (by decide)).imp fun vs H Q E ⟨_, _, e, H0, p, st, m, st', e1, e2, ⟨sm, np, dx, hp⟩, es, q⟩ => ⟨_, _, e, p, st, m, st', e1, e2, ⟨dx, hp⟩, es, fun H' hA hB =>
    q H' ⟨fun b o eb => hB _ _ (sm _ _ eb) (fun z => by rw [z, np] at eb; cases eb), np, hA⟩ fun b xs eb => hB _ _ eb (ne_of eb hp (by intro z; cases z))⟩
  ends := ((ok_F_ends T).mono (by decide)).imp fun vs H Q E ⟨_, e, H0, p, st, e1, ⟨sm, np, dx, hp⟩, hf, q⟩ => ⟨_, e, p, st, e1, ⟨dx, hp⟩, fun H' sm' => by
    rw [hf.1]
    exact q H' ⟨sm.trans sm', np, dx, sm' _ _ hp⟩⟩
  told := (ok_F_told T).imp fun vs H Q E ⟨_, e, H0, p, st, e1, ⟨sm, np, dx, hp⟩, hf, q⟩ => ⟨_, e, p, st, e1, ⟨dx, hp⟩, hf.2, fun t nt => q _ _ (sm.trans (same_upd nt)) ⟨t, rfl, upd_same⟩⟩
/-- a new instance and its dict, then its __init__ -/
theorem made_same {H : Hp} {x dx C : Addr} (nx : H x = none) (ndx : H dx = none) : Same H (upd (upd H dx (.own x)) x (.ins C dx [])) := fun b o e => by
  rw [upd_ne (ne_of_none e nx), upd_ne (ne_of_none e ndx)]
  exact e
def p_read_fraction (a : V) (H : Hp) (Q : VK) : Prop := ∃ t b, a = .str (S (amT t b)) ∧ FrOk t b ∧ ∀ H' r, Same H H' → FrAt H' r t b → Q r H'
theorem sc_read_fraction : FnScope ["text"] ["text"] (defScope s_read_fraction) := ⟨rfl, rfl, rfl, by decide +kernel, rfl, by decide +kernel, by decide +kernel⟩
theorem amT_len {t : Int} {b : Nat} (h : FrOk t b) : (S (amT t b)).length ≤ 16 := by
  rw [len_S]
  unfold amT
  rw [numT_eq, List.length_append, List.length_append]
  have h1 := num_len h.1
  have h2 := num_len h.2.2.1
  split <;> split <;> simp <;> omega
theorem ok_read_fraction (T : Txt K mg) : Cal P w K mg base "read_fraction" 6 ["text"] (sp1 p_read_fraction) := by
  have O := RF_ok (P := P) (w := w) (base := base) T
  have G := ok_read_whole T O (Nat.le_refl _)
  have GI := ok_F_init (P := P) (w := w) (base := base) T
  refine T.f_read_fraction.cal sc_read_fraction (fun _ _ _ _ _ _ us hl => match us, hl with | [_], _ => rfl) len1 fun f cdv A outer s0 H vs Q E hr h => ?_
  obtain ⟨_, rfl, t, b, rfl, hF, q⟩ := h
  refine ⟨_, pss_one (ps_ret (pe_cal G hr (by rfl) (pa_cons (pe_calI0 GI (hr.mono (by decide)) (by rfl) T.g_F) (pa_cons (pv 0) pa_nil)))), ?_⟩
  refine fun x dx nx ndx nex => ⟨_, rfl, x, dx, rfl, upd_same, fun H1 hF1 hB => ⟨rfl, ?_⟩⟩
  have sm : Same H H1 := fun c o e => hB _ _ (made_same nx ndx _ _ e) (ne_of_none e nx)
  refine ⟨_, rfl, _, _, rfl, H, x, FSt.init, S (amT t b), finF t b, rfl, rfl, Nat.le_trans (amT_len hF) (by decide), ⟨sm, nx, hF1⟩, ?_, ⟨finF_ends _ _, finF_good hF⟩, fun H2 r sm2 hr2 => q H2 r sm2 ?_⟩
  · rw [marks_am]
    exact runF hF stepF (fun _ _ => rfl)
  · have := hr2
    unfold RF at this
    dsimp only at this
    rw [finF_top] at this
    exact this
end
end K7
/-! ## K7W6 -/
set_option Elab.async false
set_option linter.all false
set_option maxRecDepth 100000
set_option maxHeartbeats 4000000
namespace K7
open PySem PySem.Spec PyProof.Rows L2
/-- a tuple, its object known or not -/
theorem rd_ty {K : PySem.W.Frag} {H : Hp} {a : Addr} {xs : List V} (h : Rd H a (.tup xs)) : TyX K H (.ref a) (.type "tuple") := by
  rcases h with h | ⟨o, h⟩
  · exact .base (.tup h)
  · exact .fTuple h
theorem rd_same {H H' : Hp} {a : Addr} {u : HO} (sm : Same H H') (h : Rd H a u) : Rd H' a u := by
  rcases h with h | ⟨o, h⟩
  · exact .inl (sm _ _ h)
  · exact .inr ⟨o, sm _ _ h⟩
/-- a total: the numbers of its kinds -/
def TotAt (H : Hp) (r : V) (ns : List Nat) : Prop := ∃ a, r = .ref a ∧ H a = some (.tup (ns.map fun n : Nat => V.int (n : Int)))
theorem TotAt.keep {H H' : Hp} (k : TupK H H') {r : V} {ns : List Nat} (h : TotAt H r ns) : TotAt H' r ns := let ⟨a, e, u⟩ := h; ⟨a, e, k _ _ u⟩
/-- kinds, totals of a table -/
structure TabD (ks : List Str) (ts : List (List Nat)) : Prop where
  name : ∀ k ∈ ks, isName k = true
  asc : ks.Pairwise ltS
  ne : 1 ≤ ks.length
  len : ks.length ≤ 12
  tlen : ts.length ≤ 12
  tot : ∀ t ∈ ts, t.Pairwise (· < ·) ∧ ∀ n ∈ t, n < ks.length
theorem asc_len {t : List Nat} {n : Nat} (h : t.Pairwise (· < ·)) (hb : ∀ i ∈ t, i < n) : t.length ≤ n := by
  have nd : t.Nodup := h.imp fun h => Nat.ne_of_lt h
  have := List.Nodup.length_le_of_subset nd (l₂ := List.range n) fun i hi => List.mem_range.mpr (hb i hi)
  rw [List.length_range] at this
  exact this
/-- kinds and totals as they stand -/
structure KT (H : Hp) (kA tA : Addr) (ks : List Str) (ts : List (List Nat)) : Prop where
  k : Rd H kA (.tup (ks.map V.str))
  t : ∃ rs, H tA = some (.tup rs) ∧ All2 (TotAt H) rs ts
theorem KT.same {H H' : Hp} (sm : Same H H') {kA tA : Addr} {ks : List Str} {ts : List (List Nat)} (h : KT H kA tA ks ts) : KT H' kA tA ks ts :=
  let ⟨rs, e, a⟩ := h.t; ⟨rd_same sm h.k, rs, sm _ _ e, a.mono fun _ _ q => q.keep (TupK.same sm)⟩
theorem str_at {ks : List Str} {i : Nat} {v : V} (h : (ks.map V.str)[i]? = some v) : ∃ k, ks[i]? = some k ∧ v = .str k := by
  rw [List.getElem?_map] at h
  cases e : ks[i]? with
  | none =>
    rw [e] at h
    cases h
  | some c =>
    rw [e] at h
    exact ⟨c, rfl, (Option.some.inj h).symm⟩
section
variable {P : Program} {w : World} {K : PySem.W.Frag} {mg : Str → Option Value} {base : Heap}
/-! ### are_kinds -/
def p_are_kinds (v : V) (H : Hp) (Q : VK) : Prop := ∃ (a : Addr) (ks : List Str), v = .ref a ∧ Rd H a (.tup (ks.map V.str)) ∧ (∀ k ∈ ks, isName k = true) ∧ ks.Pairwise ltS ∧ 1 ≤ ks.length ∧ ks.length ≤ 12 ∧ ∀ H', Same H H' → Q (.bl true) H'
theorem sc_are_kinds : FnScope ["value", "name"] ["value"] (defScope s_are_kinds) := ⟨rfl, rfl, rfl, by decide +kernel, rfl, by decide +kernel, by decide +kernel⟩
theorem ok_are_kinds (T : Txt K mg) : Cal P w K mg base "are_kinds" 2 ["value"] (sp1 p_are_kinds) := by
  have G := ok_is_name (P := P) (w := w) (base := base) T
  have G2 := ok_is_ascending (P := P) (w := w) (base := base) T
  obtain ⟨tk, hk_⟩ := T.k_MOST_KINDS
  refine T.f_are_kinds.cal sc_are_kinds (fun _ _ _ _ _ _ us hl => match us, hl with | [_], _ => rfl) len1 fun f cdv A outer s H vs Q E hr h => ?_
  obtain ⟨_, rfl, a, ks, rfl, ha, hn, hp, h1, h2, q⟩ := h
  have hS : SqT K H a (ks.map V.str) := .inl ha
  refine ⟨_, pss_cons (ps_if (PW.pt (pw_or (pt_not (pt_val (pe_callB call_isi (by rfl) T.z_isinstance b_isinstance (pa_cons (pv 0) (pa_cons (pe_bltn (v := .ty "tuple") (by rfl) T.z_tuple b_tuple rfl) pa_nil)))))
      (pw_or1 (pt_not (pt_chain op_le op_le pe_int (pe_callB call_len_seq (by rfl) T.z_len b_len (pa_cons (pv 0) pa_nil)) (pe_glob (v := .int 12) (by rfl) hk_ ⟨_, rfl⟩))))))
      (pss_one (ps_ret pe_bl)) pss_nil)
    (pss_one (ps_ret (pe_and (pe_callB (cr_all rfl) (by rfl) T.z_all b_all (pa_cons
      (pe_lc (own := [("name", 1)]) (g := gName 1) (tt := tYes) rfl sc_are_kinds.nd (pi_tup (pv 0)) (blkOk_by (N := ["value", "name"]) (sc := defScope s_are_kinds) (by decide +kernel))
        (fun _ _ _ _ _ => pg_name (i := 1) sc_are_kinds.nd rfl (Or.inl rfl)) (fun _ _ _ _ _ => pts_nil)
        (fun _ _ _ _ _ => pe_cal G hr (by rfl) (pa_cons (pv 1) pa_nil))) pa_nil))
      (pe_one (pe_cal G2 hr (by rfl) (pa_cons (pv 0) pa_nil)))))), ?_⟩
  refine ⟨_, rfl, _, _, _, _, true, rfl, .ty _, rd_ty ha, kit_ty (by decide +kernel), true, rfl, ?_⟩
  refine iteF ?_
  refine ⟨_, rfl, a, _, rfl, .inr hS, 1, _, rfl, rfl, _, rfl, ?_⟩
  rw [List.length_map, decide_eq_true (show (1 : Int) ≤ (ks.length : Int) by omega)]
  refine iteT ⟨_, _, rfl, rfl, _, rfl, ?_⟩
  rw [decide_eq_true (show (ks.length : Int) ≤ 12 by omega)]
  refine iteF ?_
  refine ⟨_, rfl, a, rfl, ⟨_, hS⟩, fun D hD => lc_mapS walk_tup (fun _ => .bl true) hD (by rw [List.length_map]; omega) (fun H' sm => stup sm hS) (fun i v H' N hv sm fin => ?_) (fun H' sm hL => ?_)⟩
  · obtain ⟨k, hk, rfl⟩ := str_at hv
    have hkn := hn k (List.mem_of_getElem? hk)
    refine ⟨rfl, _, rfl, _, rfl, k, rfl, Nat.le_trans (name_len hkn) (by decide), fun H'' sm2 => ?_⟩
    rw [hkn]
    exact fin H'' sm2
  · refine ⟨D, ks.map (fun _ => true), rfl, .of (by rw [hL, List.map_map, List.map_map]; rfl), ?_⟩
    rw [all_id_map, List.all_eq_true.mpr fun n h => rfl]
    refine ⟨true, rfl, iteT ?_⟩
    refine ⟨_, rfl, _, rfl, a, ks.map V.str, rfl, stup sm hS, by rw [List.length_map]; omega, fun i x y hx hy => ?_, fun H2 sm3 => q _ (sm.trans sm3)⟩
    obtain ⟨m, hm, rfl⟩ := str_at hx
    obtain ⟨m2, hm2, rfl⟩ := str_at hy
    exact pw_next hp hm hm2
/-! ### Table -/
def fTb (kA tA : Addr) : List (Str × V) := [("kinds", .ref kA), ("totals", .ref tA)]
theorem fTb_kinds (kA tA : Addr) : (fTb kA tA).lookup ("kinds" : Str) = some (.ref kA) := by kernel_rfl
theorem fTb_totals (kA tA : Addr) : (fTb kA tA).lookup ("totals" : Str) = some (.ref tA) := by kernel_rfl
theorem fTb_init (kA tA : Addr) : putF "totals" (.ref tA) (putF "kinds" (.ref kA) []) = fTb kA tA := by kernel_rfl
def p_Tb_init (C : Addr) (v a b : V) (H : Hp) (Q : VK) : Prop := ∃ p dx kA tA ks ts, v = .ref p ∧ a = .ref kA ∧ b = .ref tA ∧ H p = some (.ins C dx []) ∧ KT H kA tA ks ts ∧ TabD ks ts ∧ ∀ H', H' p = some (.ins C dx (fTb kA tA)) → But p H H' → Q .non H'
theorem sc_Tb_init : FnScope ["self", "kinds", "totals", "at", "total"] ["self", "kinds", "totals"] (defScope s_Tb_init) := ⟨rfl, rfl, rfl, by decide +kernel, rfl, by decide +kernel, by decide +kernel⟩
theorem ok_Tb_init (T : Txt K mg) : CalI P w K mg base (CTb K) 5 ["self", "kinds", "totals"] (sp3 (p_Tb_init (CTb K))) := by
  have G := (ok_are_kinds (P := P) (w := w) (base := base) T).mono (show 2 ≤ 4 by decide)
  have G2 := ok_is_listing (P := P) (w := w) (base := base) T
  obtain ⟨tt_, ht_⟩ := T.k_MOST_TOTALS
  refine T.i_Tb.cal sc_Tb_init (fun _ _ _ _ _ _ us hl => match us, hl with | [_, _, _], _ => rfl) len3 fun f cdv A outer s H vs Q E hr h => ?_
  obtain ⟨_, _, _, rfl, p, dx, kA, tA, ks, ts, rfl, rfl, rfl, hp, hKT, hD, q⟩ := h
  have nd := sc_Tb_init.nd
  refine ⟨_, pss_cons (ps_if (pt_not (pt_val (pe_cal G hr (by rfl) (pa_cons (pv 1) pa_nil)))) pss_never pss_nil)
    (pss_cons (ps_if (PW.pt (pw_or (pt_not (pt_val (pe_callB call_isi (by rfl) T.z_isinstance b_isinstance (pa_cons (pv 2) (pa_cons (pe_bltn (v := .ty "tuple") (by rfl) T.z_tuple b_tuple rfl) pa_nil)))))
      (pw_or1 (pt_cmpR op_gt (pe_callB call_len_seq (by rfl) T.z_len b_len (pa_cons (pv 2) pa_nil)) (pe_glob (v := .int 12) (by rfl) ht_ ⟨_, rfl⟩) (nomark _))))) pss_never pss_nil)
    (pss_cons (ps_for PassesOwn.never rfl (pi_enumT (by rfl) T.z_enumerate (pa_cons (pv 2) pa_nil))
      (pg_tup rfl (pgs_cons (pg_name (i := 3) nd rfl (.inl rfl)) (pgs_cons (pg_name (i := 4) nd rfl (.inl rfl)) pgs_nil)))
      (pss_one (ps_if (pt_not (pt_val (pe_cal G2 hr (by rfl) (pa_cons (pv 4) (pa_cons (pe_callB call_len_seq (by rfl) T.z_len b_len (pa_cons (pv 1) pa_nil)) pa_nil))))) pss_never pss_nil)))
    (pss_cons (ps_fld (pv 0) (pv 1) rfl) (pss_one (ps_fld (pv 0) (pv 2) rfl))))), ?_⟩
  refine ⟨_, rfl, _, rfl, kA, ks, rfl, hKT.k, hD.name, hD.asc, hD.ne, hD.len, fun H1 sm1 => ⟨_, rfl, iteF ?_⟩⟩
  have hKT1 := hKT.same sm1
  obtain ⟨rs, hrs, hall⟩ := hKT1.t
  refine ⟨_, rfl, _, _, _, _, true, rfl, .ty _, .base (.tup hrs), kit_ty (by decide +kernel), true, rfl, ?_⟩
  refine iteF ⟨_, rfl, tA, rs, rfl, .inr (.of hrs), _, _, rfl, rfl, _, rfl, ?_⟩
  have hrl : rs.length ≤ 12 := by rw [hall.1]; exact hD.tlen
  rw [decide_eq_false (show ¬ (12 : Int) < (rs.length : Int) by omega)]
  refine iteF ?_
  refine ⟨_, rfl, tA, rs, rfl, .of hrs, ?_⟩
  refine for_it walk_enumT (fun i σ H' => ∃ v3 v4, σ = [some (.ref p), some (.ref kA), some (.ref tA), v3, v4] ∧ Same H1 H') ⟨none, none, rfl, Same.refl _⟩ (fun i σ H' _ ⟨_, _, _, sm⟩ => stup sm (.of hrs)) (fun i v σ H' H'' hi ⟨v3, v4, e, sm⟩ hy => ?_) (fun σ H' ⟨v3, v4, e, sm⟩ => ?_)
  · subst e
    obtain ⟨t, x, y, rfl, nt, rfl, e1, e2⟩ := hy
    cases e1
    have sm2 := sm.trans (same_upd (o := .tup [.int (i : Nat), y]) nt)
    refine ⟨t, _, rfl, .of upd_same, rfl, _, _, rfl, _, _, rfl, rfl, ?_⟩
    obtain ⟨ns, hns, a, rfl, ha⟩ := hall.get e2
    obtain ⟨hpw, hlt⟩ := hD.tot ns (List.mem_of_getElem? hns)
    have hl12 := asc_len hpw hlt
    have hdl := hD.len
    refine ⟨_, rfl, _, rfl, kA, _, rfl, .inr (stup (sm1.trans sm2) (.inl hKT.k)), ?_⟩
    rw [List.length_map]
    refine ⟨_, _, rfl, a, ns.map (fun n : Nat => (n : Int)), _, rfl, rfl, ?_, by rw [List.length_map]; omega, fun i hi => ?_, ?_, fun H3 sm3 => ⟨_, rfl, iteF ⟨_, _, rfl, sm2.trans sm3⟩⟩⟩
    · rw [List.map_map]
      exact sm2 _ _ ha
    · obtain ⟨n, hn, rfl⟩ := List.mem_map.mp hi
      have := hlt n hn
      omega
    · exact List.pairwise_map.mpr (hpw.imp fun h => by omega)
  · subst e
    have sm0 := sm1.trans sm
    have hp' := sm0 _ _ hp
    refine ⟨_, rfl, _, rfl, p, _, dx, _, rfl, hp', T.c_Tb, T.n_Tb_kinds, (by show 0 < 1000; decide), ?_⟩
    refine ⟨_, rfl, _, rfl, p, _, dx, _, rfl, upd_same, T.c_Tb, T.n_Tb_totals, (by show 1 < 1000; decide), ?_⟩
    refine q _ ?_ fun b o e hb => ?_
    · rw [upd_same]
      exact congrArg (fun z => some (HO.ins (CTb K) dx z)) (fTb_init kA tA)
    · rw [upd_ne hb, upd_ne hb]
      exact sm0 _ _ e
/-- a table stands at p -/
def TabAt (C : Addr) (H : Hp) (p : Addr) (ks : List Str) (ts : List (List Nat)) : Prop := ∃ dx kA tA, H p = some (.ins C dx (fTb kA tA)) ∧ KT H kA tA ks ts
theorem TabAt.same {C : Addr} {H H' : Hp} (sm : Same H H') {p : Addr} {ks : List Str} {ts : List (List Nat)} (h : TabAt C H p ks ts) : TabAt C H' p ks ts :=
  let ⟨dx, kA, tA, e, k⟩ := h; ⟨dx, kA, tA, sm _ _ e, k.same sm⟩
/-! ### Table.__eq__ -/
def REq (C : Addr) (a b : Addr) (H : Hp) : Prop := ∃ ks ts, TabAt C H a ks ts ∧ TabAt C H b ks ts
theorem sc_Tb_eq : FnScope ["self", "other"] ["self", "other"] (defScope s_Tb_eq) := ⟨rfl, rfl, rfl, by decide +kernel, rfl, by decide +kernel, by decide +kernel⟩
theorem ok_Tb_eq (T : Txt K mg) : CalM P w K mg base (CTb K) "__eq__" 3 ["self", "other"] (spEq (REq (CTb K))) := by
  refine T.m_Tb_eq.cal sc_Tb_eq (fun _ _ _ _ _ _ us hl => match us, hl with | [_, _], _ => rfl) (by rintro _ _ _ _ ⟨_, _, rfl, _⟩; rfl) fun f cdv A outer s H vs Q E hr h => ?_
  obtain ⟨a, b, rfl, ⟨ks, ts, ⟨dx1, kA1, tA1, e1, k1⟩, ⟨dx2, kA2, tA2, e2, k2⟩⟩, q⟩ := h
  have D1 : DTup K DFlat (.ref kA1) (.ref kA2) H := ⟨_, _, _, _, rfl, rfl, .inl k1.k, .inl k2.k, rfl, fun i x y hx hy => by
    rw [hx] at hy
    cases hy
    obtain ⟨k, _, rfl⟩ := str_at hx
    exact ⟨rfl, rfl, beq_self_eq_true k⟩⟩
  obtain ⟨rs1, t1, l1⟩ := k1.t
  obtain ⟨rs2, t2, l2⟩ := k2.t
  have D2 : DTup K (DTup K DFlat) (.ref tA1) (.ref tA2) H := ⟨_, _, _, _, rfl, rfl, .of t1, .of t2, l1.1.trans l2.1.symm, fun i x y hx hy => by
    obtain ⟨n1, h1, a1, rfl, u1⟩ := l1.get hx
    obtain ⟨n2, h2, a2, rfl, u2⟩ := l2.get hy
    rw [h1] at h2
    cases h2
    refine ⟨_, _, _, _, rfl, rfl, .of u1, .of u2, rfl, fun j x' y' hx' hy' => ?_⟩
    rw [hx'] at hy'
    cases hy'
    rw [List.getElem?_map] at hx'
    cases e : n1[j]? with
    | none => rw [e] at hx'; cases hx'
    | some n =>
      rw [e] at hx'
      cases hx'
      exact ⟨rfl, rfl, beq_self_eq_true (n : Int)⟩⟩
  refine ⟨_, pss_one (ps_ret (pe_and (pe_callB call_isi (by rfl) T.z_isinstance b_isinstance (pa_cons (pv 1) (pa_cons (pe_glob (v := .ref (CTb K)) (by rfl) T.g_Tb rfl) pa_nil)))
    (pe_and (pe_cmpR (op_eqG (rcG_tup mon_flat eqG_flat) (hr.mono (by decide))) (pe_fld (pv 0) rfl) (pe_fld (pv 1) rfl) (nomark _))
      (pe_one (pe_cmpR (op_eqG (rcG_tup (mon_tup mon_flat) (eqG_tup mon_flat eqG_flat)) (hr.mono (by decide))) (pe_fld (pv 0) rfl) (pe_fld (pv 1) rfl) (nomark _)))))), ?_⟩
  refine ⟨_, rfl, _, _, .ref (CTb K), _, true, rfl, .own _, .base (.ins e2 T.c_Tb T.e_Tb_cls T.e_Tb_get T.e_Tb_tk T.e_Tb_mro), ?_, true, rfl, ?_⟩
  · unfold PySem.W.kitOne
    rw [if_pos (beq_self_eq_true _)]
  refine iteT ?_
  refine ⟨_, rfl, a, _, dx1, _, _, rfl, e1, T.c_Tb, T.n_Tb_kinds, fTb_kinds _ _, _, rfl, b, _, dx2, _, _, rfl, e2, T.c_Tb, T.n_Tb_kinds, fTb_kinds _ _, D1, fun H1 x1 => ⟨true, rfl, iteT ?_⟩⟩
  exact ⟨_, rfl, a, _, dx1, _, _, rfl, x1 _ _ e1, T.c_Tb, T.n_Tb_totals, fTb_totals _ _, _, rfl, b, _, dx2, _, _, rfl, x1 _ _ e2, T.c_Tb, T.n_Tb_totals, fTb_totals _ _, mon_tup (mon_tup mon_flat) _ _ _ _ x1 D2, fun H2 x2 => q H2 (Ext.trans x1 x2)⟩
end
end K7
/-! ## K7W7 -/
set_option Elab.async false
set_option linter.all false
set_option maxRecDepth 100000
set_option maxHeartbeats 4000000
namespace K7
open PySem PySem.Spec PyProof.Rows L2
/-! ### a TableText -/
def fT (x : TS') (k o : Addr) : List (Str × V) := [("stage", .str x.str), ("kinds", .ref k), ("totals", .ref o)]
theorem fT_stage (x : TS') (k o : Addr) : (fT x k o).lookup ("stage" : Str) = some (.str x.str) := by kernel_rfl
theorem fT_kinds (x : TS') (k o : Addr) : (fT x k o).lookup ("kinds" : Str) = some (.ref k) := by kernel_rfl
theorem fT_totals (x : TS') (k o : Addr) : (fT x k o).lookup ("totals" : Str) = some (.ref o) := by kernel_rfl
theorem fT_m1 (x : TS') (k o : Addr) : (fT x k o).lookup ("end_line" : Str) = none := by kernel_rfl
theorem fT_m2 (x : TS') (k o : Addr) : (fT x k o).lookup ("take" : Str) = none := by kernel_rfl
theorem fT_m3 (x : TS') (k o : Addr) : (fT x k o).lookup ("ends" : Str) = none := by kernel_rfl
theorem fT_m4 (x : TS') (k o : Addr) : (fT x k o).lookup ("told" : Str) = none := by kernel_rfl
theorem fT_put (x y : TS') (k o : Addr) : putF "stage" (.str y.str) (fT x k o) = fT y k o := by kernel_rfl
theorem fT_init (k o : Addr) : putF "totals" (.ref o) (putF "kinds" (.ref k) (putF "stage" (.str "begin") [])) = fT .begin k o := by kernel_rfl
theorem fT_len (x : TS') (k o : Addr) : (fT x k o).length < 1000 := by show 3 < 1000; decide
theorem ts_dec (a b : TS') : decide (V.str a.str = V.str b.str) = decide (a = b) := by
  cases a <;> cases b <;> decide +kernel
/-- a list of texts -/
def LsAt (H : Hp) (a : Addr) (t : List Str) : Prop := H a = some (.lst (t.map V.str))
structure TCore (C : Addr) (H : Hp) (p dx k o : Addr) (as : List Addr) (s : TSt) : Prop where
  hp : H p = some (.ins C dx (fT s.st k o))
  hk : LsAt H k s.ks
  ho : H o = some (.lst (as.map V.ref))
  ko : k ≠ o
  nd : as.Nodup
  ka : k ∉ as
  oa : o ∉ as
  al : All2 (LsAt H) as s.ts
  nm : ∀ x ∈ s.ks, isName x = true
  kl : s.ks.length ≤ 12
  tl : s.ts.length ≤ 12
  tt : ∀ t ∈ s.ts, t.length ≤ 12
def TAt (C : Addr) (H0 H : Hp) (p : Addr) (s : TSt) : Prop := Same H0 H ∧ H0 p = none ∧ ∃ dx k o as, TCore C H p dx k o as s ∧ H0 k = none ∧ H0 o = none ∧ ∀ a ∈ as, H0 a = none
theorem TCore.same {C : Addr} {H H' : Hp} {p dx k o : Addr} {as : List Addr} {s : TSt} (h : TCore C H p dx k o as s) (sm : Same H H') : TCore C H' p dx k o as s :=
  ⟨sm _ _ h.hp, sm _ _ h.hk, sm _ _ h.ho, h.ko, h.nd, h.ka, h.oa, h.al.mono fun _ _ e => sm _ _ e, h.nm, h.kl, h.tl, h.tt⟩
theorem TCore.pk {C : Addr} {H : Hp} {p dx k o : Addr} {as : List Addr} {s : TSt} (h : TCore C H p dx k o as s) : p ≠ k := ne_of h.hp h.hk (by intro z; cases z)
theorem TCore.po {C : Addr} {H : Hp} {p dx k o : Addr} {as : List Addr} {s : TSt} (h : TCore C H p dx k o as s) : p ≠ o := ne_of h.hp h.ho (by intro z; cases z)
theorem TCore.pa {C : Addr} {H : Hp} {p dx k o : Addr} {as : List Addr} {s : TSt} (h : TCore C H p dx k o as s) {a : Addr} (ha : a ∈ as) : p ≠ a := by
  obtain ⟨i, hi, e⟩ := List.mem_iff_getElem.mp ha
  obtain ⟨t, _, q⟩ := h.al.get (i := i) (x := a) (by rw [List.getElem?_eq_getElem hi, e])
  exact ne_of h.hp q (by intro z; cases z)
theorem TCore.stage {C : Addr} {H : Hp} {p dx k o : Addr} {as : List Addr} {s : TSt} (h : TCore C H p dx k o as s) (x : TS') : TCore C (upd H p (.ins C dx (fT x k o))) p dx k o as ⟨x, s.ks, s.ts⟩ :=
  ⟨upd_same, by show upd _ _ _ _ = _; rw [upd_ne h.pk.symm]; exact h.hk, by rw [upd_ne h.po.symm]; exact h.ho, h.ko, h.nd, h.ka, h.oa,
    ⟨h.al.1, fun i a t ha ht => by
      show upd _ _ _ _ = _
      rw [upd_ne (h.pa (List.mem_of_getElem? ha)).symm]
      exact h.al.2 i a t ha ht⟩, h.nm, h.kl, h.tl, h.tt⟩
theorem TAt.of {C : Addr} {H0 H H' : Hp} {p dx k o : Addr} {as as' : List Addr} {s s' : TSt} (h : TAt C H0 H p s) (c : TCore C H' p dx k o as' s') (hk : H0 k = none) (ho : H0 o = none) (ha : ∀ a ∈ as', H0 a = none) (sm : Same H0 H') : TAt C H0 H' p s' :=
  ⟨sm, h.2.1, dx, k, o, as', c, hk, ho, ha⟩
theorem same_at {H0 H : Hp} {b : Addr} {u : HO} (sm : Same H0 H) (h : H0 b = none) : Same H0 (upd H b u) := fun c v e => by
  rw [upd_ne (ne_of_none e h)]
  exact sm _ _ e
theorem inV_strs (m : Str) (ks : List Str) : inV (.str m) (ks.map V.str) = decide (m ∈ ks) := by
  unfold inV
  rw [List.any_map]
  induction ks with
  | nil => simp
  | cons k ks ih =>
    rw [List.any_cons, ih]
    show ((k == m) || decide (m ∈ ks)) = decide (m ∈ k :: ks)
    by_cases h : k = m
    · subst h
      simp
    · have h' : ¬ m = k := fun z => h z.symm
      simp [h, h']
theorem cut_last (ks : List Str) (m : Str) : cutV ((ks ++ [m]).map V.str) none (some (-1)) = ks.map V.str := by
  unfold cutV
  rw [HT.sIx_none]
  have e : HT.sIx ((ks ++ [m]).map V.str).length ((ks ++ [m]).map V.str).length (some (-1)) = ks.length := by
    unfold HT.sIx
    rw [List.length_map, List.length_append, List.length_singleton]
    simp
    omega
  rw [e, List.drop_zero, Nat.sub_zero, List.map_append, List.take_left' (by rw [List.length_map])]
theorem strOk_name {m : Str} (h : isName m = true) : PyData.strOk m = true := by
  unfold PyData.strOk
  rw [← Array.all_toList]
  exact List.all_eq_true.mpr fun c hc => by
    have := isLet_iff.mp (name_let h c hc)
    exact decide_eq_true (by omega)
theorem shaped_names {ks : List Str} (h : ∀ k ∈ ks, isName k = true) : SeqAt.shaped (.list (ks.map PyData.str)) = true := by
  unfold SeqAt.shaped
  have h1 : ∀ ks : List Str, (∀ k ∈ ks, isName k = true) → PyData.canLayAll0 (ks.map PyData.str) = true := by
    intro ks
    induction ks with
    | nil => intro _; rfl
    | cons k ks ih =>
      intro h
      rw [List.map_cons, PyData.canLayAll0, ih fun x hx => h x (List.mem_cons_of_mem _ hx)]
      rw [show PyData.canLay0 (.str k) = true from strOk_name (h k List.mem_cons_self)]
      rfl
  have h2 : ∀ ks : List Str, PyData.depthAll (ks.map PyData.str) = 0 := by
    intro ks
    induction ks with
    | nil => rfl
    | cons k ks ih =>
      rw [List.map_cons, PyData.depthAll, ih]
      rfl
  have e1 : PyData.canLay0 (.list (ks.map PyData.str)) = true := by
    rw [PyData.canLay0]
    exact h1 ks h
  have e2 : PyData.depth (.list (ks.map PyData.str)) = 1 := by
    rw [PyData.depth, h2]
  rw [e1, e2]
  rfl
theorem dp_names {K : PySem.W.Frag} {H : Hp} {a : Addr} {ks : List Str} (h : LsAt H a ks) : Dp K H (.ref a) (.list (ks.map PyData.str)) := by
  refine .lst (.of h) ?_
  have : ∀ ks : List Str, DpAll K H (ks.map V.str) (ks.map PyData.str) := by
    intro ks
    induction ks with
    | nil => exact .nil
    | cons k ks ih => exact .cons (.str k) ih
  exact this ks
theorem eqv_nil (ks : List Str) : PyData.eqv (.list (ks.map PyData.str)) (.list []) = decide (ks = []) := by
  cases ks with
  | nil => rfl
  | cons k ks =>
    rw [PyData.eqv]
    rfl
theorem shaped_nil : SeqAt.shaped (.list []) = true := by decide
section
variable {P : Program} {w : World} {K : PySem.W.Frag} {mg : Str → Option Value} {base : Heap}
/-! ### __init__ -/
def p_T_init (C : Addr) (v : V) (H : Hp) (Q : VK) : Prop := ∃ (H0 : Hp) (p dx : Addr), v = .ref p ∧ H p = some (.ins C dx []) ∧ Same H0 H ∧ H0 p = none ∧ ∀ H', TAt C H0 H' p TSt.init → Q .non H'
theorem sc_T_init : FnScope ["self"] ["self"] (defScope s_T_init) := ⟨rfl, rfl, rfl, by decide +kernel, rfl, by decide +kernel, by decide +kernel⟩
theorem ok_T_init (T : Txt K mg) : CalI P w K mg base (CT K) 1 ["self"] (sp1 (p_T_init (CT K))) := by
  refine T.i_T.cal sc_T_init (fun _ _ _ _ _ _ us hl => match us, hl with | [_], _ => rfl) len1 fun f cdv A outer s H vs Q E hr h => ?_
  obtain ⟨_, rfl, H0, p, dx, rfl, hp, sm, np, q⟩ := h
  refine ⟨_, pss_cons (ps_fld (pv 0) pe_str rfl) (pss_one (ps_asg (pe_tup (pa_cons (pe_lst pa_nil) (pa_cons (pe_lst pa_nil) pa_nil)))
    (pg_tup rfl (pgs_cons (pg_fld (pv 0)) (pgs_cons (pg_fld (pv 0)) pgs_nil))))), ?_⟩
  refine ⟨_, rfl, p, _, dx, [], rfl, hp, T.c_T, T.n_T_stage, (by show 0 < 1000; decide), Nat.zero_le _, fun k nk => ⟨Nat.zero_le _, fun o no => ⟨(by show 2 ≤ sizeLine; decide), fun t nt => ?_⟩⟩⟩
  have npk : p ≠ k := fun e => by rw [← e, upd_same] at nk; cases nk
  have nk0 : H k = none := by rw [upd_ne npk.symm] at nk; exact nk
  have nko : k ≠ o := fun e => by rw [← e, upd_same] at no; cases no
  have npo : p ≠ o := fun e => by rw [← e, upd_ne npk, upd_same] at no; cases no
  have no0 : H o = none := by rw [upd_ne nko.symm, upd_ne npo.symm] at no; exact no
  have nto : t ≠ o := fun e => by rw [e, upd_same] at nt; cases nt
  have ntk : t ≠ k := fun e => by rw [e, upd_ne nko, upd_same] at nt; cases nt
  have ntp : t ≠ p := fun e => by rw [e, upd_ne npo, upd_ne npk, upd_same] at nt; cases nt
  have nt0 : H t = none := by rw [upd_ne nto, upd_ne ntk, upd_ne ntp] at nt; exact nt
  refine ⟨t, _, rfl, .of upd_same, rfl, ?_⟩
  refine ⟨_, _, rfl, _, rfl, p, _, dx, _, rfl, (by rw [upd_ne ntp.symm, upd_ne npo, upd_ne npk, upd_same]), T.c_T, T.n_T_kinds, (by show 1 < 1000; decide), ?_⟩
  refine ⟨_, _, rfl, _, rfl, p, _, dx, _, rfl, upd_same, T.c_T, T.n_T_totals, (by show 2 < 1000; decide), rfl, ?_⟩
  refine q _ ⟨?_, np, dx, k, o, [], ⟨?_, ?_, ?_, nko, List.nodup_nil, by simp, by simp, All2.nil, (fun x hx => by cases hx), Nat.zero_le _, Nat.zero_le _, (fun t ht => by cases ht)⟩, sm.free nk0, sm.free no0, fun a ha => by cases ha⟩
  · exact same_at (same_at (same_at (same_at (same_at (same_at sm np) (sm.free nk0)) (sm.free no0)) (sm.free nt0)) np) np
  · rw [upd_same]
    exact congrArg (fun z => some (HO.ins (CT K) dx z)) (fT_init k o)
  · show upd _ _ _ _ = _
    rw [upd_ne npk.symm, upd_ne npk.symm, upd_ne ntk.symm, upd_ne nko, upd_same]
    rfl
  · rw [upd_ne npo.symm, upd_ne npo.symm, upd_ne nto.symm, upd_same]
    rfl
/-! ### end_line -/
def p_T_end_line (C : Addr) (v : V) (H : Hp) (Q : VK) : Prop := ∃ (H0 : Hp) (p : Addr) (s s' : TSt), v = .ref p ∧ TAt C H0 H p s ∧ stepT s "\n" = some s' ∧ ∀ H', TAt C H0 H' p s' → TupK H H' → Q (.bl true) H'
theorem sc_T_end_line : FnScope ["self"] ["self"] (defScope s_T_end_line) := ⟨rfl, rfl, rfl, by decide +kernel, rfl, by decide +kernel, by decide +kernel⟩
theorem ok_T_end_line (T : Txt K mg) : CalM P w K mg base (CT K) "end_line" 1 ["self"] (sp1 (p_T_end_line (CT K))) := by
  refine T.m_T_end_line.cal sc_T_end_line (fun _ _ _ _ _ _ us hl => match us, hl with | [_], _ => rfl) len1 fun f cdv A outer s0 H vs Q E hr h => ?_
  obtain ⟨_, rfl, H0, p, s, s', rfl, hA, hs, q⟩ := h
  obtain ⟨sm, np, dx, k, o, as, c, nk, no, na⟩ := hA
  unfold stepT at hs
  rw [if_pos rfl] at hs
  refine ⟨_, pss_cons (ps_if (PW.pt (pw_and (pt_cmpR op_eq (pe_fld (pv 0) rfl) pe_str (nomark _)) (pw_and1 (pt_cmpR (op_eqD hr.units) (pe_fld (pv 0) rfl) (pe_lst pa_nil) (nomark _))))) (pss_one (ps_ret pe_bl)) pss_nil)
    (pss_cons (ps_if (pt_cmpR op_ne (pe_fld (pv 0) rfl) pe_str (nomark _)) (pss_one (ps_fld (pv 0) pe_str rfl)) pss_nil)
    (pss_one (ps_ret pe_bl))), ?_⟩
  have body : ∀ H1, Same H H1 → (tSeq (tIfS (tTest (tOp rNe (tFld K (tVar 0) "stage") (tC (.str "begin")))) (sFld K (tVar 0) (tC (.str "line")) "stage") tNext) (tRet (tC (.bl true))))
      { nx := fun _ H' => Q .non H', rt := Q } [some (.ref p)] H1 := by
    intro H1 sm1
    have c1 := c.same sm1
    refine ⟨_, rfl, p, _, dx, _, _, rfl, c1.hp, T.c_T, T.n_T_stage, fT_stage _ _ _, rfl, _, rfl, ?_⟩
    rw [show decide (V.str s.st.str = V.str (Str.ofString "begin")) = decide (s.st = .begin) from ts_dec s.st .begin]
    split at hs
    · cases hs
    · have hs' := Option.some.inj hs
      by_cases hb : s.st = .begin
      · rw [if_pos hb] at hs'
        subst hs'
        rw [decide_eq_true hb]
        exact iteF (q H1 ⟨sm.trans sm1, np, dx, k, o, as, c1, nk, no, na⟩ (TupK.same sm1))
      · rw [if_neg hb] at hs'
        subst hs'
        rw [decide_eq_false hb]
        refine iteT ⟨_, rfl, p, _, dx, _, rfl, c1.hp, T.c_T, T.n_T_stage, fT_len _ _ _, ?_⟩
        rw [show putF (Str.ofString "stage") (V.str (Str.ofString "line")) (fT s.st k o) = _ from fT_put s.st .line k o]
        exact q _ ⟨same_at (sm.trans sm1) np, np, dx, k, o, as, c1.stage .line, nk, no, na⟩ fun b xs e => by rw [upd_ne (ne_of (sm1 _ _ e) c1.hp (by intro z; cases z))]; exact sm1 _ _ e
  refine ⟨_, rfl, p, _, dx, _, _, rfl, c.hp, T.c_T, T.n_T_stage, fT_stage _ _ _, rfl, _, rfl, ?_⟩
  rw [show decide (V.str s.st.str = V.str (Str.ofString "kinds")) = decide (s.st = .kinds) from ts_dec s.st .kinds]
  by_cases h1 : s.st = .kinds
  · rw [decide_eq_true h1]
    refine iteT ⟨_, rfl, p, _, dx, _, _, rfl, c.hp, T.c_T, T.n_T_kinds, fT_kinds _ _ _, Nat.zero_le _, fun l nl => ?_⟩
    have sm1 : Same H (upd H l (.lst [])) := same_upd nl
    refine ⟨.list (s.ks.map PyData.str), .list [], dp_names (sm1 _ _ c.hk), .lst (.of upd_same) .nil, shaped_names c.nm, shaped_nil, _, rfl, ?_⟩
    rw [eqv_nil]
    have hne : ¬ s.ks = [] := fun z => by rw [if_pos ⟨h1, z⟩] at hs; cases hs
    rw [decide_eq_false hne]
    exact iteF (body _ sm1)
  · rw [decide_eq_false h1]
    exact iteF (iteF (body _ (Same.refl H)))
/-! ### ends -/
def p_T_ends (C : Addr) (v : V) (H : Hp) (Q : VK) : Prop := ∃ (H0 : Hp) (p : Addr) (s : TSt), v = .ref p ∧ TAt C H0 H p s ∧ s.ks ≠ [] ∧ ∀ H', TAt C H0 H' p s → Q (.bl true) H'
theorem sc_T_ends : FnScope ["self"] ["self"] (defScope s_T_ends) := ⟨rfl, rfl, rfl, by decide +kernel, rfl, by decide +kernel, by decide +kernel⟩
theorem ok_T_ends (T : Txt K mg) : CalM P w K mg base (CT K) "ends" 1 ["self"] (sp1 (p_T_ends (CT K))) := by
  refine T.m_T_ends.cal sc_T_ends (fun _ _ _ _ _ _ us hl => match us, hl with | [_], _ => rfl) len1 fun f cdv A outer s0 H vs Q E hr h => ?_
  obtain ⟨_, rfl, H0, p, s, rfl, hA, hne, q⟩ := h
  obtain ⟨sm, np, dx, k, o, as, c, nk, no, na⟩ := hA
  refine ⟨_, pss_one (ps_ret (pe_cmpR (op_neD hr.units) (pe_fld (pv 0) rfl) (pe_lst pa_nil) (nomark _))), ?_⟩
  refine ⟨_, rfl, p, _, dx, _, _, rfl, c.hp, T.c_T, T.n_T_kinds, fT_kinds _ _ _, Nat.zero_le _, fun l nl => ?_⟩
  have sm1 : Same H (upd H l (.lst [])) := same_upd nl
  refine ⟨.list (s.ks.map PyData.str), .list [], dp_names (sm1 _ _ c.hk), .lst (.of upd_same) .nil, shaped_names c.nm, shaped_nil, ?_⟩
  rw [eqv_nil, decide_eq_false hne]
  exact q _ ⟨sm.trans sm1, np, dx, k, o, as, c.same sm1, nk, no, na⟩
end
end K7
/-! ## K7W8 -/
set_option Elab.async false
set_option linter.all false
set_option maxRecDepth 100000
set_option maxHeartbeats 4000000
namespace K7
open PySem PySem.Spec PyProof.Rows L2
theorem cut_lastV (xs : List V) (x : V) : cutV (xs ++ [x]) none (some (-1)) = xs := by
  unfold cutV
  rw [HT.sIx_none]
  have e : HT.sIx (xs ++ [x]).length (xs ++ [x]).length (some (-1)) = xs.length := by
    unfold HT.sIx
    rw [List.length_append, List.length_singleton]
    simp
    omega
  rw [e, List.drop_zero, Nat.sub_zero, List.take_left' rfl]
theorem TupK.upd {H H1 : Hp} {a : Addr} {o u : HO} (h : TupK H H1) (e : H1 a = some o) (hn : ∀ xs, HO.tup xs ≠ o) : TupK H (upd H1 a u) := fun b xs eb => by
  rw [upd_ne (ne_of (h _ _ eb) e (hn xs))]
  exact h _ _ eb
theorem TupK.new {H H1 : Hp} {a : Addr} {u : HO} (h : TupK H H1) (e : H1 a = none) : TupK H (L2.upd H1 a u) := fun b xs eb => by
  rw [upd_ne (ne_of_none (h _ _ eb) e)]
  exact h _ _ eb
theorem all_flat_str (ks : List Str) : (ks.map V.str).all flatV = true := by
  rw [List.all_map]
  exact List.all_eq_true.mpr fun x _ => rfl
section
variable {C : Addr} {H : Hp} {p dx k o : Addr} {as : List Addr} {s : TSt}
theorem TCore.ak {a : Addr} (h : TCore C H p dx k o as s) (ha : a ∈ as) : a ≠ k := fun e => h.ka (e ▸ ha)
theorem TCore.ao {a : Addr} (h : TCore C H p dx k o as s) (ha : a ∈ as) : a ≠ o := fun e => h.oa (e ▸ ha)
theorem TCore.kput {st : TS'} {ks : List Str} {ts : List (List Str)} {m : Str} (h : TCore C H p dx k o as ⟨st, ks, ts⟩) (hm : isName m = true) (hl : ks.length + 1 ≤ 12) : TCore C (upd H k (.lst (ks.map V.str ++ [.str m]))) p dx k o as ⟨st, ks ++ [m], ts⟩ where
  hp := by rw [upd_ne h.pk]; exact h.hp
  hk := by
    show upd _ _ _ _ = some (HO.lst ((ks ++ [m]).map V.str))
    rw [upd_same, List.map_append]
    rfl
  ho := by rw [upd_ne h.ko.symm]; exact h.ho
  ko := h.ko
  nd := h.nd
  ka := h.ka
  oa := h.oa
  al := ⟨h.al.1, fun i a t ha ht => by
    show upd _ _ _ _ = _
    rw [upd_ne (h.ak (List.mem_of_getElem? ha))]
    exact h.al.2 i a t ha ht⟩
  nm := fun x hx => by
    rcases List.mem_append.mp hx with hx | hx
    · exact h.nm x hx
    · rw [List.mem_singleton.mp hx]
      exact hm
  kl := by
    show (ks ++ [m]).length ≤ 12
    rw [List.length_append, List.length_singleton]
    exact hl
  tl := h.tl
  tt := h.tt
theorem TCore.oput {st : TS'} {ks : List Str} {ts : List (List Str)} {t : Addr} (h : TCore C H p dx k o as ⟨st, ks, ts⟩) (nt : H t = none) (hl : ts.length + 1 ≤ 12) : TCore C (upd (upd H t (.lst [])) o (.lst (as.map V.ref ++ [.ref t]))) p dx k o (as ++ [t]) ⟨st, ks, ts ++ [[]]⟩ where
  hp := by rw [upd_ne h.po, upd_ne (ne_of_none h.hp nt)]; exact h.hp
  hk := by
    show upd _ _ _ _ = _
    rw [upd_ne h.ko, upd_ne (ne_of_none h.hk nt)]; exact h.hk
  ho := by
    rw [upd_same, List.map_append]
    rfl
  ko := h.ko
  nd := by
    refine List.nodup_append.mpr ⟨h.nd, by simp, fun a ha b hb e => ?_⟩
    rw [List.mem_singleton.mp hb] at e
    obtain ⟨i, hi, ei⟩ := List.mem_iff_getElem.mp ha
    obtain ⟨u, _, q⟩ := h.al.get (i := i) (x := a) (by rw [List.getElem?_eq_getElem hi, ei])
    have q' : H a = _ := q
    rw [e, nt] at q'
    cases q'
  ka := fun hz => by
    rcases List.mem_append.mp hz with hz | hz
    · exact h.ka hz
    · have q : H k = _ := h.hk
      rw [List.mem_singleton.mp hz, nt] at q
      cases q
  oa := fun hz => by
    rcases List.mem_append.mp hz with hz | hz
    · exact h.oa hz
    · have q := h.ho
      rw [List.mem_singleton.mp hz, nt] at q
      cases q
  al := by
    have hot : o ≠ t := ne_of_none h.ho nt
    refine All2.snoc ⟨h.al.1, fun i a u ha hu => ?_⟩ (by show upd _ _ _ _ = _; rw [upd_ne hot.symm, upd_same]; rfl)
    have q := h.al.2 i a u ha hu
    show upd _ _ _ _ = _
    rw [upd_ne (h.ao (List.mem_of_getElem? ha)), upd_ne (ne_of_none q nt)]
    exact q
  nm := h.nm
  kl := h.kl
  tl := by
    show (ts ++ [[]]).length ≤ 12
    rw [List.length_append, List.length_singleton]
    exact hl
  tt := fun t ht => by
    rcases List.mem_append.mp ht with ht | ht
    · exact h.tt t ht
    · rw [List.mem_singleton.mp ht]
      exact Nat.zero_le _
theorem TCore.tput {st : TS'} {ks : List Str} {ts : List (List Str)} {t : List Str} {as : List Addr} {a : Addr} {m : Str} (h : TCore C H p dx k o (as ++ [a]) ⟨st, ks, ts ++ [t]⟩) (hl : t.length < 12) : TCore C (upd H a (.lst (t.map V.str ++ [.str m]))) p dx k o (as ++ [a]) ⟨st, ks, ts ++ [t ++ [m]]⟩ := by
  have ha : a ∈ as ++ [a] := List.mem_append_right _ List.mem_cons_self
  exact {
    hp := by rw [upd_ne (h.pa ha)]; exact h.hp
    hk := by
      show upd _ _ _ _ = _
      rw [upd_ne (h.ak ha).symm]; exact h.hk
    ho := by rw [upd_ne (h.ao ha).symm]; exact h.ho
    ko := h.ko
    nd := h.nd
    ka := h.ka
    oa := h.oa
    al := by
      have hl' : as.length = ts.length := by
        have := h.al.1
        rw [List.length_append, List.length_append] at this
        exact Nat.succ.inj this
      refine All2.snoc ⟨hl', fun i b u hb hu => ?_⟩ (by show upd _ _ _ _ = _; rw [upd_same, List.map_append]; rfl)
      have hi := (List.getElem?_eq_some_iff.mp hb).1
      have hne : b ≠ a := fun e => (List.nodup_append.mp h.nd).2.2 b (List.mem_of_getElem? hb) a List.mem_cons_self e
      show upd _ _ _ _ = _
      rw [upd_ne hne]
      exact h.al.2 i b u (by rw [List.getElem?_append_left hi]; exact hb) (by rw [List.getElem?_append_left (hl' ▸ hi)]; exact hu)
    nm := h.nm
    kl := h.kl
    tl := by
      have := h.tl
      show (ts ++ [t ++ [m]]).length ≤ 12
      rw [List.length_append] at this ⊢
      exact this
    tt := fun u hu => by
      rcases List.mem_append.mp hu with hu | hu
      · exact h.tt u (List.mem_append_left _ hu)
      · rw [List.mem_singleton.mp hu, List.length_append]
        exact hl }
end
theorem concat_of {α : Type} {l : List α} (h : l ≠ []) : ∃ xs x, l = xs ++ [x] := ⟨l.dropLast, l.getLast h, (List.dropLast_concat_getLast h).symm⟩
section
variable {P : Program} {w : World} {K : PySem.W.Frag} {mg : Str → Option Value} {base : Heap}
/-! ### take -/
def p_T_take (C : Addr) (v a : V) (H : Hp) (Q : VK) : Prop := ∃ (H0 : Hp) (p : Addr) (s : TSt) (m : Str) (s' : TSt), v = .ref p ∧ a = .str m ∧ TAt C H0 H p s ∧ stepT s m = some s' ∧ ∀ H', TAt C H0 H' p s' → TupK H H' → Q (.bl true) H'
theorem sc_T_take : FnScope ["self", "mark"] ["self", "mark"] (defScope s_T_take) := ⟨rfl, rfl, rfl, by decide +kernel, rfl, by decide +kernel, by decide +kernel⟩
theorem ok_T_take (T : Txt K mg) : CalM P w K mg base (CT K) "take" 2 ["self", "mark"] (sp2 (p_T_take (CT K))) := by
  have G := ok_is_name (P := P) (w := w) (base := base) T
  have GE := ok_T_end_line (P := P) (w := w) (base := base) T
  obtain ⟨t1_, h1_⟩ := T.k_MOST_KINDS
  obtain ⟨t2_, h2_⟩ := T.k_MOST_TOTALS
  refine T.m_T_take.cal sc_T_take (fun _ _ _ _ _ _ us hl => match us, hl with | [_, _], _ => rfl) len2 fun f cdv A outer s0 H vs Q E hr h => ?_
  obtain ⟨_, _, rfl, H0, p, s, m, s', rfl, rfl, hA, hs, q⟩ := h
  refine ⟨_, pss_cons (ps_if (pt_cmpR op_eq (pv 1) pe_str (nomark _)) (pss_one (ps_ret (pe_calM0 GE T.c_T hr (pv 0)))) pss_nil)
    (pss_cons (ps_if (pt_cmpR op_eq (pe_fld (pv 0) rfl) pe_str (nomark _)) (pss_cons (ps_fld (pv 0) pe_str rfl) (pss_one (ps_ret (pe_cmpR op_eq (pv 1) pe_str (nomark _))))) pss_nil)
    (pss_cons (ps_if (pt_cmpR op_eq (pe_fld (pv 0) rfl) pe_str (nomark _))
      (pss_cons (ps_expr (pe_bm PySem.F.plainAttrs_list PySem.F.slot_list_append PySem.F.type_list_append mt_append (pe_fld (pv 0) rfl) (pa_cons (pv 1) pa_nil)))
      (pss_one (ps_ret (pe_and (pe_cal G hr (by rfl) (pa_cons (pv 1) pa_nil)) (pe_and (pe_cmpR op_notIn_seq (pv 1) (pe_slice sl_list (pe_fld (pv 0) rfl) po_none (po_some (pe_un un_neg pe_int))) (by rfl))
        (pe_one (pe_cmpR op_le (pe_callB call_len_seq (by rfl) T.z_len b_len (pa_cons (pe_fld (pv 0) rfl) pa_nil)) (pe_glob (v := .int 12) (by rfl) h1_ ⟨_, rfl⟩) (nomark _)))))))) pss_nil)
    (pss_cons (ps_if (pt_cmpR op_eq (pe_fld (pv 0) rfl) pe_str (nomark _))
      (pss_cons (ps_fld (pv 0) pe_str rfl)
      (pss_cons (ps_expr (pe_bm PySem.F.plainAttrs_list PySem.F.slot_list_append PySem.F.type_list_append mt_append (pe_fld (pv 0) rfl) (pa_cons (pe_lst pa_nil) pa_nil)))
      (pss_one (ps_ret (pe_and (pe_cmpR op_eq (pv 1) pe_str (nomark _))
        (pe_one (pe_cmpR op_le (pe_callB call_len_seq (by rfl) T.z_len b_len (pa_cons (pe_fld (pv 0) rfl) pa_nil)) (pe_glob (v := .int 12) (by rfl) h2_ ⟨_, rfl⟩) (nomark _)))))))) pss_nil)
    (pss_cons (ps_expr (pe_bm PySem.F.plainAttrs_list PySem.F.slot_list_append PySem.F.type_list_append mt_append (pe_ix ix_list (pe_fld (pv 0) rfl) (pe_un un_neg pe_int) (fun _ _ => rfl)) (pa_cons (pv 1) pa_nil)))
    (pss_one (ps_ret (pe_and (pe_cmpR op_in_seq (pv 1) (pe_fld (pv 0) rfl) (by rfl))
      (pe_one (pe_cmpR op_notIn_seq (pv 1) (pe_slice sl_list (pe_ix ix_list (pe_fld (pv 0) rfl) (pe_un un_neg pe_int) (fun _ _ => rfl)) po_none (po_some (pe_un un_neg pe_int))) (by rfl)))))))))), ?_⟩
  refine ⟨_, rfl, rfl, _, rfl, ?_⟩
  by_cases hnl : m = "\n"
  · rw [decide_eq_true (congrArg V.str hnl)]
    subst hnl
    obtain ⟨sm, np, dx, k, o, as, c, nk, no, na⟩ := id hA
    exact iteT ⟨_, rfl, p, dx, _, rfl, c.hp, fT_m1 _ _ _, _, rfl, H0, p, s, s', rfl, hA, hs, q⟩
  rw [decide_eq_false (fun z => hnl (V.str.inj z))]
  refine iteF ?_
  obtain ⟨sm, np, dx, k, o, as, c, nk, no, na⟩ := hA
  unfold stepT at hs
  rw [if_neg hnl] at hs
  refine ⟨_, rfl, p, _, dx, _, _, rfl, c.hp, T.c_T, T.n_T_stage, fT_stage _ _ _, rfl, _, rfl, ?_⟩
  rw [show decide (V.str s.st.str = V.str (Str.ofString "begin")) = decide (s.st = .begin) from ts_dec s.st .begin]
  by_cases hb : s.st = .begin
  · rw [decide_eq_true hb]
    rw [hb] at hs
    dsimp only at hs
    split at hs
    · rename_i hm
      cases hs
      refine iteT ⟨_, rfl, p, _, dx, _, rfl, c.hp, T.c_T, T.n_T_stage, fT_len _ _ _, ?_⟩
      rw [show putF (Str.ofString "stage") (V.str (Str.ofString "kinds")) (fT s.st k o) = _ from fT_put s.st .kinds k o]
      refine ⟨_, rfl, rfl, ?_⟩
      rw [decide_eq_true (congrArg V.str hm)]
      exact q _ ⟨same_at sm np, np, dx, k, o, as, c.stage .kinds, nk, no, na⟩ ((TupK.same (Same.refl H)).upd c.hp (by intro xs z; cases z))
    · cases hs
  rw [decide_eq_false hb]
  refine iteF ⟨_, rfl, p, _, dx, _, _, rfl, c.hp, T.c_T, T.n_T_stage, fT_stage _ _ _, rfl, _, rfl, ?_⟩
  rw [show decide (V.str s.st.str = V.str (Str.ofString "kinds")) = decide (s.st = .kinds) from ts_dec s.st .kinds]
  by_cases hk2 : s.st = .kinds
  · rw [decide_eq_true hk2]
    obtain ⟨st, ks, ts⟩ := s
    dsimp only at hk2 hb hs
    subst hk2
    dsimp only at hs
    split at hs
    · rename_i hm
      cases hs
      obtain ⟨hm1, hm2, hm3⟩ := hm
      have hkl : ks.length ≤ 12 := c.kl
      refine iteT ⟨_, rfl, p, _, dx, _, _, rfl, c.hp, T.c_T, T.n_T_kinds, fT_kinds _ _ _, .inl ⟨rfl, _, .of c.hk⟩, _, rfl, k, _, _, rfl, rfl, c.hk, by rw [List.length_map]; exact small (Nat.le_trans hkl (by decide)), ?_⟩
      have c2 := c.kput hm1 hm3
      refine ⟨_, rfl, _, rfl, m, rfl, Nat.le_trans (name_len hm1) (by decide), fun H2 sm2 => ⟨_, rfl, ?_⟩⟩
      rw [hm1]
      have c3 := c2.same sm2
      refine iteT ⟨_, rfl, _, rfl, p, _, dx, _, _, rfl, c3.hp, T.c_T, T.n_T_kinds, fT_kinds _ _ _, _, rfl, _, rfl, k, _, rfl, .of c3.hk, fun l nl => ?_⟩
      have sm3 := same_upd (o := .lst (cutV (List.map V.str (ks ++ [m])) none (some (-1)))) nl
      have c4 := c3.same sm3
      refine ⟨l, _, rfl, .inl (.of upd_same), rfl, by rw [cut_last]; exact all_flat_str ks, true, by rw [cut_last, if_pos rfl, inV_strs, decide_eq_false hm2]; rfl, ?_⟩
      refine iteT ⟨_, rfl, p, _, dx, _, _, rfl, c4.hp, T.c_T, T.n_T_kinds, fT_kinds _ _ _, k, _, rfl, .inl (.of c4.hk), _, _, rfl, rfl, ?_⟩
      rw [show (List.map V.str (ks ++ [m])).length = ks.length + 1 by rw [List.length_map, List.length_append, List.length_singleton]]
      dsimp only
      rw [decide_eq_true (show ((ks.length + 1 : Nat) : Int) ≤ 12 by omega)]
      exact q _ ⟨((same_at sm nk).trans sm2).trans sm3, np, dx, k, o, as, c4, nk, no, na⟩ (((TupK.same (Same.refl H)).upd c.hk (by intro xs z; cases z)).trans (TupK.same (sm2.trans sm3)))
    · cases hs
  rw [decide_eq_false hk2]
  refine iteF ⟨_, rfl, p, _, dx, _, _, rfl, c.hp, T.c_T, T.n_T_stage, fT_stage _ _ _, rfl, _, rfl, ?_⟩
  rw [show decide (V.str s.st.str = V.str (Str.ofString "line")) = decide (s.st = .line) from ts_dec s.st .line]
  by_cases hl2 : s.st = .line
  · rw [decide_eq_true hl2]
    obtain ⟨st, ks, ts⟩ := s
    dsimp only at hl2 hb hk2 hs
    subst hl2
    dsimp only at hs
    split at hs
    · rename_i hm
      cases hs
      obtain ⟨hm1, hm2⟩ := hm
      have htl : ts.length ≤ 12 := c.tl
      refine iteT ⟨_, rfl, p, _, dx, _, rfl, c.hp, T.c_T, T.n_T_stage, fT_len _ _ _, ?_⟩
      rw [show putF (Str.ofString "stage") (V.str (Str.ofString "total")) (fT TS'.line k o) = _ from fT_put .line .total k o]
      have c2 := c.stage .total
      refine ⟨_, rfl, p, _, dx, _, _, rfl, c2.hp, T.c_T, T.n_T_totals, fT_totals _ _ _, .inl ⟨rfl, _, .of c2.ho⟩, Nat.zero_le _, fun t nt => ?_⟩
      have hot := ne_of_none c2.ho nt
      have has : as.length ≤ 12 := by rw [c.al.1]; exact htl
      refine ⟨o, _, _, rfl, rfl, (by rw [upd_ne hot]; exact c2.ho), by rw [List.length_map]; exact small (by omega), ?_⟩
      have c3 := c2.oput nt hm2
      have npt := ne_of_none c2.hp nt
      have nt0 : H t = none := by rw [upd_ne npt.symm] at nt; exact nt
      refine ⟨_, rfl, rfl, _, rfl, ?_⟩
      rw [decide_eq_true (congrArg V.str hm1)]
      refine iteT ⟨_, rfl, p, _, dx, _, _, rfl, c3.hp, T.c_T, T.n_T_totals, fT_totals _ _ _, o, _, rfl, .inl (.of c3.ho), _, _, rfl, rfl, ?_⟩
      rw [show (List.map V.ref (as ++ [t])).length = as.length + 1 by rw [List.length_map, List.length_append, List.length_singleton]]
      dsimp only
      rw [decide_eq_true (show ((as.length + 1 : Nat) : Int) ≤ 12 by have := c.al.1; dsimp only at this; omega)]
      refine q _ ⟨same_at (same_at (same_at sm np) (sm.free nt0)) no, np, dx, k, o, _, c3, nk, no, fun a ha => ?_⟩ ((((TupK.same (Same.refl H)).upd c.hp (by intro xs z; cases z)).new nt).upd (o := .lst (as.map V.ref)) (by rw [upd_ne hot]; exact c2.ho) (by intro xs z; cases z))
      rcases List.mem_append.mp ha with ha | ha
      · exact na a ha
      · rw [List.mem_singleton.mp ha]
        exact sm.free nt0
    · cases hs
  rw [decide_eq_false hl2]
  refine iteF ?_
  obtain ⟨st, ks, ts⟩ := s
  dsimp only at hl2 hb hk2
  cases st with
  | begin => exact absurd rfl hb
  | kinds => exact absurd rfl hk2
  | line => exact absurd rfl hl2
  | total =>
    dsimp only at hs
    split at hs
    · rename_i hm
      cases hs
      obtain ⟨hm1, hm2, hm3, hm4⟩ := hm
      obtain ⟨ts, t, rfl⟩ := concat_of hm3
      rw [getLastD_concat] at hm2 hm4 q
      rw [List.dropLast_concat] at q
      have hne : as ≠ [] := fun z => by
        have := c.al.1
        rw [z, List.length_append] at this
        exact absurd this (by simp)
      obtain ⟨as, a, rfl⟩ := concat_of hne
      have ha : a ∈ as ++ [a] := List.mem_append_right _ List.mem_cons_self
      have hla : LsAt H a t := by
        have hl' : as.length = ts.length := by
          have := c.al.1
          rw [List.length_append, List.length_append] at this
          exact Nat.succ.inj this
        exact c.al.2 as.length a t (by simp) (by rw [hl']; simp)
      refine ⟨_, rfl, p, _, dx, _, _, rfl, c.hp, T.c_T, T.n_T_totals, fT_totals _ _ _, _, rfl, o, _, _, .ref a, rfl, rfl, .of c.ho, by rw [List.map_append]; exact atI_last _ _, .inl ⟨rfl, _, .of hla⟩, _, rfl, a, _, _, rfl, rfl, hla, by rw [List.length_map]; exact small (by omega), ?_⟩
      have c2 := c.tput (m := m) hm4
      have hla2 := upd_same (H := H) (a := a) (o := HO.lst (t.map V.str ++ [V.str m]))
      refine ⟨_, rfl, _, rfl, p, _, dx, _, _, rfl, c2.hp, T.c_T, T.n_T_kinds, fT_kinds _ _ _, k, _, rfl, .inl (.of c2.hk), rfl, all_flat_str ks, true, by rw [if_neg Bool.false_ne_true, inV_strs, decide_eq_true hm1], ?_⟩
      refine iteT ⟨_, rfl, _, rfl, p, _, dx, _, _, rfl, c2.hp, T.c_T, T.n_T_totals, fT_totals _ _ _, _, rfl, o, _, _, .ref a, rfl, rfl, .of c2.ho, by rw [List.map_append]; exact atI_last _ _, _, rfl, _, rfl, a, _, rfl, .of hla2, fun l nl => ?_⟩
      have sm3 := same_upd (o := .lst (t.map V.str)) nl
      refine ⟨l, _, rfl, .inl (.of upd_same), rfl, by rw [cut_lastV]; exact all_flat_str t, ?_⟩
      rw [cut_lastV, if_pos rfl, inV_strs, decide_eq_false hm2]
      exact q _ ⟨(same_at sm (na a ha)).trans sm3, np, dx, k, o, _, c2.same sm3, nk, no, na⟩ (((TupK.same (Same.refl H)).upd hla (by intro xs z; cases z)).trans (TupK.same sm3))
    · cases hs
end
end K7
/-! ## K7W9 -/
set_option Elab.async false
set_option linter.all false
set_option maxRecDepth 100000
set_option maxHeartbeats 4000000
namespace K7
open PySem PySem.Spec PyProof.Rows L2
/-! ### places of names -/
theorem idx_args {ks : List Str} {n : Str} (h : n ∈ ks) : (ks.map V.str)[ks.idxOf n]? = some (.str n) ∧ eqV (.str n) (.str n) = true ∧ ∀ (m : Nat) (z' : V), m < ks.idxOf n → (ks.map V.str)[m]? = some z' → eqV z' (.str n) = false := by
  have hl := List.idxOf_lt_length_of_mem h
  refine ⟨?_, beq_self_eq_true n, fun m z' hm hz => ?_⟩
  · rw [List.getElem?_map, List.getElem?_eq_getElem hl, List.getElem_idxOf hl]
    rfl
  · obtain ⟨k, hk, rfl⟩ := str_at hz
    have hml : m < ks.length := by omega
    have e := (List.getElem?_eq_some_iff.mp hk).2
    have q : ¬ (ks[m] == n) = true := by
      have := List.not_of_lt_findIdx (p := (· == n)) (xs := ks) (i := m) hm
      simpa using this
    show (k == n) = false
    rw [← e]
    simpa using q
def namV (ks : List Str) : V → V
  | .str n => .int ((ks.idxOf n : Nat) : Int)
  | _ => .non
theorem namV_map (ks t : List Str) : (t.map V.str).map (namV ks) = (t.map fun n => ((ks.idxOf n : Nat) : Int)).map V.int := by
  rw [List.map_map, List.map_map]
  rfl
/-- tuple(x) of a list or a tuple -/
def rTupOf (K : PySem.W.Frag) : List V → Hp → VK → Prop := fun xs H Q => ∃ p ys, xs = [.ref p] ∧ ((SqL K H p ys ∧ ∀ l, H l = none → Q (.ref l) (upd H l (.tup ys))) ∨ (SqT K H p ys ∧ Q (.ref p) H))
theorem call_tupleK {X : Cx} : CallR X (.type "tuple") (rTupOf X.K) := call_tuple_of
/-- a scope deep in the text -/
def asgE : Stmt → Expr
  | .Assign _ e _ => e
  | .Return (some e) _ => e
  | _ => .Tuple [] 0 ⟨0, 0, 0, 0⟩
def lcSc : Expr → Scope
  | .ListComp _ _ sc _ => sc
  | _ => { kind := .function, names := [], isGenerator := false, isCoroutine := false }
/-- what told asks -/
structure TFin (s : TSt) : Prop where
  asc : s.ks.Pairwise ltS
  ne : s.ks ≠ []
  tot : ∀ t ∈ s.ts, (∀ k ∈ t, k ∈ s.ks) ∧ (t.map fun n => s.ks.idxOf n).Pairwise (· < ·)
def RT (K : PySem.W.Frag) : Rdg TSt where
  C := CT K
  At := TAt (CT K)
  step := stepT
  fin := TFin
  res := fun H v s => ∃ p, v = .ref p ∧ TabAt (CTb K) H p s.ks (s.ts.map fun t => t.map fun n => s.ks.idxOf n)
section
variable {P : Program} {w : World} {K : PySem.W.Frag} {mg : Str → Option Value} {base : Heap}
theorem sc_T_told : FnScope ["self", "order", "totals", "total", "name"] ["self"] (defScope s_T_told) := ⟨rfl, rfl, rfl, by decide +kernel, rfl, by decide +kernel, by decide +kernel⟩
theorem ok_T_told (T : Txt K mg) : CalM P w K mg base (CT K) "told" 7 ["self"] (sp1 (p_told (RT K))) := by
  have GI := ok_Tb_init (P := P) (w := w) (base := base) T
  refine T.m_T_told.cal sc_T_told (fun _ _ _ _ _ _ us hl => match us, hl with | [_], _ => rfl) len1 fun f cdv A outer s0 H vs Q E hr h => ?_
  obtain ⟨_, rfl, H0, p, s, rfl, hA, hf, q⟩ := h
  have nd := sc_T_told.nd
  refine ⟨_, pss_cons (ps_set (i := 1) nd rfl (.inr rfl) (pe_callB cr_sortedS (by rfl) T.z_sorted b_sorted (pa_cons (pe_fld (pv 0) rfl) pa_nil)))
    (pss_cons (ps_setLc (i := 2) (own := [("total", 3)]) (g := gName 3) (tt := tYes) rfl nd rfl rfl (sw_true rfl rfl rfl (by decide +kernel)) (pi_list (pe_fld (pv 0) rfl)) (blkOk_by (N := ["self", "order", "totals", "total", "name"]) (sc := defScope s_T_told) (by decide +kernel))
      (fun _ _ _ _ _ => pg_name (i := 3) nd rfl (Or.inl rfl)) (fun _ _ _ _ _ => pts_nil)
      (fun _ _ _ _ _ => pe_callTy (r := rTupOf K) call_tupleK (by rfl) T.z_tuple b_tuple (pa_cons (pe_callB (r := rSorted K) cr_sorted (by rfl) T.z_sorted b_sorted (pa_cons
        (pe_lc (own := [("name", 4)]) (wi := iList K (tVar 3)) (te := tBM K "list" (rIndex K) (tVar 1) (tCons (tVar 4) tNil)) (g := gName 4) (tt := tYes) rfl nd (pi_list (pv 3)) (blkOk_by (N := ["self", "order", "totals", "total", "name"]) (sc := relS (lcSc (asgE ((defBody s_T_told).getD 1 (.Pass ⟨0, 0, 0, 0⟩)))) (defScope s_T_told)) (by decide +kernel))
          (fun _ _ _ _ _ => pg_name (i := 4) nd rfl (Or.inl rfl)) (fun _ _ _ _ _ => pts_nil)
          (fun _ _ _ _ _ => pe_bm PySem.F.plainAttrs_list PySem.F.slot_list_index PySem.F.type_list_index (r := rIndex K) mt_index (pv 1) (pa_cons (pv 4) pa_nil))) pa_nil)) pa_nil)))
    (pss_one (ps_ret (pe_calI GI hr (by rfl) T.g_Tb (pa_cons (pe_callTy call_tuple_of (by rfl) T.z_tuple b_tuple (pa_cons (pv 1) pa_nil)) (pa_cons (pe_callTy call_tuple_of (by rfl) T.z_tuple b_tuple (pa_cons (pv 2) pa_nil)) pa_nil)))))), ?_⟩
  obtain ⟨sm0, np, dx, k, o, as, c, nk, no, na⟩ := hA
  refine ⟨_, rfl, p, _, dx, _, _, rfl, c.hp, T.c_T, T.n_T_kinds, fT_kinds _ _ _, k, s.ks, rfl, .of c.hk, Nat.lt_of_le_of_lt c.kl (by decide), fun ys l hperm hsorted nl => ?_⟩
  obtain rfl := sorted_same hperm hsorted hf.asc
  have sm1 := same_upd (o := .lst (s.ks.map V.str)) nl
  have c1 := c.same sm1
  have hl1 := upd_same (H := H) (a := l) (o := HO.lst (s.ks.map V.str))
  generalize upd H l (.lst (s.ks.map V.str)) = H1 at sm1 c1 hl1 ⊢
  refine ⟨_, rfl, p, _, dx, _, _, rfl, c1.hp, T.c_T, T.n_T_totals, fT_totals _ _ _, o, rfl, ⟨_, .of c1.ho⟩, fun D nD => ?_⟩
  have htl : s.ts.length ≤ 12 := c.tl
  have hasl : as.length = s.ts.length := c.al.1
  refine lc_gen walk_list (fun i ys H' => Same H1 H' ∧ All2 (TotAt H') ys ((s.ts.take i).map fun t => t.map fun n => s.ks.idxOf n)) ⟨same_upd nD, All2.nil⟩ (fun i ys H' _ e => slst e.1 (.of c1.ho)) (fun i ys H' hi e => ?_) (fun i x ys H' N hx e eD st _ => ?_) (fun ys H' e eD => ?_)
  · rw [e.2.1, List.length_map, List.length_take]
    omega
  · rw [List.getElem?_map] at hx
    obtain ⟨a, ha, rfl⟩ := Option.map_eq_some_iff.mp hx
    obtain ⟨t, ht, hat⟩ := c1.al.get ha
    have htm := List.mem_of_getElem? ht
    obtain ⟨f1, f2⟩ := hf.tot t htm
    have hat' : H' a = _ := e.1 _ _ hat
    refine ⟨rfl, ?_⟩
    refine ⟨_, rfl, a, rfl, ⟨_, .of hat'⟩, fun D2 nD2 => ?_⟩
    have htl2 := c1.tt t htm
    refine lc_mapS walk_list (namV s.ks) nD2 (by rw [List.length_map]; omega) (fun H'' sm => slst sm (.of hat')) (fun j y H'' N2 hy sm fin => ?_) (fun H'' sm hL => ?_)
    · obtain ⟨n, hn, rfl⟩ := str_at hy
      have hnk := f1 n (List.mem_of_getElem? hn)
      obtain ⟨i1, i2, i3⟩ := idx_args hnk
      have hl2 : H'' l = _ := sm _ _ (e.1 _ _ hl1)
      exact ⟨rfl, _, rfl, .inl ⟨rfl, _, .of hl2⟩, _, rfl, l, _, _, s.ks.idxOf n, _, rfl, rfl, .of hl2, rfl, all_flat_str _, i1, i2, i3, fin H'' (Same.refl _)⟩
    · rw [namV_map] at hL
      refine ⟨D2, _, rfl, .of hL, by rw [List.length_map]; omega, fun ns' pl hp1 hp2 npl => ?_⟩
      have hpw : (t.map fun n => ((s.ks.idxOf n : Nat) : Int)).Pairwise (· < ·) := by
        have := List.pairwise_map.mp f2
        exact List.pairwise_map.mpr (this.imp fun h => by omega)
      obtain rfl := ints_same hp1 hp2 hpw
      refine ⟨pl, _, rfl, .inl ⟨.of upd_same, fun tl ntl => ?_⟩⟩
      have smt := sm.trans ((same_upd (o := .lst ((t.map fun n => ((s.ks.idxOf n : Nat) : Int)).map V.int)) npl).trans (same_upd (o := .tup ((t.map fun n => ((s.ks.idxOf n : Nat) : Int)).map V.int)) ntl))
      have htu := upd_same (H := upd H'' pl (.lst ((t.map fun n => ((s.ks.idxOf n : Nat) : Int)).map V.int))) (a := tl) (o := .tup ((t.map fun n => ((s.ks.idxOf n : Nat) : Int)).map V.int))
      generalize upd (upd H'' pl (.lst ((t.map fun n => ((s.ks.idxOf n : Nat) : Int)).map V.int))) tl (.tup ((t.map fun n => ((s.ks.idxOf n : Nat) : Int)).map V.int)) = H3 at smt htu ⊢
      have eD3 := smt _ _ eD
      have hne : tl ≠ D := ne_of htu eD3 (by intro z; cases z)
      refine st H3 _ eD3 ⟨same_at (e.1.trans smt) nD, ?_⟩
      rw [take_snoc ht, List.map_append]
      refine (e.2.mono fun r ns h => h.keep fun b xs eb => ?_).snoc ⟨tl, rfl, ?_⟩
      · have := smt _ _ eb
        rw [upd_ne (ne_of this eD3 (by intro z; cases z))]
        exact this
      · rw [upd_ne hne, htu, List.map_map, List.map_map]
        rfl
  · rw [List.length_map, hasl, take_all] at e
    obtain ⟨smc, hall⟩ := e
    have hl3 : H' l = _ := smc _ _ hl1
    refine ⟨_, rfl, l, _, rfl, .inl ⟨.of hl3, fun kA nkA => ?_⟩⟩
    have sA := same_upd (o := .tup (s.ks.map V.str)) nkA
    have hkA := upd_same (H := H') (a := kA) (o := .tup (s.ks.map V.str))
    generalize upd H' kA (.tup (s.ks.map V.str)) = H4 at sA hkA ⊢
    refine ⟨_, rfl, D, _, rfl, .inl ⟨.of (sA _ _ eD), fun tA ntA => ?_⟩⟩
    have sB := same_upd (o := .tup ys) ntA
    have htA := upd_same (H := H4) (a := tA) (o := .tup ys)
    generalize upd H4 tA (.tup ys) = H5 at sB htA ⊢
    have smAll : Same H H5 := sm1.trans (smc.trans (sA.trans sB))
    have kt : KT H5 kA tA s.ks (s.ts.map fun t => t.map fun n => s.ks.idxOf n) := ⟨.of (sB _ _ hkA), ys, htA, hall.mono fun r ns h => h.keep (TupK.same (sA.trans sB))⟩
    have hd : TabD s.ks (s.ts.map fun t => t.map fun n => s.ks.idxOf n) := {
      name := c.nm
      asc := hf.asc
      ne := List.length_pos_iff.mpr hf.ne
      len := c.kl
      tlen := by rw [List.length_map]; exact htl
      tot := fun t ht => by
        obtain ⟨u, hu, rfl⟩ := List.mem_map.mp ht
        obtain ⟨f1, f2⟩ := hf.tot u hu
        refine ⟨f2, fun n hn => ?_⟩
        obtain ⟨m, hm, rfl⟩ := List.mem_map.mp hn
        exact List.idxOf_lt_length_of_mem (f1 m hm) }
    intro x dx2 nx ndx nex
    have smx := made_same (C := CTb K) nx ndx
    refine ⟨_, _, _, rfl, x, dx2, kA, tA, s.ks, _, rfl, rfl, rfl, upd_same, kt.same smx, hd, fun H6 h6 hB => ⟨rfl, ?_⟩⟩
    have sm6 : Same H5 H6 := fun b u e => hB _ _ (smx _ _ e) (ne_of_none e nx)
    exact q _ _ (sm0.trans (smAll.trans sm6)) ⟨x, rfl, dx2, kA, tA, h6, kt.same sm6⟩
end
end K7
/-! ## K7W10 -/
set_option Elab.async false
set_option linter.all false
set_option maxRecDepth 100000
set_option maxHeartbeats 4000000
namespace K7
open PySem PySem.Spec PyProof.Rows L2
/-! ### a table's text by its kinds and totals -/
def totN (ks : List Str) (ts : List (List Nat)) : List (List Str) := ts.map fun t => t.map fun n => ks.getD n Str.empty
def tabX (ks : List Str) (ts : List (List Nat)) : Str := S (tabTx ks (totN ks ts))
theorem spN_len : ∀ {ks : List Str}, (∀ k ∈ ks, k.length ≤ 6) → (spN ks).length ≤ 7 * ks.length
  | [], _ => Nat.zero_le _
  | k :: ks, h => by
    rw [spN_cons, List.length_cons, List.length_append, List.length_cons, ← TL.len_tl]
    have h1 := h k List.mem_cons_self
    have h2 := spN_len (ks := ks) fun x hx => h x (List.mem_cons_of_mem _ hx)
    omega
theorem totTx_len : ∀ {ts : List (List Str)}, (∀ t ∈ ts, (∀ k ∈ t, k.length ≤ 6) ∧ t.length ≤ 12) → (totTx ts).length ≤ 90 * ts.length
  | [], _ => Nat.zero_le _
  | t :: ts, h => by
    obtain ⟨h1, h2⟩ := h t List.mem_cons_self
    have h3 := totTx_len (ts := ts) fun x hx => h x (List.mem_cons_of_mem _ hx)
    have h4 := spN_len h1
    have e : totTx (t :: ts) = (10 :: (TL.tl ("total" : Str) ++ spN t)) ++ totTx ts := rfl
    rw [e, List.length_append, List.length_cons, List.length_append, tl_total, List.length_cons (as := ts)]
    simp only [List.length_cons, List.length_nil]
    omega
theorem TabD.nd {ks : List Str} {ts : List (List Nat)} (h : TabD ks ts) : ks.Nodup := ltS_nodup h.asc
theorem TabD.nok {ks : List Str} {ts : List (List Nat)} (h : TabD ks ts) {t : List Str} (ht : t ∈ totN ks ts) : (∀ k ∈ t, k ∈ ks) ∧ t.Nodup ∧ t.length ≤ 12 ∧ (t.map fun n => ks.idxOf n).Pairwise (· < ·) := by
  obtain ⟨u, hu, rfl⟩ := List.mem_map.mp ht
  obtain ⟨p1, p2⟩ := h.tot u hu
  have e : (u.map fun n => ks.getD n Str.empty).map (fun n => ks.idxOf n) = u := by
    rw [List.map_map]
    refine (List.map_congr_left fun n hn => ?_).trans (List.map_id u)
    exact idxOf_getD h.nd (p2 n hn)
  have hp : ((u.map fun n => ks.getD n Str.empty).map fun n => ks.idxOf n).Pairwise (· < ·) := by
    rw [e]
    exact p1
  refine ⟨fun k hk => ?_, ?_, ?_, hp⟩
  · obtain ⟨n, hn, rfl⟩ := List.mem_map.mp hk
    exact getD_mem (p2 n hn)
  · exact (List.pairwise_map.mp hp).imp fun hlt e => by rw [e] at hlt; omega
  · rw [List.length_map]
    exact Nat.le_trans (asc_len p1 p2) h.len
theorem TabD.idx {ks : List Str} {ts : List (List Nat)} (h : TabD ks ts) : (totN ks ts).map (fun t => t.map fun n => ks.idxOf n) = ts := by
  unfold totN
  rw [List.map_map]
  refine (List.map_congr_left fun u hu => ?_).trans (List.map_id ts)
  show (u.map _).map _ = u
  rw [List.map_map]
  refine (List.map_congr_left fun n hn => ?_).trans (List.map_id u)
  exact idxOf_getD h.nd ((h.tot u hu).2 n hn)
theorem TabD.ok {ks : List Str} {ts : List (List Nat)} (h : TabD ks ts) : TabOk ks (totN ks ts) where
  name := h.name
  nd := h.nd
  ne := fun z => by
    have := h.ne
    rw [z] at this
    exact absurd this (by decide)
  len := h.len
  tot := fun t ht => let ⟨a, b, c, _⟩ := h.nok ht; ⟨a, b, c⟩
  tlen := by
    unfold totN
    rw [List.length_map]
    exact h.tlen
theorem TabD.len6 {ks : List Str} {ts : List (List Nat)} (h : TabD ks ts) : ∀ k ∈ ks, k.length ≤ 6 := fun k hk => name_len (h.name k hk)
theorem tabX_len {ks : List Str} {ts : List (List Nat)} (h : TabD ks ts) : (tabX ks ts).length ≤ 2000 := by
  unfold tabX tabTx
  rw [len_S, List.length_append, List.length_append, tl_kinds]
  have h1 := spN_len h.len6
  have h2 := totTx_len (ts := totN ks ts) fun t ht => ⟨fun k hk => h.len6 k ((h.nok ht).1 k hk), (h.nok ht).2.2.1⟩
  have h3 := h.len
  have h4 : (totN ks ts).length ≤ 12 := h.ok.tlen
  simp only [List.length_cons, List.length_nil]
  omega
section
variable {P : Program} {w : World} {K : PySem.W.Frag} {mg : Str → Option Value} {base : Heap}
theorem RT_ok (T : Txt K mg) : RdgOk P w K mg base (RT K) 7 where
  ins := fun h => let ⟨_, _, dx, _, _, _, c, _⟩ := h; ⟨dx, _, c.hp, fT_m2 _ _ _, fT_m3 _ _ _, fT_m4 _ _ _⟩
  same := fun h => h.1
  grow := fun h sm => let ⟨a, np, dx, k, o, as, c, nk, no, na⟩ := h; ⟨grow_same a sm, grow_none c.hp np, dx, k, o, as, c.same sm, grow_none c.hk nk, grow_none c.ho no, fun x hx => by
    obtain ⟨i, hi, e⟩ := List.mem_iff_getElem.mp hx
    obtain ⟨t, _, q⟩ := c.al.get (i := i) (x := x) (by rw [List.getElem?_eq_getElem hi, e])
    exact grow_none q (na x hx)⟩
  weak := fun h sm => let ⟨a, np, dx, k, o, as, c, nk, no, na⟩ := h; ⟨sm.trans a, sm.free np, dx, k, o, as, c, sm.free nk, sm.free no, fun x hx => sm.free (na x hx)⟩
  cls := T.c_T
  take := (ok_T_take T).mono (by decide)
  ends := ((ok_T_ends T).mono (by decide)).imp fun vs H Q E ⟨_, e, H0, p, st, e1, hA, hf, q⟩ => ⟨_, e, H0, p, st, e1, hA, hf.ne, q⟩
  told := ok_T_told T
def p_read_table (C : Addr) (a : V) (H : Hp) (Q : VK) : Prop := ∃ ks ts, a = .str (tabX ks ts) ∧ TabD ks ts ∧ ∀ H' p, Same H H' → TabAt C H' p ks ts → Q (.ref p) H'
theorem sc_read_table : FnScope ["text"] ["text"] (defScope s_read_table) := ⟨rfl, rfl, rfl, by decide +kernel, rfl, by decide +kernel, by decide +kernel⟩
theorem ok_read_table (T : Txt K mg) : Cal P w K mg base "read_table" 10 ["text"] (sp1 (p_read_table (CTb K))) := by
  have O := RT_ok (P := P) (w := w) (base := base) T
  have G := ok_read_whole T O (by decide)
  have GI := ok_T_init (P := P) (w := w) (base := base) T
  refine T.f_read_table.cal sc_read_table (fun _ _ _ _ _ _ us hl => match us, hl with | [_], _ => rfl) len1 fun f cdv A outer s0 H vs Q E hr h => ?_
  obtain ⟨_, rfl, ks, ts, rfl, hD, q⟩ := h
  refine ⟨_, pss_one (ps_ret (pe_cal G hr (by rfl) (pa_cons (pe_calI0 GI (hr.mono (by decide)) (by rfl) T.g_T) (pa_cons (pv 0) pa_nil)))), ?_⟩
  have hOk := hD.ok
  obtain ⟨st, hst⟩ := runT hOk
  intro x dx nx ndx nex
  refine ⟨_, rfl, H, x, dx, rfl, upd_same, made_same nx ndx, nx, fun H1 hA => ⟨rfl, ?_⟩⟩
  refine ⟨_, rfl, _, _, rfl, H, x, TSt.init, _, ⟨st, ks, totN ks ts⟩, rfl, rfl, Nat.le_trans (tabX_len hD) (by decide), hA, ?_, ⟨hD.asc, hOk.ne, fun t ht => ⟨(hD.nok ht).1, (hD.nok ht).2.2.2⟩⟩, fun H2 r sm2 hr2 => ?_⟩
  · unfold tabX
    rw [marks_tab hD.name fun t ht k hk => hD.name k ((hD.nok ht).1 k hk)]
    exact hst
  · obtain ⟨p, rfl, hp⟩ := hr2
    rw [hD.idx] at hp
    exact q H2 p sm2 hp
end
end K7
/-! ## K7W11 -/
set_option Elab.async false
set_option linter.all false
set_option maxRecDepth 100000
set_option maxHeartbeats 4000000
namespace K7
open PySem PySem.Spec PyProof.Rows L2
/-! ### a DayText -/
def fD (tb : Addr) (rd : Bool) (x : DS) (l : Addr) (kv av wv : V) : List (Str × V) := [("table", .ref tb), ("rounded", .bl rd), ("stage", .str x.str), ("lines", .ref l), ("kind", kv), ("amount", av), ("wholes", wv)]
section
variable (tb : Addr) (rd : Bool) (x : DS) (l : Addr) (kv av wv : V)
theorem fD_table : (fD tb rd x l kv av wv).lookup ("table" : Str) = some (.ref tb) := by kernel_rfl
theorem fD_rounded : (fD tb rd x l kv av wv).lookup ("rounded" : Str) = some (.bl rd) := by kernel_rfl
theorem fD_stage : (fD tb rd x l kv av wv).lookup ("stage" : Str) = some (.str x.str) := by kernel_rfl
theorem fD_lines : (fD tb rd x l kv av wv).lookup ("lines" : Str) = some (.ref l) := by kernel_rfl
theorem fD_kind : (fD tb rd x l kv av wv).lookup ("kind" : Str) = some kv := by kernel_rfl
theorem fD_amount : (fD tb rd x l kv av wv).lookup ("amount" : Str) = some av := by kernel_rfl
theorem fD_wholes : (fD tb rd x l kv av wv).lookup ("wholes" : Str) = some wv := by kernel_rfl
theorem fD_m1 : (fD tb rd x l kv av wv).lookup ("take" : Str) = none := by kernel_rfl
theorem fD_m2 : (fD tb rd x l kv av wv).lookup ("ends" : Str) = none := by kernel_rfl
theorem fD_m3 : (fD tb rd x l kv av wv).lookup ("told" : Str) = none := by kernel_rfl
theorem fD_m4 : (fD tb rd x l kv av wv).lookup ("take_kind" : Str) = none := by kernel_rfl
theorem fD_m5 : (fD tb rd x l kv av wv).lookup ("take_amount" : Str) = none := by kernel_rfl
theorem fD_m6 : (fD tb rd x l kv av wv).lookup ("end_line" : Str) = none := by kernel_rfl
theorem fD_m7 : (fD tb rd x l kv av wv).lookup ("take_whole" : Str) = none := by kernel_rfl
theorem fD_pstage (y : DS) : putF "stage" (.str y.str) (fD tb rd x l kv av wv) = fD tb rd y l kv av wv := by kernel_rfl
theorem fD_pkind (v : V) : putF "kind" v (fD tb rd x l kv av wv) = fD tb rd x l v av wv := by kernel_rfl
theorem fD_pamount (v : V) : putF "amount" v (fD tb rd x l kv av wv) = fD tb rd x l kv v wv := by kernel_rfl
theorem fD_pwholes (v : V) : putF "wholes" v (fD tb rd x l kv av wv) = fD tb rd x l kv av v := by kernel_rfl
theorem fD_len : (fD tb rd x l kv av wv).length < 1000 := by show 7 < 1000; decide
theorem fD_init : putF "wholes" wv (putF "amount" av (putF "kind" kv (putF "lines" (.ref l) (putF "stage" (.str "kind") (putF "rounded" (.bl rd) (putF "table" (.ref tb) [])))))) = fD tb rd .kind l kv av wv := by kernel_rfl
end
theorem ds_dec (a b : DS) : decide (V.str a.str = V.str b.str) = decide (a = b) := by
  cases a <;> cases b <;> decide +kernel
/-- a line as it stands -/
def LnAt (rd : Bool) (H : Hp) (r : V) (l : Ln) : Prop := ∃ a f, r = .ref a ∧ H a = some (.tup (if rd = true then [.int (l.k : Int), f, .int l.w] else [.int (l.k : Int), f])) ∧ FrAt H f l.t l.b
theorem LnAt.keep {rd : Bool} {H H' : Hp} (k : TupK H H') {r : V} {l : Ln} (h : LnAt rd H r l) : LnAt rd H' r l := let ⟨a, f, e, u, q⟩ := h; ⟨a, f, e, k _ _ u, q.keep k⟩
/-- a table whose kinds can be asked for places -/
def TbF (C : Addr) (H : Hp) (tb : Addr) (ks : List Str) : Prop := ∃ dx kA tA, H tb = some (.ins C dx (fTb kA tA)) ∧ FzT H kA (ks.map V.str)
theorem TbF.but {C : Addr} {p : Addr} {H H' : Hp} {tb : Addr} {ks : List Str} (h : TbF C H tb ks) (b : But p H H') (hp : p ≠ tb) (hn : ∀ o u, H p ≠ some (.frz o u)) : TbF C H' tb ks := by
  obtain ⟨dx, kA, tA, e, o, o1, o2, o3⟩ := h
  exact ⟨dx, kA, tA, b _ _ e (Ne.symm hp), o, o1, o2, b _ _ o3 fun z => hn o _ (z ▸ o3)⟩
theorem TbF.same {C : Addr} {H H' : Hp} {tb : Addr} {ks : List Str} (h : TbF C H tb ks) (sm : Same H H') : TbF C H' tb ks := by
  obtain ⟨dx, kA, tA, e, o, o1, o2, o3⟩ := h
  exact ⟨dx, kA, tA, sm _ _ e, o, o1, o2, sm _ _ o3⟩
/-- all but p, that is no tuple, so tuples stand -/
theorem But.tup {p : Addr} {H H' : Hp} {o : HO} (b : But p H H') (e : H p = some o) (hn : ∀ xs, HO.tup xs ≠ o) : TupK H H' := fun c xs ec => b _ _ ec (ne_of ec e (hn xs))
theorem but_same {p : Addr} {H0 H H' : Hp} (sm : Same H0 H) (np : H0 p = none) (h : But p H H') : Same H0 H' := fun b o eb => h _ _ (sm _ _ eb) (ne_of_none eb np)
structure DCore (K : PySem.W.Frag) (tb : Addr) (ks : List Str) (rd : Bool) (H0 H : Hp) (p dx l : Addr) (rs : List V) (kv av wv : V) (s : DSt) : Prop where
  sm : Same H0 H
  np : H0 p = none
  nl : H0 l = none
  hp : H p = some (.ins (CD K) dx (fD tb rd s.st l kv av wv))
  hl : H l = some (.lst rs)
  al : All2 (LnAt rd H) rs s.ls
  hb : TbF (CTb K) H tb ks
  ptb : p ≠ tb
  am : s.st = .amount ∨ s.st = .whole ∨ s.st = .size → kv = .int (s.k : Int) ∧ ∃ fa, av = .ref fa ∧ FAt (CF K) H fa s.am ∧ fa ≠ tb ∧ fa ≠ p ∧ H0 fa = none
  wh : s.st = .whole ∨ s.st = .size → ∃ wa, wv = .ref wa ∧ H wa = some (.tup [.int s.w1, .int s.w2]) ∧ rd = true
def DAt (K : PySem.W.Frag) (tb : Addr) (ks : List Str) (rd : Bool) (H0 H : Hp) (p : Addr) (s : DSt) : Prop := ∃ dx l rs kv av wv, DCore K tb ks rd H0 H p dx l rs kv av wv s
section
variable {K : PySem.W.Frag} {tb : Addr} {ks : List Str} {rd : Bool} {H0 H H' : Hp} {p dx l : Addr} {rs : List V} {kv av wv : V} {s s' : DSt}
theorem FAt.same {C : Addr} {H H' : Hp} {p : Addr} {a : FSt} (h : FAt C H p a) (sm : Same H H') : FAt C H' p a := let ⟨d, e⟩ := h; ⟨d, sm _ _ e⟩
theorem DCore.same (h : DCore K tb ks rd H0 H p dx l rs kv av wv s) (sm : Same H H') : DCore K tb ks rd H0 H' p dx l rs kv av wv s :=
  ⟨h.sm.trans sm, h.np, h.nl, sm _ _ h.hp, sm _ _ h.hl, h.al.mono fun _ _ q => q.keep (TupK.same sm), h.hb.same sm, h.ptb,
    fun q => let ⟨a, fa, b, c, d⟩ := h.am q; ⟨a, fa, b, c.same sm, d⟩, fun q => let ⟨wa, a, b, r⟩ := h.wh q; ⟨wa, a, sm _ _ b, r⟩⟩
theorem DCore.pl (h : DCore K tb ks rd H0 H p dx l rs kv av wv s) : p ≠ l := ne_of h.hp h.hl (by intro z; cases z)
theorem DCore.pput (h : DCore K tb ks rd H0 H p dx l rs kv av wv s) {kv' av' wv' : V} (hls : s'.ls = s.ls)
    (am' : s'.st = .amount ∨ s'.st = .whole ∨ s'.st = .size → kv' = .int (s'.k : Int) ∧ ∃ fa, av' = .ref fa ∧ FAt (CF K) H fa s'.am ∧ fa ≠ tb ∧ fa ≠ p ∧ H0 fa = none)
    (wh' : s'.st = .whole ∨ s'.st = .size → ∃ wa, wv' = .ref wa ∧ H wa = some (.tup [.int s'.w1, .int s'.w2]) ∧ rd = true) :
    DCore K tb ks rd H0 (upd H p (.ins (CD K) dx (fD tb rd s'.st l kv' av' wv'))) p dx l rs kv' av' wv' s' where
  sm := same_at h.sm h.np
  np := h.np
  nl := h.nl
  hp := upd_same
  hl := by rw [upd_ne h.pl.symm]; exact h.hl
  al := by
    rw [hls]
    exact h.al.mono fun _ _ q => q.keep (But.upd.tup h.hp (by intro xs z; cases z))
  hb := h.hb.but But.upd h.ptb fun o u z => by rw [h.hp] at z; cases z
  ptb := h.ptb
  am := fun q => by
    obtain ⟨a, fa, b, ⟨d, c⟩, c2, c3, c4⟩ := am' q
    exact ⟨a, fa, b, ⟨d, by rw [upd_ne c3]; exact c⟩, c2, c3, c4⟩
  wh := fun q => by
    obtain ⟨wa, a, b, r⟩ := wh' q
    exact ⟨wa, a, by rw [upd_ne (ne_of b h.hp (by intro z; cases z))]; exact b, r⟩
theorem DCore.pup (h : DCore K tb ks rd H0 H p dx l rs kv av wv s) {u : HO} : TupK H (upd H p u) := But.upd.tup h.hp (by intro xs z; cases z)
theorem DCore.lput (h : DCore K tb ks rd H0 H p dx l rs kv av wv s) {r : V} {ln : Ln} (hr : LnAt rd H r ln) : DCore K tb ks rd H0 (upd H l (.lst (rs ++ [r]))) p dx l (rs ++ [r]) kv av wv ⟨s.st, s.ls ++ [ln], s.k, s.am, s.w1, s.w2⟩ := by
  have tk : TupK H (upd H l (.lst (rs ++ [r]))) := But.upd.tup h.hl (by intro xs z; cases z)
  exact {
    sm := same_at h.sm h.nl
    np := h.np
    nl := h.nl
    hp := by rw [upd_ne h.pl]; exact h.hp
    hl := upd_same
    al := (h.al.mono fun _ _ q => q.keep tk).snoc (hr.keep tk)
    hb := h.hb.but But.upd (fun z => by
      obtain ⟨d, kA, tA, e, _⟩ := h.hb
      rw [← z, h.hl] at e
      cases e) fun o u z => by rw [h.hl] at z; cases z
    ptb := h.ptb
    am := fun q => by
      obtain ⟨a, fa, b, ⟨d, c⟩, c2, c3, c4⟩ := h.am q
      exact ⟨a, fa, b, ⟨d, by rw [upd_ne (ne_of c h.hl (by intro z; cases z))]; exact c⟩, c2, c3, c4⟩
    wh := fun q => by
      obtain ⟨wa, a, b, r⟩ := h.wh q
      exact ⟨wa, a, tk _ _ b, r⟩ }
theorem DCore.aput (h : DCore K tb ks rd H0 H p dx l rs kv av wv s) {fa : Addr} {a a' : FSt} (e : av = .ref fa) (hf : FAt (CF K) H fa a) (f1 : fa ≠ tb) (f2 : fa ≠ p) (f3 : H0 fa = none) (hf' : FAt (CF K) H' fa a') (hb : But fa H H') (hk : kv = .int (s.k : Int)) :
    DCore K tb ks rd H0 H' p dx l rs kv av wv ⟨s.st, s.ls, s.k, a', s.w1, s.w2⟩ := by
  obtain ⟨d, hf⟩ := hf
  have tk : TupK H H' := hb.tup hf (by intro xs z; cases z)
  exact {
    sm := fun b o eb => hb _ _ (h.sm _ _ eb) (ne_of_none eb f3)
    np := h.np
    nl := h.nl
    hp := hb _ _ h.hp (Ne.symm f2)
    hl := hb _ _ h.hl (ne_of h.hl hf (by intro z; cases z))
    al := h.al.mono fun _ _ q => q.keep tk
    hb := h.hb.but hb f1 fun o u z => by rw [hf] at z; cases z
    ptb := h.ptb
    am := fun _ => ⟨hk, fa, e, hf', f1, f2, f3⟩
    wh := fun q => by
      obtain ⟨wa, a, b, r⟩ := h.wh q
      exact ⟨wa, a, tk _ _ b, r⟩ }
end
section
variable {P : Program} {w : World} {K : PySem.W.Frag} {mg : Str → Option Value} {base : Heap} {tb : Addr} {ks : List Str} {rd : Bool}
/-! ### __init__ -/
def p_D_init (K : PySem.W.Frag) (v a b : V) (H : Hp) (Q : VK) : Prop := ∃ (H0 : Hp) (p dx tb : Addr) (ks : List Str) (rd : Bool), v = .ref p ∧ a = .ref tb ∧ b = .bl rd ∧ H p = some (.ins (CD K) dx []) ∧ Same H0 H ∧ H0 p = none ∧ TbF (CTb K) H tb ks ∧ p ≠ tb ∧ ∀ H', DAt K tb ks rd H0 H' p DSt.init → Q .non H'
theorem sc_D_init : FnScope ["self", "table", "rounded"] ["self", "table", "rounded"] (defScope s_D_init) := ⟨rfl, rfl, rfl, by decide +kernel, rfl, by decide +kernel, by decide +kernel⟩
theorem ok_D_init (T : Txt K mg) : CalI P w K mg base (CD K) 1 ["self", "table", "rounded"] (sp3 (p_D_init K)) := by
  refine T.i_D.cal sc_D_init (fun _ _ _ _ _ _ us hl => match us, hl with | [_, _, _], _ => rfl) len3 fun f cdv A outer s H vs Q E hr h => ?_
  obtain ⟨_, _, _, rfl, H0, p, dx, tb, ks, rd, rfl, rfl, rfl, hp, sm, np, hb, hpt, q⟩ := h
  refine ⟨_, pss_cons (ps_fld (pv 0) (pv 1) rfl) (pss_cons (ps_fld (pv 0) (pv 2) rfl) (pss_cons (ps_fld (pv 0) pe_str rfl) (pss_cons (ps_fld (pv 0) (pe_lst pa_nil) rfl)
    (pss_one (ps_asg (pe_tup (pa_cons pe_non (pa_cons pe_non (pa_cons (pe_tup pa_nil) pa_nil)))) (pg_tup rfl (pgs_cons (pg_fld (pv 0)) (pgs_cons (pg_fld (pv 0)) (pgs_cons (pg_fld (pv 0)) pgs_nil))))))))), ?_⟩
  refine ⟨_, rfl, _, rfl, p, _, dx, _, rfl, hp, T.c_D, T.n_D_table, (by show 0 < 1000; decide), ?_⟩
  refine ⟨_, rfl, _, rfl, p, _, dx, _, rfl, upd_same, T.c_D, T.n_D_rounded, (by show 1 < 1000; decide), ?_⟩
  refine ⟨_, rfl, p, _, dx, _, rfl, upd_same, T.c_D, T.n_D_stage, (by show 2 < 1000; decide), ?_⟩
  refine ⟨Nat.zero_le _, fun l nl => ?_⟩
  have npl : p ≠ l := ne_of_none upd_same nl
  have nl0 : H l = none := by rw [upd_ne npl.symm, upd_ne npl.symm, upd_ne npl.symm] at nl; exact nl
  refine ⟨_, rfl, p, _, dx, _, rfl, (by rw [upd_ne npl]; exact upd_same), T.c_D, T.n_D_lines, (by show 3 < 1000; decide), ?_⟩
  refine ⟨Nat.zero_le _, fun e ne => ⟨(by show 3 ≤ sizeLine; decide), fun t nt => ?_⟩⟩
  have npe : p ≠ e := ne_of_none upd_same ne
  have nle : l ≠ e := fun z => by rw [← z, upd_ne npl.symm, upd_same] at ne; cases ne
  have ne0 : H e = none := by rw [upd_ne npe.symm, upd_ne nle.symm, upd_ne npe.symm, upd_ne npe.symm, upd_ne npe.symm] at ne; exact ne
  have npt : p ≠ t := ne_of_none (by rw [upd_ne npe]; exact upd_same) nt
  have nle' : l ≠ t := fun z => by rw [← z, upd_ne nle, upd_ne npl.symm, upd_same] at nt; cases nt
  have net : e ≠ t := fun z => by rw [← z, upd_same] at nt; cases nt
  have nt0 : H t = none := by rw [upd_ne net.symm, upd_ne npt.symm, upd_ne nle'.symm, upd_ne npt.symm, upd_ne npt.symm, upd_ne npt.symm] at nt; exact nt
  refine ⟨t, _, rfl, .of upd_same, rfl, ?_⟩
  refine ⟨_, _, rfl, _, rfl, p, _, dx, _, rfl, (by rw [upd_ne npt, upd_ne npe]; exact upd_same), T.c_D, T.n_D_kind, (by show 4 < 1000; decide), ?_⟩
  refine ⟨_, _, rfl, _, rfl, p, _, dx, _, rfl, upd_same, T.c_D, T.n_D_amount, (by show 5 < 1000; decide), ?_⟩
  refine ⟨_, _, rfl, _, rfl, p, _, dx, _, rfl, upd_same, T.c_D, T.n_D_wholes, (by show 6 < 1000; decide), rfl, ?_⟩
  have bt : ∀ {H1 H2 : Hp}, But p H1 H2 → ∀ u, But p H1 (upd H2 p u) := fun h u => h.trans But.upd
  have nw : ∀ {H1 H2 : Hp} {x : Addr} {u : HO}, But p H1 H2 → H2 x = none → But p H1 (upd H2 x u) := fun h nx => h.trans (.same (same_upd nx))
  refine q _ ⟨dx, l, [], .non, .non, .ref e, ?_⟩
  exact {
    sm := but_same sm np (bt (bt (bt (nw (nw (bt (nw (bt (bt (bt (.same (Same.refl H)) _) _) _) nl) _) ne) nt) _) _) _)
    np := np
    nl := sm.free nl0
    hp := by
      rw [upd_same]
      exact congrArg (fun z => some (HO.ins (CD K) dx z)) (fD_init tb rd l .non .non (.ref e))
    hl := by rw [upd_ne npl.symm, upd_ne npl.symm, upd_ne npl.symm, upd_ne nle', upd_ne nle, upd_ne npl.symm, upd_same]
    al := All2.nil
    hb := hb.but (bt (bt (bt (nw (nw (bt (nw (bt (bt (bt (.same (Same.refl H)) _) _) _) nl) _) ne) nt) _) _) _) hpt fun o u z => by rw [hp] at z; cases z
    ptb := hpt
    am := fun z => by rcases z with z | z | z <;> cases z
    wh := fun z => by rcases z with z | z <;> cases z }
/-! ### end_line -/
def afterD (s : DSt) : DSt := ⟨.kind, s.ls ++ [⟨s.k, s.am.top, s.am.bt, 0⟩], s.k, s.am, s.w1, s.w2⟩
def p_D_end_line (K : PySem.W.Frag) (v : V) (H : Hp) (Q : VK) : Prop := ∃ (H0 : Hp) (p tb : Addr) (ks : List Str) (s : DSt), v = .ref p ∧ DAt K tb ks false H0 H p s ∧ s.st = .amount ∧ s.am.good ∧ s.ls.length < 400 ∧ ∀ H', DAt K tb ks false H0 H' p (afterD s) → TupK H H' → Q .non H'
theorem sc_D_end_line : FnScope ["self"] ["self"] (defScope s_D_end_line) := ⟨rfl, rfl, rfl, by decide +kernel, rfl, by decide +kernel, by decide +kernel⟩
theorem ok_D_end_line (T : Txt K mg) : CalM P w K mg base (CD K) "end_line" 4 ["self"] (sp1 (p_D_end_line K)) := by
  have GT := ok_F_told (P := P) (w := w) (base := base) T
  refine T.m_D_end_line.cal sc_D_end_line (fun _ _ _ _ _ _ us hl => match us, hl with | [_], _ => rfl) len1 fun f cdv A outer s0 H vs Q E hr h => ?_
  obtain ⟨_, rfl, H0, p, tb, ks, s, rfl, ⟨dx, l, rs, kv, av, wv, c⟩, hst, hg, hl, q⟩ := h
  refine ⟨_, pss_cons (ps_expr (pe_bm PySem.F.plainAttrs_list PySem.F.slot_list_append PySem.F.type_list_append mt_append (pe_fld (pv 0) rfl) (pa_cons (pe_tup (pa_cons (pe_fld (pv 0) rfl) (pa_cons (pe_calM0 GT T.c_F hr (pe_fld (pv 0) rfl)) pa_nil))) pa_nil)))
    (pss_one (ps_fld (pv 0) pe_str rfl)), ?_⟩
  obtain ⟨rfl, fa, rfl, hfa, f1, f2, f3⟩ := c.am (.inl hst)
  obtain ⟨dxf, hfa'⟩ := hfa
  refine ⟨_, rfl, p, _, dx, _, _, rfl, c.hp, T.c_D, T.n_D_lines, fD_lines _ _ _ _ _ _ _, .inl ⟨rfl, _, .of c.hl⟩, ?_⟩
  refine ⟨_, rfl, p, _, dx, _, _, rfl, c.hp, T.c_D, T.n_D_kind, fD_kind _ _ _ _ _ _ _, ?_⟩
  refine ⟨_, rfl, p, _, dx, _, _, rfl, c.hp, T.c_D, T.n_D_amount, fD_amount _ _ _ _ _ _ _, fa, dxf, _, rfl, hfa', fF_m4 _, _, rfl, fa, s.am, rfl, ⟨dxf, hfa'⟩, hg, fun t nt => ?_⟩
  have c1 := c.same (same_upd (o := .tup [.int s.am.top, .int (s.am.bt : Int)]) nt)
  have ht := upd_same (H := H) (a := t) (o := .tup [.int s.am.top, .int (s.am.bt : Int)])
  have k1 : TupK H (upd H t (.tup [.int s.am.top, .int (s.am.bt : Int)])) := TupK.same (same_upd nt)
  generalize upd H t (.tup [.int s.am.top, .int (s.am.bt : Int)]) = H1 at c1 ht k1 ⊢
  refine ⟨(by show 2 ≤ sizeLine; decide), fun u nu => ?_⟩
  have su := same_upd (o := .tup [.int (s.k : Int), .ref t]) nu
  have c2 := c1.same su
  have hu := upd_same (H := H1) (a := u) (o := .tup [.int (s.k : Int), .ref t])
  have k2 := k1.trans (TupK.same su)
  have ht2 := su _ _ ht
  generalize upd H1 u (.tup [.int (s.k : Int), .ref t]) = H2 at c2 hu k2 ht2 ⊢
  have hrl : rs.length = s.ls.length := c.al.1
  refine ⟨l, _, _, rfl, rfl, c2.hl, small (by omega), ?_⟩
  have c3 := c2.lput (r := .ref u) (ln := ⟨s.k, s.am.top, s.am.bt, 0⟩) ⟨u, .ref t, rfl, hu, t, rfl, ht2⟩
  have k3 : TupK H _ := k2.trans (But.upd.tup (H' := upd H2 l (.lst (rs ++ [.ref u]))) c2.hl (by intro xs z; cases z))
  refine ⟨_, rfl, p, _, dx, _, rfl, c3.hp, T.c_D, T.n_D_stage, fD_len _ _ _ _ _ _ _, ?_⟩
  rw [show putF (Str.ofString "stage") (V.str (Str.ofString "kind")) _ = _ from fD_pstage tb false s.st l _ _ wv .kind]
  exact q _ ⟨dx, l, _, _, _, wv, c3.pput (s' := afterD s) rfl (fun z => by rcases z with z | z | z <;> cases z) (fun z => by rcases z with z | z <;> cases z)⟩ (k3.trans c3.pup)
end
end K7
/-! ## K7W12 -/
set_option Elab.async false
set_option linter.all false
set_option maxRecDepth 100000
set_option maxHeartbeats 4000000
namespace K7
open PySem PySem.Spec PyProof.Rows L2
theorem tup_idx {ks : List Str} {n : Str} (h : n ∈ ks) : ks[ks.idxOf n]? = some n ∧ ∀ m, m < ks.idxOf n → ks[m]? ≠ some n := by
  have hl := List.idxOf_lt_length_of_mem h
  refine ⟨by rw [List.getElem?_eq_getElem hl, List.getElem_idxOf hl], fun m hm z => ?_⟩
  have hml : m < ks.length := by omega
  have e := (List.getElem?_eq_some_iff.mp z).2
  have q : ¬ (ks[m] == n) = true := by
    have := List.not_of_lt_findIdx (p := (· == n)) (xs := ks) (i := m) hm
    simpa using this
  exact q (by rw [e]; exact beq_self_eq_true n)
section
variable {P : Program} {w : World} {K : PySem.W.Frag} {mg : Str → Option Value} {base : Heap} {tb : Addr} {ks : List Str} {rd : Bool}
/-! ### take_kind -/
def p_D_take_kind (K : PySem.W.Frag) (v a : V) (H : Hp) (Q : VK) : Prop := ∃ (H0 : Hp) (p tb : Addr) (ks : List Str) (rd : Bool) (s : DSt) (m : Str), v = .ref p ∧ a = .str m ∧ DAt K tb ks rd H0 H p s ∧ m ∈ ks ∧ s.ls.length < 400 ∧ ∀ H', DAt K tb ks rd H0 H' p ⟨.amount, s.ls, ks.idxOf m, FSt.init, s.w1, s.w2⟩ → TupK H H' → Q (.bl true) H'
theorem sc_D_take_kind : FnScope ["self", "mark"] ["self", "mark"] (defScope s_D_take_kind) := ⟨rfl, rfl, rfl, by decide +kernel, rfl, by decide +kernel, by decide +kernel⟩
theorem ok_D_take_kind (T : Txt K mg) : CalM P w K mg base (CD K) "take_kind" 3 ["self", "mark"] (sp2 (p_D_take_kind K)) := by
  have GI := ok_F_init (P := P) (w := w) (base := base) T
  obtain ⟨t1_, h1_⟩ := T.k_MOST_LINES
  refine T.m_D_take_kind.cal sc_D_take_kind (fun _ _ _ _ _ _ us hl => match us, hl with | [_, _], _ => rfl) len2 fun f cdv A outer s0 H vs Q E hr h => ?_
  obtain ⟨_, _, rfl, H0, p, tb, ks, rd, s, m, rfl, rfl, ⟨dx, l, rs, kv, av, wv, c⟩, hm, hl, q⟩ := h
  refine ⟨_, pss_cons (ps_if (PW.pt (pw_or (pt_cmpR op_notIn_seq (pv 1) (pe_fld (pe_fld (pv 0) rfl) rfl) (by rfl)) (pw_or1 (pt_cmpR op_eq (pe_callB call_len_seq (by rfl) T.z_len b_len (pa_cons (pe_fld (pv 0) rfl) pa_nil)) (pe_glob (v := .int 400) (by rfl) h1_ ⟨_, rfl⟩) (nomark _))))) (pss_one (ps_ret pe_bl)) pss_nil)
    (pss_cons (ps_asg (pe_tup (pa_cons pe_str (pa_cons (pe_bmT PySem.F.slot_tuple_index PySem.F.type_tuple_index mt_tup_index (pe_fld (pe_fld (pv 0) rfl) rfl) (pa_cons (pv 1) pa_nil)) (pa_cons (pe_calI0 GI hr (by rfl) T.g_F) pa_nil))))
      (pg_tup rfl (pgs_cons (pg_fld (pv 0)) (pgs_cons (pg_fld (pv 0)) (pgs_cons (pg_fld (pv 0)) pgs_nil)))))
    (pss_one (ps_ret pe_bl))), ?_⟩
  obtain ⟨dT, kA, tA, hT, hF⟩ := id c.hb
  have hrl : rs.length = s.ls.length := c.al.1
  refine ⟨_, rfl, _, rfl, p, _, dx, _, _, rfl, c.hp, T.c_D, T.n_D_table, fD_table _ _ _ _ _ _ _, tb, _, dT, _, _, rfl, hT, T.c_Tb, T.n_Tb_kinds, fTb_kinds _ _, kA, _, rfl, .inr hF.seq, rfl, all_flat_str ks, _, rfl, ?_⟩
  rw [if_pos rfl, inV_strs, decide_eq_true hm]
  refine iteF ?_
  refine ⟨_, rfl, p, _, dx, _, _, rfl, c.hp, T.c_D, T.n_D_lines, fD_lines _ _ _ _ _ _ _, l, _, rfl, .inl (.of c.hl), rfl, _, rfl, ?_⟩
  rw [decide_eq_false (fun z => by have := V.int.inj z; omega)]
  refine iteF ?_
  obtain ⟨i1, i2⟩ := tup_idx hm
  refine ⟨_, rfl, p, _, dx, _, _, rfl, c.hp, T.c_D, T.n_D_table, fD_table _ _ _ _ _ _ _, tb, _, dT, _, _, rfl, hT, T.c_Tb, T.n_Tb_kinds, fTb_kinds _ _, ⟨kA, _, rfl, hF⟩, _, rfl, kA, ks, m, ks.idxOf m, rfl, rfl, hF.seq, i1, i2, ?_⟩
  refine fun x dxf nx ndx nex => ⟨_, rfl, x, dxf, rfl, upd_same, fun H1 hF1 hB => ⟨rfl, ?_⟩⟩
  have sm1 : Same H H1 := fun b o e => hB _ _ (made_same nx ndx _ _ e) (ne_of_none e nx)
  have c1 := c.same sm1
  refine ⟨(by show 3 ≤ sizeLine; decide), fun t nt => ?_⟩
  have st := same_upd (o := .tup [.str "amount", .int ((ks.idxOf m : Nat) : Int), .ref x]) nt
  have c2 := c1.same st
  have hF2 := hF1.same st
  have k2 : TupK H _ := (TupK.same sm1).trans (TupK.same st)
  have ht := upd_same (H := H1) (a := t) (o := .tup [.str "amount", .int ((ks.idxOf m : Nat) : Int), .ref x])
  generalize upd H1 t (.tup [.str "amount", .int ((ks.idxOf m : Nat) : Int), .ref x]) = H2 at c2 hF2 k2 ht ⊢
  refine ⟨t, _, rfl, .of ht, rfl, ?_⟩
  refine ⟨_, _, rfl, _, rfl, p, _, dx, _, rfl, c2.hp, T.c_D, T.n_D_stage, fD_len _ _ _ _ _ _ _, ?_⟩
  rw [show putF (Str.ofString "stage") (V.str (Str.ofString "amount")) _ = _ from fD_pstage tb rd s.st l kv av wv .amount]
  refine ⟨_, _, rfl, _, rfl, p, _, dx, _, rfl, upd_same, T.c_D, T.n_D_kind, fD_len _ _ _ _ _ _ _, ?_⟩
  rw [show putF (Str.ofString "kind") _ _ = _ from fD_pkind tb rd .amount l kv av wv _]
  refine ⟨_, _, rfl, _, rfl, p, _, dx, _, rfl, upd_same, T.c_D, T.n_D_amount, fD_len _ _ _ _ _ _ _, rfl, ?_⟩
  rw [show putF (Str.ofString "amount") _ _ = _ from fD_pamount tb rd .amount l _ av wv _, upd_upd, upd_upd]
  have hx0 : H0 x = none := c.sm.free nx
  refine q _ ⟨dx, l, rs, _, _, wv, c2.pput (s' := ⟨.amount, s.ls, ks.idxOf m, FSt.init, s.w1, s.w2⟩) rfl (fun _ => ⟨rfl, x, rfl, hF2, (ne_of_none hT nx).symm, (ne_of_none c.hp nx).symm, hx0⟩) (fun z => by rcases z with z | z <;> cases z)⟩ (k2.trans c2.pup)
/-! ### take_amount -/
def p_D_take_amount (K : PySem.W.Frag) (v a : V) (H : Hp) (Q : VK) : Prop := ∃ (H0 : Hp) (p tb : Addr) (ks : List Str) (rd : Bool) (s : DSt) (m : Str) (s' : DSt), v = .ref p ∧ a = .str m ∧ DAt K tb ks rd H0 H p s ∧ s.st = .amount ∧ stepD ks rd s m = some s' ∧ ∀ H', DAt K tb ks rd H0 H' p s' → TupK H H' → Q (.bl true) H'
theorem sc_D_take_amount : FnScope ["self", "mark"] ["self", "mark"] (defScope s_D_take_amount) := ⟨rfl, rfl, rfl, by decide +kernel, rfl, by decide +kernel, by decide +kernel⟩
theorem ok_D_take_amount (T : Txt K mg) : CalM P w K mg base (CD K) "take_amount" 5 ["self", "mark"] (sp2 (p_D_take_amount K)) := by
  have GT := ok_F_take (P := P) (w := w) (base := base) T
  have GE := ok_F_ends (P := P) (w := w) (base := base) T
  have GD := ok_F_told (P := P) (w := w) (base := base) T
  have GL := ok_D_end_line (P := P) (w := w) (base := base) T
  have GF := ok_floor_of (P := P) (w := w) (base := base) T
  have GC := ok_ceiling_of (P := P) (w := w) (base := base) T
  refine T.m_D_take_amount.cal sc_D_take_amount (fun _ _ _ _ _ _ us hl => match us, hl with | [_, _], _ => rfl) len2 fun f cdv A outer s0 H vs Q E hr h => ?_
  obtain ⟨_, _, rfl, H0, p, tb, ks, rd, s, m, s', rfl, rfl, ⟨dx, l, rs, kv, av, wv, c⟩, hst, hs, q⟩ := h
  refine ⟨_, pss_cons (ps_if (pt_cmpR op_ne (pv 1) (pe_ifExp (pt_val (pe_fld (pv 0) rfl)) pe_str pe_str) (nomark _)) (pss_one (ps_ret (pe_calM GT T.c_F (hr.mono (by decide)) (pe_fld (pv 0) rfl) (pa_cons (pv 1) pa_nil)))) pss_nil)
    (pss_cons (ps_if (pt_not (pt_val (pe_calM0 GE T.c_F (hr.mono (by decide)) (pe_fld (pv 0) rfl)))) (pss_one (ps_ret pe_bl)) pss_nil)
    (pss_cons (ps_if (pt_val (pe_fld (pv 0) rfl))
      (pss_one (ps_asg (pe_tup (pa_cons pe_str (pa_cons (pe_tup (pa_cons (pe_cal GF (hr.mono (by decide)) (by rfl) (pa_cons (pe_calM0 GD T.c_F (hr.mono (by decide)) (pe_fld (pv 0) rfl)) pa_nil)) (pa_cons (pe_cal GC (hr.mono (by decide)) (by rfl) (pa_cons (pe_calM0 GD T.c_F (hr.mono (by decide)) (pe_fld (pv 0) rfl)) pa_nil)) pa_nil))) pa_nil)))
        (pg_tup rfl (pgs_cons (pg_fld (pv 0)) (pgs_cons (pg_fld (pv 0)) pgs_nil)))))
      (pss_one (ps_expr (pe_calM0 GL T.c_D hr (pv 0)))))
    (pss_one (ps_ret pe_bl)))), ?_⟩
  obtain ⟨st, ls, k, am, w1, w2⟩ := s
  dsimp only at hst
  subst hst
  obtain ⟨rfl, fa, rfl, hfa, f1, f2, f3⟩ := id (c.am (.inl rfl))
  obtain ⟨dxf, hfa'⟩ := id hfa
  dsimp only at hfa hfa'
  have hs2 : (if m = sepD rd then
      (if am.ends = true ∧ am.good ∧ ls.length < 400 then some (if rd = true then (⟨.whole, ls, k, am, flo am.top am.bt, cei am.top am.bt⟩ : DSt) else ⟨.kind, ls ++ [⟨k, am.top, am.bt, 0⟩], k, am, w1, w2⟩) else none)
      else (stepF am m).map fun a => (⟨.amount, ls, k, a, w1, w2⟩ : DSt)) = some s' := hs
  clear hs
  -- behind the first test, where the mark goes to the amount
  have other : m ≠ sepD rd → (tRet (tMeth (CF K) "take" (sp2 (p_F_take (CF K))) [] E0 (tFld K (tVar 0) "amount") (tCons (tVar 1) tNil))) { nx := fun _ H' => Q .non H', rt := Q } [some (.ref p), some (.str m)] H := fun hm => by
    rw [if_neg hm] at hs2
    obtain ⟨a, e, rfl⟩ := Option.map_eq_some_iff.mp hs2
    exact ⟨_, rfl, p, _, dx, _, _, rfl, c.hp, T.c_D, T.n_D_amount, fD_amount _ _ _ _ _ _ _, fa, dxf, _, rfl, hfa', fF_m2 _, _, rfl, _, _, rfl, fa, am, m, a, rfl, rfl, hfa, e, fun H' hF' hB => q H' ⟨dx, l, rs, _, _, wv, c.aput rfl hfa f1 f2 f3 hF' hB rfl⟩ (hB.tup hfa' (by intro xs z; cases z))⟩
  refine ⟨_, rfl, _, rfl, p, _, dx, _, _, rfl, c.hp, T.c_D, T.n_D_rounded, fD_rounded _ _ _ _ _ _ _, rd, rfl, ?_⟩
  cases rd with
  | true =>
    refine iteT ⟨rfl, _, rfl, ?_⟩
    by_cases hm : m = "="
    · rw [decide_eq_true (congrArg V.str hm)]
      rw [if_pos (show m = sepD true from hm)] at hs2
      split at hs2
      · rename_i hc
        cases hs2
        obtain ⟨he, hg, hl⟩ := hc
        refine iteF ?_
        refine ⟨_, rfl, p, _, dx, _, _, rfl, c.hp, T.c_D, T.n_D_amount, fD_amount _ _ _ _ _ _ _, fa, dxf, _, rfl, hfa', fF_m3 _, _, rfl, fa, am, rfl, hfa, fun H1 sm1 => ⟨_, rfl, ?_⟩⟩
        rw [he]
        refine iteF ?_
        have c1 := c.same sm1
        refine ⟨_, rfl, p, _, dx, _, _, rfl, c1.hp, T.c_D, T.n_D_rounded, fD_rounded _ _ _ _ _ _ _, _, rfl, ?_⟩
        refine iteT ?_
        refine ⟨_, rfl, p, _, dx, _, _, rfl, c1.hp, T.c_D, T.n_D_amount, fD_amount _ _ _ _ _ _ _, fa, dxf, _, rfl, sm1 _ _ hfa', fF_m4 _, _, rfl, fa, am, rfl, hfa.same sm1, hg, fun t1 n1 => ?_⟩
        refine ⟨_, rfl, t1, am.top, am.bt, rfl, .of upd_same, hg.1, hg.2.2.2.2, ?_⟩
        have s2 := sm1.trans (same_upd (o := .tup [.int am.top, .int (am.bt : Int)]) n1)
        have c2 := c.same s2
        refine ⟨_, rfl, p, _, dx, _, _, rfl, c2.hp, T.c_D, T.n_D_amount, fD_amount _ _ _ _ _ _ _, fa, dxf, _, rfl, s2 _ _ hfa', fF_m4 _, _, rfl, fa, am, rfl, hfa.same s2, hg, fun t2 n2 => ?_⟩
        refine ⟨_, rfl, t2, am.top, am.bt, rfl, .of upd_same, hg.1, hg.2.2.2.2, ?_⟩
        have s3 := s2.trans (same_upd (o := .tup [.int am.top, .int (am.bt : Int)]) n2)
        refine ⟨(by show 2 ≤ sizeLine; decide), fun wa nwa => ?_⟩
        have s4 := s3.trans (same_upd (o := .tup [.int (flo am.top am.bt), .int (cei am.top am.bt)]) nwa)
        have hwa := upd_same (H := upd (upd H1 t1 (.tup [.int am.top, .int (am.bt : Int)])) t2 (.tup [.int am.top, .int (am.bt : Int)])) (a := wa) (o := .tup [.int (flo am.top am.bt), .int (cei am.top am.bt)])
        generalize upd (upd (upd H1 t1 (.tup [.int am.top, .int (am.bt : Int)])) t2 (.tup [.int am.top, .int (am.bt : Int)])) wa (.tup [.int (flo am.top am.bt), .int (cei am.top am.bt)]) = H4 at s4 hwa ⊢
        refine ⟨(by show 2 ≤ sizeLine; decide), fun t nt => ?_⟩
        have st := same_upd (o := .tup [.str "whole", .ref wa]) nt
        have c5 := c.same (s4.trans st)
        refine ⟨t, _, rfl, .of upd_same, rfl, ?_⟩
        refine ⟨_, _, rfl, _, rfl, p, _, dx, _, rfl, c5.hp, T.c_D, T.n_D_stage, fD_len _ _ _ _ _ _ _, ?_⟩
        rw [show putF (Str.ofString "stage") (V.str (Str.ofString "whole")) _ = _ from fD_pstage tb true .amount l _ _ wv .whole]
        refine ⟨_, _, rfl, _, rfl, p, _, dx, _, rfl, upd_same, T.c_D, T.n_D_wholes, fD_len _ _ _ _ _ _ _, rfl, ?_⟩
        rw [show putF (Str.ofString "wholes") _ _ = _ from fD_pwholes tb true .whole l _ _ wv _, upd_upd]
        exact q _ ⟨dx, l, rs, _, _, _, c5.pput (s' := ⟨.whole, ls, k, am, flo am.top am.bt, cei am.top am.bt⟩) rfl (fun _ => ⟨rfl, fa, rfl, (hfa.same s4).same st, f1, f2, f3⟩) (fun _ => ⟨wa, rfl, st _ _ hwa, rfl⟩)⟩ ((TupK.same (s4.trans st)).trans c5.pup)
      · cases hs2
    · rw [decide_eq_false (fun z => hm (V.str.inj z))]
      exact iteT (other hm)
  | false =>
    refine iteF ⟨rfl, _, rfl, ?_⟩
    by_cases hm : m = "\n"
    · rw [decide_eq_true (congrArg V.str hm)]
      rw [if_pos (show m = sepD false from hm)] at hs2
      split at hs2
      · rename_i hc
        cases hs2
        obtain ⟨he, hg, hl⟩ := hc
        refine iteF ?_
        refine ⟨_, rfl, p, _, dx, _, _, rfl, c.hp, T.c_D, T.n_D_amount, fD_amount _ _ _ _ _ _ _, fa, dxf, _, rfl, hfa', fF_m3 _, _, rfl, fa, am, rfl, hfa, fun H1 sm1 => ⟨_, rfl, ?_⟩⟩
        rw [he]
        refine iteF ?_
        have c1 := c.same sm1
        refine ⟨_, rfl, p, _, dx, _, _, rfl, c1.hp, T.c_D, T.n_D_rounded, fD_rounded _ _ _ _ _ _ _, _, rfl, ?_⟩
        refine iteF ?_
        exact ⟨_, rfl, p, dx, _, rfl, c1.hp, fD_m6 _ _ _ _ _ _ _, _, rfl, H0, p, tb, ks, _, rfl, ⟨dx, l, rs, _, _, wv, c1⟩, rfl, hg, hl, fun H2 hA2 k2 => q H2 hA2 ((TupK.same sm1).trans k2)⟩
      · cases hs2
    · rw [decide_eq_false (fun z => hm (V.str.inj z))]
      exact iteT (other hm)
end
end K7
/-! ## K7W13 -/
set_option Elab.async false
set_option linter.all false
set_option maxRecDepth 100000
set_option maxHeartbeats 4000000
namespace K7
open PySem PySem.Spec PyProof.Rows L2
section
variable {P : Program} {w : World} {K : PySem.W.Frag} {mg : Str → Option Value} {base : Heap} {tb : Addr} {ks : List Str} {rd : Bool}
/-! ### take_whole -/
def p_D_take_whole (K : PySem.W.Frag) (v a : V) (H : Hp) (Q : VK) : Prop := ∃ (H0 : Hp) (p tb : Addr) (ks : List Str) (s : DSt) (n : Nat) (z : Int), v = .ref p ∧ a = .int (n : Int) ∧ DAt K tb ks true H0 H p s ∧ ((s.st = .whole ∧ z = (n : Int)) ∨ (s.st = .size ∧ n ≠ 0 ∧ z = -(n : Int))) ∧ (z = s.w1 ∨ z = s.w2) ∧ s.am.good ∧ s.ls.length < 400 ∧
  ∀ H', DAt K tb ks true H0 H' p ⟨.fin, s.ls ++ [⟨s.k, s.am.top, s.am.bt, z⟩], s.k, s.am, s.w1, s.w2⟩ → TupK H H' → Q (.bl true) H'
theorem sc_D_take_whole : FnScope ["self", "number", "whole"] ["self", "number"] (defScope s_D_take_whole) := ⟨rfl, rfl, rfl, by decide +kernel, rfl, by decide +kernel, by decide +kernel⟩
theorem ok_D_take_whole (T : Txt K mg) : CalM P w K mg base (CD K) "take_whole" 4 ["self", "number"] (sp2 (p_D_take_whole K)) := by
  have GT := ok_F_told (P := P) (w := w) (base := base) T
  refine T.m_D_take_whole.cal sc_D_take_whole (fun _ _ _ _ _ _ us hl => match us, hl with | [_, _], _ => rfl) len2 fun f cdv A outer s0 H vs Q E hr h => ?_
  obtain ⟨_, _, rfl, H0, p, tb, ks, s, n, z, rfl, rfl, ⟨dx, l, rs, kv, av, wv, c⟩, hst, hz, hg, hl, q⟩ := h
  have nd := sc_D_take_whole.nd
  refine ⟨_, pss_cons (ps_if (PW.pt (pw_or (pt_cmpR op_isN (pv 1) pe_non (nomark _)) (pw_or1 (PW.pt (pw_and (pt_cmpR op_eq (pv 1) pe_int (nomark _)) (pw_and1 (pt_cmpR op_eq (pe_fld (pv 0) rfl) pe_str (nomark _)))))))) (pss_one (ps_ret pe_bl)) pss_nil)
    (pss_cons (ps_set (i := 2) nd rfl (.inl rfl) (pe_ifExp (pt_cmpR op_eq (pe_fld (pv 0) rfl) pe_str (nomark _)) (pv 1) (pe_un un_neg (pv 1))))
    (pss_cons (ps_if (pt_cmpR op_notIn_seq (pv 2) (pe_fld (pv 0) rfl) (by rfl)) (pss_one (ps_ret pe_bl)) pss_nil)
    (pss_cons (ps_expr (pe_bm PySem.F.plainAttrs_list PySem.F.slot_list_append PySem.F.type_list_append mt_append (pe_fld (pv 0) rfl) (pa_cons (pe_tup (pa_cons (pe_fld (pv 0) rfl) (pa_cons (pe_calM0 GT T.c_F hr (pe_fld (pv 0) rfl)) (pa_cons (pv 2) pa_nil)))) pa_nil)))
    (pss_cons (ps_fld (pv 0) pe_str rfl) (pss_one (ps_ret pe_bl)))))), ?_⟩
  obtain ⟨st, ls, k, am, w1, w2⟩ := s
  dsimp only at hst hz hg hl
  have hst2 : st = .whole ∨ st = .size := hst.elim (fun q => .inl q.1) (fun q => .inr q.1)
  obtain ⟨rfl, fa, rfl, hfa, f1, f2, f3⟩ := id (c.am (.inr hst2))
  obtain ⟨dxf, hfa'⟩ := id hfa
  obtain ⟨wa, rfl, hwa, _⟩ := id (c.wh hst2)
  dsimp only at hfa hfa' hwa
  -- behind the choice of the whole
  have tail : ∀ v : V, v = .int z → (tSeq (tIfS (tTest (tOp (rIn K true) (tVar 2) (tFld K (tVar 0) "wholes"))) (tRet (tC (.bl false))) tNext)
      (tSeq (tDrop (tBM K "list" rAppend (tFld K (tVar 0) "lines") (tCons (tTup (tCons (tFld K (tVar 0) "kind") (tCons (tMeth (CF K) "told" (sp1 (p_F_told (CF K))) [] E0 (tFld K (tVar 0) "amount") tNil) (tCons (tVar 2) tNil)))) tNil)))
      (tSeq (sFld K (tVar 0) (tC (.str "end")) "stage") (tRet (tC (.bl true)))))) { nx := fun _ H' => Q .non H', rt := Q } [some (.ref p), some (.int (n : Int)), some v] H := fun v hv => by
    subst hv
    refine ⟨_, rfl, _, rfl, p, _, dx, _, _, rfl, c.hp, T.c_D, T.n_D_wholes, fD_wholes _ _ _ _ _ _ _, wa, _, rfl, .inr (.of hwa), rfl, rfl, _, rfl, ?_⟩
    have hin : inV (.int z) [.int w1, .int w2] = true := by
      show ((w1 == z) || ((w2 == z) || false)) = true
      rcases hz with e | e <;> rw [e] <;> simp
    rw [hin]
    refine iteF ?_
    refine ⟨_, rfl, p, _, dx, _, _, rfl, c.hp, T.c_D, T.n_D_lines, fD_lines _ _ _ _ _ _ _, .inl ⟨rfl, _, .of c.hl⟩, ?_⟩
    refine ⟨_, rfl, p, _, dx, _, _, rfl, c.hp, T.c_D, T.n_D_kind, fD_kind _ _ _ _ _ _ _, ?_⟩
    refine ⟨_, rfl, p, _, dx, _, _, rfl, c.hp, T.c_D, T.n_D_amount, fD_amount _ _ _ _ _ _ _, fa, dxf, _, rfl, hfa', fF_m4 _, _, rfl, fa, am, rfl, hfa, hg, fun t nt => ?_⟩
    have c1 := c.same (same_upd (o := .tup [.int am.top, .int (am.bt : Int)]) nt)
    have ht := upd_same (H := H) (a := t) (o := .tup [.int am.top, .int (am.bt : Int)])
    have k1 : TupK H (upd H t (.tup [.int am.top, .int (am.bt : Int)])) := TupK.same (same_upd nt)
    generalize upd H t (.tup [.int am.top, .int (am.bt : Int)]) = H1 at c1 ht k1 ⊢
    refine ⟨_, rfl, (by show 3 ≤ sizeLine; decide), fun u nu => ?_⟩
    have su := same_upd (o := .tup [.int (k : Int), .ref t, .int z]) nu
    have c2 := c1.same su
    have hu := upd_same (H := H1) (a := u) (o := .tup [.int (k : Int), .ref t, .int z])
    have k2 := k1.trans (TupK.same su)
    have ht2 := su _ _ ht
    generalize upd H1 u (.tup [.int (k : Int), .ref t, .int z]) = H2 at c2 hu k2 ht2 ⊢
    have hrl : rs.length = ls.length := c.al.1
    refine ⟨l, _, _, rfl, rfl, c2.hl, small (by omega), ?_⟩
    have c3 := c2.lput (r := .ref u) (ln := ⟨k, am.top, am.bt, z⟩) ⟨u, .ref t, rfl, hu, t, rfl, ht2⟩
    have k3 : TupK H _ := k2.trans (But.upd.tup (H' := upd H2 l (.lst (rs ++ [.ref u]))) c2.hl (by intro xs z; cases z))
    refine ⟨_, rfl, p, _, dx, _, rfl, c3.hp, T.c_D, T.n_D_stage, fD_len _ _ _ _ _ _ _, ?_⟩
    rw [show putF (Str.ofString "stage") (V.str (Str.ofString "end")) _ = _ from fD_pstage tb true st l _ _ _ .fin]
    exact q _ ⟨dx, l, _, _, _, _, c3.pput (s' := ⟨.fin, ls ++ [⟨k, am.top, am.bt, z⟩], k, am, w1, w2⟩) rfl (fun z => by rcases z with z | z | z <;> cases z) (fun z => by rcases z with z | z <;> cases z)⟩ (k3.trans c3.pup)
  refine ⟨_, rfl, rfl, _, rfl, ?_⟩
  rw [decide_eq_false (fun z => by cases z)]
  refine iteF ?_
  -- the choice of the whole
  have body : (tSeq (tAsg (tIf (tTest (tOp rEq (tFld K (tVar 0) "stage") (tC (.str "whole")))) (tVar 1) (tUn (rU fun i => .int (-i)) (tVar 1))) (gName 2))
      (tSeq (tIfS (tTest (tOp (rIn K true) (tVar 2) (tFld K (tVar 0) "wholes"))) (tRet (tC (.bl false))) tNext)
      (tSeq (tDrop (tBM K "list" rAppend (tFld K (tVar 0) "lines") (tCons (tTup (tCons (tFld K (tVar 0) "kind") (tCons (tMeth (CF K) "told" (sp1 (p_F_told (CF K))) [] E0 (tFld K (tVar 0) "amount") tNil) (tCons (tVar 2) tNil)))) tNil)))
      (tSeq (sFld K (tVar 0) (tC (.str "end")) "stage") (tRet (tC (.bl true))))))) { nx := fun _ H' => Q .non H', rt := Q } [some (.ref p), some (.int (n : Int)), none] H := by
    refine ⟨_, rfl, p, _, dx, _, _, rfl, c.hp, T.c_D, T.n_D_stage, fD_stage _ _ _ _ _ _ _, rfl, _, rfl, ?_⟩
    rw [show decide (V.str st.str = V.str (Str.ofString "whole")) = decide (st = .whole) from ds_dec st .whole]
    rcases hst with ⟨rfl, rfl⟩ | ⟨rfl, h0, rfl⟩
    · refine iteT ⟨_, rfl, tail _ rfl⟩
    · refine iteF ⟨_, rfl, _, rfl, tail _ rfl⟩
  refine ⟨_, rfl, rfl, _, rfl, ?_⟩
  by_cases h0 : n = 0
  · rw [decide_eq_true (show V.int (n : Int) = V.int 0 by rw [h0]; rfl)]
    refine iteT ⟨_, rfl, p, _, dx, _, _, rfl, c.hp, T.c_D, T.n_D_stage, fD_stage _ _ _ _ _ _ _, rfl, _, rfl, ?_⟩
    rw [show decide (V.str st.str = V.str (Str.ofString "size")) = decide (st = .size) from ds_dec st .size, decide_eq_false (fun z => by rcases hst with ⟨e, _⟩ | ⟨_, e, _⟩; (rw [e] at z; cases z); exact e h0)]
    exact iteF body
  · rw [decide_eq_false (fun z => h0 (by have := V.int.inj z; omega))]
    exact iteF (iteF body)
end
end K7
/-! ## K7W14 -/
set_option Elab.async false
set_option linter.all false
set_option maxRecDepth 100000
set_option maxHeartbeats 4000000
namespace K7
open PySem PySem.Spec PyProof.Rows L2
def finD (rd : Bool) (s : DSt) : Prop := s.st = .kind ∨ s.st = .fin ∨ (s.st = .amount ∧ rd = false ∧ s.am.ends = true ∧ s.am.good ∧ s.ls.length < 400)
def lnsD (s : DSt) : List Ln := if s.st = .amount then (afterD s).ls else s.ls
def RD (K : PySem.W.Frag) (tb : Addr) (ks : List Str) (rd : Bool) : Rdg DSt where
  C := CD K
  At := DAt K tb ks rd
  step := stepD ks rd
  fin := finD rd
  res := fun H v s => ∃ a rs, v = .ref a ∧ H a = some (.tup rs) ∧ All2 (LnAt rd H) rs (lnsD s)
theorem DCore.weak {K : PySem.W.Frag} {tb : Addr} {ks : List Str} {rd : Bool} {H0 H0' H : Hp} {p dx l : Addr} {rs : List V} {kv av wv : V} {s : DSt} (h : DCore K tb ks rd H0' H p dx l rs kv av wv s) (sm : Same H0 H0') : DCore K tb ks rd H0 H p dx l rs kv av wv s :=
  ⟨sm.trans h.sm, sm.free h.np, sm.free h.nl, h.hp, h.hl, h.al, h.hb, h.ptb, fun q => let ⟨a, fa, b, c, d, e, g⟩ := h.am q; ⟨a, fa, b, c, d, e, sm.free g⟩, h.wh⟩
theorem DCore.grow {K : PySem.W.Frag} {tb : Addr} {ks : List Str} {rd : Bool} {H0 H H1 : Hp} {p dx l : Addr} {rs : List V} {kv av wv : V} {s : DSt} (h : DCore K tb ks rd H0 H p dx l rs kv av wv s) (sm : Same H H1) : DCore K tb ks rd (grow H0 H H1) H1 p dx l rs kv av wv s :=
  let c := h.same sm
  ⟨grow_same h.sm sm, grow_none h.hp h.np, grow_none h.hl h.nl, c.hp, c.hl, c.al, c.hb, c.ptb, fun q => by
    obtain ⟨a, fa, b, c, d, e, g⟩ := h.am q
    obtain ⟨dd, hh⟩ := id c
    exact ⟨a, fa, b, c.same sm, d, e, grow_none hh g⟩, c.wh⟩
section
variable {P : Program} {w : World} {K : PySem.W.Frag} {mg : Str → Option Value} {base : Heap} {tb : Addr} {ks : List Str} {rd : Bool}
/-! ### take -/
theorem sc_D_take : FnScope ["self", "mark", "whole"] ["self", "mark"] (defScope s_D_take) := ⟨rfl, rfl, rfl, by decide +kernel, rfl, by decide +kernel, by decide +kernel⟩
theorem wh_true {ks : List Str} {rd : Bool} {s s' : DSt} {m : Str} (hs : stepD ks rd s m = some s') (hst : s.st = .whole ∨ s.st = .size) (hn : ¬ (s.st = .whole ∧ m = "-")) :
    ∃ (n : Nat) (z : Int), m = S (TL.numL n) ∧ n ≤ 1000000 ∧ ((s.st = .whole ∧ z = (n : Int)) ∨ (s.st = .size ∧ n ≠ 0 ∧ z = -(n : Int))) ∧ (z = s.w1 ∨ z = s.w2) ∧ s.am.good ∧ s.ls.length < 400 ∧ s' = ⟨.fin, s.ls ++ [⟨s.k, s.am.top, s.am.bt, z⟩], s.k, s.am, s.w1, s.w2⟩ := by
  unfold stepD at hs
  rcases hst with h | h
  · rw [h] at hs
    dsimp only at hs
    rw [if_neg (fun z => hn ⟨h, z⟩)] at hs
    obtain ⟨n, hm, hs⟩ := Option.bind_eq_some_iff.mp hs
    obtain ⟨e1, e2⟩ := num?_some hm
    split at hs
    · rename_i hc
      cases hs
      exact ⟨n, n, e1, e2, .inl ⟨h, rfl⟩, hc.1, hc.2.1, hc.2.2, rfl⟩
    · cases hs
  · rw [h] at hs
    dsimp only at hs
    obtain ⟨n, hm, hs⟩ := Option.bind_eq_some_iff.mp hs
    obtain ⟨e1, e2⟩ := num?_some hm
    split at hs
    · rename_i hc
      cases hs
      exact ⟨n, -n, e1, e2, .inr ⟨h, hc.1, rfl⟩, hc.2.1, hc.2.2.1, hc.2.2.2, rfl⟩
    · cases hs
theorem ok_D_take (T : Txt K mg) : CalM P w K mg base (CD K) "take" 6 ["self", "mark"] (sp2 (p_take (RD K tb ks rd))) := by
  have GK := ok_D_take_kind (P := P) (w := w) (base := base) T
  have GA := ok_D_take_amount (P := P) (w := w) (base := base) T
  have GW := ok_D_take_whole (P := P) (w := w) (base := base) T
  have GN := ok_numeral_of (P := P) (w := w) (base := base) T
  obtain ⟨t1_, h1_⟩ := T.k_MOST_PART
  refine T.m_D_take.cal sc_D_take (fun _ _ _ _ _ _ us hl => match us, hl with | [_, _], _ => rfl) len2 fun f cdv A outer s0 H vs Q E hr h => ?_
  obtain ⟨_, _, rfl, H0, p, s, m, s', rfl, rfl, ⟨dx, l, rs, kv, av, wv, c⟩, hs, q⟩ := h
  have nd := sc_D_take.nd
  refine ⟨_, pss_cons (ps_if (pt_cmpR op_eq (pe_fld (pv 0) rfl) pe_str (nomark _)) (pss_one (ps_ret (pe_or (pe_cmpR op_eq (pv 1) pe_str (nomark _)) (pe_one (pe_calM GK T.c_D (hr.mono (by decide)) (pv 0) (pa_cons (pv 1) pa_nil)))))) pss_nil)
    (pss_cons (ps_if (pt_cmpR op_eq (pe_fld (pv 0) rfl) pe_str (nomark _)) (pss_one (ps_ret (pe_calM GA T.c_D hr (pv 0) (pa_cons (pv 1) pa_nil)))) pss_nil)
    (pss_cons (ps_if (pt_cmpR op_eq (pe_fld (pv 0) rfl) pe_str (nomark _)) (pss_cons (ps_fld (pv 0) pe_str rfl) (pss_one (ps_ret (pe_cmpR op_eq (pv 1) pe_str (nomark _))))) pss_nil)
    (pss_cons (ps_if (PW.pt (pw_and (pt_cmpR op_eq (pe_fld (pv 0) rfl) pe_str (nomark _)) (pw_and1 (pt_cmpR op_eq (pv 1) pe_str (nomark _)))))
      (pss_cons (ps_fld (pv 0) pe_str rfl) (pss_one (ps_ret (pe_callB (cr_any rfl) (by rfl) T.z_any b_any (pa_cons
        (pe_lc (own := [("whole", 2)]) (g := gName 2) (tt := tYes) rfl nd (pi_tup (pe_fld (pv 0) rfl)) (blkOk_by (N := ["self", "mark", "whole"]) (sc := defScope s_D_take) (by decide +kernel))
          (fun _ _ _ _ _ => pg_name (i := 2) nd rfl (Or.inl rfl)) (fun _ _ _ _ _ => pts_nil) (fun _ _ _ _ _ => pe_cmpR op_lt (pv 2) pe_int (nomark _))) pa_nil))))) pss_nil)
    (pss_one (ps_ret (pe_calM GW T.c_D (hr.mono (by decide)) (pv 0) (pa_cons (pe_cal GN (hr.mono (by decide)) (by rfl) (pa_cons (pv 1) (pa_cons (pe_glob (v := .int 1000000) (by rfl) h1_ ⟨_, rfl⟩) pa_nil))) pa_nil))))))), ?_⟩
  obtain ⟨st, ls, k, am, w1, w2⟩ := s
  refine ⟨_, rfl, p, _, dx, _, _, rfl, c.hp, T.c_D, T.n_D_stage, fD_stage _ _ _ _ _ _ _, rfl, _, rfl, ?_⟩
  rw [show decide (V.str st.str = V.str (Str.ofString "kind")) = decide (st = .kind) from ds_dec st .kind]
  by_cases k1 : st = .kind
  · subst k1
    refine iteT ?_
    refine ⟨_, rfl, rfl, _, rfl, ?_⟩
    have hs2 : (if m = "\n" then some (⟨.kind, ls, k, am, w1, w2⟩ : DSt) else if m ∈ ks ∧ ls.length < 400 then some ⟨.amount, ls, ks.idxOf m, FSt.init, w1, w2⟩ else none) = some s' := hs
    by_cases hm : m = "\n"
    · rw [decide_eq_true (congrArg V.str hm)]
      rw [if_pos hm] at hs2
      cases hs2
      exact iteT (q _ ⟨dx, l, rs, kv, av, wv, c⟩ (TupK.same (Same.refl H)))
    · rw [decide_eq_false (fun z => hm (V.str.inj z))]
      rw [if_neg hm] at hs2
      split at hs2
      · rename_i hc
        cases hs2
        exact iteF ⟨_, rfl, p, dx, _, rfl, c.hp, fD_m4 _ _ _ _ _ _ _, _, rfl, _, _, rfl, H0, p, tb, ks, rd, _, m, rfl, rfl, ⟨dx, l, rs, kv, av, wv, c⟩, hc.1, hc.2, fun H' hA k' => q H' hA k'⟩
      · cases hs2
  rw [decide_eq_false k1]
  refine iteF ⟨_, rfl, p, _, dx, _, _, rfl, c.hp, T.c_D, T.n_D_stage, fD_stage _ _ _ _ _ _ _, rfl, _, rfl, ?_⟩
  rw [show decide (V.str st.str = V.str (Str.ofString "amount")) = decide (st = .amount) from ds_dec st .amount]
  by_cases k2 : st = .amount
  · rw [decide_eq_true k2]
    exact iteT ⟨_, rfl, p, dx, _, rfl, c.hp, fD_m5 _ _ _ _ _ _ _, _, rfl, _, _, rfl, H0, p, tb, ks, rd, _, m, s', rfl, rfl, ⟨dx, l, rs, kv, av, wv, c⟩, k2, hs, q⟩
  rw [decide_eq_false k2]
  refine iteF ⟨_, rfl, p, _, dx, _, _, rfl, c.hp, T.c_D, T.n_D_stage, fD_stage _ _ _ _ _ _ _, rfl, _, rfl, ?_⟩
  rw [show decide (V.str st.str = V.str (Str.ofString "end")) = decide (st = .fin) from ds_dec st .fin]
  by_cases k3 : st = .fin
  · subst k3
    refine iteT ⟨_, rfl, p, _, dx, _, rfl, c.hp, T.c_D, T.n_D_stage, fD_len _ _ _ _ _ _ _, ?_⟩
    rw [show putF (Str.ofString "stage") (V.str (Str.ofString "kind")) _ = _ from fD_pstage tb rd .fin l kv av wv .kind]
    have hs2 : (if m = "\n" then some (⟨.kind, ls, k, am, w1, w2⟩ : DSt) else none) = some s' := hs
    split at hs2
    · rename_i hm
      cases hs2
      refine ⟨_, rfl, rfl, ?_⟩
      rw [decide_eq_true (congrArg V.str hm)]
      exact q _ ⟨dx, l, rs, kv, av, wv, c.pput (s' := ⟨.kind, ls, k, am, w1, w2⟩) rfl (fun z => by rcases z with z | z | z <;> cases z) (fun z => by rcases z with z | z <;> cases z)⟩ c.pup
    · cases hs2
  rw [decide_eq_false k3]
  have hst : st = .whole ∨ st = .size := by
    cases st
    · exact absurd rfl k1
    · exact absurd rfl k2
    · exact .inl rfl
    · exact .inr rfl
    · exact absurd rfl k3
  obtain ⟨wa, rfl, hwa, rfl⟩ := id (c.wh hst)
  -- behind the test for a minus
  have other : ¬ (st = .whole ∧ m = "-") → (tRet (tMeth (CD K) "take_whole" (sp2 (p_D_take_whole K)) [] E0 (tVar 0) (tCons (tCall (sp2 p_numeral_of) [] E0 (tCons (tVar 1) (tCons (tC (.int 1000000)) tNil))) tNil))) { nx := fun _ H' => Q .non H', rt := Q } [some (.ref p), some (.str m), none] H := fun hn => by
    obtain ⟨n, z, e1, e2, e3, e4, e5, e6, rfl⟩ := wh_true hs hst hn
    exact ⟨_, rfl, p, dx, _, rfl, c.hp, fD_m7 _ _ _ _ _ _ _, _, rfl, _, _, rfl, n, congrArg V.str e1, rfl, e2, _, _, rfl, H0, p, tb, ks, _, n, z, rfl, rfl, ⟨dx, l, rs, kv, av, _, c⟩, e3, e4, e5, e6, q⟩
  refine iteF ⟨_, rfl, p, _, dx, _, _, rfl, c.hp, T.c_D, T.n_D_stage, fD_stage _ _ _ _ _ _ _, rfl, _, rfl, ?_⟩
  rw [show decide (V.str st.str = V.str (Str.ofString "whole")) = decide (st = .whole) from ds_dec st .whole]
  by_cases k4 : st = .whole
  · rw [decide_eq_true k4]
    refine iteT ⟨_, rfl, rfl, _, rfl, ?_⟩
    by_cases hm : m = "-"
    · rw [decide_eq_true (congrArg V.str hm)]
      subst k4
      refine iteT ⟨_, rfl, p, _, dx, _, rfl, c.hp, T.c_D, T.n_D_stage, fD_len _ _ _ _ _ _ _, ?_⟩
      rw [show putF (Str.ofString "stage") (V.str (Str.ofString "size")) _ = _ from fD_pstage tb true .whole l kv av _ .size]
      have hs2 : (if m = "-" then (if w1 < 0 ∨ w2 < 0 then some (⟨.size, ls, k, am, w1, w2⟩ : DSt) else none) else _) = some s' := hs
      rw [if_pos hm] at hs2
      split at hs2
      · rename_i hlt
        cases hs2
        have c2 := c.pput (kv' := kv) (av' := av) (wv' := .ref wa) (s' := ⟨.size, ls, k, am, w1, w2⟩) rfl (fun _ => c.am (.inr (.inl rfl))) (fun _ => c.wh (.inl rfl))
        have k2' := c.pup (u := .ins (CD K) dx (fD tb true DS.size l kv av (.ref wa)))
        have hwa2 := k2' _ _ hwa
        dsimp only at hwa2
        refine ⟨_, rfl, p, _, dx, _, _, rfl, c2.hp, T.c_D, T.n_D_wholes, fD_wholes _ _ _ _ _ _ _, wa, rfl, ⟨_, .of hwa2⟩, fun D hD => lc_mapS walk_tup (fun v => match v with | .int i => .bl (decide (i < 0)) | _ => .non) hD (by show 2 ≤ 100000; decide) (fun H' sm => stup sm (.of hwa2)) (fun i v H' N hv sm fin => ?_) (fun H' sm hL => ?_)⟩
        · have hv' : ∃ z : Int, v = .int z := by
            match i with
            | 0 => exact ⟨_, (Option.some.inj hv).symm⟩
            | 1 => exact ⟨_, (Option.some.inj hv).symm⟩
            | i + 2 => cases hv
          obtain ⟨z, rfl⟩ := hv'
          exact ⟨rfl, _, rfl, _, _, rfl, rfl, fin H' (Same.refl _)⟩
        · refine ⟨D, [decide (w1 < 0), decide (w2 < 0)], rfl, .of hL, ?_⟩
          have e : ([decide (w1 < 0), decide (w2 < 0)] : List Bool).any id = true := by
            rcases hlt with h | h <;> simp [h]
          rw [e]
          exact q _ ⟨dx, l, rs, kv, av, _, c2.same sm⟩ (k2'.trans (TupK.same sm))
      · cases hs2
    · rw [decide_eq_false (fun z => hm (V.str.inj z))]
      exact iteF (other fun z => hm z.2)
  · rw [decide_eq_false k4]
    exact iteF (other fun z => k4 z.1)
/-! ### ends, told -/
theorem sc_D_ends : FnScope ["self"] ["self"] (defScope s_D_ends) := ⟨rfl, rfl, rfl, by decide +kernel, rfl, by decide +kernel, by decide +kernel⟩
theorem ok_D_ends (T : Txt K mg) : CalM P w K mg base (CD K) "ends" 2 ["self"] (sp1 (p_ends (RD K tb ks rd))) := by
  have GE := ok_F_ends (P := P) (w := w) (base := base) T
  refine T.m_D_ends.cal sc_D_ends (fun _ _ _ _ _ _ us hl => match us, hl with | [_], _ => rfl) len1 fun f cdv A outer s0 H vs Q E hr h => ?_
  obtain ⟨_, rfl, H0, p, s, rfl, ⟨dx, l, rs, kv, av, wv, c⟩, hf, q⟩ := h
  refine ⟨_, pss_one (ps_ret (pe_or (pe_cmpR op_in_seq (pe_fld (pv 0) rfl) (pe_tup (pa_cons pe_str (pa_cons pe_str pa_nil))) (by rfl))
    (pe_one (pe_and (pe_cmpR op_eq (pe_fld (pv 0) rfl) pe_str (nomark _)) (pe_and (pe_not (pe_fld (pv 0) rfl)) (pe_one (pe_calM0 GE T.c_F hr (pe_fld (pv 0) rfl)))))))), ?_⟩
  obtain ⟨st, ls, k, am, w1, w2⟩ := s
  refine ⟨_, rfl, p, _, dx, _, _, rfl, c.hp, T.c_D, T.n_D_stage, fD_stage _ _ _ _ _ _ _, (by show 2 ≤ sizeLine; decide), fun t nt => ?_⟩
  have sm := same_upd (o := .tup [.str "kind", .str "end"]) nt
  have c1 := c.same sm
  have ht := upd_same (H := H) (a := t) (o := .tup [.str "kind", .str "end"])
  generalize upd H t (.tup [.str "kind", .str "end"]) = H1 at sm c1 ht ⊢
  refine ⟨t, _, rfl, .inr (.of ht), rfl, rfl, _, rfl, ?_⟩
  rw [if_neg Bool.false_ne_true, show inV (.str st.str) [.str "kind", .str "end"] = (decide (st = .kind) || decide (st = .fin)) from by cases st <;> decide +kernel]
  rcases hf with e | e | ⟨e, rfl, he, hg, hl⟩ <;> dsimp only at e <;> subst e
  · exact iteT (q _ ⟨dx, l, rs, kv, av, wv, c1⟩)
  · exact iteT (q _ ⟨dx, l, rs, kv, av, wv, c1⟩)
  · obtain ⟨rfl, fa, rfl, hfa, f1, f2, f3⟩ := id (c1.am (.inl rfl))
    obtain ⟨dxf, hfa'⟩ := id hfa
    dsimp only at hfa hfa' he
    refine iteF ⟨_, rfl, p, _, dx, _, _, rfl, c1.hp, T.c_D, T.n_D_stage, fD_stage _ _ _ _ _ _ _, rfl, _, rfl, iteT ?_⟩
    refine ⟨_, rfl, p, _, dx, _, _, rfl, c1.hp, T.c_D, T.n_D_rounded, fD_rounded _ _ _ _ _ _ _, _, rfl, _, rfl, iteT ?_⟩
    refine ⟨_, rfl, p, _, dx, _, _, rfl, c1.hp, T.c_D, T.n_D_amount, fD_amount _ _ _ _ _ _ _, fa, dxf, _, rfl, hfa', fF_m3 _, _, rfl, fa, am, rfl, hfa, fun H2 sm2 => ?_⟩
    rw [he]
    exact q _ ⟨dx, l, rs, _, _, wv, c1.same sm2⟩
theorem sc_D_told : FnScope ["self"] ["self"] (defScope s_D_told) := ⟨rfl, rfl, rfl, by decide +kernel, rfl, by decide +kernel, by decide +kernel⟩
theorem ok_D_told (T : Txt K mg) : CalM P w K mg base (CD K) "told" 5 ["self"] (sp1 (p_told (RD K tb ks rd))) := by
  have GL := ok_D_end_line (P := P) (w := w) (base := base) T
  refine T.m_D_told.cal sc_D_told (fun _ _ _ _ _ _ us hl => match us, hl with | [_], _ => rfl) len1 fun f cdv A outer s0 H vs Q E hr h => ?_
  obtain ⟨_, rfl, H0, p, s, rfl, ⟨dx, l, rs, kv, av, wv, c⟩, hf, q⟩ := h
  refine ⟨_, pss_cons (ps_if (pt_cmpR op_eq (pe_fld (pv 0) rfl) pe_str (nomark _)) (pss_one (ps_expr (pe_calM0 GL T.c_D hr (pv 0)))) pss_nil)
    (pss_one (ps_ret (pe_callTy call_tuple_of (by rfl) T.z_tuple b_tuple (pa_cons (pe_fld (pv 0) rfl) pa_nil)))), ?_⟩
  -- the tuple told
  have tail : ∀ (H1 : Hp) (s1 : DSt), s1.ls = lnsD s → DAt K tb ks rd H0 H1 p s1 → (tRet (tCB (rTupOf K) (tCons (tFld K (tVar 0) "lines") tNil))) { nx := fun _ H' => Q .non H', rt := Q } [some (.ref p)] H1 := fun H1 s1 e ⟨dx1, l1, rs1, _, _, _, c1⟩ =>
    ⟨_, rfl, p, _, dx1, _, _, rfl, c1.hp, T.c_D, T.n_D_lines, fD_lines _ _ _ _ _ _ _, l1, rs1, rfl, .inl ⟨.of c1.hl, fun t nt => q _ _ (c1.sm.trans (same_upd nt)) ⟨t, rs1, rfl, upd_same, e ▸ c1.al.mono fun _ _ h => h.keep (TupK.same (same_upd nt))⟩⟩⟩
  refine ⟨_, rfl, p, _, dx, _, _, rfl, c.hp, T.c_D, T.n_D_stage, fD_stage _ _ _ _ _ _ _, rfl, _, rfl, ?_⟩
  rw [show decide (V.str s.st.str = V.str (Str.ofString "amount")) = decide (s.st = .amount) from ds_dec s.st .amount]
  by_cases h1 : s.st = .amount
  · rw [decide_eq_true h1]
    rcases hf with e | e | ⟨_, rfl, he, hg, hl⟩
    · rw [h1] at e; cases e
    · rw [h1] at e; cases e
    · exact iteT ⟨_, rfl, p, dx, _, rfl, c.hp, fD_m6 _ _ _ _ _ _ _, _, rfl, H0, p, tb, ks, s, rfl, ⟨dx, l, rs, kv, av, wv, c⟩, h1, hg, hl, fun H1 hA k1 => tail H1 _ (by unfold lnsD; rw [if_pos h1]) hA⟩
  · rw [decide_eq_false h1]
    exact iteF (tail H s (by unfold lnsD; rw [if_neg h1]) ⟨dx, l, rs, kv, av, wv, c⟩)
theorem RD_ok (T : Txt K mg) : RdgOk P w K mg base (RD K tb ks rd) 6 where
  ins := fun h => let ⟨dx, l, rs, kv, av, wv, c⟩ := h; ⟨dx, _, c.hp, fD_m1 _ _ _ _ _ _ _, fD_m2 _ _ _ _ _ _ _, fD_m3 _ _ _ _ _ _ _⟩
  same := fun h => let ⟨dx, l, rs, kv, av, wv, c⟩ := h; c.sm
  grow := fun h sm => let ⟨dx, l, rs, kv, av, wv, c⟩ := h; ⟨dx, l, rs, kv, av, wv, c.grow sm⟩
  weak := fun h sm => let ⟨dx, l, rs, kv, av, wv, c⟩ := h; ⟨dx, l, rs, kv, av, wv, c.weak sm⟩
  cls := T.c_D
  take := ok_D_take T
  ends := (ok_D_ends T).mono (by decide)
  told := (ok_D_told T).mono (by decide)
end
end K7
/-! ## K7W15 -/
set_option Elab.async false
set_option linter.all false
set_option maxRecDepth 100000
set_option maxHeartbeats 4000000
namespace K7
open PySem PySem.Spec PyProof.Rows L2
theorem fin_day {ks : List Str} {rd : Bool} {r : List Ln} (h : ∀ l ∈ r, LnOk ks rd l) (hl : r.length ≤ 400) : finD rd (daySt rd [] r DSt.init) ∧ lnsD (daySt rd [] r DSt.init) = r := by
  cases r with
  | nil => exact ⟨.inl rfl, rfl⟩
  | cons l r =>
    show finD rd (lnSt rd ([] ++ (l :: r).dropLast) _) ∧ lnsD (lnSt rd ([] ++ (l :: r).dropLast) _) = l :: r
    have e := List.dropLast_concat_getLast (List.cons_ne_nil l r)
    have hz := h _ (List.getLast_mem (List.cons_ne_nil l r))
    have hd : (l :: r).dropLast.length < 400 := by
      rw [List.length_dropLast]
      have : 0 < (l :: r).length := Nat.succ_pos _
      omega
    generalize (l :: r).getLast (List.cons_ne_nil l r) = z at e hz
    generalize (l :: r).dropLast = ds at e hd
    rw [List.nil_append]
    cases rd with
    | true => exact ⟨.inr (.inl rfl), e⟩
    | false =>
      refine ⟨.inr (.inr ⟨rfl, rfl, finF_ends _ _, finF_good hz.fr, hd⟩), ?_⟩
      show ds ++ [⟨z.k, (finF z.t z.b).top, (finF z.t z.b).bt, 0⟩] = l :: r
      rw [finF_top, ← hz.w0 rfl]
      exact e
section
variable {P : Program} {w : World} {K : PySem.W.Frag} {mg : Str → Option Value} {base : Heap} {rd : Bool}
/-! ### read_lines, read_day -/
def p_read_day (K : PySem.W.Frag) (rd : Bool) (a b : V) (H : Hp) (Q : VK) : Prop := ∃ (tb : Addr) (ks : List Str) (r : List Ln), a = .ref tb ∧ b = .str (S (dayTx ks rd r)) ∧ (S (dayTx ks rd r)).length ≤ 100000 ∧ TbF (CTb K) H tb ks ∧ (∀ k ∈ ks, isName k = true) ∧ ks.Nodup ∧ (∀ l ∈ r, LnOk ks rd l) ∧ r.length ≤ 400 ∧
  ∀ H' p rs, Same H H' → H' p = some (.tup rs) → All2 (LnAt rd H') rs r → Q (.ref p) H'
theorem run_day (T : Txt K mg) {tb : Addr} {ks : List Str} {r : List Ln} {H : Hp} {Q : VK} {x dx : Addr} (nx : H x = none) (ndx : H dx = none) (hlen : (S (dayTx ks rd r)).length ≤ 100000) (hT : TbF (CTb K) H tb ks) (hn : ∀ k ∈ ks, isName k = true) (hnd : ks.Nodup) (hr : ∀ l ∈ r, LnOk ks rd l) (hl : r.length ≤ 400)
    (q : ∀ H' p rs, Same H H' → H' p = some (.tup rs) → All2 (LnAt rd H') rs r → Q (.ref p) H') : sp3 (p_D_init K) [.ref x, .ref tb, .bl rd] (upd (upd H dx (.own x)) x (.ins (CD K) dx [])) (fun v H2 => v = .non ∧ p_read_whole (RD K tb ks rd) (.ref x) (.str (S (dayTx ks rd r))) H2 Q) E0 := by
  obtain ⟨dT, kA, tA, e, _⟩ := id hT
  refine ⟨_, _, _, rfl, H, x, dx, tb, ks, rd, rfl, rfl, rfl, upd_same, made_same nx ndx, nx, hT.same (made_same nx ndx), (ne_of_none e nx).symm, fun H1 hA => ⟨rfl, ?_⟩⟩
  obtain ⟨f1, f2⟩ := fin_day hr hl
  refine ⟨H, x, DSt.init, _, _, rfl, rfl, hlen, hA, ?_, f1, fun H2 v sm2 ⟨a, rs, e1, e2, e3⟩ => ?_⟩
  · rw [marks_day hn hr]
    exact runD hn hnd r [] 0 FSt.init 0 0 hr (by rw [List.length_nil, Nat.zero_add]; exact hl) fun _ => ⟨rfl, rfl⟩
  · subst e1
    rw [f2] at e3
    exact q H2 a rs sm2 e2 e3
theorem sc_read_lines : FnScope ["table", "text"] ["table", "text"] (defScope s_read_lines) := ⟨rfl, rfl, rfl, by decide +kernel, rfl, by decide +kernel, by decide +kernel⟩
theorem ok_read_lines (T : Txt K mg) : Cal P w K mg base "read_lines" 9 ["table", "text"] (sp2 (p_read_day K false)) := by
  have GI := ok_D_init (P := P) (w := w) (base := base) T
  refine T.f_read_lines.cal sc_read_lines (fun _ _ _ _ _ _ us hl => match us, hl with | [_, _], _ => rfl) len2 fun f cdv A outer s0 H vs Q E hr h => ?_
  obtain ⟨_, _, rfl, tb, ks, r, rfl, rfl, hlen, hT, hn, hnd, hok, hl, q⟩ := h
  have G := ok_read_whole T (RD_ok (P := P) (w := w) (base := base) (tb := tb) (ks := ks) (rd := false) T) (by decide)
  refine ⟨_, pss_one (ps_ret (pe_cal G hr (by rfl) (pa_cons (pe_calI GI (hr.mono (by decide)) (by rfl) T.g_D (pa_cons (pv 0) (pa_cons pe_bl pa_nil))) (pa_cons (pv 1) pa_nil)))), ?_⟩
  refine ⟨_, rfl, fun x dx nx ndx nex => ?_⟩
  have key := run_day (rd := false) (Q := Q) T nx ndx hlen hT hn hnd hok hl q
  obtain ⟨a, b, c, e, H0, p, dx', tb', ks', rd', e1, e2, e3, e4, e5, e6, e7, e8, e9⟩ := key
  exact ⟨a, b, c, e, H0, p, dx', tb', ks', rd', e1, e2, e3, e4, e5, e6, e7, e8, fun H1 hA => ⟨rfl, _, rfl, _, _, rfl, (e9 H1 hA).2⟩⟩
theorem sc_read_day : FnScope ["table", "text"] ["table", "text"] (defScope s_read_day) := ⟨rfl, rfl, rfl, by decide +kernel, rfl, by decide +kernel, by decide +kernel⟩
theorem ok_read_day (T : Txt K mg) : Cal P w K mg base "read_day" 9 ["table", "text"] (sp2 (p_read_day K true)) := by
  have GI := ok_D_init (P := P) (w := w) (base := base) T
  refine T.f_read_day.cal sc_read_day (fun _ _ _ _ _ _ us hl => match us, hl with | [_, _], _ => rfl) len2 fun f cdv A outer s0 H vs Q E hr h => ?_
  obtain ⟨_, _, rfl, tb, ks, r, rfl, rfl, hlen, hT, hn, hnd, hok, hl, q⟩ := h
  have G := ok_read_whole T (RD_ok (P := P) (w := w) (base := base) (tb := tb) (ks := ks) (rd := true) T) (by decide)
  refine ⟨_, pss_one (ps_ret (pe_cal G hr (by rfl) (pa_cons (pe_calI GI (hr.mono (by decide)) (by rfl) T.g_D (pa_cons (pv 0) (pa_cons pe_bl pa_nil))) (pa_cons (pv 1) pa_nil)))), ?_⟩
  refine ⟨_, rfl, fun x dx nx ndx nex => ?_⟩
  have key := run_day (rd := true) (Q := Q) T nx ndx hlen hT hn hnd hok hl q
  obtain ⟨a, b, c, e, H0, p, dx', tb', ks', rd', e1, e2, e3, e4, e5, e6, e7, e8, e9⟩ := key
  exact ⟨a, b, c, e, H0, p, dx', tb', ks', rd', e1, e2, e3, e4, e5, e6, e7, e8, fun H1 hA => ⟨rfl, _, rfl, _, _, rfl, (e9 H1 hA).2⟩⟩
/-! ### a SequenceText -/
def fS (tb l : Addr) : List (Str × V) := [("table", .ref tb), ("row", .ref l)]
theorem fS_table (tb l : Addr) : (fS tb l).lookup ("table" : Str) = some (.ref tb) := by kernel_rfl
theorem fS_row (tb l : Addr) : (fS tb l).lookup ("row" : Str) = some (.ref l) := by kernel_rfl
theorem fS_m1 (tb l : Addr) : (fS tb l).lookup ("take" : Str) = none := by kernel_rfl
theorem fS_m2 (tb l : Addr) : (fS tb l).lookup ("ends" : Str) = none := by kernel_rfl
theorem fS_m3 (tb l : Addr) : (fS tb l).lookup ("told" : Str) = none := by kernel_rfl
theorem fS_init (tb l : Addr) : putF "row" (.ref l) (putF "table" (.ref tb) []) = fS tb l := by kernel_rfl
def natV (ns : List Nat) : List V := ns.map fun n : Nat => V.int (n : Int)
def SqAt (K : PySem.W.Frag) (tb : Addr) (ks : List Str) (H0 H : Hp) (p : Addr) (row : List Nat) : Prop := Same H0 H ∧ H0 p = none ∧ p ≠ tb ∧ TbF (CTb K) H tb ks ∧ ∃ dx l, H p = some (.ins (CS K) dx (fS tb l)) ∧ H l = some (.lst (natV row)) ∧ H0 l = none
def stepS (ks : List Str) (row : List Nat) (m : Str) : Option (List Nat) := if m ∈ ks ∧ row.length < 400 then some (row ++ [ks.idxOf m]) else none
def RS (K : PySem.W.Frag) (tb : Addr) (ks : List Str) : Rdg (List Nat) where
  C := CS K
  At := SqAt K tb ks
  step := stepS ks
  fin := fun _ => True
  res := fun H v row => TotAt H v row
theorem runS {ks : List Str} (hn : ks.Nodup) : ∀ (row done : List Nat), (∀ i ∈ row, i < ks.length) → (done ++ row).length ≤ 400 → (row.map fun i => ks.getD i Str.empty).foldlM (stepS ks) done = some (done ++ row)
  | [], done, _, _ => by rw [List.append_nil]; rfl
  | i :: row, done, h, hl => by
    have hi := h i List.mem_cons_self
    show (stepS ks done (ks.getD i Str.empty) >>= fun s => (row.map fun i => ks.getD i Str.empty).foldlM (stepS ks) s) = _
    have hd : done.length < 400 := by
      rw [List.length_append, List.length_cons] at hl
      omega
    have e : stepS ks done (ks.getD i Str.empty) = some (done ++ [i]) := by
      unfold stepS
      rw [if_pos ⟨getD_mem hi, hd⟩, idxOf_getD hn hi]
    have e2 : done ++ i :: row = (done ++ [i]) ++ row := by rw [List.append_assoc]; rfl
    rw [e, e2]
    exact runS hn row (done ++ [i]) (fun j hj => h j (List.mem_cons_of_mem _ hj)) (by rw [← e2]; exact hl)
def p_S_init (K : PySem.W.Frag) (v a : V) (H : Hp) (Q : VK) : Prop := ∃ (H0 : Hp) (p dx tb : Addr) (ks : List Str), v = .ref p ∧ a = .ref tb ∧ H p = some (.ins (CS K) dx []) ∧ Same H0 H ∧ H0 p = none ∧ TbF (CTb K) H tb ks ∧ p ≠ tb ∧ ∀ H', SqAt K tb ks H0 H' p [] → Q .non H'
theorem sc_S_init : FnScope ["self", "table"] ["self", "table"] (defScope s_S_init) := ⟨rfl, rfl, rfl, by decide +kernel, rfl, by decide +kernel, by decide +kernel⟩
theorem ok_S_init (T : Txt K mg) : CalI P w K mg base (CS K) 1 ["self", "table"] (sp2 (p_S_init K)) := by
  refine T.i_S.cal sc_S_init (fun _ _ _ _ _ _ us hl => match us, hl with | [_, _], _ => rfl) len2 fun f cdv A outer s H vs Q E hr h => ?_
  obtain ⟨_, _, rfl, H0, p, dx, tb, ks, rfl, rfl, hp, sm, np, hb, hpt, q⟩ := h
  refine ⟨_, pss_cons (ps_fld (pv 0) (pv 1) rfl) (pss_one (ps_fld (pv 0) (pe_lst pa_nil) rfl)), ?_⟩
  refine ⟨_, rfl, _, rfl, p, _, dx, _, rfl, hp, T.c_S, T.n_S_table, (by show 0 < 1000; decide), ?_⟩
  refine ⟨Nat.zero_le _, fun l nl => ?_⟩
  have npl : p ≠ l := ne_of_none upd_same nl
  have nl0 : H l = none := by rw [upd_ne npl.symm] at nl; exact nl
  refine ⟨_, rfl, p, _, dx, _, rfl, (by rw [upd_ne npl]; exact upd_same), T.c_S, T.n_S_row, (by show 1 < 1000; decide), ?_⟩
  have bt : ∀ {H1 H2 : Hp}, But p H1 H2 → ∀ u, But p H1 (upd H2 p u) := fun h u => h.trans But.upd
  have nw : ∀ {H1 H2 : Hp} {x : Addr} {u : HO}, But p H1 H2 → H2 x = none → But p H1 (upd H2 x u) := fun h nx => h.trans (.same (same_upd nx))
  refine q _ ⟨but_same sm np (bt (nw (bt (.same (Same.refl H)) _) nl) _), np, hpt, hb.but (bt (nw (bt (.same (Same.refl H)) _) nl) _) hpt (fun o u z => by rw [hp] at z; cases z), dx, l, ?_, ?_, sm.free nl0⟩
  · rw [upd_same]
    exact congrArg (fun z => some (HO.ins (CS K) dx z)) (fS_init tb l)
  · rw [upd_ne npl.symm, upd_same]
    rfl
theorem sc_S_take : FnScope ["self", "mark"] ["self", "mark"] (defScope s_S_take) := ⟨rfl, rfl, rfl, by decide +kernel, rfl, by decide +kernel, by decide +kernel⟩
theorem ok_S_take (T : Txt K mg) {tb : Addr} {ks : List Str} : CalM P w K mg base (CS K) "take" 1 ["self", "mark"] (sp2 (p_take (RS K tb ks))) := by
  obtain ⟨t1_, h1_⟩ := T.k_MOST_LINES
  refine T.m_S_take.cal sc_S_take (fun _ _ _ _ _ _ us hl => match us, hl with | [_, _], _ => rfl) len2 fun f cdv A outer s0 H vs Q E hr h => ?_
  obtain ⟨_, _, rfl, H0, p, row, m, s', rfl, rfl, ⟨sm, np, hpt, hb, dx, l, hp, hl, nl⟩, hs, q⟩ := h
  refine ⟨_, pss_cons (ps_if (PW.pt (pw_or (pt_cmpR op_notIn_seq (pv 1) (pe_fld (pe_fld (pv 0) rfl) rfl) (by rfl)) (pw_or1 (pt_cmpR op_eq (pe_callB call_len_seq (by rfl) T.z_len b_len (pa_cons (pe_fld (pv 0) rfl) pa_nil)) (pe_glob (v := .int 400) (by rfl) h1_ ⟨_, rfl⟩) (nomark _))))) (pss_one (ps_ret pe_bl)) pss_nil)
    (pss_cons (ps_expr (pe_bm PySem.F.plainAttrs_list PySem.F.slot_list_append PySem.F.type_list_append mt_append (pe_fld (pv 0) rfl) (pa_cons (pe_bmT PySem.F.slot_tuple_index PySem.F.type_tuple_index mt_tup_index (pe_fld (pe_fld (pv 0) rfl) rfl) (pa_cons (pv 1) pa_nil)) pa_nil)))
    (pss_one (ps_ret pe_bl))), ?_⟩
  have hs2 : (if m ∈ ks ∧ row.length < 400 then some (row ++ [ks.idxOf m]) else none) = some s' := hs
  split at hs2
  · rename_i hc
    cases hs2
    obtain ⟨hm, hlt⟩ := hc
    obtain ⟨dT, kA, tA, hT, hF⟩ := id hb
    have hrl : (natV row).length = row.length := List.length_map _
    refine ⟨_, rfl, _, rfl, p, _, dx, _, _, rfl, hp, T.c_S, T.n_S_table, fS_table _ _, tb, _, dT, _, _, rfl, hT, T.c_Tb, T.n_Tb_kinds, fTb_kinds _ _, kA, _, rfl, .inr hF.seq, rfl, all_flat_str ks, _, rfl, ?_⟩
    rw [if_pos rfl, inV_strs, decide_eq_true hm]
    refine iteF ?_
    refine ⟨_, rfl, p, _, dx, _, _, rfl, hp, T.c_S, T.n_S_row, fS_row _ _, l, _, rfl, .inl (.of hl), rfl, _, rfl, ?_⟩
    rw [decide_eq_false (fun z => by have := V.int.inj z; omega)]
    refine iteF ?_
    obtain ⟨i1, i2⟩ := tup_idx hm
    refine ⟨_, rfl, p, _, dx, _, _, rfl, hp, T.c_S, T.n_S_row, fS_row _ _, .inl ⟨rfl, _, .of hl⟩, _, rfl, p, _, dx, _, _, rfl, hp, T.c_S, T.n_S_table, fS_table _ _, tb, _, dT, _, _, rfl, hT, T.c_Tb, T.n_Tb_kinds, fTb_kinds _ _, ⟨kA, _, rfl, hF⟩, _, rfl, kA, ks, m, ks.idxOf m, rfl, rfl, hF.seq, i1, i2, ?_⟩
    refine ⟨l, _, _, rfl, rfl, hl, small (by omega), ?_⟩
    have npl : p ≠ l := ne_of hp hl (by intro z; cases z)
    refine q _ ⟨same_at sm nl, np, hpt, hb.but But.upd (ne_of hl hT (by intro z; cases z)) (fun o u z => by rw [hl] at z; cases z), dx, l, by rw [upd_ne npl]; exact hp, ?_, nl⟩ (But.upd.tup hl (by intro xs z; cases z))
    rw [upd_same]
    unfold natV
    rw [List.map_append]
    rfl
  · cases hs2
theorem sc_S_ends : FnScope ["self"] ["self"] (defScope s_S_ends) := ⟨rfl, rfl, rfl, by decide +kernel, rfl, by decide +kernel, by decide +kernel⟩
theorem ok_S_ends (T : Txt K mg) {tb : Addr} {ks : List Str} : CalM P w K mg base (CS K) "ends" 1 ["self"] (sp1 (p_ends (RS K tb ks))) := by
  refine T.m_S_ends.cal sc_S_ends (fun _ _ _ _ _ _ us hl => match us, hl with | [_], _ => rfl) len1 fun f cdv A outer s0 H vs Q E hr h => ?_
  obtain ⟨_, rfl, H0, p, row, rfl, hA, hf, q⟩ := h
  exact ⟨_, pss_one (ps_ret pe_bl), q H hA⟩
theorem sc_S_told : FnScope ["self"] ["self"] (defScope s_S_told) := ⟨rfl, rfl, rfl, by decide +kernel, rfl, by decide +kernel, by decide +kernel⟩
theorem ok_S_told (T : Txt K mg) {tb : Addr} {ks : List Str} : CalM P w K mg base (CS K) "told" 1 ["self"] (sp1 (p_told (RS K tb ks))) := by
  refine T.m_S_told.cal sc_S_told (fun _ _ _ _ _ _ us hl => match us, hl with | [_], _ => rfl) len1 fun f cdv A outer s0 H vs Q E hr h => ?_
  obtain ⟨_, rfl, H0, p, row, rfl, ⟨sm, np, hpt, hb, dx, l, hp, hl, nl⟩, hf, q⟩ := h
  exact ⟨_, pss_one (ps_ret (pe_callTy call_tuple_of (by rfl) T.z_tuple b_tuple (pa_cons (pe_fld (pv 0) rfl) pa_nil))),
    ⟨_, rfl, p, _, dx, _, _, rfl, hp, T.c_S, T.n_S_row, fS_row _ _, l, _, rfl, .inl ⟨.of hl, fun t nt => q _ _ (sm.trans (same_upd nt)) ⟨t, rfl, upd_same⟩⟩⟩⟩
theorem RS_ok (T : Txt K mg) {tb : Addr} {ks : List Str} : RdgOk P w K mg base (RS K tb ks) 3 where
  ins := fun h => let ⟨_, _, _, _, dx, l, e, _⟩ := h; ⟨dx, _, e, fS_m1 _ _, fS_m2 _ _, fS_m3 _ _⟩
  same := fun h => h.1
  grow := fun h sm => let ⟨a, np, b, c, dx, l, e1, e2, e3⟩ := h; ⟨grow_same a sm, grow_none e1 np, b, c.same sm, dx, l, sm _ _ e1, sm _ _ e2, grow_none e2 e3⟩
  weak := fun h sm => let ⟨a, np, b, c, dx, l, e1, e2, e3⟩ := h; ⟨sm.trans a, sm.free np, b, c, dx, l, e1, e2, sm.free e3⟩
  cls := T.c_S
  take := (ok_S_take T).mono (by decide)
  ends := (ok_S_ends T).mono (by decide)
  told := (ok_S_told T).mono (by decide)
/-- a row's text -/
def rowTx (ks : List Str) (row : List Nat) : List Nat := TL.joinL [32] ((row.map fun i => ks.getD i Str.empty).map TL.tl)
def p_read_sequence (K : PySem.W.Frag) (a b : V) (H : Hp) (Q : VK) : Prop := ∃ (tb : Addr) (ks : List Str) (row : List Nat), a = .ref tb ∧ b = .str (S (rowTx ks row)) ∧ (S (rowTx ks row)).length ≤ 100000 ∧ TbF (CTb K) H tb ks ∧ (∀ k ∈ ks, isName k = true) ∧ ks.Nodup ∧ (∀ i ∈ row, i < ks.length) ∧ row.length ≤ 400 ∧
  ∀ H' v, Same H H' → TotAt H' v row → Q v H'
theorem sc_read_sequence : FnScope ["table", "text"] ["table", "text"] (defScope s_read_sequence) := ⟨rfl, rfl, rfl, by decide +kernel, rfl, by decide +kernel, by decide +kernel⟩
theorem ok_read_sequence (T : Txt K mg) : Cal P w K mg base "read_sequence" 6 ["table", "text"] (sp2 (p_read_sequence K)) := by
  have GI := ok_S_init (P := P) (w := w) (base := base) T
  refine T.f_read_sequence.cal sc_read_sequence (fun _ _ _ _ _ _ us hl => match us, hl with | [_, _], _ => rfl) len2 fun f cdv A outer s0 H vs Q E hr h => ?_
  obtain ⟨_, _, rfl, tb, ks, row, rfl, rfl, hlen, hT, hn, hnd, hrow, hl, q⟩ := h
  have G := ok_read_whole T (RS_ok (P := P) (w := w) (base := base) (tb := tb) (ks := ks) T) (by decide)
  refine ⟨_, pss_one (ps_ret (pe_cal G hr (by rfl) (pa_cons (pe_calI GI (hr.mono (by decide)) (by rfl) T.g_S (pa_cons (pv 0) pa_nil)) (pa_cons (pv 1) pa_nil)))), ?_⟩
  obtain ⟨dT, kA, tA, e, _⟩ := id hT
  refine ⟨_, rfl, fun x dx nx ndx nex => ⟨_, _, rfl, H, x, dx, tb, ks, rfl, rfl, upd_same, made_same nx ndx, nx, hT.same (made_same nx ndx), (ne_of_none e nx).symm, fun H1 hA => ⟨rfl, ?_⟩⟩⟩
  refine ⟨_, rfl, _, _, rfl, H, x, [], _, row, rfl, rfl, hlen, hA, ?_, trivial, fun H2 v sm2 hv => q H2 v sm2 hv⟩
  unfold rowTx
  rw [marks_seq fun k hk => by
    obtain ⟨i, hi, rfl⟩ := List.mem_map.mp hk
    exact hn _ (getD_mem (hrow i hi))]
  exact runS hnd row [] hrow (by rw [List.nil_append]; exact hl)
end
end K7
/-! ## K7W16 -/
set_option Elab.async false
set_option linter.all false
set_option maxRecDepth 100000
set_option maxHeartbeats 4000000
namespace K7
open PySem PySem.Spec PyProof.Rows L2
/-! ### texts by their codes -/
theorem S_app (a b : List Nat) : S a ++ S b = S (a ++ b) := tl_inj (by rw [TL.tl_append])
theorem emp_app (x : Str) : Str.empty ++ x = x := tl_inj (by rw [TL.tl_append]; rfl)
theorem int_str (i : Int) : Str.ofString (toString i) = S (numT i) := tl_inj rfl
theorem joined (a : Str) (ys : List Str) : Txt.join a ys = S (TL.joinL (TL.tl a) (ys.map TL.tl)) := tl_inj (by rw [TL.join_eq, TL.tl_join])
theorem joinedS (a : Str) (ls : List (List Nat)) : Txt.join a (ls.map S) = S (TL.joinL (TL.tl a) ls) := by
  rw [joined, List.map_map]
  have : ls.map (TL.tl ∘ S) = ls := (List.map_congr_left fun l _ => rfl).trans (List.map_id ls)
  rw [this]
theorem len_slash : (Str.ofString "/").length = 1 := by decide +kernel
theorem tl_sp : TL.tl (" " : Str) = [32] := by decide +kernel
theorem tl_eq3 : TL.tl (" = " : Str) = [32, 61, 32] := by decide +kernel
theorem len_app (x y : Str) : (x ++ y).length = x.length + y.length := by rw [TL.len_tl, TL.tl_append, List.length_append, ← TL.len_tl, ← TL.len_tl]
theorem log_small {n : Nat} (h : n ≤ 1000000) : n.log2 < 1920 := by
  by_cases h0 : n = 0
  · rw [h0]
    decide
  · exact (Nat.log2_lt h0).mpr (Nat.lt_of_le_of_lt h (Nat.lt_of_lt_of_le (show 1000000 < 2 ^ 20 by decide) (Nat.pow_le_pow_right (by decide) (by decide))))
theorem joinL_len {c n : Nat} : ∀ ps : List (List Nat), (∀ p ∈ ps, p.length ≤ n) → (TL.joinL [c] ps).length ≤ (n + 1) * ps.length
  | [], _ => Nat.zero_le _
  | [p], h => by
    have := h p List.mem_cons_self
    show p.length ≤ (n + 1) * 1
    omega
  | p :: q :: r, h => by
    have h1 := h p List.mem_cons_self
    have h2 := joinL_len (c := c) (q :: r) fun x hx => h x (List.mem_cons_of_mem _ hx)
    show (p ++ ([c] ++ TL.joinL [c] (q :: r))).length ≤ (n + 1) * ((q :: r).length + 1)
    rw [List.length_append, List.length_append, List.length_singleton, Nat.mul_add]
    omega
theorem sum_le {n : Nat} : ∀ ys : List Str, (∀ y ∈ ys, y.length ≤ n) → (ys.map (·.length)).sum ≤ n * ys.length
  | [], _ => Nat.zero_le _
  | y :: ys, h => by
    have h1 := h y List.mem_cons_self
    have h2 := sum_le ys fun x hx => h x (List.mem_cons_of_mem _ hx)
    rw [List.map_cons, List.sum_cons, List.length_cons, Nat.mul_add]
    omega
theorem lineTx_len {ks : List Str} {rd : Bool} {l : Ln} (hk : ∀ k ∈ ks, isName k = true) (h : LnOk ks rd l) : (lineTx ks rd l).length ≤ 40 := by
  unfold lineTx
  have h1 : (TL.tl (ks.getD l.k Str.empty)).length ≤ 6 := by
    rw [← TL.len_tl]
    exact name_len (hk _ (getD_mem h.k))
  have h2 := amT_len h.fr
  rw [len_S] at h2
  rw [List.length_append, List.length_cons, List.length_append]
  split
  · rename_i hr
    have h3 := (h.w hr).2
    rw [List.length_append, numT_eq, List.length_append]
    have h4 := num_len h3
    split <;> simp only [List.length_cons, List.length_nil] <;> omega
  · simp only [List.length_nil]
    omega
theorem dayTx_len {ks : List Str} {rd : Bool} {r : List Ln} (hk : ∀ k ∈ ks, isName k = true) (h : ∀ l ∈ r, LnOk ks rd l) : (S (dayTx ks rd r)).length ≤ 41 * r.length := by
  unfold dayTx
  rw [len_S]
  have := joinL_len (c := 10) (n := 40) (r.map (lineTx ks rd)) fun p hp => by
    obtain ⟨l, hl, rfl⟩ := List.mem_map.mp hp
    exact lineTx_len hk (h l hl)
  rw [List.length_map] at this
  exact this
/-- a table to be shown -/
def TbK (K : PySem.W.Frag) (H : Hp) (tb : Addr) (ks : List Str) : Prop := ∃ dx kA tA, H tb = some (.ins (CTb K) dx (fTb kA tA)) ∧ Rd H kA (.tup (ks.map V.str))
theorem TbK.same {K : PySem.W.Frag} {H H' : Hp} {tb : Addr} {ks : List Str} (h : TbK K H tb ks) (sm : Same H H') : TbK K H' tb ks := let ⟨dx, kA, tA, e, r⟩ := h; ⟨dx, kA, tA, sm _ _ e, rd_same sm r⟩
theorem kind_at {ks : List Str} {i : Nat} (h : i < ks.length) : atI (ks.map V.str) (i : Int) = some (.str (ks.getD i Str.empty)) := by
  refine atI_nat ?_
  rw [List.getElem?_map, List.getD_eq_getElem?_getD, List.getElem?_eq_getElem h]
  rfl
section
variable {P : Program} {w : World} {K : PySem.W.Frag} {mg : Str → Option Value} {base : Heap} {rd : Bool}
/-! ### show_fraction -/
def p_show_fraction (a : V) (H : Hp) (Q : VK) : Prop := ∃ t b, FrAt H a t b ∧ FrOk t b ∧ Q (.str (S (amT t b))) H
theorem sc_show_fraction : FnScope ["one"] ["one"] (defScope s_show_fraction) := ⟨rfl, rfl, rfl, by decide +kernel, rfl, by decide +kernel, by decide +kernel⟩
theorem ok_show_fraction (T : Txt K mg) : CalS P w K mg base "show_fraction" s_show_fraction 1 ["one"] (sp1 p_show_fraction) := by
  refine T.f_show_fraction.calS sc_show_fraction len1 fun f cdv A outer s0 H vs Q E hr h => ?_
  obtain ⟨_, rfl, t, b, ⟨a, rfl, ha⟩, hf, q⟩ := h
  refine ⟨_, pss_one (ps_ret (pe_ifExp (pt_cmpR op_eq (pe_ix ix_tup (pv 0) pe_int (fun _ _ => rfl)) pe_int (nomark _)) (pe_joined1 (pe_fmt (pe_ix ix_tup (pv 0) pe_int (fun _ _ => rfl))))
    (pe_joined (.cons (pe_fmt (pe_ix ix_tup (pv 0) pe_int (fun _ _ => rfl))) (.cons pe_str (.cons (pe_fmt (pe_ix ix_tup (pv 0) pe_int (fun _ _ => rfl))) .nil)))))), ?_⟩
  have e0 : atI [V.int t, V.int (b : Int)] 0 = some (.int t) := rfl
  have e1 : atI [V.int t, V.int (b : Int)] 1 = some (.int (b : Int)) := rfl
  have l0 := log_small hf.1
  have l1 : ((b : Nat) : Int).natAbs.log2 < 1920 := log_small (by rw [Int.natAbs_natCast]; exact hf.2.2.1)
  have hl := amT_len hf
  refine ⟨_, rfl, a, _, _, _, rfl, rfl, .of ha, e1, rfl, _, rfl, ?_⟩
  by_cases hb : b = 1
  · rw [decide_eq_true (show V.int (b : Int) = V.int 1 by rw [hb]; rfl)]
    refine iteT ⟨_, rfl, a, _, _, _, rfl, rfl, .of ha, e0, .inr ⟨_, rfl, l0, ?_⟩⟩
    rw [int_str]
    have e : amT t b = numT t := by
      unfold amT
      rw [if_pos hb, List.append_nil]
    rw [e] at q
    exact q
  · rw [decide_eq_false (fun z => hb (by have := V.int.inj z; omega))]
    have e : amT t b = numT t ++ (47 :: numT (b : Int)) := by
      unfold amT
      rw [if_neg hb, numT_nat]
    rw [e] at q hl
    rw [len_S, List.length_append, List.length_cons] at hl
    refine iteF ⟨_, rfl, a, _, _, _, rfl, rfl, .of ha, e0, .inr ⟨_, rfl, l0, _, rfl, ?_, _, rfl, ?_, _, rfl, a, _, _, _, rfl, rfl, .of ha, e1, .inr ⟨_, rfl, l1, _, rfl, ?_, ?_⟩⟩⟩
    · rw [int_str, emp_app, len_S]
      exact small' (by omega)
    · rw [int_str, emp_app, len_app, len_slash, len_S]
      exact small' (by omega)
    · rw [int_str, int_str, emp_app, len_app, len_app, len_slash, len_S, len_S]
      exact small' (by omega)
    · have ef : Str.empty ++ Str.ofString (toString t) ++ Str.ofString "/" ++ Str.ofString (toString (b : Int)) = S (numT t ++ (47 :: numT (b : Int))) := by
        rw [int_str, int_str, emp_app, ← S_tl (Str.ofString "/"), S_app, S_app, tl_sl, List.append_assoc]
        rfl
      rw [ef]
      exact q
end
end K7
/-! ## K7W17 -/
set_option Elab.async false
set_option linter.all false
set_option maxRecDepth 100000
set_option maxHeartbeats 4000000
namespace K7
open PySem PySem.Spec PyProof.Rows L2
theorem sl_eq {a b : Str} (h : TL.tl a = TL.tl b) : a = b := tl_inj h
theorem join_ok {n : Nat} {a : Str} {ys : List Str} (h : ∀ y ∈ ys, y.length ≤ n) (hn : n * ys.length + ys.length * a.length ≤ 100000) : (ys.map (·.length)).sum + ys.length * a.length ≤ 16777216 := by
  have := sum_le ys h
  omega
section
variable {P : Program} {w : World} {K : PySem.W.Frag} {mg : Str → Option Value} {base : Heap} {rd : Bool}
/-! ### show_table -/
def p_show_table (K : PySem.W.Frag) (a : V) (H : Hp) (Q : VK) : Prop := ∃ tb ks ts, a = .ref tb ∧ TabAt (CTb K) H tb ks ts ∧ TabD ks ts ∧ ∀ H', Same H H' → Q (.str (tabX ks ts)) H'
theorem sc_show_table : FnScope ["table", "lines", "total", "kind"] ["table"] (defScope s_show_table) := ⟨rfl, rfl, rfl, by decide +kernel, rfl, by decide +kernel, by decide +kernel⟩
/-- a total as it is shown -/
def totTx1 (ks : List Str) (t : List Nat) : List Nat := TL.joinL [32] (TL.tl ("total" : Str) :: (t.map fun n => ks.getD n Str.empty).map TL.tl)
theorem tabX_eq {ks : List Str} {ts : List (List Nat)} (h : ks ≠ []) : tabX ks ts = S (TL.joinL [10] ((TL.tl ("kinds" : Str) ++ (32 :: TL.joinL [32] (ks.map TL.tl))) :: ts.map (totTx1 ks))) := by
  unfold tabX
  rw [tab_shown h]
  unfold totN
  rw [List.map_map]
  rfl
theorem tl_kinds_ : TL.tl ("kinds " : Str) = TL.tl ("kinds" : Str) ++ [32] := by decide +kernel
theorem ok_show_table (T : Txt K mg) : CalS P w K mg base "show_table" s_show_table 1 ["table"] (sp1 (p_show_table K)) := by
  refine T.f_show_table.calS sc_show_table len1 fun f cdv A outer s0 H vs Q E hr h => ?_
  obtain ⟨_, rfl, tb, ks, ts, rfl, ⟨dx, kA, tA, hT, hKT⟩, hD, q⟩ := h
  have nd := sc_show_table.nd
  refine ⟨_, pss_cons (ps_set (i := 1) nd rfl (.inl rfl) (pe_lst (pa_cons (pe_op op_add_str pe_str (pe_join pe_str (pe_fld (pv 0) rfl))) pa_nil)))
    (pss_cons (ps_for PassesOwn.never rfl (pi_tup (pe_fld (pv 0) rfl)) (pg_name (i := 2) nd rfl (.inl rfl))
      (pss_one (ps_expr (pe_bm PySem.F.plainAttrs_list PySem.F.slot_list_append PySem.F.type_list_append mt_append (pv 1) (pa_cons (pe_join pe_str (pe_op op_cat (pe_lst (pa_cons pe_str pa_nil))
        (pe_lc (own := [("kind", 3)]) (te := tOp (rIxT K) (tFld K (tVar 0) "kinds") (tVar 3)) (g := gName 3) (tt := tYes) rfl nd (pi_tup (pv 2)) (blkOk_by (N := ["table", "lines", "total", "kind"]) (sc := defScope s_show_table) (by decide +kernel))
          (fun _ _ _ _ _ => pg_name (i := 3) nd rfl (Or.inl rfl)) (fun _ _ _ _ _ => pts_nil)
          (fun _ _ _ _ _ => pe_ix (r := rIxT K) ix_tup (pe_fld (pv 0) rfl) (pv 3) (fun _ _ => rfl))))) pa_nil)))))
    (pss_one (ps_ret (pe_join pe_str (pv 1))))), ?_⟩
  obtain ⟨hk_, rs, hrs, hall⟩ := id hKT
  have hne : ks ≠ [] := fun z => by
    have := hD.ne
    rw [z] at this
    exact absurd this (by decide)
  rw [tabX_eq hne] at q
  have hk12 := hD.len
  have ht12 := hD.tlen
  -- the texts of the lines
  let L : List Nat → Str := fun x => S x
  have e0 : Str.ofString "kinds " ++ Txt.join (Str.ofString " ") ks = S (TL.tl ("kinds" : Str) ++ (32 :: TL.joinL [32] (ks.map TL.tl))) := by
    rw [joined, show TL.tl (Str.ofString " ") = [32] from tl_sp, ← S_tl (Str.ofString "kinds "), S_app, show TL.tl (Str.ofString "kinds ") = _ from tl_kinds_, List.append_assoc]
    rfl
  have l0 : (Txt.join (Str.ofString " ") ks).length ≤ 84 := by
    rw [joined, len_S, show TL.tl (Str.ofString " ") = [32] from tl_sp]
    have := joinL_len (c := 32) (n := 6) (ks.map TL.tl) fun p hp => by
      obtain ⟨k, hk, rfl⟩ := List.mem_map.mp hp
      rw [← TL.len_tl]
      exact hD.len6 k hk
    rw [List.length_map] at this
    omega
  have ltot : ∀ t ∈ ts, (totTx1 ks t).length ≤ 91 := fun t ht => by
    obtain ⟨h1, h2⟩ := hD.tot t ht
    have hl := asc_len h1 h2
    unfold totTx1
    have := joinL_len (c := 32) (n := 6) (TL.tl ("total" : Str) :: (t.map fun n => ks.getD n Str.empty).map TL.tl) fun p hp => by
      rcases List.mem_cons.mp hp with rfl | hp
      · rw [tl_total]
        decide
      · obtain ⟨k, hk, rfl⟩ := List.mem_map.mp hp
        obtain ⟨n, hn, rfl⟩ := List.mem_map.mp hk
        rw [← TL.len_tl]
        exact hD.len6 _ (getD_mem (h2 n hn))
    rw [List.length_cons, List.length_map, List.length_map] at this
    omega
  refine ⟨⟨_, rfl⟩, _, rfl, tb, _, dx, _, _, rfl, hT, T.c_Tb, T.n_Tb_kinds, fTb_kinds _ _, _, kA, ks, rfl, rfl, .inr (.inl hk_), join_ok (n := 6) hD.len6 (by rw [show (Str.ofString " ").length = 1 by decide +kernel]; omega), ?_⟩
  refine ⟨_, _, rfl, rfl, small' (by rw [show (Str.ofString "kinds ").length = 6 by decide +kernel]; omega), (by show 1 ≤ sizeLine; decide), fun l nl => ?_⟩
  rw [e0]
  have sm1 := same_upd (o := .lst [.str (S (TL.tl ("kinds" : Str) ++ (32 :: TL.joinL [32] (ks.map TL.tl))))]) nl
  have hl1 := upd_same (H := H) (a := l) (o := HO.lst [.str (S (TL.tl ("kinds" : Str) ++ (32 :: TL.joinL [32] (ks.map TL.tl))))])
  generalize upd H l (.lst [.str (S (TL.tl ("kinds" : Str) ++ (32 :: TL.joinL [32] (ks.map TL.tl))))]) = H1 at sm1 hl1 ⊢
  refine ⟨_, rfl, tb, _, dx, _, _, rfl, sm1 _ _ hT, T.c_Tb, T.n_Tb_totals, fTb_totals _ _, tA, rfl, ⟨_, .of (sm1 _ _ hrs)⟩, ?_⟩
  have hrl : rs.length = ts.length := hall.1
  refine for_tup (K := K) (a := tA) (xs := rs) (fun i σ H' => ∃ v2 v3, σ = [some (.ref tb), some (.ref l), v2, v3] ∧ Same H H' ∧ H' l = some (.lst (((TL.tl ("kinds" : Str) ++ (32 :: TL.joinL [32] (ks.map TL.tl))) :: (ts.take i).map (totTx1 ks)).map fun x => V.str (S x))))
    ⟨none, none, rfl, sm1, hl1⟩ (fun i σ H' _ ⟨_, _, _, sm, _⟩ => .of (sm _ _ hrs)) (fun i v σ H' hv ⟨v2, v3, e, sm, hl⟩ => ?_) (fun σ H' ⟨v2, v3, e, sm, hl⟩ => ?_)
  · subst e
    obtain ⟨t, ht, a, rfl, ha⟩ := hall.get hv
    obtain ⟨t1, t2⟩ := hD.tot t (List.mem_of_getElem? ht)
    have htl := asc_len t1 t2
    have hts : i < ts.length := (List.getElem?_eq_some_iff.mp ht).1
    refine ⟨_, rfl, .inl ⟨rfl, _, .of hl⟩, ⟨_, rfl⟩, (by show 1 ≤ sizeLine; decide), fun o no => ?_⟩
    have so := same_upd (o := .lst [.str "total"]) no
    have ho := upd_same (H := H') (a := o) (o := HO.lst [.str "total"])
    have nlo : l ≠ o := ne_of_none hl no
    generalize upd H' o (.lst [.str "total"]) = H2 at so ho ⊢
    refine ⟨_, rfl, a, rfl, ⟨_, .of (so _ _ (sm _ _ ha))⟩, fun D hD2 => lc_mapS walk_tup (fun v => match v with | .int i => .str (ks.getD i.toNat Str.empty) | _ => .non) hD2 (by rw [List.length_map]; omega) (fun H3 sm3 => .of (sm3 _ _ (so _ _ (sm _ _ ha)))) (fun j y H3 N hy sm3 fin => ?_) (fun H3 sm3 hL => ?_)⟩
    · rw [List.getElem?_map] at hy
      obtain ⟨n, hn, rfl⟩ := Option.map_eq_some_iff.mp hy
      have s3 := (sm.trans so).trans sm3
      exact ⟨rfl, _, rfl, tb, _, dx, _, _, rfl, s3 _ _ hT, T.c_Tb, T.n_Tb_kinds, fTb_kinds _ _, _, rfl, kA, _, _, _, rfl, rfl, .inl (rd_same s3 hk_), kind_at (t2 n (List.mem_of_getElem? hn)), fin H3 (Same.refl _)⟩
    · have hL2 : H3 D = some (.lst ((t.map fun n => ks.getD n Str.empty).map V.str)) := by
        rw [hL, List.map_map, List.map_map]
        rfl
      refine ⟨o, D, _, _, rfl, rfl, sm3 _ _ ho, hL2, small' (by simp only [List.length_map, List.length_cons, List.length_nil]; omega), fun u nu => ?_⟩
      have s4 := same_upd (o := .lst ([V.str "total"] ++ (t.map fun n => ks.getD n Str.empty).map V.str)) nu
      have hu := upd_same (H := H3) (a := u) (o := .lst ([V.str "total"] ++ (t.map fun n => ks.getD n Str.empty).map V.str))
      generalize upd H3 u (.lst ([V.str "total"] ++ (t.map fun n => ks.getD n Str.empty).map V.str)) = H4 at s4 hu ⊢
      have s5 := so.trans (sm3.trans s4)
      refine ⟨_, u, ("total" : Str) :: t.map fun n => ks.getD n Str.empty, rfl, rfl, .inl (.of hu), join_ok (n := 6) (fun y hy => ?_) ?_, ?_⟩
      · rcases List.mem_cons.mp hy with rfl | hy
        · decide +kernel
        · obtain ⟨n, hn, rfl⟩ := List.mem_map.mp hy
          exact hD.len6 _ (getD_mem (t2 n hn))
      · rw [show (Str.ofString " ").length = 1 by decide +kernel, List.length_cons, List.length_map]
        omega
      · refine ⟨l, _, _, rfl, rfl, s5 _ _ hl, small (by simp only [List.length_map, List.length_cons, List.length_take]; omega), ?_⟩
        refine ⟨_, _, rfl, same_at (sm.trans s5) nl, ?_⟩
        rw [upd_same, take_snoc ht, joined, show TL.tl (Str.ofString " ") = [32] from tl_sp]
        simp only [List.map_append, List.map_cons, List.map_nil, List.cons_append]
        rfl
  · subst e
    rw [hrl, take_all] at hl
    refine ⟨⟨_, rfl⟩, _, rfl, _, l, (((TL.tl ("kinds" : Str) ++ (32 :: TL.joinL [32] (ks.map TL.tl))) :: ts.map (totTx1 ks))).map S, rfl, rfl, .inl (.of (by rw [List.map_map]; exact hl)), join_ok (n := 100) (fun y hy => ?_) ?_, ?_⟩
    · obtain ⟨x, hx, rfl⟩ := List.mem_map.mp hy
      rw [len_S]
      rcases List.mem_cons.mp hx with rfl | hx
      · rw [← len_S, ← e0, len_app, show (Str.ofString "kinds ").length = 6 by decide +kernel]
        omega
      · obtain ⟨t, ht, rfl⟩ := List.mem_map.mp hx
        have := ltot t ht
        omega
    · rw [show (Str.ofString "\n").length = 1 by decide +kernel, List.length_map, List.length_cons, List.length_map]
      omega
    · rw [joinedS, show TL.tl (Str.ofString "\n") = [10] from tl_nl]
      exact q _ sm
end
end K7
/-! ## K7W18 -/
set_option Elab.async false
set_option linter.all false
set_option maxRecDepth 100000
set_option maxHeartbeats 4000000
namespace K7
open PySem PySem.Spec PyProof.Rows L2
theorem len_sp : (Str.ofString " ").length = 1 := by decide +kernel
theorem len_nl : (Str.ofString "\n").length = 1 := by decide +kernel
theorem len_eq3 : (Str.ofString " = ").length = 3 := by decide +kernel
/-- an f-string's value -/
def tFstr (ts : List TE) : TE := fun σ H Q => tJs ts Str.empty σ H fun out H1 => Q (.str out) H1
theorem pe_fstr {X : Cx} {v1 v2 : Expr} {rest : List Expr} {ts : List TE} {pos : Pos} (h : PJ X (v1 :: v2 :: rest) ts) : PE X (.JoinedStr (v1 :: v2 :: rest) pos) (tFstr ts) := pe_joined h
section
variable {P : Program} {w : World} {K : PySem.W.Frag} {mg : Str → Option Value} {base : Heap} {rd : Bool}
def p_show_day (K : PySem.W.Frag) (rd : Bool) (a b : V) (H : Hp) (Q : VK) : Prop := ∃ tb ks p rs r, a = .ref tb ∧ b = .ref p ∧ TbK K H tb ks ∧ H p = some (.tup rs) ∧ All2 (LnAt rd H) rs r ∧ (∀ k ∈ ks, isName k = true) ∧ (∀ l ∈ r, LnOk ks rd l) ∧ r.length ≤ 400 ∧ ∀ H', Same H H' → Q (.str (S (dayTx ks rd r))) H'
theorem day_join {ks : List Str} {rd : Bool} {r : List Ln} (hn : ∀ k ∈ ks, isName k = true) (hok : ∀ l ∈ r, LnOk ks rd l) (hl : r.length ≤ 400) : ((((r.map (lineTx ks rd)).map S).map (·.length)).sum + ((r.map (lineTx ks rd)).map S).length * (Str.ofString "\n").length ≤ 16777216) ∧ Txt.join (Str.ofString "\n") ((r.map (lineTx ks rd)).map S) = S (dayTx ks rd r) := by
  refine ⟨join_ok (n := 40) (fun y hy => ?_) ?_, ?_⟩
  · obtain ⟨x, hx, rfl⟩ := List.mem_map.mp hy
    obtain ⟨l, hl, rfl⟩ := List.mem_map.mp hx
    rw [len_S]
    exact lineTx_len hn (hok l hl)
  · rw [len_nl, List.length_map, List.length_map]
    omega
  · rw [joinedS, show TL.tl (Str.ofString "\n") = [10] from tl_nl]
    rfl
theorem numT_len {i : Int} (h : i.natAbs ≤ 1000000) : (numT i).length ≤ 8 := by
  rw [numT_eq, List.length_append]
  have := num_len h
  split <;> simp only [List.length_cons, List.length_nil] <;> omega
theorem amT_len2 {t : Int} {b : Nat} (h : FrOk t b) : (amT t b).length ≤ 16 := by
  have := amT_len h
  rw [len_S] at this
  exact this
theorem sc_show_day : FnScope ["table", "day", "kind", "amount", "whole"] ["table", "day"] (defScope s_show_day) := ⟨rfl, rfl, rfl, by decide +kernel, rfl, by decide +kernel, by decide +kernel⟩
theorem ok_show_day (T : Txt K mg) : CalS P w K mg base "show_day" s_show_day 2 ["table", "day"] (sp2 (p_show_day K true)) := by
  have G := (ok_show_fraction (P := P) (w := w) (base := base) T).cal (fun _ _ _ _ _ _ us hl => match us, hl with | [_], _ => rfl)
  refine T.f_show_day.calS sc_show_day len2 fun f cdv A outer s0 H vs Q E hr h => ?_
  obtain ⟨_, _, rfl, tb, ks, p, rs, r, rfl, rfl, ⟨dx, kA, tA, hT, hk_⟩, hp, hall, hn, hok, hl, q⟩ := h
  have nd := sc_show_day.nd
  refine ⟨_, pss_one (ps_ret (pe_join pe_str (pe_lc (own := [("kind", 2), ("amount", 3), ("whole", 4)])
    (te := tFstr [tFmt (tOp (rIxT K) (tFld K (tVar 0) "kinds") (tVar 2)), tC (.str " "), tFmt (tCall (sp1 p_show_fraction) [] E0 (tCons (tVar 3) tNil)), tC (.str " = "), tFmt (tVar 4)])
    (g := gTup K 3 (gCons (gName 2) (gCons (gName 3) (gCons (gName 4) gNil)))) (tt := tYes) rfl nd (pi_tup (pv 1)) (blkOk_by (N := ["table", "day", "kind", "amount", "whole"]) (sc := defScope s_show_day) (by decide +kernel))
    (fun _ _ _ _ _ => pg_tup rfl (pgs_cons (pg_name (i := 2) nd rfl (Or.inl rfl)) (pgs_cons (pg_name (i := 3) nd rfl (Or.inl rfl)) (pgs_cons (pg_name (i := 4) nd rfl (Or.inl rfl)) pgs_nil)))) (fun _ _ _ _ _ => pts_nil)
    (fun _ _ _ _ _ => pe_fstr (.cons (pe_fmt (pe_ix (r := rIxT K) ix_tup (pe_fld (pv 0) rfl) (pv 2) (fun _ _ => rfl))) (.cons pe_str (.cons (pe_fmt (pe_cal G hr (by rfl) (pa_cons (pv 3) pa_nil))) (.cons pe_str (.cons (pe_fmt (pv 4)) .nil))))))))), ?_⟩
  have hrl : rs.length = r.length := hall.1
  refine ⟨⟨_, rfl⟩, _, rfl, p, rfl, ⟨_, .of hp⟩, fun D hD => ?_⟩
  refine lc_gen walk_tup (fun i ys H' => Same H H' ∧ ys = (r.take i).map fun l => V.str (S (lineTx ks true l))) ⟨same_upd hD, rfl⟩ (fun i ys H' _ e => .of (e.1 _ _ hp)) (fun i ys H' hi e => ?_) (fun i x ys H' N hx e eD st _ => ?_) (fun ys H' e eD => ?_)
  · rw [e.2, List.length_map, List.length_take]
    omega
  · obtain ⟨sm, rfl⟩ := e
    obtain ⟨l, hlr, a, f, rfl, ha, hf⟩ := hall.get hx
    have hlk := hok l (List.mem_of_getElem? hlr)
    rw [if_pos rfl] at ha
    have lw := (hlk.w rfl).2
    have ln := name_len (hn _ (getD_mem hlk.k))
    have la : (S (amT l.t l.b)).length ≤ 16 := by rw [len_S]; exact amT_len2 hlk.fr
    have lq : (S (numT l.w)).length ≤ 8 := by rw [len_S]; exact numT_len lw
    refine ⟨a, _, rfl, .of (sm _ _ ha), rfl, _, _, rfl, _, _, rfl, _, _, rfl, rfl, rfl, ?_⟩
    refine ⟨_, rfl, tb, _, dx, _, _, rfl, sm _ _ hT, T.c_Tb, T.n_Tb_kinds, fTb_kinds _ _, _, rfl, kA, _, _, _, rfl, rfl, .inl (rd_same sm hk_), kind_at hlk.k, .inl ⟨_, rfl, small' (by omega), _, rfl, small' (by rw [emp_app]; omega), _, rfl, small' (by rw [emp_app, len_app, len_sp]; omega), ?_⟩⟩
    refine ⟨_, rfl, _, rfl, l.t, l.b, hf.keep (TupK.same sm), hlk.fr, .inl ⟨_, rfl, small' (by omega), _, rfl, small' (by rw [emp_app, len_app, len_app, len_sp]; omega), _, rfl, small' (by rw [emp_app, len_app, len_app, len_app, len_sp, len_eq3]; omega), ?_⟩⟩
    refine ⟨_, rfl, .inr ⟨_, rfl, log_small lw, _, rfl, small' (by rw [emp_app, len_app, len_app, len_app, len_app, len_sp, len_eq3, int_str]; omega), ?_⟩⟩
    refine st H' _ eD ⟨same_at sm hD, ?_⟩
    rw [take_snoc hlr, List.map_append]
    congr 1
    show [_] = [_]
    congr 2
    refine tl_inj ?_
    rw [emp_app, int_str]
    simp only [TL.tl_append]
    rw [show TL.tl (Str.ofString " ") = [32] from tl_sp, show TL.tl (Str.ofString " = ") = _ from tl_eq3]
    unfold lineTx
    rw [if_pos rfl]
    simp only [tl_S, List.append_assoc, List.cons_append, List.nil_append]
  · rw [hrl, take_all] at e
    obtain ⟨sm, rfl⟩ := e
    obtain ⟨j1, j2⟩ := day_join hn hok hl
    refine ⟨_, D, (r.map (lineTx ks true)).map S, rfl, rfl, .inl (.of (by rw [List.map_map, List.map_map]; exact eD)), j1, ?_⟩
    rw [j2]
    exact q _ sm
theorem sc_show_lines : FnScope ["table", "lines", "kind", "amount"] ["table", "lines"] (defScope s_show_lines) := ⟨rfl, rfl, rfl, by decide +kernel, rfl, by decide +kernel, by decide +kernel⟩
theorem ok_show_lines (T : Txt K mg) : CalS P w K mg base "show_lines" s_show_lines 2 ["table", "lines"] (sp2 (p_show_day K false)) := by
  have G := (ok_show_fraction (P := P) (w := w) (base := base) T).cal (fun _ _ _ _ _ _ us hl => match us, hl with | [_], _ => rfl)
  refine T.f_show_lines.calS sc_show_lines len2 fun f cdv A outer s0 H vs Q E hr h => ?_
  obtain ⟨_, _, rfl, tb, ks, p, rs, r, rfl, rfl, ⟨dx, kA, tA, hT, hk_⟩, hp, hall, hn, hok, hl, q⟩ := h
  have nd := sc_show_lines.nd
  refine ⟨_, pss_one (ps_ret (pe_join pe_str (pe_lc (own := [("kind", 2), ("amount", 3)])
    (te := tFstr [tFmt (tOp (rIxT K) (tFld K (tVar 0) "kinds") (tVar 2)), tC (.str " "), tFmt (tCall (sp1 p_show_fraction) [] E0 (tCons (tVar 3) tNil))])
    (g := gTup K 2 (gCons (gName 2) (gCons (gName 3) gNil))) (tt := tYes) rfl nd (pi_tup (pv 1)) (blkOk_by (N := ["table", "lines", "kind", "amount"]) (sc := defScope s_show_lines) (by decide +kernel))
    (fun _ _ _ _ _ => pg_tup rfl (pgs_cons (pg_name (i := 2) nd rfl (Or.inl rfl)) (pgs_cons (pg_name (i := 3) nd rfl (Or.inl rfl)) pgs_nil))) (fun _ _ _ _ _ => pts_nil)
    (fun _ _ _ _ _ => pe_fstr (.cons (pe_fmt (pe_ix (r := rIxT K) ix_tup (pe_fld (pv 0) rfl) (pv 2) (fun _ _ => rfl))) (.cons pe_str (.cons (pe_fmt (pe_cal G hr (by rfl) (pa_cons (pv 3) pa_nil))) .nil))))))), ?_⟩
  have hrl : rs.length = r.length := hall.1
  refine ⟨⟨_, rfl⟩, _, rfl, p, rfl, ⟨_, .of hp⟩, fun D hD => ?_⟩
  refine lc_gen walk_tup (fun i ys H' => Same H H' ∧ ys = (r.take i).map fun l => V.str (S (lineTx ks false l))) ⟨same_upd hD, rfl⟩ (fun i ys H' _ e => .of (e.1 _ _ hp)) (fun i ys H' hi e => ?_) (fun i x ys H' N hx e eD st _ => ?_) (fun ys H' e eD => ?_)
  · rw [e.2, List.length_map, List.length_take]
    omega
  · obtain ⟨sm, rfl⟩ := e
    obtain ⟨l, hlr, a, f, rfl, ha, hf⟩ := hall.get hx
    have hlk := hok l (List.mem_of_getElem? hlr)
    rw [if_neg Bool.false_ne_true] at ha
    have ln := name_len (hn _ (getD_mem hlk.k))
    have la : (S (amT l.t l.b)).length ≤ 16 := by rw [len_S]; exact amT_len2 hlk.fr
    refine ⟨a, _, rfl, .of (sm _ _ ha), rfl, _, _, rfl, _, _, rfl, rfl, rfl, ?_⟩
    refine ⟨_, rfl, tb, _, dx, _, _, rfl, sm _ _ hT, T.c_Tb, T.n_Tb_kinds, fTb_kinds _ _, _, rfl, kA, _, _, _, rfl, rfl, .inl (rd_same sm hk_), kind_at hlk.k, .inl ⟨_, rfl, small' (by omega), _, rfl, small' (by rw [emp_app]; omega), _, rfl, small' (by rw [emp_app, len_app, len_sp]; omega), ?_⟩⟩
    refine ⟨_, rfl, _, rfl, l.t, l.b, hf.keep (TupK.same sm), hlk.fr, .inl ⟨_, rfl, small' (by omega), _, rfl, small' (by rw [emp_app, len_app, len_app, len_sp]; omega), ?_⟩⟩
    refine st H' _ eD ⟨same_at sm hD, ?_⟩
    rw [take_snoc hlr, List.map_append]
    congr 1
    show [_] = [_]
    congr 2
    refine tl_inj ?_
    rw [emp_app]
    simp only [TL.tl_append]
    rw [show TL.tl (Str.ofString " ") = [32] from tl_sp]
    unfold lineTx
    rw [if_neg Bool.false_ne_true]
    simp only [tl_S, List.append_assoc, List.cons_append, List.nil_append, List.append_nil]
  · rw [hrl, take_all] at e
    obtain ⟨sm, rfl⟩ := e
    obtain ⟨j1, j2⟩ := day_join hn hok hl
    refine ⟨_, D, (r.map (lineTx ks false)).map S, rfl, rfl, .inl (.of (by rw [List.map_map, List.map_map]; exact eD)), j1, ?_⟩
    rw [j2]
    exact q _ sm
/-! ### show_sequence -/
def p_show_sequence (K : PySem.W.Frag) (a b : V) (H : Hp) (Q : VK) : Prop := ∃ tb ks p row, a = .ref tb ∧ b = .ref p ∧ TbK K H tb ks ∧ H p = some (.tup (natV row)) ∧ (∀ k ∈ ks, isName k = true) ∧ (∀ i ∈ row, i < ks.length) ∧ row.length ≤ 400 ∧ ∀ H', Same H H' → Q (.str (S (rowTx ks row))) H'
theorem sc_show_sequence : FnScope ["table", "sequence", "kind"] ["table", "sequence"] (defScope s_show_sequence) := ⟨rfl, rfl, rfl, by decide +kernel, rfl, by decide +kernel, by decide +kernel⟩
theorem ok_show_sequence (T : Txt K mg) : CalS P w K mg base "show_sequence" s_show_sequence 1 ["table", "sequence"] (sp2 (p_show_sequence K)) := by
  refine T.f_show_sequence.calS sc_show_sequence len2 fun f cdv A outer s0 H vs Q E hr h => ?_
  obtain ⟨_, _, rfl, tb, ks, p, row, rfl, rfl, ⟨dx, kA, tA, hT, hk_⟩, hp, hn, hrow, hl, q⟩ := h
  have nd := sc_show_sequence.nd
  refine ⟨_, pss_one (ps_ret (pe_join pe_str (pe_lc (own := [("kind", 2)]) (te := tOp (rIxT K) (tFld K (tVar 0) "kinds") (tVar 2)) (g := gName 2) (tt := tYes) rfl nd (pi_tup (pv 1)) (blkOk_by (N := ["table", "sequence", "kind"]) (sc := defScope s_show_sequence) (by decide +kernel))
    (fun _ _ _ _ _ => pg_name (i := 2) nd rfl (Or.inl rfl)) (fun _ _ _ _ _ => pts_nil)
    (fun _ _ _ _ _ => pe_ix (r := rIxT K) ix_tup (pe_fld (pv 0) rfl) (pv 2) (fun _ _ => rfl))))), ?_⟩
  have hrl : (natV row).length = row.length := List.length_map _
  refine ⟨⟨_, rfl⟩, _, rfl, p, rfl, ⟨_, .of hp⟩, fun D hD => lc_mapS walk_tup (fun v => match v with | .int i => .str (ks.getD i.toNat Str.empty) | _ => .non) hD (by omega) (fun H3 sm3 => .of (sm3 _ _ hp)) (fun j y H3 N hy sm3 fin => ?_) (fun H3 sm3 hL => ?_)⟩
  · unfold natV at hy
    rw [List.getElem?_map] at hy
    obtain ⟨n, hn', rfl⟩ := Option.map_eq_some_iff.mp hy
    exact ⟨rfl, _, rfl, tb, _, dx, _, _, rfl, sm3 _ _ hT, T.c_Tb, T.n_Tb_kinds, fTb_kinds _ _, _, rfl, kA, _, _, _, rfl, rfl, .inl (rd_same sm3 hk_), kind_at (hrow n (List.mem_of_getElem? hn')), fin H3 (Same.refl _)⟩
  · have hL2 : H3 D = some (.lst ((row.map fun n => ks.getD n Str.empty).map V.str)) := by
      rw [hL]
      unfold natV
      rw [List.map_map, List.map_map]
      rfl
    refine ⟨_, D, _, rfl, rfl, .inl (.of hL2), join_ok (n := 6) (fun y hy => ?_) (by rw [len_sp, List.length_map]; omega), ?_⟩
    · obtain ⟨n, hn', rfl⟩ := List.mem_map.mp hy
      exact name_len (hn _ (getD_mem (hrow n hn')))
    · rw [joined, show TL.tl (Str.ofString " ") = [32] from tl_sp]
      exact q _ sm3
end
end K7
/-! ## K7L1 -/
set_option Elab.async false
set_option linter.all false
set_option maxRecDepth 100000
set_option maxHeartbeats 4000000
/-! The law's helpers: draws. -/
namespace K7
open PySem PySem.Spec PyProof.Rows L2
/-- the heap of draws: its list at a, its cells at b -/
def HxA (H : Hp) (a b : Addr) : Prop := ∃ (ns : List Int) (st : Int), H a = some (.lst [.ref b, .int st]) ∧ H b = some (.lst (ns.map V.int)) ∧ ns.length ≤ 100
/-- all but what stands at a and b -/
def Kp (a b : Addr) (H H' : Hp) : Prop := ∀ c o, H c = some o → c ≠ a → c ≠ b → H' c = some o
/-- all but lists -/
def NL (H H' : Hp) : Prop := ∀ c o, H c = some o → (∀ xs, o ≠ .lst xs) → H' c = some o
theorem Kp.refl {a b : Addr} (H : Hp) : Kp a b H H := fun _ _ e _ _ => e
theorem Kp.trans {a b : Addr} {H H1 H2 : Hp} (h : Kp a b H H1) (h' : Kp a b H1 H2) : Kp a b H H2 := fun c o e x y => h' c o (h c o e x y) x y
theorem Kp.same {a b : Addr} {H H' : Hp} (h : Same H H') : Kp a b H H' := fun c o e _ _ => h c o e
theorem Kp.updA {a b : Addr} {H : Hp} {u : HO} : Kp a b H (upd H a u) := fun c o e x _ => by rw [upd_ne x]; exact e
theorem Kp.updB {a b : Addr} {H : Hp} {u : HO} : Kp a b H (upd H b u) := fun c o e _ y => by rw [upd_ne y]; exact e
theorem NL.refl (H : Hp) : NL H H := fun _ _ e _ => e
theorem NL.trans {H H1 H2 : Hp} (h : NL H H1) (h' : NL H1 H2) : NL H H2 := fun c o e x => h' c o (h c o e x) x
theorem NL.same {H H' : Hp} (h : Same H H') : NL H H' := fun c o e _ => h c o e
theorem HxA.ne {H : Hp} {a b : Addr} (h : HxA H a b) : a ≠ b := by
  obtain ⟨ns, st, e1, e2, _⟩ := h
  intro z
  rw [z, e2] at e1
  cases ns with
  | nil => cases e1
  | cons n ns => cases e1
theorem Kp.nl {a b : Addr} {H H' : Hp} (k : Kp a b H H') (h : HxA H a b) : NL H H' := by
  obtain ⟨ns, st, e1, e2, _⟩ := h
  exact fun c o e hn => k c o e (fun z => by rw [z, e1] at e; cases e; exact hn _ rfl) (fun z => by rw [z, e2] at e; cases e; exact hn _ rfl)
theorem NL.tup {H H' : Hp} (h : NL H H') : TupK H H' := fun a xs e => h a _ e (by intro ys z; cases z)
theorem HxA.same {H H' : Hp} {a b : Addr} (h : HxA H a b) (sm : Same H H') : HxA H' a b := let ⟨ns, st, e1, e2, e3⟩ := h; ⟨ns, st, sm _ _ e1, sm _ _ e2, e3⟩
theorem HxA.some_a {H : Hp} {a b : Addr} (h : HxA H a b) : ∃ o, H a = some o := let ⟨_, _, e, _⟩ := h; ⟨_, e⟩
theorem HxA.some_b {H : Hp} {a b : Addr} (h : HxA H a b) : ∃ o, H b = some o := let ⟨_, _, _, e, _⟩ := h; ⟨_, e⟩
theorem HxA.fresh {H : Hp} {a b c : Addr} (h : HxA H a b) (hc : H c = none) : c ≠ a ∧ c ≠ b := by
  obtain ⟨o1, e1⟩ := h.some_a
  obtain ⟨o2, e2⟩ := h.some_b
  exact ⟨(fun z => by rw [z, e1] at hc; cases hc), (fun z => by rw [z, e2] at hc; cases hc)⟩
/-- another list is written -/
theorem HxA.put {H : Hp} {a b c : Addr} {u : HO} (h : HxA H a b) (h1 : c ≠ a) (h2 : c ≠ b) : HxA (upd H c u) a b := by
  obtain ⟨ns, st, e1, e2, e3⟩ := h
  exact ⟨ns, st, by rw [upd_ne h1.symm]; exact e1, by rw [upd_ne h2.symm]; exact e2, e3⟩
theorem TbF.nl {C : Addr} {H H' : Hp} {tb : Addr} {ks : List Str} (h : TbF C H tb ks) (k : NL H H') : TbF C H' tb ks := by
  obtain ⟨dx, kA, tA, e, o, o1, o2, o3⟩ := h
  exact ⟨dx, kA, tA, k _ _ e (by intro xs z; cases z), o, o1, o2, k _ _ o3 (by intro xs z; cases z)⟩
theorem dp_ints {K : PySem.W.Frag} {H : Hp} {a : Addr} {ns : List Int} (h : H a = some (.lst (ns.map V.int))) : Dp K H (.ref a) (.list (ns.map PyData.int)) := by
  refine .lst (.of h) ?_
  have : ∀ ns : List Int, DpAll K H (ns.map V.int) (ns.map PyData.int) := by
    intro ns
    induction ns with
    | nil => exact .nil
    | cons n ns ih => exact .cons (.int n) ih
  exact this ns
theorem lay_ints : ∀ ns : List Int, PyData.canLayAll0 (ns.map PyData.int) = true ∧ PyData.depthAll (ns.map PyData.int) = 0
  | [] => ⟨rfl, rfl⟩
  | n :: ns => by
    obtain ⟨h1, h2⟩ := lay_ints ns
    refine ⟨?_, ?_⟩
    · rw [List.map_cons, PyData.canLayAll0, h1]
      rfl
    · rw [List.map_cons, PyData.depthAll, h2]
      rfl
theorem shaped_ints (ns : List Int) : SeqAt.shaped (.list (ns.map PyData.int)) = true := by
  unfold SeqAt.shaped
  obtain ⟨h1, h2⟩ := lay_ints ns
  have e1 : PyData.canLay0 (.list (ns.map PyData.int)) = true := by
    rw [PyData.canLay0]
    exact h1
  have e2 : PyData.depth (.list (ns.map PyData.int)) = 1 := by
    rw [PyData.depth, h2]
  rw [e1, e2]
  rfl
theorem eqv_nil_int (ns : List Int) : PyData.eqv (.list (ns.map PyData.int)) (.list []) = decide (ns = []) := by
  cases ns with
  | nil => rfl
  | cons n ns =>
    rw [PyData.eqv]
    rfl
section
variable {P : Program} {w : World} {K : PySem.W.Frag} {mg : Str → Option Value} {base : Heap}
/-! ### draw -/
def p_draw (v x : V) (H : Hp) (Q : VK) : Prop := ∃ (a b : Addr) (n : Int), v = .ref a ∧ x = .int n ∧ 0 < n ∧ n < 1073741824 ∧ HxA H a b ∧ ∀ (H' : Hp) (k : Nat), (k : Int) < n → HxA H' a b → Kp a b H H' → Q (.int (k : Int)) H'
theorem sc_draw : FnScope ["_law_heap_here", "_law_many", "_law_rest"] ["_law_heap_here", "_law_many"] (defScope s_L_draw) := ⟨rfl, rfl, rfl, by decide +kernel, rfl, by decide +kernel, by decide +kernel⟩
theorem ok_draw (T : Txt K mg) : Cal P w K mg base "_law_draw" 1 ["_law_heap_here", "_law_many"] (sp2 p_draw) := by
  refine T.f_L_draw.cal sc_draw (fun _ _ _ _ _ _ us hl => match us, hl with | [_, _], _ => rfl) len2 fun f cdv A outer s0 H vs Q E hr h => ?_
  obtain ⟨_, _, rfl, a, b, n, rfl, rfl, hn, hn2, hx, q⟩ := h
  have nd := sc_draw.nd
  refine ⟨_, pss_cons (ps_while PassesOwn.never (PW.pt (pw_and (pt_cmpR (op_neD hr.units) (pe_ix ix_list (pv 0) pe_int (fun _ _ => rfl)) (pe_lst pa_nil) (nomark _))
      (pw_and1 (pt_cmpR op_eq (pe_ix ix_list (pe_ix ix_list (pv 0) pe_int (fun _ _ => rfl)) (pe_un un_neg pe_int) (fun _ _ => rfl)) pe_int (nomark _)))))
      (pss_one (ps_expr (pe_bm0 PySem.F.plainAttrs_list PySem.F.slot_list_pop PySem.F.type_list_pop mt_pop (pe_ix ix_list (pv 0) pe_int (fun _ _ => rfl))))))
    (pss_cons (ps_if (pt_cmpR (op_neD hr.units) (pe_ix ix_list (pv 0) pe_int (fun _ _ => rfl)) (pe_lst pa_nil) (nomark _))
      (pss_cons (ps_set (i := 2) nd rfl (.inl rfl) (pe_bm0 PySem.F.plainAttrs_list PySem.F.slot_list_pop PySem.F.type_list_pop mt_pop (pe_ix ix_list (pv 0) pe_int (fun _ _ => rfl))))
      (pss_cons (ps_expr (pe_bm PySem.F.plainAttrs_list PySem.F.slot_list_append PySem.F.type_list_append mt_append (pe_ix ix_list (pv 0) pe_int (fun _ _ => rfl)) (pa_cons (pe_op op_fdiv (pv 2) (pv 1)) pa_nil)))
      (pss_one (ps_ret (pe_op op_mod (pe_callTy call_int1 (by rfl) T.z_int b_int (pa_cons (pv 2) pa_nil)) (pv 1)))))) pss_nil)
    (pss_cons (ps_asg (pe_op op_mod (pe_callTy call_int1 (by rfl) T.z_int b_int (pa_cons (pe_op op_add (pe_op op_mul (pe_ix ix_list (pv 0) pe_int (fun _ _ => rfl)) pe_int) pe_int) pa_nil)) pe_int) (pg_sub (pv 0) pe_int set_list))
    (pss_one (ps_ret (pe_op op_mod (pe_callTy call_int1 (by rfl) T.z_int b_int (pa_cons (pe_op op_fdiv (pe_ix ix_list (pv 0) pe_int (fun _ _ => rfl)) pe_int) pa_nil)) (pv 1)))))), ?_⟩
  obtain ⟨ns0, st0, ha0, hb0, hl0⟩ := id hx
  have hab := hx.ne
  refine ⟨fun m σ H' => ∃ (ns : List Int) (st : Int), σ = [some (.ref a), some (.int n), none] ∧ H' a = some (.lst [.ref b, .int st]) ∧ H' b = some (.lst (ns.map V.int)) ∧ ns.length ≤ 100 ∧ Kp a b H H' ∧ m = ns.length, ⟨_, ns0, st0, rfl, ha0, hb0, hl0, Kp.refl H, rfl⟩, fun m σ H1 hW => ?_⟩
  obtain ⟨ns, st, rfl, ha, hb, hl, kp, rfl⟩ := hW
  have at0 : ∀ z : Int, atI [V.ref b, V.int z] 0 = some (.ref b) := fun z => rfl
  have at1 : ∀ z : Int, atI [V.ref b, V.int z] 1 = some (.int z) := fun z => rfl
  -- what stands behind the loop
  have rest : ∀ H1 : Hp, H1 a = some (.lst [.ref b, .int st]) → H1 b = some (.lst (ns.map V.int)) → Kp a b H H1 → (tSeq (tIfS (tTest (tOp (rNeD K) (tOp (rIxL K) (tVar 0) (tC (.int 0))) (tLst tNil)))
      (tSeq (tAsg (tBM0 K "list" rPop (tOp (rIxL K) (tVar 0) (tC (.int 0)))) (gName 2)) (tSeq (tDrop (tBM K "list" rAppend (tOp (rIxL K) (tVar 0) (tC (.int 0))) (tCons (tOp (rI CDiv fun i j => .int (i / j)) (tVar 2) (tVar 1)) tNil)))
        (tRet (tOp (rI (fun _ j => 0 < j) fun i j => .int (i % j)) (tCB (fun xs H Q => (∃ i, xs = [.int i] ∧ Q (.int i) H) ∨ ∃ k, xs = [.bl k] ∧ Q (.int (if k then 1 else 0)) H) (tCons (tVar 2) tNil)) (tVar 1))))) tNext)
      (tSeq (tAsg (tOp (rI (fun _ j => 0 < j) fun i j => .int (i % j)) (tCB (fun xs H Q => (∃ i, xs = [.int i] ∧ Q (.int i) H) ∨ ∃ k, xs = [.bl k] ∧ Q (.int (if k then 1 else 0)) H) (tCons (tOp (rI0 fun i j => .int (i + j)) (tOp (rI CMul fun i j => .int (i * j)) (tOp (rIxL K) (tVar 0) (tC (.int 1))) (tC (.int 48271))) (tC (.int 17))) tNil)) (tC (.int 2147483647))) (gSub (tVar 0) (tC (.int 1)) rSetL))
        (tRet (tOp (rI (fun _ j => 0 < j) fun i j => .int (i % j)) (tCB (fun xs H Q => (∃ i, xs = [.int i] ∧ Q (.int i) H) ∨ ∃ k, xs = [.bl k] ∧ Q (.int (if k then 1 else 0)) H) (tCons (tOp (rI CDiv fun i j => .int (i / j)) (tOp (rIxL K) (tVar 0) (tC (.int 1))) (tC (.int 32))) tNil)) (tVar 1)))))
      { nx := fun _ H' => Q .non H', rt := Q } [some (.ref a), some (.int n), none] H1 := fun H1 ha hb kp => by
    refine ⟨_, rfl, a, _, 0, _, rfl, rfl, .of ha, at0 _, Nat.zero_le _, fun l nl => ?_⟩
    have sm := same_upd (o := .lst []) nl
    refine ⟨.list (ns.map PyData.int), .list [], dp_ints (sm _ _ hb), .lst (.of upd_same) .nil, shaped_ints ns, shaped_nil, _, rfl, ?_⟩
    rw [eqv_nil_int]
    have ha2 := sm _ _ ha
    have hb2 := sm _ _ hb
    have kp2 : Kp a b H _ := kp.trans (Kp.same sm)
    generalize upd H1 l (.lst []) = H2 at ha2 hb2 kp2 ⊢
    by_cases he : ns = []
    · rw [decide_eq_true he]
      refine iteF ?_
      refine ⟨_, rfl, a, _, 1, _, rfl, rfl, .of ha2, at1 _, _, _, rfl, rfl, .inr ⟨by decide, by decide⟩, _, _, rfl, rfl, .inl ⟨_, rfl, _, _, rfl, rfl, (by show (0 : Int) < 2147483647; decide), ?_⟩⟩
      refine ⟨_, rfl, a, _, 1, 1, rfl, rfl, ha2, rfl, ?_⟩
      have ha3 := upd_same (H := H2) (a := a) (o := .lst [V.ref b, V.int ((st * 48271 + 17) % 2147483647)])
      refine ⟨_, rfl, a, _, 1, _, rfl, rfl, .of ha3, at1 _, _, _, rfl, rfl, ⟨by decide, by decide⟩, .inl ⟨_, rfl, _, rfl, _, _, rfl, rfl, hn, ?_⟩⟩
      have h0 := Int.emod_nonneg ((st * 48271 + 17) % 2147483647 / 32) (show n ≠ 0 by omega)
      have h1 := Int.emod_lt_of_pos ((st * 48271 + 17) % 2147483647 / 32) hn
      obtain ⟨k, hk⟩ := Int.eq_ofNat_of_zero_le h0
      dsimp only
      rw [hk] at h1 ⊢
      exact q _ k h1 ⟨ns, _, ha3, by rw [upd_ne hab.symm]; exact hb2, hl⟩ (kp2.trans Kp.updA)
    · rw [decide_eq_false he]
      obtain ⟨ms, z, rfl⟩ := concat_of he
      have hlm : ms.length + 1 ≤ 100 := by
        rw [List.length_append] at hl
        exact hl
      refine iteT ?_
      refine ⟨_, rfl, a, _, 0, _, rfl, rfl, .of ha2, at0 _, .inl ⟨rfl, _, .of hb2⟩, b, _, .int z, rfl, rfl, hb2, by rw [List.map_append, List.length_append, List.length_map]; simp, ?_⟩
      have eD : ((ms ++ [z]).map V.int).dropLast = ms.map V.int := by
        rw [List.map_append]
        exact List.dropLast_concat
      rw [eD]
      have ha3 : upd H2 b (.lst (ms.map V.int)) a = some (.lst [.ref b, .int st]) := by rw [upd_ne hab]; exact ha2
      have hb3 := upd_same (H := H2) (a := b) (o := .lst (ms.map V.int))
      have kp3 : Kp a b H _ := kp2.trans (Kp.updB (u := .lst (ms.map V.int)))
      generalize upd H2 b (.lst (ms.map V.int)) = H3 at ha3 hb3 kp3 ⊢
      refine ⟨_, rfl, a, _, 0, _, rfl, rfl, .of ha3, at0 _, .inl ⟨rfl, _, .of hb3⟩, _, rfl, _, rfl, _, _, rfl, rfl, ⟨hn, hn2⟩, b, _, _, rfl, rfl, hb3, by rw [List.length_map]; exact small (by omega), ?_⟩
      refine ⟨_, rfl, .inl ⟨_, rfl, _, rfl, _, _, rfl, rfl, hn, ?_⟩⟩
      have h0 := Int.emod_nonneg z (show n ≠ 0 by omega)
      have h1 := Int.emod_lt_of_pos z hn
      obtain ⟨k, hk⟩ := Int.eq_ofNat_of_zero_le h0
      dsimp only
      rw [hk] at h1 ⊢
      refine q _ k h1 ⟨ms ++ [z / n], st, by rw [upd_ne hab]; exact ha3, by rw [upd_same, List.map_append]; rfl, by rw [List.length_append]; exact hlm⟩ (kp3.trans Kp.updB)
  refine ⟨_, rfl, a, _, 0, _, rfl, rfl, .of ha, at0 _, Nat.zero_le _, fun l nl => ?_⟩
  have sm := same_upd (o := .lst []) nl
  refine ⟨.list (ns.map PyData.int), .list [], dp_ints (sm _ _ hb), .lst (.of upd_same) .nil, shaped_ints ns, shaped_nil, _, rfl, ?_⟩
  rw [eqv_nil_int]
  have ha2 := sm _ _ ha
  have hb2 := sm _ _ hb
  have kp2 : Kp a b H _ := kp.trans (Kp.same sm)
  generalize upd H1 l (.lst []) = H2 at ha2 hb2 kp2 ⊢
  by_cases he : ns = []
  · rw [decide_eq_true he]
    exact iteF (iteF (rest H2 ha2 hb2 kp2))
  · rw [decide_eq_false he]
    obtain ⟨ms, z, rfl⟩ := concat_of he
    refine iteT ?_
    refine ⟨_, rfl, a, _, 0, _, rfl, rfl, .of ha2, at0 _, _, rfl, b, _, _, .int z, rfl, rfl, .of hb2, by rw [List.map_append]; exact atI_last _ _, rfl, _, rfl, ?_⟩
    refine ite2 (fun _ => ?_) (fun _ => rest H2 ha2 hb2 kp2)
    refine ⟨fun σ' H'' => ∃ m', m' < (ms ++ [z]).length ∧ ∃ (ns : List Int) (st : Int), σ' = [some (.ref a), some (.int n), none] ∧ H'' a = some (.lst [.ref b, .int st]) ∧ H'' b = some (.lst (ns.map V.int)) ∧ ns.length ≤ 100 ∧ Kp a b H H'' ∧ m' = ns.length, fun σ' H'' h => h, ?_⟩
    refine ⟨_, rfl, a, _, 0, _, rfl, rfl, .of ha2, at0 _, .inl ⟨rfl, _, .of hb2⟩, b, _, .int z, rfl, rfl, hb2, by rw [List.map_append, List.length_append, List.length_map]; simp, ?_⟩
    have eD : ((ms ++ [z]).map V.int).dropLast = ms.map V.int := by
      rw [List.map_append]
      exact List.dropLast_concat
    rw [eD]
    exact ⟨ms.length, by rw [List.length_append]; exact Nat.lt_succ_self _, ms, st, rfl, by rw [upd_ne hab]; exact ha2, upd_same, by rw [List.length_append] at hl; omega, kp2.trans Kp.updB, rfl⟩
end
end K7
/-! ## K7L2 -/
set_option Elab.async false
set_option linter.all false
set_option maxRecDepth 100000
set_option maxHeartbeats 4000000
namespace K7
open PySem PySem.Spec PyProof.Rows L2
theorem Kp.put {a b c : Addr} {H H' : Hp} {u : HO} (h : Kp a b H H') (hc : H c = none) : Kp a b H (upd H' c u) := fun d o e x y => by
  rw [upd_ne (ne_of_none e hc)]
  exact h d o e x y
theorem atI_some {α : Type} {xs : List α} {k : Nat} (h : k < xs.length) : ∃ y, y ∈ xs ∧ xs[k]? = some y ∧ atI xs (k : Int) = some y :=
  ⟨xs[k], List.getElem_mem h, List.getElem?_eq_getElem h, atI_nat (List.getElem?_eq_getElem h)⟩
section
variable {P : Program} {w : World} {K : PySem.W.Frag} {mg : Str → Option Value} {base : Heap}
/-! ### pick -/
def p_pick (v x : V) (H : Hp) (Q : VK) : Prop := ∃ (a b l : Addr) (xs : List V), v = .ref a ∧ x = .ref l ∧ HxA H a b ∧ H l = some (.lst xs) ∧ l ≠ a ∧ l ≠ b ∧ xs ≠ [] ∧ xs.length ≤ 1000 ∧ ∀ H' y, y ∈ xs → HxA H' a b → Kp a b H H' → Q y H'
theorem sc_pick : FnScope ["_law_heap_here", "_law_some"] ["_law_heap_here", "_law_some"] (defScope s_L_pick) := ⟨rfl, rfl, rfl, by decide +kernel, rfl, by decide +kernel, by decide +kernel⟩
theorem ok_pick (T : Txt K mg) : Cal P w K mg base "_law_pick" 2 ["_law_heap_here", "_law_some"] (sp2 p_pick) := by
  have G := ok_draw (P := P) (w := w) (base := base) T
  refine T.f_L_pick.cal sc_pick (fun _ _ _ _ _ _ us hl => match us, hl with | [_, _], _ => rfl) len2 fun f cdv A outer s0 H vs Q E hr h => ?_
  obtain ⟨_, _, rfl, a, b, l, xs, rfl, rfl, hx, hl, la, lb, hne, hlen, q⟩ := h
  refine ⟨_, pss_one (ps_ret (pe_ix ix_list (pv 1) (pe_cal G hr (by rfl) (pa_cons (pv 0) (pa_cons (pe_callB call_len_seq (by rfl) T.z_len b_len (pa_cons (pv 1) pa_nil)) pa_nil))) (fun _ _ => rfl))), ?_⟩
  have hpos := List.length_pos_iff.mpr hne
  refine ⟨_, rfl, _, rfl, _, rfl, l, xs, rfl, .inl (.of hl), _, _, rfl, a, b, _, rfl, rfl, by omega, by omega, hx, fun H' k hk hx' kp => ?_⟩
  obtain ⟨y, h1, h2, h3⟩ := atI_some (xs := xs) (k := k) (by omega)
  exact ⟨l, xs, _, y, rfl, rfl, .of (kp _ _ hl la lb), h3, q H' y h1 hx' kp⟩
/-! ### mixed -/
def p_mixed (v x : V) (H : Hp) (Q : VK) : Prop := ∃ (a b l : Addr) (xs : List V), v = .ref a ∧ x = .ref l ∧ HxA H a b ∧ H l = some (.lst xs) ∧ l ≠ a ∧ l ≠ b ∧ xs.length ≤ 1000 ∧ ∀ H' p ys, HxA H' a b → Kp a b H H' → H p = none → H' p = some (.lst ys) → ys.length = xs.length → Q (.ref p) H'
theorem sc_mixed : FnScope ["_law_heap_here", "_law_some", "_law_left", "_law_found", "_law_turn"] ["_law_heap_here", "_law_some"] (defScope s_L_mixed) := ⟨rfl, rfl, rfl, by decide +kernel, rfl, by decide +kernel, by decide +kernel⟩
theorem ok_mixed (T : Txt K mg) : Cal P w K mg base "_law_mixed" 2 ["_law_heap_here", "_law_some"] (sp2 p_mixed) := by
  have G := ok_draw (P := P) (w := w) (base := base) T
  refine T.f_L_mixed.cal sc_mixed (fun _ _ _ _ _ _ us hl => match us, hl with | [_, _], _ => rfl) len2 fun f cdv A outer s0 H vs Q E hr h => ?_
  obtain ⟨_, _, rfl, a, b, l, xs, rfl, rfl, hx, hl, la, lb, hlen, q⟩ := h
  have nd := sc_mixed.nd
  refine ⟨_, pss_cons (ps_par (i := 2) (j := 3) (by rfl) nd rfl rfl (by decide) rfl rfl (pa_cons (pe_callTy call_list_of (by rfl) T.z_list b_list (pa_cons (pv 1) pa_nil)) (pa_cons (pe_lst pa_nil) pa_nil)) (by rfl))
    (pss_cons (ps_for PassesOwn.never rfl (pi_range1 (by rfl) T.z_range (pa_cons (pe_callB call_len_seq (by rfl) T.z_len b_len (pa_cons (pv 1) pa_nil)) pa_nil)) (pg_name (i := 4) nd rfl (.inl rfl))
      (pss_one (ps_expr (pe_bm PySem.F.plainAttrs_list PySem.F.slot_list_append PySem.F.type_list_append mt_append (pv 3) (pa_cons (pe_bm PySem.F.plainAttrs_list PySem.F.slot_list_pop PySem.F.type_list_pop mt_popAt (pv 2)
        (pa_cons (pe_cal G hr (by rfl) (pa_cons (pv 0) (pa_cons (pe_callB call_len_seq (by rfl) T.z_len b_len (pa_cons (pv 2) pa_nil)) pa_nil))) pa_nil)) pa_nil)))))
    (pss_one (ps_ret (pv 3)))), ?_⟩
  refine ⟨_, rfl, l, xs, rfl, .inl (.of hl), fun lf nlf => ⟨Nat.zero_le _, fun fo nfo => ?_⟩⟩
  have s1 := same_upd (o := .lst xs) nlf
  have s2 := s1.trans (same_upd (o := .lst []) nfo)
  obtain ⟨lfa, lfb⟩ := hx.fresh nlf
  have hx1 := hx.same s1
  obtain ⟨foa, fob⟩ := hx1.fresh nfo
  have nlffo : lf ≠ fo := fun z => by rw [← z, upd_same] at nfo; cases nfo
  have hlf : (upd (upd H lf (.lst xs)) fo (.lst [])) lf = some (.lst xs) := by rw [upd_ne nlffo, upd_same]
  have hfo := upd_same (H := upd H lf (.lst xs)) (a := fo) (o := HO.lst [])
  have hx2 := hx.same s2
  have nfoH : H fo = none := s1.free nfo
  generalize upd (upd H lf (.lst xs)) fo (.lst []) = H2 at s2 hlf hfo hx2 ⊢
  refine ⟨_, _, rfl, ?_⟩
  refine ⟨_, rfl, l, xs, rfl, .inl (.of (s2 _ _ hl)), _, rfl, by omega, by omega, ?_⟩
  rw [Int.toNat_natCast]
  refine for_range (lo := 0) (n := xs.length) (fun i σ H' => ∃ tv left ys, σ = [some (.ref a), some (.ref l), some (.ref lf), some (.ref fo), tv] ∧ HxA H' a b ∧ Kp a b H H' ∧ H' lf = some (.lst left) ∧ H' fo = some (.lst ys) ∧ left.length + i = xs.length ∧ ys.length = i)
    ⟨none, xs, [], rfl, hx2, Kp.same s2, hlf, hfo, Nat.add_zero _, rfl⟩ (fun i σ H' hi ⟨tv, left, ys, e, hx', kp, h1, h2, h3, h4⟩ => ?_) (fun σ H' ⟨tv, left, ys, e, hx', kp, h1, h2, h3, h4⟩ => ?_)
  · subst e
    refine ⟨_, rfl, .inl ⟨rfl, _, .of h2⟩, _, rfl, .inl ⟨rfl, _, .of h1⟩, _, rfl, _, rfl, lf, left, rfl, .inl (.of h1), _, _, rfl, a, b, _, rfl, rfl, by omega, by omega, hx', fun H3 k hk hx3 kp3 => ?_⟩
    have h13 := kp3 _ _ h1 lfa lfb
    have h23 := kp3 _ _ h2 foa fob
    obtain ⟨y, m1, m2, m3⟩ := atI_some (xs := left) (k := k) (by omega)
    refine ⟨lf, left, _, k, y, rfl, rfl, h13, by omega, by omega, ?_, m2, ?_⟩
    · have e1 : ixN left.length (k : Int) = some k := by
        unfold ixN
        rw [if_pos (by omega), if_pos (by omega)]
        rfl
      exact (ixN_seq e1).1
    · refine ⟨fo, ys, y, rfl, rfl, by rw [upd_ne nlffo.symm]; exact h23, small (by omega), ?_⟩
      refine ⟨_, left.eraseIdx k, ys ++ [y], rfl, (hx3.put lfa lfb).put foa fob, ?_, ?_, upd_same, ?_, ?_⟩
      · exact ((kp.trans kp3).put nlf).put nfoH
      · rw [upd_ne nlffo, upd_same]
      · rw [List.length_eraseIdx]
        split <;> omega
      · rw [List.length_append, List.length_singleton]
        omega
  · subst e
    exact ⟨_, rfl, q H' fo ys hx' kp nfoH h2 (by omega)⟩
/-! ### lowest -/
def p_lowest (x y : V) (H : Hp) (Q : VK) : Prop := ∃ (t : Int) (n : Nat), x = .int t ∧ y = .int (n : Int) ∧ t.natAbs ≤ 1000000 ∧ 0 < n ∧ n ≤ 1000000 ∧ ∀ p, H p = none → Q (.ref p) (upd H p (.tup [.int (lowT t n), .int (lowB t n : Int)]))
theorem sc_lowest : FnScope ["_law_top", "_law_bottom", "_law_one", "_law_other", "_law_turn"] ["_law_top", "_law_bottom"] (defScope s_L_lowest) := ⟨rfl, rfl, rfl, by decide +kernel, rfl, by decide +kernel, by decide +kernel⟩
theorem euclid_end {x y : Nat} (h : y = 0 ∨ (y < x ∧ x * y * 2 ^ 60 ≤ 1000000000000)) : y = 0 := by
  rcases h with h | ⟨h1, h2⟩
  · exact h
  · by_cases hy : y = 0
    · exact hy
    · have : 1 ≤ x * y := Nat.mul_pos (by omega) (by omega)
      have h3 : 1 * 2 ^ 60 ≤ x * y * 2 ^ 60 := Nat.mul_le_mul_right _ this
      exact absurd (Nat.le_trans h3 h2) (by decide)
theorem ok_lowest (T : Txt K mg) : Cal P w K mg base "_law_lowest" 1 ["_law_top", "_law_bottom"] (sp2 p_lowest) := by
  refine T.f_L_lowest.cal sc_lowest (fun _ _ _ _ _ _ us hl => match us, hl with | [_, _], _ => rfl) len2 fun f cdv A outer s0 H vs Q E hr h => ?_
  obtain ⟨_, _, rfl, t, n, rfl, rfl, ht, hn, hn2, q⟩ := h
  have nd := sc_lowest.nd
  refine ⟨_, pss_cons (ps_par (i := 2) (j := 3) (by rfl) nd rfl rfl (by decide) rfl rfl (pa_cons (pv 1) (pa_cons (pe_op op_mod (pe_callTy call_int1 (by rfl) T.z_int b_int (pa_cons (pv 0) pa_nil)) (pv 1)) pa_nil)) (by rfl))
    (pss_cons (ps_for PassesOwn.never rfl (pi_range1 (by rfl) T.z_range (pa_cons pe_int pa_nil)) (pg_name (i := 4) nd rfl (.inl rfl))
      (pss_one (ps_if (pt_cmpR op_ne (pv 3) pe_int (nomark _)) (pss_one (ps_par (i := 2) (j := 3) (by rfl) nd rfl rfl (by decide) rfl rfl (pa_cons (pv 3) (pa_cons (pe_op op_mod (pe_callTy call_int1 (by rfl) T.z_int b_int (pa_cons (pv 2) pa_nil)) (pv 3)) pa_nil)) (by rfl))) pss_nil)))
    (pss_one (ps_ret (pe_tup (pa_cons (pe_callTy call_int1 (by rfl) T.z_int b_int (pa_cons (pe_op op_fdiv (pv 0) (pv 2)) pa_nil)) (pa_cons (pe_callTy call_int1 (by rfl) T.z_int b_int (pa_cons (pe_op op_fdiv (pv 1) (pv 2)) pa_nil)) pa_nil)))))), ?_⟩
  have h0 := Int.emod_nonneg t (show (n : Int) ≠ 0 by omega)
  have h1 := Int.emod_lt_of_pos t (show (0 : Int) < (n : Int) by omega)
  obtain ⟨y0, hy0⟩ := Int.eq_ofNat_of_zero_le h0
  refine ⟨_, rfl, _, rfl, .inl ⟨_, rfl, _, rfl, _, _, rfl, rfl, by omega, ?_⟩⟩
  refine ⟨_, _, rfl, 60, rfl, by decide, by decide, ?_⟩
  have hg0 : Nat.gcd n y0 = Nat.gcd t.natAbs n := by
    have := gcd_emod t hn
    rw [hy0] at this
    exact this
  rw [hy0] at h1
  refine for_range (lo := 0) (n := 60) (fun i σ H' => H' = H ∧ ∃ (x y : Nat) (tv : Option V), σ = [some (.int t), some (.int (n : Int)), some (.int (x : Int)), some (.int (y : Int)), tv] ∧ Nat.gcd x y = Nat.gcd t.natAbs n ∧ 0 < x ∧ x ≤ 1000000 ∧ (y = 0 ∨ (y < x ∧ x * y * 2 ^ i ≤ 1000000000000)))
    ⟨rfl, n, y0, none, (by show [some (V.int t), some (V.int (n : Int)), some (V.int (n : Int)), some (V.int (t % (n : Int))), none] = _; rw [hy0]), hg0, hn, hn2, ?_⟩ (fun i σ H' hi ⟨e1, x, y, tv, e2, hg, hx, hx2, hy⟩ => ?_) (fun σ H' ⟨e1, x, y, tv, e2, hg, hx, hx2, hy⟩ => ?_)
  · by_cases hz : y0 = 0
    · exact .inl hz
    · refine .inr ⟨by omega, ?_⟩
      rw [Nat.pow_zero, Nat.mul_one]
      exact Nat.le_trans (Nat.mul_le_mul hn2 (show y0 ≤ 1000000 by omega)) (by decide)
  · subst e1
    subst e2
    refine ⟨_, rfl, rfl, _, rfl, ?_⟩
    by_cases hz : y = 0
    · rw [decide_eq_true (show V.int (y : Int) = V.int 0 by rw [hz]; rfl)]
      exact iteF ⟨rfl, x, y, _, rfl, hg, hx, hx2, .inl hz⟩
    · rw [decide_eq_false (fun z => hz (by have := V.int.inj z; omega))]
      refine iteT ⟨_, rfl, _, rfl, .inl ⟨_, rfl, _, rfl, _, _, rfl, rfl, by omega, ?_⟩⟩
      refine ⟨_, _, rfl, rfl, y, x % y, some (.int (0 + (i : Int))), ?_, ?_, by omega, ?_, ?_⟩
      · rw [Int.natCast_emod]
        rfl
      · rw [gcd_step]
        exact hg
      · rcases hy with h | h
        · exact absurd h hz
        · omega
      · rcases hy with h | ⟨h, h2⟩
        · exact absurd h hz
        · by_cases hm : x % y = 0
          · exact .inl hm
          · refine .inr ⟨Nat.mod_lt _ (by omega), ?_⟩
            have hs := half_step (a := x) (b := y) (by omega) h
            rw [Nat.pow_succ]
            have h3 : y * (x % y) * (2 ^ i * 2) = y * (x % y) * 2 * 2 ^ i := by rw [Nat.mul_assoc, Nat.mul_assoc, Nat.mul_assoc, Nat.mul_comm 2 (2 ^ i)]
            rw [h3]
            exact Nat.le_trans (Nat.mul_le_mul_right _ hs) h2
  · subst e1
    subst e2
    have hz := euclid_end hy
    subst hz
    rw [Nat.gcd_zero_right] at hg
    subst hg
    refine ⟨_, rfl, _, rfl, _, _, rfl, rfl, ⟨by omega, by omega⟩, .inl ⟨_, rfl, _, rfl, _, rfl, _, _, rfl, rfl, ⟨by omega, by omega⟩, .inl ⟨_, rfl, (by show 2 ≤ sizeLine; decide), fun p np => ?_⟩⟩⟩
    have e : ((lowB t n : Nat) : Int) = (n : Int) / ((Nat.gcd t.natAbs n : Nat) : Int) := by
      unfold lowB
      exact Int.natCast_ediv _ _
    have := q p np
    rw [e] at this
    exact this
end
end K7
/-! ## K7L3 -/
set_option Elab.async false
set_option linter.all false
set_option maxRecDepth 100000
set_option maxHeartbeats 4000000
namespace K7
open PySem PySem.Spec PyProof.Rows L2
theorem len_1 : (Str.ofString "1").length = 1 := by decide +kernel
theorem tl_sl1 : TL.tl (Str.ofString "/") = [47] := tl_sl
section
variable {P : Program} {w : World} {K : PySem.W.Frag} {mg : Str → Option Value} {base : Heap}
/-! ### amount -/
def p_amount (v : V) (H : Hp) (Q : VK) : Prop := ∃ (a b : Addr), v = .ref a ∧ HxA H a b ∧ ∀ (H' : Hp) (p : Addr) (t : Int) (n : Nat), t.natAbs ≤ 1000000 → 0 < n → n ≤ 1000000 → HxA H' a b → Kp a b H H' → H' p = some (.tup [.int t, .int (n : Int)]) → Q (.ref p) H'
theorem sc_amount : FnScope ["_law_heap_here", "_law_most", "_law_bottom"] ["_law_heap_here"] (defScope s_L_amount) := ⟨rfl, rfl, rfl, by decide +kernel, rfl, by decide +kernel, by decide +kernel⟩
theorem ok_amount (T : Txt K mg) : Cal P w K mg base "_law_amount" 3 ["_law_heap_here"] (sp1 p_amount) := by
  have G := ok_draw (P := P) (w := w) (base := base) T
  have GP := ok_pick (P := P) (w := w) (base := base) T
  refine T.f_L_amount.cal sc_amount (fun _ _ _ _ _ _ us hl => match us, hl with | [_], _ => rfl) len1 fun f cdv A outer s0 H vs Q E hr h => ?_
  obtain ⟨_, rfl, a, b, rfl, hx, q⟩ := h
  have nd := sc_amount.nd
  have hr1 := hr.mono (show 1 ≤ 2 by decide)
  refine ⟨_, pss_cons (ps_set (i := 1) nd rfl (.inl rfl) (pe_cal GP hr (by rfl) (pa_cons (pv 0) (pa_cons (pe_lst (pa_cons pe_int (pa_cons pe_int (pa_cons pe_int (pa_cons pe_int (pa_cons pe_int (pa_cons pe_int pa_nil))))))) pa_nil))))
    (pss_cons (ps_set (i := 2) nd rfl (.inl rfl) (pe_ifExp (pt_cmpR op_eq (pe_cal G hr1 (by rfl) (pa_cons (pv 0) (pa_cons pe_int pa_nil))) pe_int (nomark _)) pe_int (pe_op op_add pe_int (pe_cal G hr1 (by rfl) (pa_cons (pv 0) (pa_cons (pv 1) pa_nil))))))
    (pss_one (ps_ret (pe_tup (pa_cons (pe_op op_sub (pe_cal G hr1 (by rfl) (pa_cons (pv 0) (pa_cons (pe_op op_add (pe_op op_mul pe_int (pv 1)) pe_int) pa_nil))) (pv 1)) (pa_cons (pv 2) pa_nil)))))), ?_⟩
  refine ⟨_, rfl, (by show 6 ≤ sizeLine; decide), fun l nl => ?_⟩
  have s1 := same_upd (o := .lst [.int 4, .int 4, .int 9, .int 60, .int 1000, .int 1000000]) nl
  obtain ⟨la, lb⟩ := hx.fresh nl
  refine ⟨_, _, rfl, a, b, l, _, rfl, rfl, hx.same s1, upd_same, la, lb, by simp, by show 6 ≤ 1000; decide, fun H1 y hy hx1 kp1 => ?_⟩
  have hm : ∃ m : Nat, y = .int (m : Int) ∧ 0 < m ∧ m ≤ 1000000 := by
    simp only [List.mem_cons, List.not_mem_nil, or_false] at hy
    rcases hy with rfl | rfl | rfl | rfl | rfl | rfl
    · exact ⟨4, rfl, by decide, by decide⟩
    · exact ⟨4, rfl, by decide, by decide⟩
    · exact ⟨9, rfl, by decide, by decide⟩
    · exact ⟨60, rfl, by decide, by decide⟩
    · exact ⟨1000, rfl, by decide, by decide⟩
    · exact ⟨1000000, rfl, by decide, by decide⟩
  obtain ⟨m, rfl, hm1, hm2⟩ := hm
  have kpA := (Kp.same (a := a) (b := b) s1).trans kp1
  -- the top
  have tail : ∀ (H2 : Hp) (n : Nat), 0 < n → n ≤ 1000000 → HxA H2 a b → Kp a b H H2 → (tRet (tTup (tCons (tOp (rI0 fun i j => .int (i - j)) (tCall (sp2 p_draw) [] E0 (tCons (tVar 0) (tCons (tOp (rI0 fun i j => .int (i + j)) (tOp (rI CMul fun i j => .int (i * j)) (tC (.int 2)) (tVar 1)) (tC (.int 1))) tNil))) (tVar 1)) (tCons (tVar 2) tNil))))
      { nx := fun _ H' => Q .non H', rt := Q } [some (.ref a), some (.int (m : Int)), some (.int (n : Int))] H2 := fun H2 n hn hn2 hx2 kp2 => by
    refine ⟨_, rfl, _, rfl, _, _, rfl, rfl, .inl ⟨by decide, by decide⟩, _, _, rfl, rfl, _, _, rfl, a, b, _, rfl, rfl, by omega, by omega, hx2, fun H3 k hk hx3 kp3 => ?_⟩
    refine ⟨_, rfl, _, _, rfl, rfl, _, rfl, (by show 2 ≤ sizeLine; decide), fun p np => ?_⟩
    have s4 := same_upd (o := .tup [.int ((k : Int) - (m : Int)), .int (n : Int)]) np
    exact q _ p ((k : Int) - (m : Int)) n (by omega) hn hn2 (hx3.same s4) ((kp2.trans kp3).trans (Kp.same s4)) upd_same
  refine ⟨_, rfl, _, _, rfl, a, b, 4, rfl, rfl, by decide, by decide, hx1, fun H2 k hk hx2 kp2 => ?_⟩
  refine ⟨rfl, _, rfl, ite2 (fun _ => ?_) (fun _ => ?_)⟩
  · exact tail H2 1 (by decide) (by decide) hx2 (kpA.trans kp2)
  · refine ⟨_, rfl, _, rfl, _, _, rfl, a, b, _, rfl, rfl, by omega, by omega, hx2, fun H3 k3 hk3 hx3 kp3 => ?_⟩
    refine ⟨_, _, rfl, rfl, ?_⟩
    have := tail H3 (1 + k3) (by omega) (by omega) hx3 ((kpA.trans kp2).trans kp3)
    rw [Int.natCast_add] at this
    exact this
/-! ### amount_marks -/
def p_amount_marks (v x : V) (H : Hp) (Q : VK) : Prop := ∃ (a b : Addr) (t : Int) (n : Nat), v = .ref a ∧ FrAt H x t n ∧ HxA H a b ∧ t.natAbs ≤ 1000000 ∧ 0 < n ∧ n ≤ 1000000 ∧ ∀ (H' : Hp) (p : Addr) (ys : List V), HxA H' a b → Kp a b H H' → H p = none → H' p = some (.lst ys) → (amM (lowT t n) (lowB t n)).length ≤ ys.length → ys.length ≤ 10 → Q (.ref p) H'
theorem sc_amount_marks : FnScope ["_law_heap_here", "_law_amount_here", "_law_found"] ["_law_heap_here", "_law_amount_here"] (defScope s_L_amount_marks) := ⟨rfl, rfl, rfl, by decide +kernel, rfl, by decide +kernel, by decide +kernel⟩
theorem ok_amount_marks (T : Txt K mg) : Cal P w K mg base "_law_amount_marks" 2 ["_law_heap_here", "_law_amount_here"] (sp2 p_amount_marks) := by
  have G := ok_draw (P := P) (w := w) (base := base) T
  refine T.f_L_amount_marks.cal sc_amount_marks (fun _ _ _ _ _ _ us hl => match us, hl with | [_, _], _ => rfl) len2 fun f cdv A outer s0 H vs Q E hr h => ?_
  obtain ⟨_, _, rfl, a, b, t, n, rfl, ⟨p, rfl, hp⟩, hx, ht, hn, hn2, q⟩ := h
  have nd := sc_amount_marks.nd
  refine ⟨_, pss_cons (ps_set (i := 2) nd rfl (.inl rfl) (pe_op op_cat (pe_op op_rep (pe_lst (pa_cons pe_str pa_nil)) (pe_callTy call_int1 (by rfl) T.z_int b_int (pa_cons (pe_cmpR op_lt (pe_ix ix_tup (pv 1) pe_int (fun _ _ => rfl)) pe_int (nomark _)) pa_nil)))
      (pe_lst (pa_cons (pe_callTy call_str_int (by rfl) T.z_str b_str (pa_cons (pe_callB call_abs (by rfl) T.z_abs b_abs (pa_cons (pe_ix ix_tup (pv 1) pe_int (fun _ _ => rfl)) pa_nil)) pa_nil)) pa_nil))))
    (pss_one (ps_ret (pe_op op_cat (pv 2) (pe_ifExp (PW.pt (pw_or (pt_cmpR op_gt (pe_ix ix_tup (pv 1) pe_int (fun _ _ => rfl)) pe_int (nomark _)) (pw_or1 (pt_cmpR op_eq (pe_cal G hr (by rfl) (pa_cons (pv 0) (pa_cons pe_int pa_nil))) pe_int (nomark _)))))
      (pe_lst (pa_cons pe_str (pa_cons (pe_callTy call_str_int (by rfl) T.z_str b_str (pa_cons (pe_ix ix_tup (pv 1) pe_int (fun _ _ => rfl)) pa_nil)) pa_nil))) (pe_lst pa_nil))))), ?_⟩
  have e0 : atI [V.int t, V.int (n : Int)] 0 = some (.int t) := rfl
  have e1 : atI [V.int t, V.int (n : Int)] 1 = some (.int (n : Int)) := rfl
  have hk : ∃ k : Nat, (if decide (t < 0) = true then (1 : Int) else 0) = (k : Int) ∧ k ≤ 1 ∧ (t < 0 → k = 1) := by
    by_cases h : t < 0
    · exact ⟨1, by rw [decide_eq_true h]; rfl, Nat.le_refl _, fun _ => rfl⟩
    · exact ⟨0, by rw [decide_eq_false h]; rfl, by decide, fun z => absurd z h⟩
  obtain ⟨k, ek, hk1, hk2⟩ := hk
  have hlen : (amM (lowT t n) (lowB t n)).length ≤ k + 1 + (if n = 1 then 0 else 2) := by
    rw [amM_len]
    have h1 : (if lowT t n < 0 then 1 else 0) ≤ k := by
      split
      · rename_i h
        rw [hk2 ((low_neg hn).mp h)]
        exact Nat.le_refl _
      · exact Nat.zero_le _
    have h2 : (if lowB t n = 1 then 0 else 2) ≤ (if n = 1 then 0 else 2) := by
      by_cases h : n = 1
      · rw [if_pos (low_one h)]
        exact Nat.zero_le _
      · rw [if_neg h]
        split <;> omega
    omega
  refine ⟨(by show 1 ≤ sizeLine; decide), fun l1 n1 => ?_⟩
  have s1 := same_upd (o := .lst [.str "-"]) n1
  have g1 := upd_same (H := H) (a := l1) (o := .lst [.str "-"])
  generalize upd H l1 (.lst [.str "-"]) = H1 at s1 g1 ⊢
  refine ⟨_, rfl, p, _, _, _, rfl, rfl, .of (s1 _ _ hp), e0, _, _, rfl, rfl, .inr ⟨_, rfl, ?_⟩⟩
  rw [ek]
  refine ⟨l1, _, _, rfl, rfl, g1, by omega, by omega, ?_, fun l2 n2 => ?_⟩
  · rw [Int.toNat_natCast]
    exact small' (by show 1 * k ≤ 100000; omega)
  rw [Int.toNat_natCast] at *
  have hfl : (List.replicate k [V.str (Str.ofString "-")]).flatten.length = k := by
    rw [List.length_flatten, List.map_replicate, List.sum_replicate_nat]
    exact Nat.mul_one k
  generalize (List.replicate k [V.str (Str.ofString "-")]).flatten = fs at hfl ⊢
  have s2 := s1.trans (same_upd (o := .lst fs) n2)
  have g2 := upd_same (H := H1) (a := l2) (o := .lst fs)
  generalize upd H1 l2 (.lst fs) = H2 at s2 g2 ⊢
  refine ⟨_, rfl, p, _, _, _, rfl, rfl, .of (s2 _ _ hp), e0, _, rfl, _, rfl, ?_, (by show 1 ≤ sizeLine; decide), fun l3 n3 => ?_⟩
  · split
    · rw [Int.natAbs_neg]
      exact log_small ht
    · exact log_small ht
  generalize Str.ofString (toString (if t < 0 then -t else t)) = ts at n3 ⊢
  have s3 := s2.trans (same_upd (o := .lst [.str ts]) n3)
  have g3 := upd_same (H := H2) (a := l3) (o := .lst [.str ts])
  have g23 : upd H2 l3 (.lst [.str ts]) l2 = some (.lst fs) := same_upd n3 _ _ g2
  generalize upd H2 l3 (.lst [.str ts]) = H3 at s3 g3 g23 ⊢
  refine ⟨l2, l3, _, _, rfl, rfl, g23, g3, small' (by show fs.length + 1 ≤ 100000; omega), fun l4 n4 => ?_⟩
  have s4 := s3.trans (same_upd (o := .lst (fs ++ [V.str ts])) n4)
  have g4 := upd_same (H := H3) (a := l4) (o := .lst (fs ++ [V.str ts]))
  have n4H := s3.free n4
  generalize upd H3 l4 (.lst (fs ++ [V.str ts])) = H4 at s4 g4 ⊢
  have hfl2 : (fs ++ [V.str ts]).length = k + 1 := by
    rw [List.length_append, hfl]
    rfl
  generalize fs ++ [V.str ts] = gs at hfl2 g4 ⊢
  have hx4 := hx.same s4
  obtain ⟨l4a, l4b⟩ := hx.fresh n4H
  -- the marks behind the slash
  have more : ∀ H5, HxA H5 a b → Kp a b H H5 → H5 l4 = some (.lst gs) → H5 p = some (.tup [.int t, .int (n : Int)]) → (tLst (tCons (tC (.str "/")) (tCons (tCB (fun xs H Q => ∃ i, xs = [.int i] ∧ i.natAbs.log2 < 1920 ∧ Q (.str (toString i)) H) (tCons (tOp (rIxT K) (tVar 1) (tC (.int 1))) tNil)) tNil)))
      [some (.ref a), some (.ref p), some (.ref l4)] H5 fun y H6 => rCat (.ref l4) y H6 Q := fun H5 hx5 kp5 g5 hp5 => by
    refine ⟨_, rfl, p, _, _, _, rfl, rfl, .of hp5, e1, _, rfl, log_small (by rw [Int.natAbs_natCast]; exact hn2), (by show 2 ≤ sizeLine; decide), fun l5 n5 => ?_⟩
    have s6 := same_upd (o := .lst [V.str "/", .str (toString (n : Int))]) n5
    refine ⟨l4, l5, _, _, rfl, rfl, s6 _ _ g5, upd_same, small' (by show gs.length + 2 ≤ 100000; omega), fun l6 n6 => ?_⟩
    have s7 := s6.trans (same_upd (o := .lst (gs ++ [V.str "/", .str (toString (n : Int))])) n6)
    refine q _ l6 _ (hx5.same s7) (kp5.trans (Kp.same s7)) ?_ upd_same ?_ ?_
    · have := s6.free n6
      cases e : H l6 with
      | none => rfl
      | some o =>
        obtain ⟨z1, z2⟩ := hx5.fresh this
        have := kp5 _ _ e z1 z2
        rw [s6.free n6] at this
        cases this
    · rw [List.length_append, hfl2]
      show _ ≤ k + 1 + 2
      exact Nat.le_trans hlen (by split <;> omega)
    · rw [List.length_append, hfl2]
      show k + 1 + 2 ≤ 10
      omega
  have less : n = 1 → ∀ H5, HxA H5 a b → Kp a b H H5 → H5 l4 = some (.lst gs) → (tLst tNil) [some (.ref a), some (.ref p), some (.ref l4)] H5 fun y H6 => rCat (.ref l4) y H6 Q := fun h1 H5 hx5 kp5 g5 => by
    refine ⟨Nat.zero_le _, fun l5 n5 => ?_⟩
    have s6 := same_upd (o := .lst []) n5
    refine ⟨l4, l5, _, _, rfl, rfl, s6 _ _ g5, upd_same, small' (by show gs.length + 0 ≤ 100000; omega), fun l6 n6 => ?_⟩
    have s7 := s6.trans (same_upd (o := .lst (gs ++ [])) n6)
    refine q _ l6 _ (hx5.same s7) (kp5.trans (Kp.same s7)) ?_ upd_same ?_ ?_
    · have := s6.free n6
      cases e : H l6 with
      | none => rfl
      | some o =>
        obtain ⟨z1, z2⟩ := hx5.fresh this
        have := kp5 _ _ e z1 z2
        rw [s6.free n6] at this
        cases this
    · rw [List.append_nil, hfl2]
      rw [if_pos h1] at hlen
      exact hlen
    · rw [List.append_nil, hfl2]
      omega
  refine ⟨_, rfl, _, rfl, p, _, _, _, rfl, rfl, .of (s4 _ _ hp), e1, _, _, rfl, rfl, _, rfl, ite2 (fun hc => ?_) (fun hc => ?_)⟩
  · exact iteT (more H4 hx4 (Kp.same s4) g4 (s4 _ _ hp))
  · have hn1 : n = 1 := by
      have : ¬ (1 : Int) < (n : Int) := fun z => hc (decide_eq_true z)
      omega
    refine ⟨_, rfl, _, _, rfl, a, b, 3, rfl, rfl, by decide, by decide, hx4, fun H5 k5 hk5 hx5 kp5 => ⟨rfl, _, rfl, ite2 (fun _ => ?_) (fun _ => ?_)⟩⟩
    · have hpa : p ≠ a ∧ p ≠ b := by
        obtain ⟨ns, st, z1, z2, _⟩ := hx
        exact ⟨ne_of hp z1 (by intro z; cases z), ne_of hp z2 (by intro z; cases z)⟩
      exact more H5 hx5 ((Kp.same s4).trans kp5) (kp5 _ _ g4 l4a l4b) (kp5 _ _ (s4 _ _ hp) hpa.1 hpa.2)
    · exact less hn1 H5 hx5 ((Kp.same s4).trans kp5) (kp5 _ _ g4 l4a l4b)
end
end K7
/-! ## K7L4 -/
set_option Elab.async false
set_option linter.all false
set_option maxRecDepth 100000
set_option maxHeartbeats 4000000
namespace K7
open PySem PySem.Spec PyProof.Rows L2
theorem Kp.free {a b c : Addr} {H H' : Hp} (h : Kp a b H H') (hx : HxA H' a b) (n : H' c = none) : H c = none := by
  cases e : H c with
  | none => rfl
  | some o =>
    obtain ⟨z1, z2⟩ := hx.fresh n
    have := h _ _ e z1 z2
    rw [n] at this
    cases this
/-- whole next to an amount -/
def WhOk (t : Int) (n : Nat) (z : Int) : Prop := (z = flo t n ∨ z = cei t n) ∧ z.natAbs ≤ 1000000
/-- lists with so many marks -/
def MkR (a b : Addr) (H : Hp) (r : V) (n : Nat) : Prop := ∃ q ys, r = .ref q ∧ H q = some (.lst ys) ∧ ys.length = n ∧ q ≠ a ∧ q ≠ b
theorem MkR.keep {a b : Addr} {H H' : Hp} (k : Kp a b H H') {r : V} {n : Nat} (h : MkR a b H r n) : MkR a b H' r n := let ⟨q, ys, e, u, l, x, y⟩ := h; ⟨q, ys, e, k _ _ u x y, l, x, y⟩
def MkL (a b : Addr) (H : Hp) (l : Addr) (ns : List Nat) : Prop := l ≠ a ∧ l ≠ b ∧ ∃ rs, H l = some (.lst rs) ∧ All2 (MkR a b H) rs ns
theorem MkL.keep {a b : Addr} {H H' : Hp} (k : Kp a b H H') {l : Addr} {ns : List Nat} (h : MkL a b H l ns) : MkL a b H' l ns := let ⟨x, y, rs, e, u⟩ := h; ⟨x, y, rs, k _ _ e x y, u.mono fun _ _ q => q.keep k⟩
/-- len(x) of a list or a tuple -/
def rLen (K : PySem.W.Frag) : List V → Hp → VK → Prop := fun xs H Q => ∃ p ys, xs = [.ref p] ∧ (SqL K H p ys ∨ SqT K H p ys) ∧ Q (.int ys.length) H
theorem call_len_K {X : Cx} : CallR X (.builtin "len") (rLen X.K) := call_len_seq
section
variable {P : Program} {w : World} {K : PySem.W.Frag} {mg : Str → Option Value} {base : Heap}
/-! ### wholes -/
def p_wholes (x : V) (H : Hp) (Q : VK) : Prop := ∃ (t : Int) (n : Nat), FrAt H x t n ∧ t.natAbs ≤ 1000000 ∧ 0 < n ∧ n ≤ 1000000 ∧ ∀ (q : Addr) (ws : List Int), H q = none → ws ≠ [] → ws.length ≤ 2 → (∀ z ∈ ws, WhOk t n z) → Q (.ref q) (upd H q (.lst (ws.map V.int)))
theorem sc_wholes : FnScope ["_law_amount_here", "_law_low"] ["_law_amount_here"] (defScope s_L_wholes) := ⟨rfl, rfl, rfl, by decide +kernel, rfl, by decide +kernel, by decide +kernel⟩
theorem ok_wholes (T : Txt K mg) : Cal P w K mg base "_law_wholes" 1 ["_law_amount_here"] (sp1 p_wholes) := by
  refine T.f_L_wholes.cal sc_wholes (fun _ _ _ _ _ _ us hl => match us, hl with | [_], _ => rfl) len1 fun f cdv A outer s0 H vs Q E hr h => ?_
  obtain ⟨_, rfl, t, n, ⟨p, rfl, hp⟩, ht, hn, hn2, q⟩ := h
  have nd := sc_wholes.nd
  refine ⟨_, pss_cons (ps_set (i := 1) nd rfl (.inl rfl) (pe_callTy call_int1 (by rfl) T.z_int b_int (pa_cons (pe_op op_fdiv (pe_ix ix_tup (pv 0) pe_int (fun _ _ => rfl)) (pe_ix ix_tup (pv 0) pe_int (fun _ _ => rfl))) pa_nil)))
    (pss_one (ps_ret (pe_ifExp (pt_cmpR op_eq (pe_op op_mul (pv 1) (pe_ix ix_tup (pv 0) pe_int (fun _ _ => rfl))) (pe_ix ix_tup (pv 0) pe_int (fun _ _ => rfl)) (nomark _)) (pe_lst (pa_cons (pv 1) pa_nil)) (pe_lst (pa_cons (pv 1) (pa_cons (pe_op op_add (pv 1) pe_int) pa_nil)))))), ?_⟩
  have e0 : atI [V.int t, V.int (n : Int)] 0 = some (.int t) := rfl
  have e1 : atI [V.int t, V.int (n : Int)] 1 = some (.int (n : Int)) := rfl
  obtain ⟨b1, b2⟩ := flo_bd ht hn
  have hc := cei_eq (t := t) hn
  refine ⟨_, rfl, p, _, _, _, rfl, rfl, .of hp, e0, _, rfl, p, _, _, _, rfl, rfl, .of hp, e1, _, _, rfl, rfl, ⟨by omega, by omega⟩, .inl ⟨_, rfl, ?_⟩⟩
  refine ⟨_, rfl, _, rfl, p, _, _, _, rfl, rfl, .of hp, e1, _, _, rfl, rfl, .inr ⟨by omega, by omega⟩, _, rfl, p, _, _, _, rfl, rfl, .of hp, e0, rfl, _, rfl, ?_⟩
  have hb : ∀ z : Int, decide (V.int z = V.int t) = decide (z = t) := fun z => by
    by_cases h : z = t
    · rw [h]; simp
    · rw [decide_eq_false h, decide_eq_false (fun q => h (V.int.inj q))]
  dsimp only
  rw [hb]
  refine ite2 (fun h => ?_) (fun h => ?_)
  · have h' := of_decide_eq_true h
    exact ⟨_, rfl, (by show 1 ≤ sizeLine; decide), fun l nl => q l [flo t n] nl (by simp) (by show 1 ≤ 2; decide) fun z hz => by rw [List.mem_singleton.mp hz]; exact ⟨.inl rfl, b1⟩⟩
  · have h' : ¬ flo t n * (n : Int) = t := fun z => h (decide_eq_true z)
    rw [if_neg h'] at hc
    refine ⟨_, rfl, _, rfl, _, _, rfl, rfl, (by show 2 ≤ sizeLine; decide), fun l nl => q l [flo t n, flo t n + 1] nl (by simp) (by show 2 ≤ 2; decide) fun z hz => ?_⟩
    simp only [List.mem_cons, List.not_mem_nil, or_false] at hz
    rcases hz with rfl | rfl
    · exact ⟨.inl rfl, b1⟩
    · exact ⟨.inr hc.symm, b2 h'⟩
/-! ### shown -/
def p_shown (x : V) (H : Hp) (Q : VK) : Prop := ∃ (t : Int) (n : Nat), FrAt H x t n ∧ FrOk t n ∧ Q (.str (S (amT t n))) H
theorem sc_shown : FnScope ["_law_amount_here"] ["_law_amount_here"] (defScope s_L_shown) := ⟨rfl, rfl, rfl, by decide +kernel, rfl, by decide +kernel, by decide +kernel⟩
theorem ok_shown (T : Txt K mg) : Cal P w K mg base "_law_shown" 1 ["_law_amount_here"] (sp1 p_shown) := by
  refine T.f_L_shown.cal sc_shown (fun _ _ _ _ _ _ us hl => match us, hl with | [_], _ => rfl) len1 fun f cdv A outer s0 H vs Q E hr h => ?_
  obtain ⟨_, rfl, t, n, ⟨p, rfl, hp⟩, hf, q⟩ := h
  refine ⟨_, pss_one (ps_ret (pe_op op_add_str (pe_callTy call_str_int (by rfl) T.z_str b_str (pa_cons (pe_ix ix_tup (pv 0) pe_int (fun _ _ => rfl)) pa_nil)) (pe_ifExp (pt_cmpR op_eq (pe_ix ix_tup (pv 0) pe_int (fun _ _ => rfl)) pe_int (nomark _)) pe_str
    (pe_op op_add_str pe_str (pe_callTy call_str_int (by rfl) T.z_str b_str (pa_cons (pe_ix ix_tup (pv 0) pe_int (fun _ _ => rfl)) pa_nil)))))), ?_⟩
  have e0 : atI [V.int t, V.int (n : Int)] 0 = some (.int t) := rfl
  have e1 : atI [V.int t, V.int (n : Int)] 1 = some (.int (n : Int)) := rfl
  have l1 : ((n : Nat) : Int).natAbs.log2 < 1920 := log_small (by rw [Int.natAbs_natCast]; exact hf.2.2.1)
  have k0 : (S (numT t)).length ≤ 8 := by rw [len_S]; exact numT_len hf.1
  have k1 : (S (numT (n : Int))).length ≤ 8 := by rw [len_S]; exact numT_len (by rw [Int.natAbs_natCast]; exact hf.2.2.1)
  refine ⟨_, rfl, p, _, _, _, rfl, rfl, .of hp, e0, _, rfl, log_small hf.1, ?_⟩
  refine ⟨_, rfl, p, _, _, _, rfl, rfl, .of hp, e1, rfl, _, rfl, ?_⟩
  have hb : decide (V.int (n : Int) = V.int 1) = decide (n = 1) := by
    by_cases h : n = 1
    · rw [h]; rfl
    · rw [decide_eq_false h, decide_eq_false (fun q => h (by have := V.int.inj q; omega))]
  rw [hb, int_str]
  refine ite2 (fun h => ?_) (fun h => ?_)
  · have h' := of_decide_eq_true h
    refine ⟨_, _, rfl, rfl, small' (by show (S (numT t)).length + 0 ≤ 100000; omega), ?_⟩
    have e : S (numT t) ++ Str.ofString "" = S (amT t n) := by
      unfold amT
      rw [if_pos h', List.append_nil]
      exact tl_inj (by rw [TL.tl_append]; exact List.append_nil _)
    rw [e]
    exact q
  · have h' : ¬ n = 1 := fun z => h (decide_eq_true z)
    refine ⟨_, rfl, p, _, _, _, rfl, rfl, .of hp, e1, _, rfl, l1, _, _, rfl, rfl, ?_, _, _, rfl, rfl, ?_, ?_⟩
    · rw [int_str, len_slash]
      exact small' (by omega)
    · rw [int_str, len_app, len_slash]
      exact small' (by omega)
    · have e : S (numT t) ++ (Str.ofString "/" ++ Str.ofString (toString (n : Int))) = S (amT t n) := by
        unfold amT
        rw [if_neg h', int_str, ← S_tl (Str.ofString "/"), S_app, S_app, tl_sl1, numT_nat]
        rfl
      rw [e]
      exact q
/-! ### fewest -/
def p_fewest (x y : V) (H : Hp) (Q : VK) : Prop := ∃ (a b : Addr) (z : Str) (l : Addr) (ns : List Nat), x = .str z ∧ y = .ref l ∧ z.length ≤ 100000 ∧ MkL a b H l ns ∧ ns.length ≤ 1000 ∧ (marks z).length ≤ ns.sum + (ns.length - 1) ∧ ∀ H', Same H H' → Q (.bl true) H'
theorem sc_fewest : FnScope ["_law_text", "_law_lines_here", "_law_line"] ["_law_text", "_law_lines_here"] (defScope s_L_fewest) := ⟨rfl, rfl, rfl, by decide +kernel, rfl, by decide +kernel, by decide +kernel⟩
theorem sum_cast (ns : List Nat) : (ns.map fun n : Nat => (n : Int)).sum = ((ns.sum : Nat) : Int) := by
  induction ns with
  | nil => rfl
  | cons n ns ih => rw [List.map_cons, List.sum_cons, List.sum_cons, ih, Int.natCast_add]
theorem ok_fewest (T : Txt K mg) : Cal P w K mg base "_law_fewest" 4 ["_law_text", "_law_lines_here"] (sp2 p_fewest) := by
  have G := ok_marks_of (P := P) (w := w) (base := base) T
  refine T.f_L_fewest.cal sc_fewest (fun _ _ _ _ _ _ us hl => match us, hl with | [_, _], _ => rfl) len2 fun f cdv A outer s0 H vs Q E hr h => ?_
  obtain ⟨_, _, rfl, a, b, z, l, ns, rfl, rfl, hz, ⟨la, lb, rs, hl, hall⟩, hnl, hmk, q⟩ := h
  have nd := sc_fewest.nd
  refine ⟨_, pss_one (ps_ret (pe_cmpR op_le (pe_callB call_len_seq (by rfl) T.z_len b_len (pa_cons (pe_cal G hr (by rfl) (pa_cons (pv 0) pa_nil)) pa_nil)) (pe_op op_add (pe_callB (cr_sum rfl) (by rfl) T.z_sum b_sum (pa_cons
      (pe_lc (own := [("_law_line", 2)]) (te := tCB (rLen K) (tCons (tVar 2) tNil)) (g := gName 2) (tt := tYes) rfl nd (pi_list (pv 1)) (blkOk_by (N := ["_law_text", "_law_lines_here", "_law_line"]) (sc := defScope s_L_fewest) (by decide +kernel))
        (fun _ _ _ _ _ => pg_name (i := 2) nd rfl (Or.inl rfl)) (fun _ _ _ _ _ => pts_nil) (fun _ _ _ _ _ => pe_callB (r := rLen K) call_len_K (by rfl) T.z_len b_len (pa_cons (pv 2) pa_nil))) pa_nil))
      (pe_callB (call_max2 rfl) (by rfl) T.z_max b_max (pa_cons pe_int (pa_cons (pe_op op_sub (pe_callB call_len_seq (by rfl) T.z_len b_len (pa_cons (pv 1) pa_nil)) pe_int) pa_nil)))) (nomark _))), ?_⟩
  refine ⟨_, rfl, _, rfl, z, rfl, hz, fun H1 p ms s1 np hp hm => ?_⟩
  refine ⟨p, ms, rfl, .inr (.of hp), ?_⟩
  have hrl : rs.length = ns.length := hall.1
  refine ⟨_, rfl, l, rfl, ⟨_, .of (s1 _ _ hl)⟩, fun D hD => ?_⟩
  refine lc_gen walk_list (fun i ys H' => Same H1 H' ∧ ys = ((ns.take i).map fun n : Nat => V.int (n : Int))) ⟨same_upd hD, rfl⟩ (fun i ys H' _ e => .of (e.1 _ _ (s1 _ _ hl))) (fun i ys H' hi e => ?_) (fun i x ys H' N hx e eD st _ => ?_) (fun ys H' e eD => ?_)
  · rw [e.2, List.length_map, List.length_take]
    omega
  · obtain ⟨sm, rfl⟩ := e
    obtain ⟨n, hn, q', ys', rfl, hq, hl', _, _⟩ := hall.get hx
    refine ⟨rfl, _, rfl, q', ys', rfl, .inl (.of (sm _ _ (s1 _ _ hq))), ?_⟩
    rw [hl']
    refine st H' _ eD ⟨same_at sm hD, ?_⟩
    rw [take_snoc hn, List.map_append]
    rfl
  · rw [hrl, take_all] at e
    obtain ⟨sm, rfl⟩ := e
    refine ⟨D, ns.map fun n : Nat => (n : Int), rfl, .of (by rw [List.map_map]; exact eD), ?_⟩
    rw [sum_cast]
    refine ⟨_, rfl, l, rs, rfl, .inl (.of (sm _ _ (s1 _ _ hl))), _, _, rfl, rfl, _, _, rfl, ?_⟩
    refine ⟨_, _, rfl, rfl, _, _, rfl, rfl, ?_⟩
    rw [show ms.length = (marks z).length from hm.1, hrl]
    dsimp only
    rw [decide_eq_true (show (((marks z).length : Nat) : Int) ≤ ((ns.sum : Nat) : Int) + (if ((ns.length : Nat) : Int) - 1 > 0 then ((ns.length : Nat) : Int) - 1 else 0) by split <;> omega)]
    exact q _ (s1.trans sm)
end
end K7
/-! ## K7L5 -/
set_option Elab.async false
set_option linter.all false
set_option maxRecDepth 100000
set_option maxHeartbeats 4000000
namespace K7
open PySem PySem.Spec PyProof.Rows L2
/-- a line as it was drawn -/
def RwOk (kn : Nat) (l : Ln) : Prop := l.k < kn ∧ l.t.natAbs ≤ 1000000 ∧ 0 < l.b ∧ l.b ≤ 1000000 ∧ WhOk l.t l.b l.w
theorem small12 {xs : List Int} (h : ∀ x ∈ xs, 0 ≤ x ∧ x ≤ 12) {y : V} (hy : y ∈ xs.map V.int) : ∃ m : Nat, y = .int (m : Int) ∧ m ≤ 12 := by
  obtain ⟨i, hi, rfl⟩ := List.mem_map.mp hy
  obtain ⟨h1, h2⟩ := h i hi
  exact ⟨i.toNat, by rw [Int.toNat_of_nonneg h1], by omega⟩
/-- the list of marks under way -/
structure FdA (a b fo : Addr) (H : Hp) (rs : List V) (ns : List Nat) : Prop where
  ha : fo ≠ a
  hb : fo ≠ b
  h : H fo = some (.lst rs)
  al : All2 (fun r n => MkR a b H r n ∧ r ≠ .ref fo) rs ns
theorem FdA.keep {a b fo : Addr} {H H' : Hp} {rs : List V} {ns : List Nat} (f : FdA a b fo H rs ns) (k : Kp a b H H') : FdA a b fo H' rs ns := ⟨f.ha, f.hb, k _ _ f.h f.ha f.hb, f.al.mono fun _ _ q => ⟨q.1.keep k, q.2⟩⟩
theorem MkR.put {a b fo : Addr} {H : Hp} {u : HO} {r : V} {n : Nat} (h : MkR a b H r n) (hn : r ≠ .ref fo) : MkR a b (upd H fo u) r n := by
  obtain ⟨q, ys, rfl, e, l, x, y⟩ := h
  exact ⟨q, ys, rfl, by rw [upd_ne (fun z => hn (by rw [z]))]; exact e, l, x, y⟩
theorem FdA.put {a b fo : Addr} {H : Hp} {rs : List V} {ns : List Nat} (f : FdA a b fo H rs ns) {r : V} {n : Nat} (h : MkR a b H r n) (hn : r ≠ .ref fo) : FdA a b fo (upd H fo (.lst (rs ++ [r]))) (rs ++ [r]) (ns ++ [n]) :=
  ⟨f.ha, f.hb, upd_same, (f.al.mono fun _ _ q => ⟨q.1.put q.2, q.2⟩).snoc ⟨h.put hn, hn⟩⟩
theorem FdA.mk' {a b fo : Addr} {H : Hp} {rs : List V} {ns : List Nat} (f : FdA a b fo H rs ns) : MkL a b H fo ns := ⟨f.ha, f.hb, rs, f.h, f.al.mono fun _ _ q => q.1⟩
section
variable {P : Program} {w : World} {K : PySem.W.Frag} {mg : Str → Option Value} {base : Heap}
/-! ### lines -/
def p_lines (v x : V) (H : Hp) (Q : VK) : Prop := ∃ (a b : Addr) (kn : Nat), v = .ref a ∧ x = .int (kn : Int) ∧ 0 < kn ∧ kn ≤ 1000 ∧ HxA H a b ∧ ∀ (H' : Hp) (l : Addr) (rs : List V) (r : List Ln), HxA H' a b → Kp a b H H' → H l = none → H' l = some (.lst rs) → All2 (LnAt true H') rs r → r.length ≤ 12 → (∀ x ∈ r, RwOk kn x) → Q (.ref l) H'
theorem sc_lines : FnScope ["_law_heap_here", "_law_kinds", "_law_found", "_law_turn", "_law_amount_here"] ["_law_heap_here", "_law_kinds"] (defScope s_L_lines) := ⟨rfl, rfl, rfl, by decide +kernel, rfl, by decide +kernel, by decide +kernel⟩
theorem ok_lines (T : Txt K mg) : Cal P w K mg base "_law_lines" 4 ["_law_heap_here", "_law_kinds"] (sp2 p_lines) := by
  have G := (ok_draw (P := P) (w := w) (base := base) T).mono (show 1 ≤ 3 by decide)
  have GP := (ok_pick (P := P) (w := w) (base := base) T).mono (show 2 ≤ 3 by decide)
  have GA := ok_amount (P := P) (w := w) (base := base) T
  have GW := (ok_wholes (P := P) (w := w) (base := base) T).mono (show 1 ≤ 3 by decide)
  refine T.f_L_lines.cal sc_lines (fun _ _ _ _ _ _ us hl => match us, hl with | [_, _], _ => rfl) len2 fun f cdv A outer s0 H vs Q E hr h => ?_
  obtain ⟨_, _, rfl, a, b, kn, rfl, rfl, hk0, hk1, hx, q⟩ := h
  have nd := sc_lines.nd
  refine ⟨_, pss_cons (ps_set (i := 2) nd rfl (.inl rfl) (pe_lst pa_nil))
    (pss_cons (ps_for PassesOwn.never rfl (pi_range1 (by rfl) T.z_range (pa_cons (pe_cal GP hr (by rfl) (pa_cons (pv 0) (pa_cons (pe_lst (pa_cons pe_int (pa_cons pe_int (pa_cons pe_int (pa_cons pe_int (pa_cons pe_int (pa_cons pe_int pa_nil))))))) pa_nil))) pa_nil)) (pg_name (i := 3) nd rfl (.inl rfl))
      (pss_cons (ps_set (i := 4) nd rfl (.inl rfl) (pe_cal GA hr (by rfl) (pa_cons (pv 0) pa_nil)))
      (pss_one (ps_expr (pe_bm PySem.F.plainAttrs_list PySem.F.slot_list_append PySem.F.type_list_append mt_append (pv 2) (pa_cons (pe_tup (pa_cons (pe_cal G hr (by rfl) (pa_cons (pv 0) (pa_cons (pv 1) pa_nil))) (pa_cons (pv 4) (pa_cons (pe_cal GP hr (by rfl) (pa_cons (pv 0) (pa_cons (pe_cal GW hr (by rfl) (pa_cons (pv 4) pa_nil)) pa_nil))) pa_nil)))) pa_nil))))))
    (pss_one (ps_ret (pv 2)))), ?_⟩
  refine ⟨Nat.zero_le _, fun fo nfo => ?_⟩
  have s1 := same_upd (o := .lst []) nfo
  have h1 := upd_same (H := H) (a := fo) (o := HO.lst [])
  obtain ⟨foa, fob⟩ := hx.fresh nfo
  have hx1 := hx.same s1
  generalize upd H fo (.lst []) = H1 at s1 h1 hx1 ⊢
  refine ⟨_, rfl, (by show 6 ≤ sizeLine; decide), fun pl npl => ?_⟩
  have s2 := same_upd (o := .lst [.int 2, .int 3, .int 0, .int 1, .int 7, .int 12]) npl
  obtain ⟨pla, plb⟩ := hx1.fresh npl
  refine ⟨_, _, rfl, a, b, pl, _, rfl, rfl, hx1.same s2, upd_same, pla, plb, by simp, by show 6 ≤ 1000; decide, fun H2 y hy hx2 kp2 => ?_⟩
  obtain ⟨m, rfl, hm⟩ := small12 (xs := [2, 3, 0, 1, 7, 12]) (by decide) hy
  have kpA : Kp a b H H2 := (Kp.same (s1.trans s2)).trans kp2
  have h12 : H2 fo = some (.lst []) := kp2 _ _ (s2 _ _ h1) foa fob
  refine ⟨_, rfl, by omega, by omega, ?_⟩
  rw [Int.toNat_natCast]
  refine for_range (lo := 0) (n := m) (fun i σ H' => ∃ v3 v4 rs r, σ = [some (.ref a), some (.int (kn : Int)), some (.ref fo), v3, v4] ∧ HxA H' a b ∧ Kp a b H H' ∧ H' fo = some (.lst rs) ∧ All2 (LnAt true H') rs r ∧ r.length = i ∧ ∀ x ∈ r, RwOk kn x)
    ⟨none, none, [], [], rfl, hx2, kpA, h12, All2.nil, rfl, fun x hx => by cases hx⟩ (fun i σ H' hi ⟨v3, v4, rs, r, e, hx', kp, hfo, hall, hr1, hr2⟩ => ?_) (fun σ H' ⟨v3, v4, rs, r, e, hx', kp, hfo, hall, hr1, hr2⟩ => ?_)
  · subst e
    refine ⟨_, rfl, _, rfl, a, b, rfl, hx', fun H3 p t n t1 t2 t3 hx3 kp3 hp => ?_⟩
    refine ⟨_, rfl, .inl ⟨rfl, _, .of (kp3 _ _ hfo foa fob)⟩, _, rfl, _, rfl, _, _, rfl, a, b, _, rfl, rfl, by omega, by omega, hx3, fun H4 k hk hx4 kp4 => ?_⟩
    have tk4 := (kp4.nl hx3).tup
    refine ⟨_, rfl, _, rfl, _, rfl, _, rfl, t, n, ⟨p, rfl, tk4 _ _ hp⟩, t1, t2, t3, fun wl ws nwl wne wl2 wok => ?_⟩
    have s5 := same_upd (o := .lst (ws.map V.int)) nwl
    obtain ⟨wla, wlb⟩ := hx4.fresh nwl
    refine ⟨_, _, rfl, a, b, wl, _, rfl, rfl, hx4.same s5, upd_same, wla, wlb, by simpa using wne, by rw [List.length_map]; omega, fun H5 y hy hx5 kp5 => ?_⟩
    obtain ⟨z, hz, rfl⟩ := List.mem_map.mp hy
    have tk5 := ((kp5.nl (hx4.same s5)).tup)
    have kp35 : Kp a b H3 H5 := (kp4.trans (Kp.same s5)).trans kp5
    refine ⟨(by show 3 ≤ sizeLine; decide), fun u nu => ?_⟩
    have s6 := same_upd (o := .tup [.int (k : Int), .ref p, .int z]) nu
    have kp36 : Kp a b H3 _ := kp35.trans (Kp.same s6)
    have g5 := kp36 _ _ (kp3 _ _ hfo foa fob) foa fob
    have hx6 := hx5.same s6
    have hu := upd_same (H := H5) (a := u) (o := .tup [.int (k : Int), .ref p, .int z])
    have hp6 := (kp36.nl hx3).tup _ _ hp
    have tkA := ((kp3.trans kp36).nl hx').tup
    generalize upd H5 u (.tup [.int (k : Int), .ref p, .int z]) = H6 at kp36 g5 hx6 hu hp6 tkA ⊢
    refine ⟨fo, rs, _, rfl, rfl, g5, small (by rw [hall.1]; omega), ?_⟩
    have tkB : TupK H6 (upd H6 fo (.lst (rs ++ [.ref u]))) := But.upd.tup g5 (by intro xs z; cases z)
    refine ⟨_, _, _, r ++ [⟨k, t, n, z⟩], rfl, hx6.put foa fob, ((kp.trans (kp3.trans kp36)).put nfo), upd_same, (hall.mono fun _ _ q => q.keep (tkA.trans tkB)).snoc ?_, by rw [List.length_append, hr1]; rfl, fun x hx => ?_⟩
    · exact ⟨u, .ref p, rfl, tkB _ _ hu, p, rfl, tkB _ _ hp6⟩
    · rcases List.mem_append.mp hx with hx | hx
      · exact hr2 x hx
      · rw [List.mem_singleton.mp hx]
        exact ⟨(by show k < kn; omega), t1, t2, t3, wok z hz⟩
  · subst e
    exact ⟨_, rfl, q H' fo rs r hx' kp nfo hfo hall (by omega) hr2⟩
/-! ### table_marks -/
def p_table_marks (K : PySem.W.Frag) (v x y : V) (H : Hp) (Q : VK) : Prop := ∃ (a b kA tA : Addr) (ks : List Str) (ts : List (List Nat)), v = .ref a ∧ x = .ref kA ∧ y = .ref tA ∧ HxA H a b ∧ KT H kA tA ks ts ∧ TabD ks ts ∧ ∀ (H' : Hp) (l : Addr), HxA H' a b → Kp a b H H' → MkL a b H' l ((1 + ks.length) :: ts.map fun t => 1 + t.length) → Q (.ref l) H'
theorem sc_table_marks : FnScope ["_law_heap_here", "_law_kinds", "_law_totals_here", "_law_found", "_law_total", "_law_kind"] ["_law_heap_here", "_law_kinds", "_law_totals_here"] (defScope s_L_table_marks) := ⟨rfl, rfl, rfl, by decide +kernel, rfl, by decide +kernel, by decide +kernel⟩
theorem NL.rd {H H' : Hp} (h : NL H H') {a : Addr} {xs : List V} (r : Rd H a (.tup xs)) : Rd H' a (.tup xs) := by
  rcases r with r | ⟨o, r⟩
  · exact .inl (h _ _ r (by intro xs z; cases z))
  · exact .inr ⟨o, h _ _ r (by intro xs z; cases z)⟩
theorem KT.nl {H H' : Hp} (h : NL H H') {kA tA : Addr} {ks : List Str} {ts : List (List Nat)} (k : KT H kA tA ks ts) : KT H' kA tA ks ts :=
  let ⟨rs, e, a⟩ := k.t; ⟨h.rd k.k, rs, h _ _ e (by intro xs z; cases z), a.mono fun _ _ q => q.keep h.tup⟩
theorem ok_table_marks (T : Txt K mg) : Cal P w K mg base "_law_table_marks" 3 ["_law_heap_here", "_law_kinds", "_law_totals_here"] (sp3 (p_table_marks K)) := by
  have GM := ok_mixed (P := P) (w := w) (base := base) T
  refine T.f_L_table_marks.cal sc_table_marks (fun _ _ _ _ _ _ us hl => match us, hl with | [_, _, _], _ => rfl) len3 fun f cdv A outer s0 H vs Q E hr h => ?_
  obtain ⟨_, _, _, rfl, a, b, kA, tA, ks, ts, rfl, rfl, rfl, hx, hKT, hD, q⟩ := h
  have nd := sc_table_marks.nd
  refine ⟨_, pss_cons (ps_set (i := 3) nd rfl (.inl rfl) (pe_lst (pa_cons (pe_op op_cat (pe_lst (pa_cons pe_str pa_nil)) (pe_cal GM hr (by rfl) (pa_cons (pv 0) (pa_cons (pe_callTy call_list_of (by rfl) T.z_list b_list (pa_cons (pv 1) pa_nil)) pa_nil)))) pa_nil)))
    (pss_cons (ps_for PassesOwn.never rfl (pi_tup (pv 2)) (pg_name (i := 4) nd rfl (.inl rfl))
      (pss_one (ps_expr (pe_bm PySem.F.plainAttrs_list PySem.F.slot_list_append PySem.F.type_list_append mt_append (pv 3) (pa_cons (pe_op op_cat (pe_lst (pa_cons pe_str pa_nil)) (pe_cal GM hr (by rfl) (pa_cons (pv 0) (pa_cons
        (pe_lc (own := [("_law_kind", 5)]) (te := tOp (rIxT K) (tVar 1) (tVar 5)) (g := gName 5) (tt := tYes) rfl nd (pi_tup (pv 4)) (blkOk_by (N := ["_law_heap_here", "_law_kinds", "_law_totals_here", "_law_found", "_law_total", "_law_kind"]) (sc := defScope s_L_table_marks) (by decide +kernel))
          (fun _ _ _ _ _ => pg_name (i := 5) nd rfl (Or.inl rfl)) (fun _ _ _ _ _ => pts_nil) (fun _ _ _ _ _ => pe_ix (r := rIxT K) ix_tup (pv 1) (pv 5) (fun _ _ => rfl))) pa_nil)))) pa_nil)))))
    (pss_one (ps_ret (pv 3)))), ?_⟩
  have hk12 := hD.len
  refine ⟨(by show 1 ≤ sizeLine; decide), fun l1 n1 => ?_⟩
  have s1 := same_upd (o := .lst [.str "kinds"]) n1
  have g1 := upd_same (H := H) (a := l1) (o := HO.lst [.str "kinds"])
  obtain ⟨l1a, l1b⟩ := hx.fresh n1
  have hx1 := hx.same s1
  generalize upd H l1 (.lst [.str "kinds"]) = H1 at s1 g1 hx1 ⊢
  refine ⟨_, rfl, _, rfl, kA, ks.map V.str, rfl, .inr (.inl (rd_same s1 hKT.k)), fun l2 n2 => ?_⟩
  have s2 := same_upd (o := .lst (ks.map V.str)) n2
  obtain ⟨l2a, l2b⟩ := hx1.fresh n2
  refine ⟨_, _, rfl, a, b, l2, _, rfl, rfl, hx1.same s2, upd_same, l2a, l2b, by rw [List.length_map]; omega, fun H3 p3 ys hx3 kp3 np3 hp3 hl3 => ?_⟩
  rw [List.length_map] at hl3
  have kpA : Kp a b H1 H3 := (Kp.same s2).trans kp3
  refine ⟨l1, p3, _, _, rfl, rfl, kpA _ _ g1 l1a l1b, hp3, small' (by show 1 + ys.length ≤ 100000; omega), fun l4 n4 => ?_⟩
  have s4 := same_upd (o := .lst ([V.str "kinds"] ++ ys)) n4
  have g4 := upd_same (H := H3) (a := l4) (o := HO.lst ([V.str "kinds"] ++ ys))
  obtain ⟨l4a, l4b⟩ := hx3.fresh n4
  have hx4 := hx3.same s4
  have kpB : Kp a b H _ := (Kp.same s1).trans (kpA.trans (Kp.same s4))
  have m4 : MkR a b (upd H3 l4 (.lst ([V.str "kinds"] ++ ys))) (.ref l4) (1 + ks.length) := ⟨l4, _, rfl, g4, by rw [List.length_append, hl3]; rfl, l4a, l4b⟩
  generalize upd H3 l4 (.lst ([V.str "kinds"] ++ ys)) = H4 at s4 g4 hx4 kpB m4 ⊢
  refine ⟨(by show 1 ≤ sizeLine; decide), fun fo nfo => ?_⟩
  have s5 := same_upd (o := .lst [.ref l4]) nfo
  obtain ⟨foa, fob⟩ := hx4.fresh nfo
  have hne4 : (V.ref l4) ≠ .ref fo := fun z => by
    cases z
    rw [g4] at nfo
    cases nfo
  have f5 : FdA a b fo (upd H4 fo (.lst [.ref l4])) [.ref l4] [1 + ks.length] := ⟨foa, fob, upd_same, All2.cons ⟨m4.put hne4, hne4⟩ All2.nil⟩
  have hx5 := hx4.same s5
  have kpC := kpB.trans (Kp.same s5)
  have nfoH : H fo = none := kpB.free hx4 nfo
  generalize upd H4 fo (.lst [.ref l4]) = H5 at s5 f5 hx5 kpC ⊢
  obtain ⟨rs, hrs, hall⟩ := id (hKT.nl (kpC.nl hx)).t
  have hrl : rs.length = ts.length := hall.1
  refine ⟨_, rfl, tA, rfl, ⟨_, .of hrs⟩, ?_⟩
  refine for_tup (K := K) (a := tA) (xs := rs) (fun i σ H' => ∃ v4 v5 ms, σ = [some (.ref a), some (.ref kA), some (.ref tA), some (.ref fo), v4, v5] ∧ HxA H' a b ∧ Kp a b H H' ∧ NL H5 H' ∧ FdA a b fo H' ms ((1 + ks.length) :: (ts.take i).map fun t => 1 + t.length))
    ⟨none, none, _, rfl, hx5, kpC, NL.refl _, f5⟩ (fun i σ H' _ ⟨_, _, _, _, _, _, nl5, _⟩ => .of (nl5 _ _ hrs (by intro xs z; cases z))) (fun i v σ H' hv ⟨v4, v5, ms, e, hx', kp, nl5, fd⟩ => ?_) (fun σ H' ⟨v4, v5, ms, e, hx', kp, nl5, fd⟩ => ?_)
  · subst e
    obtain ⟨t, ht, tA1, rfl, hta⟩ := hall.get hv
    have htm := List.mem_of_getElem? ht
    obtain ⟨t1, t2⟩ := hD.tot t htm
    have htl := asc_len t1 t2
    have hti : i < ts.length := (List.getElem?_eq_some_iff.mp ht).1
    have hts12 := hD.tlen
    have hkt' := hKT.nl (kp.nl hx)
    have hta' : H' tA1 = _ := nl5 _ _ hta (by intro xs z; cases z)
    refine ⟨_, rfl, .inl ⟨rfl, _, .of fd.h⟩, (by show 1 ≤ sizeLine; decide), fun o no => ?_⟩
    have so := same_upd (o := .lst [.str "total"]) no
    have go := upd_same (H := H') (a := o) (o := HO.lst [.str "total"])
    obtain ⟨oa, ob⟩ := hx'.fresh no
    have hxo := hx'.same so
    generalize upd H' o (.lst [.str "total"]) = H6 at so go hxo ⊢
    refine ⟨_, rfl, _, rfl, tA1, rfl, ⟨_, .of (so _ _ hta')⟩, fun D nD => lc_mapS walk_tup (fun v => match v with | .int i => .str (ks.getD i.toNat Str.empty) | _ => .non) nD (by rw [List.length_map]; omega) (fun H7 s7 => .of (s7 _ _ (so _ _ hta'))) (fun j y H7 N hy s7 fin => ?_) (fun H7 s7 hL => ?_)⟩
    · rw [List.getElem?_map] at hy
      obtain ⟨n, hn, rfl⟩ := Option.map_eq_some_iff.mp hy
      exact ⟨rfl, _, rfl, _, rfl, kA, _, _, _, rfl, rfl, .inl (rd_same s7 (rd_same so hkt'.k)), kind_at (t2 n (List.mem_of_getElem? hn)), fin H7 (Same.refl _)⟩
    · have hx7 := hxo.same s7
      obtain ⟨Da, Db⟩ := hxo.fresh nD
      refine ⟨_, _, rfl, a, b, D, _, rfl, rfl, hx7, hL, Da, Db, by rw [List.length_map, List.length_map]; omega, fun H8 p8 ys8 hx8 kp8 np8 hp8 hl8 => ?_⟩
      rw [List.length_map, List.length_map] at hl8
      have kp9 : Kp a b H6 H8 := (Kp.same s7).trans kp8
      refine ⟨o, p8, _, _, rfl, rfl, kp9 _ _ go oa ob, hp8, small' (by show 1 + ys8.length ≤ 100000; omega), fun u nu => ?_⟩
      have su := same_upd (o := .lst ([V.str "total"] ++ ys8)) nu
      have gu := upd_same (H := H8) (a := u) (o := HO.lst ([V.str "total"] ++ ys8))
      obtain ⟨ua, ub⟩ := hx8.fresh nu
      have kpU : Kp a b H' _ := (Kp.same so).trans (kp9.trans (Kp.same su))
      have hxu := hx8.same su
      have fdu := fd.keep kpU
      have hnu : (V.ref u) ≠ .ref fo := fun z => by
        cases z
        have := ((Kp.same so).trans kp9) _ _ fd.h fd.ha fd.hb
        rw [nu] at this
        cases this
      have mu : MkR a b (upd H8 u (.lst ([V.str "total"] ++ ys8))) (.ref u) (1 + t.length) := ⟨u, _, rfl, gu, by rw [List.length_append, hl8]; rfl, ua, ub⟩
      generalize upd H8 u (.lst ([V.str "total"] ++ ys8)) = H9 at su gu kpU hxu fdu mu ⊢
      refine ⟨fo, ms, _, rfl, rfl, fdu.h, small (by rw [fd.al.1]; simp only [List.length_cons, List.length_map, List.length_take]; omega), ?_⟩
      refine ⟨_, _, ms ++ [.ref u], rfl, hxu.put foa fob, (kp.trans kpU).put nfoH, nl5.trans ((kpU.nl hx').trans fun c o' ec hn => ?_), ?_⟩
      · rw [upd_ne (ne_of ec fdu.h (hn ms))]
        exact ec
      · rw [take_snoc ht, List.map_append, ← List.cons_append]
        exact fdu.put mu hnu
  · subst e
    rw [hrl, take_all] at fd
    exact ⟨_, rfl, q H' fo hx' kp fd.mk'⟩
end
end K7
/-! ## K7L6 -/
set_option Elab.async false
set_option linter.all false
set_option maxRecDepth 100000
set_option maxHeartbeats 4000000
namespace K7
open PySem PySem.Spec PyProof.Rows L2
section
variable {P : Program} {w : World} {K : PySem.W.Frag} {mg : Str → Option Value} {base : Heap}
/-! ### spread -/
def p_spread (v x : V) (H : Hp) (Q : VK) : Prop := ∃ (a b l : Addr) (ns : List Nat), v = .ref a ∧ x = .ref l ∧ HxA H a b ∧ MkL a b H l ns ∧ ns.length ≤ 100 ∧ ∀ (H' : Hp) (l' : Addr) (ns' : List Nat), HxA H' a b → Kp a b H H' → MkL a b H' l' ns' → ns'.sum = ns.sum → ns.length ≤ ns'.length → ns'.length ≤ 300 → Q (.ref l') H'
theorem sc_spread : FnScope ["_law_heap_here", "_law_lines_here", "_law_found", "_law_line"] ["_law_heap_here", "_law_lines_here"] (defScope s_L_spread) := ⟨rfl, rfl, rfl, by decide +kernel, rfl, by decide +kernel, by decide +kernel⟩
theorem all2_app {α β : Type} {R : α → β → Prop} {xs xs' : List α} {ys ys' : List β} (h : All2 R xs ys) (h' : All2 R xs' ys') : All2 R (xs ++ xs') (ys ++ ys') := by
  refine ⟨by rw [List.length_append, List.length_append, h.1, h'.1], fun i x y hx hy => ?_⟩
  by_cases hi : i < xs.length
  · rw [List.getElem?_append_left hi] at hx
    rw [List.getElem?_append_left (h.1 ▸ hi)] at hy
    exact h.2 i x y hx hy
  · rw [List.getElem?_append_right (by omega)] at hx
    rw [List.getElem?_append_right (by rw [← h.1]; omega), ← h.1] at hy
    exact h'.2 _ x y hx hy
theorem all2_rep {α β : Type} {R : α → β → Prop} {x : α} {y : β} (h : R x y) : ∀ k : Nat, All2 R (List.replicate k x) (List.replicate k y)
  | 0 => All2.nil
  | k + 1 => All2.cons h (all2_rep h k)
theorem flat_rep {α : Type} (x : α) : ∀ k : Nat, (List.replicate k [x]).flatten = List.replicate k x
  | 0 => rfl
  | k + 1 => by rw [List.replicate_succ, List.flatten_cons, flat_rep x k, List.replicate_succ]; rfl
theorem ok_spread (T : Txt K mg) : Cal P w K mg base "_law_spread" 3 ["_law_heap_here", "_law_lines_here"] (sp2 p_spread) := by
  have G := (ok_draw (P := P) (w := w) (base := base) T).mono (show 1 ≤ 2 by decide)
  have GP := ok_pick (P := P) (w := w) (base := base) T
  refine T.f_L_spread.cal sc_spread (fun _ _ _ _ _ _ us hl => match us, hl with | [_, _], _ => rfl) len2 fun f cdv A outer s0 H vs Q E hr h => ?_
  obtain ⟨_, _, rfl, a, b, l, ns, rfl, rfl, hx, hm, hnl, q⟩ := h
  have nd := sc_spread.nd
  refine ⟨_, pss_cons (ps_set (i := 2) nd rfl (.inl rfl) (pe_lst pa_nil))
    (pss_cons (ps_for PassesOwn.never rfl (pi_list (pv 1)) (pg_name (i := 3) nd rfl (.inl rfl))
      (pss_one (ps_set (i := 2) nd rfl (.inl rfl) (pe_op op_cat (pe_op op_cat (pv 2) (pe_op op_rep (pe_lst (pa_cons (pe_lst pa_nil) pa_nil)) (pe_callTy call_int1 (by rfl) T.z_int b_int (pa_cons (pe_cmpR op_eq (pe_cal G hr (by rfl) (pa_cons (pv 0) (pa_cons pe_int pa_nil))) pe_int (nomark _)) pa_nil)))) (pe_lst (pa_cons (pv 3) pa_nil))))))
    (pss_one (ps_ret (pe_op op_cat (pv 2) (pe_op op_rep (pe_lst (pa_cons (pe_lst pa_nil) pa_nil)) (pe_cal GP hr (by rfl) (pa_cons (pv 0) (pa_cons (pe_lst (pa_cons pe_int (pa_cons pe_int (pa_cons pe_int (pa_cons pe_int pa_nil))))) pa_nil)))))))), ?_⟩
  obtain ⟨la, lb, rs, hl, hall⟩ := id hm
  have hrl : rs.length = ns.length := hall.1
  refine ⟨Nat.zero_le _, fun fo nfo => ?_⟩
  have s1 := same_upd (o := .lst []) nfo
  have g1 := upd_same (H := H) (a := fo) (o := HO.lst [])
  obtain ⟨foa, fob⟩ := hx.fresh nfo
  have hx1 := hx.same s1
  generalize upd H fo (.lst []) = H1 at s1 g1 hx1 ⊢
  refine ⟨_, rfl, l, rfl, ⟨_, .of (s1 _ _ hl)⟩, ?_⟩
  refine for_list (K := K) (a := l) (xs := rs) (fun i σ H' => ∃ v3 fo ms, σ = [some (.ref a), some (.ref l), some (.ref fo), v3] ∧ HxA H' a b ∧ Kp a b H H' ∧ MkL a b H' fo ms ∧ ms.sum = (ns.take i).sum ∧ i ≤ ms.length ∧ ms.length ≤ 2 * i)
    ⟨none, fo, [], rfl, hx1, Kp.same s1, ⟨foa, fob, [], g1, All2.nil⟩, rfl, Nat.le_refl _, Nat.zero_le _⟩ (fun i σ H' _ ⟨_, _, _, _, _, kp, _⟩ => .of (kp _ _ hl la lb)) (fun i v σ H' hv ⟨v3, fo, ms, e, hx', kp, hf, e1, e2, e3⟩ => ?_) (fun σ H' ⟨v3, fo, ms, e, hx', kp, hf, e1, e2, e3⟩ => ?_)
  · subst e
    have hi : i < rs.length := (List.getElem?_eq_some_iff.mp hv).1
    obtain ⟨n, hn, hmr⟩ := hall.get hv
    refine ⟨_, rfl, Nat.zero_le _, fun e1' ne1 => ?_⟩
    have t1 := same_upd (o := .lst []) ne1
    have k1 := upd_same (H := H') (a := e1') (o := HO.lst [])
    obtain ⟨e1a, e1b⟩ := hx'.fresh ne1
    have hx2 := hx'.same t1
    generalize upd H' e1' (.lst []) = H2 at t1 k1 hx2 ⊢
    refine ⟨(by show 1 ≤ sizeLine; decide), fun e2' ne2 => ?_⟩
    have t2 := t1.trans (same_upd (o := .lst [.ref e1']) ne2)
    have k2 := upd_same (H := H2) (a := e2') (o := HO.lst [.ref e1'])
    obtain ⟨e2a, e2b⟩ := hx2.fresh ne2
    have hx3 := hx'.same t2
    have k12 : upd H2 e2' (.lst [.ref e1']) e1' = some (.lst []) := same_upd ne2 _ _ k1
    generalize upd H2 e2' (.lst [.ref e1']) = H3 at t2 k2 hx3 k12 ⊢
    refine ⟨_, rfl, _, _, rfl, a, b, 5, rfl, rfl, by decide, by decide, hx3, fun H4 k hk hx4 kp4 => ⟨rfl, .inr ⟨_, rfl, ?_⟩⟩⟩
    obtain ⟨j, ej, hj⟩ : ∃ j : Nat, (if decide (V.int (k : Int) = V.int 0) = true then (1 : Int) else 0) = (j : Int) ∧ j ≤ 1 := by
      split
      · exact ⟨1, rfl, Nat.le_refl _⟩
      · exact ⟨0, rfl, by decide⟩
    rw [ej]
    have kpA : Kp a b H' H4 := (Kp.same t2).trans kp4
    refine ⟨e2', _, _, rfl, rfl, kp4 _ _ k2 e2a e2b, by omega, by omega, small' (by rw [Int.toNat_natCast]; show 1 * j ≤ 100000; omega), fun l5 n5 => ?_⟩
    rw [Int.toNat_natCast, flat_rep] at *
    have t5 := same_upd (o := .lst (List.replicate j (V.ref e1'))) n5
    have k5 := upd_same (H := H4) (a := l5) (o := HO.lst (List.replicate j (V.ref e1')))
    have kpB := kpA.trans (Kp.same t5)
    have hx5 := hx4.same t5
    have k15 := t5 _ _ (kp4 _ _ k12 e1a e1b)
    generalize upd H4 l5 (.lst (List.replicate j (V.ref e1'))) = H5 at t5 k5 kpB hx5 k15 ⊢
    obtain ⟨fa, fb, fs, hfs, hfl⟩ := hf.keep kpB
    have hfsl : fs.length = ms.length := hfl.1
    refine ⟨fo, l5, fs, _, rfl, rfl, hfs, k5, small' (by rw [List.length_replicate]; omega), fun l6 n6 => ?_⟩
    have t6 := same_upd (o := .lst (fs ++ List.replicate j (V.ref e1'))) n6
    have k6 := upd_same (H := H5) (a := l6) (o := HO.lst (fs ++ List.replicate j (V.ref e1')))
    have kpC := kpB.trans (Kp.same t6)
    have hx6 := hx5.same t6
    have k16 := t6 _ _ k15
    generalize upd H5 l6 (.lst (fs ++ List.replicate j (V.ref e1'))) = H6 at t6 k6 kpC hx6 k16 ⊢
    refine ⟨_, rfl, (by show 1 ≤ sizeLine; decide), fun l7 n7 => ?_⟩
    have t7 := same_upd (o := .lst [v]) n7
    have k7 := upd_same (H := H6) (a := l7) (o := HO.lst [v])
    have kpD := kpC.trans (Kp.same t7)
    have hx7 := hx6.same t7
    have k17 := t7 _ _ k16
    have k67 := t7 _ _ k6
    generalize upd H6 l7 (.lst [v]) = H7 at t7 k7 kpD hx7 k17 k67 ⊢
    refine ⟨l6, l7, _, _, rfl, rfl, k67, k7, small' (by rw [List.length_append, List.length_replicate]; show fs.length + j + 1 ≤ 100000; omega), fun l8 n8 => ?_⟩
    have t8 := same_upd (o := .lst (fs ++ List.replicate j (V.ref e1') ++ [v])) n8
    obtain ⟨l8a, l8b⟩ := hx7.fresh n8
    have kpE := kpD.trans (Kp.same t8)
    refine ⟨_, l8, ms ++ List.replicate j 0 ++ [n], rfl, hx7.same t8, kp.trans kpE, ⟨l8a, l8b, _, upd_same, ?_⟩, ?_, ?_, ?_⟩
    · refine all2_app (all2_app ?_ (all2_rep ?_ j)) (All2.cons ?_ All2.nil)
      · obtain ⟨_, _, fs', hfs', hfl'⟩ := hf.keep kpE
        have : fs' = fs := by
          have h1 := (Kp.same (a := a) (b := b) (t6.trans (t7.trans t8))) _ _ hfs fa fb
          rw [h1] at hfs'
          cases hfs'
          rfl
        rw [this] at hfl'
        exact hfl'
      · exact ⟨e1', [], rfl, t8 _ _ k17, rfl, e1a, e1b⟩
      · exact hmr.keep (kp.trans kpE)
    · rw [List.sum_append_nat, List.sum_append_nat, e1, List.sum_replicate_nat, take_snoc hn, List.sum_append_nat]
      simp
    · simp only [List.length_append, List.length_replicate, List.length_cons, List.length_nil]
      omega
    · simp only [List.length_append, List.length_replicate, List.length_cons, List.length_nil]
      omega
  · subst e
    rw [hrl] at e2 e3
    rw [hrl, take_all] at e1
    refine ⟨_, rfl, Nat.zero_le _, fun e1' ne1 => ?_⟩
    have t1 := same_upd (o := .lst []) ne1
    have k1 := upd_same (H := H') (a := e1') (o := HO.lst [])
    obtain ⟨e1a, e1b⟩ := hx'.fresh ne1
    have hx2 := hx'.same t1
    generalize upd H' e1' (.lst []) = H2 at t1 k1 hx2 ⊢
    refine ⟨(by show 1 ≤ sizeLine; decide), fun e2' ne2 => ?_⟩
    have t2 := t1.trans (same_upd (o := .lst [.ref e1']) ne2)
    have k2 := upd_same (H := H2) (a := e2') (o := HO.lst [.ref e1'])
    obtain ⟨e2a, e2b⟩ := hx2.fresh ne2
    have hx3 := hx'.same t2
    have k12 : upd H2 e2' (.lst [.ref e1']) e1' = some (.lst []) := same_upd ne2 _ _ k1
    generalize upd H2 e2' (.lst [.ref e1']) = H3 at t2 k2 hx3 k12 ⊢
    refine ⟨_, rfl, (by show 4 ≤ sizeLine; decide), fun pl npl => ?_⟩
    have tp := same_upd (o := .lst [.int 0, .int 0, .int 1, .int 2]) npl
    obtain ⟨pla, plb⟩ := hx3.fresh npl
    refine ⟨_, _, rfl, a, b, pl, _, rfl, rfl, hx3.same tp, upd_same, pla, plb, by simp, by show 4 ≤ 1000; decide, fun H4 y hy hx4 kp4 => ?_⟩
    obtain ⟨j, rfl, hj⟩ := small12 (xs := [0, 0, 1, 2]) (by decide) hy
    have kp34 : Kp a b H3 H4 := (Kp.same tp).trans kp4
    have kpA : Kp a b H' H4 := (Kp.same t2).trans kp34
    refine ⟨e2', _, _, rfl, rfl, kp34 _ _ k2 e2a e2b, by omega, by omega, small' (by rw [Int.toNat_natCast]; show 1 * j ≤ 100000; omega), fun l5 n5 => ?_⟩
    rw [Int.toNat_natCast, flat_rep] at *
    have t5 := same_upd (o := .lst (List.replicate j (V.ref e1'))) n5
    have k5 := upd_same (H := H4) (a := l5) (o := HO.lst (List.replicate j (V.ref e1')))
    have kpB := kpA.trans (Kp.same t5)
    have hx5 := hx4.same t5
    have k15 := t5 _ _ (kp34 _ _ k12 e1a e1b)
    generalize upd H4 l5 (.lst (List.replicate j (V.ref e1'))) = H5 at t5 k5 kpB hx5 k15 ⊢
    obtain ⟨fa, fb, fs, hfs, hfl⟩ := hf.keep kpB
    have hfsl : fs.length = ms.length := hfl.1
    refine ⟨fo, l5, fs, _, rfl, rfl, hfs, k5, small' (by rw [List.length_replicate]; omega), fun l6 n6 => ?_⟩
    have t6 := same_upd (o := .lst (fs ++ List.replicate j (V.ref e1'))) n6
    have kpC := kpB.trans (Kp.same t6)
    obtain ⟨l6a, l6b⟩ := hx5.fresh n6
    refine q _ l6 (ms ++ List.replicate j 0) (hx5.same t6) (kp.trans kpC) ⟨l6a, l6b, _, upd_same, all2_app (hfl.mono fun _ _ q => q.keep (Kp.same t6)) (all2_rep ⟨e1', [], rfl, t6 _ _ k15, rfl, e1a, e1b⟩ j)⟩ ?_ ?_ ?_
    · rw [List.sum_append_nat, e1, List.sum_replicate_nat]
      omega
    · rw [List.length_append]
      omega
    · rw [List.length_append, List.length_replicate]
      omega
end
end K7
/-! ## K7L7 -/
set_option Elab.async false
set_option linter.all false
set_option maxRecDepth 100000
set_option maxHeartbeats 4000000
namespace K7
open PySem PySem.Spec PyProof.Rows L2
/-- how many marks a line needs -/
def lnM (rd : Bool) (x : Ln) : Nat := 1 + (amM (lowT x.t x.b) (lowB x.t x.b)).length + (if rd = true then 1 + (if x.w < 0 then 1 else 0) + 1 else 0)
section
variable {P : Program} {w : World} {K : PySem.W.Frag} {mg : Str → Option Value} {base : Heap}
/-! ### day_marks -/
def p_day_marks (K : PySem.W.Frag) (v x y z : V) (H : Hp) (Q : VK) : Prop := ∃ (a b kA : Addr) (ks : List Str) (l : Addr) (rs : List V) (r : List Ln) (rd : Bool), v = .ref a ∧ x = .ref kA ∧ y = .ref l ∧ z = .bl rd ∧ HxA H a b ∧ Rd H kA (.tup (ks.map V.str)) ∧ l ≠ a ∧ l ≠ b ∧ H l = some (.lst rs) ∧ All2 (LnAt true H) rs r ∧ (∀ x ∈ r, RwOk ks.length x) ∧ r.length ≤ 12 ∧
  ∀ (H' : Hp) (l' : Addr) (ns : List Nat), HxA H' a b → Kp a b H H' → MkL a b H' l' ns → All2 (fun n x => lnM rd x ≤ n) ns r → Q (.ref l') H'
theorem sc_day_marks : FnScope ["_law_heap_here", "_law_kinds", "_law_lines_here", "_law_rounded", "_law_found", "_law_kind", "_law_amount_here", "_law_whole"] ["_law_heap_here", "_law_kinds", "_law_lines_here", "_law_rounded"] (defScope s_L_day_marks) := ⟨rfl, rfl, rfl, by decide +kernel, rfl, by decide +kernel, by decide +kernel⟩
theorem ok_day_marks (T : Txt K mg) : Cal P w K mg base "_law_day_marks" 3 ["_law_heap_here", "_law_kinds", "_law_lines_here", "_law_rounded"] (sp4 (p_day_marks K)) := by
  have GA := ok_amount_marks (P := P) (w := w) (base := base) T
  refine T.f_L_day_marks.cal sc_day_marks (fun _ _ _ _ _ _ us hl => match us, hl with | [_, _, _, _], _ => rfl) len4 fun f cdv A outer s0 H vs Q E hr h => ?_
  obtain ⟨_, _, _, _, rfl, a, b, kA, ks, l, rs, r, rd, rfl, rfl, rfl, rfl, hx, hk_, la, lb, hl, hall, hok, hr12, q⟩ := h
  have nd := sc_day_marks.nd
  refine ⟨_, pss_cons (ps_set (i := 4) nd rfl (.inl rfl) (pe_lst pa_nil))
    (pss_cons (ps_for PassesOwn.never rfl (pi_list (pv 2)) (pg_tup rfl (pgs_cons (pg_name (i := 5) nd rfl (.inl rfl)) (pgs_cons (pg_name (i := 6) nd rfl (.inl rfl)) (pgs_cons (pg_name (i := 7) nd rfl (.inl rfl)) pgs_nil))))
      (pss_one (ps_expr (pe_bm PySem.F.plainAttrs_list PySem.F.slot_list_append PySem.F.type_list_append mt_append (pv 4) (pa_cons
        (pe_op op_cat (pe_op op_cat (pe_lst (pa_cons (pe_ix ix_tup (pv 1) (pv 5) (fun _ _ => rfl)) pa_nil)) (pe_cal GA hr (by rfl) (pa_cons (pv 0) (pa_cons (pv 6) pa_nil))))
          (pe_ifExp (pt_val (pv 3)) (pe_op op_cat (pe_op op_cat (pe_lst (pa_cons pe_str pa_nil)) (pe_op op_rep (pe_lst (pa_cons pe_str pa_nil)) (pe_callTy call_int1 (by rfl) T.z_int b_int (pa_cons (pe_cmpR op_lt (pv 7) pe_int (nomark _)) pa_nil))))
            (pe_lst (pa_cons (pe_callTy call_str_int (by rfl) T.z_str b_str (pa_cons (pe_callB call_abs (by rfl) T.z_abs b_abs (pa_cons (pv 7) pa_nil)) pa_nil)) pa_nil))) (pe_lst pa_nil))) pa_nil)))))
    (pss_one (ps_ret (pv 4)))), ?_⟩
  have hrl : rs.length = r.length := hall.1
  refine ⟨Nat.zero_le _, fun fo nfo => ?_⟩
  have s1 := same_upd (o := .lst []) nfo
  have g1 := upd_same (H := H) (a := fo) (o := HO.lst [])
  obtain ⟨foa, fob⟩ := hx.fresh nfo
  have hx1 := hx.same s1
  have f1 : FdA a b fo (upd H fo (.lst [])) [] [] := ⟨foa, fob, g1, All2.nil⟩
  generalize upd H fo (.lst []) = H1 at s1 g1 hx1 f1 ⊢
  refine ⟨_, rfl, l, rfl, ⟨_, .of (s1 _ _ hl)⟩, ?_⟩
  refine for_list (K := K) (a := l) (xs := rs) (fun i σ H' => ∃ v5 v6 v7 ms ns, σ = [some (.ref a), some (.ref kA), some (.ref l), some (.bl rd), some (.ref fo), v5, v6, v7] ∧ HxA H' a b ∧ Kp a b H H' ∧ FdA a b fo H' ms ns ∧ All2 (fun n x => lnM rd x ≤ n) ns (r.take i))
    ⟨none, none, none, [], [], rfl, hx1, Kp.same s1, f1, All2.nil⟩ (fun i σ H' _ ⟨_, _, _, _, _, _, _, kp, _⟩ => .of (kp _ _ hl la lb)) (fun i v σ H' hv ⟨v5, v6, v7, ms, ns, e, hx', kp, fd, al⟩ => ?_) (fun σ H' ⟨v5, v6, v7, ms, ns, e, hx', kp, fd, al⟩ => ?_)
  · subst e
    have hi : i < rs.length := (List.getElem?_eq_some_iff.mp hv).1
    obtain ⟨x, hxr, t, f, rfl, ht, hf⟩ := hall.get hv
    rw [if_pos rfl] at ht
    obtain ⟨x1, x2, x3, x4, x5⟩ := hok x (List.mem_of_getElem? hxr)
    have nl' := kp.nl hx
    have hmsl : ms.length ≤ 12 := by
      rw [fd.al.1, al.1, List.length_take]
      omega
    refine ⟨t, _, rfl, .of (nl'.tup _ _ ht), rfl, _, _, rfl, _, _, rfl, _, _, rfl, rfl, ?_⟩
    refine ⟨_, rfl, .inl ⟨rfl, _, .of fd.h⟩, ?_⟩
    refine ⟨_, rfl, _, rfl, kA, _, _, _, rfl, rfl, .inl (nl'.rd hk_), kind_at x1, (by show 1 ≤ sizeLine; decide), fun l1 n1 => ?_⟩
    have t1 := same_upd (o := .lst [.str (ks.getD x.k Str.empty)]) n1
    have k1 := upd_same (H := H') (a := l1) (o := .lst [.str (ks.getD x.k Str.empty)])
    obtain ⟨l1a, l1b⟩ := hx'.fresh n1
    have hx2 := hx'.same t1
    generalize upd H' l1 (.lst [.str (ks.getD x.k Str.empty)]) = H2 at t1 k1 hx2 ⊢
    refine ⟨_, rfl, _, rfl, _, _, rfl, a, b, x.t, x.b, rfl, (hf.keep nl'.tup).keep (TupK.same t1), hx2, x2, x3, x4, fun H3 p ys hx3 kp3 np hp hy1 hy2 => ?_⟩
    refine ⟨l1, p, _, _, rfl, rfl, kp3 _ _ k1 l1a l1b, hp, small' (by show 1 + ys.length ≤ 100000; omega), fun l2 n2 => ?_⟩
    have t3 := same_upd (o := .lst ([.str (ks.getD x.k Str.empty)] ++ ys)) n2
    have k3 := upd_same (H := H3) (a := l2) (o := .lst ([.str (ks.getD x.k Str.empty)] ++ ys))
    obtain ⟨l2a, l2b⟩ := hx3.fresh n2
    have hx4 := hx3.same t3
    have kpA : Kp a b H' _ := (Kp.same t1).trans (kp3.trans (Kp.same t3))
    have hgl : ([V.str (ks.getD x.k Str.empty)] ++ ys).length = 1 + ys.length := List.length_append
    generalize [V.str (ks.getD x.k Str.empty)] ++ ys = gs at hgl k3 t3 hx4 kpA ⊢
    generalize upd H3 l2 (.lst gs) = H4 at t3 k3 hx4 kpA ⊢
    -- the line's list stands
    have fin : ∀ (H5 : Hp) (u : Addr) (zs : List V), HxA H5 a b → Same H4 H5 → H5 u = some (.lst zs) → u ≠ fo → u ≠ a → u ≠ b → lnM rd x ≤ zs.length → rAppend (.ref fo) [.ref u] H5 fun _ H6 =>
        ∃ v5 v6 v7 ms ns, [some (V.ref a), some (V.ref kA), some (V.ref l), some (V.bl rd), some (V.ref fo), some (V.int (x.k : Int)), some f, some (V.int x.w)] = [some (.ref a), some (.ref kA), some (.ref l), some (.bl rd), some (.ref fo), v5, v6, v7] ∧ HxA H6 a b ∧ Kp a b H H6 ∧ FdA a b fo H6 ms ns ∧ All2 (fun n x => lnM rd x ≤ n) ns (r.take (i + 1)) := fun H5 u zs hx5 sm5 hu hnf hua hub hz => by
      have fd5 := fd.keep (kpA.trans (Kp.same sm5))
      refine ⟨fo, ms, _, rfl, rfl, fd5.h, small (by omega), ?_⟩
      refine ⟨_, _, _, ms ++ [.ref u], ns ++ [zs.length], rfl, hx5.put foa fob, ((kp.trans (kpA.trans (Kp.same sm5))).put nfo), fd5.put ⟨u, zs, rfl, hu, rfl, hua, hub⟩ (fun z => hnf (by cases z; rfl)), ?_⟩
      rw [take_snoc hxr]
      exact al.snoc hz
    have nfo4 : ∀ {H5 : Hp} {u : Addr}, Same H4 H5 → H5 u = none → u ≠ fo := fun sm5 hu z => by
      have := (kpA.trans (Kp.same sm5)) _ _ fd.h foa fob
      rw [← z, hu] at this
      cases this
    refine ⟨_, rfl, rd, rfl, ?_⟩
    cases rd with
    | true =>
      refine iteT ?_
      have hk : ∃ k : Nat, (if decide (x.w < 0) = true then (1 : Int) else 0) = (k : Int) ∧ k ≤ 1 ∧ k = (if x.w < 0 then 1 else 0) := by
        by_cases h : x.w < 0
        · exact ⟨1, by rw [decide_eq_true h]; rfl, Nat.le_refl _, by rw [if_pos h]⟩
        · exact ⟨0, by rw [decide_eq_false h]; rfl, by decide, by rw [if_neg h]⟩
      obtain ⟨k, ek, hk1, hk2⟩ := hk
      refine ⟨(by show 1 ≤ sizeLine; decide), fun l5 n5 => ?_⟩
      have t5 := same_upd (o := .lst [.str "="]) n5
      have k5 := upd_same (H := H4) (a := l5) (o := .lst [.str "="])
      generalize upd H4 l5 (.lst [.str "="]) = H5 at t5 k5 ⊢
      refine ⟨(by show 1 ≤ sizeLine; decide), fun l6 n6 => ?_⟩
      have t6 := same_upd (o := .lst [.str "-"]) n6
      have k6 := upd_same (H := H5) (a := l6) (o := .lst [.str "-"])
      have k56 := t6 _ _ k5
      have s6 := t5.trans t6
      generalize upd H5 l6 (.lst [.str "-"]) = H6 at t6 k6 k56 s6 ⊢
      refine ⟨_, rfl, _, _, rfl, rfl, .inr ⟨_, rfl, ?_⟩⟩
      rw [ek]
      refine ⟨l6, _, _, rfl, rfl, k6, by omega, by omega, small' (by rw [Int.toNat_natCast]; show 1 * k ≤ 100000; omega), fun l7 n7 => ?_⟩
      rw [Int.toNat_natCast, flat_rep] at *
      have t7 := same_upd (o := .lst (List.replicate k (V.str (Str.ofString "-")))) n7
      have k7 := upd_same (H := H6) (a := l7) (o := .lst (List.replicate k (V.str (Str.ofString "-"))))
      have k57 := t7 _ _ k56
      have s7 := s6.trans t7
      generalize upd H6 l7 (.lst (List.replicate k (V.str (Str.ofString "-")))) = H7 at t7 k7 k57 s7 ⊢
      refine ⟨l5, l7, _, _, rfl, rfl, k57, k7, small' (by rw [List.length_replicate]; show 1 + k ≤ 100000; omega), fun l8 n8 => ?_⟩
      have t8 := same_upd (o := .lst ([V.str (Str.ofString "=")] ++ List.replicate k (V.str (Str.ofString "-")))) n8
      have k8 := upd_same (H := H7) (a := l8) (o := .lst ([V.str (Str.ofString "=")] ++ List.replicate k (V.str (Str.ofString "-"))))
      have s8 := s7.trans t8
      have hhl : ([V.str (Str.ofString "=")] ++ List.replicate k (V.str (Str.ofString "-"))).length = 1 + k := by rw [List.length_append, List.length_replicate]; rfl
      generalize [V.str (Str.ofString "=")] ++ List.replicate k (V.str (Str.ofString "-")) = hs at hhl k8 t8 s8 ⊢
      generalize upd H7 l8 (.lst hs) = H8 at t8 k8 s8 ⊢
      refine ⟨_, rfl, _, rfl, _, rfl, ?_, (by show 1 ≤ sizeLine; decide), fun l9 n9 => ?_⟩
      · split
        · rw [Int.natAbs_neg]
          exact log_small x5.2
        · exact log_small x5.2
      generalize Str.ofString (toString (if x.w < 0 then -x.w else x.w)) = ws at n9 ⊢
      have t9 := same_upd (o := .lst [.str ws]) n9
      have k9 := upd_same (H := H8) (a := l9) (o := .lst [.str ws])
      have k89 := t9 _ _ k8
      have s9 := s8.trans t9
      generalize upd H8 l9 (.lst [.str ws]) = H9 at t9 k9 k89 s9 ⊢
      refine ⟨l8, l9, _, _, rfl, rfl, k89, k9, small' (by show hs.length + 1 ≤ 100000; omega), fun l10 n10 => ?_⟩
      have t10 := same_upd (o := .lst (hs ++ [V.str ws])) n10
      have k10 := upd_same (H := H9) (a := l10) (o := .lst (hs ++ [V.str ws]))
      have s10 := s9.trans t10
      generalize upd H9 l10 (.lst (hs ++ [V.str ws])) = H10 at t10 k10 s10 ⊢
      refine ⟨l2, l10, _, _, rfl, rfl, s10 _ _ k3, k10, small' (by rw [List.length_append]; show gs.length + (hs.length + 1) ≤ 100000; omega), fun u nu => ?_⟩
      have t11 := same_upd (o := .lst (gs ++ (hs ++ [V.str ws]))) nu
      have s11 := s10.trans t11
      obtain ⟨ua, ub⟩ := (hx4.same s10).fresh nu
      refine fin _ u _ (hx4.same s11) s11 upd_same (nfo4 s10 nu) ua ub ?_
      rw [List.length_append, List.length_append, hgl, hhl]
      unfold lnM
      rw [if_pos rfl, ← hk2]
      show _ ≤ 1 + ys.length + (1 + k + 1)
      omega
    | false =>
      refine iteF ⟨Nat.zero_le _, fun l5 n5 => ?_⟩
      have t5 := same_upd (o := .lst []) n5
      refine ⟨l2, l5, _, _, rfl, rfl, t5 _ _ k3, upd_same, small' (by show gs.length + 0 ≤ 100000; omega), fun u nu => ?_⟩
      have t6 := t5.trans (same_upd (o := .lst (gs ++ [])) nu)
      obtain ⟨ua, ub⟩ := (hx4.same t5).fresh nu
      refine fin _ u _ (hx4.same t6) t6 upd_same (nfo4 t5 nu) ua ub ?_
      rw [List.append_nil, hgl]
      unfold lnM
      rw [if_neg Bool.false_ne_true]
      omega
  · subst e
    rw [hrl, take_all] at al
    exact ⟨_, rfl, q H' fo ns hx' kp fd.mk' al⟩
end
end K7
/-! ## K7L8 -/
set_option Elab.async false
set_option linter.all false
set_option maxRecDepth 100000
set_option maxHeartbeats 4000000
namespace K7
open PySem PySem.Spec PyProof.Rows L2
/-! ### texts of small codes -/
def Asc (l : List Nat) : Prop := ∀ c ∈ l, c < 128
theorem Asc.app {a b : List Nat} (h : Asc a) (h' : Asc b) : Asc (a ++ b) := fun c hc => (List.mem_append.mp hc).elim (h c) (h' c)
theorem Asc.cons {c : Nat} {b : List Nat} (h : c < 128) (h' : Asc b) : Asc (c :: b) := fun d hd => (List.mem_cons.mp hd).elim (fun e => e ▸ h) (h' d)
theorem Asc.nil : Asc [] := fun c hc => by cases hc
theorem asc_joinL {c : Nat} (hc : c < 128) : ∀ ps : List (List Nat), (∀ p ∈ ps, Asc p) → Asc (TL.joinL [c] ps)
  | [], _ => Asc.nil
  | [p], h => h p List.mem_cons_self
  | p :: q :: r, h => (h p List.mem_cons_self).app ((Asc.cons hc Asc.nil).app (asc_joinL hc (q :: r) fun x hx => h x (List.mem_cons_of_mem _ hx)))
theorem asc_num (n : Nat) : Asc (TL.numL n) := fun c hc => by
  have := isDig_iff.mp (numL_dig n c hc)
  omega
theorem asc_numT (i : Int) : Asc (numT i) := by
  rw [numT_eq]
  refine Asc.app ?_ (asc_num _)
  split
  · exact Asc.cons (by decide) Asc.nil
  · exact Asc.nil
theorem asc_am (t : Int) (b : Nat) : Asc (amT t b) := by
  unfold amT
  refine (asc_numT t).app ?_
  split
  · exact Asc.nil
  · exact Asc.cons (by decide) (asc_num b)
theorem asc_name {k : Str} (h : isName k = true) : Asc (TL.tl k) := fun c hc => by
  have := isLet_iff.mp (name_let h c hc)
  omega
theorem asc_line {ks : List Str} {rd : Bool} {l : Ln} (hk : ∀ k ∈ ks, isName k = true) (h : l.k < ks.length) : Asc (lineTx ks rd l) := by
  unfold lineTx
  refine (asc_name (hk _ (getD_mem h))).app (Asc.cons (by decide) ((asc_am _ _).app ?_))
  split
  · exact Asc.app (Asc.cons (by decide) (Asc.cons (by decide) (Asc.cons (by decide) Asc.nil))) (asc_numT _)
  · exact Asc.nil
theorem asc_day {ks : List Str} {rd : Bool} {r : List Ln} (hk : ∀ k ∈ ks, isName k = true) (h : ∀ l ∈ r, LnOk ks rd l) : Asc (dayTx ks rd r) := by
  unfold dayTx
  refine asc_joinL (by decide) _ fun p hp => ?_
  obtain ⟨l, hl, rfl⟩ := List.mem_map.mp hp
  exact asc_line hk (h l hl).k
theorem asc_row {ks : List Str} {row : List Nat} (hk : ∀ k ∈ ks, isName k = true) (h : ∀ i ∈ row, i < ks.length) : Asc (rowTx ks row) := by
  unfold rowTx
  refine asc_joinL (by decide) _ fun p hp => ?_
  obtain ⟨k, hk', rfl⟩ := List.mem_map.mp hp
  obtain ⟨i, hi, rfl⟩ := List.mem_map.mp hk'
  exact asc_name (hk _ (getD_mem (h i hi)))
theorem asc_spN {ks : List Str} (hk : ∀ k ∈ ks, isName k = true) : Asc (spN ks) := by
  intro c hc
  unfold spN at hc
  obtain ⟨k, hk', hc'⟩ := List.mem_flatMap.mp hc
  rcases List.mem_cons.mp hc' with rfl | hc'
  · decide
  · exact asc_name (hk k hk') c hc'
theorem asc_tab {ks : List Str} {ts : List (List Nat)} (h : TabD ks ts) : Asc (tabTx ks (totN ks ts)) := by
  unfold tabTx
  refine Asc.app (by rw [tl_kinds]; exact (show ∀ c ∈ [107, 105, 110, 100, 115], c < 128 by decide)) ((asc_spN h.name).app ?_)
  intro c hc
  unfold totTx at hc
  obtain ⟨t, ht, hc'⟩ := List.mem_flatMap.mp hc
  rcases List.mem_cons.mp hc' with rfl | hc'
  · decide
  · rcases List.mem_append.mp hc' with hc' | hc'
    · rw [tl_total] at hc'
      exact (show ∀ c ∈ [116, 111, 116, 97, 108], c < 128 by decide) c hc'
    · exact asc_spN (fun k hk => h.name k ((h.nok ht).1 k hk)) c hc'
theorem rep_ok {l : List Nat} (h : Asc l) (hl : (S l).length ≤ 100000) : (reprText (S l)).length ≤ sizeLine := by
  have h1 := PySem.StrLaws.reprText_len (S l) fun c hc => Nat.lt_of_lt_of_le (h c hc) (by decide)
  exact Nat.le_trans h1 (Nat.le_trans (show 10 * (S l).length + 2 ≤ 1000002 by omega) (by decide))
/-- a fraction's data -/
theorem dp_fr {K : PySem.W.Frag} {H : Hp} {v : V} {t : Int} {b : Nat} (h : FrAt H v t b) : Dp K H v (.tuple [.int t, .int (b : Int)]) := by
  obtain ⟨a, rfl, e⟩ := h
  exact .tup (.of e) (.cons (.int _) (.cons (.int _) .nil))
section
variable {P : Program} {w : World} {K : PySem.W.Frag} {mg : Str → Option Value} {base : Heap}
theorem kw_frac (T : Txt K mg) : CalK P w K mg base "show_fraction" 1 ["one"] ["one"] (gKw 1 V.non fun l => l) (sp1 p_show_fraction) :=
  (ok_show_fraction T).calK (ks := ["one"]) (fun l => l) (fun _ h => h) (fun h => h) (fun _ _ _ _ _ _ ws hl => match ws, hl with | [_], _ => rfl)
/-! ### fraction_right -/
def p_right (v : V) (H : Hp) (Q : VK) : Prop := ∃ (a b : Addr), v = .ref a ∧ HxA H a b ∧ ∀ H', HxA H' a b → Kp a b H H' → Q (.bl true) H'
theorem sc_fraction_right : FnScope ["_law_heap_here", "_law_drawn", "_law_amount_here", "_law_due"] ["_law_heap_here"] (defScope s_L_fraction_right) := ⟨rfl, rfl, rfl, by decide +kernel, rfl, by decide +kernel, by decide +kernel⟩
theorem ok_fraction_right (T : Txt K mg) : Cal P w K mg base "_law_fraction_right" 7 ["_law_heap_here"] (sp1 p_right) := by
  have GA := (ok_amount (P := P) (w := w) (base := base) T).mono (show 3 ≤ 6 by decide)
  have GL := (ok_lowest (P := P) (w := w) (base := base) T).mono (show 1 ≤ 6 by decide)
  have GS := (ok_shown (P := P) (w := w) (base := base) T).mono (show 1 ≤ 6 by decide)
  have GF := ((ok_show_fraction (P := P) (w := w) (base := base) T).cal (fun _ _ _ _ _ _ us hl => match us, hl with | [_], _ => rfl)).mono (show 1 ≤ 6 by decide)
  have GR := ok_read_fraction (P := P) (w := w) (base := base) T
  have GW := (ok_fewest (P := P) (w := w) (base := base) T).mono (show 4 ≤ 6 by decide)
  have GM := (ok_amount_marks (P := P) (w := w) (base := base) T).mono (show 2 ≤ 6 by decide)
  have GK := kw_frac (P := P) (w := w) (base := base) T
  refine T.f_L_fraction_right.cal sc_fraction_right (fun _ _ _ _ _ _ us hl => match us, hl with | [_], _ => rfl) len1 fun f cdv A outer s0 H vs Q E hr h => ?_
  obtain ⟨_, rfl, a, b, rfl, hx, q⟩ := h
  have nd := sc_fraction_right.nd
  refine ⟨_, pss_cons (ps_set (i := 1) nd rfl (.inl rfl) (pe_cal GA hr (by rfl) (pa_cons (pv 0) pa_nil)))
    (pss_cons (ps_set (i := 2) nd rfl (.inl rfl) (pe_cal GL hr (by rfl) (pa_cons (pe_ix ix_tup (pv 1) pe_int (fun _ _ => rfl)) (pa_cons (pe_ix ix_tup (pv 1) pe_int (fun _ _ => rfl)) pa_nil))))
    (pss_cons (ps_set (i := 3) nd rfl (.inl rfl) (pe_cal GS hr (by rfl) (pa_cons (pv 2) pa_nil)))
    (pss_cons (ps_if (PW.pt (pw_or (pt_cmpR op_ne (pe_callB call_repr_str (by rfl) T.z_repr b_repr (pa_cons (pe_cal GF hr (by rfl) (pa_cons (pv 2) pa_nil)) pa_nil)) (pe_callB call_repr_str (by rfl) T.z_repr b_repr (pa_cons (pv 3) pa_nil)) (nomark _))
      (pw_or (pt_cmpR op_ne (pe_calK GK (hr.mono (by decide)) (by rfl) (pk_cons (pv 2) pk_nil)) (pv 3) (nomark _)) (pw_or1 (pt_cmpR (op_neD hr.units) (pe_cal GR hr (by rfl) (pa_cons (pv 3) pa_nil)) (pv 2) (nomark _)))))) (pss_one (ps_ret pe_bl)) pss_nil)
    (pss_one (ps_ret (pe_cal GW hr (by rfl) (pa_cons (pv 3) (pa_cons (pe_lst (pa_cons (pe_cal GM hr (by rfl) (pa_cons (pv 0) (pa_cons (pv 1) pa_nil))) pa_nil)) pa_nil)))))))), ?_⟩
  refine ⟨_, rfl, _, rfl, a, b, rfl, hx, fun H1 p t n t1 t2 t3 hx1 kp1 hp => ?_⟩
  have e0 : atI [V.int t, V.int (n : Int)] 0 = some (.int t) := rfl
  have e1 : atI [V.int t, V.int (n : Int)] 1 = some (.int (n : Int)) := rfl
  have hf := low_ok t1 t2 t3
  refine ⟨_, rfl, p, _, _, _, rfl, rfl, .of hp, e0, _, rfl, p, _, _, _, rfl, rfl, .of hp, e1, _, _, rfl, t, n, rfl, rfl, t1, t2, t3, fun lp nlp => ?_⟩
  have s2 := same_upd (o := .tup [.int (lowT t n), .int (lowB t n : Int)]) nlp
  have g2 := upd_same (H := H1) (a := lp) (o := .tup [.int (lowT t n), .int (lowB t n : Int)])
  have hx2 := hx1.same s2
  have kp2 := kp1.trans (Kp.same s2)
  have hp2 := s2 _ _ hp
  generalize upd H1 lp (.tup [.int (lowT t n), .int (lowB t n : Int)]) = H2 at s2 g2 hx2 kp2 hp2 ⊢
  have fr : FrAt H2 (.ref lp) (lowT t n) (lowB t n) := ⟨lp, rfl, g2⟩
  refine ⟨_, rfl, _, rfl, lowT t n, lowB t n, fr, hf, ?_⟩
  have hl16 := amT_len hf
  have hrep := rep_ok (asc_am (lowT t n) (lowB t n)) (Nat.le_trans hl16 (by decide))
  refine ⟨_, rfl, _, rfl, lowT t n, lowB t n, fr, hf, _, rfl, hrep, _, rfl, _, rfl, hrep, rfl, _, rfl, ?_⟩
  rw [decide_eq_true rfl]
  refine iteF ?_
  refine ⟨_, rfl, _, rfl, lowT t n, lowB t n, fr, hf, _, rfl, rfl, _, rfl, ?_⟩
  rw [decide_eq_true rfl]
  refine iteF ?_
  refine ⟨_, rfl, _, rfl, lowT t n, lowB t n, rfl, hf, fun H3 v3 s3 hv3 => ?_⟩
  refine ⟨_, rfl, _, _, dp_fr hv3, dp_fr (fr.keep (TupK.same s3)), rfl, rfl, _, rfl, ?_⟩
  rw [PySem.SeqAt.eqv_refl _ rfl]
  refine iteF ?_
  have hx3 := hx2.same s3
  have kp3 := kp2.trans (Kp.same s3)
  refine ⟨_, rfl, _, rfl, _, rfl, _, _, rfl, a, b, t, n, rfl, ⟨p, rfl, s3 _ _ hp2⟩, hx3, t1, t2, t3, fun H4 m ys hx4 kp4 np hm hm1 hm2 => ?_⟩
  refine ⟨(by show 1 ≤ sizeLine; decide), fun l nl => ?_⟩
  have s5 := same_upd (o := .lst [.ref m]) nl
  obtain ⟨la, lb⟩ := hx4.fresh nl
  obtain ⟨ma, mb⟩ := hx3.fresh np
  refine ⟨_, _, rfl, a, b, S (amT (lowT t n) (lowB t n)), l, [ys.length], rfl, rfl, Nat.le_trans hl16 (by decide), ⟨la, lb, _, upd_same, All2.cons ⟨m, ys, rfl, s5 _ _ hm, rfl, ma, mb⟩ All2.nil⟩, by show 1 ≤ 1000; decide, ?_, fun H6 s6 => q H6 ((hx4.same s5).same s6) ((kp3.trans kp4).trans (Kp.same (s5.trans s6)))⟩
  rw [marks_am, List.length_map]
  show _ ≤ ys.length + 0 + (1 - 1)
  omega
end
end K7
/-! ## K7L9 -/
set_option Elab.async false
set_option linter.all false
set_option maxRecDepth 100000
set_option maxHeartbeats 4000000
namespace K7
open PySem PySem.Spec PyProof.Rows L2
/-! ### names: the plain law -/
def letS (i : Nat) : Str := ⟨#[97 + (7 * i + 3) % 26]⟩
def bNm (f : Str) (m : Nat) : List Str := (List.range m).map fun i => f ++ letS i
/-- names, all unlike, none one sign longer than another -/
structure NmOk (xs : List Str) : Prop where
  nm : ∀ x ∈ xs, isName x = true
  nd : xs.Nodup
  ln : ∀ x ∈ xs, ∀ y ∈ xs, y.length ≠ x.length + 1
theorem tl_letS (i : Nat) : TL.tl (letS i) = [97 + (7 * i + 3) % 26] := rfl
theorem isName_of {x : Str} (h1 : 1 ≤ x.length) (h2 : x.length ≤ 6) (h3 : ∀ c ∈ TL.tl x, isLet c = true) : isName x = true := by
  unfold isName
  rw [decide_eq_true h1, decide_eq_true h2, List.all_eq_true.mpr h3]
  rfl
theorem letS_len (i : Nat) : (letS i).length = 1 := rfl
theorem nodup_set : ∀ {xs : List Str} {i : Nat} {z : Str}, xs.Nodup → z ∉ xs → (xs.set i z).Nodup
  | [], _, _, h, _ => h
  | x :: xs, 0, z, h, hz => by
    rw [List.set_cons_zero]
    exact List.nodup_cons.mpr ⟨fun q => hz (List.mem_cons_of_mem _ q), (List.nodup_cons.mp h).2⟩
  | x :: xs, i + 1, z, h, hz => by
    rw [List.set_cons_succ]
    refine List.nodup_cons.mpr ⟨fun q => ?_, nodup_set (List.nodup_cons.mp h).2 fun q => hz (List.mem_cons_of_mem _ q)⟩
    rcases List.mem_or_eq_of_mem_set q with q | q
    · exact (List.nodup_cons.mp h).1 q
    · exact hz (q ▸ List.mem_cons_self)
theorem base_ok {f : Str} {m : Nat} (hf : ∀ c ∈ TL.tl f, isLet c = true) (hl : f.length ≤ 5) (hm : m ≤ 12) : NmOk (bNm f m) ∧ ∀ x ∈ bNm f m, x.length = f.length + 1 := by
  have len : ∀ x ∈ bNm f m, x.length = f.length + 1 := fun x hx => by
    obtain ⟨i, _, rfl⟩ := List.mem_map.mp hx
    rw [len_app]
    rfl
  refine ⟨⟨fun x hx => ?_, ?_, fun x hx y hy => by rw [len x hx, len y hy]; omega⟩, len⟩
  · have h1 := len x hx
    refine isName_of (by omega) (by omega) fun c hc => ?_
    obtain ⟨i, _, rfl⟩ := List.mem_map.mp hx
    rw [TL.tl_append, tl_letS] at hc
    rcases List.mem_append.mp hc with hc | hc
    · exact hf c hc
    · rw [List.mem_singleton.mp hc]
      exact isLet_iff.mpr ⟨by omega, by omega⟩
  · unfold bNm
    refine List.pairwise_map.mpr (List.Pairwise.imp_of_mem (fun {i j} hi hj hij e => ?_) List.pairwise_lt_range)
    have hi' := List.mem_range.mp hi
    have hj' := List.mem_range.mp hj
    have e2 := congrArg TL.tl e
    rw [TL.tl_append, TL.tl_append, tl_letS, tl_letS] at e2
    have e3 := List.append_cancel_left e2
    injection e3 with e4 _
    omega
theorem set_first {m : Nat} {z : Str} (hm : m ≤ 12) (hz : z.length = 5) (hn : isName z = true) : NmOk ((bNm "" m).set 0 z) := by
  obtain ⟨h, len⟩ := base_ok (f := "") (m := m) (by decide +kernel) (by decide +kernel) hm
  have hl1 : ∀ x ∈ bNm "" m, x.length = 1 := fun x hx => (len x hx).trans (by decide +kernel)
  have hl : ∀ x ∈ (bNm "" m).set 0 z, x.length = 1 ∨ x.length = 5 := fun x hx => by
    rcases List.mem_or_eq_of_mem_set hx with hx | rfl
    · exact .inl (hl1 x hx)
    · exact .inr hz
  refine ⟨fun x hx => ?_, nodup_set h.nd (fun q => by have := hl1 z q; omega), fun x hx y hy => ?_⟩
  · rcases List.mem_or_eq_of_mem_set hx with hx | rfl
    · exact h.nm x hx
    · exact hn
  · rcases hl x hx with a | a <;> rcases hl y hy with b | b <;> omega
theorem tl_o : TL.tl ("o" : Str) = [111] := by decide +kernel
theorem add_o {xs : List Str} (h : NmOk xs) {i : Nat} {x : Str} (hx : xs[i]? = some x) (hl : x.length < 6) : (∀ y ∈ xs.set i (x ++ "o"), isName y = true) ∧ (xs.set i (x ++ "o")).Nodup := by
  have hm := List.mem_of_getElem? hx
  have hlen : (x ++ ("o" : Str)).length = x.length + 1 := by
    rw [len_app]
    rfl
  refine ⟨fun y hy => ?_, nodup_set h.nd fun q => h.ln x hm _ q hlen⟩
  rcases List.mem_or_eq_of_mem_set hy with hy | rfl
  · exact h.nm y hy
  · refine isName_of (by omega) (by omega) fun c hc => ?_
    rw [TL.tl_append, tl_o] at hc
    rcases List.mem_append.mp hc with hc | hc
    · exact name_let (h.nm x hm) c hc
    · rw [List.mem_singleton.mp hc]
      decide
theorem letL_at {k : Nat} (h : k < 26) : letL[k]? = some (97 + k) := by
  have : ∀ k : Fin 26, letL[k.val]? = some (97 + k.val) := by decide +kernel
  exact this ⟨k, h⟩
theorem mul_o1 : PySem.Txt.mul "o" 1 = "o" := by decide +kernel
theorem mul_o0 : PySem.Txt.mul "o" 0 = "" := by decide +kernel
theorem app_emp (x : Str) : x ++ Str.ofString "" = x := tl_inj (by rw [TL.tl_append]; exact List.append_nil _)
section
variable {P : Program} {w : World} {K : PySem.W.Frag} {mg : Str → Option Value} {base : Heap}
def p_names (v x : V) (H : Hp) (Q : VK) : Prop := ∃ (a b : Addr) (m : Nat), v = .ref a ∧ x = .int (m : Int) ∧ 1 ≤ m ∧ m ≤ 12 ∧ HxA H a b ∧ ∀ (H' : Hp) (kA : Addr) (ks : List Str), HxA H' a b → Kp a b H H' → FzT H' kA (ks.map V.str) → ks.Pairwise ltS → (∀ k ∈ ks, isName k = true) → ks.length = m → Q (.ref kA) H'
theorem sc_names : FnScope ["_law_heap_here", "_law_many", "_law_letters", "_law_front", "_law_found", "_law_at"] ["_law_heap_here", "_law_many"] (defScope s_L_names) := ⟨rfl, rfl, rfl, by decide +kernel, rfl, by decide +kernel, by decide +kernel⟩
theorem ok_names (T : Txt K mg) : Cal P w K mg base "_law_names" 3 ["_law_heap_here", "_law_many"] (sp2 p_names) := by
  have G := (ok_draw (P := P) (w := w) (base := base) T).mono (show 1 ≤ 2 by decide)
  have GP := ok_pick (P := P) (w := w) (base := base) T
  refine T.f_L_names.cal sc_names (fun _ _ _ _ _ _ us hl => match us, hl with | [_, _], _ => rfl) len2 fun f cdv A outer s0 H vs Q E hr h => ?_
  obtain ⟨_, _, rfl, a, b, m, rfl, rfl, hm1, hm2, hx, q⟩ := h
  have nd := sc_names.nd
  refine ⟨_, pss_cons (ps_par3 (i := 2) (j := 3) (l := 4) (by rfl) nd rfl rfl rfl (by decide) (by decide) (by decide) rfl rfl rfl (pa_cons pe_str (pa_cons (pe_cal GP hr (by rfl) (pa_cons (pv 0) (pa_cons (pe_lst (pa_cons pe_str (pa_cons pe_str (pa_cons pe_str (pa_cons pe_str (pa_cons pe_str pa_nil)))))) pa_nil))) (pa_cons (pe_lst pa_nil) pa_nil))) (by rfl))
    (pss_cons (ps_for PassesOwn.never rfl (pi_range1 (by rfl) T.z_range (pa_cons (pv 1) pa_nil)) (pg_name (i := 5) nd rfl (.inl rfl))
      (pss_one (ps_expr (pe_bm PySem.F.plainAttrs_list PySem.F.slot_list_append PySem.F.type_list_append mt_append (pv 4) (pa_cons (pe_op op_add_str (pv 3) (pe_ix ix_str (pv 2) (pe_op op_mod (pe_callTy call_int1 (by rfl) T.z_int b_int (pa_cons (pe_op op_add (pe_op op_mul pe_int (pv 5)) pe_int) pa_nil)) pe_int) (fun _ _ => rfl))) pa_nil)))))
    (pss_cons (ps_if (PW.pt (pw_and (pt_cmpR op_eq (pv 3) pe_str (nomark _)) (pw_and (pt_cmpR op_lt (pv 1) pe_int (nomark _)) (pw_and1 (pt_cmpR op_eq (pe_cal G hr (by rfl) (pa_cons (pv 0) (pa_cons pe_int pa_nil))) pe_int (nomark _))))))
      (pss_one (ps_asg (pe_cal GP hr (by rfl) (pa_cons (pv 0) (pa_cons (pe_lst (pa_cons pe_str (pa_cons pe_str pa_nil))) pa_nil))) (pg_sub (pv 4) pe_int set_list))) pss_nil)
    (pss_cons (ps_set (i := 5) nd rfl (.inl rfl) (pe_cal G hr (by rfl) (pa_cons (pv 0) (pa_cons (pv 1) pa_nil))))
    (pss_cons (ps_asg (pe_op op_add_str (pe_ix ix_list (pv 4) (pv 5) (fun _ _ => rfl)) (pe_op op_mul_str pe_str (pe_callTy call_int1 (by rfl) T.z_int b_int (pa_cons (pe_and (pe_cmpR op_lt (pe_callB call_len_str (by rfl) T.z_len b_len (pa_cons (pe_ix ix_list (pv 4) (pv 5) (fun _ _ => rfl)) pa_nil)) pe_int (nomark _)) (pe_one (pe_cmpR op_eq (pe_cal G hr (by rfl) (pa_cons (pv 0) (pa_cons pe_int pa_nil))) pe_int (nomark _)))) pa_nil))))
      (pg_sub (pv 4) (pv 5) set_list))
    (pss_one (ps_ret (pe_callTy call_tuple_frz (by rfl) T.z_tuple b_tuple (pa_cons (pe_callB cr_sortedS (by rfl) T.z_sorted b_sorted (pa_cons (pv 4) pa_nil)) pa_nil)))))))), ?_⟩
  refine ⟨_, rfl, (by show 5 ≤ sizeLine; decide), fun pl npl => ?_⟩
  have sp := same_upd (o := .lst [.str "", .str "", .str "b", .str "zz", .str "mnopu"]) npl
  obtain ⟨pla, plb⟩ := hx.fresh npl
  refine ⟨_, _, rfl, a, b, pl, _, rfl, rfl, hx.same sp, upd_same, pla, plb, by simp, by show 5 ≤ 1000; decide, fun H1 y hy hx1 kp1 => ?_⟩
  have hfr : ∃ fr : Str, y = .str fr ∧ (∀ c ∈ TL.tl fr, isLet c = true) ∧ fr.length ≤ 5 := by
    simp only [List.mem_cons, List.not_mem_nil, or_false] at hy
    rcases hy with rfl | rfl | rfl | rfl | rfl
    · exact ⟨_, rfl, by decide +kernel, by decide +kernel⟩
    · exact ⟨_, rfl, by decide +kernel, by decide +kernel⟩
    · exact ⟨_, rfl, by decide +kernel, by decide +kernel⟩
    · exact ⟨_, rfl, by decide +kernel, by decide +kernel⟩
    · exact ⟨_, rfl, by decide +kernel, by decide +kernel⟩
  obtain ⟨fr, rfl, hf1, hf2⟩ := hfr
  have kpA : Kp a b H H1 := (Kp.same sp).trans kp1
  refine ⟨Nat.zero_le _, fun fo nfo => ?_⟩
  have s2 := same_upd (o := .lst []) nfo
  have g2 := upd_same (H := H1) (a := fo) (o := HO.lst [])
  obtain ⟨foa, fob⟩ := hx1.fresh nfo
  have hx2 := hx1.same s2
  have kpB := kpA.trans (Kp.same s2)
  have nfoH := kpA.free hx1 nfo
  generalize upd H1 fo (.lst []) = H2 at s2 g2 hx2 kpB ⊢
  refine ⟨_, _, _, rfl, ?_⟩
  refine ⟨_, rfl, _, rfl, by omega, by omega, ?_⟩
  rw [Int.toNat_natCast]
  -- what stands behind the loop
  refine for_range (lo := 0) (n := m) (fun i σ H' => ∃ v5, σ = [some (.ref a), some (.int (m : Int)), some (.str "abcdefghijklmnopqrstuvwxyz"), some (.str fr), some (.ref fo), v5] ∧ Kp a b H H' ∧ HxA H' a b ∧ H' fo = some (.lst ((bNm fr i).map V.str)))
    ⟨none, rfl, kpB, hx2, g2⟩ (fun i σ H' hi ⟨v5, e, kp, hx', hfo⟩ => ?_) (fun σ H' ⟨v5, e, kp, hx', hfo⟩ => ?_)
  · subst e
    have hi12 : i < 12 := by omega
    refine ⟨_, rfl, .inl ⟨rfl, _, .of hfo⟩, _, rfl, _, rfl, _, rfl, _, _, rfl, rfl, .inr ⟨by omega, by omega⟩, _, _, rfl, rfl, .inl ⟨_, rfl, _, _, rfl, rfl, (by show (0 : Int) < 26; decide), ?_⟩⟩
    have e1 : (7 * (0 + (i : Int)) + 3) % 26 = (((7 * i + 3) % 26 : Nat) : Int) := by omega
    have e2 : atI (Str.ofString "abcdefghijklmnopqrstuvwxyz").cps.toList ((7 * (0 + (i : Int)) + 3) % 26) = some (97 + (7 * i + 3) % 26) := by
      rw [show (Str.ofString "abcdefghijklmnopqrstuvwxyz").cps.toList = letL from tl_letters, e1]
      exact atI_nat (letL_at (Nat.mod_lt _ (by decide)))
    refine ⟨_, _, _, rfl, rfl, by decide +kernel, e2, _, _, rfl, rfl, small' (by show fr.length + 1 ≤ 100000; omega), ?_⟩
    refine ⟨fo, _, _, rfl, rfl, hfo, small (by unfold bNm; rw [List.length_map, List.length_map, List.length_range]; omega), ?_⟩
    refine ⟨_, rfl, kp.put nfoH, hx'.put foa fob, ?_⟩
    rw [upd_same]
    unfold bNm
    rw [List.range_succ, List.map_append, List.map_append]
    rfl
  · subst e
    have hblen : ∀ xs : List Str, ((xs.map V.str).length : Nat) = xs.length := fun xs => List.length_map _
    obtain ⟨hB, hBl⟩ := base_ok hf1 hf2 hm2
    have hBm : (bNm fr m).length = m := by unfold bNm; rw [List.length_map, List.length_range]
    -- from the draw of the place on
    have tail : ∀ (H3 : Hp) (xs : List Str) (v5 : Option V), NmOk xs → xs.length = m → Kp a b H H3 → HxA H3 a b → H3 fo = some (.lst (xs.map V.str)) →
        (tSeq (tAsg (tCall (sp2 p_draw) [] E0 (tCons (tVar 0) (tCons (tVar 1) tNil))) (gName 5))
        (tSeq (tAsg (tOp (fun x y H Q => ∃ i j, x = .str i ∧ y = .str j ∧ i.length + j.length ≤ sizeLine ∧ Q (.str (i ++ j)) H) (tOp (rIxL K) (tVar 4) (tVar 5)) (tOp (fun x y H Q => ∃ (z : Str) (i : Int), x = .str z ∧ y = .int i ∧ z.length ≤ 16 ∧ -(2 ^ 63) ≤ i ∧ i ≤ 1048576 ∧ Q (.str (PySem.Txt.mul z i)) H) (tC (.str "o"))
            (tCB (fun xs H Q => (∃ i, xs = [.int i] ∧ Q (.int i) H) ∨ ∃ k, xs = [.bl k] ∧ Q (.int (if k then 1 else 0)) H) (tCons (tAndV (tOp (rI0 fun i j => .bl (decide (i < j))) (tCB (fun xs H Q => ∃ z, xs = [.str z] ∧ z.length ≤ sizeLine ∧ Q (.int z.length) H) (tCons (tOp (rIxL K) (tVar 4) (tVar 5)) tNil)) (tC (.int 6))) (tOp rEq (tCall (sp2 p_draw) [] E0 (tCons (tVar 0) (tCons (tC (.int 2)) tNil))) (tC (.int 0)))) tNil))))
          (gSub (tVar 4) (tVar 5) rSetL))
        (tRet (tCB (fun xs H Q => ∃ p ys, xs = [.ref p] ∧ SqL K H p ys ∧ ∀ l o, H l = none → o.cls = .type "tuple" → o.dict = none → Q (.ref l) (upd H l (.frz o (.tup ys)))) (tCons (tCB (rSortedS K) (tCons (tVar 4) tNil)) tNil)))))
        { nx := fun _ H' => Q .non H', rt := Q } [some (.ref a), some (.int (m : Int)), some (.str "abcdefghijklmnopqrstuvwxyz"), some (.str fr), some (.ref fo), v5] H3 := fun H3 xs v5 hN hxl kp3 hx3 hfo3 => by
      refine ⟨_, rfl, _, rfl, _, _, rfl, a, b, _, rfl, rfl, by omega, by omega, hx3, fun H4 k hk hx4 kp4 => ?_⟩
      have hfo4 := kp4 _ _ hfo3 foa fob
      have hkx : k < xs.length := by omega
      have hxk : xs[k]? = some xs[k] := List.getElem?_eq_getElem hkx
      have hxl6 := name_len (hN.nm _ (List.getElem_mem hkx))
      have hat : atI (xs.map V.str) (k : Int) = some (.str xs[k]) := atI_nat (by rw [List.getElem?_map, hxk]; rfl)
      have hix : ixN (xs.map V.str).length (k : Int) = some k := by
        unfold ixN
        rw [if_pos (by omega), if_pos (by rw [List.length_map]; omega)]
        rfl
      -- the sorted tuple
      have fin : ∀ (H5 : Hp) (zs : List Str), (∀ z ∈ zs, isName z = true) → zs.Nodup → zs.length = m → Kp a b H H5 → HxA H5 a b → H5 fo = some (.lst (zs.map V.str)) →
          (tRet (tCB (fun xs H Q => ∃ p ys, xs = [.ref p] ∧ SqL K H p ys ∧ ∀ l o, H l = none → o.cls = .type "tuple" → o.dict = none → Q (.ref l) (upd H l (.frz o (.tup ys)))) (tCons (tCB (rSortedS K) (tCons (tVar 4) tNil)) tNil)))
          { nx := fun _ H' => Q .non H', rt := Q } [some (.ref a), some (.int (m : Int)), some (.str "abcdefghijklmnopqrstuvwxyz"), some (.str fr), some (.ref fo), some (.int (k : Int))] H5 := fun H5 zs z1 z2 z3 kp5 hx5 hfo5 => by
        refine ⟨_, rfl, fo, zs, rfl, .of hfo5, by omega, fun ks sl hperm hsort nsl => ?_⟩
        have s6 := same_upd (o := .lst (ks.map V.str)) nsl
        refine ⟨sl, _, rfl, .of upd_same, fun kA o nkA o1 o2 => ?_⟩
        have s7 := s6.trans (same_upd (o := .frz o (.tup (ks.map V.str))) nkA)
        exact q _ kA ks (hx5.same s7) (kp5.trans (Kp.same s7)) ⟨o, o1, o2, upd_same⟩ (sorted_lt hperm hsort z2) (fun k hk => z1 k (hperm.mem_iff.mp hk)) (by rw [hperm.length_eq]; exact z3)
      refine ⟨_, rfl, _, rfl, fo, _, _, _, rfl, rfl, .of hfo4, hat, _, rfl, _, rfl, fo, _, _, _, rfl, rfl, .of hfo4, hat, _, rfl, small' (by omega), _, _, rfl, rfl, _, rfl, ?_⟩
      -- nothing is added
      have no : ∀ H5, Kp a b H H5 → HxA H5 a b → H5 fo = some (.lst (xs.map V.str)) → xs.set k (xs[k] ++ Str.ofString "") = xs := fun H5 _ _ _ => by
        rw [app_emp]
        exact List.set_getElem_self hkx
      by_cases h6 : xs[k].length < 6
      · rw [decide_eq_true (show ((xs[k].length : Nat) : Int) < 6 by omega)]
        refine iteT ⟨_, rfl, _, _, rfl, a, b, 2, rfl, rfl, by decide, by decide, hx4, fun H5 j hj hx5 kp5 => ⟨rfl, .inr ⟨_, rfl, ?_⟩⟩⟩
        have hfo5 := kp5 _ _ hfo4 foa fob
        have kp35 := (kp3.trans kp4).trans kp5
        by_cases hj0 : j = 0
        · rw [decide_eq_true (show V.int (j : Int) = V.int 0 by rw [hj0]; rfl)]
          obtain ⟨z1, z2⟩ := add_o hN hxk h6
          refine ⟨_, _, rfl, rfl, by decide, by decide, by decide, ?_⟩
          refine ⟨_, _, rfl, rfl, ?_, ?_⟩
          · rw [if_pos rfl, mul_o1]
            exact small' (by show xs[k].length + 1 ≤ 100000; omega)
          rw [if_pos rfl, mul_o1]
          refine ⟨_, rfl, _, rfl, fo, _, _, k, rfl, rfl, hfo5, hix, ?_⟩
          refine fin _ (xs.set k (xs[k] ++ "o")) z1 z2 (by rw [List.length_set]; exact hxl) (kp35.put nfoH) (hx5.put foa fob) ?_
          rw [upd_same, List.map_set]
        · rw [decide_eq_false (fun z => hj0 (by have := V.int.inj z; omega))]
          refine ⟨_, _, rfl, rfl, by decide, by decide, by decide, ?_⟩
          refine ⟨_, _, rfl, rfl, ?_, ?_⟩
          · rw [if_neg Bool.false_ne_true, mul_o0]
            exact small' (by show xs[k].length + 0 ≤ 100000; omega)
          rw [if_neg Bool.false_ne_true, mul_o0]
          refine ⟨_, rfl, _, rfl, fo, _, _, k, rfl, rfl, hfo5, hix, ?_⟩
          refine fin _ xs hN.nm hN.nd hxl (kp35.put nfoH) (hx5.put foa fob) ?_
          rw [upd_same, ← List.map_set, no H5 kp35 hx5 hfo5]
      · rw [decide_eq_false (show ¬ ((xs[k].length : Nat) : Int) < 6 by omega)]
        refine iteF (.inr ⟨_, rfl, ?_⟩)
        have kp34 := kp3.trans kp4
        refine ⟨_, _, rfl, rfl, by decide, by decide, by decide, ?_⟩
        refine ⟨_, _, rfl, rfl, ?_, ?_⟩
        · rw [if_neg Bool.false_ne_true, mul_o0]
          exact small' (by show xs[k].length + 0 ≤ 100000; omega)
        rw [if_neg Bool.false_ne_true, mul_o0]
        refine ⟨_, rfl, _, rfl, fo, _, _, k, rfl, rfl, hfo4, hix, ?_⟩
        refine fin _ xs hN.nm hN.nd hxl (kp34.put nfoH) (hx4.put foa fob) ?_
        rw [upd_same, ← List.map_set, no H4 kp34 hx4 hfo4]
    refine ⟨_, rfl, rfl, _, rfl, ?_⟩
    refine ite2 (fun hfr => ?_) (fun _ => tail H' _ _ hB hBm kp hx' hfo)
    have hfr' : fr = "" := V.str.inj (of_decide_eq_true hfr)
    refine ⟨_, rfl, _, _, rfl, rfl, _, rfl, ite2 (fun h11 => ?_) (fun _ => tail H' _ _ hB hBm kp hx' hfo)⟩
    refine ⟨_, rfl, _, _, rfl, a, b, 2, rfl, rfl, by decide, by decide, hx', fun H3 j hj hx3 kp3 => ⟨rfl, _, rfl, ite2 (fun _ => ?_) (fun _ => tail H3 _ _ hB hBm (kp.trans kp3) hx3 (kp3 _ _ hfo foa fob))⟩⟩
    have hfo3 := kp3 _ _ hfo foa fob
    refine ⟨_, rfl, (by show 2 ≤ sizeLine; decide), fun l2 n2 => ?_⟩
    have s3 := same_upd (o := .lst [.str "total", .str "kinds"]) n2
    obtain ⟨l2a, l2b⟩ := hx3.fresh n2
    refine ⟨_, _, rfl, a, b, l2, _, rfl, rfl, hx3.same s3, upd_same, l2a, l2b, by simp, by show 2 ≤ 1000; decide, fun H4 y hy hx4 kp4 => ?_⟩
    have hz : ∃ z : Str, y = .str z ∧ z.length = 5 ∧ isName z = true := by
      simp only [List.mem_cons, List.not_mem_nil, or_false] at hy
      rcases hy with rfl | rfl
      · exact ⟨_, rfl, by decide +kernel, by decide +kernel⟩
      · exact ⟨_, rfl, by decide +kernel, by decide +kernel⟩
    obtain ⟨z, rfl, hz1, hz2⟩ := hz
    have hfo4 := kp4 _ _ (s3 _ _ hfo3) foa fob
    have hN := set_first (m := m) hm2 hz1 hz2
    rw [← hfr'] at hN
    refine ⟨_, rfl, fo, _, _, 0, rfl, rfl, hfo4, ?_, ?_⟩
    · unfold ixN
      rw [if_pos (by decide), if_pos (by rw [List.length_map, hBm]; omega)]
      rfl
    · refine tail _ ((bNm fr m).set 0 z) _ hN (by rw [List.length_set]; exact hBm) (((kp.trans kp3).trans ((Kp.same s3).trans kp4)).put nfoH) (hx4.put foa fob) ?_
      rw [upd_same, List.map_set]
end
end K7
/-! ## K7L10 -/
set_option Elab.async false
set_option linter.all false
set_option maxRecDepth 100000
set_option maxHeartbeats 4000000
namespace K7
open PySem PySem.Spec PyProof.Rows L2
/-- a row of totals -/
def RowR (a b R : Addr) (H : Hp) (r : V) (ns : List Nat) : Prop := ∃ q, r = .ref q ∧ H q = some (.lst (natV ns)) ∧ q ≠ a ∧ q ≠ b ∧ q ≠ R ∧ ns.length ≤ 12
theorem RowR.keep {a b R : Addr} {H H' : Hp} {r : V} {ns : List Nat} (h : RowR a b R H r ns) (k : Kp a b H H') : RowR a b R H' r ns := let ⟨q, e, u, x, y, z⟩ := h; ⟨q, e, k _ _ u x y, x, y, z⟩
structure RwsA (a b R : Addr) (H : Hp) (vs : List V) (nss : List (List Nat)) : Prop where
  ha : R ≠ a
  hb : R ≠ b
  h : H R = some (.lst vs)
  al : All2 (RowR a b R H) vs nss
theorem RwsA.keep {a b R : Addr} {H H' : Hp} {vs : List V} {nss : List (List Nat)} (f : RwsA a b R H vs nss) (k : Kp a b H H') : RwsA a b R H' vs nss := ⟨f.ha, f.hb, k _ _ f.h f.ha f.hb, f.al.mono fun _ _ q => q.keep k⟩
theorem RwsA.put {a b R : Addr} {H : Hp} {vs : List V} {nss : List (List Nat)} (f : RwsA a b R H vs nss) {r : V} {ns : List Nat} (h : RowR a b R H r ns) : RwsA a b R (upd H R (.lst (vs ++ [r]))) (vs ++ [r]) (nss ++ [ns]) := by
  refine ⟨f.ha, f.hb, upd_same, (f.al.mono fun r ns ⟨q, e, u, x, y, z⟩ => ⟨q, e, by rw [upd_ne z.1]; exact u, x, y, z⟩).snoc ?_⟩
  obtain ⟨q, e, u, x, y, z⟩ := h
  exact ⟨q, e, by rw [upd_ne z.1]; exact u, x, y, z⟩
def natD (ns : List Nat) : PyData := .list (ns.map fun n : Nat => PyData.int (n : Int))
theorem dp_nat {K : PySem.W.Frag} {H : Hp} {q : Addr} {ns : List Nat} (h : H q = some (.lst (natV ns))) : Dp K H (.ref q) (natD ns) := by
  have := dp_ints (K := K) (H := H) (a := q) (ns := ns.map fun n : Nat => (n : Int)) (by rw [List.map_map]; exact h)
  rw [List.map_map] at this
  exact this
theorem lay_nat (ns : List Nat) : PyData.canLay0 (natD ns) = true ∧ PyData.depth (natD ns) = 1 := by
  have h1 := lay_ints (ns.map fun n : Nat => (n : Int))
  rw [List.map_map] at h1
  unfold natD
  rw [PyData.canLay0, PyData.depth]
  exact ⟨h1.1, by show PyData.depthAll (ns.map (PyData.int ∘ fun n : Nat => (n : Int))) + 1 = 1; rw [h1.2]⟩
theorem lay_rows : ∀ nss : List (List Nat), PyData.canLayAll0 (nss.map natD) = true ∧ PyData.depthAll (nss.map natD) ≤ 1
  | [] => ⟨rfl, Nat.zero_le _⟩
  | ns :: nss => by
    obtain ⟨h1, h2⟩ := lay_rows nss
    obtain ⟨h3, h4⟩ := lay_nat ns
    refine ⟨?_, ?_⟩
    · rw [List.map_cons, PyData.canLayAll0, h1, h3]
      rfl
    · rw [List.map_cons, PyData.depthAll, h4]
      exact Nat.max_le.mpr ⟨Nat.le_refl _, h2⟩
theorem shaped_rows (nss : List (List Nat)) : SeqAt.shaped (.list (nss.map natD)) = true := by
  unfold SeqAt.shaped
  obtain ⟨h1, h2⟩ := lay_rows nss
  have e1 : PyData.canLay0 (.list (nss.map natD)) = true := by
    rw [PyData.canLay0]
    exact h1
  have e2 : PyData.depth (.list (nss.map natD)) ≤ 64 := by
    rw [PyData.depth]
    omega
  rw [e1, decide_eq_true e2]
  rfl
theorem dp_rows {K : PySem.W.Frag} {a b R : Addr} {H : Hp} {vs : List V} {nss : List (List Nat)} (f : RwsA a b R H vs nss) : Dp K H (.ref R) (.list (nss.map natD)) := by
  refine .lst (.of f.h) ?_
  have : ∀ (vs : List V) (nss : List (List Nat)), All2 (RowR a b R H) vs nss → DpAll K H vs (nss.map natD) := by
    intro vs
    induction vs with
    | nil =>
      intro nss h
      cases nss with
      | nil => exact .nil
      | cons _ _ => exact absurd h.1 (by simp)
    | cons v vs ih =>
      intro nss h
      cases nss with
      | nil => exact absurd h.1 (by simp)
      | cons ns nss =>
        obtain ⟨⟨q, e, u, _⟩, h2⟩ := h.uncons
        subst e
        exact .cons (dp_nat u) (ih nss h2)
  exact this _ _ f.al
theorem eqv_nil_rows (nss : List (List Nat)) : PyData.eqv (.list (nss.map natD)) (.list []) = decide (nss = []) := by
  cases nss with
  | nil => rfl
  | cons n ns =>
    rw [PyData.eqv]
    rfl
theorem All2.set {α β : Type} {R : α → β → Prop} {xs : List α} {ys : List β} (h : All2 R xs ys) {i : Nat} {x : α} {y : β} (r : R x y) : All2 R (xs.set i x) (ys.set i y) := by
  refine ⟨by rw [List.length_set, List.length_set, h.1], fun j a c ha hc => ?_⟩
  rw [List.getElem?_set] at ha hc
  by_cases hj : i = j
  · subst hj
    rw [if_pos rfl] at ha hc
    split at ha
    · split at hc
      · cases ha
        cases hc
        exact r
      · cases hc
    · cases ha
  · rw [if_neg hj] at ha hc
    exact h.2 j a c ha hc
section
variable {P : Program} {w : World} {K : PySem.W.Frag} {mg : Str → Option Value} {base : Heap}
def TotsOk (kn : Nat) (ts : List (List Nat)) : Prop := ∀ t ∈ ts, t.Pairwise (· < ·) ∧ ∀ n ∈ t, n < kn
def p_totals (v x y : V) (H : Hp) (Q : VK) : Prop := ∃ (a b : Addr) (kn m : Nat), v = .ref a ∧ x = .int (kn : Int) ∧ y = .int (m : Int) ∧ kn ≤ 12 ∧ m ≤ 12 ∧ HxA H a b ∧ ∀ (H' : Hp) (tA : Addr) (rs : List V) (ts : List (List Nat)), HxA H' a b → Kp a b H H' → H' tA = some (.tup rs) → All2 (TotAt H') rs ts → ts.length = m → TotsOk kn ts → Q (.ref tA) H'
theorem sc_totals : FnScope ["_law_heap_here", "_law_kinds", "_law_many", "_law_share", "_law_rows", "_law_kind", "_law_row", "_law_turn", "_law_found", "_law_at"] ["_law_heap_here", "_law_kinds", "_law_many"] (defScope s_L_totals) := ⟨rfl, rfl, rfl, by decide +kernel, rfl, by decide +kernel, by decide +kernel⟩
theorem ok_totals (T : Txt K mg) : Cal P w K mg base "_law_totals" 3 ["_law_heap_here", "_law_kinds", "_law_many"] (sp3 p_totals) := by
  have G := (ok_draw (P := P) (w := w) (base := base) T).mono (show 1 ≤ 2 by decide)
  have GP := ok_pick (P := P) (w := w) (base := base) T
  refine T.f_L_totals.cal sc_totals (fun _ _ _ _ _ _ us hl => match us, hl with | [_, _, _], _ => rfl) len3 fun f cdv A outer s0 H vs Q E hr h => ?_
  obtain ⟨_, _, _, rfl, a, b, kn, m, rfl, rfl, rfl, hkn, hm, hx, q⟩ := h
  have nd := sc_totals.nd
  refine ⟨_, pss_cons (ps_asg (pe_tup (pa_cons (pe_cal GP hr (by rfl) (pa_cons (pv 0) (pa_cons (pe_lst (pa_cons pe_int (pa_cons pe_int (pa_cons pe_int (pa_cons pe_int pa_nil))))) pa_nil))) (pa_cons (pe_lst pa_nil) pa_nil))) (pg_tup rfl (pgs_cons (pg_name (i := 3) nd rfl (.inr rfl)) (pgs_cons (pg_name (i := 4) nd rfl (.inr rfl)) pgs_nil))))
    (pss_cons (ps_for PassesOwn.never rfl (pi_range1 (by rfl) T.z_range (pa_cons (pv 1) pa_nil)) (pg_name (i := 5) nd rfl (.inl rfl))
      (pss_cons (ps_setLc (i := 6) (own := [("_law_at", 9)]) (g := gName 9) (tt := tTest (tOp rEq (tCall (sp2 p_draw) [] E0 (tCons (tVar 0) (tCons (tVar 3) tNil))) (tC (.int 0)))) (te := tVar 9) rfl nd rfl rfl (sw_true rfl rfl rfl (by decide +kernel)) (pi_range1 (by rfl) T.z_range (pa_cons (pv 2) pa_nil)) (blkOk_by (N := ["_law_heap_here", "_law_kinds", "_law_many", "_law_share", "_law_rows", "_law_kind", "_law_row", "_law_turn", "_law_found", "_law_at"]) (sc := defScope s_L_totals) (by decide +kernel))
        (fun _ _ _ _ _ => pg_name (i := 9) nd rfl (Or.inl rfl)) (fun _ _ _ _ _ => pts_one (pt_cmpR op_eq (pe_cal G hr (by rfl) (pa_cons (pv 0) (pa_cons (pv 3) pa_nil))) pe_int (nomark _))) (fun _ _ _ _ _ => pv 9))
      (pss_cons (ps_set (i := 7) nd rfl (.inl rfl) (pe_cal G hr (by rfl) (pa_cons (pv 0) (pa_cons pe_int pa_nil))))
      (pss_one (ps_expr (pe_bm PySem.F.plainAttrs_list PySem.F.slot_list_append PySem.F.type_list_append mt_append (pv 4) (pa_cons
        (pe_ifExp (PW.pt (pw_and (pt_cmpR (op_neD hr.units) (pv 4) (pe_lst pa_nil) (nomark _)) (pw_and1 (pt_cmpR op_eq (pv 7) pe_int (nomark _)))))
          (pe_ix ix_list (pv 4) (pe_cal G hr (by rfl) (pa_cons (pv 0) (pa_cons (pe_callB call_len_seq (by rfl) T.z_len b_len (pa_cons (pv 4) pa_nil)) pa_nil))) (fun _ _ => rfl))
          (pe_ifExp (PW.pt (pw_and (pt_cmpR op_eq (pv 7) pe_int (nomark _)) (pw_and1 (pt_cmpR op_eq (pe_cal G hr (by rfl) (pa_cons (pv 0) (pa_cons pe_int pa_nil))) pe_int (nomark _))))) (pe_lst pa_nil) (pv 6))) pa_nil)))))))
    (pss_cons (ps_setLc (i := 8) (own := [("_law_at", 9)]) (g := gName 9) (tt := tYes) rfl nd rfl rfl (sw_true rfl rfl rfl (by decide +kernel)) (pi_range1 (by rfl) T.z_range (pa_cons (pv 2) pa_nil)) (blkOk_by (N := ["_law_heap_here", "_law_kinds", "_law_many", "_law_share", "_law_rows", "_law_kind", "_law_row", "_law_turn", "_law_found", "_law_at"]) (sc := defScope s_L_totals) (by decide +kernel))
        (fun _ _ _ _ _ => pg_name (i := 9) nd rfl (Or.inr rfl)) (fun _ _ _ _ _ => pts_nil)
        (fun _ _ _ _ _ => pe_callTy (r := rTupOf K) call_tupleK (by rfl) T.z_tuple b_tuple (pa_cons
          (pe_lc (own := [("_law_kind", 5)]) (wi := iRng1 (tCons (tVar 1) tNil)) (te := tVar 5) (g := gName 5) (tt := tTest (tOp (rIn K false) (tVar 9) (tOp (rIxL K) (tVar 4) (tVar 5)))) rfl nd (pi_range1 (by rfl) T.z_range (pa_cons (pv 1) pa_nil))
            (blkOk_by (N := ["_law_heap_here", "_law_kinds", "_law_many", "_law_share", "_law_rows", "_law_kind", "_law_row", "_law_turn", "_law_found", "_law_at"]) (sc := relS (lcSc (asgE ((defBody s_L_totals).getD 2 (.Pass ⟨0, 0, 0, 0⟩)))) (defScope s_L_totals)) (by decide +kernel))
            (fun _ _ _ _ _ => pg_name (i := 5) nd rfl (Or.inl rfl)) (fun _ _ _ _ _ => pts_one (pt_cmpR (r := rIn K false) op_in_seq (pv 9) (pe_ix (r := rIxL K) ix_list (pv 4) (pv 5) (fun _ _ => rfl)) (by rfl))) (fun _ _ _ _ _ => pv 5)) pa_nil)))
    (pss_cons (ps_for PassesOwn.never rfl (pi_range1 (by rfl) T.z_range (pa_cons (pv 2) pa_nil)) (pg_name (i := 9) nd rfl (.inl rfl))
      (pss_one (ps_asg (pe_ifExp (pt_cmpR op_eq (pe_cal G hr (by rfl) (pa_cons (pv 0) (pa_cons pe_int pa_nil))) pe_int (nomark _)) (pe_ix ix_list (pv 8) (pe_cal G hr (by rfl) (pa_cons (pv 0) (pa_cons (pv 2) pa_nil))) (fun _ _ => rfl)) (pe_ix ix_list (pv 8) (pv 9) (fun _ _ => rfl))) (pg_sub (pv 8) (pv 9) set_list))))
    (pss_one (ps_ret (pe_callTy call_tuple_of (by rfl) T.z_tuple b_tuple (pa_cons (pv 8) pa_nil))))))), ?_⟩
  refine ⟨_, rfl, (by show 4 ≤ sizeLine; decide), fun pl npl => ?_⟩
  have sp := same_upd (o := .lst [.int 2, .int 2, .int 3, .int 4]) npl
  obtain ⟨pla, plb⟩ := hx.fresh npl
  refine ⟨_, _, rfl, a, b, pl, _, rfl, rfl, hx.same sp, upd_same, pla, plb, by simp, by show 4 ≤ 1000; decide, fun H1 y hy hx1 kp1 => ?_⟩
  have hsh : ∃ sh : Nat, y = .int (sh : Int) ∧ 0 < sh ∧ sh ≤ 4 := by
    simp only [List.mem_cons, List.not_mem_nil, or_false] at hy
    rcases hy with rfl | rfl | rfl | rfl
    · exact ⟨2, rfl, by decide, by decide⟩
    · exact ⟨2, rfl, by decide, by decide⟩
    · exact ⟨3, rfl, by decide, by decide⟩
    · exact ⟨4, rfl, by decide, by decide⟩
  obtain ⟨sh, rfl, sh1, sh2⟩ := hsh
  have kpA : Kp a b H H1 := (Kp.same sp).trans kp1
  refine ⟨Nat.zero_le _, fun R nR => ⟨(by show 2 ≤ sizeLine; decide), fun tp ntp => ?_⟩⟩
  have s2 := same_upd (o := .lst []) nR
  have s3 := s2.trans (same_upd (o := .tup [.int (sh : Int), .ref R]) ntp)
  have gR := same_upd (o := .tup [.int (sh : Int), .ref R]) ntp R _ upd_same
  obtain ⟨Ra, Rb⟩ := hx1.fresh nR
  have hx3 := hx1.same s3
  have kpB := kpA.trans (Kp.same s3)
  have nRH := kpA.free hx1 nR
  have gt := upd_same (H := upd H1 R (.lst [])) (a := tp) (o := .tup [.int (sh : Int), .ref R])
  generalize upd (upd H1 R (.lst [])) tp (.tup [.int (sh : Int), .ref R]) = H3 at s3 gR hx3 kpB gt ⊢
  refine ⟨tp, _, rfl, .of gt, rfl, _, _, rfl, _, _, rfl, rfl, ?_⟩
  refine ⟨_, rfl, _, rfl, by omega, by omega, ?_⟩
  rw [Int.toNat_natCast]
  have f3 : RwsA a b R H3 [] [] := ⟨Ra, Rb, gR, All2.nil⟩
  refine for_range (lo := 0) (n := kn) (fun i σ H' => ∃ v5 v6 v7 vs nss, σ = [some (.ref a), some (.int (kn : Int)), some (.int (m : Int)), some (.int (sh : Int)), some (.ref R), v5, v6, v7, none, none] ∧ HxA H' a b ∧ Kp a b H H' ∧ RwsA a b R H' vs nss ∧ nss.length = i)
    ⟨none, none, none, [], [], rfl, hx3, kpB, f3, rfl⟩ (fun i σ H1 hi ⟨v5, v6, v7, vs, nss, e, hx', kp, fR, hni⟩ => ?_) (fun σ H1 ⟨v5, v6, v7, vs, nss, e, hx', kp, fR, hni⟩ => ?_)
  · subst e
    have hvl : vs.length = i := by rw [fR.al.1]; exact hni
    refine ⟨_, rfl, _, rfl, by omega, by omega, ?_⟩
    rw [Int.toNat_natCast]
    refine fun D nD => ?_
    obtain ⟨Da, Db⟩ := hx'.fresh nD
    have DR : D ≠ R := fun z => by rw [z, fR.h] at nD; cases nD
    refine lc_gen (xs := rangeV m) walk_rangeV (fun j ys H' => HxA H' a b ∧ Kp a b H1 H' ∧ ∃ ns : List Nat, ys = natV ns ∧ ns.length ≤ j) ⟨hx'.same (same_upd nD), Kp.same (same_upd nD), [], rfl, Nat.le_refl _⟩ (fun _ _ _ _ _ => trivial) (fun j ys H' hj e => ?_) (fun j x ys H' N hxj e eD st1 st0 => ?_) (fun ys H' e eD => ?_)
    · obtain ⟨_, _, ns, rfl, h⟩ := e
      rw [rangeV_len] at hj
      unfold natV
      rw [List.length_map]
      omega
    · obtain ⟨hxD, kpD, ns, rfl, hns⟩ := e
      have hj : j < m := by
        have := (List.getElem?_eq_some_iff.mp hxj).1
        rw [rangeV_len] at this
        exact this
      rw [rangeV_at hj] at hxj
      cases hxj
      refine ⟨rfl, ?_⟩
      refine ⟨_, rfl, _, rfl, _, _, rfl, a, b, _, rfl, rfl, by omega, by omega, hxD, fun H5 k hk hx5 kp5 => ⟨rfl, _, rfl, ite2 (fun _ => ?_) (fun _ => ?_)⟩⟩
      · have eD5 := kp5 _ _ eD Da Db
        refine ⟨_, rfl, st1 H5 _ eD5 ⟨hx5.put Da Db, (kpD.trans kp5).put nD, ns ++ [j], ?_, ?_⟩⟩
        · unfold natV
          rw [List.map_append]
          rfl
        · rw [List.length_append]
          exact Nat.add_le_add_right hns 1
      · have eD5 := kp5 _ _ eD Da Db
        exact st0 H5 eD5 ⟨hx5, kpD.trans kp5, ns, rfl, by omega⟩
    · rw [rangeV_len] at e
      obtain ⟨hxD, kpD, ns, rfl, hns⟩ := e
      -- turn = draw
      refine ⟨_, rfl, _, _, rfl, a, b, 4, rfl, rfl, by decide, by decide, hxD, fun H5 k hk hx5 kp5 => ?_⟩
      have kp15 := kpD.trans kp5
      have rowD : RowR a b R H5 (.ref D) ns := ⟨D, rfl, kp5 _ _ eD Da Db, Da, Db, DR, by omega⟩
      have fR5 := fR.keep kp15
      -- the append
      have fin : ∀ (H6 : Hp) (v : V) (ns' : List Nat), HxA H6 a b → Kp a b H5 H6 → RowR a b R H6 v ns' → rAppend (.ref R) [v] H6 fun _ H7 =>
          ∃ v5 v6 v7 vs nss, [some (V.ref a), some (V.int (kn : Int)), some (V.int (m : Int)), some (V.int (sh : Int)), some (V.ref R), some (V.int (0 + (i : Int))), some (V.ref D), some (V.int (k : Int)), none, none] = [some (.ref a), some (.int (kn : Int)), some (.int (m : Int)), some (.int (sh : Int)), some (.ref R), v5, v6, v7, none, none] ∧ HxA H7 a b ∧ Kp a b H H7 ∧ RwsA a b R H7 vs nss ∧ nss.length = i + 1 := fun H6 v ns' hx6 kp6 hrow => by
        have f6 := fR5.keep kp6
        exact ⟨R, vs, v, rfl, rfl, f6.h, small (by omega), _, _, _, vs ++ [v], nss ++ [ns'], rfl, hx6.put Ra Rb, (kp.trans (kp15.trans kp6)).put nRH, f6.put hrow, by rw [List.length_append, hni]; rfl⟩
      have els : ∀ H6 : Hp, HxA H6 a b → Kp a b H5 H6 → (tIf (tAnd (tTest (tOp rEq (tVar 7) (tC (.int 1)))) (tTest (tOp rEq (tCall (sp2 p_draw) [] E0 (tCons (tVar 0) (tCons (tC (.int 3)) tNil))) (tC (.int 0))))) (tLst tNil) (tVar 6))
          [some (V.ref a), some (V.int (kn : Int)), some (V.int (m : Int)), some (V.int (sh : Int)), some (V.ref R), some (V.int (0 + (i : Int))), some (V.ref D), some (V.int (k : Int)), none, none] H6 fun v H7 => rAppend (.ref R) [v] H7 fun _ H8 =>
          ∃ v5 v6 v7 vs nss, [some (V.ref a), some (V.int (kn : Int)), some (V.int (m : Int)), some (V.int (sh : Int)), some (V.ref R), some (V.int (0 + (i : Int))), some (V.ref D), some (V.int (k : Int)), none, none] = [some (.ref a), some (.int (kn : Int)), some (.int (m : Int)), some (.int (sh : Int)), some (.ref R), v5, v6, v7, none, none] ∧ HxA H8 a b ∧ Kp a b H H8 ∧ RwsA a b R H8 vs nss ∧ nss.length = i + 1 := fun H6 hx6 kp6 => by
        refine ⟨_, rfl, rfl, _, rfl, ite2 (fun _ => ?_) (fun _ => iteF ⟨_, rfl, fin H6 _ ns hx6 kp6 (rowD.keep kp6)⟩)⟩
        refine ⟨_, rfl, _, _, rfl, a, b, 3, rfl, rfl, by decide, by decide, hx6, fun H7 k7 hk7 hx7 kp7 => ⟨rfl, _, rfl, ite2 (fun _ => ?_) (fun _ => ⟨_, rfl, fin H7 _ ns hx7 (kp6.trans kp7) (rowD.keep (kp6.trans kp7))⟩)⟩⟩
        refine ⟨Nat.zero_le _, fun l nl => ?_⟩
        have s8 := same_upd (o := .lst []) nl
        obtain ⟨la, lb⟩ := hx7.fresh nl
        have lR : l ≠ R := fun z => by
          have := (fR5.keep (kp6.trans kp7)).h
          rw [← z, nl] at this
          cases this
        exact fin _ _ [] (hx7.same s8) ((kp6.trans kp7).trans (Kp.same s8)) ⟨l, rfl, upd_same, la, lb, lR, Nat.zero_le _⟩
      refine ⟨_, rfl, .inl ⟨rfl, _, .of fR5.h⟩, ?_⟩
      refine ⟨_, rfl, Nat.zero_le _, fun l nl => ?_⟩
      have s6 := same_upd (o := .lst []) nl
      have f6 := fR5.keep (Kp.same s6)
      refine ⟨.list (nss.map natD), .list [], dp_rows f6, .lst (.of upd_same) .nil, shaped_rows nss, shaped_nil, _, rfl, ?_⟩
      rw [eqv_nil_rows]
      have hx6 := hx5.same s6
      have kp6 : Kp a b H5 _ := Kp.same s6
      generalize upd H5 l (.lst []) = H6 at s6 f6 hx6 kp6 ⊢
      by_cases hz : nss = []
      · rw [decide_eq_true hz]
        exact iteF (iteF (els H6 hx6 kp6))
      · rw [decide_eq_false hz]
        refine iteT ⟨_, rfl, rfl, _, rfl, ite2 (fun _ => ?_) (fun _ => els H6 hx6 kp6)⟩
        have hpos : 0 < vs.length := by
          rw [fR.al.1]
          exact List.length_pos_iff.mpr hz
        refine ⟨_, rfl, _, rfl, _, rfl, R, vs, rfl, .inl (.of f6.h), _, _, rfl, a, b, _, rfl, rfl, by omega, by omega, hx6, fun H7 k7 hk7 hx7 kp7 => ?_⟩
        have f7 := f6.keep kp7
        obtain ⟨v, h1, h2, h3⟩ := atI_some (xs := vs) (k := k7) (by omega)
        obtain ⟨ns', _, hrow⟩ := f7.al.get h2
        exact ⟨R, vs, _, v, rfl, rfl, .of f7.h, h3, fin H7 v ns' hx7 (kp6.trans kp7) hrow⟩
  · subst e
    have hvl : vs.length = kn := by rw [fR.al.1]; exact hni
    refine ⟨_, rfl, _, rfl, by omega, by omega, ?_⟩
    rw [Int.toNat_natCast]
    refine fun F nF => ?_
    obtain ⟨Fa, Fb⟩ := hx'.fresh nF
    refine lc_gen (xs := rangeV m) walk_rangeV (fun j ys H' => Same H1 H' ∧ ∃ ts, All2 (TotAt H') ys ts ∧ TotsOk kn ts ∧ ts.length = j) ⟨same_upd nF, [], All2.nil, (fun t ht => by cases ht), rfl⟩ (fun _ _ _ _ _ => trivial) (fun j ys H' hj e => ?_) (fun j x ys H' N hxj e eD st1 _ => ?_) (fun ys H' e eD => ?_)
    · obtain ⟨_, ts, h1, _, h2⟩ := e
      rw [rangeV_len] at hj
      rw [h1.1]
      omega
    · obtain ⟨sm, ts, h1, h2, h3⟩ := e
      have hj : j < m := by
        have := (List.getElem?_eq_some_iff.mp hxj).1
        rw [rangeV_len] at this
        exact this
      rw [rangeV_at hj] at hxj
      cases hxj
      have fR' := fR.keep (Kp.same sm)
      refine ⟨rfl, ?_⟩
      refine ⟨_, rfl, _, rfl, by omega, by omega, ?_⟩
      rw [Int.toNat_natCast]
      refine fun D nD => ?_
      refine lc_gen (xs := rangeV kn) walk_rangeV (fun c ys H'' => Same H' H'' ∧ ∃ ns : List Nat, ys = natV ns ∧ ns.Pairwise (· < ·) ∧ (∀ n ∈ ns, n < c) ∧ ns.length ≤ c) ⟨same_upd nD, [], rfl, List.Pairwise.nil, (fun n hn => by cases hn), Nat.le_refl _⟩ (fun _ _ _ _ _ => trivial) (fun c ys H'' hc e => ?_) (fun c x ys2 H'' N2 hxc e eD2 sa sb => ?_) (fun ys2 H'' e eD2 => ?_)
      · obtain ⟨_, ns, rfl, _, _, h⟩ := e
        rw [rangeV_len] at hc
        unfold natV
        rw [List.length_map]
        omega
      · obtain ⟨sm2, ns, rfl, n1, n2, n3⟩ := e
        have hc : c < kn := by
          have := (List.getElem?_eq_some_iff.mp hxc).1
          rw [rangeV_len] at this
          exact this
        rw [rangeV_at hc] at hxc
        cases hxc
        have fR2 := fR'.keep (Kp.same sm2)
        obtain ⟨v, k1, k2, k3⟩ := atI_some (xs := vs) (k := c) (by omega)
        obtain ⟨ns', _, q', rfl, hq', _⟩ := fR2.al.get k2
        have hfl : (natV ns').all flatV = true := by
          unfold natV
          rw [List.all_map]
          exact List.all_eq_true.mpr fun _ _ => rfl
        refine ⟨rfl, _, rfl, _, rfl, _, rfl, R, vs, _, _, rfl, rfl, .of fR2.h, k3, q', _, rfl, .inl (.of hq'), rfl, hfl, _, rfl, ite2 (fun _ => ?_) (fun _ => ?_)⟩
        · refine ⟨_, rfl, sa H'' _ eD2 ⟨same_at sm2 nD, ns ++ [c], ?_, ?_, ?_, ?_⟩⟩
          · unfold natV
            rw [List.map_append]
            rfl
          · exact List.pairwise_append.mpr ⟨n1, List.pairwise_singleton _ _, fun x hx y hy => by rw [List.mem_singleton.mp hy]; exact n2 x hx⟩
          · intro n hn
            rcases List.mem_append.mp hn with hn | hn
            · have := n2 n hn
              omega
            · rw [List.mem_singleton.mp hn]
              exact Nat.lt_succ_self _
          · rw [List.length_append]
            exact Nat.add_le_add_right n3 1
        · exact sb H'' eD2 ⟨sm2, ns, rfl, n1, fun n hn => Nat.lt_succ_of_lt (n2 n hn), Nat.le_succ_of_le n3⟩
      · rw [rangeV_len] at e
        obtain ⟨sm2, ns, rfl, n1, n2, n3⟩ := e
        refine ⟨D, _, rfl, .inl ⟨.of eD2, fun tl ntl => ?_⟩⟩
        have s5 := sm2.trans (same_upd (o := .tup (natV ns)) ntl)
        have htl := upd_same (H := H'') (a := tl) (o := .tup (natV ns))
        generalize upd H'' tl (.tup (natV ns)) = H5 at s5 htl ⊢
        have eD5 := s5 _ _ eD
        have hne : tl ≠ F := ne_of htl eD5 (by intro z; cases z)
        refine st1 H5 _ eD5 ⟨same_at (sm.trans s5) nF, ts ++ [ns], ?_, ?_, by rw [List.length_append, h3]; rfl⟩
        · have tk : TupK H5 (upd H5 F (.lst (ys ++ [.ref tl]))) := But.upd.tup eD5 (by intro xs z; cases z)
          exact (h1.mono fun r ns h => (h.keep (TupK.same s5)).keep tk).snoc ⟨tl, rfl, tk _ _ htl⟩
        · intro t ht
          rcases List.mem_append.mp ht with ht | ht
          · exact h2 t ht
          · rw [List.mem_singleton.mp ht]
            exact ⟨n1, n2⟩
    · rw [rangeV_len] at e
      obtain ⟨sm, ts, h1, h2, h3⟩ := e
      have hx2 := hx'.same sm
      have kp2 := kp.trans (Kp.same sm)
      have nFH := kp.free hx' nF
      refine ⟨_, rfl, _, rfl, by omega, by omega, ?_⟩
      rw [Int.toNat_natCast]
      refine for_range (lo := 0) (n := m) (fun i σ H'' => ∃ v9 ys ts, σ = [some (.ref a), some (.int (kn : Int)), some (.int (m : Int)), some (.int (sh : Int)), some (.ref R), v5, v6, v7, some (.ref F), v9] ∧ HxA H'' a b ∧ Kp a b H H'' ∧ H'' F = some (.lst ys) ∧ All2 (TotAt H'') ys ts ∧ TotsOk kn ts ∧ ts.length = m)
        ⟨_, ys, ts, rfl, hx2, kp2, eD, h1, h2, h3⟩ (fun i σ H2 hi ⟨v9, ys, ts, e, hx2, kp2, hF, h1, h2, h3⟩ => ?_) (fun σ H2 ⟨v9, ys, ts, e, hx2, kp2, hF, h1, h2, h3⟩ => ?_)
      · subst e
        have hyl : ys.length = m := by rw [h1.1]; exact h3
        have wr : ∀ (H5 : Hp) (j : Nat), j < m → HxA H5 a b → Kp a b H2 H5 → ∃ v, atI ys (j : Int) = some v ∧ rSetL (.ref F) (.int (0 + (i : Int))) v H5 fun H6 => ∃ v9 ys ts, [some (V.ref a), some (V.int (kn : Int)), some (V.int (m : Int)), some (V.int (sh : Int)), some (V.ref R), v5, v6, v7, some (V.ref F), some (V.int (0 + (i : Int)))] = [some (.ref a), some (.int (kn : Int)), some (.int (m : Int)), some (.int (sh : Int)), some (.ref R), v5, v6, v7, some (.ref F), v9] ∧ HxA H6 a b ∧ Kp a b H H6 ∧ H6 F = some (.lst ys) ∧ All2 (TotAt H6) ys ts ∧ TotsOk kn ts ∧ ts.length = m := fun H5 j hj hx5 kp5 => by
          obtain ⟨v, k1, k2, k3⟩ := atI_some (xs := ys) (k := j) (by omega)
          obtain ⟨t, ht, htot⟩ := h1.get k2
          have hF5 := kp5 _ _ hF Fa Fb
          have tk5 := (kp5.nl hx2).tup
          have tk6 : TupK H5 (upd H5 F (.lst (ys.set i v))) := But.upd.tup hF5 (by intro xs z; cases z)
          refine ⟨v, k3, F, ys, _, i, rfl, rfl, hF5, ?_, ?_⟩
          · unfold ixN
            rw [if_pos (by omega), if_pos (by omega)]
            exact congrArg some (by omega)
          · refine ⟨_, ys.set i v, ts.set i t, rfl, hx5.put Fa Fb, (kp2.trans kp5).put nFH, upd_same, (h1.mono fun r ns h => (h.keep tk5).keep tk6).set ((htot.keep tk5).keep tk6), fun u hu => ?_, by rw [List.length_set]; exact h3⟩
            rcases List.mem_or_eq_of_mem_set hu with hu | rfl
            · exact h2 u hu
            · exact h2 u (List.mem_of_getElem? ht)
        refine ⟨_, rfl, _, _, rfl, a, b, 6, rfl, rfl, by decide, by decide, hx2, fun H5 k hk hx5 kp5 => ⟨rfl, _, rfl, ite2 (fun _ => ?_) (fun _ => ?_)⟩⟩
        · refine ⟨_, rfl, _, rfl, _, rfl, _, _, rfl, a, b, _, rfl, rfl, by omega, by omega, hx5, fun H6 k6 hk6 hx6 kp6 => ?_⟩
          obtain ⟨v, w1, w2⟩ := wr H6 k6 (by omega) hx6 (kp5.trans kp6)
          exact ⟨F, ys, _, v, rfl, rfl, .of ((kp5.trans kp6) _ _ hF Fa Fb), w1, _, rfl, _, rfl, w2⟩
        · obtain ⟨v, w1, w2⟩ := wr H5 i hi hx5 kp5
          refine ⟨_, rfl, _, rfl, F, ys, _, v, rfl, rfl, .of (kp5 _ _ hF Fa Fb), ?_, _, rfl, _, rfl, w2⟩
          rw [Int.zero_add]
          exact w1
      · subst e
        refine ⟨_, rfl, F, ys, rfl, .inl ⟨.of hF, fun tA ntA => ?_⟩⟩
        have s6 := same_upd (o := .tup ys) ntA
        exact q _ tA ys ts (hx2.same s6) (kp2.trans (Kp.same s6)) upd_same (h1.mono fun r ns h => h.keep (TupK.same s6)) h3 h2
end
end K7
/-! ## K7L11 -/
set_option Elab.async false
set_option linter.all false
set_option maxRecDepth 100000
set_option maxHeartbeats 4000000
namespace K7
open PySem PySem.Spec PyProof.Rows L2
theorem cut60 (xs : List Int) : cutV (xs.map V.int) none (some 60) = (xs.take 60).map V.int := by
  unfold cutV
  rw [HT.sIx_none, show (60 : Int) = ((60 : Nat) : Int) from rfl, HT.sIx_nat, List.drop_zero, Nat.sub_zero, List.map_take]
  by_cases h : 60 ≤ (xs.map V.int).length
  · rw [Nat.min_eq_left h]
  · rw [Nat.min_eq_right (by omega), List.take_of_length_le (Nat.le_refl _), List.take_of_length_le (by omega)]
def cellV : V → V
  | .int i => .int (2 * (if i < 0 then -i else i) + (if decide (i < 0) then 1 else 0))
  | _ => .non
theorem cell_map (xs : List Int) : (xs.map V.int).map cellV = (xs.map fun i => 2 * (if i < 0 then -i else i) + (if decide (i < 0) then 1 else 0)).map V.int := by
  rw [List.map_map, List.map_map]
  rfl
section
variable {P : Program} {w : World} {K : PySem.W.Frag} {mg : Str → Option Value} {base : Heap}
def p_heap (K : PySem.W.Frag) (x : V) (H : Hp) (Q : VK) : Prop := ∃ (l : Addr) (xs : List Int), x = .ref l ∧ SqL K H l (xs.map V.int) ∧ ∀ (H' : Hp) (a b : Addr), Same H H' → HxA H' a b → H a = none → H b = none → Q (.ref a) H'
theorem sc_heap : FnScope ["_law_script", "_law_cells", "_law_stir", "_law_cell"] ["_law_script"] (defScope s_L_heap) := ⟨rfl, rfl, rfl, by decide +kernel, rfl, by decide +kernel, by decide +kernel⟩
theorem ok_heap (T : Txt K mg) : Cal P w K mg base "_law_heap" 1 ["_law_script"] (sp1 (p_heap K)) := by
  refine T.f_L_heap.cal sc_heap (fun _ _ _ _ _ _ us hl => match us, hl with | [_], _ => rfl) len1 fun f cdv A outer s0 H vs Q E hr h => ?_
  obtain ⟨_, rfl, l, xs, rfl, hl, q⟩ := h
  have nd := sc_heap.nd
  refine ⟨_, pss_cons (ps_par (i := 1) (j := 2) (by rfl) nd rfl rfl (by decide) rfl rfl (pa_cons
      (pe_lc (own := [("_law_cell", 3)]) (g := gName 3) (tt := tYes) rfl nd (pi_list (pe_slice sl_list (pv 0) po_none (po_some pe_int))) (blkOk_by (N := ["_law_script", "_law_cells", "_law_stir", "_law_cell"]) (sc := defScope s_L_heap) (by decide +kernel))
        (fun _ _ _ _ _ => pg_name (i := 3) nd rfl (Or.inl rfl)) (fun _ _ _ _ _ => pts_nil)
        (fun _ _ _ _ _ => pe_op op_add (pe_op op_mul pe_int (pe_callB call_abs (by rfl) T.z_abs b_abs (pa_cons (pv 3) pa_nil))) (pe_callTy call_int1 (by rfl) T.z_int b_int (pa_cons (pe_cmpR op_lt (pv 3) pe_int (nomark _)) pa_nil)))) (pa_cons pe_int pa_nil)) (by rfl))
    (pss_cons (ps_for PassesOwn.never rfl (pi_list (pv 1)) (pg_name (i := 3) nd rfl (.inl rfl))
      (pss_one (ps_set (i := 2) nd rfl (.inl rfl) (pe_op op_mod (pe_callTy call_int1 (by rfl) T.z_int b_int (pa_cons (pe_op op_add (pe_op op_add (pe_op op_mul (pv 2) pe_int) (pe_op op_mod (pe_callTy call_int1 (by rfl) T.z_int b_int (pa_cons (pv 3) pa_nil)) pe_int)) pe_int) pa_nil)) pe_int))))
    (pss_one (ps_ret (pe_lst (pa_cons (pe_revL (pe_lc (own := [("_law_cell", 3)]) (g := gName 3) (te := tVar 3) rfl nd (pi_list (pv 1)) (blkOk_by (N := ["_law_script", "_law_cells", "_law_stir", "_law_cell"]) (sc := defScope s_L_heap) (by decide +kernel))
        (fun _ _ _ _ _ => pg_name (i := 3) nd rfl (Or.inl rfl)) (fun _ _ _ _ _ => pts_one (pt_cmpR op_ge (pv 3) (pe_op op_pow pe_int pe_int) (nomark _))) (fun _ _ _ _ _ => pv 3))) (pa_cons (pv 2) pa_nil)))))), ?_⟩
  refine ⟨_, rfl, _, rfl, l, _, rfl, hl, fun sl nsl => ?_⟩
  rw [cut60]
  have s1 := same_upd (o := .lst ((xs.take 60).map V.int)) nsl
  have g1 := upd_same (H := H) (a := sl) (o := .lst ((xs.take 60).map V.int))
  have hlen : (xs.take 60).length ≤ 60 := by
    rw [List.length_take]
    exact Nat.min_le_left _ _
  generalize xs.take 60 = cs at s1 g1 hlen ⊢
  generalize upd H sl (.lst (cs.map V.int)) = H1 at s1 g1 ⊢
  refine ⟨sl, rfl, ⟨_, .of g1⟩, fun D nD => ?_⟩
  refine lc_mapS walk_list cellV nD (by rw [List.length_map]; omega) (fun H' sm => .of (sm _ _ g1)) (fun i v H' N hv sm fin => ?_) (fun H2 sm hL => ?_)
  · rw [List.getElem?_map] at hv
    obtain ⟨c, _, rfl⟩ := Option.map_eq_some_iff.mp hv
    exact ⟨rfl, _, rfl, _, rfl, _, _, rfl, rfl, .inl ⟨by decide, by decide⟩, _, rfl, _, _, rfl, rfl, .inr ⟨_, rfl, _, _, rfl, rfl, fin H' (Same.refl _)⟩⟩
  rw [cell_map] at hL
  have hzl : (cs.map fun i => 2 * (if i < 0 then -i else i) + (if decide (i < 0) then 1 else 0)).length ≤ 60 := by rw [List.length_map]; exact hlen
  generalize (cs.map fun i => 2 * (if i < 0 then -i else i) + (if decide (i < 0) then 1 else 0)) = zs at hL hzl
  have s2 : Same H H2 := s1.trans sm
  refine ⟨_, _, rfl, ?_⟩
  refine ⟨_, rfl, D, rfl, ⟨_, .of hL⟩, ?_⟩
  refine for_list (K := K) (a := D) (xs := zs.map V.int) (fun i σ H' => ∃ (st : Int) (v3 : Option V), σ = [some (.ref l), some (.ref D), some (.int st), v3] ∧ H' = H2) ⟨70039, none, rfl, rfl⟩ (fun i σ H' _ ⟨_, _, _, e⟩ => e ▸ .of hL) (fun i v σ H' hv ⟨st, v3, e1, e2⟩ => ?_) (fun σ H' ⟨st, v3, e1, e2⟩ => ?_)
  · subst e1
    subst e2
    rw [List.getElem?_map] at hv
    obtain ⟨c, _, rfl⟩ := Option.map_eq_some_iff.mp hv
    exact ⟨_, rfl, _, _, rfl, rfl, .inr ⟨by decide, by decide⟩, _, rfl, .inl ⟨_, rfl, _, _, rfl, rfl, (by show (0 : Int) < 2147483563; decide), _, _, rfl, rfl, _, _, rfl, rfl, .inl ⟨_, rfl, _, _, rfl, rfl, (by show (0 : Int) < 2147483647; decide), _, _, rfl, rfl⟩⟩⟩
  · subst e1
    subst e2
    refine ⟨_, rfl, D, rfl, ⟨_, .of hL⟩, fun E2 nE => ?_⟩
    refine lc_gen walk_list (fun i ys H'' => Same H' H'' ∧ ∃ ns : List Int, ys = ns.map V.int ∧ ns.length ≤ i) ⟨same_upd nE, [], rfl, Nat.le_refl _⟩ (fun i ys H'' _ e => .of (e.1 _ _ hL)) (fun i ys H'' hi e => ?_) (fun i x ys H'' N hx e eD sa sb => ?_) (fun ys H'' e eD => ?_)
    · obtain ⟨_, ns, rfl, h⟩ := e
      rw [List.length_map] at hi ⊢
      omega
    · obtain ⟨sm3, ns, rfl, h⟩ := e
      rw [List.getElem?_map] at hx
      obtain ⟨c, _, rfl⟩ := Option.map_eq_some_iff.mp hx
      refine ⟨rfl, _, rfl, _, _, rfl, rfl, ⟨by decide, by decide, by decide⟩, _, _, rfl, rfl, _, rfl, ite2 (fun _ => ?_) (fun _ => ?_)⟩
      · exact ⟨_, rfl, sa H'' _ eD ⟨same_at sm3 nE, ns ++ [c], by rw [List.map_append]; rfl, by rw [List.length_append]; exact Nat.add_le_add_right h 1⟩⟩
      · exact sb H'' eD ⟨sm3, ns, rfl, Nat.le_succ_of_le h⟩
    · obtain ⟨sm3, ns, rfl, h⟩ := e
      rw [List.length_map] at h
      refine ⟨E2, _, rfl, .of eD, fun b nb => ?_⟩
      rw [← List.map_reverse]
      have s4 := sm3.trans (same_upd (o := .lst (ns.reverse.map V.int)) nb)
      have gb := upd_same (H := H'') (a := b) (o := .lst (ns.reverse.map V.int))
      have nbH : H b = none := (s2.trans sm3).free nb
      generalize upd H'' b (.lst (ns.reverse.map V.int)) = H5 at s4 gb ⊢
      refine ⟨_, rfl, (by show 2 ≤ sizeLine; decide), fun a na => ?_⟩
      have s5 := same_upd (o := .lst [.ref b, .int st]) na
      exact q _ a b (s2.trans (s4.trans s5)) ⟨ns.reverse, st, upd_same, s5 _ _ gb, by rw [List.length_reverse]; omega⟩ ((s2.trans s4).free na) nbH
end
end K7
/-! ## K7L12 -/
set_option Elab.async false
set_option linter.all false
set_option maxRecDepth 100000
set_option maxHeartbeats 4000000
namespace K7
open PySem PySem.Spec PyProof.Rows L2
theorem joinL_nil : ∀ ps : List (List Nat), TL.joinL [] ps = ps.flatten
  | [] => rfl
  | [p] => by rw [List.flatten_cons, List.flatten_nil, List.append_nil]; rfl
  | p :: q :: r => by
    show p ++ ([] ++ TL.joinL [] (q :: r)) = _
    rw [joinL_nil (q :: r), List.nil_append, List.flatten_cons (l := p)]
theorem spN_app (a b : List Str) : spN (a ++ b) = spN a ++ spN b := by
  unfold spN
  rw [List.flatMap_append]
theorem spN_join (ks : List Str) : Txt.join (Str.ofString "") (ks.map fun k => Str.ofString " " ++ k) = S (spN ks) := by
  rw [joined, show TL.tl (Str.ofString "") = [] by decide +kernel, joinL_nil, List.map_map]
  congr 1
  unfold spN
  rw [List.flatMap_def]
  congr 1
  refine List.map_congr_left fun k _ => ?_
  show TL.tl (Str.ofString " " ++ k) = 32 :: TL.tl k
  rw [TL.tl_append, show TL.tl (Str.ofString " ") = [32] from tl_sp]
  rfl
theorem totTx_app (a b : List (List Str)) : totTx (a ++ b) = totTx a ++ totTx b := by
  unfold totTx
  rw [List.flatMap_append]
theorem tl_nltotal : TL.tl (Str.ofString "\ntotal") = 10 :: TL.tl ("total" : Str) := by decide +kernel
theorem len_nltotal : (Str.ofString "\ntotal").length = 6 := by decide +kernel
theorem tot_sum (ks : List Str) (ts : List (List Nat)) : ((totN ks ts).map fun t => 2 + t.length).sum = (ts.map fun t => 1 + t.length).sum + ts.length := by
  unfold totN
  rw [List.map_map]
  induction ts with
  | nil => rfl
  | cons t ts ih =>
    simp only [List.map_cons, List.sum_cons, List.length_cons, Function.comp, List.length_map] at ih ⊢
    omega
section
variable {P : Program} {w : World} {K : PySem.W.Frag} {mg : Str → Option Value} {base : Heap}
theorem kw_table (T : Txt K mg) : CalK P w K mg base "show_table" 1 ["table"] ["table"] (gKw 1 V.non fun l => l) (sp1 (p_show_table K)) :=
  (ok_show_table T).calK (ks := ["table"]) (fun l => l) (fun _ h => h) (fun h => h) (fun _ _ _ _ _ _ ws hl => match ws, hl with | [_], _ => rfl)
theorem rc_table (T : Txt K mg) {X : Cx} (h1 : X.prog = P) (h2 : X.w = w) (h3 : X.K = K) (h4 : X.mg = mg) (h5 : X.base = base) : RcG X 3 (DIns (CTb K) (REq (CTb K))) := by
  subst h1 h2 h3 h4 h5
  obtain ⟨f, fd, hm, hb, F⟩ := (ok_Tb_eq (P := X.prog) (w := X.w) (base := X.base) T).ex
  exact rcG_ins F hm.1 hm.2 hb pass0
def p_table_right (v x y : V) (H : Hp) (Q : VK) : Prop := ∃ (a b kA tA : Addr) (ks : List Str) (ts : List (List Nat)), v = .ref a ∧ x = .ref kA ∧ y = .ref tA ∧ HxA H a b ∧ KT H kA tA ks ts ∧ TabD ks ts ∧ ∀ H', HxA H' a b → Kp a b H H' → Q (.bl true) H'
theorem sc_table_right : FnScope ["_law_heap_here", "_law_kinds", "_law_totals_here", "_law_table", "_law_due", "_law_name", "_law_total", "_law_kind"] ["_law_heap_here", "_law_kinds", "_law_totals_here"] (defScope s_L_table_right) := ⟨rfl, rfl, rfl, by decide +kernel, rfl, by decide +kernel, by decide +kernel⟩
def addS : R2 := fun x y H Q => ∃ i j, x = .str i ∧ y = .str j ∧ i.length + j.length ≤ sizeLine ∧ Q (.str (i ++ j)) H
theorem ok_table_right (T : Txt K mg) : Cal P w K mg base "_law_table_right" 11 ["_law_heap_here", "_law_kinds", "_law_totals_here"] (sp3 p_table_right) := by
  have GI := ok_Tb_init (P := P) (w := w) (base := base) T
  have GS := ((ok_show_table (P := P) (w := w) (base := base) T).cal (fun _ _ _ _ _ _ us hl => match us, hl with | [_], _ => rfl)).mono (show 1 ≤ 10 by decide)
  have GK := kw_table (P := P) (w := w) (base := base) T
  have GR := ok_read_table (P := P) (w := w) (base := base) T
  have GW := (ok_fewest (P := P) (w := w) (base := base) T).mono (show 4 ≤ 10 by decide)
  have GP := (ok_spread (P := P) (w := w) (base := base) T).mono (show 3 ≤ 10 by decide)
  have GM := (ok_table_marks (P := P) (w := w) (base := base) T).mono (show 3 ≤ 10 by decide)
  refine T.f_L_table_right.cal sc_table_right (fun _ _ _ _ _ _ us hl => match us, hl with | [_, _, _], _ => rfl) len3 fun f cdv A outer s0 H vs Q E hr h => ?_
  obtain ⟨_, _, _, rfl, a, b, kA, tA, ks, ts, rfl, rfl, rfl, hx, hKT, hD, q⟩ := h
  have nd := sc_table_right.nd
  have hr1 := hr.mono (show 1 ≤ 10 by decide)
  refine ⟨_, pss_cons (ps_par (i := 3) (j := 4) (by rfl) nd rfl rfl (by decide) rfl rfl (pa_cons (pe_calI GI (hr.mono (by decide)) (by rfl) T.g_Tb (pa_cons (pv 1) (pa_cons (pv 2) pa_nil))) (pa_cons pe_str pa_nil)) (by rfl))
    (pss_cons (ps_for PassesOwn.never rfl (pi_tup (pv 1)) (pg_name (i := 5) nd rfl (.inl rfl))
      (pss_one (ps_set (i := 4) nd rfl (.inl rfl) (pe_op op_add_str (pe_op op_add_str (pv 4) pe_str) (pv 5)))))
    (pss_cons (ps_for PassesOwn.never rfl (pi_tup (pv 2)) (pg_name (i := 6) nd rfl (.inl rfl))
      (pss_one (ps_set (i := 4) nd rfl (.inl rfl) (pe_op op_add_str (pe_op op_add_str (pv 4) pe_str) (pe_join pe_str
        (pe_lc (own := [("_law_kind", 7)]) (te := tOp addS (tC (.str " ")) (tOp (rIxT K) (tVar 1) (tVar 7))) (g := gName 7) (tt := tYes) rfl nd (pi_tup (pv 6)) (blkOk_by (N := ["_law_heap_here", "_law_kinds", "_law_totals_here", "_law_table", "_law_due", "_law_name", "_law_total", "_law_kind"]) (sc := defScope s_L_table_right) (by decide +kernel))
          (fun _ _ _ _ _ => pg_name (i := 7) nd rfl (Or.inl rfl)) (fun _ _ _ _ _ => pts_nil) (fun _ _ _ _ _ => pe_op (r := addS) op_add_str pe_str (pe_ix (r := rIxT K) ix_tup (pv 1) (pv 7) (fun _ _ => rfl)))))))))
    (pss_cons (ps_if (PW.pt (pw_or (pt_cmpR op_ne (pe_callB call_repr_str (by rfl) T.z_repr b_repr (pa_cons (pe_cal GS hr (by rfl) (pa_cons (pv 3) pa_nil)) pa_nil)) (pe_callB call_repr_str (by rfl) T.z_repr b_repr (pa_cons (pv 4) pa_nil)) (nomark _))
      (pw_or (pt_cmpR op_ne (pe_calK GK hr1 (by rfl) (pk_cons (pv 3) pk_nil)) (pv 4) (nomark _)) (pw_or1 (pt_not (pt_cmpR (op_eqG (rc_table T rfl rfl rfl rfl rfl) (hr.mono (by decide))) (pe_cal GR hr (by rfl) (pa_cons (pv 4) pa_nil)) (pv 3) (nomark _))))))) (pss_one (ps_ret pe_bl)) pss_nil)
    (pss_one (ps_ret (pe_cal GW hr (by rfl) (pa_cons (pv 4) (pa_cons (pe_cal GP hr (by rfl) (pa_cons (pv 0) (pa_cons (pe_cal GM hr (by rfl) (pa_cons (pv 0) (pa_cons (pv 1) (pa_cons (pv 2) pa_nil)))) pa_nil))) pa_nil)))))))), ?_⟩
  have hk12 := hD.len
  have ht12 := hD.tlen
  refine ⟨_, rfl, _, rfl, fun x dx nx ndx nex => ?_⟩
  have smx := made_same (C := CTb K) nx ndx
  refine ⟨_, _, _, rfl, x, dx, kA, tA, ks, ts, rfl, rfl, rfl, upd_same, hKT.same smx, hD, fun H1 h1 hB => ⟨rfl, ?_⟩⟩
  have sm1 : Same H H1 := fun c u e => hB _ _ (smx _ _ e) (ne_of_none e nx)
  have hKT1 := hKT.same sm1
  have hTab : TabAt (CTb K) H1 x ks ts := ⟨dx, kA, tA, h1, hKT1⟩
  obtain ⟨rs, hrs, hall⟩ := id hKT1.t
  have hrl : rs.length = ts.length := hall.1
  have lspN : ∀ l : List Str, (∀ k ∈ l, k ∈ ks) → l.length ≤ 12 → (spN l).length ≤ 84 := fun l h1 h2 => by
    have := spN_len (ks := l) fun k hk => hD.len6 k (h1 k hk)
    omega
  refine ⟨_, _, rfl, ?_⟩
  refine ⟨_, rfl, kA, rfl, ⟨_, .inl hKT1.k⟩, ?_⟩
  refine for_tup (K := K) (a := kA) (xs := ks.map V.str) (fun i σ H' => H' = H1 ∧ ∃ v5, σ = [some (.ref a), some (.ref kA), some (.ref tA), some (.ref x), some (.str (S (TL.tl ("kinds" : Str) ++ spN (ks.take i)))), v5, none, none])
    ⟨rfl, none, by rw [List.take_zero, spN_nil, List.append_nil, S_tl]; rfl⟩ (fun i σ H' _ ⟨e, _⟩ => e ▸ .inl hKT1.k) (fun i v σ H' hv ⟨e1, v5, e2⟩ => ?_) (fun σ H' ⟨e1, v5, e2⟩ => ?_)
  · subst e1
    subst e2
    obtain ⟨k, hk, rfl⟩ := str_at hv
    have hkm := List.mem_of_getElem? hk
    have hk6 := hD.len6 k hkm
    have hl1 := lspN (ks.take i) (fun k hk => List.mem_of_mem_take hk) (by rw [List.length_take]; omega)
    have hl2 : (S (TL.tl ("kinds" : Str) ++ spN (ks.take i))).length ≤ 89 := by
      rw [len_S, List.length_append, tl_kinds]
      simp only [List.length_cons, List.length_nil]
      omega
    refine ⟨_, rfl, _, _, rfl, rfl, small' (by rw [len_sp]; omega), _, rfl, _, _, rfl, rfl, small' (by rw [len_app, len_sp]; omega), rfl, some (.str k), ?_⟩
    have e : S (TL.tl ("kinds" : Str) ++ spN (ks.take i)) ++ Str.ofString " " ++ k = S (TL.tl ("kinds" : Str) ++ spN (ks.take (i + 1))) := by
      rw [take_snoc hk, spN_app, spN_cons, spN_nil, List.append_nil]
      refine tl_inj ?_
      rw [TL.tl_append, TL.tl_append, show TL.tl (Str.ofString " ") = [32] from tl_sp, tl_S, tl_S]
      simp only [List.append_assoc, List.cons_append, List.nil_append]
    rw [← e]
    rfl
  subst e1
  subst e2
  rw [List.length_map, take_all]
  refine ⟨_, rfl, tA, rfl, ⟨_, .of hrs⟩, ?_⟩
  refine for_tup (K := K) (a := tA) (xs := rs) (fun i σ H'' => Same H' H'' ∧ ∃ v5 v6, σ = [some (.ref a), some (.ref kA), some (.ref tA), some (.ref x), some (.str (S (TL.tl ("kinds" : Str) ++ (spN ks ++ totTx ((totN ks ts).take i))))), v5, v6, none])
    ⟨Same.refl _, _, none, by rw [List.take_zero, show totTx [] = [] from rfl, List.append_nil]⟩ (fun i σ H'' _ ⟨e, _⟩ => .of (e _ _ hrs)) (fun i v σ H'' hv ⟨sm, v5, v6, e2⟩ => ?_) (fun σ H'' ⟨sm, v5, v6, e2⟩ => ?_)
  · subst e2
    obtain ⟨t, ht, at_, rfl, ha⟩ := hall.get hv
    have htm := List.mem_of_getElem? ht
    obtain ⟨t1, t2⟩ := hD.tot t htm
    have htl := asc_len t1 t2
    have hN : (totN ks ts)[i]? = some (t.map fun n => ks.getD n Str.empty) := by
      unfold totN
      rw [List.getElem?_map, ht]
      rfl
    have l1 := totTx_len (ts := (totN ks ts).take i) fun u hu => ⟨fun k hk => hD.len6 k ((hD.nok (List.mem_of_mem_take hu)).1 k hk), (hD.nok (List.mem_of_mem_take hu)).2.2.1⟩
    have l2 := lspN ks (fun _ h => h) hk12
    have l3 : ((totN ks ts).take i).length ≤ 12 := by
      rw [List.length_take]
      unfold totN
      rw [List.length_map]
      omega
    have l4 : (S (TL.tl ("kinds" : Str) ++ (spN ks ++ totTx ((totN ks ts).take i)))).length ≤ 1200 := by
      rw [len_S, List.length_append, List.length_append, tl_kinds]
      simp only [List.length_cons, List.length_nil]
      omega
    refine ⟨_, rfl, _, _, rfl, rfl, small' (by rw [len_nltotal]; omega), ⟨_, rfl⟩, _, rfl, at_, rfl, ⟨_, .of (sm _ _ ha)⟩, fun D nD => ?_⟩
    refine lc_mapS walk_tup (fun v => match v with | .int i => .str (Str.ofString " " ++ ks.getD i.toNat Str.empty) | _ => .non) nD (by rw [List.length_map]; omega) (fun H3 s3 => .of (s3 _ _ (sm _ _ ha))) (fun j y H3 N hy s3 fin => ?_) (fun H3 s3 hL => ?_)
    · rw [List.getElem?_map] at hy
      obtain ⟨n, hn, rfl⟩ := Option.map_eq_some_iff.mp hy
      have hn' := t2 n (List.mem_of_getElem? hn)
      have hn6 := hD.len6 _ (getD_mem hn')
      exact ⟨rfl, _, rfl, _, rfl, kA, _, _, _, rfl, rfl, .inl (rd_same (sm.trans s3) hKT1.k), kind_at hn', _, _, rfl, rfl, small' (by rw [len_sp]; omega), fin H3 (Same.refl _)⟩
    · have hL2 : H3 D = some (.lst (((t.map fun n => ks.getD n Str.empty).map fun k => Str.ofString " " ++ k).map V.str)) := by
        rw [hL, List.map_map, List.map_map, List.map_map]
        rfl
      have l5 := lspN (t.map fun n => ks.getD n Str.empty) (fun k hk => by
        obtain ⟨n, hn, rfl⟩ := List.mem_map.mp hk
        exact getD_mem (t2 n hn)) (by rw [List.length_map]; omega)
      refine ⟨_, D, _, rfl, rfl, .inl (.of hL2), join_ok (n := 7) (fun y hy => ?_) (by rw [List.length_map, List.length_map, show (Str.ofString "").length = 0 from rfl]; omega), ?_⟩
      · obtain ⟨k, hk, rfl⟩ := List.mem_map.mp hy
        obtain ⟨n, hn, rfl⟩ := List.mem_map.mp hk
        have := hD.len6 _ (getD_mem (t2 n hn))
        rw [len_app, len_sp]
        omega
      · rw [spN_join]
        refine ⟨_, _, rfl, rfl, small' (by rw [len_app, len_nltotal, len_S (spN _)]; omega), sm.trans s3, v5, some (.ref at_), ?_⟩
        have e : S (TL.tl ("kinds" : Str) ++ (spN ks ++ totTx ((totN ks ts).take i))) ++ Str.ofString "\ntotal" ++ S (spN (t.map fun n => ks.getD n Str.empty)) = S (TL.tl ("kinds" : Str) ++ (spN ks ++ totTx ((totN ks ts).take (i + 1)))) := by
          rw [take_snoc hN, totTx_app]
          refine tl_inj ?_
          rw [TL.tl_append, TL.tl_append, tl_nltotal, tl_S, tl_S, tl_S]
          unfold totTx
          simp only [List.append_assoc, List.cons_append, List.nil_append, List.flatMap_cons, List.flatMap_nil, List.append_nil]
        rw [← e]
        rfl
  subst e2
  have hTN : (totN ks ts).length = ts.length := by unfold totN; rw [List.length_map]
  rw [hrl, ← hTN, take_all]
  have hdue : S (TL.tl ("kinds" : Str) ++ (spN ks ++ totTx (totN ks ts))) = tabX ks ts := rfl
  rw [hdue]
  have hlen := tabX_len hD
  have hrep : (reprText (tabX ks ts)).length ≤ sizeLine := rep_ok (asc_tab hD) (Nat.le_trans hlen (by decide))
  have hTab2 := hTab.same sm
  refine ⟨_, rfl, _, rfl, x, ks, ts, rfl, hTab2, hD, fun H3 s3 => ?_⟩
  have hTab3 := hTab2.same s3
  refine ⟨_, rfl, hrep, _, rfl, _, rfl, hrep, rfl, _, rfl, ?_⟩
  rw [decide_eq_true rfl]
  refine iteF ?_
  refine ⟨_, rfl, _, rfl, x, ks, ts, rfl, hTab3, hD, fun H4 s4 => ?_⟩
  have hTab4 := hTab3.same s4
  refine ⟨_, rfl, rfl, _, rfl, ?_⟩
  rw [decide_eq_true rfl]
  refine iteF ?_
  refine ⟨_, rfl, _, rfl, ks, ts, rfl, hD, fun H5 p s5 hp => ?_⟩
  have hTab5 := hTab4.same s5
  obtain ⟨d1, k1, t1, u1, w1⟩ := id hp
  obtain ⟨d2, k2, t2, u2, w2⟩ := id hTab5
  refine ⟨_, rfl, ⟨p, x, d1, d2, _, _, rfl, rfl, u1, u2, ks, ts, hp, hTab5⟩, fun H6 s6 => ⟨_, rfl, ?_⟩⟩
  refine iteF ?_
  have smA : Same H H6 := sm1.trans (sm.trans (s3.trans (s4.trans (s5.trans s6))))
  have hx6 := hx.same smA
  refine ⟨_, rfl, _, rfl, _, rfl, _, rfl, _, rfl, _, _, _, rfl, a, b, kA, tA, ks, ts, rfl, rfl, rfl, hx6, hKT.same smA, hD, fun H7 ml hx7 kp7 hm7 => ?_⟩
  refine ⟨_, _, rfl, a, b, ml, _, rfl, rfl, hx7, hm7, by simp only [List.length_cons, List.length_map]; omega, fun H8 l8 ns8 hx8 kp8 hm8 e1 e2 e3 => ?_⟩
  refine ⟨_, _, rfl, a, b, tabX ks ts, l8, ns8, rfl, rfl, Nat.le_trans hlen (by decide), hm8, by omega, ?_, fun H9 s9 => q H9 (hx8.same s9) ((Kp.same smA).trans (kp7.trans (kp8.trans (Kp.same s9))))⟩
  have hmk : (marks (tabX ks ts)).length = 1 + ks.length + ((totN ks ts).map fun t => 2 + t.length).sum := by
    unfold tabX
    rw [marks_tab hD.name fun t ht k hk => hD.name k ((hD.nok ht).1 k hk), tabM_len]
  have hsum := tot_sum ks ts
  rw [hmk, hsum, e1, List.sum_cons]
  simp only [List.length_cons, List.length_map] at e2
  omega
end
end K7
/-! ## K7L13 -/
set_option Elab.async false
set_option linter.all false
set_option maxRecDepth 100000
set_option maxHeartbeats 4000000
namespace K7
open PySem PySem.Spec PyProof.Rows L2
/-- a drawn line in lowest terms -/
def lowLn (x : Ln) : Ln := ⟨x.k, lowT x.t x.b, lowB x.t x.b, x.w⟩
/-- a line without its whole -/
def cutLn (x : Ln) : Ln := ⟨x.k, x.t, x.b, 0⟩
theorem low_line {ks : List Str} {x : Ln} (h : RwOk ks.length x) : LnOk ks true (lowLn x) where
  k := h.1
  fr := low_ok h.2.1 h.2.2.1 h.2.2.2.1
  w := fun _ => by
    obtain ⟨h1, h2, h3, h4, h5, h6⟩ := h
    refine ⟨?_, h6⟩
    show x.w = flo (lowT x.t x.b) (lowB x.t x.b) ∨ x.w = cei (lowT x.t x.b) (lowB x.t x.b)
    rw [low_flo h3, low_cei h3]
    exact h5
  w0 := fun z => by cases z
theorem cut_line {ks : List Str} {x : Ln} (h : LnOk ks true x) : LnOk ks false (cutLn x) where
  k := h.k
  fr := h.fr
  w := fun z => by cases z
  w0 := fun _ => rfl
theorem lnM_low (ks : List Str) (x : Ln) : (lineM ks true (lowLn x)).length = lnM true x := by
  rw [lineM_len]
  rfl
theorem lnM_cut (ks : List Str) (x : Ln) : (lineM ks false (cutLn (lowLn x))).length = lnM false x := by
  rw [lineM_len]
  rfl
theorem sum_all2 {α : Type} {f : α → Nat} : ∀ {ns : List Nat} {r : List α}, All2 (fun n x => f x ≤ n) ns r → (r.map f).sum ≤ ns.sum
  | [], [], _ => Nat.le_refl _
  | [], _ :: _, h => absurd h.1 (by simp)
  | _ :: _, [], h => absurd h.1 (by simp)
  | n :: ns, x :: r, h => by
    obtain ⟨h1, h2⟩ := h.uncons
    have := sum_all2 h2
    rw [List.map_cons, List.sum_cons, List.sum_cons]
    omega
/-- a day's data -/
def lnD (rd : Bool) (l : Ln) : PyData := .tuple (if rd = true then [.int (l.k : Int), .tuple [.int l.t, .int (l.b : Int)], .int l.w] else [.int (l.k : Int), .tuple [.int l.t, .int (l.b : Int)]])
def dayD (rd : Bool) (r : List Ln) : PyData := .tuple (r.map (lnD rd))
theorem lay_ln (rd : Bool) (l : Ln) : PyData.canLay0 (lnD rd l) = true ∧ PyData.depth (lnD rd l) = 2 := by
  cases rd <;> exact ⟨rfl, rfl⟩
theorem lay_day (rd : Bool) : ∀ r : List Ln, PyData.canLayAll0 (r.map (lnD rd)) = true ∧ PyData.depthAll (r.map (lnD rd)) ≤ 2
  | [] => ⟨rfl, Nat.zero_le _⟩
  | l :: r => by
    obtain ⟨h1, h2⟩ := lay_day rd r
    obtain ⟨h3, h4⟩ := lay_ln rd l
    refine ⟨?_, ?_⟩
    · rw [List.map_cons, PyData.canLayAll0, h1, h3]
      rfl
    · rw [List.map_cons, PyData.depthAll, h4]
      exact Nat.max_le.mpr ⟨Nat.le_refl _, h2⟩
theorem lay_dayD (rd : Bool) (r : List Ln) : PyData.canLay0 (dayD rd r) = true := by
  unfold dayD
  rw [PyData.canLay0]
  exact (lay_day rd r).1
theorem shaped_day (rd : Bool) (r : List Ln) : SeqAt.shaped (dayD rd r) = true := by
  unfold SeqAt.shaped
  have e2 : PyData.depth (dayD rd r) ≤ 64 := by
    unfold dayD
    rw [PyData.depth]
    have := (lay_day rd r).2
    omega
  rw [lay_dayD, decide_eq_true e2]
  rfl
theorem dp_day {K : PySem.W.Frag} {H : Hp} {rd : Bool} {p : Addr} {rs : List V} {r : List Ln} (h : H p = some (.tup rs)) (a : All2 (LnAt rd H) rs r) : Dp K H (.ref p) (dayD rd r) := by
  refine .tup (.of h) ?_
  clear h
  revert a
  induction r generalizing rs with
  | nil =>
    intro a
    cases rs with
    | nil => exact .nil
    | cons _ _ => exact absurd a.1 (by simp)
  | cons l r ih =>
    intro a
    cases rs with
    | nil => exact absurd a.1 (by simp)
    | cons v rs =>
      obtain ⟨⟨q, f, e, u, hf⟩, h2⟩ := a.uncons
      subst e
      refine .cons ?_ (ih h2)
      unfold lnD
      cases rd with
      | true =>
        rw [if_pos rfl] at u ⊢
        exact .tup (.of u) (.cons (.int _) (.cons (dp_fr hf) (.cons (.int _) .nil)))
      | false =>
        rw [if_neg Bool.false_ne_true] at u ⊢
        exact .tup (.of u) (.cons (.int _) (.cons (dp_fr hf) .nil))
/-- a row's data -/
def rowD (row : List Nat) : PyData := .tuple (row.map fun n : Nat => PyData.int (n : Int))
theorem lay_row (row : List Nat) : PyData.canLay0 (rowD row) = true ∧ SeqAt.shaped (rowD row) = true := by
  have h1 := lay_ints (row.map fun n : Nat => (n : Int))
  rw [List.map_map] at h1
  have e1 : PyData.canLay0 (rowD row) = true := by
    unfold rowD
    rw [PyData.canLay0]
    exact h1.1
  refine ⟨e1, ?_⟩
  unfold SeqAt.shaped
  have e2 : PyData.depth (rowD row) ≤ 64 := by
    unfold rowD
    rw [PyData.depth]
    have : PyData.depthAll (row.map fun n : Nat => PyData.int (n : Int)) = 0 := h1.2
    omega
  rw [e1, decide_eq_true e2]
  rfl
theorem dp_row {K : PySem.W.Frag} {H : Hp} {v : V} {row : List Nat} (h : TotAt H v row) : Dp K H v (rowD row) := by
  obtain ⟨a, rfl, e⟩ := h
  refine .tup (.of e) ?_
  have : ∀ row : List Nat, DpAll K H (row.map fun n : Nat => V.int (n : Int)) (row.map fun n : Nat => PyData.int (n : Int)) := by
    intro row
    induction row with
    | nil => exact .nil
    | cons n row ih => exact .cons (.int _) ih
  exact this row
/-- the table at x, its kinds at kA -/
def EnvT (K : PySem.W.Frag) (H : Hp) (x kA : Addr) (ks : List Str) : Prop := ∃ dx tA, H x = some (.ins (CTb K) dx (fTb kA tA)) ∧ FzT H kA (ks.map V.str)
theorem FzT.nl {H H' : Hp} {p : Addr} {ys : List V} (h : FzT H p ys) (n : NL H H') : FzT H' p ys := let ⟨o, o1, o2, e⟩ := h; ⟨o, o1, o2, n _ _ e (by intro xs z; cases z)⟩
theorem FzT.rd {H : Hp} {p : Addr} {ys : List V} (h : FzT H p ys) : Rd H p (.tup ys) := let ⟨o, _, _, e⟩ := h; .inr ⟨o, e⟩
section
variable {K : PySem.W.Frag} {H H' : Hp} {x kA : Addr} {ks : List Str}
theorem EnvT.nl (h : EnvT K H x kA ks) (n : NL H H') : EnvT K H' x kA ks := let ⟨dx, tA, e, f⟩ := h; ⟨dx, tA, n _ _ e (by intro xs z; cases z), f.nl n⟩
theorem EnvT.tbF (h : EnvT K H x kA ks) : TbF (CTb K) H x ks := let ⟨dx, tA, e, f⟩ := h; ⟨dx, kA, tA, e, f⟩
theorem EnvT.tbK (h : EnvT K H x kA ks) : TbK K H x ks := let ⟨dx, tA, e, f⟩ := h; ⟨dx, kA, tA, e, f.rd⟩
theorem EnvT.rd (h : EnvT K H x kA ks) : Rd H kA (.tup (ks.map V.str)) := let ⟨_, _, _, f⟩ := h; f.rd
end
/-- what stands while the days are tried -/
structure Dy (K : PySem.W.Frag) (a b x kA : Addr) (ks : List Str) (l : Addr) (rs : List V) (r : List Ln) (H0 H : Hp) : Prop where
  kp : Kp a b H0 H
  hx : HxA H a b
  env : EnvT K H x kA ks
  la : l ≠ a
  lb : l ≠ b
  hl : H l = some (.lst rs)
  al : All2 (LnAt true H) rs r
theorem Dy.step {K : PySem.W.Frag} {a b x kA : Addr} {ks : List Str} {l : Addr} {rs : List V} {r : List Ln} {H0 H H' : Hp} (h : Dy K a b x kA ks l rs r H0 H) (k : Kp a b H H') (hx' : HxA H' a b) : Dy K a b x kA ks l rs r H0 H' :=
  ⟨h.kp.trans k, hx', h.env.nl (k.nl h.hx), h.la, h.lb, k _ _ h.hl h.la h.lb, h.al.mono fun _ _ q => q.keep (k.nl h.hx).tup⟩
theorem Dy.same {K : PySem.W.Frag} {a b x kA : Addr} {ks : List Str} {l : Addr} {rs : List V} {r : List Ln} {H0 H H' : Hp} (h : Dy K a b x kA ks l rs r H0 H) (s : Same H H') : Dy K a b x kA ks l rs r H0 H' := h.step (Kp.same s) (h.hx.same s)
theorem smallB {xs : List Int} {B : Nat} (h : ∀ x ∈ xs, 0 ≤ x ∧ x ≤ (B : Int)) {y : V} (hy : y ∈ xs.map V.int) : ∃ m : Nat, y = .int (m : Int) ∧ m ≤ B := by
  obtain ⟨i, hi, rfl⟩ := List.mem_map.mp hy
  obtain ⟨h1, h2⟩ := h i hi
  exact ⟨i.toNat, by rw [Int.toNat_of_nonneg h1], by omega⟩
theorem day_cnt {ks : List Str} {rd : Bool} {g : Ln → Ln} {r : List Ln} {ns ns' : List Nat} (hn : ∀ k ∈ ks, isName k = true) (hok : ∀ l ∈ r.map g, LnOk ks rd l) (hg : ∀ x, (lineM ks rd (g x)).length = lnM rd x) (al : All2 (fun n x => lnM rd x ≤ n) ns r) (e1 : ns'.sum = ns.sum) (e2 : ns.length ≤ ns'.length) :
    (marks (S (dayTx ks rd (r.map g)))).length ≤ ns'.sum + (ns'.length - 1) := by
  rw [marks_day hn hok, dayM_len, List.map_map, List.length_map]
  have h1 := sum_all2 al
  have h2 : ((fun l => (lineM ks rd l).length) ∘ g) = lnM rd := funext fun x => hg x
  rw [h2]
  have := al.1
  omega
theorem line_true (ks : List Str) (l : Ln) : ks.getD l.k Str.empty ++ Str.ofString " " ++ S (amT l.t l.b) ++ Str.ofString " = " ++ Str.ofString (toString l.w) = S (lineTx ks true l) := by
  refine tl_inj ?_
  rw [int_str]
  simp only [TL.tl_append]
  rw [show TL.tl (Str.ofString " ") = [32] from tl_sp, show TL.tl (Str.ofString " = ") = _ from tl_eq3]
  unfold lineTx
  rw [if_pos rfl]
  simp only [tl_S, List.append_assoc, List.cons_append, List.nil_append]
theorem line_false (ks : List Str) (l : Ln) : ks.getD l.k Str.empty ++ Str.ofString " " ++ S (amT l.t l.b) = S (lineTx ks false l) := by
  refine tl_inj ?_
  simp only [TL.tl_append]
  rw [show TL.tl (Str.ofString " ") = [32] from tl_sp]
  unfold lineTx
  rw [if_neg Bool.false_ne_true]
  simp only [tl_S, List.append_assoc, List.cons_append, List.nil_append, List.append_nil]
section
variable {P : Program} {w : World} {K : PySem.W.Frag} {mg : Str → Option Value} {base : Heap}
theorem vrev {zs : List V} {ws : List Value} (h : Vals zs ws) : Vals zs.reverse ws.reverse := h.reverse
theorem kw_day (T : Txt K mg) : CalK P w K mg base "show_day" 2 ["table", "day"] ["day", "table"] (gKw 2 V.non List.reverse) (sp2 (p_show_day K true)) :=
  (ok_show_day T).calK (ks := ["day", "table"]) List.reverse (fun ws h => by rw [List.length_reverse] at h; exact h) vrev (fun _ _ _ _ _ _ ws hl => match ws, hl with | [_, _], _ => rfl)
theorem kw_lines (T : Txt K mg) : CalK P w K mg base "show_lines" 2 ["table", "lines"] ["lines", "table"] (gKw 2 V.non List.reverse) (sp2 (p_show_day K false)) :=
  (ok_show_lines T).calK (ks := ["lines", "table"]) List.reverse (fun ws h => by rw [List.length_reverse] at h; exact h) vrev (fun _ _ _ _ _ _ ws hl => match ws, hl with | [_, _], _ => rfl)
theorem kw_seq (T : Txt K mg) : CalK P w K mg base "show_sequence" 1 ["table", "sequence"] ["sequence", "table"] (gKw 2 V.non List.reverse) (sp2 (p_show_sequence K)) :=
  (ok_show_sequence T).calK (ks := ["sequence", "table"]) List.reverse (fun ws h => by rw [List.length_reverse] at h; exact h) vrev (fun _ _ _ _ _ _ ws hl => match ws, hl with | [_, _], _ => rfl)
def p_days_right (v x y : V) (H : Hp) (Q : VK) : Prop := ∃ (a b kA tA : Addr) (ks : List Str) (ts : List (List Nat)), v = .ref a ∧ x = .ref kA ∧ y = .ref tA ∧ HxA H a b ∧ FzT H kA (ks.map V.str) ∧ KT H kA tA ks ts ∧ TabD ks ts ∧ ∀ H', HxA H' a b → Kp a b H H' → Q (.bl true) H'
abbrev nDays : List Str := ["_law_heap_here", "_law_kinds", "_law_totals_here", "_law_table", "_law_drawn", "_law_day", "_law_due", "_law_lines_here", "_law_row", "_law_kind", "_law_amount_here", "_law_whole", "_law_line", "_law_turn"]
theorem sc_days_right : FnScope nDays ["_law_heap_here", "_law_kinds", "_law_totals_here"] (defScope s_L_days_right) := ⟨rfl, rfl, rfl, by decide +kernel, rfl, by decide +kernel, by decide +kernel⟩
theorem ok_days_right (T : Txt K mg) : Cal P w K mg base "_law_days_right" 10 ["_law_heap_here", "_law_kinds", "_law_totals_here"] (sp3 p_days_right) := by
  have GI := ok_Tb_init (P := P) (w := w) (base := base) T
  have GL := (ok_lines (P := P) (w := w) (base := base) T).mono (show 4 ≤ 9 by decide)
  have GLo := (ok_lowest (P := P) (w := w) (base := base) T).mono (show 1 ≤ 9 by decide)
  have GSh := (ok_shown (P := P) (w := w) (base := base) T).mono (show 1 ≤ 9 by decide)
  have GSD := ((ok_show_day (P := P) (w := w) (base := base) T).cal (fun _ _ _ _ _ _ us hl => match us, hl with | [_, _], _ => rfl)).mono (show 2 ≤ 9 by decide)
  have GSL := ((ok_show_lines (P := P) (w := w) (base := base) T).cal (fun _ _ _ _ _ _ us hl => match us, hl with | [_, _], _ => rfl)).mono (show 2 ≤ 9 by decide)
  have GSS := ((ok_show_sequence (P := P) (w := w) (base := base) T).cal (fun _ _ _ _ _ _ us hl => match us, hl with | [_, _], _ => rfl)).mono (show 1 ≤ 9 by decide)
  have KD := kw_day (P := P) (w := w) (base := base) T
  have KL := kw_lines (P := P) (w := w) (base := base) T
  have KS := kw_seq (P := P) (w := w) (base := base) T
  have GRD := ok_read_day (P := P) (w := w) (base := base) T
  have GRL := ok_read_lines (P := P) (w := w) (base := base) T
  have GRS := (ok_read_sequence (P := P) (w := w) (base := base) T).mono (show 6 ≤ 9 by decide)
  have GW := (ok_fewest (P := P) (w := w) (base := base) T).mono (show 4 ≤ 9 by decide)
  have GP := (ok_spread (P := P) (w := w) (base := base) T).mono (show 3 ≤ 9 by decide)
  have GM := (ok_day_marks (P := P) (w := w) (base := base) T).mono (show 3 ≤ 9 by decide)
  have GDr := (ok_draw (P := P) (w := w) (base := base) T).mono (show 1 ≤ 9 by decide)
  have GPi := (ok_pick (P := P) (w := w) (base := base) T).mono (show 2 ≤ 9 by decide)
  refine T.f_L_days_right.cal sc_days_right (fun _ _ _ _ _ _ us hl => match us, hl with | [_, _, _], _ => rfl) len3 fun f cdv A outer s0 H vs Q E hr h => ?_
  obtain ⟨_, _, _, rfl, a, b, kA, tA, ks, ts, rfl, rfl, rfl, hx, hFz, hKT, hD, q⟩ := h
  have nd := sc_days_right.nd
  have hr1 := hr.mono (show 1 ≤ 9 by decide)
  have hr2 := hr.mono (show 2 ≤ 9 by decide)
  refine ⟨_, pss_cons (ps_par (i := 3) (j := 4) (by rfl) nd rfl rfl (by decide) rfl rfl (pa_cons (pe_calI GI (hr.mono (by decide)) (by rfl) T.g_Tb (pa_cons (pv 1) (pa_cons (pv 2) pa_nil))) (pa_cons (pe_cal GL hr (by rfl) (pa_cons (pv 0) (pa_cons (pe_callB call_len_seq (by rfl) T.z_len b_len (pa_cons (pv 1) pa_nil)) pa_nil))) pa_nil)) (by rfl))
    (pss_cons (ps_set (i := 5) nd rfl (.inl rfl) (pe_callTy call_tuple_of (by rfl) T.z_tuple b_tuple (pa_cons
      (pe_lc (own := [("_law_kind", 9), ("_law_amount_here", 10), ("_law_whole", 11)]) (te := tTup (tCons (tVar 9) (tCons (tCall (sp2 p_lowest) [] E0 (tCons (tOp (rIxT K) (tVar 10) (tC (.int 0))) (tCons (tOp (rIxT K) (tVar 10) (tC (.int 1))) tNil))) (tCons (tVar 11) tNil))))
        (g := gTup K 3 (gCons (gName 9) (gCons (gName 10) (gCons (gName 11) gNil)))) (tt := tYes) rfl nd (pi_list (pv 4)) (blkOk_by (N := nDays) (sc := defScope s_L_days_right) (by decide +kernel))
        (fun _ _ _ _ _ => pg_tup rfl (pgs_cons (pg_name (i := 9) nd rfl (Or.inl rfl)) (pgs_cons (pg_name (i := 10) nd rfl (Or.inl rfl)) (pgs_cons (pg_name (i := 11) nd rfl (Or.inl rfl)) pgs_nil)))) (fun _ _ _ _ _ => pts_nil)
        (fun _ _ _ _ _ => pe_tup (pa_cons (pv 9) (pa_cons (pe_cal GLo hr (by rfl) (pa_cons (pe_ix (r := rIxT K) ix_tup (pv 10) pe_int (fun _ _ => rfl)) (pa_cons (pe_ix (r := rIxT K) ix_tup (pv 10) pe_int (fun _ _ => rfl)) pa_nil))) (pa_cons (pv 11) pa_nil))))) pa_nil)))
    (pss_cons (ps_set (i := 6) nd rfl (.inl rfl) (pe_join pe_str
      (pe_lc (own := [("_law_kind", 9), ("_law_amount_here", 10), ("_law_whole", 11)]) (te := tOp addS (tOp addS (tOp addS (tOp addS (tOp (rIxT K) (tVar 1) (tVar 9)) (tC (.str " "))) (tCall (sp1 p_shown) [] E0 (tCons (tVar 10) tNil))) (tC (.str " = "))) (tCB (fun xs H Q => ∃ i, xs = [.int i] ∧ i.natAbs.log2 < 1920 ∧ Q (.str (toString i)) H) (tCons (tVar 11) tNil)))
        (g := gTup K 3 (gCons (gName 9) (gCons (gName 10) (gCons (gName 11) gNil)))) (tt := tYes) rfl nd (pi_tup (pv 5)) (blkOk_by (N := nDays) (sc := defScope s_L_days_right) (by decide +kernel))
        (fun _ _ _ _ _ => pg_tup rfl (pgs_cons (pg_name (i := 9) nd rfl (Or.inl rfl)) (pgs_cons (pg_name (i := 10) nd rfl (Or.inl rfl)) (pgs_cons (pg_name (i := 11) nd rfl (Or.inl rfl)) pgs_nil)))) (fun _ _ _ _ _ => pts_nil)
        (fun _ _ _ _ _ => pe_op (r := addS) op_add_str (pe_op (r := addS) op_add_str (pe_op (r := addS) op_add_str (pe_op (r := addS) op_add_str (pe_ix (r := rIxT K) ix_tup (pv 1) (pv 9) (fun _ _ => rfl)) pe_str) (pe_cal GSh hr (by rfl) (pa_cons (pv 10) pa_nil))) pe_str) (pe_callTy call_str_int (by rfl) T.z_str b_str (pa_cons (pv 11) pa_nil))))))
    (pss_cons (ps_if (PW.pt (pw_or (pt_cmpR op_ne (pe_callB call_repr_str (by rfl) T.z_repr b_repr (pa_cons (pe_cal GSD hr (by rfl) (pa_cons (pv 3) (pa_cons (pv 5) pa_nil))) pa_nil)) (pe_callB call_repr_str (by rfl) T.z_repr b_repr (pa_cons (pv 6) pa_nil)) (nomark _))
      (pw_or (pt_cmpR op_ne (pe_calK KD hr2 (by rfl) (pk_cons (pv 5) (pk_cons (pv 3) pk_nil))) (pv 6) (nomark _)) (pw_or1 (pt_cmpR (op_neD hr.units) (pe_cal GRD hr (by rfl) (pa_cons (pv 3) (pa_cons (pv 6) pa_nil))) (pv 5) (nomark _)))))) (pss_one (ps_ret pe_bl)) pss_nil)
    (pss_cons (ps_if (pt_not (pt_val (pe_cal GW hr (by rfl) (pa_cons (pv 6) (pa_cons (pe_cal GP hr (by rfl) (pa_cons (pv 0) (pa_cons (pe_cal GM hr (by rfl) (pa_cons (pv 0) (pa_cons (pv 1) (pa_cons (pv 4) (pa_cons pe_bl pa_nil))))) pa_nil))) pa_nil))))) (pss_one (ps_ret pe_bl)) pss_nil)
    (pss_cons (ps_set (i := 7) nd rfl (.inl rfl) (pe_callTy call_tuple_of (by rfl) T.z_tuple b_tuple (pa_cons
      (pe_lc (own := [("_law_line", 12)]) (te := tSl (rSlT K) (tVar 12) tNoPart (tPart (tC (.int 2)))) (g := gName 12) (tt := tYes) rfl nd (pi_tup (pv 5)) (blkOk_by (N := nDays) (sc := defScope s_L_days_right) (by decide +kernel))
        (fun _ _ _ _ _ => pg_name (i := 12) nd rfl (Or.inl rfl)) (fun _ _ _ _ _ => pts_nil) (fun _ _ _ _ _ => pe_slice (r := rSlT K) sl_tup (pv 12) po_none (po_some pe_int))) pa_nil)))
    (pss_cons (ps_set (i := 6) nd rfl (.inl rfl) (pe_join pe_str
      (pe_lc (own := [("_law_kind", 9), ("_law_amount_here", 10)]) (te := tOp addS (tOp addS (tOp (rIxT K) (tVar 1) (tVar 9)) (tC (.str " "))) (tCall (sp1 p_shown) [] E0 (tCons (tVar 10) tNil)))
        (g := gTup K 2 (gCons (gName 9) (gCons (gName 10) gNil))) (tt := tYes) rfl nd (pi_tup (pv 7)) (blkOk_by (N := nDays) (sc := defScope s_L_days_right) (by decide +kernel))
        (fun _ _ _ _ _ => pg_tup rfl (pgs_cons (pg_name (i := 9) nd rfl (Or.inl rfl)) (pgs_cons (pg_name (i := 10) nd rfl (Or.inl rfl)) pgs_nil))) (fun _ _ _ _ _ => pts_nil)
        (fun _ _ _ _ _ => pe_op (r := addS) op_add_str (pe_op (r := addS) op_add_str (pe_ix (r := rIxT K) ix_tup (pv 1) (pv 9) (fun _ _ => rfl)) pe_str) (pe_cal GSh hr (by rfl) (pa_cons (pv 10) pa_nil))))))
    (pss_cons (ps_if (PW.pt (pw_or (pt_cmpR op_ne (pe_callB call_repr_str (by rfl) T.z_repr b_repr (pa_cons (pe_cal GSL hr (by rfl) (pa_cons (pv 3) (pa_cons (pv 7) pa_nil))) pa_nil)) (pe_callB call_repr_str (by rfl) T.z_repr b_repr (pa_cons (pv 6) pa_nil)) (nomark _))
      (pw_or (pt_cmpR op_ne (pe_calK KL hr2 (by rfl) (pk_cons (pv 7) (pk_cons (pv 3) pk_nil))) (pv 6) (nomark _)) (pw_or1 (pt_cmpR (op_neD hr.units) (pe_cal GRL hr (by rfl) (pa_cons (pv 3) (pa_cons (pv 6) pa_nil))) (pv 7) (nomark _)))))) (pss_one (ps_ret pe_bl)) pss_nil)
    (pss_cons (ps_if (pt_not (pt_val (pe_cal GW hr (by rfl) (pa_cons (pv 6) (pa_cons (pe_cal GP hr (by rfl) (pa_cons (pv 0) (pa_cons (pe_cal GM hr (by rfl) (pa_cons (pv 0) (pa_cons (pv 1) (pa_cons (pv 4) (pa_cons pe_bl pa_nil))))) pa_nil))) pa_nil))))) (pss_one (ps_ret pe_bl)) pss_nil)
    (pss_cons (ps_set (i := 8) nd rfl (.inl rfl) (pe_callTy call_tuple_of (by rfl) T.z_tuple b_tuple (pa_cons
      (pe_lc (own := [("_law_turn", 13)]) (te := tCall (sp2 p_draw) [] E0 (tCons (tVar 0) (tCons (tCB (rLen K) (tCons (tVar 1) tNil)) tNil))) (g := gName 13) (tt := tYes) rfl nd (pi_range1 (by rfl) T.z_range (pa_cons (pe_cal GPi hr (by rfl) (pa_cons (pv 0) (pa_cons (pe_lst (pa_cons pe_int (pa_cons pe_int (pa_cons pe_int (pa_cons pe_int (pa_cons pe_int pa_nil)))))) pa_nil))) pa_nil)) (blkOk_by (N := nDays) (sc := defScope s_L_days_right) (by decide +kernel))
        (fun _ _ _ _ _ => pg_name (i := 13) nd rfl (Or.inl rfl)) (fun _ _ _ _ _ => pts_nil) (fun _ _ _ _ _ => pe_cal GDr hr (by rfl) (pa_cons (pv 0) (pa_cons (pe_callB (r := rLen K) call_len_K (by rfl) T.z_len b_len (pa_cons (pv 1) pa_nil)) pa_nil)))) pa_nil)))
    (pss_cons (ps_set (i := 6) nd rfl (.inl rfl) (pe_join pe_str
      (pe_lc (own := [("_law_kind", 9)]) (te := tOp (rIxT K) (tVar 1) (tVar 9)) (g := gName 9) (tt := tYes) rfl nd (pi_tup (pv 8)) (blkOk_by (N := nDays) (sc := defScope s_L_days_right) (by decide +kernel))
        (fun _ _ _ _ _ => pg_name (i := 9) nd rfl (Or.inl rfl)) (fun _ _ _ _ _ => pts_nil) (fun _ _ _ _ _ => pe_ix (r := rIxT K) ix_tup (pv 1) (pv 9) (fun _ _ => rfl)))))
    (pss_one (ps_ret (pe_and (pe_cmpR op_eq (pe_callB call_repr_str (by rfl) T.z_repr b_repr (pa_cons (pe_cal GSS hr (by rfl) (pa_cons (pv 3) (pa_cons (pv 8) pa_nil))) pa_nil)) (pe_callB call_repr_str (by rfl) T.z_repr b_repr (pa_cons (pv 6) pa_nil)) (nomark _))
      (pe_and (pe_cmpR op_eq (pe_calK KS hr1 (by rfl) (pk_cons (pv 8) (pk_cons (pv 3) pk_nil))) (pv 6) (nomark _)) (pe_one (pe_cmpR (op_eqD hr.units) (pe_cal GRS hr (by rfl) (pa_cons (pv 3) (pa_cons (pv 6) pa_nil))) (pv 8) (nomark _))))))))))))))))), ?_⟩
  have hk12 := hD.len
  have hk1 := hD.ne
  refine ⟨_, rfl, _, rfl, fun x dx nx ndx nex => ?_⟩
  have smx := made_same (C := CTb K) nx ndx
  refine ⟨_, _, _, rfl, x, dx, kA, tA, ks, ts, rfl, rfl, rfl, upd_same, hKT.same smx, hD, fun H1 h1 hB => ⟨rfl, ?_⟩⟩
  have sm1 : Same H H1 := fun c u e => hB _ _ (smx _ _ e) (ne_of_none e nx)
  have env1 : EnvT K H1 x kA ks := ⟨dx, tA, h1, hFz.nl (NL.same sm1)⟩
  have hx1 := hx.same sm1
  refine ⟨_, rfl, _, rfl, kA, _, rfl, .inr (.inl env1.rd), _, _, rfl, a, b, ks.length, rfl, by rw [List.length_map], by omega, by omega, hx1, fun H2 l rs r hx2 kp2 nl hl hall hr12 hok => ?_⟩
  obtain ⟨la, lb⟩ := hx1.fresh nl
  have dy2 : Dy K a b x kA ks l rs r H H2 := ⟨(Kp.same sm1).trans kp2, hx2, env1.nl (kp2.nl hx1), la, lb, hl, hall⟩
  refine ⟨_, _, rfl, ?_⟩
  clear hx hKT hFz nx ndx nex smx h1 hB sm1 env1 hx1 kp2 hx2 hl hall
  have hrl : rs.length = r.length := dy2.al.1
  -- the day
  refine ⟨_, rfl, l, rfl, ⟨_, .of dy2.hl⟩, fun D nD => ?_⟩
  refine lc_gen walk_list (fun i ys H' => Same H2 H' ∧ All2 (LnAt true H') ys ((r.take i).map lowLn)) ⟨same_upd nD, All2.nil⟩ (fun i ys H' _ e => .of (e.1 _ _ dy2.hl)) (fun i ys H' hi e => ?_) (fun i v ys H' N hv e eD st _ => ?_) (fun ys H3 e eD => ?_)
  · rw [e.2.1, List.length_map, List.length_take]
    omega
  · obtain ⟨sm, al⟩ := e
    obtain ⟨z, hz, t, f, rfl, ht, fa, rfl, hfa⟩ := dy2.al.get hv
    rw [if_pos rfl] at ht
    obtain ⟨z1, z2, z3, z4, z5⟩ := hok z (List.mem_of_getElem? hz)
    have e0 : atI [V.int z.t, V.int (z.b : Int)] 0 = some (.int z.t) := rfl
    have e1 : atI [V.int z.t, V.int (z.b : Int)] 1 = some (.int (z.b : Int)) := rfl
    have hfa' := sm _ _ hfa
    refine ⟨t, _, rfl, .of (sm _ _ ht), rfl, _, _, rfl, _, _, rfl, _, _, rfl, rfl, rfl, ?_⟩
    refine ⟨_, rfl, _, rfl, fa, _, _, _, rfl, rfl, .of hfa', e0, _, rfl, fa, _, _, _, rfl, rfl, .of hfa', e1, _, _, rfl, z.t, z.b, rfl, rfl, z2, z3, z4, fun lp nlp => ?_⟩
    have s4 := same_upd (o := .tup [.int (lowT z.t z.b), .int (lowB z.t z.b : Int)]) nlp
    have g4 := upd_same (H := H') (a := lp) (o := .tup [.int (lowT z.t z.b), .int (lowB z.t z.b : Int)])
    generalize upd H' lp (.tup [.int (lowT z.t z.b), .int (lowB z.t z.b : Int)]) = H4 at s4 g4 ⊢
    refine ⟨_, rfl, (by show 3 ≤ sizeLine; decide), fun u nu => ?_⟩
    have s5 := same_upd (o := .tup [.int (z.k : Int), .ref lp, .int z.w]) nu
    have g5 := upd_same (H := H4) (a := u) (o := .tup [.int (z.k : Int), .ref lp, .int z.w])
    have g45 := s5 _ _ g4
    generalize upd H4 u (.tup [.int (z.k : Int), .ref lp, .int z.w]) = H5 at s5 g5 g45 ⊢
    have s6 := s4.trans s5
    have eD5 := s6 _ _ eD
    have tk : TupK H5 (upd H5 D (.lst (ys ++ [.ref u]))) := But.upd.tup eD5 (by intro xs z; cases z)
    refine st H5 _ eD5 ⟨same_at (sm.trans s6) nD, ?_⟩
    rw [take_snoc hz, List.map_append]
    exact (al.mono fun _ _ q => (q.keep (TupK.same s6)).keep tk).snoc ⟨u, .ref lp, rfl, tk _ _ g5, lp, rfl, tk _ _ g45⟩
  rw [hrl, take_all] at e
  obtain ⟨sm3, al3⟩ := e
  have dy3 := dy2.same sm3
  have hokR : ∀ z ∈ r.map lowLn, LnOk ks true z := fun z hz => by
    obtain ⟨y, hy, rfl⟩ := List.mem_map.mp hz
    exact low_line (hok y hy)
  have hRl : (r.map lowLn).length ≤ 12 := by rw [List.length_map]; exact hr12
  have cnt1 := fun {ns ns' : List Nat} => day_cnt (ks := ks) (rd := true) (g := lowLn) (r := r) (ns := ns) (ns' := ns') hD.name hokR (lnM_low ks)
  have hokC : ∀ z ∈ (r.map lowLn).map cutLn, LnOk ks false z := fun z hz => by
    obtain ⟨y, hy, rfl⟩ := List.mem_map.mp hz
    exact cut_line (hokR y hy)
  have cnt2 : ∀ {ns ns' : List Nat}, All2 (fun n x => lnM false x ≤ n) ns r → ns'.sum = ns.sum → ns.length ≤ ns'.length → (marks (S (dayTx ks false ((r.map lowLn).map cutLn)))).length ≤ ns'.sum + (ns'.length - 1) := fun al e1 e2 => by
    rw [List.map_map] at hokC ⊢
    exact day_cnt (g := cutLn ∘ lowLn) hD.name hokC (lnM_cut ks) al e1 e2
  generalize r.map lowLn = R at al3 hokR hRl cnt1 hokC cnt2
  clear sm3
  refine ⟨D, ys, rfl, .inl ⟨.of eD, fun dA ndA => ?_⟩⟩
  have s4 := same_upd (o := .tup ys) ndA
  have hdA := upd_same (H := H3) (a := dA) (o := .tup ys)
  have dy4 := dy3.same s4
  have al4 := al3.mono fun _ _ q => LnAt.keep (TupK.same s4) q
  generalize upd H3 dA (.tup ys) = H4 at s4 hdA dy4 al4 ⊢
  clear s4 al3 dy3 eD
  have hyl : ys.length = R.length := al4.1
  -- the text due
  refine ⟨⟨_, rfl⟩, _, rfl, dA, rfl, ⟨_, .of hdA⟩, fun D2 nD2 => ?_⟩
  refine lc_gen walk_tup (fun i zs H' => Same H4 H' ∧ zs = (R.take i).map fun l => V.str (S (lineTx ks true l))) ⟨same_upd nD2, rfl⟩ (fun i zs H' _ e => .of (e.1 _ _ hdA)) (fun i zs H' hi e => ?_) (fun i v zs H' N hv e eD st _ => ?_) (fun zs H5 e eD => ?_)
  · rw [e.2, List.length_map, List.length_take]
    omega
  · obtain ⟨sm, rfl⟩ := e
    obtain ⟨z, hz, t, f, rfl, ht, hf⟩ := al4.get hv
    have hzk := hokR z (List.mem_of_getElem? hz)
    rw [if_pos rfl] at ht
    have lw := (hzk.w rfl).2
    have ln := name_len (hD.name _ (getD_mem hzk.k))
    have la' : (S (amT z.t z.b)).length ≤ 16 := by rw [len_S]; exact amT_len2 hzk.fr
    have lq : (S (numT z.w)).length ≤ 8 := by rw [len_S]; exact numT_len lw
    refine ⟨t, _, rfl, .of (sm _ _ ht), rfl, _, _, rfl, _, _, rfl, _, _, rfl, rfl, rfl, ?_⟩
    refine ⟨_, rfl, _, rfl, kA, _, _, _, rfl, rfl, .inl (rd_same sm dy4.env.rd), kind_at hzk.k, _, _, rfl, rfl, small' (by rw [len_sp]; omega), ?_⟩
    refine ⟨_, rfl, _, rfl, z.t, z.b, hf.keep (TupK.same sm), hzk.fr, _, _, rfl, rfl, small' (by rw [len_app, len_sp]; omega), ?_⟩
    refine ⟨_, _, rfl, rfl, small' (by rw [len_app, len_app, len_sp, len_eq3]; omega), _, rfl, _, rfl, log_small lw, _, _, rfl, rfl, small' (by rw [len_app, len_app, len_app, len_sp, len_eq3, int_str]; omega), ?_⟩
    refine st H' _ eD ⟨same_at sm nD2, ?_⟩
    rw [take_snoc hz, List.map_append, line_true]
    rfl
  rw [hyl, take_all] at e
  obtain ⟨sm5, rfl⟩ := e
  have dy5 := dy4.same sm5
  have hdA5 := sm5 _ _ hdA
  have al5 := al4.mono fun _ _ q => LnAt.keep (TupK.same sm5) q
  clear sm5 dy4 al4 hdA
  obtain ⟨j1, j2⟩ := day_join (rd := true) hD.name hokR (by omega)
  refine ⟨_, D2, (R.map (lineTx ks true)).map S, rfl, rfl, .inl (.of (by rw [List.map_map, List.map_map]; exact eD)), j1, ?_⟩
  rw [j2]
  have hlen : (S (dayTx ks true R)).length ≤ 100000 := Nat.le_trans (dayTx_len hD.name hokR) (by omega)
  have hrep := rep_ok (asc_day (rd := true) hD.name hokR) hlen
  clear eD nD2 j1 j2
  -- it is what the program shows
  refine ⟨_, rfl, _, rfl, _, _, rfl, x, ks, dA, ys, R, rfl, rfl, dy5.env.tbK, hdA5, al5, hD.name, hokR, by omega, fun H6 s6 => ?_⟩
  have dy6 := dy5.same s6
  have hdA6 := s6 _ _ hdA5
  have al6 := al5.mono fun _ _ q => LnAt.keep (TupK.same s6) q
  refine ⟨_, rfl, hrep, _, rfl, _, rfl, hrep, rfl, _, rfl, ?_⟩
  rw [decide_eq_true rfl]
  refine iteF ?_
  refine ⟨_, rfl, _, rfl, _, _, rfl, x, ks, dA, ys, R, rfl, rfl, dy6.env.tbK, hdA6, al6, hD.name, hokR, by omega, fun H7 s7 => ?_⟩
  have dy7 := dy6.same s7
  have hdA7 := s7 _ _ hdA6
  have al7 := al6.mono fun _ _ q => LnAt.keep (TupK.same s7) q
  refine ⟨_, rfl, rfl, _, rfl, ?_⟩
  rw [decide_eq_true rfl]
  refine iteF ?_
  refine ⟨_, rfl, _, rfl, _, _, rfl, x, ks, R, rfl, rfl, hlen, dy7.env.tbF, hD.name, hD.nd, hokR, by omega, fun H8 p ps s8 hp hps => ?_⟩
  have dy8 := dy7.same s8
  have hdA8 := s8 _ _ hdA7
  have al8 := al7.mono fun _ _ q => LnAt.keep (TupK.same s8) q
  refine ⟨_, rfl, _, _, dp_day hp hps, dp_day hdA8 al8, shaped_day _ _, shaped_day _ _, _, rfl, ?_⟩
  rw [PySem.SeqAt.eqv_refl _ (lay_dayD true R)]
  refine iteF ?_
  clear dy5 hdA5 al5 dy6 hdA6 al6 dy7 hdA7 al7 s6 s7 s8 hp hps
  -- few marks
  refine ⟨_, rfl, _, rfl, _, rfl, _, rfl, _, rfl, _, _, _, _, rfl, a, b, kA, ks, l, rs, r, true, rfl, rfl, rfl, rfl, dy8.hx, dy8.env.rd, la, lb, dy8.hl, dy8.al, hok, hr12, fun H9 ml ns hx9 kp9 hm9 al9 => ?_⟩
  refine ⟨_, _, rfl, a, b, ml, ns, rfl, rfl, hx9, hm9, by rw [al9.1]; omega, fun H10 l10 ns10 hx10 kp10 hm10 e1 e2 e3 => ?_⟩
  have dy10 := (dy8.step kp9 hx9).step kp10 hx10
  have tk10 := ((kp9.trans kp10).nl dy8.hx).tup
  have hdA10 := tk10 _ _ hdA8
  have al10 := al8.mono fun _ _ q => LnAt.keep tk10 q
  refine ⟨_, _, rfl, a, b, _, l10, ns10, rfl, rfl, hlen, hm10, by omega, cnt1 al9 e1 e2, fun H11 s11 => ⟨_, rfl, iteF ?_⟩⟩
  have dy11 := dy10.same s11
  have hdA11 := s11 _ _ hdA10
  have al11 := al10.mono fun _ _ q => LnAt.keep (TupK.same s11) q
  clear dy8 hdA8 al8 hx9 kp9 hm9 al9 hx10 kp10 hm10 e1 e2 e3 dy10 tk10 hdA10 al10 s11 hrep hlen
  -- the lines
  refine ⟨_, rfl, dA, rfl, ⟨_, .of hdA11⟩, fun D3 nD3 => ?_⟩
  refine lc_gen walk_tup (fun i zs H' => Same H11 H' ∧ All2 (LnAt false H') zs ((R.take i).map cutLn)) ⟨same_upd nD3, All2.nil⟩ (fun i zs H' _ e => .of (e.1 _ _ hdA11)) (fun i zs H' hi e => ?_) (fun i v zs H' N hv e eD st _ => ?_) (fun zs H12 e eD => ?_)
  · rw [e.2.1, List.length_map, List.length_take]
    omega
  · obtain ⟨sm, al⟩ := e
    obtain ⟨z, hz, t, f, rfl, ht, hf⟩ := al11.get hv
    rw [if_pos rfl] at ht
    refine ⟨rfl, _, rfl, _, rfl, t, _, rfl, .of (sm _ _ ht), (by show ¬ (HT.sIx 3 0 none = 0 ∧ HT.sIx 3 3 (some 2) = 3); decide), fun u nu => ?_⟩
    have s5 := same_upd (o := .tup [.int (z.k : Int), f]) nu
    have g5 := upd_same (H := H') (a := u) (o := .tup [.int (z.k : Int), f])
    have ec : cutV [V.int (z.k : Int), f, V.int z.w] none (some 2) = [V.int (z.k : Int), f] := rfl
    rw [ec]
    generalize upd H' u (.tup [.int (z.k : Int), f]) = H5 at s5 g5 ⊢
    have eD5 := s5 _ _ eD
    have tk : TupK H5 (upd H5 D3 (.lst (zs ++ [.ref u]))) := But.upd.tup eD5 (by intro xs z; cases z)
    refine st H5 _ eD5 ⟨same_at (sm.trans s5) nD3, ?_⟩
    rw [take_snoc hz, List.map_append]
    exact (al.mono fun _ _ q => (q.keep (TupK.same s5)).keep tk).snoc ⟨u, f, rfl, tk _ _ g5, ((hf.keep (TupK.same sm)).keep (TupK.same s5)).keep tk⟩
  rw [hyl, take_all] at e
  obtain ⟨sm12, al12⟩ := e
  have dy12 := dy11.same sm12
  have hCl : (R.map cutLn).length ≤ 12 := by rw [List.length_map]; exact hRl
  generalize R.map cutLn = C at al12 hokC hCl cnt2
  clear dy11 hdA11 al11 sm12 cnt1 hyl hokR hRl
  refine ⟨D3, zs, rfl, .inl ⟨.of eD, fun cA ncA => ?_⟩⟩
  have s13 := same_upd (o := .tup zs) ncA
  have hcA := upd_same (H := H12) (a := cA) (o := .tup zs)
  have dy13 := dy12.same s13
  have al13 := al12.mono fun _ _ q => LnAt.keep (TupK.same s13) q
  generalize upd H12 cA (.tup zs) = H13 at s13 hcA dy13 al13 ⊢
  clear s13 al12 dy12 eD nD3
  have hzl : zs.length = C.length := al13.1
  refine ⟨⟨_, rfl⟩, _, rfl, cA, rfl, ⟨_, .of hcA⟩, fun D4 nD4 => ?_⟩
  refine lc_gen walk_tup (fun i zs H' => Same H13 H' ∧ zs = (C.take i).map fun l => V.str (S (lineTx ks false l))) ⟨same_upd nD4, rfl⟩ (fun i zs H' _ e => .of (e.1 _ _ hcA)) (fun i zs H' hi e => ?_) (fun i v zs H' N hv e eD st _ => ?_) (fun zs H14 e eD => ?_)
  · rw [e.2, List.length_map, List.length_take]
    omega
  · obtain ⟨sm, rfl⟩ := e
    obtain ⟨z, hz, t, f, rfl, ht, hf⟩ := al13.get hv
    have hzk := hokC z (List.mem_of_getElem? hz)
    rw [if_neg Bool.false_ne_true] at ht
    have ln := name_len (hD.name _ (getD_mem hzk.k))
    have la' : (S (amT z.t z.b)).length ≤ 16 := by rw [len_S]; exact amT_len2 hzk.fr
    refine ⟨t, _, rfl, .of (sm _ _ ht), rfl, _, _, rfl, _, _, rfl, rfl, rfl, ?_⟩
    refine ⟨_, rfl, _, rfl, kA, _, _, _, rfl, rfl, .inl (rd_same sm dy13.env.rd), kind_at hzk.k, _, _, rfl, rfl, small' (by rw [len_sp]; omega), ?_⟩
    refine ⟨_, rfl, _, rfl, z.t, z.b, hf.keep (TupK.same sm), hzk.fr, _, _, rfl, rfl, small' (by rw [len_app, len_sp]; omega), ?_⟩
    refine st H' _ eD ⟨same_at sm nD4, ?_⟩
    rw [take_snoc hz, List.map_append, line_false]
    rfl
  rw [hzl, take_all] at e
  obtain ⟨sm14, rfl⟩ := e
  have dy14 := dy13.same sm14
  have hcA14 := sm14 _ _ hcA
  have al14 := al13.mono fun _ _ q => LnAt.keep (TupK.same sm14) q
  clear sm14 dy13 al13 hcA
  obtain ⟨j1, j2⟩ := day_join (rd := false) hD.name hokC (by omega)
  refine ⟨_, D4, (C.map (lineTx ks false)).map S, rfl, rfl, .inl (.of (by rw [List.map_map, List.map_map]; exact eD)), j1, ?_⟩
  rw [j2]
  have hlen : (S (dayTx ks false C)).length ≤ 100000 := Nat.le_trans (dayTx_len hD.name hokC) (by omega)
  have hrep := rep_ok (asc_day (rd := false) hD.name hokC) hlen
  clear eD nD4 j1 j2
  refine ⟨_, rfl, _, rfl, _, _, rfl, x, ks, cA, _, C, rfl, rfl, dy14.env.tbK, hcA14, al14, hD.name, hokC, by omega, fun H15 s15 => ?_⟩
  have dy15 := dy14.same s15
  have hcA15 := s15 _ _ hcA14
  have al15 := al14.mono fun _ _ q => LnAt.keep (TupK.same s15) q
  refine ⟨_, rfl, hrep, _, rfl, _, rfl, hrep, rfl, _, rfl, ?_⟩
  rw [decide_eq_true rfl]
  refine iteF ?_
  refine ⟨_, rfl, _, rfl, _, _, rfl, x, ks, cA, _, C, rfl, rfl, dy15.env.tbK, hcA15, al15, hD.name, hokC, by omega, fun H16 s16 => ?_⟩
  have dy16 := dy15.same s16
  have hcA16 := s16 _ _ hcA15
  have al16 := al15.mono fun _ _ q => LnAt.keep (TupK.same s16) q
  refine ⟨_, rfl, rfl, _, rfl, ?_⟩
  rw [decide_eq_true rfl]
  refine iteF ?_
  refine ⟨_, rfl, _, rfl, _, _, rfl, x, ks, C, rfl, rfl, hlen, dy16.env.tbF, hD.name, hD.nd, hokC, by omega, fun H17 p ps s17 hp hps => ?_⟩
  have dy17 := dy16.same s17
  have hcA17 := s17 _ _ hcA16
  have al17 := al16.mono fun _ _ q => LnAt.keep (TupK.same s17) q
  refine ⟨_, rfl, _, _, dp_day hp hps, dp_day hcA17 al17, shaped_day _ _, shaped_day _ _, _, rfl, ?_⟩
  rw [PySem.SeqAt.eqv_refl _ (lay_dayD false C)]
  refine iteF ?_
  refine ⟨_, rfl, _, rfl, _, rfl, _, rfl, _, rfl, _, _, _, _, rfl, a, b, kA, ks, l, rs, r, false, rfl, rfl, rfl, rfl, dy17.hx, dy17.env.rd, la, lb, dy17.hl, dy17.al, hok, hr12, fun H18 ml ns hx18 kp18 hm18 al18 => ?_⟩
  refine ⟨_, _, rfl, a, b, ml, ns, rfl, rfl, hx18, hm18, by rw [al18.1]; omega, fun H19 l19 ns19 hx19 kp19 hm19 e1 e2 e3 => ?_⟩
  have dy19 := (dy17.step kp18 hx18).step kp19 hx19
  refine ⟨_, _, rfl, a, b, _, l19, ns19, rfl, rfl, hlen, hm19, by omega, cnt2 al18 e1 e2, fun H20 s20 => ⟨_, rfl, iteF ?_⟩⟩
  have dy20 := dy19.same s20
  clear dy14 hcA14 al14 dy15 hcA15 al15 dy16 hcA16 al16 dy17 hcA17 al17 hp hps hx18 kp18 hm18 al18 hx19 kp19 hm19 e1 e2 e3 dy19 s15 s16 s17 s20 hrep hlen cnt2 hokC hCl hzl
  -- the row
  refine ⟨_, rfl, (by show 5 ≤ sizeLine; decide), fun pl npl => ?_⟩
  have sp := same_upd (o := .lst [.int 3, .int 0, .int 1, .int 12, .int 30]) npl
  obtain ⟨pla, plb⟩ := dy20.hx.fresh npl
  refine ⟨_, _, rfl, a, b, pl, _, rfl, rfl, dy20.hx.same sp, upd_same, pla, plb, by simp, by show 5 ≤ 1000; decide, fun H21 y hy hx21 kp21 => ?_⟩
  have dy21 := dy20.step ((Kp.same sp).trans kp21) hx21
  obtain ⟨m, rfl, hm⟩ := smallB (xs := [3, 0, 1, 12, 30]) (B := 30) (by decide) hy
  refine ⟨_, rfl, by omega, by omega, ?_⟩
  rw [Int.toNat_natCast]
  refine fun D5 nD5 => ?_
  obtain ⟨D5a, D5b⟩ := dy21.hx.fresh nD5
  refine lc_gen (xs := rangeV m) walk_rangeV (fun i zs H' => HxA H' a b ∧ Kp a b H21 H' ∧ ∃ row : List Nat, zs = natV row ∧ (∀ j ∈ row, j < ks.length) ∧ row.length ≤ i) ⟨dy21.hx.same (same_upd nD5), Kp.same (same_upd nD5), [], rfl, (fun j hj => by cases hj), Nat.le_refl _⟩ (fun _ _ _ _ _ => trivial) (fun i zs H' hi e => ?_) (fun i v zs H' N hv e eD st _ => ?_) (fun zs H22 e eD => ?_)
  · obtain ⟨_, _, row, rfl, _, h⟩ := e
    rw [rangeV_len] at hi
    unfold natV
    rw [List.length_map]
    omega
  · obtain ⟨hx', kp', row, rfl, hrow, hrl2⟩ := e
    have dy' := dy21.step kp' hx'
    refine ⟨rfl, _, rfl, _, rfl, kA, _, rfl, .inr (.inl dy'.env.rd), _, _, rfl, a, b, _, rfl, rfl, ?_, ?_, hx', fun H5 k hk hx5 kp5 => ?_⟩
    · rw [List.length_map]
      omega
    · rw [List.length_map]
      omega
    · rw [List.length_map] at hk
      have eD5 := kp5 _ _ eD D5a D5b
      refine st H5 _ eD5 ⟨hx5.put D5a D5b, (kp'.trans kp5).put nD5, row ++ [k], ?_, ?_, ?_⟩
      · unfold natV
        rw [List.map_append]
        rfl
      · intro j hj
        rcases List.mem_append.mp hj with hj | hj
        · exact hrow j hj
        · rw [List.mem_singleton.mp hj]
          omega
      · rw [List.length_append]
        exact Nat.add_le_add_right hrl2 1
  rw [rangeV_len] at e
  obtain ⟨hx22, kp22, row, rfl, hrow, hrl2⟩ := e
  have dy22 := dy21.step kp22 hx22
  refine ⟨D5, _, rfl, .inl ⟨.of eD, fun rA nrA => ?_⟩⟩
  have s23 := same_upd (o := .tup (natV row)) nrA
  have hrA := upd_same (H := H22) (a := rA) (o := .tup (natV row))
  have dy23 := dy22.same s23
  generalize upd H22 rA (.tup (natV row)) = H23 at s23 hrA dy23 ⊢
  clear dy20 dy21 dy22 sp npl kp21 hx21 hx22 kp22 eD s23 nD5
  refine ⟨⟨_, rfl⟩, _, rfl, rA, rfl, ⟨_, .of hrA⟩, fun D6 nD6 => lc_mapS walk_tup (fun v => match v with | .int i => .str (ks.getD i.toNat Str.empty) | _ => .non) nD6 (by unfold natV; rw [List.length_map]; omega) (fun H3 sm3 => .of (sm3 _ _ hrA)) (fun j y H3 N hy sm3 fin => ?_) (fun H24 s24 hL => ?_)⟩
  · unfold natV at hy
    rw [List.getElem?_map] at hy
    obtain ⟨n, hn', rfl⟩ := Option.map_eq_some_iff.mp hy
    exact ⟨rfl, _, rfl, _, rfl, kA, _, _, _, rfl, rfl, .inl (rd_same sm3 dy23.env.rd), kind_at (hrow n (List.mem_of_getElem? hn')), fin H3 (Same.refl _)⟩
  have hL2 : H24 D6 = some (.lst ((row.map fun n => ks.getD n Str.empty).map V.str)) := by
    rw [hL]
    unfold natV
    rw [List.map_map, List.map_map]
    rfl
  have dy24 := dy23.same s24
  have hrA24 := s24 _ _ hrA
  refine ⟨_, D6, _, rfl, rfl, .inl (.of hL2), join_ok (n := 6) (fun y hy => ?_) (by rw [len_sp, List.length_map]; omega), ?_⟩
  · obtain ⟨n, hn', rfl⟩ := List.mem_map.mp hy
    exact name_len (hD.name _ (getD_mem (hrow n hn')))
  rw [joined, show TL.tl (Str.ofString " ") = [32] from tl_sp, show TL.joinL [32] ((row.map fun n => ks.getD n Str.empty).map TL.tl) = rowTx ks row from rfl]
  have hlen : (S (rowTx ks row)).length ≤ 100000 := by
    rw [len_S]
    have := joinL_len (c := 32) (n := 6) ((row.map fun i => ks.getD i Str.empty).map TL.tl) fun p hp => by
      obtain ⟨k, hk, rfl⟩ := List.mem_map.mp hp
      obtain ⟨n, hn', rfl⟩ := List.mem_map.mp hk
      rw [← TL.len_tl]
      exact name_len (hD.name _ (getD_mem (hrow n hn')))
    rw [List.length_map, List.length_map] at this
    exact Nat.le_trans this (by omega)
  have hrep := rep_ok (asc_row (ks := ks) hD.name hrow) hlen
  refine ⟨_, rfl, _, rfl, _, _, rfl, x, ks, rA, row, rfl, rfl, dy24.env.tbK, hrA24, hD.name, hrow, by omega, fun H25 s25 => ?_⟩
  have dy25 := dy24.same s25
  have hrA25 := s25 _ _ hrA24
  refine ⟨_, rfl, hrep, _, rfl, _, rfl, hrep, rfl, _, rfl, ?_⟩
  rw [decide_eq_true rfl]
  refine iteT ?_
  refine ⟨_, rfl, _, rfl, _, _, rfl, x, ks, rA, row, rfl, rfl, dy25.env.tbK, hrA25, hD.name, hrow, by omega, fun H26 s26 => ?_⟩
  have dy26 := dy25.same s26
  have hrA26 := s26 _ _ hrA25
  refine ⟨_, rfl, rfl, _, rfl, ?_⟩
  rw [decide_eq_true rfl]
  refine iteT ?_
  refine ⟨_, rfl, _, rfl, _, _, rfl, x, ks, row, rfl, rfl, hlen, dy26.env.tbF, hD.name, hD.nd, hrow, by omega, fun H27 v27 s27 hv27 => ?_⟩
  have dy27 := dy26.same s27
  refine ⟨_, rfl, _, _, dp_row hv27, dp_row (row := row) ⟨rA, rfl, s27 _ _ hrA26⟩, (lay_row row).2, (lay_row row).2, ?_⟩
  rw [PySem.SeqAt.eqv_refl _ (lay_row row).1]
  exact q H27 dy27.hx dy27.kp
end
end K7
/-! ## K7L14 -/
set_option Elab.async false
set_option linter.all false
set_option maxRecDepth 100000
set_option maxHeartbeats 4000000
namespace K7
open PySem PySem.Spec PyProof.Rows L2
abbrev nLaw : List Str := ["_law_script", "_law_heap_here", "_law_turn", "_law_many", "_law_kinds", "_law_totals_here", "_law_table"]
def k3 : List Str := ["cup", "jam", "tea"]
def t3 : List (List Nat) := [[0, 2], [], [1]]
theorem k3_ok : TabD k3 t3 where
  name := by decide +kernel
  asc := by
    have h1 : ltS "cup" "jam" := by unfold ltS; decide +kernel
    have h2 : ltS "cup" "tea" := by unfold ltS; decide +kernel
    have h3 : ltS "jam" "tea" := by unfold ltS; decide +kernel
    refine List.Pairwise.cons (fun x hx => ?_) (List.Pairwise.cons (fun x hx => ?_) (List.Pairwise.cons (fun x hx => by cases hx) List.Pairwise.nil))
    · simp only [List.mem_cons, List.not_mem_nil, or_false] at hx
      rcases hx with rfl | rfl
      · exact h1
      · exact h2
    · simp only [List.mem_cons, List.not_mem_nil, or_false] at hx
      rw [hx]
      exact h3
  ne := by decide
  len := by decide
  tlen := by decide
  tot := by decide
def k1 : List Str := ["a"]
theorem k1_ok : TabD k1 [] where
  name := by decide +kernel
  asc := List.Pairwise.cons (fun x hx => by cases hx) List.Pairwise.nil
  ne := by decide
  len := by decide
  tlen := by decide
  tot := by decide
def d2 : List Ln := [⟨2, 7, 2, 4⟩, ⟨0, -2, 1, -2⟩]
theorem d2_ok : ∀ l ∈ d2, LnOk k3 true l := fun l hl => by
  unfold d2 at hl
  simp only [List.mem_cons, List.not_mem_nil, or_false] at hl
  rcases hl with rfl | rfl
  · exact ⟨by decide, by unfold FrOk; decide, fun _ => by decide, fun z => by cases z⟩
  · exact ⟨by decide, by unfold FrOk; decide, fun _ => by decide, fun z => by cases z⟩
def l1 : List Ln := [⟨1, 0, 1, 0⟩]
theorem l1_ok : ∀ l ∈ l1, LnOk k3 false l := fun l hl => by
  unfold l1 at hl
  simp only [List.mem_cons, List.not_mem_nil, or_false] at hl
  rw [hl]
  exact ⟨by decide, by unfold FrOk; decide, (fun z => by cases z), fun _ => rfl⟩
theorem e_tab3 : tabX k3 t3 = Str.ofString "kinds cup jam tea\ntotal cup tea\ntotal\ntotal jam" := by decide +kernel
theorem e_tab1 : tabX k1 [] = Str.ofString "kinds a" := by decide +kernel
theorem e_am1 : S (amT (-3) 2) = Str.ofString "-3/2" := by decide +kernel
theorem e_am2 : S (amT 5 1) = Str.ofString "5" := by decide +kernel
theorem e_day2 : S (dayTx k3 true d2) = Str.ofString "tea 7/2 = 4\ncup -2 = -2" := by decide +kernel
theorem e_day0 : S (dayTx k3 true []) = Str.ofString "" := by decide +kernel
theorem e_lin0 : S (dayTx k3 false []) = Str.ofString "" := by decide +kernel
theorem e_lin1 : S (dayTx k3 false l1) = Str.ofString "jam 0" := by decide +kernel
theorem e_row : S (rowTx k3 [2, 2, 0]) = Str.ofString "tea tea cup" := by decide +kernel
section
variable {P : Program} {w : World} {K : PySem.W.Frag} {mg : Str → Option Value} {base : Heap}
def p_law (K : PySem.W.Frag) (x : V) (H : Hp) (Q : VK) : Prop := ∃ (l : Addr) (xs : List Int), x = .ref l ∧ SqL K H l (xs.map V.int) ∧ ∀ H', Q (.bl true) H'
theorem sc_law : FnScope nLaw ["_law_script"] (defScope s_law) := ⟨rfl, rfl, rfl, by decide +kernel, rfl, by decide +kernel, by decide +kernel⟩
theorem law_body (T : Txt K mg) : Body P w K mg base 11 "law" s_law nLaw (sp1 (p_law K)) := fun f cdv A outer s0 H vs Q E hr h => by
  have GH := (ok_heap (P := P) (w := w) (base := base) T).mono (show 1 ≤ 11 by decide)
  have GP := (ok_pick (P := P) (w := w) (base := base) T).mono (show 2 ≤ 11 by decide)
  have GN := (ok_names (P := P) (w := w) (base := base) T).mono (show 3 ≤ 11 by decide)
  have GT := (ok_totals (P := P) (w := w) (base := base) T).mono (show 3 ≤ 11 by decide)
  have GTR := ok_table_right (P := P) (w := w) (base := base) T
  have GDR := (ok_days_right (P := P) (w := w) (base := base) T).mono (show 10 ≤ 11 by decide)
  have GFR := (ok_fraction_right (P := P) (w := w) (base := base) T).mono (show 7 ≤ 11 by decide)
  have GI := ok_Tb_init (P := P) (w := w) (base := base) T
  have GST := ((ok_show_table (P := P) (w := w) (base := base) T).cal (fun _ _ _ _ _ _ us hl => match us, hl with | [_], _ => rfl)).mono (show 1 ≤ 11 by decide)
  have GSF := ((ok_show_fraction (P := P) (w := w) (base := base) T).cal (fun _ _ _ _ _ _ us hl => match us, hl with | [_], _ => rfl)).mono (show 1 ≤ 11 by decide)
  have GSD := ((ok_show_day (P := P) (w := w) (base := base) T).cal (fun _ _ _ _ _ _ us hl => match us, hl with | [_, _], _ => rfl)).mono (show 2 ≤ 11 by decide)
  have GSL := ((ok_show_lines (P := P) (w := w) (base := base) T).cal (fun _ _ _ _ _ _ us hl => match us, hl with | [_, _], _ => rfl)).mono (show 2 ≤ 11 by decide)
  have GSS := ((ok_show_sequence (P := P) (w := w) (base := base) T).cal (fun _ _ _ _ _ _ us hl => match us, hl with | [_, _], _ => rfl)).mono (show 1 ≤ 11 by decide)
  obtain ⟨_, rfl, l, xs, rfl, hS, q⟩ := h
  have nd := sc_law.nd
  have hr6 := hr.mono (show 6 ≤ 11 by decide)
  refine ⟨_, pss_cons (ps_set (i := 1) nd rfl (.inl rfl) (pe_cal GH hr (by rfl) (pa_cons (pv 0) pa_nil)))
    (pss_cons (ps_for PassesOwn.never rfl (pi_range1 (by rfl) T.z_range (pa_cons (pe_op op_add pe_int (pe_callTy call_int1 (by rfl) T.z_int b_int (pa_cons (pe_cmpR op_gt (pe_callB call_len_seq (by rfl) T.z_len b_len (pa_cons (pv 0) pa_nil)) pe_int (nomark _)) pa_nil))) pa_nil)) (pg_name (i := 2) nd rfl (.inl rfl))
      (pss_cons (ps_set (i := 3) nd rfl (.inl rfl) (pe_cal GP hr (by rfl) (pa_cons (pv 1) (pa_cons (pe_lst (pa_cons pe_int (pa_cons pe_int (pa_cons pe_int (pa_cons pe_int (pa_cons pe_int (pa_cons pe_int pa_nil))))))) pa_nil))))
      (pss_cons (ps_par (i := 4) (j := 5) (by rfl) nd rfl rfl (by decide) rfl rfl (pa_cons (pe_cal GN hr (by rfl) (pa_cons (pv 1) (pa_cons (pv 3) pa_nil))) (pa_cons (pe_cal GT hr (by rfl) (pa_cons (pv 1) (pa_cons (pv 3) (pa_cons (pe_cal GP hr (by rfl) (pa_cons (pv 1) (pa_cons (pe_lst (pa_cons pe_int (pa_cons pe_int (pa_cons pe_int (pa_cons pe_int (pa_cons pe_int (pa_cons pe_int pa_nil))))))) pa_nil))) pa_nil)))) pa_nil)) (by rfl))
      (pss_cons (ps_if (PW.pt (pw_or (pt_not (pt_val (pe_cal GTR hr (by rfl) (pa_cons (pv 1) (pa_cons (pv 4) (pa_cons (pv 5) pa_nil)))))) (pw_or1 (pt_not (pt_val (pe_cal GDR hr (by rfl) (pa_cons (pv 1) (pa_cons (pv 4) (pa_cons (pv 5) pa_nil))))))))) (pss_one (ps_ret pe_bl)) pss_nil)
      (pss_one (ps_if (PW.pt (pw_or (pt_not (pt_val (pe_cal GFR hr (by rfl) (pa_cons (pv 1) pa_nil)))) (pw_or (pt_not (pt_val (pe_cal GFR hr (by rfl) (pa_cons (pv 1) pa_nil)))) (pw_or1 (pt_not (pt_val (pe_cal GFR hr (by rfl) (pa_cons (pv 1) pa_nil)))))))) (pss_one (ps_ret pe_bl)) pss_nil))))))
    (pss_cons (ps_set (i := 6) nd rfl (.inl rfl) (pe_calI GI hr6 (by rfl) T.g_Tb (pa_cons (pe_tup (pa_cons pe_str (pa_cons pe_str (pa_cons pe_str pa_nil)))) (pa_cons (pe_tup (pa_cons (pe_tup (pa_cons pe_int (pa_cons pe_int pa_nil))) (pa_cons (pe_tup pa_nil) (pa_cons (pe_tup (pa_cons pe_int pa_nil)) pa_nil)))) pa_nil))))
    (pss_cons (ps_if (PW.pt (pw_or (pt_cmpR op_ne (pe_cal GST hr (by rfl) (pa_cons (pv 6) pa_nil)) pe_str (nomark _)) (pw_or (pt_cmpR op_ne (pe_cal GSF hr (by rfl) (pa_cons (pe_tup (pa_cons (pe_op op_sub pe_int pe_int) (pa_cons pe_int pa_nil))) pa_nil)) pe_str (nomark _))
        (pw_or1 (pt_cmpR op_ne (pe_cal GSF hr (by rfl) (pa_cons (pe_tup (pa_cons pe_int (pa_cons pe_int pa_nil))) pa_nil)) pe_str (nomark _)))))) (pss_one (ps_ret pe_bl)) pss_nil)
    (pss_cons (ps_if (PW.pt (pw_or (pt_cmpR op_ne (pe_cal GSD hr (by rfl) (pa_cons (pv 6) (pa_cons (pe_tup (pa_cons (pe_tup (pa_cons pe_int (pa_cons (pe_tup (pa_cons pe_int (pa_cons pe_int pa_nil))) (pa_cons pe_int pa_nil)))) (pa_cons (pe_tup (pa_cons pe_int (pa_cons (pe_tup (pa_cons (pe_op op_sub pe_int pe_int) (pa_cons pe_int pa_nil))) (pa_cons (pe_op op_sub pe_int pe_int) pa_nil)))) pa_nil))) pa_nil))) pe_str (nomark _))
        (pw_or (pt_cmpR op_ne (pe_cal GSD hr (by rfl) (pa_cons (pv 6) (pa_cons (pe_tup pa_nil) pa_nil))) pe_str (nomark _)) (pw_or1 (pt_cmpR op_ne (pe_cal GSL hr (by rfl) (pa_cons (pv 6) (pa_cons (pe_tup pa_nil) pa_nil))) pe_str (nomark _)))))) (pss_one (ps_ret pe_bl)) pss_nil)
    (pss_one (ps_ret (pe_and (pe_cmpR op_eq (pe_cal GSS hr (by rfl) (pa_cons (pv 6) (pa_cons (pe_tup (pa_cons pe_int (pa_cons pe_int (pa_cons pe_int pa_nil)))) pa_nil))) pe_str (nomark _))
      (pe_and (pe_cmpR op_eq (pe_cal GST hr (by rfl) (pa_cons (pe_calI GI hr6 (by rfl) T.g_Tb (pa_cons (pe_tup (pa_cons pe_str pa_nil)) (pa_cons (pe_tup pa_nil) pa_nil))) pa_nil)) pe_str (nomark _))
        (pe_one (pe_cmpR op_eq (pe_cal GSL hr (by rfl) (pa_cons (pv 6) (pa_cons (pe_tup (pa_cons (pe_tup (pa_cons pe_int (pa_cons (pe_tup (pa_cons pe_int (pa_cons pe_int pa_nil))) pa_nil))) pa_nil)) pa_nil))) pe_str (nomark _))))))))))), ?_⟩
  refine ⟨_, rfl, _, rfl, l, xs, rfl, hS, fun H1 a b s1 hx1 _ _ => ?_⟩
  obtain ⟨k, ek, hk⟩ : ∃ k : Nat, (if decide ((2 : Int) < ((xs.map V.int).length : Int)) = true then (1 : Int) else 0) = (k : Int) ∧ k ≤ 1 := by
    split
    · exact ⟨1, rfl, Nat.le_refl _⟩
    · exact ⟨0, rfl, by decide⟩
  refine ⟨_, rfl, l, _, rfl, .inl (slst s1 hS), _, _, rfl, rfl, .inr ⟨_, rfl, ?_⟩⟩
  rw [ek]
  refine ⟨_, _, rfl, rfl, _, rfl, by omega, by omega, ?_⟩
  rw [show ((2 : Int) + (k : Int)).toNat = 2 + k by omega]
  -- behind the loop
  refine for_range (lo := 0) (n := 2 + k) (fun i σ H' => ∃ v2 v3 v4 v5, σ = [some (.ref l), some (.ref a), v2, v3, v4, v5, none] ∧ HxA H' a b) ⟨none, none, none, none, rfl, hx1⟩ (fun i σ H' hi ⟨v2, v3, v4, v5, e, hx⟩ => ?_) (fun σ H' ⟨v2, v3, v4, v5, e, hx⟩ => ?_)
  · subst e
    refine ⟨_, rfl, (by show 6 ≤ sizeLine; decide), fun pl npl => ?_⟩
    have sp := same_upd (o := .lst [.int 3, .int 4, .int 1, .int 2, .int 6, .int 12]) npl
    obtain ⟨pla, plb⟩ := hx.fresh npl
    refine ⟨_, _, rfl, a, b, pl, _, rfl, rfl, hx.same sp, upd_same, pla, plb, by simp, by show 6 ≤ 1000; decide, fun H2 y hy hx2 kp2 => ?_⟩
    have hm : ∃ m : Nat, y = .int (m : Int) ∧ 1 ≤ m ∧ m ≤ 12 := by
      simp only [List.mem_cons, List.not_mem_nil, or_false] at hy
      rcases hy with rfl | rfl | rfl | rfl | rfl | rfl
      · exact ⟨3, rfl, by decide, by decide⟩
      · exact ⟨4, rfl, by decide, by decide⟩
      · exact ⟨1, rfl, by decide, by decide⟩
      · exact ⟨2, rfl, by decide, by decide⟩
      · exact ⟨6, rfl, by decide, by decide⟩
      · exact ⟨12, rfl, by decide, by decide⟩
    obtain ⟨m, rfl, hm1, hm2⟩ := hm
    refine ⟨_, rfl, _, rfl, _, _, rfl, a, b, m, rfl, rfl, hm1, hm2, hx2, fun H3 kA ks hx3 kp3 hF hasc hnm hkl => ?_⟩
    refine ⟨_, rfl, _, rfl, _, rfl, (by show 6 ≤ sizeLine; decide), fun pl2 npl2 => ?_⟩
    have sp2' := same_upd (o := .lst [.int 3, .int 2, .int 0, .int 1, .int 5, .int 12]) npl2
    obtain ⟨pla2, plb2⟩ := hx3.fresh npl2
    refine ⟨_, _, rfl, a, b, pl2, _, rfl, rfl, hx3.same sp2', upd_same, pla2, plb2, by simp, by show 6 ≤ 1000; decide, fun H4 y hy hx4 kp4 => ?_⟩
    obtain ⟨m2, rfl, hm3⟩ := small12 (xs := [3, 2, 0, 1, 5, 12]) (by decide) hy
    refine ⟨_, _, _, rfl, a, b, m, m2, rfl, rfl, rfl, hm2, hm3, hx4, fun H5 tA rs ts hx5 kp5 htA hall htl htot => ?_⟩
    have nl35 : NL H3 H5 := ((Kp.same (a := a) (b := b) sp2').nl hx3).trans ((kp4.nl (hx3.same sp2')).trans (kp5.nl hx4))
    have hF5 := hF.nl nl35
    have hD : TabD ks ts := {
      name := hnm
      asc := hasc
      ne := by omega
      len := by omega
      tlen := by omega
      tot := fun t ht => by
        obtain ⟨u1, u2⟩ := htot t ht
        exact ⟨u1, fun n hn => by rw [hkl]; exact u2 n hn⟩ }
    have hKT : KT H5 kA tA ks ts := ⟨hF5.rd, rs, htA, hall⟩
    refine ⟨_, _, rfl, ?_⟩
    refine ⟨_, rfl, _, rfl, _, rfl, _, _, _, rfl, a, b, kA, tA, ks, ts, rfl, rfl, rfl, hx5, hKT, hD, fun H6 hx6 kp6 => ⟨_, rfl, iteF ?_⟩⟩
    have nl6 := kp6.nl hx5
    refine ⟨_, rfl, _, rfl, _, rfl, _, _, _, rfl, a, b, kA, tA, ks, ts, rfl, rfl, rfl, hx6, hF5.nl nl6, hKT.nl nl6, hD, fun H7 hx7 kp7 => ⟨_, rfl, iteF ?_⟩⟩
    refine ⟨_, rfl, _, rfl, a, b, rfl, hx7, fun H8 hx8 kp8 => ⟨_, rfl, iteF ?_⟩⟩
    refine ⟨_, rfl, _, rfl, a, b, rfl, hx8, fun H9 hx9 kp9 => ⟨_, rfl, iteF ?_⟩⟩
    refine ⟨_, rfl, _, rfl, a, b, rfl, hx9, fun H10 hx10 kp10 => ⟨_, rfl, iteF ?_⟩⟩
    exact ⟨_, _, _, _, rfl, hx10⟩
  · subst e
    clear hx hx1 s1
    -- the table of three kinds
    refine ⟨(by show 3 ≤ sizeLine; decide), fun kA nkA => ?_⟩
    have s1 := same_upd (o := .tup [.str "cup", .str "jam", .str "tea"]) nkA
    have g1 := upd_same (H := H') (a := kA) (o := HO.tup [.str "cup", .str "jam", .str "tea"])
    generalize upd H' kA (.tup [.str "cup", .str "jam", .str "tea"]) = H1 at s1 g1 ⊢
    refine ⟨(by show 2 ≤ sizeLine; decide), fun ta na => ?_⟩
    have s2 := same_upd (o := .tup [.int 0, .int 2]) na
    have g2 := upd_same (H := H1) (a := ta) (o := HO.tup [.int 0, .int 2])
    have g12 := s2 _ _ g1
    generalize upd H1 ta (.tup [.int 0, .int 2]) = H2 at s2 g2 g12 ⊢
    refine ⟨Nat.zero_le _, fun tb nb => ?_⟩
    have s3 := same_upd (o := .tup []) nb
    have g3 := upd_same (H := H2) (a := tb) (o := HO.tup [])
    have g13 := s3 _ _ g12
    have g23 := s3 _ _ g2
    generalize upd H2 tb (.tup []) = H3 at s3 g3 g13 g23 ⊢
    refine ⟨(by show 1 ≤ sizeLine; decide), fun tc nc => ?_⟩
    have s4 := same_upd (o := .tup [.int 1]) nc
    have g4 := upd_same (H := H3) (a := tc) (o := HO.tup [.int 1])
    have g14 := s4 _ _ g13
    have g24 := s4 _ _ g23
    have g34 := s4 _ _ g3
    generalize upd H3 tc (.tup [.int 1]) = H4 at s4 g4 g14 g24 g34 ⊢
    refine ⟨(by show 3 ≤ sizeLine; decide), fun tA ntA => ?_⟩
    have s5 := same_upd (o := .tup [.ref ta, .ref tb, .ref tc]) ntA
    have g5 := upd_same (H := H4) (a := tA) (o := HO.tup [.ref ta, .ref tb, .ref tc])
    have kt : KT (upd H4 tA (.tup [.ref ta, .ref tb, .ref tc])) kA tA k3 t3 := ⟨.of (s5 _ _ g14), _, g5, All2.cons ⟨ta, rfl, s5 _ _ g24⟩ (All2.cons ⟨tb, rfl, s5 _ _ g34⟩ (All2.cons ⟨tc, rfl, s5 _ _ g4⟩ All2.nil))⟩
    generalize upd H4 tA (.tup [.ref ta, .ref tb, .ref tc]) = H5 at kt ⊢
    clear s1 s2 s3 s4 s5 g1 g2 g12 g3 g13 g23 g4 g14 g24 g34 g5
    intro x dx nx ndx nex
    have smx := made_same (C := CTb K) nx ndx
    refine ⟨_, _, _, rfl, x, dx, kA, tA, k3, t3, rfl, rfl, rfl, upd_same, kt.same smx, k3_ok, fun H6 h6 hB => ⟨rfl, ?_⟩⟩
    have sm6 : Same H5 H6 := fun c u e => hB _ _ (smx _ _ e) (ne_of_none e nx)
    have kt6 := kt.same sm6
    have tab6 : TabAt (CTb K) H6 x k3 t3 := ⟨dx, kA, tA, h6, kt6⟩
    have tbk6 : TbK K H6 x k3 := ⟨dx, kA, tA, h6, kt6.k⟩
    clear kt kt6 smx hB nx ndx nex h6
    -- first row of tests
    refine ⟨_, rfl, _, rfl, x, k3, t3, rfl, tab6, k3_ok, fun H7 s7 => ?_⟩
    rw [e_tab3]
    refine ⟨rfl, _, rfl, ?_⟩
    rw [decide_eq_true rfl]
    refine iteF ?_
    refine ⟨_, _, rfl, rfl, (by show 2 ≤ sizeLine; decide), fun f1 nf1 => ?_⟩
    have t1 := same_upd (o := .tup [.int (0 - 3), .int 2]) nf1
    refine ⟨_, rfl, -3, 2, ⟨f1, rfl, upd_same⟩, by unfold FrOk; decide, ?_⟩
    rw [e_am1]
    refine ⟨rfl, _, rfl, ?_⟩
    rw [decide_eq_true rfl]
    refine iteF ?_
    refine ⟨(by show 2 ≤ sizeLine; decide), fun f2 nf2 => ?_⟩
    have t2 := t1.trans (same_upd (o := .tup [.int 5, .int 1]) nf2)
    refine ⟨_, rfl, 5, 1, ⟨f2, rfl, upd_same⟩, by unfold FrOk; decide, ?_⟩
    rw [e_am2]
    refine ⟨rfl, _, rfl, ?_⟩
    rw [decide_eq_true rfl]
    refine iteF ?_
    have tbk8 := tbk6.same (s7.trans t2)
    generalize upd (upd H7 f1 (.tup [.int (0 - 3), .int 2])) f2 (.tup [.int 5, .int 1]) = H8 at tbk8 ⊢
    clear t1 t2 nf1 nf2 s7 tab6 tbk6 sm6
    -- second row of tests
    refine ⟨_, rfl, (by show 2 ≤ sizeLine; decide), fun p1 n1 => ?_⟩
    have s1 := same_upd (o := .tup [.int 7, .int 2]) n1
    have g1 := upd_same (H := H8) (a := p1) (o := HO.tup [.int 7, .int 2])
    generalize upd H8 p1 (.tup [.int 7, .int 2]) = H9 at s1 g1 ⊢
    refine ⟨(by show 3 ≤ sizeLine; decide), fun p2 n2 => ?_⟩
    have s2 := same_upd (o := .tup [.int 2, .ref p1, .int 4]) n2
    have g2 := upd_same (H := H9) (a := p2) (o := HO.tup [.int 2, .ref p1, .int 4])
    have g12 := s2 _ _ g1
    generalize upd H9 p2 (.tup [.int 2, .ref p1, .int 4]) = H10 at s2 g2 g12 ⊢
    refine ⟨_, _, rfl, rfl, (by show 2 ≤ sizeLine; decide), fun p3 n3 => ?_⟩
    have s3 := same_upd (o := .tup [.int (0 - 2), .int 1]) n3
    have g3 := upd_same (H := H10) (a := p3) (o := HO.tup [.int (0 - 2), .int 1])
    have g13 := s3 _ _ g12
    have g23 := s3 _ _ g2
    generalize upd H10 p3 (.tup [.int (0 - 2), .int 1]) = H11 at s3 g3 g13 g23 ⊢
    refine ⟨_, _, rfl, rfl, (by show 3 ≤ sizeLine; decide), fun p4 n4 => ?_⟩
    have s4 := same_upd (o := .tup [.int 0, .ref p3, .int (0 - 2)]) n4
    have g4 := upd_same (H := H11) (a := p4) (o := HO.tup [.int 0, .ref p3, .int (0 - 2)])
    have g14 := s4 _ _ g13
    have g24 := s4 _ _ g23
    have g34 := s4 _ _ g3
    generalize upd H11 p4 (.tup [.int 0, .ref p3, .int (0 - 2)]) = H12 at s4 g4 g14 g24 g34 ⊢
    refine ⟨(by show 2 ≤ sizeLine; decide), fun p5 n5 => ?_⟩
    have s5 := same_upd (o := .tup [.ref p2, .ref p4]) n5
    have tbk9 := tbk8.same ((s1.trans (s2.trans (s3.trans s4))).trans s5)
    have al2 : All2 (LnAt true (upd H12 p5 (.tup [.ref p2, .ref p4]))) [.ref p2, .ref p4] d2 :=
      All2.cons ⟨p2, .ref p1, rfl, s5 _ _ g24, p1, rfl, s5 _ _ g14⟩ (All2.cons ⟨p4, .ref p3, rfl, s5 _ _ g4, p3, rfl, s5 _ _ g34⟩ All2.nil)
    refine ⟨_, _, rfl, x, k3, p5, _, d2, rfl, rfl, tbk9, upd_same, al2, k3_ok.name, d2_ok, by decide, fun H13 s13 => ?_⟩
    rw [e_day2]
    refine ⟨rfl, _, rfl, ?_⟩
    rw [decide_eq_true rfl]
    refine iteF ?_
    have tbk13 := tbk9.same s13
    clear al2 tbk8 tbk9 s1 s2 s3 s4 s5 s13 g1 g2 g12 g3 g13 g23 g4 g14 g24 g34
    refine ⟨_, rfl, Nat.zero_le _, fun q1 m1 => ?_⟩
    refine ⟨_, _, rfl, x, k3, q1, [], [], rfl, rfl, tbk13.same (same_upd m1), upd_same, All2.nil, k3_ok.name, (fun l hl => by cases hl), by decide, fun H14 s14 => ?_⟩
    rw [e_day0]
    refine ⟨rfl, _, rfl, ?_⟩
    rw [decide_eq_true rfl]
    refine iteF ?_
    have tbk14 := (tbk13.same (same_upd (o := .tup []) m1)).same s14
    refine ⟨_, rfl, Nat.zero_le _, fun q2 m2 => ?_⟩
    refine ⟨_, _, rfl, x, k3, q2, [], [], rfl, rfl, tbk14.same (same_upd m2), upd_same, All2.nil, k3_ok.name, (fun l hl => by cases hl), by decide, fun H15 s15 => ?_⟩
    rw [e_lin0]
    refine ⟨rfl, _, rfl, ?_⟩
    rw [decide_eq_true rfl]
    refine iteF ?_
    have tbk15 := (tbk14.same (same_upd (o := .tup []) m2)).same s15
    -- the last row
    refine ⟨_, rfl, (by show 3 ≤ sizeLine; decide), fun q3 m3 => ?_⟩
    refine ⟨_, _, rfl, x, k3, q3, [2, 2, 0], rfl, rfl, tbk15.same (same_upd m3), upd_same, k3_ok.name, by decide, by decide, fun H16 s16 => ?_⟩
    rw [e_row]
    have tbk16 := (tbk15.same (same_upd (o := .tup [.int 2, .int 2, .int 0]) m3)).same s16
    refine ⟨rfl, _, rfl, ?_⟩
    rw [decide_eq_true rfl]
    refine iteT ?_
    refine ⟨(by show 1 ≤ sizeLine; decide), fun kB nkB => ⟨Nat.zero_le _, fun tB ntB => ?_⟩⟩
    have u1 := same_upd (o := .tup [.str "a"]) nkB
    have u2 := same_upd (o := .tup []) ntB
    have ktB : KT (upd (upd H16 kB (.tup [.str "a"])) tB (.tup [])) kB tB k1 [] := ⟨.of (u2 _ _ upd_same), [], upd_same, All2.nil⟩
    have tbk17 := tbk16.same (u1.trans u2)
    generalize upd (upd H16 kB (.tup [.str "a"])) tB (.tup []) = H17 at ktB tbk17 ⊢
    intro x2 dx2 nx2 ndx2 nex2
    have smx := made_same (C := CTb K) nx2 ndx2
    refine ⟨_, _, _, rfl, x2, dx2, kB, tB, k1, [], rfl, rfl, rfl, upd_same, ktB.same smx, k1_ok, fun H18 h18 hB => ⟨rfl, ?_⟩⟩
    have sm18 : Same H17 H18 := fun c u e => hB _ _ (smx _ _ e) (ne_of_none e nx2)
    refine ⟨_, rfl, x2, k1, [], rfl, ⟨dx2, kB, tB, h18, ktB.same sm18⟩, k1_ok, fun H19 s19 => ?_⟩
    rw [e_tab1]
    have tbk19 := (tbk17.same sm18).same s19
    refine ⟨rfl, _, rfl, ?_⟩
    rw [decide_eq_true rfl]
    refine iteT ?_
    refine ⟨_, rfl, (by show 2 ≤ sizeLine; decide), fun w1 y1 => ?_⟩
    have z1 := same_upd (o := .tup [.int 0, .int 1]) y1
    have c1 := upd_same (H := H19) (a := w1) (o := HO.tup [.int 0, .int 1])
    generalize upd H19 w1 (.tup [.int 0, .int 1]) = H20 at z1 c1 ⊢
    refine ⟨(by show 2 ≤ sizeLine; decide), fun w2 y2 => ?_⟩
    have z2 := same_upd (o := .tup [.int 1, .ref w1]) y2
    have c2 := upd_same (H := H20) (a := w2) (o := HO.tup [.int 1, .ref w1])
    have c12 := z2 _ _ c1
    generalize upd H20 w2 (.tup [.int 1, .ref w1]) = H21 at z2 c2 c12 ⊢
    refine ⟨(by show 1 ≤ sizeLine; decide), fun w3 y3 => ?_⟩
    have z3 := same_upd (o := .tup [.ref w2]) y3
    refine ⟨_, _, rfl, x, k3, w3, _, l1, rfl, rfl, tbk19.same ((z1.trans z2).trans z3), upd_same, All2.cons ⟨w2, .ref w1, rfl, z3 _ _ c2, w1, rfl, z3 _ _ c12⟩ All2.nil, k3_ok.name, l1_ok, by decide, fun H22 s22 => ?_⟩
    rw [e_lin1]
    refine ⟨rfl, ?_⟩
    rw [decide_eq_true rfl]
    exact q H22
end
end K7
/-! ## K7Fin -/
set_option Elab.async false
set_option linter.all false
set_option maxRecDepth 100000
set_option maxHeartbeats 0
namespace K7
open PySem PySem.Spec PyProof.Rows L2
theorem txt_of {K : PySem.W.Frag} {h : Heap} {mg : Str → Option Value} (X : K.In h) (G : h.Ns mainGlobals mg) (c : He.SaysD fa fn K) (e : exB K = true) : Txt K mg where
  f_show_fraction := by
    obtain ⟨fd, F⟩ := c.def_ 0 (d := d_show_fraction) rfl
    exact ⟨_, fd, He.glo_ok X G (c.fact 0 (f := .glo "show_fraction") rfl), F⟩
  f_show_table := by
    obtain ⟨fd, F⟩ := c.def_ 1 (d := d_show_table) rfl
    exact ⟨_, fd, He.glo_ok X G (c.fact 1 (f := .glo "show_table") rfl), F⟩
  f_show_lines := by
    obtain ⟨fd, F⟩ := c.def_ 2 (d := d_show_lines) rfl
    exact ⟨_, fd, He.glo_ok X G (c.fact 2 (f := .glo "show_lines") rfl), F⟩
  f_show_day := by
    obtain ⟨fd, F⟩ := c.def_ 3 (d := d_show_day) rfl
    exact ⟨_, fd, He.glo_ok X G (c.fact 3 (f := .glo "show_day") rfl), F⟩
  f_show_sequence := by
    obtain ⟨fd, F⟩ := c.def_ 4 (d := d_show_sequence) rfl
    exact ⟨_, fd, He.glo_ok X G (c.fact 4 (f := .glo "show_sequence") rfl), F⟩
  f_is_integer := by
    obtain ⟨fd, F⟩ := c.def_ 5 (d := d_is_integer) rfl
    exact ⟨_, fd, He.glo_ok X G (c.fact 5 (f := .glo "is_integer") rfl), F⟩
  f_is_number := by
    obtain ⟨fd, F⟩ := c.def_ 6 (d := d_is_number) rfl
    exact ⟨_, fd, He.glo_ok X G (c.fact 6 (f := .glo "is_number") rfl), F⟩
  f_is_name := by
    obtain ⟨fd, F⟩ := c.def_ 7 (d := d_is_name) rfl
    exact ⟨_, fd, He.glo_ok X G (c.fact 7 (f := .glo "is_name") rfl), F⟩
  f_are_numbers := by
    obtain ⟨fd, F⟩ := c.def_ 8 (d := d_are_numbers) rfl
    exact ⟨_, fd, He.glo_ok X G (c.fact 8 (f := .glo "are_numbers") rfl), F⟩
  f_is_ascending := by
    obtain ⟨fd, F⟩ := c.def_ 9 (d := d_is_ascending) rfl
    exact ⟨_, fd, He.glo_ok X G (c.fact 9 (f := .glo "is_ascending") rfl), F⟩
  f_is_listing := by
    obtain ⟨fd, F⟩ := c.def_ 10 (d := d_is_listing) rfl
    exact ⟨_, fd, He.glo_ok X G (c.fact 10 (f := .glo "is_listing") rfl), F⟩
  f_run_end := by
    obtain ⟨fd, F⟩ := c.def_ 11 (d := d_run_end) rfl
    exact ⟨_, fd, He.glo_ok X G (c.fact 11 (f := .glo "run_end") rfl), F⟩
  f_mark_at := by
    obtain ⟨fd, F⟩ := c.def_ 12 (d := d_mark_at) rfl
    exact ⟨_, fd, He.glo_ok X G (c.fact 12 (f := .glo "mark_at") rfl), F⟩
  f_marks_of := by
    obtain ⟨fd, F⟩ := c.def_ 13 (d := d_marks_of) rfl
    exact ⟨_, fd, He.glo_ok X G (c.fact 13 (f := .glo "marks_of") rfl), F⟩
  f_numeral_of := by
    obtain ⟨fd, F⟩ := c.def_ 14 (d := d_numeral_of) rfl
    exact ⟨_, fd, He.glo_ok X G (c.fact 14 (f := .glo "numeral_of") rfl), F⟩
  f_common_divisor := by
    obtain ⟨fd, F⟩ := c.def_ 15 (d := d_common_divisor) rfl
    exact ⟨_, fd, He.glo_ok X G (c.fact 15 (f := .glo "common_divisor") rfl), F⟩
  f_fraction_of := by
    obtain ⟨fd, F⟩ := c.def_ 16 (d := d_fraction_of) rfl
    exact ⟨_, fd, He.glo_ok X G (c.fact 16 (f := .glo "fraction_of") rfl), F⟩
  f_floor_of := by
    obtain ⟨fd, F⟩ := c.def_ 17 (d := d_floor_of) rfl
    exact ⟨_, fd, He.glo_ok X G (c.fact 17 (f := .glo "floor_of") rfl), F⟩
  f_ceiling_of := by
    obtain ⟨fd, F⟩ := c.def_ 18 (d := d_ceiling_of) rfl
    exact ⟨_, fd, He.glo_ok X G (c.fact 18 (f := .glo "ceiling_of") rfl), F⟩
  f_are_kinds := by
    obtain ⟨fd, F⟩ := c.def_ 36 (d := d_are_kinds) rfl
    exact ⟨_, fd, He.glo_ok X G (c.fact 19 (f := .glo "are_kinds") rfl), F⟩
  f_taken_in := by
    obtain ⟨fd, F⟩ := c.def_ 44 (d := d_taken_in) rfl
    exact ⟨_, fd, He.glo_ok X G (c.fact 20 (f := .glo "taken_in") rfl), F⟩
  f_read_whole := by
    obtain ⟨fd, F⟩ := c.def_ 45 (d := d_read_whole) rfl
    exact ⟨_, fd, He.glo_ok X G (c.fact 21 (f := .glo "read_whole") rfl), F⟩
  f_read_fraction := by
    obtain ⟨fd, F⟩ := c.def_ 46 (d := d_read_fraction) rfl
    exact ⟨_, fd, He.glo_ok X G (c.fact 22 (f := .glo "read_fraction") rfl), F⟩
  f_read_table := by
    obtain ⟨fd, F⟩ := c.def_ 47 (d := d_read_table) rfl
    exact ⟨_, fd, He.glo_ok X G (c.fact 23 (f := .glo "read_table") rfl), F⟩
  f_read_lines := by
    obtain ⟨fd, F⟩ := c.def_ 48 (d := d_read_lines) rfl
    exact ⟨_, fd, He.glo_ok X G (c.fact 24 (f := .glo "read_lines") rfl), F⟩
  f_read_day := by
    obtain ⟨fd, F⟩ := c.def_ 49 (d := d_read_day) rfl
    exact ⟨_, fd, He.glo_ok X G (c.fact 25 (f := .glo "read_day") rfl), F⟩
  f_read_sequence := by
    obtain ⟨fd, F⟩ := c.def_ 50 (d := d_read_sequence) rfl
    exact ⟨_, fd, He.glo_ok X G (c.fact 26 (f := .glo "read_sequence") rfl), F⟩
  f_L_heap := by
    obtain ⟨fd, F⟩ := c.def_ 51 (d := d_L_heap) rfl
    exact ⟨_, fd, He.glo_ok X G (c.fact 27 (f := .glo "_law_heap") rfl), F⟩
  f_L_draw := by
    obtain ⟨fd, F⟩ := c.def_ 52 (d := d_L_draw) rfl
    exact ⟨_, fd, He.glo_ok X G (c.fact 28 (f := .glo "_law_draw") rfl), F⟩
  f_L_pick := by
    obtain ⟨fd, F⟩ := c.def_ 53 (d := d_L_pick) rfl
    exact ⟨_, fd, He.glo_ok X G (c.fact 29 (f := .glo "_law_pick") rfl), F⟩
  f_L_mixed := by
    obtain ⟨fd, F⟩ := c.def_ 54 (d := d_L_mixed) rfl
    exact ⟨_, fd, He.glo_ok X G (c.fact 30 (f := .glo "_law_mixed") rfl), F⟩
  f_L_names := by
    obtain ⟨fd, F⟩ := c.def_ 55 (d := d_L_names) rfl
    exact ⟨_, fd, He.glo_ok X G (c.fact 31 (f := .glo "_law_names") rfl), F⟩
  f_L_totals := by
    obtain ⟨fd, F⟩ := c.def_ 56 (d := d_L_totals) rfl
    exact ⟨_, fd, He.glo_ok X G (c.fact 32 (f := .glo "_law_totals") rfl), F⟩
  f_L_lowest := by
    obtain ⟨fd, F⟩ := c.def_ 57 (d := d_L_lowest) rfl
    exact ⟨_, fd, He.glo_ok X G (c.fact 33 (f := .glo "_law_lowest") rfl), F⟩
  f_L_amount := by
    obtain ⟨fd, F⟩ := c.def_ 58 (d := d_L_amount) rfl
    exact ⟨_, fd, He.glo_ok X G (c.fact 34 (f := .glo "_law_amount") rfl), F⟩
  f_L_amount_marks := by
    obtain ⟨fd, F⟩ := c.def_ 59 (d := d_L_amount_marks) rfl
    exact ⟨_, fd, He.glo_ok X G (c.fact 35 (f := .glo "_law_amount_marks") rfl), F⟩
  f_L_wholes := by
    obtain ⟨fd, F⟩ := c.def_ 60 (d := d_L_wholes) rfl
    exact ⟨_, fd, He.glo_ok X G (c.fact 36 (f := .glo "_law_wholes") rfl), F⟩
  f_L_lines := by
    obtain ⟨fd, F⟩ := c.def_ 61 (d := d_L_lines) rfl
    exact ⟨_, fd, He.glo_ok X G (c.fact 37 (f := .glo "_law_lines") rfl), F⟩
  f_L_table_marks := by
    obtain ⟨fd, F⟩ := c.def_ 62 (d := d_L_table_marks) rfl
    exact ⟨_, fd, He.glo_ok X G (c.fact 38 (f := .glo "_law_table_marks") rfl), F⟩
  f_L_day_marks := by
    obtain ⟨fd, F⟩ := c.def_ 63 (d := d_L_day_marks) rfl
    exact ⟨_, fd, He.glo_ok X G (c.fact 39 (f := .glo "_law_day_marks") rfl), F⟩
  f_L_spread := by
    obtain ⟨fd, F⟩ := c.def_ 64 (d := d_L_spread) rfl
    exact ⟨_, fd, He.glo_ok X G (c.fact 40 (f := .glo "_law_spread") rfl), F⟩
  f_L_fewest := by
    obtain ⟨fd, F⟩ := c.def_ 65 (d := d_L_fewest) rfl
    exact ⟨_, fd, He.glo_ok X G (c.fact 41 (f := .glo "_law_fewest") rfl), F⟩
  f_L_shown := by
    obtain ⟨fd, F⟩ := c.def_ 66 (d := d_L_shown) rfl
    exact ⟨_, fd, He.glo_ok X G (c.fact 42 (f := .glo "_law_shown") rfl), F⟩
  f_L_fraction_right := by
    obtain ⟨fd, F⟩ := c.def_ 67 (d := d_L_fraction_right) rfl
    exact ⟨_, fd, He.glo_ok X G (c.fact 43 (f := .glo "_law_fraction_right") rfl), F⟩
  f_L_table_right := by
    obtain ⟨fd, F⟩ := c.def_ 68 (d := d_L_table_right) rfl
    exact ⟨_, fd, He.glo_ok X G (c.fact 44 (f := .glo "_law_table_right") rfl), F⟩
  f_L_days_right := by
    obtain ⟨fd, F⟩ := c.def_ 69 (d := d_L_days_right) rfl
    exact ⟨_, fd, He.glo_ok X G (c.fact 45 (f := .glo "_law_days_right") rfl), F⟩
  f_law := by
    obtain ⟨fd, F⟩ := c.def_ 70 (d := d_law) rfl
    exact ⟨_, fd, He.glo_ok X G (c.fact 46 (f := .glo "law") rfl), F⟩
  m_F_take := by
    obtain ⟨fd, F⟩ := c.def_ 20 (d := d_F_take) rfl
    exact ⟨_, fd, He.meth_ok (c.fact 54 (f := .meth "FractionText" "take") rfl), F⟩
  m_F_take_number := by
    obtain ⟨fd, F⟩ := c.def_ 21 (d := d_F_take_number) rfl
    exact ⟨_, fd, He.meth_ok (c.fact 55 (f := .meth "FractionText" "take_number") rfl), F⟩
  m_F_ends := by
    obtain ⟨fd, F⟩ := c.def_ 22 (d := d_F_ends) rfl
    exact ⟨_, fd, He.meth_ok (c.fact 56 (f := .meth "FractionText" "ends") rfl), F⟩
  m_F_told := by
    obtain ⟨fd, F⟩ := c.def_ 23 (d := d_F_told) rfl
    exact ⟨_, fd, He.meth_ok (c.fact 57 (f := .meth "FractionText" "told") rfl), F⟩
  m_D_take := by
    obtain ⟨fd, F⟩ := c.def_ 25 (d := d_D_take) rfl
    exact ⟨_, fd, He.meth_ok (c.fact 68 (f := .meth "DayText" "take") rfl), F⟩
  m_D_take_kind := by
    obtain ⟨fd, F⟩ := c.def_ 26 (d := d_D_take_kind) rfl
    exact ⟨_, fd, He.meth_ok (c.fact 69 (f := .meth "DayText" "take_kind") rfl), F⟩
  m_D_take_amount := by
    obtain ⟨fd, F⟩ := c.def_ 27 (d := d_D_take_amount) rfl
    exact ⟨_, fd, He.meth_ok (c.fact 70 (f := .meth "DayText" "take_amount") rfl), F⟩
  m_D_end_line := by
    obtain ⟨fd, F⟩ := c.def_ 28 (d := d_D_end_line) rfl
    exact ⟨_, fd, He.meth_ok (c.fact 71 (f := .meth "DayText" "end_line") rfl), F⟩
  m_D_take_whole := by
    obtain ⟨fd, F⟩ := c.def_ 29 (d := d_D_take_whole) rfl
    exact ⟨_, fd, He.meth_ok (c.fact 72 (f := .meth "DayText" "take_whole") rfl), F⟩
  m_D_ends := by
    obtain ⟨fd, F⟩ := c.def_ 30 (d := d_D_ends) rfl
    exact ⟨_, fd, He.meth_ok (c.fact 73 (f := .meth "DayText" "ends") rfl), F⟩
  m_D_told := by
    obtain ⟨fd, F⟩ := c.def_ 31 (d := d_D_told) rfl
    exact ⟨_, fd, He.meth_ok (c.fact 74 (f := .meth "DayText" "told") rfl), F⟩
  m_S_take := by
    obtain ⟨fd, F⟩ := c.def_ 33 (d := d_S_take) rfl
    exact ⟨_, fd, He.meth_ok (c.fact 80 (f := .meth "SequenceText" "take") rfl), F⟩
  m_S_ends := by
    obtain ⟨fd, F⟩ := c.def_ 34 (d := d_S_ends) rfl
    exact ⟨_, fd, He.meth_ok (c.fact 81 (f := .meth "SequenceText" "ends") rfl), F⟩
  m_S_told := by
    obtain ⟨fd, F⟩ := c.def_ 35 (d := d_S_told) rfl
    exact ⟨_, fd, He.meth_ok (c.fact 82 (f := .meth "SequenceText" "told") rfl), F⟩
  m_Tb_eq := by
    obtain ⟨fd, F⟩ := c.def_ 38 (d := d_Tb_eq) rfl
    exact ⟨_, fd, He.meth_ok (c.fact 88 (f := .meth "Table" "__eq__") rfl), F⟩
  m_T_take := by
    obtain ⟨fd, F⟩ := c.def_ 40 (d := d_T_take) rfl
    exact ⟨_, fd, He.meth_ok (c.fact 95 (f := .meth "TableText" "take") rfl), F⟩
  m_T_end_line := by
    obtain ⟨fd, F⟩ := c.def_ 41 (d := d_T_end_line) rfl
    exact ⟨_, fd, He.meth_ok (c.fact 96 (f := .meth "TableText" "end_line") rfl), F⟩
  m_T_ends := by
    obtain ⟨fd, F⟩ := c.def_ 42 (d := d_T_ends) rfl
    exact ⟨_, fd, He.meth_ok (c.fact 97 (f := .meth "TableText" "ends") rfl), F⟩
  m_T_told := by
    obtain ⟨fd, F⟩ := c.def_ 43 (d := d_T_told) rfl
    exact ⟨_, fd, He.meth_ok (c.fact 98 (f := .meth "TableText" "told") rfl), F⟩
  i_F := by
    obtain ⟨fd, F⟩ := c.def_ 19 (d := d_F_init) rfl
    exact ⟨_, fd, He.mkr_ok (c.fact 49 (f := .mkr "FractionText") rfl), F⟩
  i_D := by
    obtain ⟨fd, F⟩ := c.def_ 24 (d := d_D_init) rfl
    exact ⟨_, fd, He.mkr_ok (c.fact 60 (f := .mkr "DayText") rfl), F⟩
  i_S := by
    obtain ⟨fd, F⟩ := c.def_ 32 (d := d_S_init) rfl
    exact ⟨_, fd, He.mkr_ok (c.fact 77 (f := .mkr "SequenceText") rfl), F⟩
  i_Tb := by
    obtain ⟨fd, F⟩ := c.def_ 37 (d := d_Tb_init) rfl
    exact ⟨_, fd, He.mkr_ok (c.fact 85 (f := .mkr "Table") rfl), F⟩
  i_T := by
    obtain ⟨fd, F⟩ := c.def_ 39 (d := d_T_init) rfl
    exact ⟨_, fd, He.mkr_ok (c.fact 91 (f := .mkr "TableText") rfl), F⟩
  c_F := He.cls_ok (c.fact 48 (f := .cls "FractionText") rfl)
  g_F := He.glo_ok X G (c.fact 47 (f := .glo "FractionText") rfl)
  n_F_stage := He.noat_ok (c.fact 50 (f := .noat "FractionText" "stage") rfl)
  n_F_sign := He.noat_ok (c.fact 51 (f := .noat "FractionText" "sign") rfl)
  n_F_top := He.noat_ok (c.fact 52 (f := .noat "FractionText" "top") rfl)
  n_F_bottom := He.noat_ok (c.fact 53 (f := .noat "FractionText" "bottom") rfl)
  c_D := He.cls_ok (c.fact 59 (f := .cls "DayText") rfl)
  g_D := He.glo_ok X G (c.fact 58 (f := .glo "DayText") rfl)
  n_D_table := He.noat_ok (c.fact 61 (f := .noat "DayText" "table") rfl)
  n_D_rounded := He.noat_ok (c.fact 62 (f := .noat "DayText" "rounded") rfl)
  n_D_stage := He.noat_ok (c.fact 63 (f := .noat "DayText" "stage") rfl)
  n_D_lines := He.noat_ok (c.fact 64 (f := .noat "DayText" "lines") rfl)
  n_D_kind := He.noat_ok (c.fact 65 (f := .noat "DayText" "kind") rfl)
  n_D_amount := He.noat_ok (c.fact 66 (f := .noat "DayText" "amount") rfl)
  n_D_wholes := He.noat_ok (c.fact 67 (f := .noat "DayText" "wholes") rfl)
  c_S := He.cls_ok (c.fact 76 (f := .cls "SequenceText") rfl)
  g_S := He.glo_ok X G (c.fact 75 (f := .glo "SequenceText") rfl)
  n_S_table := He.noat_ok (c.fact 78 (f := .noat "SequenceText" "table") rfl)
  n_S_row := He.noat_ok (c.fact 79 (f := .noat "SequenceText" "row") rfl)
  c_Tb := He.cls_ok (c.fact 84 (f := .cls "Table") rfl)
  g_Tb := He.glo_ok X G (c.fact 83 (f := .glo "Table") rfl)
  n_Tb_kinds := He.noat_ok (c.fact 86 (f := .noat "Table" "kinds") rfl)
  n_Tb_totals := He.noat_ok (c.fact 87 (f := .noat "Table" "totals") rfl)
  c_T := He.cls_ok (c.fact 90 (f := .cls "TableText") rfl)
  g_T := He.glo_ok X G (c.fact 89 (f := .glo "TableText") rfl)
  n_T_stage := He.noat_ok (c.fact 92 (f := .noat "TableText" "stage") rfl)
  n_T_kinds := He.noat_ok (c.fact 93 (f := .noat "TableText" "kinds") rfl)
  n_T_totals := He.noat_ok (c.fact 94 (f := .noat "TableText" "totals") rfl)
  letters := He.str_ok X G (c.fact 99 (f := .str "LETTERS" "abcdefghijklmnopqrstuvwxyz") rfl)
  digits := He.str_ok X G (c.fact 100 (f := .str "DIGITS" "0123456789") rfl)
  k_LONGEST_NAME := He.int_ok X G (c.fact 101 (f := .int "LONGEST_NAME" 6) rfl)
  k_MOST_PART := He.int_ok X G (c.fact 102 (f := .int "MOST_PART" 1000000) rfl)
  k_MOST_LINES := He.int_ok X G (c.fact 103 (f := .int "MOST_LINES" 400) rfl)
  k_MOST_KINDS := He.int_ok X G (c.fact 104 (f := .int "MOST_KINDS" 12) rfl)
  k_MOST_TOTALS := He.int_ok X G (c.fact 105 (f := .int "MOST_TOTALS" 12) rfl)
  e_Tb_cls := (exB_ok e).1
  e_Tb_get := (exB_ok e).2.1
  e_Tb_tk := (exB_ok e).2.2.1
  e_Tb_mro := (exB_ok e).2.2.2
  z_isinstance := He.free_ok X G (c.fact 106 (f := .free "isinstance") rfl)
  z_int := He.free_ok X G (c.fact 107 (f := .free "int") rfl)
  z_bool := He.free_ok X G (c.fact 108 (f := .free "bool") rfl)
  z_str := He.free_ok X G (c.fact 109 (f := .free "str") rfl)
  z_tuple := He.free_ok X G (c.fact 110 (f := .free "tuple") rfl)
  z_list := He.free_ok X G (c.fact 111 (f := .free "list") rfl)
  z_len := He.free_ok X G (c.fact 112 (f := .free "len") rfl)
  z_all := He.free_ok X G (c.fact 113 (f := .free "all") rfl)
  z_any := He.free_ok X G (c.fact 114 (f := .free "any") rfl)
  z_range := He.free_ok X G (c.fact 115 (f := .free "range") rfl)
  z_enumerate := He.free_ok X G (c.fact 116 (f := .free "enumerate") rfl)
  z_sorted := He.free_ok X G (c.fact 117 (f := .free "sorted") rfl)
  z_abs := He.free_ok X G (c.fact 118 (f := .free "abs") rfl)
  z_sum := He.free_ok X G (c.fact 119 (f := .free "sum") rfl)
  z_max := He.free_ok X G (c.fact 120 (f := .free "max") rfl)
  z_repr := He.free_ok X G (c.fact 121 (f := .free "repr") rfl)
theorem facts {P : Program} {w : World} {K : PySem.W.Frag} {h : Heap} {mg : Str → Option Value} {f : Addr} (X : K.In h) (G : h.Ns mainGlobals mg) (hfa : mg ("law" : Str) = some (.ref f)) (c : He.SaysD fa fn K) (e : exB K = true) :
    ∃ fd : FuncData, (∀ (s : Shared) (v : Value), BindsTo s fd ⟨[v], []⟩ [("_law_script", v)]) ∧ ∀ base : Heap, FnOk P w K mg base CX0 12 f fd ["_law_script"] (sp1 (p_law K)) := by
  have T := txt_of X G c e
  obtain ⟨f', fd, hm, FD⟩ := T.f_law.ex
  have e1 := hfa.symm.trans hm
  cases e1
  have b := FunD.bindsA (ps := ["_law_script"]) FD fun _ _ _ _ _ _ us hl => match us, hl with | [_], _ => rfl
  exact ⟨fd, fun s v => b s [v] rfl, fun base => fd_ok FD sc_law len1 (law_body T)⟩
end K7
open PySem PySem.W PySem.Calls PyProof.Rows
theorem PySem.Challenge.cw_centsatonce_k07_whole_there_and_back_wit_holds : PySem.Challenge.rw_centsatonce_k07_whole_there_and_back_wit.Holds := by
  w_on; o_law
  refine HandSHeadRun.head_any (r := OpenLaw.row PySem.Challenge.rw_centsatonce_k07_whole_there_and_back_wit) (q := view (OpenLaw.row PySem.Challenge.rw_centsatonce_k07_whole_there_and_back_wit).prog [75]) (H := K7.hk) (ob := K7.ob) (M := 6000) (loose := K7.loose) (d := HandSHeadRun.topDef (OpenLaw.row PySem.Challenge.rw_centsatonce_k07_whole_there_and_back_wit).prog 75) (kwd := []) K7.ob_eq
    (by kernel_rfl) (fun s => by kernel_rfl) K7.run (by kernel_rfl) (by kernel_rfl) (by kernel_rfl) (by rfl) (by first | assumption | decide +kernel) (by decide +kernel) ⟨rfl, rfl, rfl, rfl, rfl, by decide +kernel⟩ ?hw ?hc
  case hw => w_witness2
  case hc =>
    refine L2.walk_ofE (l := PySem.Challenge.rw_centsatonce_k07_whole_there_and_back_wit) (k := 12) (x := "_law_script") (CX := L2.CX0) rfl (by decide) (by kernel_rfl) ⟨rfl, by decide, by decide⟩ ?F (fun _ _ _ _ z => z)
    intro w mg fa h Y G hmg0
    obtain ⟨K, KX, c, e⟩ := Y
    have hmg : mg ("law" : PySem.Str) = some (.ref fa) := by
      have e : (HandSHeadRun.topDef (OpenLaw.row PySem.Challenge.rw_centsatonce_k07_whole_there_and_back_wit).prog 75).name = ("law" : PySem.Str) := by kernel_rfl
      rw [← e]
      exact hmg0
    obtain ⟨fd, hb, hF⟩ := K7.facts (P := (PySem.Challenge.rw_centsatonce_k07_whole_there_and_back_wit).prog) (w := w) KX G hmg c e
    exact ⟨K, fd, K7.sp1 (K7.p_law K), KX, hb, fun H a ns hl _ hS => ⟨_, rfl, a, ns, rfl, hS, fun _ => rfl⟩, fun base _ _ => hF base⟩
