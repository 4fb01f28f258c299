import PyProof.Rows.All
import Wide.All
import OpenK.AllK
import Wide.FinOn
import KE.KStateDown
import Lean
import HandS.ForMost
import HandS.Defaults
import HandS.Head0
import HandS.Head1
import HandS.Head2
import HandS.HeadEnd
import HandS.HeadHook1
import HandS.HeadHook2
import HandS.HeadHook3
import HandS.HeadHook4
import HandS.TupAny
import HandS.IsInst
import HandS.Deep
import HandS.Conv
import HandS.TupLen
import HandS.Style
import HandS.Zip
import HandS.Walk
import KE.GoesEnum
import KE.GoesZip
import KE.GoesMore
import KE.KEqDict
import KE.SortData
import HandS.Set
import HandS.SetTxt0
import HandS.SetFor
import HandS.TupSets
import HandS.Strs
import HandS.More
import HandS.Evl
import PySem.Challenge.RW_smallrooms_k83_whole_traces_and_stretche
set_option Elab.async false
set_option linter.all false
set_option maxRecDepth 100000
section
set_option Elab.async false
set_option linter.all false
set_option maxRecDepth 100000
/-! the defs of the text by their places; printed by gen_text.py -/
namespace Sr
open PySem PySem.Spec PyProof.Rows L2
def top (i : Nat) : Stmt := PySem.Challenge.pw_smallrooms_k83_whole_traces_and_stretche.main.body.getD i (.Pass ⟨0, 0, 0, 0⟩)
abbrev FnP (K : PySem.W.Frag) (x q : Str) (st : Stmt) (f : Addr) (fd : FuncData) : Prop := FunD K x q (defArgs st) (defBody st) (defScope st) [] [] f fd
abbrev s_is_whole : Stmt := top 11
abbrev s_is_between : Stmt := top 12
abbrev s_is_name : Stmt := top 13
abbrev s_sums_of : Stmt := top 14
abbrev s_spots_in : Stmt := top 15
abbrev s_spots : Stmt := top 16
abbrev s_reckoned : Stmt := top 18
abbrev s_Run_init : Stmt := inClass (top 19) 0
abbrev s_Run_refuse : Stmt := inClass (top 19) 1
abbrev s_Run_worth : Stmt := inClass (top 19) 2
abbrev s_Run_by_zero : Stmt := inClass (top 19) 3
abbrev s_Run_note : Stmt := inClass (top 19) 4
abbrev s_Run_block : Stmt := inClass (top 19) 5
abbrev s_Run_deed : Stmt := inClass (top 19) 6
abbrev s_Run_rounds : Stmt := inClass (top 19) 7
abbrev s_first_book : Stmt := top 20
abbrev s_end_of : Stmt := top 21
abbrev s_run : Stmt := top 22
abbrev s_traced : Stmt := top 23
abbrev s_Trace_init : Stmt := inClass (top 25) 0
abbrev s_Trace_go : Stmt := inClass (top 25) 1
abbrev s_Trace_passed : Stmt := inClass (top 25) 4
abbrev s_Trace_unseen : Stmt := inClass (top 25) 7
abbrev s_Trace_outcome : Stmt := inClass (top 25) 8
abbrev s_deeds_of : Stmt := top 27
abbrev s_names_in : Stmt := top 28
abbrev s_used_at : Stmt := top 29
abbrev s_other_name : Stmt := top 30
abbrev s_sum_by : Stmt := top 31
abbrev s_block_by : Stmt := top 32
abbrev s_exchanged : Stmt := top 33
abbrev s_joined : Stmt := top 36
abbrev s_met : Stmt := top 37
abbrev s_is_within : Stmt := top 38
abbrev s_by_ends : Stmt := top 39
abbrev s_divided : Stmt := top 40
abbrev s_asked : Stmt := top 41
abbrev s_stretch_of : Stmt := top 42
abbrev s_is_shelf : Stmt := top 44
abbrev s_book_of : Stmt := top 45
abbrev s_shelf_of : Stmt := top 46
abbrev s_joined_books : Stmt := top 47
abbrev s_is_book_within : Stmt := top 48
abbrev s_reckoned_from : Stmt := top 49
abbrev s_without_worth : Stmt := top 50
abbrev s_kept_to : Stmt := top 51
abbrev s_unlike_to : Stmt := top 52
abbrev s_behind : Stmt := top 53
abbrev s_Walk_init : Stmt := inClass (top 55) 0
abbrev s_Walk_stretch : Stmt := inClass (top 55) 1
abbrev s_Walk_block : Stmt := inClass (top 55) 2
abbrev s_Walk_deed : Stmt := inClass (top 55) 3
abbrev s_Walk_block_behind : Stmt := inClass (top 55) 4
abbrev s_Walk_round_from : Stmt := inClass (top 55) 5
abbrev s_Walk_rounds : Stmt := inClass (top 55) 6
abbrev s_Finder_rounds : Stmt := inClass (top 56) 0
abbrev s_Finder_next_head : Stmt := inClass (top 56) 1
abbrev s_widened : Stmt := top 57
abbrev s_ins_book : Stmt := top 58
abbrev s_paper_for : Stmt := top 59
abbrev s_are_heads : Stmt := top 60
abbrev s_walked : Stmt := top 61
abbrev s_shown : Stmt := top 62
abbrev s_all_worths : Stmt := top 64
abbrev s_exact : Stmt := top 65
abbrev s_law_cell : Stmt := top 67
abbrev s_law_pick : Stmt := top 68
abbrev s_law_sum : Stmt := top 69
abbrev s_law_counted : Stmt := top 70
abbrev s_law_block : Stmt := top 71
abbrev s_law_program : Stmt := top 72
abbrev s_law : Stmt := top 73
end Sr
end
section
set_option Elab.async false
set_option linter.all false
set_option maxRecDepth 100000
set_option maxHeartbeats 0
/-! the head: facts by names, the run; printed by gen_text.py -/
namespace Sr
open PySem PySem.Spec PyProof.Rows L2
def d_Finder_init : He.DefD := ⟨("Finder", some "__init__"), "__init__", "Walk.__init__", defArgs s_Walk_init, defBody s_Walk_init, defScope s_Walk_init, [], []⟩
def d_Finder_stretch : He.DefD := ⟨("Finder", some "stretch"), "stretch", "Walk.stretch", defArgs s_Walk_stretch, defBody s_Walk_stretch, defScope s_Walk_stretch, [], []⟩
def d_Finder_block : He.DefD := ⟨("Finder", some "block"), "block", "Walk.block", defArgs s_Walk_block, defBody s_Walk_block, defScope s_Walk_block, [], []⟩
def d_Finder_deed : He.DefD := ⟨("Finder", some "deed"), "deed", "Walk.deed", defArgs s_Walk_deed, defBody s_Walk_deed, defScope s_Walk_deed, [], []⟩
def d_Finder_block_behind : He.DefD := ⟨("Finder", some "block_behind"), "block_behind", "Walk.block_behind", defArgs s_Walk_block_behind, defBody s_Walk_block_behind, defScope s_Walk_block_behind, [], []⟩
def d_Finder_round_from : He.DefD := ⟨("Finder", some "round_from"), "round_from", "Walk.round_from", defArgs s_Walk_round_from, defBody s_Walk_round_from, defScope s_Walk_round_from, [], []⟩
def d_is_whole : He.DefD := ⟨("is_whole", none), "is_whole", "is_whole", defArgs s_is_whole, defBody s_is_whole, defScope s_is_whole, [], []⟩
def d_is_between : He.DefD := ⟨("is_between", none), "is_between", "is_between", defArgs s_is_between, defBody s_is_between, defScope s_is_between, [], []⟩
def d_is_name : He.DefD := ⟨("is_name", none), "is_name", "is_name", defArgs s_is_name, defBody s_is_name, defScope s_is_name, [], []⟩
def d_sums_of : He.DefD := ⟨("sums_of", none), "sums_of", "sums_of", defArgs s_sums_of, defBody s_sums_of, defScope s_sums_of, [], []⟩
def d_spots_in : He.DefD := ⟨("spots_in", none), "spots_in", "spots_in", defArgs s_spots_in, defBody s_spots_in, defScope s_spots_in, [], []⟩
def d_spots : He.DefD := ⟨("spots", none), "spots", "spots", defArgs s_spots, defBody s_spots, defScope s_spots, [], []⟩
def d_reckoned : He.DefD := ⟨("reckoned", none), "reckoned", "reckoned", defArgs s_reckoned, defBody s_reckoned, defScope s_reckoned, [], []⟩
def d_Run_init : He.DefD := ⟨("Run", some "__init__"), "__init__", "Run.__init__", defArgs s_Run_init, defBody s_Run_init, defScope s_Run_init, [], []⟩
def d_Run_refuse : He.DefD := ⟨("Run", some "refuse"), "refuse", "Run.refuse", defArgs s_Run_refuse, defBody s_Run_refuse, defScope s_Run_refuse, [], []⟩
def d_Run_worth : He.DefD := ⟨("Run", some "worth"), "worth", "Run.worth", defArgs s_Run_worth, defBody s_Run_worth, defScope s_Run_worth, [], []⟩
def d_Run_by_zero : He.DefD := ⟨("Run", some "by_zero"), "by_zero", "Run.by_zero", defArgs s_Run_by_zero, defBody s_Run_by_zero, defScope s_Run_by_zero, [], []⟩
def d_Run_note : He.DefD := ⟨("Run", some "note"), "note", "Run.note", defArgs s_Run_note, defBody s_Run_note, defScope s_Run_note, [], []⟩
def d_Run_block : He.DefD := ⟨("Run", some "block"), "block", "Run.block", defArgs s_Run_block, defBody s_Run_block, defScope s_Run_block, [], []⟩
def d_Run_deed : He.DefD := ⟨("Run", some "deed"), "deed", "Run.deed", defArgs s_Run_deed, defBody s_Run_deed, defScope s_Run_deed, [], []⟩
def d_Run_rounds : He.DefD := ⟨("Run", some "rounds"), "rounds", "Run.rounds", defArgs s_Run_rounds, defBody s_Run_rounds, defScope s_Run_rounds, [], []⟩
def d_first_book : He.DefD := ⟨("first_book", none), "first_book", "first_book", defArgs s_first_book, defBody s_first_book, defScope s_first_book, [], []⟩
def d_end_of : He.DefD := ⟨("end_of", none), "end_of", "end_of", defArgs s_end_of, defBody s_end_of, defScope s_end_of, [], []⟩
def d_run : He.DefD := ⟨("run", none), "run", "run", defArgs s_run, defBody s_run, defScope s_run, [], []⟩
def d_traced : He.DefD := ⟨("traced", none), "traced", "traced", defArgs s_traced, defBody s_traced, defScope s_traced, [], []⟩
def d_Trace_init : He.DefD := ⟨("Trace", some "__init__"), "__init__", "Trace.__init__", defArgs s_Trace_init, defBody s_Trace_init, defScope s_Trace_init, [], []⟩
def d_Trace_go : He.DefD := ⟨("Trace", some "go"), "go", "Trace.go", defArgs s_Trace_go, defBody s_Trace_go, defScope s_Trace_go, [], []⟩
def d_Trace_passed : He.DefD := ⟨("Trace", some "passed"), "passed", "Trace.passed", defArgs s_Trace_passed, defBody s_Trace_passed, defScope s_Trace_passed, [], []⟩
def d_Trace_unseen : He.DefD := ⟨("Trace", some "unseen"), "unseen", "Trace.unseen", defArgs s_Trace_unseen, defBody s_Trace_unseen, defScope s_Trace_unseen, [], []⟩
def d_Trace_outcome : He.DefD := ⟨("Trace", some "outcome"), "outcome", "Trace.outcome", defArgs s_Trace_outcome, defBody s_Trace_outcome, defScope s_Trace_outcome, [], []⟩
def d_deeds_of : He.DefD := ⟨("deeds_of", none), "deeds_of", "deeds_of", defArgs s_deeds_of, defBody s_deeds_of, defScope s_deeds_of, [], []⟩
def d_names_in : He.DefD := ⟨("names_in", none), "names_in", "names_in", defArgs s_names_in, defBody s_names_in, defScope s_names_in, [], []⟩
def d_used_at : He.DefD := ⟨("used_at", none), "used_at", "used_at", defArgs s_used_at, defBody s_used_at, defScope s_used_at, [], []⟩
def d_other_name : He.DefD := ⟨("other_name", none), "other_name", "other_name", defArgs s_other_name, defBody s_other_name, defScope s_other_name, [], []⟩
def d_sum_by : He.DefD := ⟨("sum_by", none), "sum_by", "sum_by", defArgs s_sum_by, defBody s_sum_by, defScope s_sum_by, [], []⟩
def d_block_by : He.DefD := ⟨("block_by", none), "block_by", "block_by", defArgs s_block_by, defBody s_block_by, defScope s_block_by, [], []⟩
def d_exchanged : He.DefD := ⟨("exchanged", none), "exchanged", "exchanged", defArgs s_exchanged, defBody s_exchanged, defScope s_exchanged, [], []⟩
def d_joined : He.DefD := ⟨("joined", none), "joined", "joined", defArgs s_joined, defBody s_joined, defScope s_joined, [], []⟩
def d_met : He.DefD := ⟨("met", none), "met", "met", defArgs s_met, defBody s_met, defScope s_met, [], []⟩
def d_is_within : He.DefD := ⟨("is_within", none), "is_within", "is_within", defArgs s_is_within, defBody s_is_within, defScope s_is_within, [], []⟩
def d_by_ends : He.DefD := ⟨("by_ends", none), "by_ends", "by_ends", defArgs s_by_ends, defBody s_by_ends, defScope s_by_ends, [], []⟩
def d_divided : He.DefD := ⟨("divided", none), "divided", "divided", defArgs s_divided, defBody s_divided, defScope s_divided, [], []⟩
def d_asked : He.DefD := ⟨("asked", none), "asked", "asked", defArgs s_asked, defBody s_asked, defScope s_asked, [], []⟩
def d_stretch_of : He.DefD := ⟨("stretch_of", none), "stretch_of", "stretch_of", defArgs s_stretch_of, defBody s_stretch_of, defScope s_stretch_of, [], []⟩
def d_is_shelf : He.DefD := ⟨("is_shelf", none), "is_shelf", "is_shelf", defArgs s_is_shelf, defBody s_is_shelf, defScope s_is_shelf, [], []⟩
def d_book_of : He.DefD := ⟨("book_of", none), "book_of", "book_of", defArgs s_book_of, defBody s_book_of, defScope s_book_of, [], []⟩
def d_shelf_of : He.DefD := ⟨("shelf_of", none), "shelf_of", "shelf_of", defArgs s_shelf_of, defBody s_shelf_of, defScope s_shelf_of, [], []⟩
def d_joined_books : He.DefD := ⟨("joined_books", none), "joined_books", "joined_books", defArgs s_joined_books, defBody s_joined_books, defScope s_joined_books, [], []⟩
def d_is_book_within : He.DefD := ⟨("is_book_within", none), "is_book_within", "is_book_within", defArgs s_is_book_within, defBody s_is_book_within, defScope s_is_book_within, [], []⟩
def d_reckoned_from : He.DefD := ⟨("reckoned_from", none), "reckoned_from", "reckoned_from", defArgs s_reckoned_from, defBody s_reckoned_from, defScope s_reckoned_from, [], []⟩
def d_without_worth : He.DefD := ⟨("without_worth", none), "without_worth", "without_worth", defArgs s_without_worth, defBody s_without_worth, defScope s_without_worth, [], []⟩
def d_kept_to : He.DefD := ⟨("kept_to", none), "kept_to", "kept_to", defArgs s_kept_to, defBody s_kept_to, defScope s_kept_to, [], []⟩
def d_unlike_to : He.DefD := ⟨("unlike_to", none), "unlike_to", "unlike_to", defArgs s_unlike_to, defBody s_unlike_to, defScope s_unlike_to, [], []⟩
def d_behind : He.DefD := ⟨("behind", none), "behind", "behind", defArgs s_behind, defBody s_behind, defScope s_behind, [], []⟩
def d_Walk_init : He.DefD := ⟨("Walk", some "__init__"), "__init__", "Walk.__init__", defArgs s_Walk_init, defBody s_Walk_init, defScope s_Walk_init, [], []⟩
def d_Walk_stretch : He.DefD := ⟨("Walk", some "stretch"), "stretch", "Walk.stretch", defArgs s_Walk_stretch, defBody s_Walk_stretch, defScope s_Walk_stretch, [], []⟩
def d_Walk_block : He.DefD := ⟨("Walk", some "block"), "block", "Walk.block", defArgs s_Walk_block, defBody s_Walk_block, defScope s_Walk_block, [], []⟩
def d_Walk_deed : He.DefD := ⟨("Walk", some "deed"), "deed", "Walk.deed", defArgs s_Walk_deed, defBody s_Walk_deed, defScope s_Walk_deed, [], []⟩
def d_Walk_block_behind : He.DefD := ⟨("Walk", some "block_behind"), "block_behind", "Walk.block_behind", defArgs s_Walk_block_behind, defBody s_Walk_block_behind, defScope s_Walk_block_behind, [], []⟩
def d_Walk_round_from : He.DefD := ⟨("Walk", some "round_from"), "round_from", "Walk.round_from", defArgs s_Walk_round_from, defBody s_Walk_round_from, defScope s_Walk_round_from, [], []⟩
def d_Walk_rounds : He.DefD := ⟨("Walk", some "rounds"), "rounds", "Walk.rounds", defArgs s_Walk_rounds, defBody s_Walk_rounds, defScope s_Walk_rounds, [], []⟩
def d_Finder_rounds : He.DefD := ⟨("Finder", some "rounds"), "rounds", "Finder.rounds", defArgs s_Finder_rounds, defBody s_Finder_rounds, defScope s_Finder_rounds, [], []⟩
def d_Finder_next_head : He.DefD := ⟨("Finder", some "next_head"), "next_head", "Finder.next_head", defArgs s_Finder_next_head, defBody s_Finder_next_head, defScope s_Finder_next_head, [], []⟩
def d_widened : He.DefD := ⟨("widened", none), "widened", "widened", defArgs s_widened, defBody s_widened, defScope s_widened, [], []⟩
def d_ins_book : He.DefD := ⟨("ins_book", none), "ins_book", "ins_book", defArgs s_ins_book, defBody s_ins_book, defScope s_ins_book, [], []⟩
def d_paper_for : He.DefD := ⟨("paper_for", none), "paper_for", "paper_for", defArgs s_paper_for, defBody s_paper_for, defScope s_paper_for, [], []⟩
def d_are_heads : He.DefD := ⟨("are_heads", none), "are_heads", "are_heads", defArgs s_are_heads, defBody s_are_heads, defScope s_are_heads, [], []⟩
def d_walked : He.DefD := ⟨("walked", none), "walked", "walked", defArgs s_walked, defBody s_walked, defScope s_walked, [], []⟩
def d_shown : He.DefD := ⟨("shown", none), "shown", "shown", defArgs s_shown, defBody s_shown, defScope s_shown, [], []⟩
def d_all_worths : He.DefD := ⟨("all_worths", none), "all_worths", "all_worths", defArgs s_all_worths, defBody s_all_worths, defScope s_all_worths, [], []⟩
def d_exact : He.DefD := ⟨("exact", none), "exact", "exact", defArgs s_exact, defBody s_exact, defScope s_exact, [], []⟩
def d_law_cell : He.DefD := ⟨("_law_cell", none), "_law_cell", "_law_cell", defArgs s_law_cell, defBody s_law_cell, defScope s_law_cell, [], []⟩
def d_law_pick : He.DefD := ⟨("_law_pick", none), "_law_pick", "_law_pick", defArgs s_law_pick, defBody s_law_pick, defScope s_law_pick, [], []⟩
def d_law_sum : He.DefD := ⟨("_law_sum", none), "_law_sum", "_law_sum", defArgs s_law_sum, defBody s_law_sum, defScope s_law_sum, [], []⟩
def d_law_counted : He.DefD := ⟨("_law_counted", none), "_law_counted", "_law_counted", defArgs s_law_counted, defBody s_law_counted, defScope s_law_counted, [], []⟩
def d_law_block : He.DefD := ⟨("_law_block", none), "_law_block", "_law_block", defArgs s_law_block, defBody s_law_block, defScope s_law_block, [], []⟩
def d_law_program : He.DefD := ⟨("_law_program", none), "_law_program", "_law_program", defArgs s_law_program, defBody s_law_program, defScope s_law_program, [], []⟩
def d_law : He.DefD := ⟨("law", none), "law", "law", defArgs s_law, defBody s_law, defScope s_law, [], []⟩
def fn_0 : List He.DefD := [d_is_whole, d_is_between, d_is_name, d_sums_of, d_spots_in, d_spots, d_reckoned, d_Run_init, d_Run_refuse, d_Run_worth, d_Run_by_zero, d_Run_note, d_Run_block, d_Run_deed, d_Run_rounds, d_first_book, d_end_of, d_run, d_traced, d_Trace_init]
def fn_1 : List He.DefD := [d_Trace_go, d_Trace_passed, d_Trace_unseen, d_Trace_outcome, d_deeds_of, d_names_in, d_used_at, d_other_name, d_sum_by, d_block_by, d_exchanged, d_joined, d_met, d_is_within, d_by_ends, d_divided, d_asked, d_stretch_of, d_is_shelf, d_book_of]
def fn_2 : List He.DefD := [d_shelf_of, d_joined_books, d_is_book_within, d_reckoned_from, d_without_worth, d_kept_to, d_unlike_to, d_behind, d_Walk_init, d_Walk_stretch, d_Walk_block, d_Walk_deed, d_Walk_block_behind, d_Walk_round_from, d_Walk_rounds, d_Finder_rounds, d_Finder_next_head, d_widened, d_ins_book, d_paper_for]
def fn_3 : List He.DefD := [d_are_heads, d_walked, d_shown, d_all_worths, d_exact, d_law_cell, d_law_pick, d_law_sum, d_law_counted, d_law_block, d_law_program, d_law, d_Finder_init, d_Finder_stretch, d_Finder_block, d_Finder_deed, d_Finder_block_behind, d_Finder_round_from]
def fn : List He.DefD := fn_0 ++ (fn_1 ++ (fn_2 ++ (fn_3)))
def fa_0 : List He.Fa := [.glo "is_whole", .glo "is_between", .glo "is_name", .glo "sums_of", .glo "spots_in", .glo "spots", .glo "reckoned", .glo "first_book", .glo "end_of", .glo "run", .glo "traced", .glo "deeds_of", .glo "names_in", .glo "used_at", .glo "other_name", .glo "sum_by", .glo "block_by", .glo "exchanged", .glo "joined", .glo "met"]
def fa_1 : List He.Fa := [.glo "is_within", .glo "by_ends", .glo "divided", .glo "asked", .glo "stretch_of", .glo "is_shelf", .glo "book_of", .glo "shelf_of", .glo "joined_books", .glo "is_book_within", .glo "reckoned_from", .glo "without_worth", .glo "kept_to", .glo "unlike_to", .glo "behind", .glo "widened", .glo "ins_book", .glo "paper_for", .glo "are_heads", .glo "walked"]
def fa_2 : List He.Fa := [.glo "shown", .glo "all_worths", .glo "exact", .glo "_law_cell", .glo "_law_pick", .glo "_law_sum", .glo "_law_counted", .glo "_law_block", .glo "_law_program", .glo "law", .glo "Run", .glo "Trace", .glo "Walk", .glo "Finder", .free "isinstance", .free "int", .free "bool", .free "str", .free "tuple", .free "len"]
def fa_3 : List He.Fa := [.free "all", .free "enumerate", .free "dict", .free "list", .free "sorted", .free "zip", .free "set", .free "min", .free "max", .free "range", .int "LONGEST" 2, .int "GREATEST" 32767, .int "LEAST" (-32768), .str "SMALL" "abcdefghijklmnopqrstuvwxyz", .glo "WIDE", .cls "Run", .mkr "Run", .noat "Run" "book", .noat "Run" "plan", .noat "Run" "seen"]
def fa_4 : List He.Fa := [.noat "Run" "fault", .meth "Run" "refuse", .meth "Run" "worth", .meth "Run" "by_zero", .meth "Run" "note", .meth "Run" "block", .meth "Run" "deed", .meth "Run" "rounds", .cls "Trace", .mkr "Trace", .noat "Trace" "rows", .noat "Trace" "program", .noat "Trace" "worths", .noat "Trace" "place", .meth "Trace" "go", .meth "Trace" "passed", .meth "Trace" "unseen", .meth "Trace" "outcome", .cls "Walk", .mkr "Walk"]
def fa_5 : List He.Fa := [.noat "Walk" "heads", .noat "Walk" "notes", .noat "Walk" "used", .meth "Walk" "stretch", .meth "Walk" "block", .meth "Walk" "deed", .meth "Walk" "block_behind", .meth "Walk" "round_from", .meth "Walk" "rounds", .cls "Finder", .mkr "Finder", .noat "Finder" "heads", .noat "Finder" "notes", .noat "Finder" "used", .meth "Finder" "stretch", .meth "Finder" "block", .meth "Finder" "deed", .meth "Finder" "block_behind", .meth "Finder" "round_from", .meth "Finder" "rounds"]
def fa_6 : List He.Fa := [.meth "Finder" "next_head"]
def fa : List He.Fa := fa_0 ++ (fa_1 ++ (fa_2 ++ (fa_3 ++ (fa_4 ++ (fa_5 ++ (fa_6))))))
def loose_0 : List PySem.Str := ["_wall", "RoomError", "NoWorths", "BadPaper", "NoStep", "SMALL", "LONGEST", "GREATEST", "LEAST", "is_whole", "is_between", "is_name", "sums_of", "spots_in", "spots", "reckoned", "Run", "first_book", "end_of", "run"]
def loose_1 : List PySem.Str := ["traced", "Trace", "deeds_of", "names_in", "used_at", "other_name", "sum_by", "block_by", "exchanged", "WIDE", "joined", "met", "is_within", "by_ends", "divided", "asked", "stretch_of", "is_shelf", "book_of", "shelf_of"]
def loose_2 : List PySem.Str := ["joined_books", "is_book_within", "reckoned_from", "without_worth", "kept_to", "unlike_to", "behind", "Walk", "Finder", "widened", "ins_book", "paper_for", "are_heads", "walked", "shown", "all_worths", "exact", "_law_cell", "_law_pick", "_law_sum"]
def loose_3 : List PySem.Str := ["_law_counted", "_law_block", "_law_program"]
def loose : List PySem.Str := loose_0 ++ (loose_1 ++ (loose_2 ++ (loose_3)))
def ex (K : PySem.W.Frag) : Bool := He.tupB K "WIDE" [.int (-32768), .int 32767]
abbrev R : PySem.W.OpenRow := PySem.W.OpenLaw.row PySem.Challenge.rw_smallrooms_k83_whole_traces_and_stretche
abbrev hk : PySem.W.Hook := He.hookX 4 fa fn [] [] ex
def ob (s : PySem.W.SharedT) : He.AlX := He.obsX 4 fa fn [] [] ex (HandSHeadRun.getT s)
theorem ob_eq (s : PySem.W.SharedT) : ob s = hk.obs s.abs := by
  have e : HandSHeadRun.getT s = s.abs.heap.get? := funext fun a => HandSHeadRun.getT_eq s a
  show He.obsX 4 fa fn [] [] ex (HandSHeadRun.getT s) = He.obsX 4 fa fn [] [] ex s.abs.heap.get?
  rw [e]
theorem run (w : World) : HandSHeadRun.RunEq R (PySem.W.view R.prog [73]) hk ob 30000 loose w := by
  intro os
  kernel_rfl
end Sr
end
section
/-! plain data: names, sums, deeds, runs, stretches; no program in sight -/
set_option autoImplicit false
set_option linter.all false
namespace SrM

inductive Nm where
  | a | b | c | d
  deriving DecidableEq, Repr
inductive Wd where
  | add | sub | mul | quo | less | same | min | max
  deriving DecidableEq, Repr
inductive Ex where
  | num (n : Int)
  | name (x : Nm)
  | bin (w : Wd) (l r : Ex)
  deriving DecidableEq, Repr
inductive Dd where
  | set (x : Nm) (e : Ex)
  | ife (e : Ex) (f g : List Dd)
  | whl (e : Ex) (m : Int) (b : List Dd)

abbrev Path := List Int
abbrev Bk (α : Type) := Nm → Option α
abbrev Sg := Int × Int
def put {α : Type} (bk : Bk α) (x : Nm) (v : α) : Bk α := fun y => if y = x then some v else bk y
theorem put_same {α : Type} (bk : Bk α) (x : Nm) (v : α) : put bk x v x = some v := by simp [put]
theorem put_ne {α : Type} {bk : Bk α} {x y : Nm} {v : α} (h : y ≠ x) : put bk x v y = bk y := by simp [put, h]

inductive Fw where
  | zero | over | long
  deriving DecidableEq, Repr
inductive Rs where
  | ok (v : Int)
  | bad (w : Fw) (p : Path)

def b2 (b : Bool) : Int := if b then 1 else 0
def reck (w : Wd) (i j : Int) : Int := match w with
  | .add => i + j
  | .sub => i - j
  | .mul => i * j
  | .quo => i.fdiv j
  | .less => b2 (decide (i < j))
  | .same => b2 (decide (i = j))
  | .min => min i j
  | .max => max i j

def inW (v : Int) : Prop := -32768 ≤ v ∧ v ≤ 32767
instance (v : Int) : Decidable (inW v) := by unfold inW; exact inferInstance
def noteR (p : Path) (v : Int) : Rs := if inW v then .ok v else .bad .over p

/-- what a sum comes to: the rows noted, the end -/
def evS (env : Bk Int) : Ex → Path → List (Path × Int) × Rs
  | .num n, p => ([(p, n)], noteR p n)
  | .name x, p => ([(p, (env x).getD 0)], noteR p ((env x).getD 0))
  | .bin w l r, p => match evS env l (p ++ [0]) with
    | (r1, .bad f q) => (r1, .bad f q)
    | (r1, .ok i) => match evS env r (p ++ [1]) with
      | (r2, .bad f q) => (r1 ++ r2, .bad f q)
      | (r2, .ok j) => if w = .quo ∧ j = 0 then (r1 ++ r2, .bad .zero p) else (r1 ++ r2 ++ [(p, reck w i j)], noteR p (reck w i j))

structure RS where
  env : Bk Int
  seen : List (Path × Int)
  fault : Option (Fw × Path)

def evC (e : Ex) (p : Path) (s : RS) : RS × Option Int := match evS s.env e p with
  | (rows, .ok v) => (⟨s.env, s.seen ++ rows, none⟩, some v)
  | (rows, .bad f q) => (⟨s.env, s.seen ++ rows, some (f, q)⟩, none)

def lpR (cond : RS → RS × Option Int) (body : RS → RS) (p : Path) : Nat → RS → RS
  | n, s => match cond s with
    | (s1, none) => s1
    | (s1, some v) => if v = 0 then s1 else match n with
      | 0 => { s1 with fault := some (.long, p) }
      | n + 1 => if (body s1).fault.isSome then body s1 else lpR cond body p n (body s1)

mutual
def rnD : Dd → Path → RS → RS
  | .set x e, p, s => match evC e (p ++ [0]) s with
    | (s1, some v) => { s1 with env := put s1.env x v }
    | (s1, none) => s1
  | .ife e f g, p, s => match evC e (p ++ [0]) s with
    | (s1, some v) => if v ≠ 0 then rnB f 0 (p ++ [1]) s1 else rnB g 0 (p ++ [2]) s1
    | (s1, none) => s1
  | .whl e m b, p, s => lpR (evC e (p ++ [0])) (fun s => rnB b 0 (p ++ [1]) s) p m.toNat s
def rnB : List Dd → Int → Path → RS → RS
  | [], _, _, s => s
  | d :: ds, k, p, s => rnB ds (k + 1) p (if s.fault.isSome then s else rnD d (p ++ [k]) s)
end

/-! ### stretches -/
def WW : Sg := (-32768, 32767)
def jn (s t : Sg) : Sg := (min s.1 t.1, max s.2 t.2)
def mt (s t : Sg) : Option Sg := if max s.1 t.1 > min s.2 t.2 then none else some (max s.1 t.1, min s.2 t.2)
def oJ (s t : Option Sg) : Option Sg := match s, t with
  | none, t => t
  | some s, none => some s
  | some s, some t => some (jn s t)
def oM (s t : Option Sg) : Option Sg := match s, t with
  | some s, some t => mt s t
  | _, _ => none
def bE (w : Wd) (s t : Sg) : Sg :=
  (min (min (reck w s.1 t.1) (reck w s.1 t.2)) (min (reck w s.2 t.1) (reck w s.2 t.2)), max (max (reck w s.1 t.1) (reck w s.1 t.2)) (max (reck w s.2 t.1) (reck w s.2 t.2)))
def dv (s t : Sg) : Option Sg := oJ ((mt t (min t.1 (-1), -1)).map (bE .quo s)) ((mt t (1, max t.2 1)).map (bE .quo s))
def askL (s t : Sg) : Sg := (b2 (decide (s.2 < t.1)), b2 (decide (s.1 < t.2)))
def askS (s t : Sg) : Sg := (b2 (decide (s.1 = s.2 ∧ s = t)), b2 (mt s t).isSome)
def stO (w : Wd) (s t : Sg) : Option Sg := match w with
  | .quo => dv s t
  | .less => some (askL s t)
  | .same => some (askS s t)
  | w => some (bE w s t)
def stOf (w : Wd) (s t : Option Sg) : Option Sg := match s, t with
  | some s, some t => stO w s t
  | _, _ => none

/-- v lies in s -/
def has (s : Sg) (v : Int) : Prop := s.1 ≤ v ∧ v ≤ s.2

theorem has_jn_l {s t : Sg} {v : Int} (h : has s v) : has (jn s t) v := by
  unfold has jn at *; constructor <;> simp only <;> omega
theorem has_jn_r {s t : Sg} {v : Int} (h : has t v) : has (jn s t) v := by
  unfold has jn at *; constructor <;> simp only <;> omega
theorem has_mt {s t : Sg} {v : Int} (h : has s v) (h' : has t v) : ∃ u, mt s t = some u ∧ has u v := by
  unfold has mt at *
  have : ¬ max s.1 t.1 > min s.2 t.2 := by omega
  rw [if_neg this]
  refine ⟨_, rfl, ?_⟩
  simp only
  omega
theorem mt_sub {s t u : Sg} (h : mt s t = some u) : s.1 ≤ u.1 ∧ t.1 ≤ u.1 ∧ u.2 ≤ s.2 ∧ u.2 ≤ t.2 ∧ u.1 ≤ u.2 := by
  unfold mt at h
  split at h
  · cases h
  · injection h with h
    subst h
    simp only
    omega

def btw (x a b : Int) : Prop := min a b ≤ x ∧ x ≤ max a b
theorem corner {g : Int → Int → Int} {s t : Sg} {i j : Int} (h1 : btw (g i j) (g s.1 j) (g s.2 j)) (h2 : btw (g s.1 j) (g s.1 t.1) (g s.1 t.2)) (h3 : btw (g s.2 j) (g s.2 t.1) (g s.2 t.2)) :
    min (min (g s.1 t.1) (g s.1 t.2)) (min (g s.2 t.1) (g s.2 t.2)) ≤ g i j ∧ g i j ≤ max (max (g s.1 t.1) (g s.1 t.2)) (max (g s.2 t.1) (g s.2 t.2)) := by
  unfold btw at *
  omega
theorem mul_btw {a i b j : Int} (h1 : a ≤ i) (h2 : i ≤ b) : btw (i * j) (a * j) (b * j) := by
  unfold btw
  by_cases hj : 0 ≤ j
  · have e1 := Int.mul_le_mul_of_nonneg_right h1 hj
    have e2 := Int.mul_le_mul_of_nonneg_right h2 hj
    omega
  · have e1 := Int.mul_le_mul_of_nonpos_right h1 (show j ≤ 0 by omega)
    have e2 := Int.mul_le_mul_of_nonpos_right h2 (show j ≤ 0 by omega)
    omega
theorem mul_btw' {a i b j : Int} (h1 : a ≤ i) (h2 : i ≤ b) : btw (j * i) (j * a) (j * b) := by
  rw [Int.mul_comm j i, Int.mul_comm j a, Int.mul_comm j b]
  exact mul_btw h1 h2
/-! floor division by what is positive -/
theorem fd_pos {i j : Int} (h : 0 < j) : i.fdiv j = i / j := Int.fdiv_eq_ediv_of_nonneg i (by omega)
theorem ed_mono {a i j : Int} (h : 0 < j) (h1 : a ≤ i) : a / j ≤ i / j := Int.ediv_le_ediv h h1
theorem ed_nonneg_anti {i t j : Int} (hi : 0 ≤ i) (h : 0 < t) (h1 : t ≤ j) : i / j ≤ i / t := by
  have hj : 0 < j := by omega
  have q0 : 0 ≤ i / j := Int.ediv_nonneg hi (by omega)
  refine (Int.le_ediv_iff_mul_le h).mpr ?_
  have e1 : i / j * j ≤ i := Int.ediv_mul_le i (by omega)
  have e2 : i / j * t ≤ i / j * j := Int.mul_le_mul_of_nonneg_left h1 q0
  omega
theorem ed_neg_mono {i t j : Int} (hi : i < 0) (h : 0 < t) (h1 : t ≤ j) : i / t ≤ i / j := by
  have hj : 0 < j := by omega
  refine (Int.le_ediv_iff_mul_le hj).mpr ?_
  have q0 : i / t ≤ 0 := by
    have := Int.ediv_lt_of_lt_mul h (show i < 0 * t by omega)
    omega
  have e1 : i / t * t ≤ i := Int.ediv_mul_le i (by omega)
  have e2 : i / t * j ≤ i / t * t := Int.mul_le_mul_of_nonpos_left q0 h1
  omega
theorem fd_btw {a i b j : Int} (h : 0 < j) (h1 : a ≤ i) (h2 : i ≤ b) : btw (i.fdiv j) (a.fdiv j) (b.fdiv j) := by
  rw [fd_pos h, fd_pos h, fd_pos h]
  unfold btw
  have e1 := ed_mono h h1
  have e2 := ed_mono h h2
  omega
theorem fd_btw' {a i b j : Int} (h : 0 < a) (h1 : a ≤ i) (h2 : i ≤ b) : btw (j.fdiv i) (j.fdiv a) (j.fdiv b) := by
  rw [fd_pos (by omega : 0 < i), fd_pos h, fd_pos (by omega : 0 < b)]
  unfold btw
  by_cases hj : 0 ≤ j
  · have e1 := ed_nonneg_anti hj h h1
    have e2 := ed_nonneg_anti hj (show 0 < i by omega) h2
    omega
  · have e1 := ed_neg_mono (show j < 0 by omega) h h1
    have e2 := ed_neg_mono (show j < 0 by omega) (show 0 < i by omega) h2
    omega
theorem fd_neg (i j : Int) : i.fdiv j = (-i).fdiv (-j) := (Int.neg_fdiv_neg i j).symm
theorem fdn_btw {a i b j : Int} (h : j < 0) (h1 : a ≤ i) (h2 : i ≤ b) : btw (i.fdiv j) (a.fdiv j) (b.fdiv j) := by
  rw [fd_neg i j, fd_neg a j, fd_neg b j]
  have := fd_btw (a := -b) (i := -i) (b := -a) (j := -j) (by omega) (by omega) (by omega)
  unfold btw at *
  omega
theorem fdn_btw' {a i b j : Int} (h : b < 0) (h1 : a ≤ i) (h2 : i ≤ b) : btw (j.fdiv i) (j.fdiv a) (j.fdiv b) := by
  rw [fd_neg j i, fd_neg j a, fd_neg j b]
  have := fd_btw' (a := -b) (i := -i) (b := -a) (j := -j) (by omega) (by omega) (by omega)
  unfold btw at *
  omega
theorem b2_le (b : Bool) : 0 ≤ b2 b ∧ b2 b ≤ 1 := by cases b <;> decide
theorem bE_has {w : Wd} {s t : Sg} {i j : Int} (hw : w ≠ .quo) (hw1 : w ≠ .less) (hw2 : w ≠ .same) (hi : has s i) (hj : has t j) : has (bE w s t) (reck w i j) := by
  obtain ⟨i1, i2⟩ := hi
  obtain ⟨j1, j2⟩ := hj
  show _ ∧ _
  cases w with
  | quo => exact absurd rfl hw
  | less => exact absurd rfl hw1
  | same => exact absurd rfl hw2
  | mul => exact corner (g := fun i j => i * j) (s := s) (t := t) (mul_btw i1 i2) (mul_btw' j1 j2) (mul_btw' j1 j2)
  | add => unfold bE reck; simp only; omega
  | sub => unfold bE reck; simp only; omega
  | min => unfold bE reck; simp only; omega
  | max => unfold bE reck; simp only; omega
theorem bEq_pos {s t : Sg} {i j : Int} (h : 0 < t.1) (hi : has s i) (hj : has t j) : has (bE .quo s t) (reck .quo i j) :=
  corner (g := fun i j => i.fdiv j) (s := s) (t := t) (fd_btw (by have := hj.1; omega) hi.1 hi.2) (fd_btw' h hj.1 hj.2) (fd_btw' h hj.1 hj.2)
theorem bEq_neg {s t : Sg} {i j : Int} (h : t.2 < 0) (hi : has s i) (hj : has t j) : has (bE .quo s t) (reck .quo i j) :=
  corner (g := fun i j => i.fdiv j) (s := s) (t := t) (fdn_btw (by have := hj.2; omega) hi.1 hi.2) (fdn_btw' h hj.1 hj.2) (fdn_btw' h hj.1 hj.2)
theorem oJ_l {a : Sg} {b : Option Sg} {v : Int} (h : has a v) : ∃ u, oJ (some a) b = some u ∧ has u v := by
  cases b with
  | none => exact ⟨_, rfl, h⟩
  | some b => exact ⟨_, rfl, has_jn_l h⟩
theorem oJ_r {a : Option Sg} {b : Sg} {v : Int} (h : has b v) : ∃ u, oJ a (some b) = some u ∧ has u v := by
  cases a with
  | none => exact ⟨_, rfl, h⟩
  | some a => exact ⟨_, rfl, has_jn_r h⟩
theorem dv_has {s t : Sg} {i j : Int} (hi : has s i) (hj : has t j) (h0 : j ≠ 0) : ∃ u, dv s t = some u ∧ has u (reck .quo i j) := by
  unfold dv
  by_cases h : j < 0
  · obtain ⟨u, e, hu⟩ := has_mt (s := t) (t := (min t.1 (-1), -1)) hj ⟨by have := hj.1; simp only; omega, by simp only; omega⟩
    rw [e]
    have := mt_sub e
    exact oJ_l (bEq_neg (by simp only at this; omega) hi hu)
  · obtain ⟨u, e, hu⟩ := has_mt (s := t) (t := (1, max t.2 1)) hj ⟨by simp only; omega, by have := hj.2; simp only; omega⟩
    rw [e]
    have := mt_sub e
    exact oJ_r (bEq_pos (by simp only at this; omega) hi hu)
theorem b2_has {lo hi v : Bool} (h1 : lo = true → v = true) (h2 : v = true → hi = true) : has (b2 lo, b2 hi) (b2 v) := by
  cases lo <;> cases hi <;> cases v <;> simp_all [has, b2]
theorem stO_has {w : Wd} {s t : Sg} {i j : Int} (hi : has s i) (hj : has t j) (h0 : ¬ (w = .quo ∧ j = 0)) : ∃ u, stO w s t = some u ∧ has u (reck w i j) := by
  cases w with
  | quo => exact dv_has hi hj fun h => h0 ⟨rfl, h⟩
  | less =>
    refine ⟨_, rfl, b2_has (fun h => ?_) fun h => ?_⟩
    · have := of_decide_eq_true h
      exact decide_eq_true (by have := hi.2; have := hj.1; omega)
    · have := of_decide_eq_true h
      exact decide_eq_true (by have := hi.1; have := hj.2; omega)
  | same =>
    refine ⟨_, rfl, b2_has (fun h => ?_) fun h => ?_⟩
    · obtain ⟨e1, e2⟩ := of_decide_eq_true h
      subst e2
      exact decide_eq_true (by have := hi.1; have := hi.2; have := hj.1; have := hj.2; omega)
    · have e := of_decide_eq_true h
      subst e
      obtain ⟨u, e, _⟩ := has_mt hi hj
      rw [e]
      rfl
  | add => exact ⟨_, rfl, bE_has (by decide) (by decide) (by decide) hi hj⟩
  | sub => exact ⟨_, rfl, bE_has (by decide) (by decide) (by decide) hi hj⟩
  | mul => exact ⟨_, rfl, bE_has (by decide) (by decide) (by decide) hi hj⟩
  | min => exact ⟨_, rfl, bE_has (by decide) (by decide) (by decide) hi hj⟩
  | max => exact ⟨_, rfl, bE_has (by decide) (by decide) (by decide) hi hj⟩
end SrM
end
section
/-! what is known of names; sums shown; behind a question; deeds shown; the heads found -/
set_option autoImplicit false
set_option linter.all false
namespace SrM

instance decBk : DecidableEq (Bk Sg) := fun f g =>
  if h : f .a = g .a ∧ f .b = g .b ∧ f .c = g .c ∧ f .d = g .d then
    isTrue (funext fun x => match x with
      | .a => h.1
      | .b => h.2.1
      | .c => h.2.2.1
      | .d => h.2.2.2)
  else isFalse fun e => h (by subst e; exact ⟨rfl, rfl, rfl, rfl⟩)

def abS (bk : Bk Sg) : Ex → Path → List (Path × Sg) × Option Sg
  | .num n, p => ([(p, (n, n))], mt (n, n) WW)
  | .name x, p => match bk x with
    | some s => ([(p, s)], mt s WW)
    | none => ([], none)
  | .bin w l r, p => match abS bk l (p ++ [0]) with
    | (n1, none) => (n1, none)
    | (n1, some s) => match stOf w (some s) (abS bk r (p ++ [1])).2 with
      | none => (n1 ++ (abS bk r (p ++ [1])).1, none)
      | some m => (n1 ++ (abS bk r (p ++ [1])).1 ++ [(p, m)], mt m WW)

def rk (bk : Bk Sg) : Ex → Option Sg
  | .num n => some (n, n)
  | .name x => bk x
  | .bin w l r => oM (stOf w (rk bk l) (rk bk r)) (some WW)

def wo (s : Sg) (w : Int) : Option Sg :=
  if (if s.1 = w then s.1 + 1 else s.1) ≤ (if s.2 = w then s.2 - 1 else s.2) then some (if s.1 = w then s.1 + 1 else s.1, if s.2 = w then s.2 - 1 else s.2) else none
def kpt : Option (Bk Sg) → Ex → Sg → Option (Bk Sg)
  | some bk, .name x, st => match oM (bk x) (some st) with
    | none => none
    | some u => some (put bk x u)
  | bk, _, _ => bk
def unl : Option (Bk Sg) → Ex → Sg → Option (Bk Sg)
  | some bk, .name x, st => if st.1 ≠ st.2 then some bk else match bk x with
    | none => none
    | some s => match wo s st.1 with
      | none => none
      | some u => kpt (some bk) (.name x) u
  | bk, _, _ => bk
def bhd : Ex → Bk Sg → Bool → Option (Bk Sg)
  | .name x, bk, true => unl (some bk) (.name x) (0, 0)
  | .name x, bk, false => kpt (some bk) (.name x) (0, 0)
  | .bin .same l r, bk, b => match rk bk l, rk bk r with
    | some s, some t => if b then kpt (kpt (some bk) l t) r s else unl (unl (some bk) l t) r s
    | _, _ => none
  | .bin .less l r, bk, b => match rk bk l, rk bk r with
    | some s, some t => if b then kpt (kpt (some bk) l (-32768, t.2 - 1)) r (s.1 + 1, 32767) else kpt (kpt (some bk) l (t.1, 32767)) r (-32768, s.2)
    | _, _ => none
  | _, bk, _ => some bk
def jB : Option (Bk Sg) → Option (Bk Sg) → Option (Bk Sg)
  | none, g => g
  | some h, none => some h
  | some h, some g => some fun x => match h x, g x with
    | some s, some t => some (jn s t)
    | _, _ => none
def nxt (again : Option (Bk Sg)) (h : Bk Sg) : Bk Sg := match again with
  | none => h
  | some g => fun x => match h x, g x with
    | some s, some t => some (jn s t)
    | _, _ => none
def wdn1 (s t : Sg) : Sg := (if t.1 = s.1 then s.1 else -32768, if t.2 = s.2 then s.2 else 32767)
def wdn (h g : Bk Sg) : Bk Sg := fun x => match h x, g x with
  | some s, some t => some (wdn1 s t)
  | _, _ => none
def stp (F : Bk Sg → Bk Sg) (m : Nat) (h : Bk Sg) : Bk Sg := if m + 1 < 4 then F h else wdn h (F h)
def itr (F : Bk Sg → Bk Sg) : Nat → Nat → Bk Sg → Bk Sg
  | 0, _, h => h
  | f + 1, m, h => if F h = h then h else itr F f (m + 1) (stp F m h)

theorem kpt_name (g : Bk Sg) (x : Nm) (st : Sg) : kpt (some g) (.name x) st = match oM (g x) (some st) with
    | none => none
    | some u => some (put g x u) := rfl
theorem unl_name (g : Bk Sg) (x : Nm) (st : Sg) : unl (some g) (.name x) st = if st.1 ≠ st.2 then some g else match g x with
    | none => none
    | some s => match wo s st.1 with
      | none => none
      | some u => kpt (some g) (.name x) u := rfl
theorem bhd_same (l r : Ex) (bk : Bk Sg) (b : Bool) : bhd (.bin .same l r) bk b = match rk bk l, rk bk r with
    | some s, some t => if b then kpt (kpt (some bk) l t) r s else unl (unl (some bk) l t) r s
    | _, _ => none := by cases b <;> rfl
theorem bhd_less (l r : Ex) (bk : Bk Sg) (b : Bool) : bhd (.bin .less l r) bk b = match rk bk l, rk bk r with
    | some s, some t => if b then kpt (kpt (some bk) l (-32768, t.2 - 1)) r (s.1 + 1, 32767) else kpt (kpt (some bk) l (t.1, 32767)) r (-32768, s.2)
    | _, _ => none := by cases b <;> rfl
structure AR where
  out : Option (Bk Sg)
  notes : List (Path × Sg)
  heads : List (Path × Bk Sg)
structure RF where
  again : Option (Bk Sg)
  ends : Option (Bk Sg)
  notes : List (Path × Sg)
  heads : List (Path × Bk Sg)
def AR.no : AR := ⟨none, [], []⟩
def bkBlk (blk : Bk Sg → AR) : Option (Bk Sg) → AR
  | none => AR.no
  | some g => blk g
/-- one round from a head -/
def rfd (e : Ex) (blk : Bk Sg → AR) (p : Path) (h : Bk Sg) : RF := match abS h e (p ++ [0]) with
  | (n, none) => ⟨none, none, n, []⟩
  | (n, some m) => ⟨(if m = (0, 0) then AR.no else bkBlk blk (bhd e h true)).out, if (mt m (0, 0)).isSome then bhd e h false else none,
      n ++ (if m = (0, 0) then AR.no else bkBlk blk (bhd e h true)).notes, (if m = (0, 0) then AR.no else bkBlk blk (bhd e h true)).heads⟩
/-- what is known at the head, and behind one round more -/
def nxF (e : Ex) (blk : Bk Sg → AR) (p : Path) (h : Bk Sg) : Bk Sg := nxt (rfd e blk p h).again h
def hdF (e : Ex) (blk : Bk Sg → AR) (p : Path) (bk : Bk Sg) : Bk Sg := itr (nxF e blk p) 12 0 bk
def ifA (e : Ex) (b1 b2 : Bk Sg → AR) (p : Path) (bk : Bk Sg) : AR := match abS bk e (p ++ [0]) with
  | (n, none) => ⟨none, n, []⟩
  | (n, some m) =>
    ⟨jB (if m = (0, 0) then AR.no else bkBlk b1 (bhd e bk true)).out (if (mt m (0, 0)).isSome then bkBlk b2 (bhd e bk false) else AR.no).out,
      n ++ (if m = (0, 0) then AR.no else bkBlk b1 (bhd e bk true)).notes ++ (if (mt m (0, 0)).isSome then bkBlk b2 (bhd e bk false) else AR.no).notes,
      (if m = (0, 0) then AR.no else bkBlk b1 (bhd e bk true)).heads ++ (if (mt m (0, 0)).isSome then bkBlk b2 (bhd e bk false) else AR.no).heads⟩
def seqA (r : AR) (k : Bk Sg → AR) : AR := match r.out with
  | none => r
  | some g => ⟨(k g).out, r.notes ++ (k g).notes, r.heads ++ (k g).heads⟩
def setA (x : Nm) (e : Ex) (p : Path) (bk : Bk Sg) : AR := match abS bk e (p ++ [0]) with
  | (n, none) => ⟨none, n, []⟩
  | (n, some s) => ⟨some (put bk x s), n, []⟩
def whlA (e : Ex) (blk : Bk Sg → AR) (p : Path) (bk : Bk Sg) : AR :=
  ⟨(rfd e blk p (hdF e blk p bk)).ends, (rfd e blk p (hdF e blk p bk)).notes, (p, hdF e blk p bk) :: (rfd e blk p (hdF e blk p bk)).heads⟩
mutual
def aD : Dd → Path → Bk Sg → AR
  | .set x e, p, bk => setA x e p bk
  | .ife e f g, p, bk => ifA e (fun h => aB f 0 (p ++ [1]) h) (fun h => aB g 0 (p ++ [2]) h) p bk
  | .whl e _ b, p, bk => whlA e (fun h => aB b 0 (p ++ [1]) h) p bk
def aB : List Dd → Int → Path → Bk Sg → AR
  | [], _, _, bk => ⟨some bk, [], []⟩
  | d :: ds, k, p, bk => seqA (aD d (p ++ [k]) bk) fun g => aB ds (k + 1) p g
end

/-! ### well formed -/
def wfE (K : Nm → Prop) : Ex → Prop
  | .num n => inW n
  | .name x => K x
  | .bin _ l r => wfE K l ∧ wfE K r
mutual
def afD : Dd → (Nm → Prop) → Nm → Prop
  | .set x _, K => fun y => K y ∨ y = x
  | .ife _ f g, K => fun y => afB f K y ∧ afB g K y
  | .whl _ _ _, K => K
def afB : List Dd → (Nm → Prop) → Nm → Prop
  | [], K => K
  | d :: ds, K => afB ds (afD d K)
end
mutual
def wfD : Dd → (Nm → Prop) → Prop
  | .set _ e, K => wfE K e
  | .ife e f g, K => wfE K e ∧ wfB f K ∧ wfB g K
  | .whl e m b, K => wfE K e ∧ 0 ≤ m ∧ m ≤ 20 ∧ wfB b K
def wfB : List Dd → (Nm → Prop) → Prop
  | [], _ => True
  | d :: ds, K => wfD d K ∧ wfB ds (afD d K)
end

def wideB (bk : Bk Sg) : Prop := ∀ x s, bk x = some s → -32768 ≤ s.1 ∧ s.1 ≤ s.2 ∧ s.2 ≤ 32767
def domLe (h g : Bk Sg) : Prop := ∀ x, (h x).isSome = true → (g x).isSome = true
def inDom (K : Nm → Prop) (bk : Bk Sg) : Prop := ∀ x, K x → (bk x).isSome = true
def sat (bk : Bk Sg) (env : Bk Int) : Prop := ∀ x s, bk x = some s → ∃ v, env x = some v ∧ has s v
/-- g tells no more than h, of the same names -/
structure grows (h g : Bk Sg) : Prop where
  some : ∀ x s, h x = some s → ∃ t, g x = Option.some t ∧ t.1 ≤ s.1 ∧ s.2 ≤ t.2
  none : ∀ x, h x = Option.none → g x = Option.none
theorem grows.refl (h : Bk Sg) : grows h h := ⟨fun x s e => ⟨s, e, Int.le_refl _, Int.le_refl _⟩, fun _ e => e⟩
theorem grows.trans {h g k : Bk Sg} (a : grows h g) (b : grows g k) : grows h k := by
  refine ⟨fun x s e => ?_, fun x e => b.none x (a.none x e)⟩
  obtain ⟨t, e1, h1, h2⟩ := a.some x s e
  obtain ⟨u, e2, h3, h4⟩ := b.some x t e1
  exact ⟨u, e2, by omega, by omega⟩
theorem grows.dom {h g : Bk Sg} (a : grows h g) : domLe h g := fun x e => by
  cases q : h x with
  | none => rw [q] at e; cases e
  | some s => obtain ⟨t, e1, _⟩ := a.some x s q; rw [e1]; rfl
theorem grows.domB {h g : Bk Sg} (a : grows h g) : domLe g h := fun x e => by
  cases q : h x with
  | none => rw [a.none x q] at e; cases e
  | some s => rfl
theorem sat.grow {h g : Bk Sg} {env : Bk Int} (s : sat h env) (a : grows h g) : sat g env := fun x t e => by
  cases q : h x with
  | none => rw [a.none x q] at e; cases e
  | some u =>
    obtain ⟨t', e1, h1, h2⟩ := a.some x u q
    rw [e] at e1
    injection e1 with e1
    subst e1
    obtain ⟨v, e2, h3, h4⟩ := s x u q
    exact ⟨v, e2, by unfold has; omega⟩

/-! ### sums -/
theorem mt_has {s t u : Sg} {v : Int} (e : mt s t = some u) (h1 : has s v) (h2 : has t v) : has u v := by
  obtain ⟨u', e', h⟩ := has_mt h1 h2
  rw [e] at e'
  injection e' with e'
  subst e'
  exact h
theorem noteR_ok {p : Path} {v w : Int} (e : noteR p v = .ok w) : v = w ∧ inW v := by
  unfold noteR at e
  split at e
  · injection e with e
    exact ⟨e, by assumption⟩
  · cases e
theorem noteR_mt {p : Path} {m : Sg} {v w : Int} (hm : has m v) (e : noteR p v = .ok w) : inW w ∧ ∃ s, mt m WW = some s ∧ has s w := by
  obtain ⟨rfl, hw⟩ := noteR_ok e
  exact ⟨hw, has_mt hm hw⟩
structure SOk (rows : List (Path × Int)) (res : Rs) (notes : List (Path × Sg)) (out : Option Sg) : Prop where
  rows : ∀ q v, (q, v) ∈ rows → ∃ s, (q, s) ∈ notes ∧ has s v
  res : ∀ v, res = .ok v → inW v ∧ ∃ s, out = some s ∧ has s v
theorem abS_ok {K : Nm → Prop} {bk : Bk Sg} {env : Bk Int} (hK : inDom K bk) (hs : sat bk env) : ∀ (e : Ex) (p : Path), wfE K e → SOk (evS env e p).1 (evS env e p).2 (abS bk e p).1 (abS bk e p).2
  | .num n, p, hw => by
    refine ⟨fun q v h => ?_, fun v h => ?_⟩
    · have : (q, v) = (p, n) := by simpa [evS] using h
      injection this with h1 h2
      subst h1 h2
      exact ⟨(v, v), by simp [abS], by unfold has; simp⟩
    · exact noteR_mt (m := (n, n)) (p := p) (by unfold has; simp) h
  | .name x, p, hw => by
    have hx : K x := hw
    cases q : bk x with
    | none => have := hK x hx; rw [q] at this; cases this
    | some s =>
      obtain ⟨v, e1, hv⟩ := hs x s q
      have e2 : abS bk (.name x) p = ([(p, s)], mt s WW) := by unfold abS; rw [q]
      have e3 : evS env (.name x) p = ([(p, v)], noteR p v) := by unfold evS; rw [e1]; rfl
      rw [e2, e3]
      refine ⟨fun q v' h => ?_, fun v' h => noteR_mt hv h⟩
      have : (q, v') = (p, v) := by simpa using h
      injection this with h1 h2
      subst h1 h2
      exact ⟨s, by simp, hv⟩
  | .bin w l r, p, hw => by
    have hl := abS_ok hK hs l (p ++ [0]) hw.1
    have hr := abS_ok hK hs r (p ++ [1]) hw.2
    unfold evS abS
    generalize evS env l (p ++ [0]) = E1 at hl ⊢
    generalize evS env r (p ++ [1]) = E2 at hr ⊢
    generalize abS bk l (p ++ [0]) = A1 at hl ⊢
    generalize abS bk r (p ++ [1]) = A2 at hr ⊢
    obtain ⟨r1, x1⟩ := E1
    obtain ⟨r2, x2⟩ := E2
    obtain ⟨n1, o1⟩ := A1
    obtain ⟨n2, o2⟩ := A2
    simp only at hl hr ⊢
    -- the rows of the left are noted whatever comes
    cases x1 with
    | bad f q =>
      refine ⟨fun q' v h => ?_, fun v h => by cases h⟩
      obtain ⟨s, h1, h2⟩ := hl.rows q' v h
      refine ⟨s, ?_, h2⟩
      cases o1 with
      | none => exact h1
      | some s1 =>
        simp only
        split <;> simp [h1]
    | ok i =>
      obtain ⟨wi, s1, e1, hi⟩ := hl.res i rfl
      subst e1
      simp only
      have both : ∀ (notes : List (Path × Sg)) (m : List (Path × Int)), (∀ z ∈ n1 ++ n2, z ∈ notes) → (∀ q v, (q, v) ∈ m → ∃ s, (q, s) ∈ notes ∧ has s v) → ∀ q v, (q, v) ∈ r1 ++ r2 ++ m → ∃ s, (q, s) ∈ notes ∧ has s v := by
        intro notes m hn hm q v h
        rcases List.mem_append.mp h with h | h
        · rcases List.mem_append.mp h with h | h
          · obtain ⟨s, h1, h2⟩ := hl.rows q v h
            exact ⟨s, hn _ (List.mem_append_left _ h1), h2⟩
          · obtain ⟨s, h1, h2⟩ := hr.rows q v h
            exact ⟨s, hn _ (List.mem_append_right _ h1), h2⟩
        · exact hm q v h
      have nom : ∀ (notes : List (Path × Sg)) q v, (q, v) ∈ ([] : List (Path × Int)) → ∃ s, (q, s) ∈ notes ∧ has s v := fun _ _ _ h => by cases h
      cases x2 with
      | bad f q =>
        simp only
        refine ⟨fun q' v h => ?_, fun v h => by cases h⟩
        have h' : (q', v) ∈ r1 ++ r2 ++ [] := by simpa using h
        split
        · exact both _ [] (fun z hz => hz) (nom _) q' v h'
        · exact both _ [] (fun z hz => List.mem_append_left _ hz) (nom _) q' v h'
      | ok j =>
        obtain ⟨wj, s2, e2, hj⟩ := hr.res j rfl
        subst e2
        simp only
        by_cases hz : w = .quo ∧ j = 0
        · rw [if_pos hz]
          refine ⟨fun q' v h => ?_, fun v h => by cases h⟩
          have h' : (q', v) ∈ r1 ++ r2 ++ [] := by simpa using h
          split
          · exact both _ [] (fun z hz => hz) (nom _) q' v h'
          · exact both _ [] (fun z hz => List.mem_append_left _ hz) (nom _) q' v h'
        · rw [if_neg hz]
          obtain ⟨u, e3, hu⟩ := stO_has hi hj hz
          have e4 : stOf w (some s1) (some s2) = some u := e3
          rw [e4]
          simp only
          refine ⟨both _ _ (fun z hz => List.mem_append_left _ hz) fun q v h => ?_, fun v h => noteR_mt hu h⟩
          have : (q, v) = (p, reck w i j) := by simpa using h
          injection this with h1 h2
          subst h1 h2
          exact ⟨u, by simp, hu⟩
theorem rk_ok {K : Nm → Prop} {bk : Bk Sg} {env : Bk Int} (hK : inDom K bk) (hs : sat bk env) : ∀ (e : Ex) (p : Path), wfE K e → ∀ v, (evS env e p).2 = .ok v → ∃ s, rk bk e = some s ∧ has s v
  | .num n, p, hw, v, h => by
    obtain ⟨rfl, _⟩ := noteR_ok (show noteR p n = .ok v from h)
    exact ⟨(n, n), rfl, by unfold has; simp⟩
  | .name x, p, hw, v, h => by
    have hx : K x := hw
    cases q : bk x with
    | none => have := hK x hx; rw [q] at this; cases this
    | some s =>
      obtain ⟨u, e1, hv⟩ := hs x s q
      obtain ⟨e, _⟩ := noteR_ok (show noteR p ((env x).getD 0) = .ok v from h)
      rw [e1] at e
      have e' : u = v := e
      subst e'
      exact ⟨s, q, hv⟩
  | .bin w l r, p, hw, v, h => by
    have hl := rk_ok hK hs l (p ++ [0]) hw.1
    have hr := rk_ok hK hs r (p ++ [1]) hw.2
    unfold evS at h
    generalize evS env l (p ++ [0]) = E1 at hl h
    generalize evS env r (p ++ [1]) = E2 at hr h
    obtain ⟨r1, x1⟩ := E1
    obtain ⟨r2, x2⟩ := E2
    cases x1 with
    | bad f q => cases h
    | ok i =>
      cases x2 with
      | bad f q => cases h
      | ok j =>
        obtain ⟨s1, e1, hi⟩ := hl i rfl
        obtain ⟨s2, e2, hj⟩ := hr j rfl
        simp only at h
        by_cases hz : w = .quo ∧ j = 0
        · rw [if_pos hz] at h; cases h
        · rw [if_neg hz] at h
          obtain ⟨u, e3, hu⟩ := stO_has hi hj hz
          obtain ⟨e4, hw'⟩ := noteR_ok h
          obtain ⟨z, e5, hz'⟩ := has_mt (t := WW) hu hw'
          refine ⟨z, ?_, e4 ▸ hz'⟩
          show oM (stOf w (rk bk l) (rk bk r)) (some WW) = some z
          rw [e1, e2]
          show oM (stO w s1 s2) (some WW) = some z
          rw [e3]
          exact e5

/-! ### behind a question -/
/-- the sum is a name whose worth lies in st, or no name -/
def nmHas (env : Bk Int) (e : Ex) (P : Int → Prop) : Prop := ∀ x, e = .name x → ∃ v, env x = some v ∧ P v
theorem kpt_ok {bk : Option (Bk Sg)} {g : Bk Sg} {env : Bk Int} {e : Ex} {st : Sg} (h : bk = some g) (hs : sat g env) (hd : ∀ x, e = .name x → (g x).isSome = true) (hv : nmHas env e (has st)) : ∃ g', kpt bk e st = some g' ∧ sat g' env ∧ domLe g g' := by
  subst h
  cases e with
  | num n => exact ⟨g, rfl, hs, fun _ h => h⟩
  | bin w l r => exact ⟨g, rfl, hs, fun _ h => h⟩
  | name x =>
    have hx := hd x rfl
    cases q : g x with
    | none => rw [q] at hx; cases hx
    | some s =>
      obtain ⟨v, e1, h1⟩ := hs x s q
      obtain ⟨v', e2, h2⟩ := hv x rfl
      rw [e1] at e2
      injection e2 with e2
      subst e2
      obtain ⟨u, e3, h3⟩ := has_mt h1 h2
      refine ⟨put g x u, ?_, fun y t ht => ?_, fun y hy => ?_⟩
      · rw [kpt_name, q]
        show (match mt s st with | none => none | some u => some (put g x u)) = _
        rw [e3]
      · by_cases hy : y = x
        · subst hy
          rw [put_same] at ht
          injection ht with ht
          subst ht
          exact ⟨v, e1, h3⟩
        · rw [put_ne hy] at ht
          exact hs y t ht
      · by_cases hyx : y = x
        · subst hyx; rw [put_same]; rfl
        · rw [put_ne hyx]; exact hy
theorem wo_has {s : Sg} {w v : Int} (h : has s v) (hn : v ≠ w) : ∃ u, wo s w = some u ∧ has u v ∧ has s u.1 ∧ has s u.2 := by
  unfold wo has at *
  have : (if s.1 = w then s.1 + 1 else s.1) ≤ v ∧ v ≤ (if s.2 = w then s.2 - 1 else s.2) := by
    constructor <;> split <;> omega
  rw [if_pos (by omega)]
  refine ⟨_, rfl, this, ?_⟩
  simp only
  split <;> split <;> omega
theorem unl_ok {bk : Option (Bk Sg)} {g : Bk Sg} {env : Bk Int} {e : Ex} {st : Sg} (h : bk = some g) (hs : sat g env) (hd : ∀ x, e = .name x → (g x).isSome = true) (hv : st.1 = st.2 → nmHas env e (fun v => v ≠ st.1)) : ∃ g', unl bk e st = some g' ∧ sat g' env ∧ domLe g g' := by
  subst h
  cases e with
  | num n => exact ⟨g, rfl, hs, fun _ h => h⟩
  | bin w l r => exact ⟨g, rfl, hs, fun _ h => h⟩
  | name x =>
    by_cases hst : st.1 = st.2
    · have hx := hd x rfl
      cases q : g x with
      | none => rw [q] at hx; cases hx
      | some s =>
        obtain ⟨v, e1, h1⟩ := hs x s q
        obtain ⟨v', e2, h2⟩ := hv hst x rfl
        rw [e1] at e2
        injection e2 with e2
        subst e2
        obtain ⟨u, e3, h3, _⟩ := wo_has h1 h2
        obtain ⟨g', e4, h4⟩ := kpt_ok (e := .name x) (st := u) rfl hs hd (fun y hy => by injection hy with hy; subst hy; exact ⟨v, e1, h3⟩)
        refine ⟨g', ?_, h4⟩
        rw [unl_name, if_neg (fun h => h hst), q]
        simp only [e3]
        exact e4
    · refine ⟨g, ?_, hs, fun _ h => h⟩
      rw [unl_name, if_pos hst]
theorem dom_name {K : Nm → Prop} {bk : Bk Sg} {e : Ex} (hK : inDom K bk) (hw : wfE K e) : ∀ x, e = .name x → (bk x).isSome = true := fun x hx => by subst hx; exact hK x hw
theorem nm_of {K : Nm → Prop} {bk : Bk Sg} {env : Bk Int} {e : Ex} {p : Path} {v : Int} (hK : inDom K bk) (hs : sat bk env) (hw : wfE K e) (h : (evS env e p).2 = .ok v) {P : Int → Prop} (hp : inW v → P v) : nmHas env e P := fun x hx => by
  subst hx
  have hx := hK x hw
  cases q : bk x with
  | none => rw [q] at hx; cases hx
  | some s =>
    obtain ⟨u, e1, hv⟩ := hs x s q
    obtain ⟨e, hw'⟩ := noteR_ok (show noteR p ((env x).getD 0) = .ok v from h)
    rw [e1] at e hw'
    have e' : u = v := e
    subst e'
    exact ⟨u, e1, hp hw'⟩
theorem evS_bin {env : Bk Int} {w : Wd} {l r : Ex} {p : Path} {v : Int} (h : (evS env (.bin w l r) p).2 = .ok v) :
    ∃ i j, (evS env l (p ++ [0])).2 = .ok i ∧ (evS env r (p ++ [1])).2 = .ok j ∧ v = reck w i j ∧ inW v := by
  unfold evS at h
  generalize evS env l (p ++ [0]) = E1 at h ⊢
  generalize evS env r (p ++ [1]) = E2 at h ⊢
  obtain ⟨r1, x1⟩ := E1
  obtain ⟨r2, x2⟩ := E2
  cases x1 with
  | bad f q => cases h
  | ok i =>
    cases x2 with
    | bad f q => cases h
    | ok j =>
      simp only at h
      by_cases hz : w = .quo ∧ j = 0
      · rw [if_pos hz] at h; cases h
      · rw [if_neg hz] at h
        obtain ⟨e, hw⟩ := noteR_ok h
        exact ⟨i, j, rfl, rfl, e.symm, e ▸ hw⟩
theorem b2_ne {c : Bool} (h : b2 c ≠ 0) : c = true := by cases c <;> simp_all [b2]
theorem b2_eq {c : Bool} (h : b2 c = 0) : c = false := by cases c <;> simp_all [b2]
theorem inW_of {K : Nm → Prop} {bk : Bk Sg} {env : Bk Int} {e : Ex} {p : Path} {v : Int} (hK : inDom K bk) (hs : sat bk env) (hw : wfE K e) (h : (evS env e p).2 = .ok v) : inW v := ((abS_ok hK hs e p hw).res v h).1
theorem bhd_ok {K : Nm → Prop} {bk : Bk Sg} {env : Bk Int} {e : Ex} {p : Path} {v : Int} (hK : inDom K bk) (hs : sat bk env) (hw : wfE K e) (h : (evS env e p).2 = .ok v) (b : Bool) (hb : b = true ↔ v ≠ 0) :
    ∃ g, bhd e bk b = some g ∧ sat g env := by
  have dom := @dom_name K bk
  cases e with
  | num n => exact ⟨bk, by cases b <;> rfl, hs⟩
  | name x =>
    cases b with
    | true =>
      have hv : v ≠ 0 := hb.mp rfl
      obtain ⟨g, e1, h1, _⟩ := unl_ok (bk := some bk) (e := .name x) (st := (0, 0)) rfl hs (dom hK hw) (fun _ => nm_of hK hs hw h fun _ => hv)
      exact ⟨g, e1, h1⟩
    | false =>
      have hv : v = 0 := by
        by_cases q : v = 0
        · exact q
        · exact absurd (hb.mpr q) (by decide)
      obtain ⟨g, e1, h1, _⟩ := kpt_ok (bk := some bk) (e := .name x) (st := (0, 0)) rfl hs (dom hK hw) (nm_of hK hs hw h fun _ => by subst hv; unfold has; simp)
      exact ⟨g, e1, h1⟩
  | bin w l r =>
    obtain ⟨i, j, hi, hj, ev, _⟩ := evS_bin h
    have hwi := inW_of hK hs hw.1 hi
    have hwj := inW_of hK hs hw.2 hj
    obtain ⟨s, es, his⟩ := rk_ok hK hs l _ hw.1 i hi
    obtain ⟨t, et, hjt⟩ := rk_ok hK hs r _ hw.2 j hj
    obtain ⟨s1, s2⟩ := id his
    obtain ⟨t1, t2⟩ := id hjt
    obtain ⟨wi1, wi2⟩ := hwi
    obtain ⟨wj1, wj2⟩ := hwj
    cases w with
    | same =>
      cases b with
      | true =>
        have hv : v ≠ 0 := hb.mp rfl
        have eij : i = j := of_decide_eq_true (b2_ne (show b2 (decide (i = j)) ≠ 0 from fun q => hv (ev.trans q)))
        obtain ⟨g1, e1, h1, d1⟩ := kpt_ok (bk := some bk) (e := l) (st := t) rfl hs (dom hK hw.1) (nm_of hK hs hw.1 hi fun _ => eij ▸ hjt)
        obtain ⟨g2, e2, h2, d2⟩ := kpt_ok (e := r) (st := s) e1 h1 (fun x hx => d1 x (dom hK hw.2 x hx)) (nm_of hK hs hw.2 hj fun _ => eij ▸ his)
        refine ⟨g2, ?_, h2⟩
        rw [bhd_same, es, et]
        exact e2
      | false =>
        have hv : v = 0 := by
          by_cases q : v = 0
          · exact q
          · exact absurd (hb.mpr q) (by decide)
        have eij : ¬ i = j := of_decide_eq_false (b2_eq (show b2 (decide (i = j)) = 0 from ev.symm.trans hv))
        obtain ⟨g1, e1, h1, d1⟩ := unl_ok (bk := some bk) (e := l) (st := t) rfl hs (dom hK hw.1) (fun q => nm_of hK hs hw.1 hi fun _ => by omega)
        obtain ⟨g2, e2, h2, d2⟩ := unl_ok (e := r) (st := s) e1 h1 (fun x hx => d1 x (dom hK hw.2 x hx)) (fun q => nm_of hK hs hw.2 hj fun _ => by omega)
        refine ⟨g2, ?_, h2⟩
        rw [bhd_same, es, et]
        exact e2
    | less =>
      cases b with
      | true =>
        have hv : v ≠ 0 := hb.mp rfl
        have eij : i < j := of_decide_eq_true (b2_ne (show b2 (decide (i < j)) ≠ 0 from fun q => hv (ev.trans q)))
        obtain ⟨g1, e1, h1, d1⟩ := kpt_ok (bk := some bk) (e := l) (st := (-32768, t.2 - 1)) rfl hs (dom hK hw.1) (nm_of hK hs hw.1 hi fun _ => by unfold has; simp only; omega)
        obtain ⟨g2, e2, h2, d2⟩ := kpt_ok (e := r) (st := (s.1 + 1, 32767)) e1 h1 (fun x hx => d1 x (dom hK hw.2 x hx)) (nm_of hK hs hw.2 hj fun _ => by unfold has; simp only; omega)
        refine ⟨g2, ?_, h2⟩
        rw [bhd_less, es, et]
        exact e2
      | false =>
        have hv : v = 0 := by
          by_cases q : v = 0
          · exact q
          · exact absurd (hb.mpr q) (by decide)
        have eij : ¬ i < j := of_decide_eq_false (b2_eq (show b2 (decide (i < j)) = 0 from ev.symm.trans hv))
        obtain ⟨g1, e1, h1, d1⟩ := kpt_ok (bk := some bk) (e := l) (st := (t.1, 32767)) rfl hs (dom hK hw.1) (nm_of hK hs hw.1 hi fun _ => by unfold has; simp only; omega)
        obtain ⟨g2, e2, h2, d2⟩ := kpt_ok (e := r) (st := (-32768, s.2)) e1 h1 (fun x hx => d1 x (dom hK hw.2 x hx)) (nm_of hK hs hw.2 hj fun _ => by unfold has; simp only; omega)
        refine ⟨g2, ?_, h2⟩
        rw [bhd_less, es, et]
        exact e2
    | add => exact ⟨bk, by cases b <;> rfl, hs⟩
    | sub => exact ⟨bk, by cases b <;> rfl, hs⟩
    | mul => exact ⟨bk, by cases b <;> rfl, hs⟩
    | quo => exact ⟨bk, by cases b <;> rfl, hs⟩
    | min => exact ⟨bk, by cases b <;> rfl, hs⟩
    | max => exact ⟨bk, by cases b <;> rfl, hs⟩
end SrM
end
section
/-! what the deeds show: widths, names, the heads as fixed points, all runs within -/
set_option autoImplicit false
set_option linter.all false
namespace SrM

/-! ### widths and names -/
theorem abS_wide {bk : Bk Sg} {e : Ex} {p : Path} {s : Sg} (h : (abS bk e p).2 = some s) : -32768 ≤ s.1 ∧ s.1 ≤ s.2 ∧ s.2 ≤ 32767 := by
  have key : ∀ (m : Sg), mt m WW = some s → -32768 ≤ s.1 ∧ s.1 ≤ s.2 ∧ s.2 ≤ 32767 := fun m e => by
    have := mt_sub e
    unfold WW at this
    simp only at this
    omega
  cases e with
  | num n => exact key _ h
  | name x =>
    unfold abS at h
    cases q : bk x with
    | none => rw [q] at h; cases h
    | some u => rw [q] at h; exact key _ h
  | bin w l r =>
    unfold abS at h
    generalize abS bk l (p ++ [0]) = A1 at h
    obtain ⟨n1, o1⟩ := A1
    cases o1 with
    | none => cases h
    | some s1 =>
      simp only at h
      generalize stOf w (some s1) (abS bk r (p ++ [1])).2 = o at h
      cases o with
      | none => cases h
      | some m => exact key _ h
theorem wide_put {bk : Bk Sg} {x : Nm} {s : Sg} (hb : wideB bk) (h : -32768 ≤ s.1 ∧ s.1 ≤ s.2 ∧ s.2 ≤ 32767) : wideB (put bk x s) := fun y t e => by
  by_cases hy : y = x
  · subst hy
    rw [put_same] at e
    injection e with e
    subst e
    exact h
  · rw [put_ne hy] at e
    exact hb y t e
theorem dom_put {bk : Bk Sg} {x : Nm} {s : Sg} : domLe bk (put bk x s) := fun y h => by
  by_cases hy : y = x
  · subst hy; rw [put_same]; rfl
  · rw [put_ne hy]; exact h
/-- the same names, none more -/
def sameDom (h g : Bk Sg) : Prop := ∀ x, (g x).isSome = (h x).isSome
theorem kpt_wide {bk : Option (Bk Sg)} {e : Ex} {st : Sg} {g : Bk Sg} (h : kpt bk e st = some g) : ∃ b, bk = some b ∧ (wideB b → wideB g) ∧ sameDom b g := by
  cases bk with
  | none => cases e <;> cases h
  | some b =>
    refine ⟨b, rfl, ?_⟩
    cases e with
    | num n =>
      have e : b = g := Option.some.inj h
      subst e
      exact ⟨id, fun _ => rfl⟩
    | bin w l r =>
      have e : b = g := Option.some.inj h
      subst e
      exact ⟨id, fun _ => rfl⟩
    | name x =>
      rw [kpt_name] at h
      cases q : b x with
      | none => rw [q] at h; cases h
      | some s =>
        rw [q] at h
        have h' : (match mt s st with | none => none | some u => some (put b x u)) = some g := h
        cases z : mt s st with
        | none => rw [z] at h'; cases h'
        | some u =>
          rw [z] at h'
          have e : put b x u = g := Option.some.inj h'
          subst e
          have m := mt_sub z
          refine ⟨fun hb => wide_put hb ?_, fun y => ?_⟩
          · have := hb x s q
            omega
          · by_cases hy : y = x
            · subst hy; rw [put_same, q]; rfl
            · rw [put_ne hy]
theorem unl_wide {bk : Option (Bk Sg)} {e : Ex} {st : Sg} {g : Bk Sg} (h : unl bk e st = some g) : ∃ b, bk = some b ∧ (wideB b → wideB g) ∧ sameDom b g := by
  cases bk with
  | none => cases e <;> cases h
  | some b =>
    cases e with
    | num n =>
      have e : b = g := Option.some.inj h
      subst e
      exact ⟨b, rfl, id, fun _ => rfl⟩
    | bin w l r =>
      have e : b = g := Option.some.inj h
      subst e
      exact ⟨b, rfl, id, fun _ => rfl⟩
    | name x =>
      rw [unl_name] at h
      split at h
      · have e : b = g := Option.some.inj h
        subst e
        exact ⟨b, rfl, id, fun _ => rfl⟩
      · cases q : b x with
        | none => rw [q] at h; cases h
        | some s =>
          rw [q] at h
          simp only at h
          cases z : wo s st.1 with
          | none => rw [z] at h; cases h
          | some u =>
            rw [z] at h
            exact kpt_wide h
theorem sameDom.trans {a b c : Bk Sg} (h : sameDom a b) (h' : sameDom b c) : sameDom a c := fun x => (h' x).trans (h x)
theorem bhd_wide {e : Ex} {bk g : Bk Sg} {b : Bool} (h : bhd e bk b = some g) : (wideB bk → wideB g) ∧ sameDom bk g := by
  have two : ∀ {f1 f2 : Option (Bk Sg) → Option (Bk Sg)}, (∀ o k, f1 o = some k → ∃ c, o = some c ∧ (wideB c → wideB k) ∧ sameDom c k) → (∀ o k, f2 o = some k → ∃ c, o = some c ∧ (wideB c → wideB k) ∧ sameDom c k) →
      f2 (f1 (some bk)) = some g → (wideB bk → wideB g) ∧ sameDom bk g := fun h1 h2 q => by
    obtain ⟨c, e1, w1, d1⟩ := h2 _ _ q
    obtain ⟨c2, e2, w2, d2⟩ := h1 _ _ e1
    injection e2 with e2
    subst e2
    exact ⟨fun z => w1 (w2 z), d2.trans d1⟩
  have one : bhd e bk b = some bk → (wideB bk → wideB g) ∧ sameDom bk g := fun q => by
    rw [h] at q
    injection q with q
    subst q
    exact ⟨id, fun _ => rfl⟩
  have ask : ∀ (s t : Option Sg) (F : Sg → Sg → Option (Bk Sg)), (∀ s t k, F s t = some k → (wideB bk → wideB k) ∧ sameDom bk k) → (match s, t with | some s, some t => F s t | _, _ => none) = some g → (wideB bk → wideB g) ∧ sameDom bk g := by
    intro s t F hF q
    cases s with
    | none => cases q
    | some s => cases t with
      | none => cases q
      | some t => exact hF s t g q
  cases e with
  | num n => exact one (by cases b <;> rfl)
  | name x =>
    cases b with
    | true =>
      obtain ⟨c, e1, w, d⟩ := unl_wide (bk := some bk) (e := .name x) (st := (0, 0)) h
      injection e1 with e1
      subst e1
      exact ⟨w, d⟩
    | false =>
      obtain ⟨c, e1, w, d⟩ := kpt_wide (bk := some bk) (e := .name x) (st := (0, 0)) h
      injection e1 with e1
      subst e1
      exact ⟨w, d⟩
  | bin w l r =>
    cases w with
    | same =>
      rw [bhd_same] at h
      refine ask _ _ _ (fun s t k q => ?_) h
      cases b with
      | true =>
          obtain ⟨c, e1, w1, d1⟩ := kpt_wide (show kpt (kpt (some bk) l t) r s = some k from q)
          obtain ⟨c2, e2, w2, d2⟩ := kpt_wide e1
          injection e2 with e2
          subst e2
          exact ⟨fun z => w1 (w2 z), d2.trans d1⟩
      | false =>
          obtain ⟨c, e1, w1, d1⟩ := unl_wide (show unl (unl (some bk) l t) r s = some k from q)
          obtain ⟨c2, e2, w2, d2⟩ := unl_wide e1
          injection e2 with e2
          subst e2
          exact ⟨fun z => w1 (w2 z), d2.trans d1⟩
    | less =>
      rw [bhd_less] at h
      refine ask _ _ _ (fun s t k q => ?_) h
      cases b with
      | true =>
          obtain ⟨c, e1, w1, d1⟩ := kpt_wide (show kpt (kpt (some bk) l (-32768, t.2 - 1)) r (s.1 + 1, 32767) = some k from q)
          obtain ⟨c2, e2, w2, d2⟩ := kpt_wide e1
          injection e2 with e2
          subst e2
          exact ⟨fun z => w1 (w2 z), d2.trans d1⟩
      | false =>
          obtain ⟨c, e1, w1, d1⟩ := kpt_wide (show kpt (kpt (some bk) l (t.1, 32767)) r (-32768, s.2) = some k from q)
          obtain ⟨c2, e2, w2, d2⟩ := kpt_wide e1
          injection e2 with e2
          subst e2
          exact ⟨fun z => w1 (w2 z), d2.trans d1⟩
    | add => exact one (by cases b <;> rfl)
    | sub => exact one (by cases b <;> rfl)
    | mul => exact one (by cases b <;> rfl)
    | quo => exact one (by cases b <;> rfl)
    | min => exact one (by cases b <;> rfl)
    | max => exact one (by cases b <;> rfl)

def BlkOk (blk : Bk Sg → AR) : Prop := ∀ h, wideB h → ∀ g, (blk h).out = some g → wideB g ∧ domLe h g
theorem bkBlk_ok {blk : Bk Sg → AR} (hb : BlkOk blk) {o : Option (Bk Sg)} {h g : Bk Sg} (hw : wideB h) (ho : ∀ k, o = some k → (wideB h → wideB k) ∧ sameDom h k) (e : (bkBlk blk o).out = some g) : wideB g ∧ domLe h g := by
  cases o with
  | none => cases e
  | some k =>
    obtain ⟨w, d⟩ := ho k rfl
    obtain ⟨w2, d2⟩ := hb k (w hw) g e
    exact ⟨w2, fun x q => d2 x (by rw [d x]; exact q)⟩
theorem rfd_again {e : Ex} {blk : Bk Sg → AR} {p : Path} {h g : Bk Sg} (hb : BlkOk blk) (hw : wideB h) (q : (rfd e blk p h).again = some g) : wideB g ∧ domLe h g := by
  unfold rfd at q
  generalize abS h e (p ++ [0]) = A at q
  obtain ⟨n, o⟩ := A
  cases o with
  | none => cases q
  | some m =>
    simp only at q
    by_cases hm : m = (0, 0)
    · rw [if_pos hm] at q; cases q
    · rw [if_neg hm] at q
      exact bkBlk_ok hb hw (fun k z => bhd_wide z) q
theorem rfd_ends {e : Ex} {blk : Bk Sg → AR} {p : Path} {h g : Bk Sg} (hw : wideB h) (q : (rfd e blk p h).ends = some g) : wideB g ∧ sameDom h g := by
  unfold rfd at q
  generalize abS h e (p ++ [0]) = A at q
  obtain ⟨n, o⟩ := A
  cases o with
  | none => cases q
  | some m =>
    simp only at q
    cases z : (mt m (0, 0)).isSome with
    | false => rw [z] at q; cases q
    | true =>
      rw [z] at q
      have := bhd_wide (show bhd e h false = some g from q)
      exact ⟨this.1 hw, this.2⟩
theorem jn_wide {s t : Sg} (h1 : -32768 ≤ s.1 ∧ s.1 ≤ s.2 ∧ s.2 ≤ 32767) (h2 : -32768 ≤ t.1 ∧ t.1 ≤ t.2 ∧ t.2 ≤ 32767) : -32768 ≤ (jn s t).1 ∧ (jn s t).1 ≤ (jn s t).2 ∧ (jn s t).2 ≤ 32767 := by
  unfold jn
  simp only
  omega
theorem nxt_ok {o : Option (Bk Sg)} {h : Bk Sg} (hw : wideB h) (ho : ∀ g, o = some g → wideB g ∧ domLe h g) : wideB (nxt o h) ∧ grows h (nxt o h) := by
  cases o with
  | none => exact ⟨hw, grows.refl h⟩
  | some g =>
    obtain ⟨wg, dg⟩ := ho g rfl
    refine ⟨fun x s e => ?_, fun x s e => ?_, fun x e => ?_⟩
    · have e' : (match h x, g x with | some s, some t => some (jn s t) | _, _ => none) = some s := e
      cases q1 : h x with
      | none => rw [q1] at e'; cases e'
      | some s1 => cases q2 : g x with
        | none => rw [q1, q2] at e'; cases e'
        | some t1 =>
          rw [q1, q2] at e'
          have := Option.some.inj e'
          subst this
          exact jn_wide (hw x s1 q1) (wg x t1 q2)
    · have d := dg x (by rw [e]; rfl)
      cases q2 : g x with
      | none => rw [q2] at d; cases d
      | some t =>
        refine ⟨jn s t, ?_, by unfold jn; simp only; omega, by unfold jn; simp only; omega⟩
        show (match h x, g x with | some s, some t => some (jn s t) | _, _ => none) = some (jn s t)
        rw [e, q2]
    · show (match h x, g x with | some s, some t => some (jn s t) | _, _ => none) = none
      rw [e]
theorem nxF_ok {e : Ex} {blk : Bk Sg → AR} {p : Path} (hb : BlkOk blk) {h : Bk Sg} (hw : wideB h) : wideB (nxF e blk p h) ∧ grows h (nxF e blk p h) := nxt_ok hw fun g q => rfd_again hb hw q

/-! ### the heads are fixed points -/
def mu1 : Option Sg → Nat
  | none => 0
  | some s => (if s.1 = -32768 then 0 else 1) + (if s.2 = 32767 then 0 else 1)
def mu (h : Bk Sg) : Nat := mu1 (h .a) + mu1 (h .b) + mu1 (h .c) + mu1 (h .d)
theorem mu1_le (o : Option Sg) : mu1 o ≤ 2 := by
  cases o with
  | none => exact Nat.zero_le _
  | some s => unfold mu1; simp only; split <;> split <;> omega
theorem mu_le (h : Bk Sg) : mu h ≤ 8 := by
  have := mu1_le (h .a); have := mu1_le (h .b); have := mu1_le (h .c); have := mu1_le (h .d)
  unfold mu
  omega
def mM (m : Nat) (h : Bk Sg) : Nat := (4 - m) + mu h
theorem mu1_grow {o u : Option Sg} (hw : ∀ t, u = some t → -32768 ≤ t.1 ∧ t.2 ≤ 32767) (h1 : ∀ s, o = some s → ∃ t, u = some t ∧ t.1 ≤ s.1 ∧ s.2 ≤ t.2) (h0 : o = none → u = none) : mu1 u ≤ mu1 o := by
  cases o with
  | none => rw [h0 rfl]; exact Nat.le_refl _
  | some s =>
    obtain ⟨t, e, a, b⟩ := h1 s rfl
    subst e
    obtain ⟨c, d⟩ := hw t rfl
    unfold mu1
    simp only
    repeat' split
    all_goals omega
theorem mu1_wdn {s t : Sg} (hw : -32768 ≤ t.1 ∧ t.2 ≤ 32767) (a : t.1 ≤ s.1) (b : s.2 ≤ t.2) : mu1 (some (wdn1 s t)) ≤ mu1 (some s) ∧ (s ≠ t → mu1 (some (wdn1 s t)) < mu1 (some s)) := by
  obtain ⟨s1, s2⟩ := s
  obtain ⟨t1, t2⟩ := t
  simp only at *
  unfold mu1 wdn1
  simp only
  constructor
  · repeat' split
    all_goals omega
  · intro hne
    have : ¬ (s1 = t1 ∧ s2 = t2) := fun q => hne (by rw [q.1, q.2])
    repeat' split
    all_goals omega
theorem wdn_ok {h g : Bk Sg} (hw : wideB h) (wg : wideB g) (gr : grows h g) : wideB (wdn h g) ∧ grows h (wdn h g) := by
  refine ⟨fun x s e => ?_, fun x s e => ?_, fun x e => ?_⟩
  · have e' : (match h x, g x with | some s, some t => some (wdn1 s t) | _, _ => none) = some s := e
    cases q1 : h x with
    | none => rw [q1] at e'; cases e'
    | some s1 => cases q2 : g x with
      | none => rw [q1, q2] at e'; cases e'
      | some t1 =>
        rw [q1, q2] at e'
        have := Option.some.inj e'
        subst this
        have a := hw x s1 q1
        have b := wg x t1 q2
        unfold wdn1
        simp only
        split <;> split <;> omega
  · obtain ⟨t, e1, a, b⟩ := gr.some x s e
    refine ⟨wdn1 s t, ?_, ?_⟩
    · show (match h x, g x with | some s, some t => some (wdn1 s t) | _, _ => none) = _
      rw [e, e1]
    · have c := hw x s e
      have d := wg x t e1
      unfold wdn1
      simp only
      split <;> split <;> omega
  · show (match h x, g x with | some s, some t => some (wdn1 s t) | _, _ => none) = none
    rw [e]
theorem mu_grow {h g : Bk Sg} (wg : wideB g) (gr : grows h g) : mu g ≤ mu h := by
  have key : ∀ x, mu1 (g x) ≤ mu1 (h x) := fun x => mu1_grow (fun t e => by have := wg x t e; omega) (fun s e => gr.some x s e) (gr.none x)
  have := key .a; have := key .b; have := key .c; have := key .d
  unfold mu
  omega
theorem mu_wdn {h g : Bk Sg} (wg : wideB g) (gr : grows h g) (hne : g ≠ h) : mu (wdn h g) < mu h := by
  have e : ∀ x, wdn h g x = (match h x, g x with | some s, some t => some (wdn1 s t) | _, _ => none) := fun _ => rfl
  have key : ∀ x, mu1 (wdn h g x) ≤ mu1 (h x) ∧ (g x ≠ h x → mu1 (wdn h g x) < mu1 (h x)) := fun x => by
    rw [e x]
    cases q : h x with
    | none =>
      rw [gr.none x q]
      exact ⟨Nat.le_refl _, fun z => absurd rfl z⟩
    | some s =>
      obtain ⟨t, e1, a, b⟩ := gr.some x s q
      rw [e1]
      have w := wg x t e1
      have := mu1_wdn (s := s) (t := t) (by omega) a b
      exact ⟨this.1, fun z => this.2 fun y => z (by rw [y])⟩
  have ka := key .a; have kb := key .b; have kc := key .c; have kd := key .d
  have some_ne : g .a ≠ h .a ∨ g .b ≠ h .b ∨ g .c ≠ h .c ∨ g .d ≠ h .d := by
    by_cases q1 : g .a = h .a
    · by_cases q2 : g .b = h .b
      · by_cases q3 : g .c = h .c
        · by_cases q4 : g .d = h .d
          · refine absurd (funext fun x => ?_) hne
            cases x
            · exact q1
            · exact q2
            · exact q3
            · exact q4
          · exact .inr (.inr (.inr q4))
        · exact .inr (.inr (.inl q3))
      · exact .inr (.inl q2)
    · exact .inl q1
  unfold mu
  rcases some_ne with z | z | z | z
  · have := ka.2 z; omega
  · have := kb.2 z; omega
  · have := kc.2 z; omega
  · have := kd.2 z; omega
/-- F grows what is wide -/
def Grow (F : Bk Sg → Bk Sg) : Prop := ∀ h, wideB h → wideB (F h) ∧ grows h (F h)
theorem stp_ok {F : Bk Sg → Bk Sg} (hF : Grow F) {m : Nat} {h : Bk Sg} (hw : wideB h) (hne : F h ≠ h) : wideB (stp F m h) ∧ grows h (stp F m h) ∧ mM (m + 1) (stp F m h) < mM m h := by
  obtain ⟨wF, gF⟩ := hF h hw
  unfold stp
  by_cases hm : m + 1 < 4
  · rw [if_pos hm]
    refine ⟨wF, gF, ?_⟩
    have := mu_grow wF gF
    unfold mM
    omega
  · rw [if_neg hm]
    obtain ⟨a, b⟩ := wdn_ok hw wF gF
    refine ⟨a, b, ?_⟩
    have := mu_wdn wF gF hne
    unfold mM
    omega
theorem itr_fix {F : Bk Sg → Bk Sg} (hF : Grow F) : ∀ (f m : Nat) (h : Bk Sg), wideB h → mM m h ≤ f → F (itr F f m h) = itr F f m h ∧ grows h (itr F f m h) ∧ wideB (itr F f m h)
  | 0, m, h, hw, hm => by
    show F h = h ∧ grows h h ∧ wideB h
    refine ⟨?_, grows.refl h, hw⟩
    by_cases q : F h = h
    · exact q
    · have := (stp_ok hF (m := m) hw q).2.2
      omega
  | f + 1, m, h, hw, hm => by
    unfold itr
    by_cases q : F h = h
    · rw [if_pos q]
      exact ⟨q, grows.refl h, hw⟩
    · rw [if_neg q]
      obtain ⟨a, b, c⟩ := stp_ok hF (m := m) hw q
      obtain ⟨x, y, z⟩ := itr_fix hF f (m + 1) (stp F m h) a (by omega)
      exact ⟨x, b.trans y, z⟩
theorem itr_here {F : Bk Sg → Bk Sg} {f m : Nat} {h : Bk Sg} (q : F h = h) : itr F f m h = h := by
  cases f with
  | zero => rfl
  | succ f => unfold itr; rw [if_pos q]
theorem itr_next {F : Bk Sg → Bk Sg} {f m : Nat} {h : Bk Sg} (q : F h ≠ h) : itr F (f + 1) m h = itr F f (m + 1) (stp F m h) := by
  show (if F h = h then h else itr F f (m + 1) (stp F m h)) = _
  rw [if_neg q]
theorem hdF_fix {e : Ex} {blk : Bk Sg → AR} {p : Path} (hb : BlkOk blk) {bk : Bk Sg} (hw : wideB bk) : nxF e blk p (hdF e blk p bk) = hdF e blk p bk ∧ grows bk (hdF e blk p bk) ∧ wideB (hdF e blk p bk) :=
  itr_fix (fun h hw => nxF_ok hb hw) 12 0 bk hw (by have := mu_le bk; unfold mM; omega)
/-- behind one round from the head no more is known than the head tells -/
theorem again_in {e : Ex} {blk : Bk Sg → AR} {p : Path} (hb : BlkOk blk) {h g : Bk Sg} (hw : wideB h) (fx : nxF e blk p h = h) (q : (rfd e blk p h).again = some g) : ∀ x s, h x = some s → ∃ t, g x = some t ∧ s.1 ≤ t.1 ∧ t.2 ≤ s.2 := fun x s e1 => by
  have d := (rfd_again hb hw q).2 x (by rw [e1]; rfl)
  cases z : g x with
  | none => rw [z] at d; cases d
  | some t =>
    refine ⟨t, rfl, ?_⟩
    have e2 : nxF e blk p h x = some (jn s t) := by
      unfold nxF
      rw [q]
      show (match h x, g x with | some s, some t => some (jn s t) | _, _ => none) = _
      rw [e1, z]
    rw [fx, e1] at e2
    injection e2 with e2
    have e3 : s.1 = min s.1 t.1 := congrArg Prod.fst e2
    have e4 : s.2 = max s.2 t.2 := congrArg Prod.snd e2
    omega

/-! ### deeds: widths and names -/
theorem seqA_out {r : AR} {k : Bk Sg → AR} {g : Bk Sg} (h : (seqA r k).out = some g) : ∃ g0, r.out = some g0 ∧ (k g0).out = some g := by
  unfold seqA at h
  cases q : r.out with
  | none => rw [q] at h; simp only at h; rw [q] at h; cases h
  | some g0 => rw [q] at h; exact ⟨g0, rfl, h⟩
theorem jB_out {o u : Option (Bk Sg)} {h g : Bk Sg} (ho : ∀ k, o = some k → wideB k ∧ domLe h k) (hu : ∀ k, u = some k → wideB k ∧ domLe h k) (e : jB o u = some g) : wideB g ∧ domLe h g := by
  cases o with
  | none => exact hu g (by cases u <;> exact e)
  | some k =>
    cases u with
    | none => exact ho g e
    | some l =>
      have e' : (fun x => match k x, l x with | some s, some t => some (jn s t) | _, _ => none) = g := Option.some.inj e
      subst e'
      obtain ⟨w1, d1⟩ := ho k rfl
      obtain ⟨w2, d2⟩ := hu l rfl
      refine ⟨fun x s e => ?_, fun x hx => ?_⟩
      · simp only at e
        cases q1 : k x with
        | none => rw [q1] at e; cases e
        | some s1 => cases q2 : l x with
          | none => rw [q1, q2] at e; cases e
          | some t1 =>
            rw [q1, q2] at e
            have := Option.some.inj e
            subst this
            exact jn_wide (w1 x s1 q1) (w2 x t1 q2)
      · have a := d1 x hx
        have b := d2 x hx
        simp only
        cases q1 : k x with
        | none => rw [q1] at a; cases a
        | some s1 => cases q2 : l x with
          | none => rw [q2] at b; cases b
          | some t1 => rfl
theorem ifA_out {e : Ex} {b1 b2 : Bk Sg → AR} {p : Path} {bk g : Bk Sg} (h1 : BlkOk b1) (h2 : BlkOk b2) (hw : wideB bk) (h : (ifA e b1 b2 p bk).out = some g) : wideB g ∧ domLe bk g := by
  unfold ifA at h
  generalize abS bk e (p ++ [0]) = A at h
  obtain ⟨n, o⟩ := A
  cases o with
  | none => cases h
  | some m =>
    simp only at h
    refine jB_out (fun k q => ?_) (fun k q => ?_) h
    · by_cases hm : m = (0, 0)
      · rw [if_pos hm] at q; cases q
      · rw [if_neg hm] at q
        exact bkBlk_ok h1 hw (fun k z => bhd_wide z) q
    · cases z : (mt m (0, 0)).isSome with
      | false => rw [z] at q; cases q
      | true =>
        rw [z] at q
        exact bkBlk_ok h2 hw (fun k z => bhd_wide z) q
theorem whlA_out {e : Ex} {blk : Bk Sg → AR} {p : Path} {bk g : Bk Sg} (hb : BlkOk blk) (hw : wideB bk) (h : (whlA e blk p bk).out = some g) : wideB g ∧ sameDom bk g := by
  obtain ⟨_, gr, w⟩ := hdF_fix (e := e) (p := p) hb hw
  obtain ⟨a, b⟩ := rfd_ends w (show (rfd e blk p (hdF e blk p bk)).ends = some g from h)
  refine ⟨a, sameDom.trans (fun x => ?_) b⟩
  cases q : bk x with
  | none => rw [gr.none x q]
  | some s =>
    obtain ⟨t, e1, _⟩ := gr.some x s q
    rw [e1]
    rfl
mutual
theorem aD_out : ∀ (d : Dd) (p : Path), BlkOk (aD d p)
  | .set x e, p => fun bk hw g h => by
    have h' : (setA x e p bk).out = some g := h
    unfold setA at h'
    cases q : abS bk e (p ++ [0]) with
    | mk n o =>
      rw [q] at h'
      cases o with
      | none => cases h'
      | some s =>
        have e1 : put bk x s = g := Option.some.inj h'
        subst e1
        exact ⟨wide_put hw (abS_wide (by rw [q])), dom_put⟩
  | .ife e f g, p => fun bk hw k h => ifA_out (aB_out f 0 (p ++ [1])) (aB_out g 0 (p ++ [2])) hw (show (ifA e (fun h => aB f 0 (p ++ [1]) h) (fun h => aB g 0 (p ++ [2]) h) p bk).out = some k from h)
  | .whl e m b, p => fun bk hw k h => by
    obtain ⟨a, c⟩ := whlA_out (aB_out b 0 (p ++ [1])) hw (show (whlA e (fun h => aB b 0 (p ++ [1]) h) p bk).out = some k from h)
    exact ⟨a, fun x q => by rw [c x]; exact q⟩
theorem aB_out : ∀ (ds : List Dd) (k : Int) (p : Path), BlkOk (aB ds k p)
  | [], k, p => fun bk hw g h => by
    have e : bk = g := Option.some.inj h
    subst e
    exact ⟨hw, fun _ q => q⟩
  | d :: ds, k, p => fun bk hw g h => by
    obtain ⟨g0, e1, e2⟩ := seqA_out (show (seqA (aD d (p ++ [k]) bk) fun g => aB ds (k + 1) p g).out = some g from h)
    obtain ⟨w1, d1⟩ := aD_out d (p ++ [k]) bk hw g0 e1
    obtain ⟨w2, d2⟩ := aB_out ds (k + 1) p g0 w1 g e2
    exact ⟨w2, fun x q => d2 x (d1 x q)⟩
end
theorem jB_inDom {o u : Option (Bk Sg)} {g : Bk Sg} {K L : Nm → Prop} (ho : ∀ k, o = some k → inDom K k) (hu : ∀ k, u = some k → inDom L k) (e : jB o u = some g) : inDom (fun y => K y ∧ L y) g := by
  cases o with
  | none => exact fun x hx => hu g (by cases u <;> exact e) x hx.2
  | some k =>
    cases u with
    | none => exact fun x hx => ho g e x hx.1
    | some l =>
      have e' : (fun x => match k x, l x with | some s, some t => some (jn s t) | _, _ => none) = g := Option.some.inj e
      subst e'
      intro x hx
      have a := ho k rfl x hx.1
      have b := hu l rfl x hx.2
      simp only
      cases q1 : k x with
      | none => rw [q1] at a; cases a
      | some s1 => cases q2 : l x with
        | none => rw [q2] at b; cases b
        | some t1 => rfl
theorem bkBlk_inDom {blk : Bk Sg → AR} {K L : Nm → Prop} {e : Ex} {bk g : Bk Sg} {b : Bool} (hb : ∀ h, wideB h → inDom K h → ∀ g, (blk h).out = some g → inDom L g) (hw : wideB bk) (hK : inDom K bk) (q : (bkBlk blk (bhd e bk b)).out = some g) : inDom L g := by
  cases z : bhd e bk b with
  | none => rw [z] at q; cases q
  | some k =>
    rw [z] at q
    obtain ⟨w, d⟩ := bhd_wide z
    exact hb k (w hw) (fun x hx => by rw [d x]; exact hK x hx) g q
mutual
theorem aD_inDom : ∀ (d : Dd) (p : Path) (K : Nm → Prop) (bk : Bk Sg), wideB bk → inDom K bk → ∀ g, (aD d p bk).out = some g → inDom (afD d K) g
  | .set x e, p, K, bk, hw, hK, g, h => by
    have h' : (setA x e p bk).out = some g := h
    unfold setA at h'
    cases q : abS bk e (p ++ [0]) with
    | mk n o =>
      rw [q] at h'
      cases o with
      | none => cases h'
      | some s =>
        have e1 : put bk x s = g := Option.some.inj h'
        subst e1
        intro y hy
        rcases hy with hy | rfl
        · exact dom_put y (hK y hy)
        · rw [put_same]; rfl
  | .ife e f g, p, K, bk, hw, hK, k, h => by
    have h' : (ifA e (fun h => aB f 0 (p ++ [1]) h) (fun h => aB g 0 (p ++ [2]) h) p bk).out = some k := h
    unfold ifA at h'
    generalize abS bk e (p ++ [0]) = A at h'
    obtain ⟨n, o⟩ := A
    cases o with
    | none => cases h'
    | some m =>
      simp only at h'
      refine jB_inDom (K := afB f K) (L := afB g K) (fun k q => ?_) (fun k q => ?_) h'
      · by_cases hm : m = (0, 0)
        · rw [if_pos hm] at q; cases q
        · rw [if_neg hm] at q
          exact bkBlk_inDom (fun h hw hK g q => aB_inDom f 0 (p ++ [1]) K h hw hK g q) hw hK q
      · cases z : (mt m (0, 0)).isSome with
        | false => rw [z] at q; cases q
        | true =>
          rw [z] at q
          exact bkBlk_inDom (fun h hw hK g' q => aB_inDom g 0 (p ++ [2]) K h hw hK g' q) hw hK q
  | .whl e m b, p, K, bk, hw, hK, k, h => by
    obtain ⟨a, c⟩ := whlA_out (aB_out b 0 (p ++ [1])) hw (show (whlA e (fun h => aB b 0 (p ++ [1]) h) p bk).out = some k from h)
    exact fun x hx => by rw [c x]; exact hK x hx
theorem aB_inDom : ∀ (ds : List Dd) (k : Int) (p : Path) (K : Nm → Prop) (bk : Bk Sg), wideB bk → inDom K bk → ∀ g, (aB ds k p bk).out = some g → inDom (afB ds K) g
  | [], k, p, K, bk, hw, hK, g, h => by
    have e : bk = g := Option.some.inj h
    subst e
    exact hK
  | d :: ds, k, p, K, bk, hw, hK, g, h => by
    obtain ⟨g0, e1, e2⟩ := seqA_out (show (seqA (aD d (p ++ [k]) bk) fun g => aB ds (k + 1) p g).out = some g from h)
    obtain ⟨w1, d1⟩ := aD_out d (p ++ [k]) bk hw g0 e1
    exact aB_inDom ds (k + 1) p (afD d K) g0 w1 (aD_inDom d (p ++ [k]) K bk hw hK g0 e1) g e2
end

/-! ### all runs lie within -/
structure ROk (s s' : RS) (notes : List (Path × Sg)) (out : Option (Bk Sg)) : Prop where
  rows : ∃ rows, s'.seen = s.seen ++ rows ∧ ∀ q v, (q, v) ∈ rows → ∃ st, (q, st) ∈ notes ∧ has st v
  res : s'.fault = none → ∃ g, out = some g ∧ sat g s'.env
theorem ROk.more {s s' : RS} {n n' : List (Path × Sg)} {o o' : Option (Bk Sg)} (h : ROk s s' n o) (hn : ∀ z ∈ n, z ∈ n') (ho : ∀ g, o = some g → sat g s'.env → ∃ g', o' = some g' ∧ sat g' s'.env) : ROk s s' n' o' := by
  obtain ⟨⟨rows, e, hr⟩, hq⟩ := h
  refine ⟨⟨rows, e, fun q v z => ?_⟩, fun z => ?_⟩
  · obtain ⟨st, a, b⟩ := hr q v z
    exact ⟨st, hn _ a, b⟩
  · obtain ⟨g, a, b⟩ := hq z
    exact ho g a b
theorem ROk.then {s s1 s2 : RS} {n : List (Path × Sg)} {o o' : Option (Bk Sg)} (h : ROk s s1 n o) (h' : ROk s1 s2 n o') : ROk s s2 n o' := by
  obtain ⟨⟨r1, e1, a1⟩, _⟩ := h
  obtain ⟨⟨r2, e2, a2⟩, q2⟩ := h'
  refine ⟨⟨r1 ++ r2, by rw [e2, e1, List.append_assoc], fun q v z => ?_⟩, q2⟩
  rcases List.mem_append.mp z with z | z
  · exact a1 q v z
  · exact a2 q v z
theorem ROk.same {s : RS} {n : List (Path × Sg)} {o : Option (Bk Sg)} (h : s.fault = none → ∃ g, o = some g ∧ sat g s.env) : ROk s s n o := ⟨⟨[], by simp, fun q v z => by cases z⟩, h⟩
theorem evC_some {e : Ex} {p : Path} {s s1 : RS} {v : Int} (h : evC e p s = (s1, some v)) : s1 = ⟨s.env, s.seen ++ (evS s.env e p).1, none⟩ ∧ (evS s.env e p).2 = .ok v := by
  unfold evC at h
  generalize evS s.env e p = E at h ⊢
  obtain ⟨r, x⟩ := E
  cases x with
  | ok i =>
    have h1 : (⟨s.env, s.seen ++ r, none⟩, some i) = (s1, some v) := h
    injection h1 with h1 h2
    injection h2 with h2
    subst h2
    exact ⟨h1.symm, rfl⟩
  | bad f q =>
    injection h with h1 h2
    cases h2
theorem evC_none {e : Ex} {p : Path} {s s1 : RS} (h : evC e p s = (s1, none)) : ∃ f q, s1 = ⟨s.env, s.seen ++ (evS s.env e p).1, some (f, q)⟩ := by
  unfold evC at h
  generalize evS s.env e p = E at h ⊢
  obtain ⟨r, x⟩ := E
  cases x with
  | ok i =>
    injection h with h1 h2
    cases h2
  | bad f q =>
    have h1 : ((⟨s.env, s.seen ++ r, some (f, q)⟩ : RS), (none : Option Int)) = (s1, none) := h
    injection h1 with h1 h2
    exact ⟨f, q, h1.symm⟩
theorem evC_rok {K : Nm → Prop} {bk : Bk Sg} {e : Ex} {p : Path} {s : RS} (hK : inDom K bk) (hs : sat bk s.env) (hw : wfE K e) (n : List (Path × Sg)) (hn : ∀ z ∈ (abS bk e p).1, z ∈ n) :
    ∀ s1 o, evC e p s = (s1, o) → ∃ rows, s1.seen = s.seen ++ rows ∧ (∀ q v, (q, v) ∈ rows → ∃ st, (q, st) ∈ n ∧ has st v) ∧ s1.env = s.env ∧ (o = none → s1.fault ≠ none) ∧ (∀ v, o = some v → s1.fault = none ∧ (evS s.env e p).2 = .ok v ∧ ∃ m, (abS bk e p).2 = some m ∧ has m v) := by
  intro s1 o h
  have A := abS_ok hK hs e p hw
  cases o with
  | none =>
    obtain ⟨f, q, rfl⟩ := evC_none h
    refine ⟨_, rfl, fun q v z => ?_, rfl, fun _ z => (nomatch z), fun v z => (nomatch z)⟩
    obtain ⟨st, a, b⟩ := A.rows q v z
    exact ⟨st, hn _ a, b⟩
  | some v =>
    obtain ⟨rfl, ev⟩ := evC_some h
    refine ⟨_, rfl, fun q v z => ?_, rfl, fun z => (nomatch z), fun w z => ?_⟩
    · obtain ⟨st, a, b⟩ := A.rows q v z
      exact ⟨st, hn _ a, b⟩
    · injection z with z
      subst z
      exact ⟨rfl, ev, (A.res v ev).2⟩
/-- what a block's runs are: within what it shows -/
def BOk (K : Nm → Prop) (run : RS → RS) (blk : Bk Sg → AR) : Prop := ∀ (bk : Bk Sg) (s : RS), wideB bk → inDom K bk → sat bk s.env → s.fault = none → ROk s (run s) (blk bk).notes (blk bk).out
theorem ne_zero {m : Sg} {v : Int} (h : has m v) (hv : v ≠ 0) : m ≠ (0, 0) := fun e => by
  subst e
  unfold has at h
  simp only at h
  omega
theorem mt_zero {m : Sg} (h : has m 0) : (mt m (0, 0)).isSome = true := by
  obtain ⟨u, e, _⟩ := has_mt (t := (0, 0)) h (by unfold has; simp)
  rw [e]
  rfl
theorem bkBlk_rok {K : Nm → Prop} {run : RS → RS} {blk : Bk Sg → AR} (hb : BOk K run blk) {e : Ex} {p : Path} {bk : Bk Sg} {s : RS} {v : Int} {b : Bool} (hw : wideB bk) (hK : inDom K bk) (hs : sat bk s.env) (wf : wfE K e) (hf : s.fault = none) (ev : (evS s.env e p).2 = .ok v) (hv : b = true ↔ v ≠ 0) :
    ROk s (run s) (bkBlk blk (bhd e bk b)).notes (bkBlk blk (bhd e bk b)).out := by
  obtain ⟨g, e1, sg⟩ := bhd_ok hK hs wf ev b hv
  rw [e1]
  obtain ⟨w, d⟩ := bhd_wide e1
  exact hb g s (w hw) (fun x hx => by rw [d x]; exact hK x hx) sg hf
theorem lpR_ok {K : Nm → Prop} {run : RS → RS} {blk : Bk Sg → AR} (hb : BOk K run blk) (ho : BlkOk blk) {e : Ex} {p : Path} {h : Bk Sg} (hw : wideB h) (hK : inDom K h) (wf : wfE K e) (fx : nxF e blk p h = h) :
    ∀ (n : Nat) (s : RS), sat h s.env → s.fault = none → ROk s (lpR (evC e (p ++ [0])) run p n s) (rfd e blk p h).notes (rfd e blk p h).ends := by
  have hnotes : ∀ z ∈ (abS h e (p ++ [0])).1, z ∈ (rfd e blk p h).notes := fun z hz => by
    unfold rfd
    generalize abS h e (p ++ [0]) = A at hz
    obtain ⟨n, o⟩ := A
    cases o with
    | none => exact hz
    | some m => exact List.mem_append_left _ hz
  intro n
  induction n with
  | zero =>
    intro s hs hf
    unfold lpR
    cases q : evC e (p ++ [0]) s with
    | mk s1 o =>
      obtain ⟨rows, e1, hr, e2, hn, hv⟩ := evC_rok hK hs wf _ hnotes s1 o q
      cases o with
      | none => exact ⟨⟨rows, e1, hr⟩, fun z => absurd z (hn rfl)⟩
      | some v =>
        obtain ⟨f1, ev, m, em, hm⟩ := hv v rfl
        simp only
        by_cases h0 : v = 0
        · rw [if_pos h0]
          subst h0
          refine ⟨⟨rows, e1, hr⟩, fun _ => ?_⟩
          obtain ⟨g, e3, sg⟩ := bhd_ok (p := p ++ [0]) hK hs wf ev false (by simp)
          refine ⟨g, ?_, e2 ▸ sg⟩
          unfold rfd
          generalize hA : abS h e (p ++ [0]) = A at em
          obtain ⟨n', o'⟩ := A
          have em' : o' = some m := em
          subst em'
          simp only
          rw [mt_zero hm]
          exact e3
        · rw [if_neg h0]
          exact ⟨⟨rows, e1, hr⟩, fun z => by cases z⟩
  | succ n ih =>
    intro s hs hf
    unfold lpR
    cases q : evC e (p ++ [0]) s with
    | mk s1 o =>
      obtain ⟨rows, e1, hr, e2, hn, hv⟩ := evC_rok hK hs wf _ hnotes s1 o q
      cases o with
      | none => exact ⟨⟨rows, e1, hr⟩, fun z => absurd z (hn rfl)⟩
      | some v =>
        obtain ⟨f1, ev, m, em, hm⟩ := hv v rfl
        simp only
        by_cases h0 : v = 0
        · rw [if_pos h0]
          subst h0
          refine ⟨⟨rows, e1, hr⟩, fun _ => ?_⟩
          obtain ⟨g, e3, sg⟩ := bhd_ok (p := p ++ [0]) hK hs wf ev false (by simp)
          refine ⟨g, ?_, e2 ▸ sg⟩
          unfold rfd
          generalize hA : abS h e (p ++ [0]) = A at em
          obtain ⟨n', o'⟩ := A
          have em' : o' = some m := em
          subst em'
          simp only
          rw [mt_zero hm]
          exact e3
        · rw [if_neg h0]
          have hs1 : sat h s1.env := e2 ▸ hs
          have ev1 : (evS s1.env e (p ++ [0])).2 = .ok v := by rw [e2]; exact ev
          have B := bkBlk_rok (p := p ++ [0]) hb hw hK hs1 wf f1 ev1 (b := true) (by simp [h0])
          -- its notes and its end are the round's
          have hN : ∀ z ∈ (bkBlk blk (bhd e h true)).notes, z ∈ (rfd e blk p h).notes := fun z hz => by
            unfold rfd
            generalize hA : abS h e (p ++ [0]) = A at em
            obtain ⟨n', o'⟩ := A
            have em' : o' = some m := em
            subst em'
            simp only
            rw [if_neg (ne_zero hm h0)]
            exact List.mem_append_right _ hz
          have hO : (rfd e blk p h).again = (bkBlk blk (bhd e h true)).out := by
            unfold rfd
            generalize hA : abS h e (p ++ [0]) = A at em
            obtain ⟨n', o'⟩ := A
            have em' : o' = some m := em
            subst em'
            simp only
            rw [if_neg (ne_zero hm h0)]
          have first : ROk s s1 (rfd e blk p h).notes (some h) := ⟨⟨rows, e1, hr⟩, fun _ => ⟨h, rfl, hs1⟩⟩
          have second : ROk s1 (run s1) (rfd e blk p h).notes (bkBlk blk (bhd e h true)).out := B.more hN fun g a b => ⟨g, a, b⟩
          by_cases hfa : (run s1).fault.isSome = true
          · rw [if_pos hfa]
            refine first.then ⟨second.rows, fun z => ?_⟩
            rw [z] at hfa
            cases hfa
          · rw [if_neg hfa]
            have f2 : (run s1).fault = none := by
              cases z : (run s1).fault with
              | none => rfl
              | some w => rw [z] at hfa; exact absurd rfl hfa
            obtain ⟨g, eg, sg⟩ := second.res f2
            have hs2 : sat h (run s1).env := fun x t ex => by
              obtain ⟨u, eu, a1, a2⟩ := again_in ho hw fx (hO.trans eg) x t ex
              obtain ⟨w, ew, hw2⟩ := sg x u eu
              exact ⟨w, ew, by unfold has at *; omega⟩
            exact (first.then second).then (ih (run s1) hs2 f2)
theorem seqA_notes {r : AR} {k : Bk Sg → AR} : ∀ z ∈ r.notes, z ∈ (seqA r k).notes := fun z hz => by
  unfold seqA
  cases q : r.out with
  | none => exact hz
  | some g => exact List.mem_append_left _ hz
theorem rnB_fault : ∀ (ds : List Dd) (k : Int) (p : Path) (s : RS), s.fault.isSome = true → rnB ds k p s = s
  | [], _, _, _, _ => by simp [rnB]
  | d :: ds, k, p, s, h => by
    rw [rnB, if_pos h]
    exact rnB_fault ds (k + 1) p s h
mutual
theorem aD_ok : ∀ (d : Dd) (p : Path) (K : Nm → Prop), wfD d K → BOk K (rnD d p) (aD d p)
  | .set x e, p, K, wf => fun bk s hw hK hs hf => by
    have wf' : wfE K e := wf
    rw [rnD]
    show ROk s _ (setA x e p bk).notes (setA x e p bk).out
    cases q : evC e (p ++ [0]) s with
    | mk s1 o =>
      have hnotes : ∀ z ∈ (abS bk e (p ++ [0])).1, z ∈ (setA x e p bk).notes := fun z hz => by
        unfold setA
        generalize abS bk e (p ++ [0]) = A at hz
        obtain ⟨n, o⟩ := A
        cases o <;> exact hz
      obtain ⟨rows, e1, hr, e2, hn, hv⟩ := evC_rok hK hs wf' _ hnotes s1 o q
      cases o with
      | none => exact ⟨⟨rows, e1, hr⟩, fun z => absurd z (hn rfl)⟩
      | some v =>
        obtain ⟨f1, ev, m, em, hm⟩ := hv v rfl
        refine ⟨⟨rows, e1, hr⟩, fun _ => ⟨put bk x m, ?_, fun y t ey => ?_⟩⟩
        · unfold setA
          generalize abS bk e (p ++ [0]) = A at em
          obtain ⟨n, o⟩ := A
          have em' : o = some m := em
          subst em'
          rfl
        · show ∃ w, put s1.env x v y = some w ∧ has t w
          by_cases hy : y = x
          · subst hy
            rw [put_same] at ey ⊢
            injection ey with ey
            subst ey
            exact ⟨v, rfl, hm⟩
          · rw [put_ne hy] at ey ⊢
            rw [e2]
            exact hs y t ey
  | .ife e f g, p, K, wf => fun bk s hw hK hs hf => by
    obtain ⟨we, wff, wfg⟩ : wfE K e ∧ wfB f K ∧ wfB g K := wf
    rw [rnD]
    show ROk s _ (ifA e (fun h => aB f 0 (p ++ [1]) h) (fun h => aB g 0 (p ++ [2]) h) p bk).notes (ifA e (fun h => aB f 0 (p ++ [1]) h) (fun h => aB g 0 (p ++ [2]) h) p bk).out
    cases q : evC e (p ++ [0]) s with
    | mk s1 o =>
      have hnotes : ∀ z ∈ (abS bk e (p ++ [0])).1, z ∈ (ifA e (fun h => aB f 0 (p ++ [1]) h) (fun h => aB g 0 (p ++ [2]) h) p bk).notes := fun z hz => by
        unfold ifA
        generalize abS bk e (p ++ [0]) = A at hz
        obtain ⟨n, o⟩ := A
        cases o with
        | none => exact hz
        | some m => exact List.mem_append_left _ (List.mem_append_left _ hz)
      obtain ⟨rows, e1, hr, e2, hn, hv⟩ := evC_rok hK hs we _ hnotes s1 o q
      cases o with
      | none => exact ⟨⟨rows, e1, hr⟩, fun z => absurd z (hn rfl)⟩
      | some v =>
        obtain ⟨f1, ev, m, em, hm⟩ := hv v rfl
        have hs1 : sat bk s1.env := e2 ▸ hs
        have ev1 : (evS s1.env e (p ++ [0])).2 = .ok v := by rw [e2]; exact ev
        have first : ROk s s1 (ifA e (fun h => aB f 0 (p ++ [1]) h) (fun h => aB g 0 (p ++ [2]) h) p bk).notes (some bk) := ⟨⟨rows, e1, hr⟩, fun _ => ⟨bk, rfl, hs1⟩⟩
        refine first.then ?_
        unfold ifA
        generalize hA : abS bk e (p ++ [0]) = A at em
        obtain ⟨n', o'⟩ := A
        have em' : o' = some m := em
        subst em'
        simp only
        by_cases h0 : v ≠ 0
        · rw [if_pos h0, if_neg (ne_zero hm h0)]
          refine (bkBlk_rok (p := p ++ [0]) (b := true) (aB_ok f 0 (p ++ [1]) K wff) hw hK hs1 we f1 ev1 (by simp [h0])).more (fun z hz => List.mem_append_left _ (List.mem_append_right _ hz)) fun g' a b => ?_
          rw [a]
          cases (if (mt m (0, 0)).isSome = true then bkBlk (fun h => aB g 0 (p ++ [2]) h) (bhd e bk false) else AR.no).out with
          | none => exact ⟨g', rfl, b⟩
          | some k =>
            refine ⟨_, rfl, fun x t ex => ?_⟩
            try simp only at ex
            cases q1 : g' x with
            | none => rw [q1] at ex; cases ex
            | some s2 => cases q2 : k x with
              | none => rw [q1, q2] at ex; cases ex
              | some t2 =>
                rw [q1, q2] at ex
                have := Option.some.inj ex
                subst this
                obtain ⟨u, eu, hu⟩ := b x s2 q1
                exact ⟨u, eu, has_jn_l hu⟩
        · have h0' : v = 0 := by omega
          rw [if_neg h0]
          subst h0'
          rw [mt_zero hm]
          refine (bkBlk_rok (p := p ++ [0]) (b := false) (aB_ok g 0 (p ++ [2]) K wfg) hw hK hs1 we f1 ev1 (by simp)).more (fun z hz => List.mem_append_right _ hz) fun g' a b => ?_
          show ∃ g'_1, jB (if m = (0, 0) then AR.no else bkBlk (fun h => aB f 0 (p ++ [1]) h) (bhd e bk true)).out (bkBlk (fun h => aB g 0 (p ++ [2]) h) (bhd e bk false)).out = some g'_1 ∧ sat g'_1 _
          rw [a]
          cases (if m = (0, 0) then AR.no else bkBlk (fun h => aB f 0 (p ++ [1]) h) (bhd e bk true)).out with
          | none => exact ⟨g', rfl, b⟩
          | some k =>
            refine ⟨_, rfl, fun x t ex => ?_⟩
            try simp only at ex
            cases q1 : k x with
            | none => rw [q1] at ex; cases ex
            | some s2 => cases q2 : g' x with
              | none => rw [q1, q2] at ex; cases ex
              | some t2 =>
                rw [q1, q2] at ex
                have := Option.some.inj ex
                subst this
                obtain ⟨u, eu, hu⟩ := b x t2 q2
                exact ⟨u, eu, has_jn_r hu⟩
  | .whl e m b, p, K, wf => fun bk s hw hK hs hf => by
    obtain ⟨we, _, _, wb⟩ : wfE K e ∧ 0 ≤ m ∧ m ≤ 20 ∧ wfB b K := wf
    rw [rnD]
    show ROk s _ (whlA e (fun h => aB b 0 (p ++ [1]) h) p bk).notes (whlA e (fun h => aB b 0 (p ++ [1]) h) p bk).out
    obtain ⟨fx, gr, w⟩ := hdF_fix (e := e) (blk := fun h => aB b 0 (p ++ [1]) h) (p := p) (aB_out b 0 (p ++ [1])) hw
    exact lpR_ok (aB_ok b 0 (p ++ [1]) K wb) (aB_out b 0 (p ++ [1])) w (fun x hx => gr.dom x (hK x hx)) we fx m.toNat s (hs.grow gr) hf
theorem aB_ok : ∀ (ds : List Dd) (k : Int) (p : Path) (K : Nm → Prop), wfB ds K → BOk K (rnB ds k p) (aB ds k p)
  | [], k, p, K, wf => fun bk s hw hK hs hf => by
    rw [rnB]
    exact ROk.same fun _ => ⟨bk, rfl, hs⟩
  | d :: ds, k, p, K, wf => fun bk s hw hK hs hf => by
    obtain ⟨wd, wds⟩ : wfD d K ∧ wfB ds (afD d K) := wf
    rw [rnB, hf]
    show ROk s (rnB ds (k + 1) p (rnD d (p ++ [k]) s)) (seqA (aD d (p ++ [k]) bk) fun g => aB ds (k + 1) p g).notes (seqA (aD d (p ++ [k]) bk) fun g => aB ds (k + 1) p g).out
    have A := aD_ok d (p ++ [k]) K wd bk s hw hK hs hf
    cases f1 : (rnD d (p ++ [k]) s).fault with
    | some w =>
      rw [rnB_fault ds (k + 1) p _ (by rw [f1]; rfl)]
      obtain ⟨⟨rows, e1, hr⟩, _⟩ := A
      refine ⟨⟨rows, e1, fun q v z => ?_⟩, fun z => by rw [f1] at z; cases z⟩
      obtain ⟨st, a, b⟩ := hr q v z
      exact ⟨st, seqA_notes _ a, b⟩
    | none =>
      obtain ⟨g, eg, sg⟩ := A.res f1
      obtain ⟨w1, _⟩ := aD_out d (p ++ [k]) bk hw g eg
      have B := aB_ok ds (k + 1) p (afD d K) wds g (rnD d (p ++ [k]) s) w1 (aD_inDom d (p ++ [k]) K bk hw hK g eg) sg f1
      have eN : (seqA (aD d (p ++ [k]) bk) fun g => aB ds (k + 1) p g) = ⟨(aB ds (k + 1) p g).out, (aD d (p ++ [k]) bk).notes ++ (aB ds (k + 1) p g).notes, (aD d (p ++ [k]) bk).heads ++ (aB ds (k + 1) p g).heads⟩ := by
        unfold seqA
        rw [eg]
      rw [eN]
      exact (A.more (o' := some g) (fun z hz => List.mem_append_left _ hz) fun g' a b => ⟨g, rfl, sg⟩).then (B.more (fun z hz => List.mem_append_right _ hz) fun g' a b => ⟨g', a, b⟩)
end
end SrM
end
section
/-! paths apart; sizes; names exchanged; what comes in -/
set_option autoImplicit false
set_option linter.all false
namespace SrM

/-! ### paths apart -/
def und (p q : Path) : Prop := ∃ r, q = p ++ r
theorem und.refl (p : Path) : und p p := ⟨[], by simp⟩
theorem und.step {p q : Path} {k : Int} (h : und (p ++ [k]) q) : und p q := by
  obtain ⟨r, e⟩ := h
  exact ⟨[k] ++ r, by rw [e, List.append_assoc]⟩
theorem und.apart {p q : Path} {i j : Int} (h : und (p ++ [i]) q) (h' : und (p ++ [j]) q) : i = j := by
  obtain ⟨r, e⟩ := h
  obtain ⟨r', e'⟩ := h'
  rw [e, List.append_assoc, List.append_assoc] at e'
  have := List.append_cancel_left e'
  simp at this
  exact this.1
theorem und.self {p : Path} {i : Int} (h : und (p ++ [i]) p) : False := by
  obtain ⟨r, e⟩ := h
  have := congrArg List.length e
  simp at this
theorem und.ne {p q : Path} {i : Int} (h : und (p ++ [i]) q) : q ≠ p := fun e => by subst e; exact h.self
structure KU {α : Type} (P : Path → Prop) (l : List (Path × α)) : Prop where
  all : ∀ z ∈ l, P z.1
  nd : (l.map Prod.fst).Nodup
theorem KU.nil {α : Type} {P : Path → Prop} : KU P ([] : List (Path × α)) := ⟨fun z h => (nomatch h), List.nodup_nil⟩
theorem KU.one {α : Type} {P : Path → Prop} {q : Path} {v : α} (h : P q) : KU P [(q, v)] := by
  refine ⟨fun z hz => ?_, by simp⟩
  have : z = (q, v) := by simpa using hz
  subst this
  exact h
theorem KU.mono {α : Type} {P Q : Path → Prop} {l : List (Path × α)} (h : KU P l) (f : ∀ q, P q → Q q) : KU Q l := ⟨fun z hz => f _ (h.all z hz), h.nd⟩
theorem KU.app {α : Type} {P Q : Path → Prop} {l m : List (Path × α)} (h : KU P l) (h' : KU Q m) (d : ∀ q, P q → Q q → False) : KU (fun q => P q ∨ Q q) (l ++ m) := by
  refine ⟨fun z hz => ?_, ?_⟩
  · rcases List.mem_append.mp hz with hz | hz
    · exact .inl (h.all z hz)
    · exact .inr (h'.all z hz)
  · rw [List.map_append, List.nodup_append]
    refine ⟨h.nd, h'.nd, fun a ha b hb e => ?_⟩
    obtain ⟨z, hz, rfl⟩ := List.mem_map.mp ha
    obtain ⟨y, hy, rfl⟩ := List.mem_map.mp hb
    exact d _ (h.all z hz) (e ▸ h'.all y hy)
theorem KU.uniq {α : Type} {P : Path → Prop} {l : List (Path × α)} (h : KU P l) {q : Path} {v w : α} (h1 : (q, v) ∈ l) (h2 : (q, w) ∈ l) : v = w := by
  have key : ∀ (l : List (Path × α)), (l.map Prod.fst).Nodup → (q, v) ∈ l → (q, w) ∈ l → v = w := by
    intro l
    induction l with
    | nil => intro _ h1; cases h1
    | cons x r ih =>
      intro nd h1 h2
      rw [List.map_cons, List.nodup_cons] at nd
      have mem : ∀ u, (q, u) ∈ r → q ∈ r.map Prod.fst := fun u hu => List.mem_map.mpr ⟨(q, u), hu, rfl⟩
      rcases List.mem_cons.mp h1 with e1 | h1
      · rcases List.mem_cons.mp h2 with e2 | h2
        · rw [← e1] at e2
          injection e2 with _ e3
          exact e3.symm
        · rw [← e1] at nd
          exact absurd (mem w h2) nd.1
      · rcases List.mem_cons.mp h2 with e2 | h2
        · rw [← e2] at nd
          exact absurd (mem v h1) nd.1
        · exact ih nd.2 h1 h2
  exact key l h.nd h1 h2
theorem abS_ku (bk : Bk Sg) : ∀ (e : Ex) (p : Path), KU (und p) (abS bk e p).1
  | .num n, p => .one (und.refl p)
  | .name x, p => by
    unfold abS
    cases bk x with
    | none => exact .nil
    | some s => exact .one (und.refl p)
  | .bin w l r, p => by
    have hl := abS_ku bk l (p ++ [0])
    have hr := abS_ku bk r (p ++ [1])
    unfold abS
    generalize abS bk l (p ++ [0]) = A1 at hl
    generalize abS bk r (p ++ [1]) = A2 at hr
    obtain ⟨n1, o1⟩ := A1
    obtain ⟨n2, o2⟩ := A2
    cases o1 with
    | none => exact hl.mono fun q h => h.step
    | some s =>
      simp only
      have two := hl.app hr (fun q a b => by have := a.apart b; omega)
      cases stOf w (some s) o2 with
      | none => exact two.mono fun q h => h.elim und.step und.step
      | some m =>
        refine (two.app (KU.one (P := fun q => q = p) rfl) fun q a b => ?_).mono fun q h => ?_
        · subst b
          exact a.elim und.self und.self
        · rcases h with (h | h) | h
          · exact h.step
          · exact h.step
          · subst h; exact und.refl _
/-- keys of a block's: behind its numbers from k on -/
def from_ (k : Int) (p : Path) (q : Path) : Prop := ∃ j, k ≤ j ∧ und (p ++ [j]) q
structure AKU (P : Path → Prop) (a : AR) : Prop where
  notes : KU P a.notes
  heads : KU P a.heads
theorem AKU.no {P : Path → Prop} : AKU P AR.no := ⟨.nil, .nil⟩
theorem AKU.mono {P Q : Path → Prop} {a : AR} (h : AKU P a) (f : ∀ q, P q → Q q) : AKU Q a := ⟨h.notes.mono f, h.heads.mono f⟩
theorem bkBlk_ku {P : Path → Prop} {blk : Bk Sg → AR} (h : ∀ g, AKU P (blk g)) (o : Option (Bk Sg)) : AKU P (bkBlk blk o) := by
  cases o with
  | none => exact .no
  | some g => exact h g
theorem rfd_ku {e : Ex} {blk : Bk Sg → AR} {p : Path} (hb : ∀ g, AKU (und (p ++ [1])) (blk g)) (h : Bk Sg) : KU (fun q => und (p ++ [0]) q ∨ und (p ++ [1]) q) (rfd e blk p h).notes ∧ KU (und (p ++ [1])) (rfd e blk p h).heads := by
  have hn := abS_ku h e (p ++ [0])
  unfold rfd
  generalize abS h e (p ++ [0]) = A at hn
  obtain ⟨n, o⟩ := A
  cases o with
  | none => exact ⟨hn.mono fun q a => .inl a, .nil⟩
  | some m =>
    simp only
    have B : AKU (und (p ++ [1])) (if m = (0, 0) then AR.no else bkBlk blk (bhd e h true)) := by
      split
      · exact .no
      · exact bkBlk_ku hb _
    exact ⟨hn.app B.notes fun q a b => by have := a.apart b; omega, B.heads⟩
theorem whlA_ku {e : Ex} {blk : Bk Sg → AR} {p : Path} (hb : ∀ g, AKU (und (p ++ [1])) (blk g)) (bk : Bk Sg) : AKU (und p) (whlA e blk p bk) := by
  obtain ⟨a, b⟩ := rfd_ku (e := e) hb (hdF e blk p bk)
  refine ⟨a.mono fun q h => h.elim und.step und.step, ?_⟩
  refine ((KU.one (P := fun q => q = p) (v := hdF e blk p bk) rfl).app b fun q x y => ?_).mono fun q h => ?_
  · subst x; exact y.self
  · rcases h with h | h
    · subst h; exact und.refl _
    · exact h.step
theorem ifA_ku {e : Ex} {b1 b2 : Bk Sg → AR} {p : Path} (h1 : ∀ g, AKU (und (p ++ [1])) (b1 g)) (h2 : ∀ g, AKU (und (p ++ [2])) (b2 g)) (bk : Bk Sg) : AKU (und p) (ifA e b1 b2 p bk) := by
  have hn := abS_ku bk e (p ++ [0])
  unfold ifA
  generalize abS bk e (p ++ [0]) = A at hn
  obtain ⟨n, o⟩ := A
  cases o with
  | none => exact ⟨hn.mono fun q a => a.step, .nil⟩
  | some m =>
    simp only
    have B : AKU (und (p ++ [1])) (if m = (0, 0) then AR.no else bkBlk b1 (bhd e bk true)) := by
      split
      · exact .no
      · exact bkBlk_ku h1 _
    have C : AKU (und (p ++ [2])) (if (mt m (0, 0)).isSome then bkBlk b2 (bhd e bk false) else AR.no) := by
      split
      · exact bkBlk_ku h2 _
      · exact .no
    refine ⟨((hn.app B.notes fun q a b => by have := a.apart b; omega).app C.notes fun q a b => ?_).mono fun q h => ?_, (B.heads.app C.heads fun q a b => by have := a.apart b; omega).mono fun q h => h.elim und.step und.step⟩
    · rcases a with a | a
      · have := a.apart b; omega
      · have := a.apart b; omega
    · rcases h with (h | h) | h <;> exact h.step
theorem from_und {k : Int} {p q : Path} (h : from_ k p q) : und p q := by
  obtain ⟨j, _, h⟩ := h
  exact h.step
mutual
theorem aD_ku : ∀ (d : Dd) (p : Path) (bk : Bk Sg), AKU (und p) (aD d p bk)
  | .set x e, p, bk => by
    show AKU (und p) (setA x e p bk)
    have hn := abS_ku bk e (p ++ [0])
    unfold setA
    generalize abS bk e (p ++ [0]) = A at hn
    obtain ⟨n, o⟩ := A
    cases o with
    | none => exact ⟨hn.mono fun q a => a.step, .nil⟩
    | some m => exact ⟨hn.mono fun q a => a.step, .nil⟩
  | .ife e f g, p, bk => ifA_ku (fun h => (aB_ku f 0 (p ++ [1]) h).mono fun q a => from_und a) (fun h => (aB_ku g 0 (p ++ [2]) h).mono fun q a => from_und a) bk
  | .whl e m b, p, bk => whlA_ku (fun h => (aB_ku b 0 (p ++ [1]) h).mono fun q a => from_und a) bk
theorem aB_ku : ∀ (ds : List Dd) (k : Int) (p : Path) (bk : Bk Sg), AKU (from_ k p) (aB ds k p bk)
  | [], k, p, bk => ⟨.nil, .nil⟩
  | d :: ds, k, p, bk => by
    have hd := aD_ku d (p ++ [k]) bk
    show AKU (from_ k p) (seqA (aD d (p ++ [k]) bk) fun g => aB ds (k + 1) p g)
    unfold seqA
    cases q : (aD d (p ++ [k]) bk).out with
    | none => exact hd.mono fun q a => ⟨k, Int.le_refl _, a⟩
    | some g =>
      have ht := aB_ku ds (k + 1) p g
      have dis : ∀ q, und (p ++ [k]) q → from_ (k + 1) p q → False := fun q a ⟨j, hj, b⟩ => by
        have := a.apart b
        omega
      refine ⟨(hd.notes.app ht.notes dis).mono fun q h => ?_, (hd.heads.app ht.heads dis).mono fun q h => ?_⟩
      all_goals
        rcases h with h | ⟨j, hj, h⟩
        · exact ⟨k, Int.le_refl _, h⟩
        · exact ⟨j, by omega, h⟩
end

/-! ### sizes -/
def szE : Ex → Nat
  | .num _ => 1
  | .name _ => 1
  | .bin _ l r => 1 + szE l + szE r
def dpE : Ex → Nat
  | .num _ => 1
  | .name _ => 1
  | .bin _ l r => 1 + max (dpE l) (dpE r)
theorem szE_le : ∀ (n : Nat) (e : Ex), dpE e ≤ n → szE e + 1 ≤ 2 ^ n
  | 0, e, h => by cases e <;> (unfold dpE at h; omega)
  | n + 1, e, h => by
    have p2 : 2 ^ (n + 1) = 2 * 2 ^ n := by rw [Nat.pow_succ]; omega
    have pos : 1 ≤ 2 ^ n := Nat.one_le_two_pow
    cases e with
    | num _ => unfold szE; omega
    | name _ => unfold szE; omega
    | bin w l r =>
      have h' : 1 + max (dpE l) (dpE r) ≤ n + 1 := h
      have h1 := szE_le n l (by omega)
      have h2 := szE_le n r (by omega)
      show 1 + szE l + szE r + 1 ≤ _
      omega
theorem evS_len (env : Bk Int) : ∀ (e : Ex) (p : Path), (evS env e p).1.length ≤ szE e
  | .num n, p => by simp [evS, szE]
  | .name x, p => by simp [evS, szE]
  | .bin w l r, p => by
    have hl := evS_len env l (p ++ [0])
    have hr := evS_len env r (p ++ [1])
    unfold evS szE
    generalize evS env l (p ++ [0]) = E1 at hl
    generalize evS env r (p ++ [1]) = E2 at hr
    obtain ⟨r1, x1⟩ := E1
    obtain ⟨r2, x2⟩ := E2
    simp only at hl hr
    cases x1 with
    | bad f q => simp only; omega
    | ok i => cases x2 with
      | bad f q => simp only [List.length_append]; omega
      | ok j =>
        simp only
        split
        · simp only [List.length_append]; omega
        · simp only [List.length_append, List.length_singleton]; omega
mutual
/-- rows of a run -/
def cD : Dd → Nat
  | .set _ e => szE e
  | .ife e f g => szE e + cB f + cB g
  | .whl e m b => (m.toNat + 1) * szE e + m.toNat * cB b
def cB : List Dd → Nat
  | [] => 0
  | d :: ds => cD d + cB ds
end
mutual
/-- spots -/
def kD : Dd → Nat
  | .set _ e => szE e
  | .ife e f g => szE e + (kB f + kB g)
  | .whl e _ b => szE e + kB b
def kB : List Dd → Nat
  | [] => 0
  | d :: ds => kD d + kB ds
end
mutual
/-- how often anything is noted as heads are found -/
def wD : Dd → Nat
  | .set _ e => szE e
  | .ife e f g => szE e + wB f + wB g
  | .whl e _ b => 14 * (szE e + wB b) + 1
def wB : List Dd → Nat
  | [] => 0
  | d :: ds => wD d + wB ds
end
mutual
/-- deeds -/
def nD : Dd → Nat
  | .set _ _ => 1
  | .ife _ f g => 1 + (nB f + nB g)
  | .whl _ _ b => 1 + nB b
def nB : List Dd → Nat
  | [] => 0
  | d :: ds => nD d + nB ds
end
/-- blocks no more than n deep in it, few deeds, small sums -/
def limD : Nat → Dd → Prop
  | _, .set _ e => dpE e ≤ 3
  | 0, .ife _ _ _ => False
  | 0, .whl _ _ _ => False
  | n + 1, .ife e f g => dpE e ≤ 3 ∧ (f.length ≤ 4 ∧ ∀ d ∈ f, limD n d) ∧ (g.length ≤ 4 ∧ ∀ d ∈ g, limD n d)
  | n + 1, .whl e m b => dpE e ≤ 3 ∧ 0 ≤ m ∧ m ≤ 20 ∧ (b.length ≤ 4 ∧ ∀ d ∈ b, limD n d)
def limB (n : Nat) (ds : List Dd) : Prop := ds.length ≤ 4 ∧ ∀ d ∈ ds, limD n d
theorem limD_mono {n : Nat} : ∀ {d : Dd}, limD n d → limD (n + 1) d := by
  induction n with
  | zero =>
    intro d h
    cases d with
    | set x e => exact h
    | ife e f g => exact h.elim
    | whl e m b => exact h.elim
  | succ n ih =>
    intro d h
    cases d with
    | set x e => exact h
    | ife e f g =>
      obtain ⟨h1, ⟨h2, h3⟩, h4, h5⟩ := h
      exact ⟨h1, ⟨h2, fun d hd => ih (h3 d hd)⟩, h4, fun d hd => ih (h5 d hd)⟩
    | whl e m b =>
      obtain ⟨h1, h2, h3, h4, h5⟩ := h
      exact ⟨h1, h2, h3, h4, fun d hd => ih (h5 d hd)⟩
theorem sumB {F : Dd → Nat} {S : List Dd → Nat} (h0 : S [] = 0) (h1 : ∀ d ds, S (d :: ds) = F d + S ds) {mM : Nat} : ∀ (ds : List Dd), (∀ d ∈ ds, F d ≤ mM) → S ds ≤ ds.length * mM
  | [], _ => by rw [h0]; exact Nat.zero_le _
  | d :: ds, h => by
    rw [h1, List.length_cons, Nat.succ_mul]
    have a := h d List.mem_cons_self
    have b := sumB h0 h1 (mM := mM) ds fun d hd => h d (List.mem_cons_of_mem _ hd)
    omega
theorem mul4 {a b mM : Nat} (h : a ≤ b * mM) (hb : b ≤ 4) : a ≤ 4 * mM := Nat.le_trans h (Nat.mul_le_mul_right _ hb)
theorem sz7 {e : Ex} (h : dpE e ≤ 3) : szE e ≤ 7 := by
  have := szE_le 3 e h
  omega
def mC : Nat → Nat
  | 0 => 7
  | n + 1 => 147 + 20 * (4 * mC n) + 8 * mC n
def mW : Nat → Nat
  | 0 => 7
  | n + 1 => 14 * (7 + 4 * mW n) + 8
def mN : Nat → Nat
  | 0 => 7
  | n + 1 => 7 + 8 * mN n
theorem cD_le : ∀ (n : Nat) (d : Dd), limD n d → cD d ≤ mC n := by
  intro n
  induction n with
  | zero =>
    intro d h
    cases d with
    | set x e => exact sz7 h
    | ife e f g => exact h.elim
    | whl e m b => exact h.elim
  | succ n ih =>
    intro d h
    have blk : ∀ b : List Dd, (b.length ≤ 4 ∧ ∀ d ∈ b, limD n d) → cB b ≤ 4 * mC n := fun b hb =>
      mul4 (sumB (F := cD) (S := cB) (by simp [cB]) (fun d ds => by simp [cB]) b fun d hd => ih d (hb.2 d hd)) hb.1
    cases d with
    | set x e =>
      have := sz7 (e := e) h
      show szE e ≤ 147 + 20 * (4 * mC n) + 8 * mC n
      omega
    | ife e f g =>
      obtain ⟨h1, h2, h3⟩ := h
      have a := sz7 h1
      have b := blk f h2
      have c := blk g h3
      show cD (.ife e f g) ≤ 147 + 20 * (4 * mC n) + 8 * mC n
      rw [cD]
      omega
    | whl e m b =>
      obtain ⟨h1, h2, h3, h4⟩ := h
      have a := sz7 h1
      have c := blk b h4
      have hm : m.toNat ≤ 20 := by omega
      have e1 : (m.toNat + 1) * szE e ≤ 21 * 7 := Nat.mul_le_mul (by omega) a
      have e2 : m.toNat * cB b ≤ 20 * (4 * mC n) := Nat.mul_le_mul hm c
      show cD (.whl e m b) ≤ 147 + 20 * (4 * mC n) + 8 * mC n
      rw [cD]
      omega
theorem wD_le : ∀ (n : Nat) (d : Dd), limD n d → wD d ≤ mW n := by
  intro n
  induction n with
  | zero =>
    intro d h
    cases d with
    | set x e => exact sz7 h
    | ife e f g => exact h.elim
    | whl e m b => exact h.elim
  | succ n ih =>
    intro d h
    have blk : ∀ b : List Dd, (b.length ≤ 4 ∧ ∀ d ∈ b, limD n d) → wB b ≤ 4 * mW n := fun b hb =>
      mul4 (sumB (F := wD) (S := wB) (by simp [wB]) (fun d ds => by simp [wB]) b fun d hd => ih d (hb.2 d hd)) hb.1
    show wD d ≤ 14 * (7 + 4 * mW n) + 8
    cases d with
    | set x e =>
      have := sz7 (e := e) h
      rw [wD]
      omega
    | ife e f g =>
      obtain ⟨h1, h2, h3⟩ := h
      have a := sz7 h1
      have b := blk f h2
      have c := blk g h3
      rw [wD]
      omega
    | whl e m b =>
      obtain ⟨h1, h2, h3, h4⟩ := h
      have a := sz7 h1
      have c := blk b h4
      rw [wD]
      omega
theorem kD_le : ∀ (n : Nat) (d : Dd), limD n d → kD d ≤ mN n := by
  intro n
  induction n with
  | zero =>
    intro d h
    cases d with
    | set x e => exact sz7 h
    | ife e f g => exact h.elim
    | whl e m b => exact h.elim
  | succ n ih =>
    intro d h
    have blk : ∀ b : List Dd, (b.length ≤ 4 ∧ ∀ d ∈ b, limD n d) → kB b ≤ 4 * mN n := fun b hb =>
      mul4 (sumB (F := kD) (S := kB) (by simp [kB]) (fun d ds => by simp [kB]) b fun d hd => ih d (hb.2 d hd)) hb.1
    show kD d ≤ 7 + 8 * mN n
    cases d with
    | set x e =>
      have := sz7 (e := e) h
      rw [kD]
      omega
    | ife e f g =>
      obtain ⟨h1, h2, h3⟩ := h
      have a := sz7 h1
      have b := blk f h2
      have c := blk g h3
      rw [kD]
      omega
    | whl e m b =>
      obtain ⟨h1, h2, h3, h4⟩ := h
      have a := sz7 h1
      have c := blk b h4
      rw [kD]
      omega
theorem nD_le : ∀ (n : Nat) (d : Dd), limD n d → nD d ≤ mN n := by
  intro n
  induction n with
  | zero =>
    intro d h
    cases d with
    | set x e => exact (by decide : 1 ≤ 7)
    | ife e f g => exact h.elim
    | whl e m b => exact h.elim
  | succ n ih =>
    intro d h
    have blk : ∀ b : List Dd, (b.length ≤ 4 ∧ ∀ d ∈ b, limD n d) → nB b ≤ 4 * mN n := fun b hb =>
      mul4 (sumB (F := nD) (S := nB) (by simp [nB]) (fun d ds => by simp [nB]) b fun d hd => ih d (hb.2 d hd)) hb.1
    show nD d ≤ 7 + 8 * mN n
    cases d with
    | set x e => rw [nD]; omega
    | ife e f g =>
      obtain ⟨h1, h2, h3⟩ := h
      have b := blk f h2
      have c := blk g h3
      rw [nD]
      omega
    | whl e m b =>
      obtain ⟨h1, h2, h3, h4⟩ := h
      have c := blk b h4
      rw [nD]
      omega
theorem cB_le {n : Nat} {ds : List Dd} (h : limB n ds) : cB ds ≤ 4 * mC n := mul4 (sumB (F := cD) (S := cB) (by simp [cB]) (fun d ds => by simp [cB]) ds fun d hd => cD_le n d (h.2 d hd)) h.1
theorem wB_le {n : Nat} {ds : List Dd} (h : limB n ds) : wB ds ≤ 4 * mW n := mul4 (sumB (F := wD) (S := wB) (by simp [wB]) (fun d ds => by simp [wB]) ds fun d hd => wD_le n d (h.2 d hd)) h.1
theorem kB_le {n : Nat} {ds : List Dd} (h : limB n ds) : kB ds ≤ 4 * mN n := mul4 (sumB (F := kD) (S := kB) (by simp [kB]) (fun d ds => by simp [kB]) ds fun d hd => kD_le n d (h.2 d hd)) h.1
theorem nB_le {n : Nat} {ds : List Dd} (h : limB n ds) : nB ds ≤ 4 * mN n := mul4 (sumB (F := nD) (S := nB) (by simp [nB]) (fun d ds => by simp [nB]) ds fun d hd => nD_le n d (h.2 d hd)) h.1
theorem mC2 : 4 * mC 2 ≤ 1000000 := by decide
theorem mW2 : 4 * mW 2 ≤ 1000000 := by decide
theorem mN2 : 4 * mN 2 ≤ 1000000 := by decide

/-! ### rows of runs, names that have a worth -/
theorem evC_len {e : Ex} {p : Path} {s s1 : RS} {o : Option Int} (h : evC e p s = (s1, o)) : s1.seen.length ≤ s.seen.length + szE e ∧ s1.env = s.env := by
  have := evS_len s.env e p
  cases o with
  | none =>
    obtain ⟨f, q, rfl⟩ := evC_none h
    refine ⟨?_, rfl⟩
    simp only [List.length_append]
    omega
  | some v =>
    obtain ⟨rfl, _⟩ := evC_some h
    refine ⟨?_, rfl⟩
    simp only [List.length_append]
    omega
theorem lpR_len {run : RS → RS} {e : Ex} {p p' : Path} {c : Nat} (hr : ∀ s, (run s).seen.length ≤ s.seen.length + c) : ∀ (n : Nat) (s : RS), (lpR (evC e p) run p' n s).seen.length ≤ s.seen.length + ((n + 1) * szE e + n * c) := by
  intro n
  induction n with
  | zero =>
    intro s
    unfold lpR
    cases q : evC e p s with
    | mk s1 o =>
      have := (evC_len q).1
      cases o with
      | none => simp only; omega
      | some v =>
        simp only
        split
        · omega
        · simp only; omega
  | succ n ih =>
    intro s
    unfold lpR
    have e1 : (n + 1 + 1) * szE e = szE e + (n + 1) * szE e := by rw [Nat.succ_mul]; omega
    have e2 : (n + 1) * c = c + n * c := by rw [Nat.succ_mul]; omega
    cases q : evC e p s with
    | mk s1 o =>
      have := (evC_len q).1
      cases o with
      | none => simp only; omega
      | some v =>
        simp only
        split
        · omega
        · have h1 := hr s1
          split
          · omega
          · have h2 := ih (run s1)
            omega
mutual
theorem rnD_len : ∀ (d : Dd) (p : Path) (s : RS), (rnD d p s).seen.length ≤ s.seen.length + cD d
  | .set x e, p, s => by
    rw [rnD, cD]
    cases q : evC e (p ++ [0]) s with
    | mk s1 o =>
      have := (evC_len q).1
      cases o <;> (simp only; omega)
  | .ife e f g, p, s => by
    rw [rnD, cD]
    cases q : evC e (p ++ [0]) s with
    | mk s1 o =>
      have := (evC_len q).1
      cases o with
      | none => simp only; omega
      | some v =>
        simp only
        split
        · have := rnB_len f 0 (p ++ [1]) s1; omega
        · have := rnB_len g 0 (p ++ [2]) s1; omega
  | .whl e m b, p, s => by
    rw [rnD, cD]
    exact lpR_len (fun s => rnB_len b 0 (p ++ [1]) s) m.toNat s
theorem rnB_len : ∀ (ds : List Dd) (k : Int) (p : Path) (s : RS), (rnB ds k p s).seen.length ≤ s.seen.length + cB ds
  | [], k, p, s => by rw [rnB, cB]; exact Nat.le_refl _
  | d :: ds, k, p, s => by
    rw [rnB, cB]
    have a := rnD_len d (p ++ [k]) s
    have b := rnB_len ds (k + 1) p (if s.fault.isSome then s else rnD d (p ++ [k]) s)
    split at b
    · rename_i h; rw [if_pos h]; omega
    · rename_i h; rw [if_neg h]; omega
end
def inDomE (K : Nm → Prop) (env : Bk Int) : Prop := ∀ x, K x → (env x).isSome = true
def domLeE (h g : Bk Int) : Prop := ∀ x, (h x).isSome = true → (g x).isSome = true
theorem dom_putE {env : Bk Int} {x : Nm} {v : Int} : domLeE env (put env x v) := fun y h => by
  by_cases hy : y = x
  · subst hy; rw [put_same]; rfl
  · rw [put_ne hy]; exact h
theorem lpR_dom {run : RS → RS} {e : Ex} {p p' : Path} (hr : ∀ s, domLeE s.env (run s).env) : ∀ (n : Nat) (s : RS), domLeE s.env (lpR (evC e p) run p' n s).env := by
  intro n
  induction n with
  | zero =>
    intro s x hx
    unfold lpR
    cases q : evC e p s with
    | mk s1 o =>
      have e1 := (evC_len q).2
      cases o with
      | none => simp only; rw [e1]; exact hx
      | some v =>
        simp only
        split
        · rw [e1]; exact hx
        · simp only; rw [e1]; exact hx
  | succ n ih =>
    intro s x hx
    unfold lpR
    cases q : evC e p s with
    | mk s1 o =>
      have e1 := (evC_len q).2
      cases o with
      | none => simp only; rw [e1]; exact hx
      | some v =>
        simp only
        split
        · rw [e1]; exact hx
        · have h1 := hr s1 x (by rw [e1]; exact hx)
          split
          · exact h1
          · exact ih (run s1) x h1
mutual
theorem rnD_dom : ∀ (d : Dd) (p : Path) (s : RS), domLeE s.env (rnD d p s).env
  | .set x e, p, s => fun y hy => by
    rw [rnD]
    cases q : evC e (p ++ [0]) s with
    | mk s1 o =>
      have e1 := (evC_len q).2
      cases o with
      | none => simp only; rw [e1]; exact hy
      | some v => simp only; exact dom_putE y (by rw [e1]; exact hy)
  | .ife e f g, p, s => fun y hy => by
    rw [rnD]
    cases q : evC e (p ++ [0]) s with
    | mk s1 o =>
      have e1 := (evC_len q).2
      cases o with
      | none => simp only; rw [e1]; exact hy
      | some v =>
        simp only
        split
        · exact rnB_dom f 0 (p ++ [1]) s1 y (by rw [e1]; exact hy)
        · exact rnB_dom g 0 (p ++ [2]) s1 y (by rw [e1]; exact hy)
  | .whl e m b, p, s => fun y hy => by
    rw [rnD]
    exact lpR_dom (fun s => rnB_dom b 0 (p ++ [1]) s) m.toNat s y hy
theorem rnB_dom : ∀ (ds : List Dd) (k : Int) (p : Path) (s : RS), domLeE s.env (rnB ds k p s).env
  | [], k, p, s => fun y hy => by rw [rnB]; exact hy
  | d :: ds, k, p, s => fun y hy => by
    rw [rnB]
    split
    · exact rnB_dom ds (k + 1) p s y hy
    · exact rnB_dom ds (k + 1) p _ y (rnD_dom d (p ++ [k]) s y hy)
end
mutual
theorem rnD_inDom : ∀ (d : Dd) (p : Path) (K : Nm → Prop) (s : RS), inDomE K s.env → s.fault = none → (rnD d p s).fault = none → inDomE (afD d K) (rnD d p s).env
  | .set x e, p, K, s => fun hK hf h => by
    rw [rnD] at h ⊢
    cases q : evC e (p ++ [0]) s with
    | mk s1 o =>
      rw [q] at h
      have e1 := (evC_len q).2
      cases o with
      | none =>
        obtain ⟨f, q', rfl⟩ := evC_none q
        cases h
      | some v =>
        intro y hy
        simp only
        rcases hy with hy | rfl
        · exact dom_putE y (by rw [e1]; exact hK y hy)
        · rw [put_same]; rfl
  | .ife e f g, p, K, s => fun hK hf h => by
    rw [rnD] at h ⊢
    cases q : evC e (p ++ [0]) s with
    | mk s1 o =>
      rw [q] at h
      have e1 := (evC_len q).2
      cases o with
      | none =>
        obtain ⟨f, q', rfl⟩ := evC_none q
        cases h
      | some v =>
        obtain ⟨rfl, _⟩ := evC_some q
        simp only at h ⊢
        by_cases hv : v ≠ 0
        · rw [if_pos hv] at h ⊢
          exact fun y hy => rnB_inDom f 0 (p ++ [1]) K ⟨s.env, s.seen ++ (evS s.env e (p ++ [0])).1, none⟩ hK rfl h y hy.1
        · rw [if_neg hv] at h ⊢
          exact fun y hy => rnB_inDom g 0 (p ++ [2]) K ⟨s.env, s.seen ++ (evS s.env e (p ++ [0])).1, none⟩ hK rfl h y hy.2
  | .whl e m b, p, K, s => fun hK hf h y hy => rnD_dom (.whl e m b) p s y (hK y hy)
theorem rnB_inDom : ∀ (ds : List Dd) (k : Int) (p : Path) (K : Nm → Prop) (s : RS), inDomE K s.env → s.fault = none → (rnB ds k p s).fault = none → inDomE (afB ds K) (rnB ds k p s).env
  | [], k, p, K, s => fun hK hf h => by rw [rnB]; exact hK
  | d :: ds, k, p, K, s => fun hK hf h => by
    rw [rnB, hf] at h ⊢
    show inDomE _ (rnB ds (k + 1) p (rnD d (p ++ [k]) s)).env
    have h' : (rnB ds (k + 1) p (rnD d (p ++ [k]) s)).fault = none := h
    cases z : (rnD d (p ++ [k]) s).fault with
    | some w =>
      rw [rnB_fault ds (k + 1) p _ (by rw [z]; rfl), z] at h'
      cases h'
    | none => exact rnB_inDom ds (k + 1) p (afD d K) _ (rnD_inDom d (p ++ [k]) K s hK hf z) z h'
end

/-! ### names exchanged -/
def exN : Nm → Nm
  | .a => .d
  | .d => .a
  | x => x
theorem exN_exN (x : Nm) : exN (exN x) = x := by cases x <;> rfl
def exE : Ex → Ex
  | .num n => .num n
  | .name x => .name (exN x)
  | .bin w l r => .bin w (exE l) (exE r)
mutual
def exD : Dd → Dd
  | .set x e => .set (exN x) (exE e)
  | .ife e f g => .ife (exE e) (exB f) (exB g)
  | .whl e m b => .whl (exE e) m (exB b)
def exB : List Dd → List Dd
  | [] => []
  | d :: ds => exD d :: exB ds
end
theorem exB_length : ∀ ds : List Dd, (exB ds).length = ds.length
  | [] => by rw [exB]
  | d :: ds => by rw [exB, List.length_cons, List.length_cons, exB_length ds]
theorem exB_mem : ∀ {ds : List Dd} {d : Dd}, d ∈ exB ds → ∃ d', d' ∈ ds ∧ d = exD d'
  | [], d, h => by rw [exB] at h; cases h
  | d0 :: ds, d, h => by
    rw [exB] at h
    rcases List.mem_cons.mp h with h | h
    · exact ⟨d0, List.mem_cons_self, h⟩
    · obtain ⟨d', a, b⟩ := exB_mem h
      exact ⟨d', List.mem_cons_of_mem _ a, b⟩
theorem dpE_ex : ∀ e : Ex, dpE (exE e) = dpE e
  | .num n => rfl
  | .name x => rfl
  | .bin w l r => by show 1 + max (dpE (exE l)) (dpE (exE r)) = _; rw [dpE_ex l, dpE_ex r]; rfl
theorem szE_ex : ∀ e : Ex, szE (exE e) = szE e
  | .num n => rfl
  | .name x => rfl
  | .bin w l r => by show 1 + szE (exE l) + szE (exE r) = _; rw [szE_ex l, szE_ex r]; rfl
theorem limD_ex : ∀ (n : Nat) (d : Dd), limD n d → limD n (exD d) := by
  intro n
  induction n with
  | zero =>
    intro d h
    cases d with
    | set x e =>
      rw [exD]
      show dpE (exE e) ≤ 3
      rw [dpE_ex]
      exact h
    | ife e f g => exact h.elim
    | whl e m b => exact h.elim
  | succ n ih =>
    intro d h
    have blk : ∀ b : List Dd, (b.length ≤ 4 ∧ ∀ d ∈ b, limD n d) → ((exB b).length ≤ 4 ∧ ∀ d ∈ exB b, limD n d) := fun b hb =>
      ⟨by rw [exB_length]; exact hb.1, fun d hd => by obtain ⟨d', a, e⟩ := exB_mem hd; subst e; exact ih d' (hb.2 d' a)⟩
    cases d with
    | set x e =>
      rw [exD]
      show dpE (exE e) ≤ 3
      rw [dpE_ex]
      exact h
    | ife e f g =>
      obtain ⟨h1, h2, h3⟩ := h
      rw [exD]
      exact ⟨by rw [dpE_ex]; exact h1, blk f h2, blk g h3⟩
    | whl e m b =>
      obtain ⟨h1, h2, h3, h4⟩ := h
      rw [exD]
      exact ⟨by rw [dpE_ex]; exact h1, h2, h3, blk b h4⟩
theorem limB_ex {n : Nat} {ds : List Dd} (h : limB n ds) : limB n (exB ds) :=
  ⟨by rw [exB_length]; exact h.1, fun d hd => by obtain ⟨d', a, e⟩ := exB_mem hd; subst e; exact limD_ex n d' (h.2 d' a)⟩
mutual
theorem kD_ex : ∀ d : Dd, kD (exD d) = kD d
  | .set x e => by rw [exD, kD, kD, szE_ex]
  | .ife e f g => by rw [exD, kD, kD, szE_ex, kB_ex f, kB_ex g]
  | .whl e m b => by rw [exD, kD, kD, szE_ex, kB_ex b]
theorem kB_ex : ∀ ds : List Dd, kB (exB ds) = kB ds
  | [] => by rw [exB]
  | d :: ds => by rw [exB, kB, kB, kD_ex d, kB_ex ds]
end
def exK (K : Nm → Prop) : Nm → Prop := fun x => K (exN x)
theorem wfE_ex {K : Nm → Prop} : ∀ e : Ex, wfE K e → wfE (exK K) (exE e)
  | .num n, h => h
  | .name x, h => by
    show K (exN (exN x))
    rw [exN_exN]
    exact h
  | .bin w l r, h => ⟨wfE_ex l h.1, wfE_ex r h.2⟩
mutual
theorem afD_ex : ∀ (d : Dd) (K : Nm → Prop), afD (exD d) (exK K) = exK (afD d K)
  | .set x e, K => by
    rw [exD]
    funext y
    show (exK K y ∨ y = exN x) = (K (exN y) ∨ exN y = x)
    refine propext ⟨fun h => h.elim .inl fun e => .inr ?_, fun h => h.elim .inl fun e => .inr ?_⟩
    · rw [e, exN_exN]
    · rw [← e, exN_exN]
  | .ife e f g, K => by
    rw [exD]
    funext y
    show (afB (exB f) (exK K) y ∧ afB (exB g) (exK K) y) = (afB f K (exN y) ∧ afB g K (exN y))
    rw [afB_ex f K, afB_ex g K]
    rfl
  | .whl e m b, K => by rw [exD]; rfl
theorem afB_ex : ∀ (ds : List Dd) (K : Nm → Prop), afB (exB ds) (exK K) = exK (afB ds K)
  | [], K => by rw [exB]; rfl
  | d :: ds, K => by
    rw [exB]
    show afB (exB ds) (afD (exD d) (exK K)) = exK (afB ds (afD d K))
    rw [afD_ex d K, afB_ex ds (afD d K)]
end
mutual
theorem wfD_ex : ∀ (d : Dd) (K : Nm → Prop), wfD d K → wfD (exD d) (exK K)
  | .set x e, K, h => by
    rw [exD]
    exact wfE_ex e h
  | .ife e f g, K, h => by
    rw [exD]
    exact ⟨wfE_ex e h.1, wfB_ex f K h.2.1, wfB_ex g K h.2.2⟩
  | .whl e m b, K, h => by
    rw [exD]
    exact ⟨wfE_ex e h.1, h.2.1, h.2.2.1, wfB_ex b K h.2.2.2⟩
theorem wfB_ex : ∀ (ds : List Dd) (K : Nm → Prop), wfB ds K → wfB (exB ds) (exK K)
  | [], K, h => by rw [exB]; trivial
  | d :: ds, K, h => by
    rw [exB]
    refine ⟨wfD_ex d K h.1, ?_⟩
    show wfB (exB ds) (afD (exD d) (exK K))
    rw [afD_ex]
    exact wfB_ex ds (afD d K) h.2
end
def exV {α : Type} (env : Bk α) : Bk α := fun x => env (exN x)
theorem exV_put {α : Type} (env : Bk α) (x : Nm) (v : α) : put (exV env) (exN x) v = exV (put env x v) := by
  funext y
  show (if y = exN x then some v else env (exN y)) = (if exN y = x then some v else env (exN y))
  by_cases h : y = exN x
  · rw [if_pos h, if_pos (by rw [h, exN_exN])]
  · rw [if_neg h, if_neg fun e => h (by rw [← e, exN_exN])]
theorem evS_ex (env : Bk Int) : ∀ (e : Ex) (p : Path), evS (exV env) (exE e) p = evS env e p
  | .num n, p => rfl
  | .name x, p => by
    show ([(p, (env (exN (exN x))).getD 0)], noteR p ((env (exN (exN x))).getD 0)) = _
    rw [exN_exN]
    rfl
  | .bin w l r, p => by
    have hl := evS_ex env l (p ++ [0])
    have hr := evS_ex env r (p ++ [1])
    show evS (exV env) (.bin w (exE l) (exE r)) p = _
    unfold evS
    rw [hl, hr]
def RS.ex (s : RS) : RS := ⟨exV s.env, s.seen, s.fault⟩
theorem evC_ex (e : Ex) (p : Path) (s : RS) : evC (exE e) p s.ex = ((evC e p s).1.ex, (evC e p s).2) := by
  unfold evC
  show (match evS (exV s.env) (exE e) p with | (rows, .ok v) => ((⟨exV s.env, s.seen ++ rows, none⟩ : RS), some v) | (rows, .bad f q) => (⟨exV s.env, s.seen ++ rows, some (f, q)⟩, none)) = _
  rw [evS_ex]
  generalize evS s.env e p = E
  obtain ⟨r, x⟩ := E
  cases x <;> rfl
theorem lpR_ex {run run' : RS → RS} (hr : ∀ s, run' s.ex = (run s).ex) (e : Ex) (p p' : Path) : ∀ (n : Nat) (s : RS), lpR (evC (exE e) p) run' p' n s.ex = (lpR (evC e p) run p' n s).ex := by
  intro n
  induction n with
  | zero =>
    intro s
    unfold lpR
    rw [evC_ex]
    generalize evC e p s = C
    obtain ⟨s1, o⟩ := C
    cases o with
    | none => rfl
    | some v =>
      simp only
      split <;> rfl
  | succ n ih =>
    intro s
    unfold lpR
    rw [evC_ex]
    generalize evC e p s = C
    obtain ⟨s1, o⟩ := C
    cases o with
    | none => rfl
    | some v =>
      simp only
      split
      · rfl
      · rw [hr s1]
        show (if (run s1).fault.isSome = true then (run s1).ex else lpR (evC (exE e) p) run' p' n (run s1).ex) = _
        split
        · rfl
        · exact ih (run s1)
mutual
theorem rnD_ex : ∀ (d : Dd) (p : Path) (s : RS), rnD (exD d) p s.ex = (rnD d p s).ex
  | .set x e, p, s => by
    rw [exD, rnD, rnD, evC_ex]
    generalize evC e (p ++ [0]) s = C
    obtain ⟨s1, o⟩ := C
    cases o with
    | none => rfl
    | some v =>
      show (⟨put (exV s1.env) (exN x) v, s1.seen, s1.fault⟩ : RS) = ⟨exV (put s1.env x v), s1.seen, s1.fault⟩
      rw [exV_put]
  | .ife e f g, p, s => by
    rw [exD, rnD, rnD, evC_ex]
    generalize evC e (p ++ [0]) s = C
    obtain ⟨s1, o⟩ := C
    cases o with
    | none => rfl
    | some v =>
      simp only
      split
      · exact rnB_ex f 0 (p ++ [1]) s1
      · exact rnB_ex g 0 (p ++ [2]) s1
  | .whl e m b, p, s => by
    rw [exD, rnD, rnD]
    exact lpR_ex (fun s => rnB_ex b 0 (p ++ [1]) s) e (p ++ [0]) p m.toNat s
theorem rnB_ex : ∀ (ds : List Dd) (k : Int) (p : Path) (s : RS), rnB (exB ds) k p s.ex = (rnB ds k p s).ex
  | [], k, p, s => by rw [exB, rnB, rnB]
  | d :: ds, k, p, s => by
    rw [exB, rnB, rnB]
    have e : (if s.ex.fault.isSome = true then s.ex else rnD (exD d) (p ++ [k]) s.ex) = (if s.fault.isSome = true then s else rnD d (p ++ [k]) s).ex := by
      show (if s.fault.isSome = true then s.ex else rnD (exD d) (p ++ [k]) s.ex) = _
      split
      · rfl
      · exact rnD_ex d (p ++ [k]) s
    rw [e]
    exact rnB_ex ds (k + 1) p _
end
end SrM
end
section
set_option Elab.async false
set_option linter.all false
set_option maxRecDepth 100000
set_option maxHeartbeats 4000000
/-! rules that the layer lacks: enumerate of a tuple, zip of a list and a tuple -/
namespace SrK
open PySem PySem.Spec PyProof.Rows L2

/-! ### enumerate(tuple) -/
theorem meets_enumerate_newB1 {v : Value} {o : Obj} {H : Heap → Prop} (B : Begins v o H) :
    Meets (Builtin.«enumerate.__new__» ⟨[.type "enumerate", v], []⟩) (fun _ R s => H s.heap ∧
      R (.ok (.ret (.ref (s.heap.push o).objs.size))) { s with heap := (s.heap.push o).push { cls := .type "enumerate", data := .fields #[.none, .bool false, .ref s.heap.objs.size, rawInt 0, .none, .none] } }) :=
  .of_wp fun prog w A R s h => by
    obtain ⟨hp, g, d, tk, os⟩ := s; obtain ⟨h1, h⟩ := h
    have hsub := sub_enumerate
    have q1 : ∀ {A' : Around} {E : Value → Shared → Prop} {Q : Value → Shared → Prop}, Q (.ref hp.objs.size) ⟨hp.push o, g, d, tk, os⟩ → wpAny (model prog w) A' (pyIter v) Q E ⟨hp, g, d, tk, os⟩ :=
      fun q => B.iter prog w _ _ ⟨hp, g, d, tk, os⟩ _ h1 q
    wp_walk using q1
    refine wpAny_stack_any fun st => wpAny_pure ?_
    split
    · rename_i c _ _ _ _ _
      cases (c == Value.type "enumerate")
      · wp_walk using q1
        exact ⟨_, rfl, h⟩
      · wp_walk using q1
        exact ⟨_, rfl, h⟩
    · wp_walk using q1
      exact ⟨_, rfl, h⟩
theorem enum_begins1 {prog : Program} {w : World} {A : Around} {E : Value → Shared → Prop} {s : Shared} {v : Value} {o : Obj} {H : Heap → Prop} {Q : Value → Shared → Prop} (B : Begins v o H) (h1 : H s.heap)
    (h : ∀ h', IsEnum h' (s.heap.objs.size + 1) s.heap.objs.size 0 .none → h'.get? s.heap.objs.size = some o → h'.objs.size = s.heap.objs.size + 2 →
      (∀ b o, s.heap.get? b = some o → h'.get? b = some o) → Q (.ref (s.heap.objs.size + 1)) { s with heap := h' }) :
    wpAny (model prog w) A (call (.type "enumerate") [v]) Q E s := by
  refine callType_new F.called_enumerate (by decide) (F.typeCall_enumerate_1 _) (F.newCall_enumerate_1 _) (fun obj => F.args_object_init_2 obj _) F.entry_enumerate_new
    (meets_enumerate_newB1 B) ⟨h1, ?_⟩
  have hz : (s.heap.push o).objs.size = s.heap.objs.size + 1 := Heap.size_push ..
  show _ ∧ _
  rw [hz]
  have he : IsEnum ((s.heap.push o).push { cls := .type "enumerate", data := .fields #[.none, .bool false, .ref s.heap.objs.size, rawInt 0, .none, .none] }) (s.heap.objs.size + 1) s.heap.objs.size 0 .none := by
    have := Heap.get?_push_size (s.heap.push o) (o := { cls := .type "enumerate", data := .fields #[.none, .bool false, .ref s.heap.objs.size, rawInt 0, .none, .none] }) rfl
    rw [hz] at this; exact this
  refine ⟨⟨_, he, rfl⟩, h _ he (Heap.get?_push_of_some _ (Heap.get?_push_size _ B.free)) (by rw [Heap.size_push, hz]) fun b o x => Heap.get?_push_of_some _ (Heap.get?_push_of_some _ x)⟩
/-- the tuple at a as it stands at each turn, each item in a new pair -/
def IteT (K : PySem.W.Frag) (a : Addr) : It :=
  ⟨fun i H => ∃ (xs : List V) (x : V), SqT K H a xs ∧ xs[i]? = some x, fun i H v H' => ∃ T x, v = .ref T ∧ H T = none ∧ H' = upd H T (.tup [.int (i : Nat), x]) ∧ ∀ xs, SqT K H a xs → xs[i]? = some x, fun i H => ∃ xs : List V, SqT K H a xs ∧ i = xs.length⟩
theorem isTup_isTuple {h : Heap} {a : Addr} {items : Array Value} (p : IsTup h a items) : h.IsTuple a items := p
theorem tup_ne_fields {h : Heap} {a e : Addr} {items : Array Value} {o : Obj} {vs : Array Value} (p : h.IsTuple a items) (he : h.get? e = some o) (hd : o.data = .fields vs) : e ≠ a := by
  rintro rfl
  obtain ⟨ob, ho, _, n, hdt⟩ := p
  rw [ho] at he
  cases he
  rw [hdt] at hd
  cases hd
theorem turn_enumT {P : Program} {w : World} {K : PySem.W.Frag} {elts : List Expr} {kk : Nat} {tpos : Pos} (a e it : Addr) :
    Turn P w K (.Tuple elts kk tpos) (IteT K a) [e, it] e (fun i h => (∃ old, IsEnum h e it ((i : Nat) : Int) old) ∧ h.IsTupleIter it a i ∧ e ≠ it) where
  mem := by simp
  obj := fun i h st b hb => by
    obtain ⟨⟨old, he⟩, ⟨o, ho, hc, hd⟩, _⟩ := st
    have e' : b = e ∨ b = it := by simpa using hb
    rcases e' with z | z
    · rw [z]; exact ⟨_, he, fun v q => nomatch q⟩
    · rw [z]; exact ⟨o, ho, fun v q => by rw [hd] at q; cases q⟩
  keep := fun i h h' st k => let ⟨⟨old, he⟩, hi, hne⟩ := st; ⟨⟨old, k e (by simp) _ he⟩, hi.at fun o q => k it (by simp) o q, hne⟩
  item := by
    intro X hP hw hK hc i pins s σ H E I hf st hg
    subst hP hw hK
    obtain ⟨⟨old, he⟩, hit, hne⟩ := st
    obtain ⟨xs, x, hq, hx⟩ := hg
    obtain ⟨its, rv, p, hz⟩ := I.tuple hq
    obtain ⟨u, hu, ru⟩ := rv.get hx
    have pt : s.heap.IsTuple a its.toArray := p
    have hel : e < s.heap.objs.size := Heap.lt_size he
    have hil : it < s.heap.objs.size := by obtain ⟨_, q, _⟩ := hit; exact Heap.lt_size q
    have hea : e ≠ a := tup_ne_fields pt he rfl
    have hia : it ≠ a := by obtain ⟨o, q, _, hd⟩ := hit; exact tup_ne_fields pt q hd
    have D := Draws.tuple (prog := X.prog) (w := X.w) (A := X.A.in1) (by have := I.ok.hd hc; exact this) it a (Ne.symm hia) its.toArray
    have hlt : i < its.toArray.size := by
      have := (List.getElem?_eq_some_iff.mp hu).1
      simpa using this
    refine wpAny_pyNext_enum_itemD D he ⟨hit, pt⟩ hlt hne (by simp [hne, hea]) fun y h' tk hy ho hit' hT hsz hk => ?_
    have ey : y = u := by
      have h1 : its.toArray[i]? = some y := hy
      have h2 : its.toArray[i]? = some u := by simpa using hu
      rw [h1] at h2
      exact Option.some.inj h2
    subst ey
    refine ⟨_, rfl, wpAny_letOwnedTupleGo_enum (s := { s with heap := h', toks := tk + 1 }) ho fun h'' he' sb => ?_⟩
    have hT2 : h''.get? s.heap.objs.size = some { cls := .type "tuple", data := .seq #[.int i tk, y] } := (sb.2 _ (Nat.ne_of_gt hel)).trans hT
    have new : ObjOk X.prog X.w (upd H s.heap.objs.size (.tup [.int (i : Nat), x])) h'' s.heap.objs.size (.tup [.int (i : Nat), x]) :=
      ⟨by show 2 ≤ sizeLine; decide, [.int i tk, y], .cons ⟨_, rfl⟩ (.cons ru .nil), ⟨_, hT2, rfl, _, rfl⟩⟩
    have I1 : Inv X pins σ (upd H s.heap.objs.size (.tup [.int (i : Nat), x])) { s with heap := h'', toks := tk + 1 } :=
      I.turnedNew (ch := [e, it]) (fun b ob hb q => (sb.2 b (fun z => hb (by simp [z]))).trans (hk b ob (fun z => hb (by simp [z])) (fun z => hb (by simp [z])) q)) hf (Nat.le_refl _) new
    refine ⟨.ref s.heap.objs.size, _, I1, rfl, ⟨_, x, rfl, I.hok.fresh (Nat.le_refl _), rfl, fun ys hy => by rw [I.tuple_inj hy hq]; exact hx⟩, ⟨⟨y, ?_⟩, hit'.1.at fun o q => (sb.2 it (Ne.symm hne)).trans q, hne⟩, fun b hb => ?_⟩
    · have e1 : ((i + 1 : Nat) : Int) = (i : Int) + 1 := by omega
      rw [e1]; exact he'
    · have hb' : b < s.heap.objs.size := by
        have e' : b = e ∨ b = it := by simpa using hb
        rcases e' with z | z
        · rw [z]; exact hel
        · rw [z]; exact hil
      rw [upd_ne (Nat.ne_of_lt hb')]
      exact (hf b hb).1
  done := by
    intro X hP hw hK hc i pins s σ H E I hf st hg
    subst hP hw hK
    obtain ⟨⟨old, he⟩, hit, hne⟩ := st
    obtain ⟨xs, hq, hx⟩ := hg
    obtain ⟨its, rv, p, hz⟩ := I.tuple hq
    have pt : s.heap.IsTuple a its.toArray := p
    obtain ⟨f0, f1, f2, f3, f4, f5⟩ := hf it (by simp)
    have hl := rv.length
    have hia : it ≠ a := by obtain ⟨o, q, _, hd⟩ := hit; exact tup_ne_fields pt q hd
    have D := Draws.tuple (prog := X.prog) (w := X.w) (A := X.A.in1) (by have := I.ok.hd hc; exact this) it a (Ne.symm hia) its.toArray
    have ei : i = its.toArray.size := by rw [hx, hl]; simp
    subst ei
    exact wpAny_pyNext_enum_endD D he ⟨hit, pt⟩ fun h' eb => ⟨rfl, I.turned (t' := s.toks) (fun b o hb q => eb b o hb q) f0 f1 f3 f4 f5⟩
  self := fun A i s Q E st h => let ⟨⟨_, he⟩, _⟩ := st; wpAny_pyIter_enum he h
def iEnumT (K : PySem.W.Frag) (ta : TA) : TI := fun σ H R => ta σ H fun vs H1 => ∃ a xs, vs = [.ref a] ∧ SqT K H1 a xs ∧ R (IteT K a) H1
theorem pi_enumT {X : Cx} {e : Expr} {ta : TA} {p pos tpos : Pos} {elts : List Expr} {kk : Nat} (hg : Gl X "enumerate") (hm : X.mg "enumerate" = none) (ha : PA X [e] ta) (hs : starEach [e] X.env = [(false, eval e X.env)] := by rfl) :
    PI X (.Tuple elts kk tpos) (.Call (.Name "enumerate" p) [e] [] pos) (iEnumT X.K ta) := by
  refine ⟨fun pins s σ H R I h => ?_⟩
  refine Call_ (ld_blt I hg hm boot_enumerate (PyProof.Rows.callWith_type1 (thn (ha.run pos pins s σ H _ I h) fun us s1 ⟨vs, H1, I1, r1, q1⟩ => ?_) hs rfl))
  obtain ⟨a, xs, ex, hq, q⟩ := q1
  subst ex
  cases r1 with
  | cons r rr =>
    cases rr
    cases r
    obtain ⟨its, rv, p', hz⟩ := I1.tuple hq
    have pt : s1.heap.IsTuple a its.toArray := p'
    refine enum_begins1 (begins_tuple a its.toArray) pt fun h' he hit hsz hk => wpAny_pyIter_enum he ?_
    have I2 : Inv X pins σ H1 { s1 with heap := h' } := I1.kept (t' := s1.toks) hk
    refine ⟨s1.heap.objs.size + 1, [s1.heap.objs.size + 1, s1.heap.objs.size], _, _, H1, rfl, I2, turn_enumT a (s1.heap.objs.size + 1) s1.heap.objs.size, ⟨⟨.none, he⟩, ⟨_, hit, rfl, rfl⟩, Nat.succ_ne_self _⟩, fun b hb => ?_, q⟩
    have e' : b = s1.heap.objs.size + 1 ∨ b = s1.heap.objs.size := by simpa using hb
    have hle : s1.heap.objs.size ≤ b := by
      rcases e' with z | z
      · rw [z]; exact Nat.le_add_right _ _
      · rw [z]; exact Nat.le_refl _
    exact I1.fpOk hle (I1.hok.fresh hle)
theorem walk_enumT {K : PySem.W.Frag} {a : Addr} {xs : List V} : Walk (IteT K a) xs.length (fun H => SqT K H a xs) (YPair (fun i => some (.int (i : Nat))) (fun i => xs[i]?)) := by
  refine ⟨fun i _ hi q => ⟨xs, xs[i], q, by simp [hi]⟩, fun _ q => ⟨xs, q, rfl⟩, fun i H v H' _ q y => ?_⟩
  obtain ⟨T, x, h1, h2, h3, h4⟩ := y
  exact ⟨T, .int (i : Nat), x, h1, h2, h3, rfl, h4 xs q⟩

/-! ### zip(list, tuple) -/
def ItzM (K : PySem.W.Frag) (a b : Addr) : It :=
  ⟨fun i H => ∃ (xs ys : List V) (x y : V), SqL K H a xs ∧ SqT K H b ys ∧ xs.length = ys.length ∧ xs[i]? = some x ∧ ys[i]? = some y,
    fun i H v H' => ∃ T x y, v = .ref T ∧ H T = none ∧ H' = upd H T (.tup [x, y]) ∧ (∀ xs, SqL K H a xs → xs[i]? = some x) ∧ ∀ ys, SqT K H b ys → ys[i]? = some y,
    fun i H => ∃ xs ys : List V, SqL K H a xs ∧ SqT K H b ys ∧ i = xs.length ∧ xs.length = ys.length⟩
theorem lst_ne_fields {h : Heap} {a e : Addr} {items : Array Value} {o : Obj} {vs : Array Value} (p : h.IsList a items) (he : h.get? e = some o) (hd : o.data = .fields vs) : e ≠ a := by
  rintro rfl
  obtain ⟨ob, ho, _, n, hdt⟩ := p
  rw [ho] at he
  cases he
  rw [hdt] at hd
  cases hd
theorem turn_zipM {P : Program} {w : World} {K : PySem.W.Frag} {elts : List Expr} {kk : Nat} {tpos : Pos} {a b z TI TO i1 i2 : Addr} (S : ZipSep2 z TI TO i1 i2 [i1, a] [i2, b]) :
    Turn P w K (.Tuple elts kk tpos) (ItzM K a b) [z, TI, TO, i1, i2] z (fun i h => IsZip h z TI TO .none ∧ IsTupOf2 h TI (.ref i1) (.ref i2) ∧ (∃ x y, IsTupOf2 h TO x y) ∧ h.IsListIter i1 a i ∧ h.IsTupleIter i2 b i) where
  mem := by simp
  obj := fun i h st c hc => by
    obtain ⟨hz, hTI, ⟨x, y, hTO⟩, ⟨o1, e1, _, d1⟩, ⟨o2, e2, _, d2⟩⟩ := st
    have e' : c = z ∨ c = TI ∨ c = TO ∨ c = i1 ∨ c = i2 := by simpa using hc
    rcases e' with q | q | q | q | q
    · rw [q]; exact ⟨_, hz, fun v q => nomatch q⟩
    · rw [q]; exact ⟨_, hTI, fun v q => nomatch q⟩
    · rw [q]; exact ⟨_, hTO, fun v q => nomatch q⟩
    · rw [q]; exact ⟨o1, e1, fun v q => by rw [d1] at q; cases q⟩
    · rw [q]; exact ⟨o2, e2, fun v q => by rw [d2] at q; cases q⟩
  keep := fun i h h' st k => by
    obtain ⟨hz, hTI, ⟨x, y, hTO⟩, h1, h2⟩ := st
    exact ⟨k z (by simp) _ hz, k TI (by simp) _ hTI, ⟨x, y, k TO (by simp) _ hTO⟩, h1.at fun o q => k i1 (by simp) o q, h2.at fun o q => k i2 (by simp) o q⟩
  item := by
    intro X hP hw hK hc i pins s σ H E I hf st hg
    subst hP hw hK
    obtain ⟨hz, hTI, ⟨x0, y0, hTO⟩, h1, h2⟩ := st
    obtain ⟨xs, ys, x, y, hqx, hqy, hlen, hx, hy⟩ := hg
    obtain ⟨its, rv, p, _⟩ := I.list hqx
    obtain ⟨its2, rv2, p2, _⟩ := I.tuple hqy
    obtain ⟨u, hu, ru⟩ := rv.get hx
    obtain ⟨u2, hu2, ru2⟩ := rv2.get hy
    have pl : s.heap.IsList a its.toArray := p.isList
    have pt : s.heap.IsTuple b its2.toArray := p2
    have hzl : z < s.heap.objs.size := Heap.lt_size hz
    have hia : i1 ≠ a := by obtain ⟨o, q, _, hd⟩ := h1; exact lst_ne_fields pl q hd
    have hib : i2 ≠ b := by obtain ⟨o, q, _, hd⟩ := h2; exact tup_ne_fields pt q hd
    have D1 := Draws.list (prog := X.prog) (w := X.w) (A := X.A.in1) (by have := I.ok.hd hc; exact this) i1 a (Ne.symm hia) its.toArray
    have D2 := Draws.tuple (prog := X.prog) (w := X.w) (A := X.A.in1) (by have := I.ok.hd hc; exact this) i2 b (Ne.symm hib) its2.toArray
    have hlt1 : i < its.toArray.size := by
      have := (List.getElem?_eq_some_iff.mp hu).1
      simpa using this
    have hlt2 : i < its2.toArray.size := by
      have := (List.getElem?_eq_some_iff.mp hu2).1
      simpa using this
    refine wpAny_pyNext_zipD2_item S D1 D2 hz hTI hTO ⟨h1, pl⟩ ⟨h2, pt⟩ hlt1 hlt2 fun x1 x2 h' tk ex1 ex2 z' TO' h1' h2' hT hsz hk => ?_
    have e1 : x1 = u := by
      have q1 : its.toArray[i]? = some x1 := ex1
      have q2 : its.toArray[i]? = some u := by simpa using hu
      rw [q1] at q2
      exact Option.some.inj q2
    have e2 : x2 = u2 := by
      have q1 : its2.toArray[i]? = some x2 := ex2
      have q2 : its2.toArray[i]? = some u2 := by simpa using hu2
      rw [q1] at q2
      exact Option.some.inj q2
    subst e1 e2
    refine ⟨_, rfl, wpAny_letOwnedTupleGo_zip (s := { s with heap := h', toks := tk }) z' fun h'' z'' sb => ?_⟩
    have hT2 : h''.get? s.heap.objs.size = some { cls := .type "tuple", data := .seq #[x1, x2] } := (sb.2 _ (Nat.ne_of_gt hzl)).trans hT
    have new : ObjOk X.prog X.w (upd H s.heap.objs.size (.tup [x, y])) h'' s.heap.objs.size (.tup [x, y]) :=
      ⟨by show 2 ≤ sizeLine; decide, [x1, x2], .cons ru (.cons ru2 .nil), ⟨_, hT2, rfl, _, rfl⟩⟩
    have I1 : Inv X pins σ (upd H s.heap.objs.size (.tup [x, y])) { s with heap := h'', toks := tk } :=
      I.turnedNew (t' := tk) (ch := [z, TI, TO, i1, i2]) (fun c o hb q => (sb.2 c (fun q' => hb (by simp [q']))).trans (hk c o (fun q' => hb (by simp [q'])) (fun q' => hb (by simp [q'])) (fun q' => hb (by simp [q'])) (fun q' => hb (by simp [q'])) q)) hf (Nat.le_refl _) new
    refine ⟨.ref s.heap.objs.size, _, I1, rfl, ⟨_, x, y, rfl, I.hok.fresh (Nat.le_refl _), rfl, fun l hl => by rw [I.list_inj hl hqx]; exact hx, fun l hl => by rw [I.tuple_inj hl hqy]; exact hy⟩, ⟨z'', ?_, ⟨x1, x2, ?_⟩, ?_, ?_⟩, fun c hcm => ?_⟩
    · exact (sb.2 _ S.TIz).trans (hk _ _ S.TIz S.TITO S.TIi1 S.TIi2 hTI)
    · exact (sb.2 _ S.TOz).trans TO'
    · exact h1'.1.at fun o q => (sb.2 _ (Ne.symm S.zi1)).trans q
    · exact h2'.1.at fun o q => (sb.2 _ (Ne.symm S.zi2)).trans q
    · have hlt : c < s.heap.objs.size := by
        have e' : c = z ∨ c = TI ∨ c = TO ∨ c = i1 ∨ c = i2 := by simpa using hcm
        rcases e' with q | q | q | q | q
        · rw [q]; exact hzl
        · rw [q]; exact Heap.lt_size hTI
        · rw [q]; exact Heap.lt_size hTO
        · rw [q]; obtain ⟨_, e1, _⟩ := h1; exact Heap.lt_size e1
        · rw [q]; obtain ⟨_, e2, _⟩ := h2; exact Heap.lt_size e2
      rw [upd_ne (Nat.ne_of_lt hlt)]
      exact (hf c hcm).1
  done := by
    intro X hP hw hK hc i pins s σ H E I hf st hg
    subst hP hw hK
    obtain ⟨hz, hTI, ⟨x0, y0, hTO⟩, h1, h2⟩ := st
    obtain ⟨xs, ys, hqx, hqy, hend, hlen⟩ := hg
    obtain ⟨its, rv, p, _⟩ := I.list hqx
    obtain ⟨its2, rv2, p2, _⟩ := I.tuple hqy
    have l1 := rv.length
    have l2 := rv2.length
    have pl : s.heap.IsList a its.toArray := p.isList
    have pt : s.heap.IsTuple b its2.toArray := p2
    have hia : i1 ≠ a := by obtain ⟨o, q, _, hd⟩ := h1; exact lst_ne_fields pl q hd
    have hib : i2 ≠ b := by obtain ⟨o, q, _, hd⟩ := h2; exact tup_ne_fields pt q hd
    have D1 := Draws.list (prog := X.prog) (w := X.w) (A := X.A.in1) (by have := I.ok.hd hc; exact this) i1 a (Ne.symm hia) its.toArray
    have D2 := Draws.tuple (prog := X.prog) (w := X.w) (A := X.A.in1) (by have := I.ok.hd hc; exact this) i2 b (Ne.symm hib) its2.toArray
    exact wpAny_pyNext_zipD2_end S D1 D2 hz hTI hTO ⟨h1, pl⟩ ⟨h2, pt⟩ (by simp; omega) (by simp; omega) (.inl (by simp; omega)) fun h' tk hk => ⟨rfl, I.turnedL (t' := tk) (ch := [z, TI, TO, i1, i2]) (fun c o hb q =>
      hk c o (fun q' => hb (by simp [q'])) (fun q' => hb (by simp [q'])) (fun q' => hb (by simp [q'])) (fun q' => hb (by simp [q'])) q) hf⟩
  self := fun A i s Q E st h => wpAny_pyIter_zip st.1 h
def iZipM (K : PySem.W.Frag) (ta : TA) : TI := fun σ H R => ta σ H fun vs H1 => ∃ a b xs ys, vs = [.ref a, .ref b] ∧ SqL K H1 a xs ∧ SqT K H1 b ys ∧ R (ItzM K a b) H1
theorem pi_zipM {X : Cx} {e e2 : Expr} {ta : TA} {p pos tpos : Pos} {elts : List Expr} {kk : Nat} (hg : Gl X "zip") (hm : X.mg "zip" = none) (ha : PA X [e, e2] ta)
    (hs : starEach [e, e2] X.env = (false, eval e X.env) :: starEach [e2] X.env := by rfl) (hpl : (backTo pos (starEach [e2] X.env)).any (·.1) = false := by rfl) :
    PI X (.Tuple elts kk tpos) (.Call (.Name "zip" p) [e, e2] [] pos) (iZipM X.K ta) := by
  refine ⟨fun pins s σ H R I h => ?_⟩
  refine Call_ (ld_blt I hg hm PyProof.Rows.boot_zip (PyProof.Rows.callWith_type1 (thn (ha.run pos pins s σ H _ I h) fun us s1 ⟨vs, H1, I1, r1, q1⟩ => ?_) hs hpl))
  obtain ⟨a, b, xs, ys, ex, hqx, hqy, q⟩ := q1
  subst ex
  cases r1 with
  | cons r rr =>
    cases rr with
    | cons r' rr =>
      cases rr
      cases r
      cases r'
      have fresh5 : ∀ c, c ∈ [s1.heap.objs.size + 4, s1.heap.objs.size + 2, s1.heap.objs.size + 3, s1.heap.objs.size, s1.heap.objs.size + 1] → FpOk X pins H1 c := fun c hcm => by
        have e' : c = s1.heap.objs.size + 4 ∨ c = s1.heap.objs.size + 2 ∨ c = s1.heap.objs.size + 3 ∨ c = s1.heap.objs.size ∨ c = s1.heap.objs.size + 1 := by simpa using hcm
        have hle : s1.heap.objs.size ≤ c := by
          rcases e' with z | z | z | z | z
          · rw [z]; exact Nat.le_add_right _ _
          · rw [z]; exact Nat.le_add_right _ _
          · rw [z]; exact Nat.le_add_right _ _
          · rw [z]; exact Nat.le_refl _
          · rw [z]; exact Nat.le_add_right _ _
        exact I1.fpOk hle (I1.hok.fresh hle)
      obtain ⟨its, rv, p1, _⟩ := I1.list hqx
      obtain ⟨its2, rv2, p2, _⟩ := I1.tuple hqy
      have pl : s1.heap.IsList a its.toArray := p1.isList
      have pt : s1.heap.IsTuple b its2.toArray := p2
      refine zip_begins2 (begins_list a its.toArray) (begins_tuple b its2.toArray) pl pt fun h' hz hTI hTO h1 h2 hsz hk => wpAny_pyIter_zip hz ?_
      have I2 : Inv X pins σ H1 { s1 with heap := h' } := I1.kept (t' := s1.toks) hk
      have la : a < s1.heap.objs.size := p1.lt
      have lb : b < s1.heap.objs.size := by obtain ⟨o, q, _⟩ := pt; exact Heap.lt_size q
      have fa : ∀ c ∈ [a], c < s1.heap.objs.size := fun c hc => by
        have e : c = a := by simpa using hc
        rw [e]
        exact la
      have fb : ∀ c ∈ [b], c < s1.heap.objs.size := fun c hc => by
        have e : c = b := by simpa using hc
        rw [e]
        exact lb
      exact ⟨s1.heap.objs.size + 4, [s1.heap.objs.size + 4, s1.heap.objs.size + 2, s1.heap.objs.size + 3, s1.heap.objs.size, s1.heap.objs.size + 1], _, _, H1, rfl, I2,
        turn_zipM (zip_sep2 (N := s1.heap.objs.size) (fp1 := [a]) (fp2 := [b]) fa fb), ⟨hz, hTI, ⟨_, _, hTO⟩, ⟨_, h1, rfl, rfl⟩, ⟨_, h2, rfl, rfl⟩⟩, fresh5, q⟩
theorem walk_zipM {K : PySem.W.Frag} {a b : Addr} {xs ys : List V} (hn : xs.length = ys.length) : Walk (ItzM K a b) xs.length (fun H => SqL K H a xs ∧ SqT K H b ys) (YPair (fun i => xs[i]?) (fun i => ys[i]?)) := by
  refine ⟨fun i _ hi q => ?_, fun _ q => ⟨xs, ys, q.1, q.2, rfl, hn⟩, fun i H v H' _ q y => ?_⟩
  · have h2 : i < ys.length := by omega
    exact ⟨xs, ys, xs[i], ys[i], q.1, q.2, hn, by simp [hi], by simp [h2]⟩
  · obtain ⟨T, x, z, h1, h2, h3, h4, h5⟩ := y
    exact ⟨T, x, z, h1, h2, h3, h4 xs q.1, h5 ys q.2⟩
end SrK
end
section
set_option Elab.async false
set_option linter.all false
set_option maxRecDepth 100000
set_option maxHeartbeats 4000000
/-! rules that the layer lacks: != of dicts, dict of pairs with tuple keys, sorted of data -/
namespace SrK
open PySem PySem.Spec PyProof.Rows L2

/-! ### d != e, the values data -/
def sameD (enc : V → PyData) (ks ls : List (Key × V)) : Bool := ks.length == ls.length && ks.all fun p => match valV ls p.1 with
  | none => false
  | some y => PyData.eqv (enc p.2) (enc y)
theorem valV_mem {κ : Type} [DecidableEq κ] {kvs : List (κ × V)} {k : κ} {v : V} (h : valV kvs k = some v) : ∃ p ∈ kvs, p.1 = k ∧ p.2 = v := by
  induction kvs with
  | nil => rw [valV_nil] at h; cases h
  | cons p r ih =>
    by_cases e : p.1 = k
    · rw [valV_pos e] at h
      exact ⟨p, List.mem_cons_self, e, Option.some.inj h⟩
    · rw [valV_neg e] at h
      obtain ⟨q, a, b⟩ := ih h
      exact ⟨q, List.mem_cons_of_mem _ a, b⟩
section
variable {X : Cx} {pins : List (Addr × Obj)} {σ : L2.St} {H : Hp} {s : Shared}
theorem hits_data (I : Inv X pins σ H s) (hu : X.A.units + 66 < cLine) {enc : V → PyData} {ls : List (Key × V)} {lv : List (Key × Value)} (rl : KV ls lv) (hl : ∀ p ∈ ls, Dp X.K H p.2 (enc p.2) ∧ SeqAt.shaped (enc p.2) = true) :
    ∀ {ks : List (Key × V)} {kv : List (Key × Value)}, KV ks kv → (∀ p ∈ ks, Dp X.K H p.2 (enc p.2) ∧ SeqAt.shaped (enc p.2) = true) →
      PySem.W.KeqHits X.A.in1 s lv kv (ks.all fun p => match valV ls p.1 with | none => false | some y => PyData.eqv (enc p.2) (enc y))
  | _, _, .nil, _ => .nil
  | p :: ks, q :: kv, .cons h t, hk => by
    obtain ⟨k, v⟩ := q
    obtain ⟨h1, h2⟩ := h
    have h1' : p.1 = k := h1
    subst h1'
    have ih := hits_data I hu rl hl t fun p hp => hk p (List.mem_cons_of_mem _ hp)
    rw [List.all_cons]
    have rv := rl.val p.1
    cases e : valV ls p.1 with
    | none =>
      rw [e] at rv
      cases e2 : valueAt lv p.1 with
      | none =>
        simp only [Bool.false_and]
        exact .miss e2
      | some y => rw [e2] at rv; exact False.elim rv
    | some y =>
      rw [e] at rv
      cases e2 : valueAt lv p.1 with
      | none => rw [e2] at rv; exact False.elim rv
      | some u =>
        rw [e2] at rv
        obtain ⟨pq, hpq, _, e3⟩ := valV_mem e
        subst e3
        obtain ⟨d1, s1⟩ := hk p List.mem_cons_self
        obtain ⟨d2, s2⟩ := hl pq hpq
        obtain ⟨as, r1⟩ := Dp.reads I _ _ _ d1 h2
        obtain ⟨bs, r2⟩ := Dp.reads I _ _ _ d2 rv
        exact .hit e2 (PySem.W.keq_at r1 r2 s1 s2 (by show X.A.units + 1 + 64 < cLine; omega)) ih
def rNeDD (K : PySem.W.Frag) : R2 := fun x y H Q => ∃ a b ks ls enc, x = .ref a ∧ y = .ref b ∧ H a = some (.dK ks) ∧ H b = some (.dK ls) ∧ (∀ p ∈ ks, Dp K H p.2 (enc p.2) ∧ SeqAt.shaped (enc p.2) = true) ∧ (∀ p ∈ ls, Dp K H p.2 (enc p.2) ∧ SeqAt.shaped (enc p.2) = true) ∧ Q (.bl (!sameD enc ks ls)) H
end
section
variable {X : Cx}
theorem op_neDD (hu : X.A.units + 66 < cLine) : OpR X (compareOp .NotEq) (rNeDD X.K) := by
  intro pins s σ H x y v u Q I rx ry h
  obtain ⟨a, b, ks, ls, enc, rfl, rfl, ea, eb, ha, hb, q⟩ := h
  obtain rfl : v = Value.ref a := rx
  obtain rfl : u = Value.ref b := ry
  obtain ⟨_, ya, va, ra, da⟩ := (show ObjOk X.prog X.w H s.heap a (.dK ks) from I.hok a _ ea)
  obtain ⟨_, yb, vb, rb, db⟩ := (show ObjOk X.prog X.w H s.heap b (.dK ls) from I.hok b _ eb)
  refine PySem.W.keq_ne (knd := mixKind X.prog X.w) ya yb da db (by omega) (fun _ => hits_data I hu rb hb ra ha) (fin_bl I q ?_)
  unfold sameD
  rw [ra.length, rb.length]
end

/-! ### dict(pairs), the keys tuples -/
def mergeT (kvs more : List (List Key × V)) : List (List Key × V) := more.foldl (fun acc kv => putK acc kv.1 kv.2) kvs
def mergedH (xs : List (List Key × Addr × Value)) (more : List (List Key × Addr × Value)) : List (List Key × Addr × Value) := more.foldl (fun acc q => storedH acc q.1 q.2.1 q.2.2) xs
theorem length_mergeT : ∀ (more kvs : List (List Key × V)), (mergeT kvs more).length ≤ kvs.length + more.length
  | [], kvs => Nat.le_refl _
  | kv :: more, kvs => by
    have h1 := length_mergeT more (putK kvs kv.1 kv.2)
    have h2 := length_putK kvs kv.1 kv.2
    show (mergeT (putK kvs kv.1 kv.2) more).length ≤ _
    rw [List.length_cons]
    omega
theorem KT.mergeT {H : Hp} : ∀ {more : List (List Key × V)} {rs : List (List Key × Addr × Value)} {kvs : List (List Key × V)} {xs : List (List Key × Addr × Value)}, KT H more rs → KT H kvs xs → KT H (mergeT kvs more) (mergedH xs rs)
  | _, _, _, _, .nil, r => r
  | p :: more, q :: rs, kvs, xs, .cons h t, r => by
    obtain ⟨h1, h2, h3⟩ := h
    have e : KT H (putK kvs p.1 p.2) (storedH xs q.1 q.2.1 q.2.2) := by
      rw [← h1]
      exact r.put p.1 h2 h3
    show KT H (SrK.mergeT (putK kvs p.1 p.2) more) (mergedH (storedH xs q.1 q.2.1 q.2.2) rs)
    exact KT.mergeT t e
theorem storedH_len (xs : List (List Key × Addr × Value)) (k : List Key) (a : Addr) (v : Value) : (storedH xs k a v).length ≤ xs.length + 1 := by
  unfold storedH
  split
  · rw [List.length_map]; omega
  · rw [List.length_append, List.length_singleton]; omega
section
variable {prog : Program} {w : World} {A : Around} {E : Value → Shared → Prop}
theorem key_keep {h h' : Heap} {ks : List Key} {b : Addr} (x : (tupleKind (mixKind prog w)).is h ks b) (k : ∀ o, h.get? b = some o → h'.get? b = some o) : (tupleKind (mixKind prog w)).is h' ks b := by
  obtain ⟨o, its, n, h1, h2, h3, h4⟩ := x
  exact ⟨o, its, n, k o h1, h2, h3, h4⟩
theorem dictOfH_keep {h h' : Heap} {d : Addr} {xs : List (List Key × Addr × Value)} (m : h.DictOfH (tupleKind (mixKind prog w)) d xs) (k : ∀ o, h.get? d = some o → h'.get? d = some o) (kk : ∀ x ∈ xs, ∀ o, h.get? x.2.1 = some o → h'.get? x.2.1 = some o) : h'.DictOfH (tupleKind (mixKind prog w)) d xs := by
  obtain ⟨o, es, ep, h1, h2, h3, h4, h5, h6⟩ := m
  exact ⟨o, es, ep, k o h1, h2, h3, h4, fun x hx => key_keep (h5 x hx) (kk x hx), h6⟩
theorem dictOfH_new (h : Heap) : (h.push { cls := .type "dict", data := .dict #[] }).DictOfH (tupleKind (mixKind prog w)) h.objs.size [] :=
  ⟨_, #[], 0, Heap.get?_push_size _ rfl, ⟨rfl, rfl, rfl⟩, rfl, rfl, fun x hx => (nomatch hx), List.nodup_nil⟩
theorem upd_loopT {R : Result → Shared → Prop} {S I l : Addr} {items : Array Value} {res : Value} (hh : A.handled = none) (hu : A.units + 3 < cLine) (hlI : l ≠ I) (hSI : S ≠ I) (hSl : S ≠ l) :
    ∀ (rest : List (List Key × Addr × Value)) (i : Nat) (acc : List (List Key × Addr × Value)) (ix : Int) (t : Tok) (s : Shared), items.size = i + rest.length → acc.length + rest.length ≤ sizeLine →
      (∀ (j : Nat) (q : List Key × Addr × Value), rest[j]? = some q → ∃ b : Addr, items[i + j]? = some (.ref b) ∧ b ≠ S ∧ b ≠ I ∧ IsTup s.heap b #[.ref q.2.1, q.2.2] ∧ (tupleKind (mixKind prog w)).is s.heap q.1 q.2.1 ∧ q.2.1 ≠ S ∧ q.2.1 ≠ I) →
      (∀ x ∈ acc, x.2.1 ≠ S ∧ x.2.1 ≠ I) →
      s.heap.IsListIter I l i → s.heap.IsList l items → s.heap.DictOfH (tupleKind (mixKind prog w)) S acc →
      (∀ h' tk, h'.DictOfH (tupleKind (mixKind prog w)) S (mergedH acc rest) → (∀ b o, b ≠ S → b ≠ I → s.heap.get? b = some o → h'.get? b = some o) → R (.ok (.ret res)) { s with heap := h', toks := tk }) →
      codeAny (model prog w) A (.builtin "dict.update.loop" ⟨[.ref S, .ref I, .int ix t, res], []⟩) R s
  | [], i, acc, ix, t, s, hsz, hln, ht, hacc, hit, hl, hm, hR => by
    refine codeAny_builtin ud_entry ?_
    rw [Around.under_plainId ud_plain _]
    show wpAny _ A.in1 (pyNext (.ref I) >>= _) _ _ s
    refine wpAny_bind (wpAny_pyNext_list_end (A := A.in1) hh hit hl (by first | exact Array.getElem?_eq_none (Nat.le_of_eq hsz) | (simp at hsz; simp; omega)) fun h' he => ?_)
    show wpAny _ A.in1 (Builtin.Dict.addKeywords S [] >>= _) _ _ _
    refine wpAny_bind (wpAny_pure (wpAny_pure ?_))
    exact hR h' s.toks (dictOfH_keep hm (fun o e => he S o hSI e) fun x hx o e => he _ o (hacc x hx).2 e) fun b o _ hb e => he b o hb e
  | q :: rest, i, acc, ix, t, s, hsz, hln, ht, hacc, hit, hl, hm, hR => by
    obtain ⟨b, hb, hbS, hbI, htup, hk, hkS, hkI⟩ := ht 0 q rfl
    rw [List.length_cons] at hsz hln
    refine codeAny_builtin ud_entry ?_
    rw [Around.under_plainId ud_plain _]
    show wpAny _ A.in1 (pyNext (.ref I) >>= _) _ _ s
    refine wpAny_bind (wpAny_pyNext_list_item (x := .ref b) hit hl (by simpa using hb) fun h1 hit1 hs1 => ?_)
    have ht1 : IsTup h1 b #[.ref q.2.1, q.2.2] := htup.extBut hs1.extBut hbI
    have hl1 : h1.IsList l items := hl.extBut hs1.extBut hlI
    have hm1 : h1.DictOfH (tupleKind (mixKind prog w)) S acc := dictOfH_keep hm (fun o e => hs1.extBut S o hSI e) fun x hx o e => hs1.extBut _ o (hacc x hx).2 e
    have hk1 : (tupleKind (mixKind prog w)).is h1 q.1 q.2.1 := key_keep hk fun o e => hs1.extBut _ o hkI e
    obtain ⟨o, ho, hc, n, hd⟩ := id ht1
    show wpAny _ A.in1 (holding [Value.ref b] _ >>= _) _ _ _
    refine wpAny_bind (wpAny_holding ?_)
    refine wpAny_bind (wpAny_tryCatch ?_)
    unfold Builtin.Dict.pairItems
    refine wpAny_bind (wpAny_typeOf (T := "tuple") ⟨o, ho, hc⟩ ?_)
    rw [if_pos (by first | decide | rfl | simp)]
    refine wpAny_bind (wpAny_seqItems ho hd (wpAny_pure ?_))
    show wpAny _ A.in1 (holding [.ref q.2.1, q.2.2] (dictSet S (.ref q.2.1) q.2.2)) _ _ _
    refine wpAny_holding (wpAny_dictSet_heap (knd := tupleKind (mixKind prog w)) (k := q.1) (tupleKind_room_in1 (by omega)) hk1 hm1 (fun h2 hm2 hs2 => ?_) (by omega))
    refine wpAny_pure ⟨plainId_quiet ud_plain _, upd_loopT (items := items) hh hu hlI hSI hSl rest (i + 1) (storedH acc q.1 q.2.1 q.2.2) (ix + 1) 0 _ (show items.size = i + 1 + rest.length by omega) ?_ (fun j q' e => ?_) (fun x hx => ?_) ?_ ?_ hm2 fun h' tk hd' k => ?_⟩
    · have z := storedH_len acc q.1 q.2.1 q.2.2
      omega
    · obtain ⟨b', hb', hbS', hbI', htup', hk', hkS', hkI'⟩ := ht (j + 1) q' (by simpa using e)
      refine ⟨b', ?_, hbS', hbI', (htup'.extBut hs1.extBut hbI').extBut hs2.extBut hbS', key_keep (key_keep hk' fun o e => hs1.extBut _ o hkI' e) fun o e => hs2.extBut _ o hkS' e, hkS', hkI'⟩
      rw [show i + 1 + j = i + (j + 1) by omega]
      exact hb'
    · unfold storedH at hx
      split at hx
      · obtain ⟨y, hy, ey⟩ := List.mem_map.mp hx
        have e2 : x.2.1 = y.2.1 := by
          rw [← ey]
          unfold putAt
          split <;> rfl
        rw [e2]
        exact hacc y hy
      · rcases List.mem_append.mp hx with hx | hx
        · exact hacc x hx
        · have e2 : x = (q.1, q.2.1, q.2.2) := by simpa using hx
          rw [e2]
          exact ⟨hkS, hkI⟩
    · exact hit1.at fun o' e => hs2.extBut I o' (Ne.symm hSI) e
    · exact hl1.extBut hs2.extBut (Ne.symm hSl)
    · exact hR h' tk hd' fun c oc h3 h4 e => k c oc h3 h4 (hs2.extBut c oc h3 (hs1.extBut c oc h4 e))
theorem call_dict_pairsT {s : Shared} {l : Addr} {ol : Obj} {items : Array Value} {n : Nat} {prs : List (List Key × Addr × Value)} {Q : Value → Shared → Prop} (hh : A.handled = none) (hu : A.units + 8 < cLine) (hl : s.heap.get? l = some ol) (hc : ol.cls = .type "list") (hd : ol.dict = none)
    (hdat : ol.data = .seq items n) (hsz : items.size = prs.length) (hln : prs.length ≤ sizeLine)
    (ht : ∀ (j : Nat) (q : List Key × Addr × Value), prs[j]? = some q → ∃ b : Addr, items[j]? = some (.ref b) ∧ IsTup s.heap b #[.ref q.2.1, q.2.2] ∧ (tupleKind (mixKind prog w)).is s.heap q.1 q.2.1)
    (h : ∀ h' tk, h'.DictOfH (tupleKind (mixKind prog w)) s.heap.objs.size (mergedH [] prs) → (∀ b o, s.heap.get? b = some o → h'.get? b = some o) → Q (.ref s.heap.objs.size) { s with heap := h', toks := tk }) :
    wpAny (model prog w) A (call (.type "dict") [.ref l]) Q E s := by
  refine callType_codes (Q₁ := fun obj s₁ => obj = .ref s.heap.objs.size ∧ s₁ = { s with heap := s.heap.push { cls := .type "dict", data := .dict #[] } }) PySem.F.kt_called_dict (PySem.F.kt_typeCall_dict_1 _) PySem.F.entry_dict_init (kt_code_dict_new _ ⟨rfl, rfl⟩) ?_
  rintro obj s₁ ⟨rfl, rfl⟩
  have hnew : (s.heap.push { cls := .type "dict", data := .dict #[] }).DictOfH (tupleKind (mixKind prog w)) s.heap.objs.size [] := dictOfH_new s.heap
  have hty : Shared.TypeIs { s with heap := s.heap.push { cls := .type "dict", data := .dict #[] } } (.ref s.heap.objs.size) "dict" := hnew.typeIs
  have k0 : ∀ b o, s.heap.get? b = some o → (s.heap.push { cls := .type "dict", data := .dict #[] }).get? b = some o := fun b o e => Heap.get?_push_of_some _ e
  refine ⟨hty, PySem.F.args_dict_init_2 _ _, ?_⟩
  unfold Builtin.«dict.__init__»
  refine wpAny_bind ?_
  unfold Builtin.Dict.selfAndRest
  refine wpAny_bind (wpAny_notOrdered_dict hty ?_)
  show wpAny _ _ (pure (s.heap.objs.size, [Value.ref l])) _ _ _
  refine wpAny_pure ?_
  show wpAny _ _ (Builtin.Dict.updateFrom "dict.__init__" s.heap.objs.size (.ref l) [] .none) _ _ _
  unfold Builtin.Dict.updateFrom
  refine wpAny_bind (wpAny_typeOf (T := "list") ⟨ol, k0 _ _ hl, hc⟩ ?_)
  rw [if_pos (by first | decide | rfl | simp)]
  refine wpAny_bind (miss_list (k0 _ _ hl) hc hdat hd hh fun h1 tk1 hk1 => ?_)
  rw [if_pos (show (none : Option Value).isNone = true from rfl)]
  refine wpAny_bind (wpAny_rule ?_)
  have hl1 : h1.IsList l items := ⟨ol, hk1 _ _ (k0 _ _ hl), hc, n, hdat⟩
  have hS1 : s.heap.objs.size < h1.objs.size := by
    have e : (s.heap.push { cls := .type "dict", data := .dict #[] }).get? s.heap.objs.size = some { cls := .type "dict", data := .dict #[] } := Heap.get?_push_size _ rfl
    exact Heap.lt_size (hk1 _ _ e)
  refine wpAny_bind (wpAny_pyIter_list hl1 ?_)
  have k2 : ∀ b o, h1.get? b = some o → (h1.push { cls := .type "list_iterator", data := .fields #[.ref l, .int 0 0] }).get? b = some o := fun b o e => Heap.get?_push_of_some _ e
  have hlt : l < s.heap.objs.size := Heap.lt_size hl
  have key := upd_loopT (prog := prog) (w := w) (A := A.in1) (R := wants (fun r s₂ => r = .none ∧ Q (.ref s.heap.objs.size) s₂) E) (S := s.heap.objs.size) (I := h1.objs.size) (l := l) (items := items) (res := Value.none) hh
    (by show A.units + 1 + 3 < cLine; omega)
    (Nat.ne_of_lt (Nat.lt_trans hlt hS1)) (Nat.ne_of_lt hS1) (Nat.ne_of_gt hlt) prs 0 [] 0 0
    { s with heap := h1.push { cls := .type "list_iterator", data := .fields #[.ref l, .int 0 0] }, toks := tk1 } (by rw [hsz, Nat.zero_add]) (by rw [List.length_nil, Nat.zero_add]; exact hln)
    (fun j q e => by
      obtain ⟨b, e1, e2, e3⟩ := ht j q e
      have hb : b < s.heap.objs.size := e2.lt
      have hq : q.2.1 < s.heap.objs.size := by
        obtain ⟨o, _, _, h1, _⟩ := e3
        exact Heap.lt_size h1
      exact ⟨b, by rw [Nat.zero_add]; exact e1, Nat.ne_of_lt hb, Nat.ne_of_lt (Nat.lt_trans hb hS1), e2.keeps fun c o z => k2 _ _ (hk1 _ _ (k0 _ _ z)), key_keep e3 fun o z => k2 _ _ (hk1 _ _ (k0 _ _ z)), Nat.ne_of_lt hq, Nat.ne_of_lt (Nat.lt_trans hq hS1)⟩)
    (fun x hx => (nomatch hx))
    ⟨_, Heap.get?_push_size _ rfl, rfl, rfl⟩ (hl1.at fun o e => k2 _ _ e) (dictOfH_keep hnew (fun o e => k2 _ _ (hk1 _ _ e)) fun x hx => (nomatch hx))
    (fun h' tk hd' k => ⟨rfl, h h' tk hd' fun b o e => k b o (Nat.ne_of_lt (Heap.lt_size e)) (Nat.ne_of_lt (Nat.lt_trans (Heap.lt_size e) hS1)) (k2 _ _ (hk1 _ _ (k0 _ _ e)))⟩)
  first
    | exact wpAny_pure ⟨plainId_quiet ud_plain _, key⟩
    | exact wpAny_bind (wpAny_pure (wpAny_pure ⟨plainId_quiet ud_plain _, key⟩))
end
section
variable {X : Cx}
theorem pairs_ofT {pins : List (Addr × Obj)} {σ : L2.St} {H : Hp} {s : Shared} (I : Inv X pins σ H s) : ∀ {ps : List Addr} {kvs : List (List Key × V)}, Paired (fun p kv => ∃ b, H b = some (.tup (kv.1.map kV)) ∧ SqT X.K H p [.ref b, kv.2]) ps kvs →
    ∃ prs : List (List Key × Addr × Value), KT H kvs prs ∧ prs.length = ps.length ∧ ∀ (j : Nat) (q : List Key × Addr × Value), prs[j]? = some q → ∃ b : Addr, ps[j]? = some b ∧ IsTup s.heap b #[.ref q.2.1, q.2.2] ∧ (tupleKind (mixKind X.prog X.w)).is s.heap q.1 q.2.1
  | _, _, .nil => ⟨[], .nil, rfl, fun j q e => by simp at e⟩
  | _, _, .cons (a := p) (b := kv) h t => by
    obtain ⟨prs, r, hl, hp⟩ := pairs_ofT I t
    obtain ⟨kb, hkb, hq⟩ := h
    obtain ⟨its, rv, ht, _⟩ := I.tuple hq
    obtain ⟨u, y, ei, ru, ry⟩ := vals2 rv
    subst ei
    have eu : u = Value.ref kb := ru
    subst eu
    refine ⟨(kv.1, kb, y) :: prs, .cons ⟨rfl, hkb, ry⟩ r, by rw [List.length_cons, List.length_cons, hl], fun j q e => ?_⟩
    cases j with
    | zero =>
      have e' : (kv.1, kb, y) = q := Option.some.inj e
      subst e'
      exact ⟨p, rfl, ht, key_of I.hok hkb⟩
    | succ j =>
      obtain ⟨b, e1, e2, e3⟩ := hp j q (by simpa using e)
      exact ⟨b, by simpa using e1, e2, e3⟩
def rDictPT (K : PySem.W.Frag) : List V → Hp → VK → Prop := fun xs H Q => ∃ (a : Addr) (ps : List Addr) (kvs : List (List Key × V)), xs = [.ref a] ∧ SqL K H a (ps.map V.ref) ∧ Paired (fun p kv => ∃ b, H b = some (.tup (kv.1.map kV)) ∧ SqT K H p [.ref b, kv.2]) ps kvs ∧
    ∀ p, H p = none → Q (.ref p) (upd H p (.dT (mergeT [] kvs)))
theorem call_dictPT (hcalm : X.calm = true) (hu : X.A.units + 66 < cLine) : CallR X (.type "dict") (rDictPT X.K) := by
  intro pins s σ H xs us Q I r q
  obtain ⟨a, ps, kvs, ex, hq, hp, q⟩ := q
  subst ex
  obtain ⟨u, eu, rx⟩ := vals1 r
  subst eu
  cases rx
  obtain ⟨its, rv, pl, hz⟩ := I.list hq
  have ei := refs_at rv
  subst ei
  rw [List.length_map] at hz
  obtain ⟨prs, rel, hl, hpr⟩ := pairs_ofT I hp
  obtain ⟨o, n, ho, hc, hd, hdat⟩ := pl
  refine call_dict_pairsT (prs := prs) (I.ok.hd hcalm) (by omega) ho hc hd hdat (by simp [hl]) (by rw [hl]; exact hz) (fun j q' e => ?_) fun h' tk hd' k => ?_
  · obtain ⟨b, e1, e2, e3⟩ := hpr j q' e
    exact ⟨b, by simp [e1], e2, e3⟩
  · have hm : (s.heap.objs.size == sysModules) = false := beq_eq_false_iff_ne.mpr (Nat.ne_of_gt I.big)
    have hfr : H s.heap.objs.size = none := I.hok.fresh (Nat.le_refl _)
    have hlen : (mergeT [] kvs).length ≤ sizeLine := by
      refine Nat.le_trans (length_mergeT kvs []) ?_
      rw [List.length_nil, Nat.zero_add, Paired.length rel, hl]
      exact hz
    obtain ⟨ob, es, ep, h1, h2, h3, h4, _, h6⟩ := hd'
    have rel2 : KT (upd H s.heap.objs.size (.dT (mergeT [] kvs))) (mergeT [] kvs) (mergedH [] prs) := (KT.mergeT rel .nil).keeps fun c ys ec => by
      rw [upd_ne (ne_of_none ec hfr)]
      exact ec
    exact ⟨.ref s.heap.objs.size, upd H s.heap.objs.size (.dT (mergeT [] kvs)), I.laid (t' := tk) k (Nat.le_refl _) (show ObjOk X.prog X.w _ _ _ (.dT (mergeT [] kvs)) from ⟨hlen, hm, mergedH [] prs, rel2, ob, es, ep, h1, h2, h3, h4, h6⟩), rfl, q _ hfr⟩

/-! ### sorted of data -/
theorem each_vals {R : Value → V → Prop} : ∀ {us : List Value} {xs : List V}, Vals xs us → (∀ x ∈ xs, ∀ u, RelV x u → R u x) → PySem.W.EachIs R us xs
  | _, _, .nil, _ => .nil
  | _, _, .cons r t, h => .cons (h _ List.mem_cons_self _ r) (each_vals t fun x hx u ru => h x (List.mem_cons_of_mem _ hx) u ru)
theorem vals_each : ∀ {us : List Value} {xs : List V}, PySem.W.EachIs (fun u x => RelV x u) us xs → Vals xs us
  | _, _, .nil => .nil
  | _, _, .cons r t => .cons r (vals_each t)
abbrev srt (enc : V → PyData) (xs : List V) : List V := xs.mergeSort (PySem.W.dataLe false enc)
def rSortedA (K : PySem.W.Frag) : List V → Hp → VK → Prop := fun vs H Q => ∃ (a : Addr) (xs : List V) (enc : V → PyData), vs = [V.ref a] ∧ SqL K H a xs ∧ (∀ x ∈ xs, Dp K H x (enc x) ∧ (enc x).depth ≤ 60) ∧ PySem.W.AllAlike (xs.map enc) ∧ PySem.W.Sortable (xs.map enc) ∧
  ∀ p, H p = none → Q (.ref p) (upd H p (.lst (srt enc xs)))
theorem cr_sortedA (hu : X.A.units + 66 < cLine) : CallR X (.builtin "sorted") (rSortedA X.K) := by
  intro pins s σ H vs us Q I r h
  obtain ⟨a, xs, enc, rfl, hq, hx, hal, hso, q⟩ := h
  rw [Vals.ref1 r]
  obtain ⟨its, rv, pl, hz⟩ := I.list hq
  refine PySem.W.sorted_data (vs := its) (bs := xs) (enc := enc) (R := fun u x => RelV x u) pl.isList (each_vals rv fun _ _ _ r => r) (each_vals rv fun x hm u ru => Dp.reads I _ _ _ (hx x hm).1 ru) hal hso hz (fun x hm => by have := (hx x hm).2; omega) fun out ho eo => ?_
  have hv : Vals (srt enc xs) out := vals_each eo
  obtain ⟨c, hc⟩ := sortedAll_at s.heap its out.toArray
  have hn : H (s.heap.objs.size + 1) = none := I.hok.fresh (Nat.le_succ _)
  have hlen : (srt enc xs).length ≤ sizeLine := by
    show (xs.mergeSort _).length ≤ _
    rw [List.length_mergeSort]
    exact hz
  exact ⟨.ref (s.heap.objs.size + 1), upd H (s.heap.objs.size + 1) (.lst (srt enc xs)), I.laid (t' := s.toks) (fun b o e => sortedAll_old e) (Nat.le_succ _) ⟨hlen, out, c, hv, hc⟩, rfl, q _ hn⟩
end
end SrK
end
section
set_option Elab.async false
set_option linter.all false
set_option maxRecDepth 100000
set_option maxHeartbeats 4000000
/-! sets that the layer lacks: set(list of texts), sorted of it; sorted of a set of tuples of any lengths -/
namespace SrK
open PySem PySem.Spec PyProof.Rows L2 PySem.Froz

def rowS (w : World) (p : Str × Tok) : Int × Value := (hashStr w p.1, Value.str p.1 p.2)
structure TxR (P : Program) (w : World) (h : Heap) (a : Addr) (l : List (Str × Tok)) : Prop where
  ex : ∃ D : SD, h.get? a = some (sObj "set" D) ∧ D.1.toList.Perm (l.map (rowS w)) ∧ (l.map (·.1)).Nodup ∧ D.2.2.fits D.1.size = true ∧ Ris D.2.2.place.toList ∧ (w.params.followText "set-order" = true ∨ D.2.2.led = true)
theorem TxR.at {P : Program} {w : World} {h h' : Heap} {a : Addr} {l : List (Str × Tok)} (R : TxR P w h a l) (k : ∀ o, h.get? a = some o → h'.get? a = some o) : TxR P w h' a l := by
  obtain ⟨D, h1, r⟩ := R.ex
  exact ⟨D, k _ h1, r⟩
section
variable {P : Program} {w : World} {A : Around} {E : Value → Shared → Prop} {s : Shared} {a : Addr} {l : List (Str × Tok)}
theorem is_iff (k x : Str) (t : Tok) : (strKind P w).is k (.str x t) = true ↔ x = k := by
  constructor
  · intro h
    exact ((strKind P w).inj (.str x t) k x h (is_str x t)).symm
  · rintro rfl
    exact is_str x t
theorem rows_el {es : List (Int × Value)} (p : es.Perm (l.map (rowS w))) : ElemsOf (strKind P w) es := fun e he => by
  obtain ⟨q, _, rfl⟩ := List.mem_map.mp (p.mem_iff.mp he)
  exact ⟨⟨q.1, is_str q.1 q.2, rfl⟩, rfl⟩
theorem rows_mem {es : List (Int × Value)} (p : es.Perm (l.map (rowS w))) (k : Str) : k ∈ l.map (·.1) ↔ ∃ e ∈ es, (strKind P w).is k e.2 = true := by
  constructor
  · intro h
    obtain ⟨q, hq, rfl⟩ := List.mem_map.mp h
    exact ⟨rowS w q, p.mem_iff.mpr (List.mem_map.mpr ⟨q, hq, rfl⟩), is_str q.1 q.2⟩
  · rintro ⟨e, he, h⟩
    obtain ⟨q, hq, rfl⟩ := List.mem_map.mp (p.mem_iff.mp he)
    exact List.mem_map.mpr ⟨q, hq, (is_iff (P := P) (w := w) k q.1 q.2).mp h⟩
theorem rows_ok {D : SD} (p : D.1.toList.Perm (l.map (rowS w))) (hf : D.2.2.fits D.1.size = true) : TxOk P w D (l.map (·.1)) where
  el := rows_el p
  mem := rows_mem p
  sz := by rw [← Array.length_toList, p.length_eq, List.length_map, List.length_map]
  fit := hf
theorem tail_row {ep : Nat} {es1 : Array (Int × Value)} {t2 : SetTable} {wd : Bool} {l : List (Str × Tok)} (p : es1.toList.Perm (l.map (rowS w))) (hf : t2.fits es1.size = true) (hr : Ris t2.place.toList) (hl : w.params.followText "set-order" = true ∨ t2.led = true) :
    (tailTx ep es1 t2 wd).1.toList.Perm (l.map (rowS w)) ∧ (tailTx ep es1 t2 wd).2.2.fits (tailTx ep es1 t2 wd).1.size = true ∧ Ris (tailTx ep es1 t2 wd).2.2.place.toList ∧ (w.params.followText "set-order" = true ∨ (tailTx ep es1 t2 wd).2.2.led = true) := by
  unfold tailTx
  split
  · exact ⟨(relayAll_perm t2 es1 _).trans p, relayAll_fits t2 es1 _, relayAll_ris t2 es1 _, hl.imp id fun z => by rw [relayAll_led]; exact z⟩
  · exact ⟨p, hf, hr, hl⟩
theorem tx_add {k : Str} {tk : Tok} {Q : Bool → Shared → Prop} (R : TxR P w s.heap a l) (room : l.length + 1 < scanBound)
    (hQ : ∀ b h' l', Heap.SameBut a s.heap h' → TxR P w h' a l' → (k ∈ l.map (·.1) → l' = l) → (k ∉ l.map (·.1) → l' = l ++ [(k, tk)]) → Q b { s with heap := h' }) :
    wpAny (model P w) A (setAddHashed a (.str k tk) (hashStr w k)) Q E s := by
  obtain ⟨D, ho, pm, nd, hf, hr, hl⟩ := R.ex
  have F : TxOk P w D (l.map (·.1)) := rows_ok pm hf
  by_cases hk : k ∈ l.map (·.1)
  · obtain ⟨es, ep, t⟩ := D
    have hd : (sObj "set" (es, ep, t)).data = .set es ep t := rfl
    have hkey : (strKind P w).is k (.str k tk) = true := is_str k tk
    have hel : ElemsOf (strKind P w) es.toList := F.el
    have hsz : es.size = l.length := by have := F.sz; rw [List.length_map] at this; exact this
    unfold setAddHashed setAddHashedIn
    refine wpAny_holding (wpAny_bind (wpAny_setState_of ho hd hf ?_))
    dsimp only
    rw [byScan_of rfl (by rw [hsz]; omega) hel]
    simp only [↓reduceIte]
    unfold setAddByScan
    refine wpAny_bind ?_
    refine wpAny_bind (wpAny_rule ?_)
    refine wpAny_bind (wpAny_setScan_of (knd := strKind P w) (k := k) hkey ho hd hf hel ?_)
    cases hfi : List.findIdx? (fun e => (strKind P w).is k e.2) es.toList with
    | some j =>
      dsimp only
      refine wpAny_pure (wpAny_pure ?_)
      exact hQ _ s.heap l (Heap.SameBut.refl a s.heap) R (fun _ => rfl) (fun z => absurd hk z)
    | none =>
      obtain ⟨e, he, q⟩ := (F.mem k).mp hk
      have c := List.findIdx?_eq_none_iff.mp hfi e he
      rw [q] at c
      cases c
  · refine add_x ho F hk (by rw [List.length_map]; exact room) ?_
    refine hQ true _ (l ++ [(k, tk)]) (Heap.SameBut.update _ a _) ?_ (fun z => absurd z hk) (fun _ => rfl)
    obtain ⟨es, ep, t⟩ := D
    have p1 := layNew_perm t es (hashStr w k) (.str k tk)
    have f1 := layNew_fits t es (hashStr w k) (.str k tk)
    have r1 := layNew_ris t es (hashStr w k) (.str k tk) hr
    have l1 := layNew_led t es (hashStr w k) (.str k tk)
    rw [Array.toList_push] at p1
    have p2 : (layNew t es (hashStr w k) (.str k tk)).1.toList.Perm ((l ++ [(k, tk)]).map (rowS w)) := by
      refine p1.trans ?_
      rw [List.map_append]
      exact List.Perm.append pm (.refl _)
    have led2 : w.params.followText "set-order" = true ∨ (layNew t es (hashStr w k) (.str k tk)).2.1.led = true := hl.imp id fun z => by rw [l1]; exact z
    have T := tail_row (w := w) (ep := ep) (wd := (layNew t es (hashStr w k) (.str k tk)).2.2.1) (es1 := (layNew t es (hashStr w k) (.str k tk)).1)
      (t2 := if (layNew t es (hashStr w k) (.str k tk)).2.1.plain = true then { (layNew t es (hashStr w k) (.str k tk)).2.1 with plain := false } else (layNew t es (hashStr w k) (.str k tk)).2.1) p2
      (by split
          · exact SetTable.fits_plain_off f1
          · exact f1) (by split <;> exact r1) (by split <;> exact led2)
    refine ⟨addTx (hashStr w k) (.str k tk) (es, ep, t), get_upd _ ho rfl, T.1, ?_, T.2.1, T.2.2.1, T.2.2.2⟩
    rw [List.map_append, List.nodup_append]
    refine ⟨nd, by simp, fun x hx y hy e => ?_⟩
    have : y = k := by simpa using hy
    subst this
    subst e
    exact hk hx
structure GotS (xs : List Str) (i : Nat) (l : List (Str × Tok)) : Prop where
  sub : ∀ x ∈ l.map (·.1), x ∈ xs.take i
  all : ∀ x ∈ xs.take i, x ∈ l.map (·.1)
  len : l.length ≤ i
theorem GotS.next {xs : List Str} {i : Nat} {l l' : List (Str × Tok)} {x : Str} {tk : Tok} (g : GotS xs i l) (h : xs[i]? = some x) (c1 : x ∈ l.map (·.1) → l' = l) (c2 : x ∉ l.map (·.1) → l' = l ++ [(x, tk)]) : GotS xs (i + 1) l' := by
  have e : xs.take (i + 1) = xs.take i ++ [x] := by rw [List.take_succ, h]; rfl
  by_cases hx : x ∈ l.map (·.1)
  · rw [c1 hx]
    refine ⟨fun y hy => ?_, fun y hy => ?_, Nat.le_succ_of_le g.len⟩
    · rw [e]; exact List.mem_append_left _ (g.sub y hy)
    · rw [e] at hy
      rcases List.mem_append.mp hy with z | z
      · exact g.all y z
      · rw [List.mem_singleton.mp z]; exact hx
  · rw [c2 hx]
    refine ⟨fun y hy => ?_, fun y hy => ?_, ?_⟩
    · rw [List.map_append] at hy
      rw [e]
      rcases List.mem_append.mp hy with z | z
      · exact List.mem_append_left _ (g.sub y z)
      · exact List.mem_append_right _ z
    · rw [e] at hy
      rw [List.map_append]
      rcases List.mem_append.mp hy with z | z
      · exact List.mem_append_left _ (g.all y z)
      · exact List.mem_append_right _ z
    · rw [List.length_append]
      exact Nat.succ_le_succ g.len
theorem txR_fresh {h : Heap} (ho : h.get? a = some { cls := .type "set", dict := none, data := .set #[] 0 (.fresh 0 0 (!w.params.followText "set-order")) }) : TxR P w h a [] :=
  ⟨(#[], 0, .fresh 0 0 (!w.params.followText "set-order")), ho, .refl _, List.nodup_nil, rfl, List.Pairwise.nil, by
    show _ ∨ (!w.params.followText "set-order") = true
    cases w.params.followText "set-order"
    · exact .inr rfl
    · exact .inl rfl⟩
theorem set_update_tx {I : Addr} {fp wr : List Addr} {G : Array GenState → Array GenState → Prop} {n : Nat} {Pv : Nat → Value → Prop} {St : Nat → Shared → Prop} {R : Result → Shared → Prop}
    (W : WalksS P w A.in1 I fp wr G n Pv St) (S : Addr) (hSf : S ∉ fp) (xs : List Str) (hn : n = xs.length) (hfew : xs.length < 1000) (hval : ∀ i v, Pv i v → ∃ x t, xs[i]? = some x ∧ v = .str x t)
    (h0 : Heap) (hS0 : h0.get? S = none) (hw0 : ∀ b ∈ wr, h0.get? b = none) :
    ∀ (k i : Nat) (s : Shared), n - i = k → i ≤ n → St i s → (∀ b o, h0.get? b = some o → s.heap.get? b = some o) → (∃ l, TxR P w s.heap S l ∧ GotS xs i l) →
      (∀ s' l, Moved (S :: wr) G s s' → TxR P w s'.heap S l → GotS xs n l → (∀ b o, h0.get? b = some o → s'.heap.get? b = some o) → R (.ok (.ret .none)) s') →
      codeAny (model P w) A (.builtin "set.update.loop" ⟨[.ref S, .ref I], []⟩) R s := by
  have hSw : S ∉ wr := fun h => hSf (W.sub _ h)
  have hsub : ∀ b ∈ wr, b ∈ S :: wr := fun b hb => List.mem_cons_of_mem _ hb
  have keepM : ∀ {s s' : Shared}, Moved wr G s s' → (∀ b o, h0.get? b = some o → s.heap.get? b = some o) → ∀ b o, h0.get? b = some o → s'.heap.get? b = some o := fun hm hkp b o e =>
    hm.heap b o (fun hb => by rw [hw0 b hb] at e; cases e) (hkp b o e)
  intro k
  induction k with
  | zero =>
    intro i s hk' hi hst hkp ⟨l, hS, g⟩ hR
    have hin : i = n := by omega
    subst hin
    refine codeAny_builtin F.entry_set_update_loop ?_
    rw [Around.under_plainId F.plain_set_update_loop _]
    show wpAny _ A.in1 (pyNext (.ref I) >>= _) _ _ s
    refine wpAny_bind (W.done s _ _ hst fun s' hm => ?_)
    show wpAny _ A.in1 (ret Value.none) _ _ s'
    have hkp' := keepM hm hkp
    exact wpAny_pure (hR s' l (hm.mono hsub) (hS.at fun o e => hm.heap S o hSw e) g hkp')
  | succ k ih =>
    intro i s hk' hi hst hkp ⟨l, hS, g⟩ hR
    have hlt : i < n := by omega
    refine codeAny_builtin F.entry_set_update_loop ?_
    rw [Around.under_plainId F.plain_set_update_loop _]
    show wpAny _ A.in1 (pyNext (.ref I) >>= _) _ _ s
    refine wpAny_bind (W.item i s _ _ hlt hst fun v s' hP hst' hm => ?_)
    obtain ⟨x, tx, hx, rfl⟩ := hval i v hP
    have hkp' := keepM hm hkp
    have hS' : TxR P w s'.heap S l := hS.at fun o e => hm.heap S o hSw e
    show wpAny _ A.in1 (holding [Value.str x tx] (setAdd S (.str x tx)) >>= _) _ _ s'
    refine wpAny_bind (wpAny_holding ?_)
    unfold setAdd
    refine wpAny_holding ?_
    refine wpAny_bind ((strKind P w).pyHash (k := x) (is_str x tx) ?_)
    refine tx_add (s := { s' with toks := s'.toks + 1 }) (k := x) (tk := tx) hS' (by have := g.len; unfold scanBound; omega) fun b h' l' hsb hS2 c1 c2 => ?_
    have g' : GotS xs (i + 1) l' := g.next hx c1 c2
    have hkp2 : ∀ b o, h0.get? b = some o → h'.get? b = some o := fun b o e => (hsb.2 b (fun z => by rw [z, hS0] at e; cases e)).trans (hkp' b o e)
    refine wpAny_pure ⟨plainId_quiet F.plain_set_update_loop _, ih (i + 1) _ (by omega) hlt (W.frame _ s' _ _ hst' (Nat.le_add_right _ _) fun b hb o e => ?_) hkp2 ⟨l', hS2, g'⟩ fun s'' l2 hm'' hS'' g'' hkp'' => ?_⟩
    · rw [hsb.2 b (fun h : b = S => hSf (by rw [← h]; exact hb))]; exact e
    · refine hR s'' l2 (Moved.trans W.gtrans ((hm.mono hsub).then_heap (Nat.le_add_right _ _) fun b o hb e => ?_) hm'') hS'' g'' hkp''
      rw [hsb.2 b (fun h : b = S => hb (by rw [h]; exact List.mem_cons_self))]; exact e
theorem call_set_tx {q : Addr} {items : Array Value} (xs : List Str) {Q : Value → Shared → Prop} (hh : A.handled = none) (hl : s.heap.IsList q items) (hit : PyProof.Rows.StrsAre items.toList xs) (hfew : xs.length < 1000)
    (h : ∀ (h' : Heap) (tk : Nat) l, TxR P w h' s.heap.objs.size l → GotS xs xs.length l → (∀ b o, s.heap.get? b = some o → h'.get? b = some o) → Q (.ref s.heap.objs.size) { s with heap := h', toks := tk }) :
    wpAny (model P w) A (call (.type "set") [.ref q]) Q E s := by
  have hisz : items.size = xs.length := by rw [← Array.length_toList]; exact StrsAre.len_eq hit
  obtain ⟨c, tl, hmro⟩ := F.called_set.mro
  have hmade := F.called_set.made
  have hsub := F.called_set.sub
  refine wpAny_call (codeAny_of_tree ?_)
  show wpAny _ _ (callAny (.type "set") _) _ _ _
  refine wpAny_pure ⟨Code.quiet_builtin _ (by decide +kernel), codeAny_builtin F.entry_type_call ?_⟩
  rw [Around.under_plain (weight_type_call_type "set" [.ref q] []) rfl]
  have h1 := F.called_set.notType
  have h2 := F.called_set.canCreate
  have hct := F.typeCall_set_1 (.ref q)
  repeat (any_goals (first | assumption | wp_step))
  refine codeAny_mono (code_set_led1 (.ref q) (E := E) (Q₁ := fun obj s₁ => obj = .ref s.heap.objs.size ∧ s₁ = { s with heap := s.heap.push { cls := .type "set", dict := none, data := .set #[] 0 (.fresh 0 0 (!w.params.followText "set-order")) } }) ⟨rfl, rfl⟩) fun r s₁ hr => ?_
  cases r with
  | error e => exact hr
  | ok fl =>
    cases fl with
    | ret obj =>
      obtain ⟨rfl, rfl⟩ := hr
      have hS : (s.heap.push { cls := .type "set", dict := none, data := .set #[] 0 (.fresh 0 0 (!w.params.followText "set-order")) }).get? s.heap.objs.size = some { cls := .type "set", dict := none, data := .set #[] 0 (.fresh 0 0 (!w.params.followText "set-order")) } := Heap.get?_push_size _ rfl
      have hT : Shared.TypeIs { s with heap := s.heap.push { cls := .type "set", dict := none, data := .set #[] 0 (.fresh 0 0 (!w.params.followText "set-order")) } } (.ref s.heap.objs.size) "set" := ⟨_, hS, rfl⟩
      have hli := F.called_set.init.lookup
      have hbi := F.called_set.init.bind (.ref s.heap.objs.size)
      repeat (any_goals (first | assumption | wp_step))
      refine codeAny_mono (codeAny_call_builtin (R := wants (fun r s₂ => r = .none ∧ ∃ h' tk l, s₂ = { s with heap := h', toks := tk } ∧ TxR P w h' s.heap.objs.size l ∧ GotS xs xs.length l ∧
          (∀ b o, s.heap.get? b = some o → h'.get? b = some o)) E) F.called_set.init.plain F.entry_set_init (check_set_init_1 hT ?_)) fun r₂ s₂ hr₂ => ?_
      · obtain ⟨ol, hol, hcl, nl, hdl⟩ := hl
        obtain ⟨ocls, odict, odata, oslots⟩ := ol
        simp only at hcl hdl
        subst hcl; subst hdl
        have hol' : (s.heap.push { cls := .type "set", dict := none, data := .set #[] 0 (.fresh 0 0 (!w.params.followText "set-order")) }).get? q = some { cls := .type "list", dict := odict, data := .seq items nl, slots := oslots } := Heap.get?_push_of_some _ hol
        have hsls := F.sub_list_set
        have hslf := F.sub_list_frozenset
        have hne : (Value.type "list" == Value.type "dict") = false := by decide
        have hl1 : (s.heap.push { cls := .type "set", dict := none, data := .set #[] 0 (.fresh 0 0 (!w.params.followText "set-order")) }).IsList q items := ⟨_, hol', rfl, nl, rfl⟩
        unfold Builtin.«set.__init__» noKeywords Builtin.Frozenset.updateFrom
        generalize hPI : pyIter = PI
        wp_walk
        subst hPI
        refine wpAny_pyIter_list hl1 ?_
        refine wpAny_bind (wpAny_runValue ?_)
        have hlS : q < s.heap.objs.size := Heap.lt_size hol
        have hh3 : A.in1.in1.in1.handled = none := by simp [hh]
        have hneI : q ≠ (s.heap.push { cls := .type "set", dict := none, data := .set #[] 0 (.fresh 0 0 (!w.params.followText "set-order")) }).objs.size := by
          rw [Heap.size_push]; exact Nat.ne_of_lt (Nat.lt_succ_of_lt hlS)
        have hSf : s.heap.objs.size ∉ [(s.heap.push { cls := .type "set", dict := none, data := .set #[] 0 (.fresh 0 0 (!w.params.followText "set-order")) }).objs.size, q] := by
          rw [Heap.size_push]; simp only [List.mem_cons, List.mem_singleton, List.not_mem_nil, or_false, not_or]
          exact ⟨Nat.ne_of_lt (Nat.lt_succ_self _), Nat.ne_of_gt hlS⟩
        have hval : ∀ (i : Nat) (v : Value), items[i]? = some v → ∃ x t, xs[i]? = some x ∧ v = .str x t := fun i v hv => by
          obtain ⟨t, e⟩ := SS.strs_at hit i v (by rw [Array.getElem?_toList]; exact hv)
          have hi : i < xs.length := by
            rw [← hisz]
            exact (Array.getElem?_eq_some_iff.mp hv).1
          refine ⟨xs[i], t, List.getElem?_eq_getElem hi, ?_⟩
          rw [e]
          congr 1
          rw [List.getD_eq_getElem?_getD, List.getElem?_eq_getElem hi]
          rfl
        have none_of : ∀ b, s.heap.objs.size ≤ b → s.heap.get? b = none := fun b hb => by
          cases q : s.heap.get? b with
          | none => rfl
          | some o => exact absurd (Nat.lt_of_lt_of_le (Heap.lt_size q) hb) (Nat.lt_irrefl _)
        refine set_update_tx ((Walks.list hh3 _ q hneI items).toS) s.heap.objs.size
          hSf xs hisz hfew hval s.heap (none_of _ (Nat.le_refl _)) (fun b hb => none_of b (by
            rw [List.mem_singleton.mp hb, Heap.size_push]
            exact Nat.le_succ _)) (items.size - 0) 0 _ (by omega) (Nat.zero_le _)
          ⟨⟨_, Heap.get?_push_size _ rfl, rfl, rfl⟩, (hl1.push _)⟩ (fun b o e => Heap.get?_push_of_some _ (Heap.get?_push_of_some _ e)) ?hS0 ?hR
        case hS0 =>
          have hget : ((s.heap.push { cls := .type "set", dict := none, data := .set #[] 0 (.fresh 0 0 (!w.params.followText "set-order")) }).push { cls := .type "list_iterator", data := .fields #[.ref q, .int 0 0] }).get? s.heap.objs.size
              = some { cls := .type "set", dict := none, data := .set #[] 0 (.fresh 0 0 (!w.params.followText "set-order")) } := Heap.get?_push_of_some _ hS
          exact ⟨[], txR_fresh hget, ⟨fun x hx => (nomatch hx), fun x hx => by simp at hx, Nat.le_refl _⟩⟩
        case hR =>
          intro s' l hm hS' g' hkp
          obtain ⟨h', g2, d', tk', os'⟩ := s'
          have eg : g2 = s.gens := hm.gens
          have ed : d' = s.drawn := hm.drawn
          have eo : os' = s.os := hm.os
          subst eg; subst ed; subst eo
          show wpAny _ _ _ _ _ _
          refine wpAny_pure ?_
          show wpAny _ _ (ret Value.none) _ _ _
          rw [hisz] at g'
          exact wpAny_pure ⟨rfl, h', tk', l, rfl, hS', g', hkp⟩
      · cases r₂ with
        | error e => exact hr₂
        | ok fl₂ =>
          cases fl₂ with
          | ret r =>
            obtain ⟨rfl, h', tk, l, rfl, hS', g', hk'⟩ := hr₂
            repeat (any_goals (first | assumption | wp_step))
            exact h _ _ _ hS' g' hk'
          | _ => exact hr₂.elim
    | _ => exact hr.elim

/-! ### sorted of a set, its items data -/
theorem sorted_any {o : Obj} {es : Array (Int × Value)} {ep : Nat} {t : SetTable} {β : Type} {R : Value → β → Prop} {enc : β → PyData} {bs : List β} {Q : Value → Shared → Prop} (ho : s.heap.get? a = some o) (hc : o.cls = .type "set") (hd : o.data = .set es ep t) (hh : A.handled = none)
    (hf : t.fits es.size = true) (hr : Ris t.place.toList) (hl : w.params.followText "set-order" = true ∨ t.led = true) (hfew : es.size < 1000)
    (hR : ∀ vs : List Value, vs.Perm (es.toList.map (·.2)) → ∃ bs' : List β, bs'.Perm bs ∧ PySem.W.EachIs R vs bs') (hRd : ∀ (h' : Heap) v b, b ∈ bs → (∀ c o, s.heap.get? c = some o → h'.get? c = some o) → R v b → Reads h' v (enc b) [])
    (hal : ∀ b ∈ bs, ∀ b' ∈ bs, PySem.W.alike (enc b) (enc b') = true) (hso : ∀ bs' : List β, bs'.Perm bs → PySem.W.Sortable (bs'.map enc)) (hdp : ∀ b ∈ bs, (enc b).depth ≤ 60) (hu : A.units + 66 < cLine)
    (hQ : ∀ s' p (out : List Value) (c : Nat) (bs' : List β), (∀ b o, s.heap.get? b = some o → s'.heap.get? b = some o) → s'.gens = s.gens → s'.os = s.os → s.heap.objs.size ≤ p →
      s'.heap.get? p = some (seqObj "list" out.toArray c) → bs'.Perm bs → PySem.W.EachIs R out (bs'.mergeSort (PySem.W.dataLe false enc)) → Q (.ref p) s') :
    wpAny (model P w) A (call (.builtin "sorted") [.ref a]) Q E s := by
  refine Calls.call_function_entry kind_sorted plain_sorted entry_sorted (args_sorted1 _) ?_
  unfold Builtin.«sorted»
  refine wpAny_bind (m := checkCount "sorted" 1 1 _) (wpAny_pure ?_)
  refine wpAny_bind (collect_set (A := A.in1) hh ⟨o, ho, hc, hd⟩ hf (by unfold scanBound; omega) hr hl fun s1 vs k1 hz g1 o1 pm => ?_)
  obtain ⟨bs', pb, er⟩ := hR vs pm
  have hvl : vs.length = es.size := by rw [pm.length_eq, List.length_map, Array.length_toList]
  have hbl : bs'.length = vs.length := er.length.symm
  refine wpAny_bind (wpAny_newList ?_ (by rw [sizeLine_eq]; omega))
  have hoL : (s1.heap.push (seqObj "list" vs.toArray 0)).get? s1.heap.objs.size = some (seqObj "list" vs.toArray 0) := Heap.get?_push_size _ rfl
  have k2 : ∀ b u, s.heap.get? b = some u → (s1.heap.push (seqObj "list" vs.toArray 0)).get? b = some u := fun b u e => Heap.get?_push_of_some _ (k1 b u e)
  have hreads : ∀ (vs : List Value) (cs : List β), (∀ c ∈ cs, c ∈ bs) → PySem.W.EachIs R vs cs → PySem.W.EachIs (fun v b => ∃ as, Reads (s1.heap.push (seqObj "list" vs.toArray 0)) v (enc b) as ∧ s1.heap.objs.size ∉ as) vs cs → True := fun _ _ _ _ _ => trivial
  have er2 : PySem.W.EachIs (fun v b => ∃ as, Reads (s1.heap.push (seqObj "list" vs.toArray 0)) v (enc b) as ∧ s1.heap.objs.size ∉ as) vs bs' := by
    have go : ∀ {us : List Value} {cs : List β}, PySem.W.EachIs R us cs → (∀ c ∈ cs, c ∈ bs) → PySem.W.EachIs (fun v b => ∃ as, Reads (s1.heap.push (seqObj "list" vs.toArray 0)) v (enc b) as ∧ s1.heap.objs.size ∉ as) us cs := by
      intro us cs e
      induction e with
      | nil => intro _; exact .nil
      | cons h t ih => intro hm; exact .cons ⟨[], hRd _ _ _ (hm _ List.mem_cons_self) k2 h, by simp⟩ (ih fun c hc => hm c (List.mem_cons_of_mem _ hc))
    exact go er fun c hc => pb.mem_iff.mp hc
  have hal2 : PySem.W.AllAlike (bs'.map enc) := by
    intro d hd d' hd'
    obtain ⟨b, hb, rfl⟩ := List.mem_map.mp hd
    obtain ⟨b', hb', rfl⟩ := List.mem_map.mp hd'
    exact hal b (pb.mem_iff.mp hb) b' (pb.mem_iff.mp hb')
  refine wpAny_bind (wpAny_holding (PySem.W.list_sort_data (s := { s1 with heap := s1.heap.push (seqObj "list" vs.toArray 0) }) (bs := bs') (enc := enc) (R := R) hoL er er2 hal2 (hso bs' pb) (by rw [sizeLine_eq]; omega) (fun b hb => by
    have := hdp b (pb.mem_iff.mp hb)
    show A.units + 1 + 1 + _ < cLine
    omega) fun out hlen eo => ?_))
  obtain ⟨c, hc⟩ := sortedHeap_at (vs := vs) (out := out.toArray) hoL
  refine wpAny_pure ⟨_, rfl, hQ _ s1.heap.objs.size out c bs' (fun b u e => ?_) g1 o1 hz hc pb eo⟩
  have q := k1 b u e
  have hlt := Heap.lt_size q
  show (sortedHeap (s1.heap.push (seqObj "list" vs.toArray 0)) s1.heap.objs.size vs out.toArray).get? b = some u
  rw [sortedHeap_old (Nat.ne_of_lt hlt) (by rw [size_push']; exact Nat.lt_succ_of_lt hlt)]
  exact Heap.get?_push_of_some _ q
end

/-! ### the rules -/
def TxO (P : Program) (w : World) (a : Addr) (xs : List Str) : HO := .ext fun h => ∃ l, TxR P w h a l ∧ (l.map (·.1)).Perm xs
theorem txO_new {P : Program} {w : World} {H : Hp} {h : Heap} {a : Addr} {xs : List Str} {l : List (Str × Tok)} (R : TxR P w h a l) (p : (l.map (·.1)).Perm xs) : ObjOk P w H h a (TxO P w a xs) := by
  refine ⟨⟨l, R, p⟩, ?_, fun h1 h2 q k => ?_⟩
  · obtain ⟨D, ho, _⟩ := R.ex
    exact ⟨_, ho⟩
  · obtain ⟨l', R', p'⟩ := q
    exact ⟨l', R'.at k, p'⟩
theorem strs_of_vals : ∀ {xs : List Str} {us : List Value}, Vals (xs.map V.str) us → PyProof.Rows.StrsAre us xs
  | [], _, .nil => .nil
  | x :: xs, _, .cons r t => by
    obtain ⟨tk, rfl⟩ := r
    exact .cons x tk (strs_of_vals t)
section
variable {X : Cx}
/-- set(xs), xs a list of texts: its texts in some order, each once -/
def rSetTx (K : PySem.W.Frag) (P : Program) (w : World) : List V → Hp → VK → Prop := fun xs H Q => ∃ (l : Addr) (ks : List Str), xs = [V.ref l] ∧ SqL K H l (ks.map V.str) ∧ ks.length < 1000 ∧
  ∀ a ys, H a = none → ys.Nodup → (∀ y, y ∈ ys ↔ y ∈ ks) → Q (.ref a) (upd H a (TxO P w a ys))
theorem cr_setTx (hc : X.calm = true) : CallR X (.type "set") (rSetTx X.K X.prog X.w) := by
  intro pins s σ H xs us Q I r h
  obtain ⟨l, ks, rfl, hl, hf, q⟩ := h
  rw [Vals.ref1 r]
  obtain ⟨its, rv, pl, hz⟩ := I.list hl
  have hn : H s.heap.objs.size = none := I.hok.fresh (Nat.le_refl _)
  refine call_set_tx (P := X.prog) (w := X.w) ks (I.ok.hd hc) pl.isList (by simpa using strs_of_vals rv) hf fun h' tk L R g k => ?_
  have nd : (L.map (·.1)).Nodup := by
    obtain ⟨D, _, _, nd, _⟩ := R.ex
    exact nd
  refine ⟨.ref s.heap.objs.size, upd H s.heap.objs.size (TxO X.prog X.w s.heap.objs.size (L.map (·.1))), I.laid (t' := tk) k (Nat.le_refl _) (txO_new R (.refl _)), rfl, q _ _ hn nd fun y => ⟨fun z => ?_, fun z => ?_⟩⟩
  · exact List.mem_of_mem_take (g.sub y z)
  · exact g.all y (by rw [List.take_length]; exact z)
/-- sorted of such a set -/
def rSortTx (P : Program) (w : World) : List V → Hp → VK → Prop := fun vs H Q => ∃ (a : Addr) (ys : List Str), vs = [V.ref a] ∧ H a = some (TxO P w a ys) ∧ ys.length < 1000 ∧
  ∀ (zs : List Str) (p : Addr), zs.Perm ys → zs.Pairwise (fun x y => PySem.W.dataLe false PyData.str x y = true) → H p = none → Q (.ref p) (upd H p (.lst (zs.map V.str)))
theorem vals_strs : ∀ {us : List Value} {xs : List Str}, PySem.W.EachIs (fun u x => ∃ t, u = Value.str x t) us xs → Vals (xs.map V.str) us
  | _, _, .nil => .nil
  | _, _, .cons r t => .cons r (vals_strs t)
theorem cr_sortTx (hc : X.calm = true) (hu : X.A.units + 66 < cLine) : CallR X (.builtin "sorted") (rSortTx X.prog X.w) := by
  intro pins s σ H vs us Q I r h
  obtain ⟨a, ys, rfl, ha, hf, q⟩ := h
  obtain ⟨l, R, p⟩ : ∃ l, TxR X.prog X.w s.heap a l ∧ (l.map (·.1)).Perm ys := (I.hok a _ ha).1
  obtain ⟨D, ho, pm, nd, hfit, hr, hl⟩ := R.ex
  rw [Vals.ref1 r]
  have hsz : D.1.size = ys.length := by rw [← Array.length_toList, pm.length_eq, List.length_map, ← p.length_eq, List.length_map]
  have each : ∀ L : List (Str × Tok), PySem.W.EachIs (fun u x => ∃ t, u = Value.str x t) (L.map fun q => Value.str q.1 q.2) (L.map (·.1)) := by
    intro L
    induction L with
    | nil => exact .nil
    | cons q L ih => exact .cons ⟨q.2, rfl⟩ ih
  have ord : ∀ vs : List Value, (∀ v ∈ vs, ∃ q : Str × Tok, v = Value.str q.1 q.2) → ∃ L : List (Str × Tok), vs = L.map fun q => Value.str q.1 q.2 := by
    intro vs
    induction vs with
    | nil => intro _; exact ⟨[], rfl⟩
    | cons v vs ih =>
      intro hv
      obtain ⟨q, e⟩ := hv v List.mem_cons_self
      obtain ⟨L, eL⟩ := ih fun u hu => hv u (List.mem_cons_of_mem _ hu)
      exact ⟨q :: L, by rw [List.map_cons, ← e, ← eL]⟩
  have inj : ∀ q q' : Str × Tok, Value.str q.1 q.2 = Value.str q'.1 q'.2 → q = q' := fun q q' e => by
    injection e with e1 e2
    exact Prod.ext e1 e2
  refine sorted_any (P := X.prog) (w := X.w) (R := fun u x => ∃ t, u = Value.str x t) (enc := PyData.str) (bs := ys) ho rfl rfl (I.ok.hd hc) hfit hr hl (by rw [hsz]; exact hf) (fun vs pv => ?_) (fun h' v b _ _ hv => ?_) (fun _ _ _ _ => rfl) (fun bs' _ => .inr fun d hd => ?_) (fun b _ => Nat.zero_le _) hu fun s' p' out c bs' k g o hp hg pb eo => ?_
  · have pv2 : vs.Perm (l.map fun q => Value.str q.1 q.2) := pv.trans (by
      have := pm.map (·.2)
      rw [List.map_map] at this
      exact this)
    obtain ⟨L, rfl⟩ := ord vs fun v hv => by
      obtain ⟨q, _, e⟩ := List.mem_map.mp (pv2.mem_iff.mp hv)
      exact ⟨q, e.symm⟩
    have pL : L.Perm l := by
      have := pv2.map fun v => match v with | Value.str x t => (x, t) | _ => (Str.empty, 0)
      rw [List.map_map, List.map_map] at this
      have e1 : (L.map ((fun v => match v with | Value.str x t => (x, t) | _ => (Str.empty, 0)) ∘ fun q : Str × Tok => Value.str q.1 q.2)) = L := by
        have : ((fun v => match v with | Value.str x t => (x, t) | _ => (Str.empty, 0)) ∘ fun q : Str × Tok => Value.str q.1 q.2) = id := by
          funext q
          rfl
        rw [this, List.map_id]
      have e2 : (l.map ((fun v => match v with | Value.str x t => (x, t) | _ => (Str.empty, 0)) ∘ fun q : Str × Tok => Value.str q.1 q.2)) = l := by
        have : ((fun v => match v with | Value.str x t => (x, t) | _ => (Str.empty, 0)) ∘ fun q : Str × Tok => Value.str q.1 q.2) = id := by
          funext q
          rfl
        rw [this, List.map_id]
      rw [e1, e2] at this
      exact this
    exact ⟨L.map (·.1), (pL.map (·.1)).trans p, each L⟩
  · obtain ⟨t, rfl⟩ := hv
    exact Reads.str b t
  · obtain ⟨b, _, rfl⟩ := List.mem_map.mp hd
    exact ⟨fun z => (nomatch z), fun xs z => (nomatch z)⟩
  · have pz : (bs'.mergeSort (PySem.W.dataLe false PyData.str)).Perm ys := (List.mergeSort_perm _ _).trans pb
    have hn : H p' = none := I.hok.fresh hp
    have hv : Vals ((bs'.mergeSort (PySem.W.dataLe false PyData.str)).map V.str) out := vals_strs eo
    have hlen : ((bs'.mergeSort (PySem.W.dataLe false PyData.str)).map V.str).length ≤ sizeLine := by rw [List.length_map, pz.length_eq, sizeLine_eq]; omega
    have J : Inv X pins σ (upd H p' (.lst ((bs'.mergeSort (PySem.W.dataLe false PyData.str)).map V.str))) { s with heap := s'.heap, gens := s'.gens, drawn := s'.drawn, toks := s'.toks } :=
      I.call (ch := []) (Un.laid k hp hn) (I.hok.laid k hp ⟨hlen, out, c, hv, hg⟩) (by rw [g]; exact I.bare) (fun _ z => nomatch z)
    have e : s' = { s with heap := s'.heap, gens := s'.gens, drawn := s'.drawn, toks := s'.toks } := by
      cases s'
      cases s
      cases o
      rfl
    rw [e]
    exact ⟨.ref p', _, J, rfl, q _ p' pz (PySem.W.sort_pairwise (PySem.W.sortLe_total _ _ _) _) hn⟩
/-- sorted of a set of tuples of ints, of any lengths but none -/
def encT (k : List Int) : PyData := .tuple (k.map .int)
def rSortTV (K : PySem.W.Frag) (P : Program) (w : World) : List V → Hp → VK → Prop := fun vs H Q => ∃ (a : Addr) (L : List (Addr × List Int)), vs = [V.ref a] ∧ H a = some (SetTO P w a L) ∧ (∀ p ∈ L, SqT K H p.1 (p.2.map V.int)) ∧ (∀ p ∈ L, p.2 ≠ []) ∧
  ∀ (L' : List (Addr × List Int)) (p : Addr), L'.Perm L → (L'.map (·.2)).Nodup → L'.length < 64 → L'.Pairwise (fun q r => PySem.W.dataLe false (fun p : Addr × List Int => encT p.2) q r = true) → H p = none → Q (.ref p) (upd H p (.lst (L'.map fun q => V.ref q.1)))
theorem reads_ints : ∀ {h : Heap} {vs : List Value} {ns : List Int}, IntsAre vs ns → ReadsAll h vs (ns.map .int) []
  | _, _, _, .nil => .nil
  | _, _, _, .cons n t r => .cons (as := []) (bs := []) (Reads.int n t) (reads_ints r)
theorem depth_encT (k : List Int) : (encT k).depth ≤ 60 := by
  show PyData.depthAll (k.map .int) + 1 ≤ 60
  rw [PySem.W.depth_ints]
  decide
theorem cr_sortTV (hc : X.calm = true) (hu : X.A.units + 66 < cLine) : CallR X (.builtin "sorted") (rSortTV X.K X.prog X.w) := by
  intro pins s σ H vs us Q I r h
  obtain ⟨a, L, rfl, ha, hk, hne, q⟩ := h
  have R0 : SetT0 X.prog X.w s.heap a L := (I.hok a _ ha).1
  obtain ⟨es, ep, t, R⟩ := R0.full fun p hp => I.isT (hk p hp)
  obtain ⟨o, ho, hex, hd⟩ := R.ob
  rw [Vals.ref1 r]
  have hes : es.toList.map (·.2) = L.map fun q => Value.ref q.1 := by
    rw [R.rows]
    unfold rowsOf
    rw [List.map_map]
    rfl
  have each : ∀ L1 : List (Addr × List Int), PySem.W.EachIs (fun u p => u = Value.ref p.1) (L1.map fun q => Value.ref q.1) L1 := by
    intro L1
    induction L1 with
    | nil => exact .nil
    | cons q L1 ih => exact .cons rfl ih
  have ord : ∀ vs : List Value, (∀ v ∈ vs, ∃ q ∈ L, v = Value.ref q.1) → ∃ L1 : List (Addr × List Int), vs = L1.map (fun q => Value.ref q.1) ∧ ∀ q ∈ L1, q ∈ L := by
    intro vs
    induction vs with
    | nil => intro _; exact ⟨[], rfl, fun q hq => (by cases hq)⟩
    | cons v vs ih =>
      intro hv
      obtain ⟨q, hq, e⟩ := hv v List.mem_cons_self
      obtain ⟨L1, e1, hs⟩ := ih fun u hu => hv u (List.mem_cons_of_mem _ hu)
      refine ⟨q :: L1, by rw [List.map_cons, e, e1], fun r hr => ?_⟩
      rcases List.mem_cons.mp hr with z | z
      · rw [z]; exact hq
      · exact hs r z
  have one : ∀ q ∈ L, ∀ r ∈ L, q.1 = r.1 → q = r := fun q hq r hr e => by
    have a1 := R.tup q hq
    have a2 := R.tup r hr
    rw [e] at a1
    have e2 : q.2 = r.2 := a1.inj a2
    exact Prod.ext e e2
  have perm_of : ∀ L1 : List (Addr × List Int), (∀ q ∈ L1, q ∈ L) → (L1.map (fun q => Value.ref q.1)).Perm (L.map fun q => Value.ref q.1) → L1.Perm L := by
    intro L1 hs pm1
    have nL : L.Nodup := nodup_of_map R.nd
    have nref : (L.map fun q => Value.ref q.1).Nodup := by
      refine List.pairwise_map.mpr (List.Pairwise.imp_of_mem (fun {q r} hq hr hne e => ?_) nL)
      injection e with e
      exact hne (one q hq r hr e)
    have n1 : L1.Nodup := nodup_of_map (pm1.nodup_iff.mpr nref)
    refine (List.perm_ext_iff_of_nodup n1 nL).mpr fun q => ⟨hs q, fun hq => ?_⟩
    have hm : Value.ref q.1 ∈ L1.map (fun q => Value.ref q.1) := pm1.mem_iff.mpr (List.mem_map.mpr ⟨q, hq, rfl⟩)
    obtain ⟨r, hr, e⟩ := List.mem_map.mp hm
    injection e with e
    rw [← one r (hs r hr) q hq e]
    exact hr
  refine sorted_any (P := X.prog) (w := X.w) (R := fun u (p : Addr × List Int) => u = Value.ref p.1) (enc := fun p : Addr × List Int => encT p.2) (bs := L) ho hex.1 hd (I.ok.hd hc) R.fits R.tab.ris R.led (by rw [R.size]; have := R.few; omega) (fun vs pv => ?_) (fun h' v b hb hkeep hv => ?_) (fun b _ b' _ => ?_) (fun bs' pb => .inl fun d hd => ?_) (fun b _ => depth_encT _) hu fun s' p' out c bs' k g o hp hg pb eo => ?_
  · rw [hes] at pv
    obtain ⟨L1, rfl, hs⟩ := ord vs fun v hv => by
      obtain ⟨q, hq, e⟩ := List.mem_map.mp (pv.mem_iff.mp hv)
      exact ⟨q, hq, e.symm⟩
    exact ⟨L1, perm_of L1 hs pv, each L1⟩
  · subst hv
    obtain ⟨ob, items, n, h1, h2, h3, h4⟩ := R.tup b hb
    exact Reads.tuple (hkeep _ _ h1) h2 (by simpa using h3) (reads_ints (ints_of_items h4))
  · show PySem.W.alikeAll (b.2.map .int) (b'.2.map .int) = true
    exact PySem.W.alike_ints _ _
  · obtain ⟨b, hb, rfl⟩ := List.mem_map.mp hd
    have := hne b (pb.mem_iff.mp hb)
    cases e : b.2 with
    | nil => exact absurd e this
    | cons x r => exact ⟨.int x, r.map .int, rfl⟩
  · have pz : (bs'.mergeSort (PySem.W.dataLe false fun p : Addr × List Int => encT p.2)).Perm L := (List.mergeSort_perm _ _).trans pb
    have hn : H p' = none := I.hok.fresh hp
    have hout : out = (bs'.mergeSort (PySem.W.dataLe false fun p : Addr × List Int => encT p.2)).map fun q => Value.ref q.1 := by
      have go : ∀ {us : List Value} {cs : List (Addr × List Int)}, PySem.W.EachIs (fun u (p : Addr × List Int) => u = Value.ref p.1) us cs → us = cs.map fun q => Value.ref q.1 := by
        intro us cs e
        induction e with
        | nil => rfl
        | cons h t ih => rw [List.map_cons, h, ih]
      exact go eo
    have hv : Vals ((bs'.mergeSort (PySem.W.dataLe false fun p : Addr × List Int => encT p.2)).map fun q => V.ref q.1) out := by rw [hout]; exact vals_of_refs _
    have hfew : (bs'.mergeSort (PySem.W.dataLe false fun p : Addr × List Int => encT p.2)).length < 64 := by rw [pz.length_eq]; exact R.few
    have hlen : ((bs'.mergeSort (PySem.W.dataLe false fun p : Addr × List Int => encT p.2)).map fun q => V.ref q.1).length ≤ sizeLine := by rw [List.length_map, sizeLine_eq]; omega
    have J : Inv X pins σ (upd H p' (.lst ((bs'.mergeSort (PySem.W.dataLe false fun p : Addr × List Int => encT p.2)).map fun q => V.ref q.1))) { s with heap := s'.heap, gens := s'.gens, drawn := s'.drawn, toks := s'.toks } :=
      I.call (ch := []) (Un.laid k hp hn) (I.hok.laid k hp ⟨hlen, out, c, hv, hg⟩) (by rw [g]; exact I.bare) (fun _ z => nomatch z)
    have e : s' = { s with heap := s'.heap, gens := s'.gens, drawn := s'.drawn, toks := s'.toks } := by
      cases s'
      cases s
      cases o
      rfl
    rw [e]
    exact ⟨.ref p', _, J, rfl, q _ p' pz ((pz.map (·.2)).nodup_iff.mpr R.nd) hfew (PySem.W.sort_pairwise (PySem.W.sortLe_total _ _ _) _) hn⟩
end
end SrK
end
section
set_option Elab.async false
set_option linter.all false
set_option maxRecDepth 100000
set_option maxHeartbeats 4000000
/-! how data stand in the heap; how defs are taken by name -/
namespace Sr
open PySem PySem.Spec PyProof.Rows L2 SrM SrK

/-! ### defs by name -/
def FnG (K : PySem.W.Frag) (mg : Str → Option Value) (x : Str) (st : Stmt) : Prop := ∃ f fd, FunD K x x (defArgs st) (defBody st) (defScope st) [] [] f fd ∧ mg x = some (.ref f)
def FnM (K : PySem.W.Frag) (C : Addr) (m q : Str) (st : Stmt) : Prop := ∃ f fd, FunD K m q (defArgs st) (defBody st) (defScope st) [] [] f fd ∧ Meth K C m f
/-- a global def keeps its promise -/
def Has (P : Program) (w : World) (K : PySem.W.Frag) (mg : Str → Option Value) (base : Heap) (k : Nat) (x : Str) (ps : List Str) (sp : Sp) : Prop :=
  ∃ f fd, FnOk P w K mg base CX0 k f fd ps sp ∧ mg x = some (.ref f) ∧ PySem.W.keepIn K (.ref f) = true ∧ Binds K fd ps []
/-- a method does -/
def HasM (P : Program) (w : World) (K : PySem.W.Frag) (mg : Str → Option Value) (base : Heap) (k : Nat) (C : Addr) (m : Str) (ps : List Str) (sp : Sp) : Prop :=
  ∃ f fd, FnOk P w K mg base CX0 k f fd ps sp ∧ Meth K C m f ∧ Binds K fd ps []
/-- a class that makes instances by its __init__ -/
def MkC (P : Program) (w : World) (K : PySem.W.Frag) (mg : Str → Option Value) (base : Heap) (k : Nat) (x : Str) (C : Addr) (ps : List Str) (sp : Sp) : Prop :=
  ∃ f fd, Mk K C f ∧ FnOk P w K mg base CX0 k f fd ps sp ∧ mg x = some (.ref C) ∧ Binds K fd ps []
def BindOk (st : Stmt) (m q : Str) (ps : List Str) : Prop := ∀ (kV doc pm : Value) (an : Option Addr) (cdv ct : Value) (us : List Value), us.length = ps.length → bindArgs (PySem.W.fnOf m q (defArgs st) (defBody st) (defScope st) .none kV doc pm an cdv ct) ⟨us, []⟩ = pure (ps.zip us)
section
variable {P : Program} {w : World} {K : PySem.W.Frag} {mg : Str → Option Value} {base : Heap}
theorem has_of {x : Str} {st : Stmt} {N ps : List Str} {k : Nat} {sp : Sp} (G : FnG K mg x st) (S : FnScope N ps (defScope st)) (hb : BindOk st x x ps) (len : ∀ vs H Q E, sp vs H Q E → vs.length = ps.length)
    (hbody : ∀ (f : Addr) (cdv : Value) (A : Around) (outer : List Env) (s : Shared) (H : Hp) (vs : List V) (Q : VK) (E : XK), Room k (A.deeper (envOfC x (defScope st) s.heap.objs.size f cdv)) → sp vs H Q E →
      ∃ t, PSs (cxOf CX0 P w K mg base N x (defScope st) f cdv A outer s H E).nox (defBody st) t ∧ t { nx := fun _ H' => Q .non H', rt := Q } (start N vs) H) : Has P w K mg base (k + 1) x ps sp := by
  obtain ⟨f, fd, F, hm⟩ := G
  exact ⟨f, fd, F.ok S len (fun cdv A outer s H vs Q E hr h => let ⟨t, h1, h2⟩ := hbody f cdv A outer s H vs Q E hr h; ⟨t, h1.nox, h2⟩), hm, F.kp, F.bindsN hb⟩
theorem hasM_of {C : Addr} {m q : Str} {st : Stmt} {N ps : List Str} {k : Nat} {sp : Sp} (G : FnM K C m q st) (S : FnScope N ps (defScope st)) (hb : BindOk st m q ps) (len : ∀ vs H Q E, sp vs H Q E → vs.length = ps.length)
    (hbody : ∀ (f : Addr) (cdv : Value) (A : Around) (outer : List Env) (s : Shared) (H : Hp) (vs : List V) (Q : VK) (E : XK), Room k (A.deeper (envOfC q (defScope st) s.heap.objs.size f cdv)) → sp vs H Q E →
      ∃ t, PSs (cxOf CX0 P w K mg base N q (defScope st) f cdv A outer s H E).nox (defBody st) t ∧ t { nx := fun _ H' => Q .non H', rt := Q } (start N vs) H) : HasM P w K mg base (k + 1) C m ps sp := by
  obtain ⟨f, fd, F, hm⟩ := G
  exact ⟨f, fd, F.ok S len (fun cdv A outer s H vs Q E hr h => let ⟨t, h1, h2⟩ := hbody f cdv A outer s H vs Q E hr h; ⟨t, h1.nox, h2⟩), hm, F.bindsN hb⟩
theorem mkC_of {x q : Str} {C : Addr} {st : Stmt} {N ps : List Str} {k : Nat} {sp : Sp} (G : ∃ f fd, FunD K "__init__" q (defArgs st) (defBody st) (defScope st) [] [] f fd ∧ Mk K C f) (hm : mg x = some (.ref C)) (S : FnScope N ps (defScope st)) (hb : BindOk st "__init__" q ps) (len : ∀ vs H Q E, sp vs H Q E → vs.length = ps.length)
    (hbody : ∀ (f : Addr) (cdv : Value) (A : Around) (outer : List Env) (s : Shared) (H : Hp) (vs : List V) (Q : VK) (E : XK), Room k (A.deeper (envOfC q (defScope st) s.heap.objs.size f cdv)) → sp vs H Q E →
      ∃ t, PSs (cxOf CX0 P w K mg base N q (defScope st) f cdv A outer s H E).nox (defBody st) t ∧ t { nx := fun _ H' => Q .non H', rt := Q } (start N vs) H) : MkC P w K mg base (k + 1) x C ps sp := by
  obtain ⟨f, fd, F, m⟩ := G
  exact ⟨f, fd, m, F.ok S len (fun cdv A outer s H vs Q E hr h => let ⟨t, h1, h2⟩ := hbody f cdv A outer s H vs Q E hr h; ⟨t, h1.nox, h2⟩), hm, F.bindsN hb⟩
end
section
variable {X : Cx} {k j : Nat} {x : Str} {ps : List Str} {sp : Sp} {p pos apos : Pos} {e o : Expr} {es : List Expr} {t : TA} {to : TE} {C : Addr} {m : Str}
theorem pe_callH (h : Has X.prog X.w X.K X.mg X.base j x ps sp) (hr : Room k X.A) (hj : j ≤ k) (ha : PA X (e :: es) t) (hg : Gl X x := by rfl) (hdb : (x == ("__debug__" : Str)) = false := by decide) (he : starEach (e :: es) X.env = (false, eval e X.env) :: starEach es X.env := by rfl) (hpl : (backTo pos (starEach es X.env)).any (·.1) = false := by rfl) :
    PE X (.Call (.Name x p) (e :: es) [] pos) (tCall sp [] E0 t) := by
  obtain ⟨f, fd, F, hm, hk, hb⟩ := h
  exact pe_call F (hr.mono hj) hg hm hk hb .nil pass0 ha hdb he hpl
theorem pe_methH {pl : Sem Bool} (h : HasM X.prog X.w X.K X.mg X.base j C m ps sp) (c : Cls X.K C) (hr : Room k X.A) (hj : j ≤ k) (ho : PE X o to) (ha : PA X (e :: es) t)
    (hst : starEach (e :: es) X.env = (false, eval e X.env) :: starEach es X.env := by rfl) (hpl : (backTo pos (starEach es X.env)).any (·.1) = false := by rfl)
    (ht : eval (.Call (.Attribute o m apos) (e :: es) [] pos) X.env = (do
      let ov ← eval o X.env
      standAt apos.atName
      let (f, first) ← holding [ov] (getMethod ov m pl)
      callWith pos f first (backTo pos (starEach (e :: es) X.env)) (backToKw pos (keywordEach [] X.env))) := by rfl) :
    PE X (.Call (.Attribute o m apos) (e :: es) [] pos) (tMeth C m sp [] E0 to t) := by
  obtain ⟨f, fd, F, hm, hb⟩ := h
  exact pe_meth ho c hm F (hr.mono hj) hb .nil pass0 ha hst hpl ht
theorem pe_meth0H {pl : Sem Bool} (h : HasM X.prog X.w X.K X.mg X.base j C m ps sp) (c : Cls X.K C) (hr : Room k X.A) (hj : j ≤ k) (ho : PE X o to)
    (ht : eval (.Call (.Attribute o m apos) [] [] pos) X.env = (do
      let ov ← eval o X.env
      standAt apos.atName
      let (f, first) ← holding [ov] (getMethod ov m pl)
      callWith pos f first (backTo pos (starEach [] X.env)) (backToKw pos (keywordEach [] X.env))) := by rfl) :
    PE X (.Call (.Attribute o m apos) [] [] pos) (tMeth C m sp [] E0 to tNil) := by
  obtain ⟨f, fd, F, hm, hb⟩ := h
  exact pe_meth0 ho c hm F (hr.mono hj) hb .nil pass0 ht
theorem pe_makeH (h : MkC X.prog X.w X.K X.mg X.base j x C ps sp) (hr : Room k X.A) (hj : j + 1 ≤ k) (ha : PA X (e :: es) t) (hg : Gl X x := by rfl) (hdb : (x == ("__debug__" : Str)) = false := by decide) (he : starEach (e :: es) X.env = (false, eval e X.env) :: starEach es X.env := by rfl) (hpl : (backTo pos (starEach es X.env)).any (·.1) = false := by rfl) :
    PE X (.Call (.Name x p) (e :: es) [] pos) (tMake C sp [] E0 t) := by
  obtain ⟨f, fd, M, F, hm, hb⟩ := h
  exact pe_make M F (hr.mono hj) hg hm hb .nil pass0 ha hdb he hpl
end
theorem hu1 {A : Around} {k : Nat} (hr : Room k A) : A.units + 1 < cLine := by have := hr.un; omega
theorem hu64 {A : Around} {k : Nat} (hr : Room k A) : A.units + 64 < cLine := by have := hr.un; omega
theorem hu65 {A : Around} {k : Nat} (hr : Room k A) : A.units + 65 < cLine := by have := hr.un; omega
theorem hu66 {A : Around} {k : Nat} (hr : Room k A) : A.units + 66 < cLine := by have := hr.un; omega

/-- the module's names -/
structure Tx (K : PySem.W.Frag) (mg : Str → Option Value) : Prop where
  isinstance : mg "isinstance" = none
  int : mg "int" = none
  bool : mg "bool" = none
  str : mg "str" = none
  tuple : mg "tuple" = none
  len : mg "len" = none
  all : mg "all" = none
  enumerate : mg "enumerate" = none
  dict : mg "dict" = none
  list : mg "list" = none
  sorted : mg "sorted" = none
  zip : mg "zip" = none
  set : mg "set" = none
  min : mg "min" = none
  max : mg "max" = none
  range : mg "range" = none
  LONGEST : ∃ t, mg "LONGEST" = some (.int 2 t)
  GREATEST : ∃ t, mg "GREATEST" = some (.int 32767 t)
  LEAST : ∃ t, mg "LEAST" = some (.int (-32768) t)
  SMALL : ∃ t, mg "SMALL" = some (.str "abcdefghijklmnopqrstuvwxyz" t)
  WIDE : ∃ a, mg "WIDE" = some (.ref a) ∧ ∀ H, SqT K H a [.int (-32768), .int 32767]

/-! ### heaps -/
/-- all but what stands at ms is as it was -/
def Fm (ms : List Addr) (H H' : Hp) : Prop := ∀ b o, H b = some o → b ∉ ms → H' b = some o
/-- the tuples stand -/
def Tups (H H' : Hp) : Prop := ∀ b xs, H b = some (.tup xs) → H' b = some (.tup xs)
theorem Fm.refl (ms : List Addr) (H : Hp) : Fm ms H H := fun _ _ h _ => h
theorem Fm.trans {ms : List Addr} {H H1 H2 : Hp} (a : Fm ms H H1) (b : Fm ms H1 H2) : Fm ms H H2 := fun c o h n => b c o (a c o h n) n
theorem Fm.mono {ms ns : List Addr} {H H1 : Hp} (a : Fm ms H H1) (h : ∀ b ∈ ms, b ∈ ns) : Fm ns H H1 := fun c o q n => a c o q fun z => n (h c z)
theorem Fm.of_same {ms : List Addr} {H H1 : Hp} (a : Same H H1) : Fm ms H H1 := fun c o h _ => a c o h
theorem Fm.same {H H1 : Hp} (a : Fm [] H H1) : Same H H1 := fun c o h => a c o h (by simp)
/-- what is changed behind is changed ahead, or new -/
theorem Fm.then {ms ns : List Addr} {H H1 H2 : Hp} (a : Fm ms H H1) (b : Fm ns H1 H2) (h : ∀ c ∈ ns, c ∈ ms ∨ H c = none) : Fm ms H H2 := fun c o q n => b c o (a c o q n) fun z => by
  rcases h c z with z | z
  · exact n z
  · rw [z] at q; cases q
theorem Fm.new {ms : List Addr} {H : Hp} {p : Addr} {o : HO} (h : H p = none) : Fm ms H (upd H p o) := fun c u q _ => by
  rw [upd_ne (ne_of_none q h)]
  exact q
theorem Fm.put {ms : List Addr} {H : Hp} {p : Addr} {o : HO} (h : p ∈ ms) : Fm ms H (upd H p o) := fun c u q n => by
  rw [upd_ne (fun z => n (by rw [z]; exact h))]
  exact q
theorem Fm.tups {ms : List Addr} {H H1 : Hp} (a : Fm ms H H1) (h : ∀ b ∈ ms, ∀ xs, H b ≠ some (.tup xs)) : Tups H H1 := fun b xs q => a b _ q fun z => h b z xs q
theorem Tups.refl (H : Hp) : Tups H H := fun _ _ h => h
theorem Tups.trans {H H1 H2 : Hp} (a : Tups H H1) (b : Tups H1 H2) : Tups H H2 := fun c xs h => b c xs (a c xs h)
theorem Tups.of_same {H H1 : Hp} (a : Same H H1) : Tups H H1 := fun c xs h => a c _ h
theorem Tups.new {H : Hp} {p : Addr} {o : HO} (h : H p = none) : Tups H (upd H p o) := fun c u q => by
  rw [upd_ne (ne_of_none q h)]
  exact q
theorem Tups.put {H : Hp} {p : Addr} {o : HO} (h : ∀ xs, H p ≠ some (.tup xs)) : Tups H (upd H p o) := fun c u q => by
  rw [upd_ne (fun z => h u (by rw [← z]; exact q))]
  exact q
theorem same_new {H : Hp} {p : Addr} {o : HO} (h : H p = none) : Same H (upd H p o) := fun b u q => by
  rw [upd_ne (ne_of_none q h)]
  exact q

/-! ### texts -/
def nS : Nm → Str
  | .a => "a"
  | .b => "b"
  | .c => "c"
  | .d => "dd"
def wS : Wd → Str
  | .add => "add"
  | .sub => "sub"
  | .mul => "mul"
  | .quo => "quo"
  | .less => "less"
  | .same => "same"
  | .min => "min"
  | .max => "max"
def fS : Fw → Str
  | .zero => "zero"
  | .over => "over"
  | .long => "long"
theorem nS_inj : ∀ {x y : Nm}, nS x = nS y → x = y := by
  intro x y
  cases x <;> cases y <;> first | (intro _; rfl) | (intro h; exact absurd h (by decide +kernel))
theorem dec_ss (x y : Str) : decide (V.str x = V.str y) = decide (x = y) := by
  by_cases e : x = y
  · subst e; simp
  · rw [decide_eq_false e, decide_eq_false (fun h => e (by injection h))]
theorem dec_ii (i j : Int) : decide (V.int i = V.int j) = decide (i = j) := by
  by_cases e : i = j
  · subst e; simp
  · rw [decide_eq_false e, decide_eq_false (fun h => e (by injection h))]
theorem dec_nn (x y : Nm) : decide (V.str (nS x) = V.str (nS y)) = decide (x = y) := by
  rw [dec_ss]
  by_cases e : x = y
  · subst e; simp
  · rw [decide_eq_false e, decide_eq_false (fun h => e (nS_inj h))]
theorem ref_non (a : Addr) : decide (V.ref a = V.non) = false := decide_eq_false (fun h => by cases h)
theorem non_non : decide (V.non = V.non) = true := decide_eq_true rfl
/-- an if whose test is known -/
theorem ifT {c : Bool} {A B : Prop} (hc : c = true) (h : A) : if c = true then A else B := by
  rw [if_pos hc]
  exact h
theorem ifF {c : Bool} {A B : Prop} (hc : c = false) (h : B) : if c = true then A else B := by
  rw [hc, if_neg Bool.false_ne_true]
  exact h
theorem ifC {c : Bool} {A B : Prop} (h1 : c = true → A) (h2 : c = false → B) : if c = true then A else B := by
  cases c with
  | true => rw [if_pos rfl]; exact h1 rfl
  | false => rw [if_neg Bool.false_ne_true]; exact h2 rfl

/-! ### sums, deeds, paths -/
section
variable (H : Hp)
def IsEx : V → Ex → Prop
  | v, .num n => ∃ a, v = .ref a ∧ H a = some (.tup [.str "num", .int n])
  | v, .name x => ∃ a, v = .ref a ∧ H a = some (.tup [.str "name", .str (nS x)])
  | v, .bin w l r => ∃ a vl vr, v = .ref a ∧ H a = some (.tup [.str (wS w), vl, vr]) ∧ IsEx vl l ∧ IsEx vr r
mutual
def IsDd : V → Dd → Prop
  | v, .set x e => ∃ a ve, v = .ref a ∧ H a = some (.tup [.str "set", .str (nS x), ve]) ∧ IsEx H ve e
  | v, .ife e f g => ∃ a ve af ag vf vg, v = .ref a ∧ H a = some (.tup [.str "if", ve, .ref af, .ref ag]) ∧ IsEx H ve e ∧ H af = some (.tup vf) ∧ IsDs vf f ∧ H ag = some (.tup vg) ∧ IsDs vg g
  | v, .whl e m b => ∃ a ve ab vb, v = .ref a ∧ H a = some (.tup [.str "while", ve, .int m, .ref ab]) ∧ IsEx H ve e ∧ H ab = some (.tup vb) ∧ IsDs vb b
def IsDs : List V → List Dd → Prop
  | [], [] => True
  | v :: vs, d :: ds => IsDd v d ∧ IsDs vs ds
  | _, _ => False
end
/-- a block -/
def IsBl (v : V) (ds : List Dd) : Prop := ∃ a vs, v = .ref a ∧ H a = some (.tup vs) ∧ IsDs H vs ds
def IsPa (v : V) (p : Path) : Prop := ∃ a, v = .ref a ∧ H a = some (.tup (p.map V.int))
end
section
variable {H H' : Hp}
theorem IsEx.mono (t : Tups H H') : ∀ {e : Ex} {v : V}, IsEx H v e → IsEx H' v e
  | .num n, v, h => by
    obtain ⟨a, e1, e2⟩ := h
    exact ⟨a, e1, t _ _ e2⟩
  | .name x, v, h => by
    obtain ⟨a, e1, e2⟩ := h
    exact ⟨a, e1, t _ _ e2⟩
  | .bin w l r, v, h => by
    obtain ⟨a, vl, vr, e1, e2, hl, hr⟩ := h
    exact ⟨a, vl, vr, e1, t _ _ e2, IsEx.mono t hl, IsEx.mono t hr⟩
mutual
theorem IsDd.mono (t : Tups H H') : ∀ {d : Dd} {v : V}, IsDd H v d → IsDd H' v d
  | .set x e, v, h => by
    obtain ⟨a, ve, e1, e2, he⟩ := h
    exact ⟨a, ve, e1, t _ _ e2, he.mono t⟩
  | .ife e f g, v, h => by
    obtain ⟨a, ve, af, ag, vf, vg, e1, e2, he, e3, hf, e4, hg⟩ := h
    exact ⟨a, ve, af, ag, vf, vg, e1, t _ _ e2, he.mono t, t _ _ e3, IsDs.mono t hf, t _ _ e4, IsDs.mono t hg⟩
  | .whl e m b, v, h => by
    obtain ⟨a, ve, ab, vb, e1, e2, he, e3, hb⟩ := h
    exact ⟨a, ve, ab, vb, e1, t _ _ e2, he.mono t, t _ _ e3, IsDs.mono t hb⟩
theorem IsDs.mono (t : Tups H H') : ∀ {ds : List Dd} {vs : List V}, IsDs H vs ds → IsDs H' vs ds
  | [], [], _ => trivial
  | d :: ds, v :: vs, h => ⟨IsDd.mono t h.1, IsDs.mono t h.2⟩
  | [], _ :: _, h => h.elim
  | _ :: _, [], h => h.elim
end
theorem IsBl.mono (t : Tups H H') {v : V} {ds : List Dd} (h : IsBl H v ds) : IsBl H' v ds := by
  obtain ⟨a, vs, e1, e2, h⟩ := h
  exact ⟨a, vs, e1, t _ _ e2, h.mono t⟩
theorem IsPa.mono (t : Tups H H') {v : V} {p : Path} (h : IsPa H v p) : IsPa H' v p := by
  obtain ⟨a, e1, e2⟩ := h
  exact ⟨a, e1, t _ _ e2⟩
theorem IsDs.length : ∀ {ds : List Dd} {vs : List V}, IsDs H vs ds → vs.length = ds.length
  | [], [], _ => rfl
  | d :: ds, v :: vs, h => congrArg Nat.succ (IsDs.length h.2)
  | [], _ :: _, h => h.elim
  | _ :: _, [], h => h.elim
theorem IsDs.get : ∀ {ds : List Dd} {vs : List V} {i : Nat} {v : V}, IsDs H vs ds → vs[i]? = some v → ∃ d, ds[i]? = some d ∧ IsDd H v d
  | d :: ds, v :: vs, 0, u, h, e => ⟨d, rfl, by have : v = u := by simpa using e
                                                subst this; exact h.1⟩
  | d :: ds, v :: vs, i + 1, u, h, e => by
    obtain ⟨d', e1, e2⟩ := IsDs.get (i := i) h.2 (by simpa using e)
    exact ⟨d', by simpa using e1, e2⟩
  | [], [], i, u, h, e => by simp at e
  | [], _ :: _, _, _, h, _ => h.elim
  | _ :: _, [], _, _, h, _ => h.elim
theorem IsDs.append : ∀ {ds es : List Dd} {vs us : List V}, IsDs H vs ds → IsDs H us es → IsDs H (vs ++ us) (ds ++ es)
  | [], es, [], us, _, h => h
  | d :: ds, es, v :: vs, us, h, h' => ⟨h.1, IsDs.append h.2 h'⟩
  | [], _, _ :: _, _, h, _ => h.elim
  | _ :: _, _, [], _, h, _ => h.elim
/-- a tuple that stands, or that the top has written -/
inductive TupK (K : PySem.W.Frag) (H : Hp) (a : Addr) (xs : List V) : Prop where
  | inl (h : H a = some (.tup xs)) : TupK K H a xs
theorem TupK.sq {K : PySem.W.Frag} {a : Addr} {xs : List V} (h : TupK K H a xs) : SqT K H a xs := match h with | .inl e => .inl (.inl e)
theorem TupK.mono {K : PySem.W.Frag} {a : Addr} {xs : List V} (t : Tups H H') (h : TupK K H a xs) : TupK K H' a xs := match h with | .inl e => .inl (t _ _ e)
/-- a stretch -/
def IsSt (K : PySem.W.Frag) (H : Hp) (v : V) (s : Sg) : Prop := ∃ a, v = .ref a ∧ TupK K H a [.int s.1, .int s.2]
def IsO (K : PySem.W.Frag) (H : Hp) (v : V) : Option Sg → Prop
  | none => v = .non
  | some s => IsSt K H v s
theorem IsSt.mono {K : PySem.W.Frag} {v : V} {s : Sg} (t : Tups H H') (h : IsSt K H v s) : IsSt K H' v s := by
  obtain ⟨a, e, h⟩ := h
  exact ⟨a, e, h.mono t⟩
theorem IsO.mono {K : PySem.W.Frag} {v : V} {o : Option Sg} (t : Tups H H') (h : IsO K H v o) : IsO K H' v o := by
  cases o with
  | none => exact h
  | some s => exact IsSt.mono t h
/-- a stretch that may be the written one -/
def IsOq (K : PySem.W.Frag) (H : Hp) (v : V) : Option Sg → Prop
  | none => v = .non
  | some s => ∃ a, v = .ref a ∧ SqT K H a [.int s.1, .int s.2]
theorem IsO.q {K : PySem.W.Frag} {v : V} {o : Option Sg} (h : IsO K H v o) : IsOq K H v o := by
  cases o with
  | none => exact h
  | some s =>
    obtain ⟨a, e, h⟩ := h
    exact ⟨a, e, h.sq⟩
/-- one value, one stretch -/
theorem IsSt.one {K : PySem.W.Frag} {v : V} {s t : Sg} (h : IsSt K H v s) (h' : IsSt K H v t) : s = t := by
  obtain ⟨a, rfl, ⟨e⟩⟩ := h
  obtain ⟨b, eb, ⟨e'⟩⟩ := h'
  injection eb with eb
  subst eb
  rw [e] at e'
  injection e' with e'
  injection e' with e'
  injection e' with e1 e2
  injection e1 with e1
  injection e2 with e2 _
  injection e2 with e2
  exact Prod.ext e1 e2
theorem isSt_new {K : PySem.W.Frag} {p : Addr} {s : Sg} : IsSt K (upd H p (.tup [.int s.1, .int s.2])) (.ref p) s := ⟨p, rfl, .inl upd_same⟩
end
theorem exD_eq (x : Nm) : PyData.str (nS x) = PyData.str (nS x) := rfl
theorem at0 {v : V} {vs : List V} : atI (v :: vs) 0 = some v := at_of (j := 0) rfl rfl
theorem at1 {v u : V} {vs : List V} : atI (v :: u :: vs) 1 = some u := at_of (j := 1) rfl rfl
theorem at2 {v u z : V} {vs : List V} : atI (v :: u :: z :: vs) 2 = some z := at_of (j := 2) rfl rfl
theorem at3 {v u z y : V} {vs : List V} : atI (v :: u :: z :: y :: vs) 3 = some y := at_of (j := 3) rfl rfl
end Sr
end
section
set_option Elab.async false
set_option linter.all false
set_option maxRecDepth 100000
set_option maxHeartbeats 4000000
/-! data equal; books and worths by name -/
namespace Sr
open PySem PySem.Spec PyProof.Rows L2 SrM SrK
theorem dec_ww (x y : Wd) : decide (V.str (wS x) = V.str (wS y)) = decide (x = y) := by
  rw [dec_ss]
  cases x <;> cases y <;> decide +kernel
theorem min_if (i j : Int) : (if j < i then j else i) = min i j := by
  by_cases h : j < i
  · rw [if_pos h]; omega
  · rw [if_neg h]; omega
theorem max_if (i j : Int) : (if j > i then j else i) = max i j := by
  by_cases h : j > i
  · rw [if_pos h]; omega
  · rw [if_neg h]; omega
/-! ### equal data -/
theorem eqv_ints : ∀ (p q : List Int), PyData.eqvAll (p.map .int) (q.map .int) = decide (p = q)
  | [], [] => rfl
  | [], _ :: _ => rfl
  | _ :: _, [] => rfl
  | x :: p, y :: q => by
    show (PyData.eqv (.int x) (.int y) && PyData.eqvAll (p.map .int) (q.map .int)) = decide (x :: p = y :: q)
    rw [eqv_ints p q, show PyData.eqv (.int x) (.int y) = decide (x = y) from rfl]
    by_cases h : x = y <;> by_cases h' : p = q <;> simp [h, h']
theorem eqv_path (p q : List Int) : PyData.eqv (encT p) (encT q) = decide (p = q) := eqv_ints p q
theorem lay_ints : ∀ p : List Int, PyData.canLayAll0 (p.map .int) = true
  | [] => rfl
  | x :: p => lay_ints p
theorem shaped_path (p : List Int) : SeqAt.shaped (encT p) = true := by
  unfold SeqAt.shaped
  rw [show (encT p).canLay0 = true from lay_ints p, decide_eq_true (Nat.le_trans (depth_encT p) (by decide))]
  rfl
theorem dpAll_ints {K : PySem.W.Frag} {H : Hp} : ∀ p : List Int, DpAll K H (p.map V.int) (p.map .int)
  | [] => .nil
  | x :: p => .cons (.int x) (dpAll_ints p)
theorem dp_path {K : PySem.W.Frag} {H : Hp} {a : Addr} {p : List Int} (h : SqT K H a (p.map V.int)) : Dp K H (.ref a) (encT p) := .tup h (dpAll_ints p)
def encS (s : Sg) : PyData := encT [s.1, s.2]
theorem dp_st {K : PySem.W.Frag} {H : Hp} {v : V} {s : Sg} (h : IsSt K H v s) : Dp K H v (encS s) := by
  obtain ⟨a, rfl, h⟩ := h
  exact dp_path (p := [s.1, s.2]) h.sq
theorem eqv_st (s t : Sg) : PyData.eqv (encS s) (encS t) = decide (s = t) := by
  unfold encS
  rw [eqv_path]
  obtain ⟨a, b⟩ := s
  obtain ⟨c, d⟩ := t
  by_cases h : a = c <;> by_cases h' : b = d <;> simp [h, h']
def encO : Option Sg → PyData
  | none => .none
  | some s => encS s
theorem dp_o {K : PySem.W.Frag} {H : Hp} {v : V} {o : Option Sg} (h : IsO K H v o) : Dp K H v (encO o) := by
  cases o with
  | none =>
    obtain rfl : v = .non := h
    exact .non
  | some s => exact dp_st h
theorem shaped_o (o : Option Sg) : SeqAt.shaped (encO o) = true := by
  cases o with
  | none => rfl
  | some s => exact shaped_path _
theorem eqv_o (o u : Option Sg) : PyData.eqv (encO o) (encO u) = decide (o = u) := by
  cases o <;> cases u
  · rfl
  · rfl
  · rfl
  · rename_i s t
    show PyData.eqv (encS s) (encS t) = _
    rw [eqv_st]
    by_cases h : s = t <;> simp [h]
theorem isO_non {K : PySem.W.Frag} {H : Hp} {v : V} {o : Option Sg} (h : IsO K H v o) : decide (v = .non) = o.isNone := by
  cases o with
  | none =>
    obtain rfl : v = .non := h
    rfl
  | some s =>
    obtain ⟨a, rfl, _⟩ := h
    rfl
/-! ### by name -/
abbrev nK (x : Nm) : Key := Sum.inr (nS x)
theorem nK_inj {x y : Nm} (h : nK x = nK y) : x = y := nS_inj (by injection h)
/-- a dict by names: what stands at each is told by R -/
structure DAt {α : Type} (R : V → α → Prop) (kvs : List (Key × V)) (bk : Bk α) : Prop where
  ks : ∃ ns : List Nm, kvs.map (·.1) = ns.map nK ∧ ns.Nodup
  no : ∀ x, bk x = none → valV kvs (nK x) = none
  so : ∀ x s, bk x = some s → ∃ v, valV kvs (nK x) = some v ∧ R v s
section
variable {α : Type} {R R' : V → α → Prop} {kvs : List (Key × V)} {bk : Bk α}
theorem DAt.mono (h : DAt R kvs bk) (f : ∀ v s, R v s → R' v s) : DAt R' kvs bk := ⟨h.ks, h.no, fun x s e => by
  obtain ⟨v, e1, e2⟩ := h.so x s e
  exact ⟨v, e1, f v s e2⟩⟩
theorem nm_len {ns : List Nm} (h : ns.Nodup) : ns.length ≤ 4 := by
  have key : ∀ (l m : List Nm), l.Nodup → (∀ x ∈ l, x ∈ m) → l.length ≤ m.length := by
    intro l
    induction l with
    | nil => intro m _ _; exact Nat.zero_le _
    | cons x r ih =>
      intro m nd hm
      have nd' := List.nodup_cons.mp nd
      have hx : x ∈ m := hm x (by simp)
      have := ih (m.erase x) nd'.2 fun y hy => (List.mem_erase_of_ne (fun z => nd'.1 (by rw [← z]; exact hy))).mpr (hm y (by simp [hy]))
      rw [List.length_erase_of_mem hx] at this
      have h0 : 0 < m.length := List.length_pos_of_mem hx
      rw [List.length_cons]
      omega
  exact key ns [.a, .b, .c, .d] h fun x _ => by cases x <;> simp
theorem DAt.length (h : DAt R kvs bk) : kvs.length ≤ 4 := by
  obtain ⟨ns, e, nd⟩ := h.ks
  have := congrArg List.length e
  rw [List.length_map, List.length_map] at this
  rw [this]
  exact nm_len nd
theorem DAt.nil : DAt R [] (fun _ => none) := ⟨⟨[], rfl, List.nodup_nil⟩, fun _ _ => rfl, fun x s e => by cases e⟩
theorem valV_in' {kvs : List (Key × V)} {k : Key} : (valV kvs k).isSome = true ↔ k ∈ kvs.map (·.1) := by
  induction kvs with
  | nil => simp [valV_nil]
  | cons p r ih =>
    by_cases e : p.1 = k
    · rw [valV_pos e]; simp [e]
    · rw [valV_neg e, ih]
      simp only [List.map_cons, List.mem_cons]
      constructor
      · exact fun h => .inr h
      · rintro (h | h)
        · exact absurd h.symm e
        · exact h
theorem DAt.isSome (h : DAt R kvs bk) (x : Nm) : (valV kvs (nK x)).isSome = (bk x).isSome := by
  cases e : bk x with
  | none => rw [h.no x e]; rfl
  | some s =>
    obtain ⟨v, e1, _⟩ := h.so x s e
    rw [e1]; rfl
theorem DAt.get (h : DAt R kvs bk) {x : Nm} (e : (bk x).isSome = true) : ∃ v s, bk x = some s ∧ valV kvs (nK x) = some v ∧ R v s := by
  cases q : bk x with
  | none => rw [q] at e; cases e
  | some s =>
    obtain ⟨v, e1, e2⟩ := h.so x s q
    exact ⟨v, s, rfl, e1, e2⟩
/-- the i-th key is a name that is known -/
theorem DAt.key (h : DAt R kvs bk) {i : Nat} {k : Key} {v : V} (e : kvs[i]? = some (k, v)) : ∃ x, k = nK x ∧ (bk x).isSome = true := by
  obtain ⟨ns, e1, nd⟩ := h.ks
  have hk : k ∈ kvs.map (·.1) := List.mem_map.mpr ⟨(k, v), List.mem_of_getElem? e, rfl⟩
  have hk' := hk
  rw [e1] at hk
  obtain ⟨x, _, rfl⟩ := List.mem_map.mp hk
  exact ⟨x, rfl, by rw [← h.isSome x]; exact valV_in'.mpr hk'⟩
theorem DAt.put (h : DAt R kvs bk) {x : Nm} {v : V} {s : α} (r : R v s) : DAt R (putK kvs (nK x) v) (SrM.put bk x s) := by
  refine ⟨?_, fun y e => ?_, fun y t e => ?_⟩
  · obtain ⟨ns, e1, nd⟩ := h.ks
    cases q : valV kvs (nK x) with
    | none =>
      refine ⟨ns ++ [x], ?_, ?_⟩
      · rw [putK_new v q, List.map_append, List.map_append, e1]
        rfl
      · refine List.nodup_append.mpr ⟨nd, by simp, fun a ha b hb => ?_⟩
        rw [List.mem_singleton.mp hb]
        rintro rfl
        have : (valV kvs (nK a)).isSome = true := valV_in'.mpr (by rw [e1]; exact List.mem_map.mpr ⟨a, ha, rfl⟩)
        rw [q] at this
        cases this
    | some u =>
      refine ⟨ns, ?_, nd⟩
      rw [← e1]
      unfold putK
      rw [valV_any, q]
      simp only [Option.isSome_some, if_true, List.map_map]
      refine List.map_congr_left fun p _ => ?_
      simp only [Function.comp]
      split <;> rfl
  · rw [valV_put]
    by_cases c : y = x
    · subst c; rw [put_same] at e; cases e
    · rw [if_neg (fun z => c (nK_inj z)), h.no y (by rw [put_ne c] at e; exact e)]
  · rw [valV_put]
    by_cases c : y = x
    · subst c
      rw [put_same] at e
      injection e with e
      subst e
      exact ⟨v, by rw [if_pos rfl], r⟩
    · rw [put_ne c] at e
      obtain ⟨u, e1, e2⟩ := h.so y t e
      exact ⟨u, by rw [if_neg (fun z => c (nK_inj z)), e1], e2⟩
theorem DAt.congr {bk' : Bk α} (h : DAt R kvs bk) (e : bk = bk') : DAt R kvs bk' := e ▸ h
end
/-- a book stands at d -/
def BkAt (K : PySem.W.Frag) (H : Hp) (d : Addr) (bk : Bk Sg) : Prop := ∃ kvs, H d = some (.dK kvs) ∧ DAt (IsSt K H) kvs bk
def BkO (K : PySem.W.Frag) (H : Hp) (v : V) : Option (Bk Sg) → Prop
  | none => v = .non
  | some bk => ∃ d, v = .ref d ∧ BkAt K H d bk
/-- worths stand at d -/
def EnvAt (H : Hp) (d : Addr) (env : Bk Int) : Prop := ∃ kvs, H d = some (.dK kvs) ∧ DAt (fun v n => v = .int n) kvs env
theorem BkAt.mono {K : PySem.W.Frag} {H H' : Hp} {d : Addr} {bk : Bk Sg} (h : BkAt K H d bk) (t : Tups H H') (e : ∀ kvs, H d = some (.dK kvs) → H' d = some (.dK kvs)) : BkAt K H' d bk := by
  obtain ⟨kvs, h1, h2⟩ := h
  exact ⟨kvs, e kvs h1, h2.mono fun v s r => r.mono t⟩
theorem BkAt.same {K : PySem.W.Frag} {H H' : Hp} {d : Addr} {bk : Bk Sg} (h : BkAt K H d bk) (s : Same H H') : BkAt K H' d bk := h.mono (.of_same s) fun kvs e => s _ _ e
theorem BkO.same {K : PySem.W.Frag} {H H' : Hp} {v : V} {o : Option (Bk Sg)} (h : BkO K H v o) (s : Same H H') : BkO K H' v o := by
  cases o with
  | none => exact h
  | some bk =>
    obtain ⟨d, e, h⟩ := h
    exact ⟨d, e, h.same s⟩
theorem bkO_non {K : PySem.W.Frag} {H : Hp} {v : V} {o : Option (Bk Sg)} (h : BkO K H v o) : decide (v = .non) = o.isNone := by
  cases o with
  | none =>
    obtain rfl : v = .non := h
    rfl
  | some s =>
    obtain ⟨a, rfl, _⟩ := h
    rfl
/-! ### short forms -/
section
variable {X : Cx} {a b c o : Expr} {ta tb tc to : TE}
theorem ixc {j : Int} {k : Nat} {p pos : Pos} (ho : PE X o to) : PE X (.Subscript o (.Constant (.int j) k p) pos) (tOp (rIxT X.K) to (tC (.int j))) := pe_ix ix_tup ho pe_int (fun _ _ => rfl)
theorem ixl {j : Int} {k : Nat} {p pos : Pos} (ho : PE X o to) : PE X (.Subscript o (.Constant (.int j) k p) pos) (tOp (rIxL X.K) to (tC (.int j))) := pe_ix ix_list ho pe_int (fun _ _ => rfl)
theorem pa1 (ha : PE X a ta) (h1 : starEach [a] X.env = (false, eval a X.env) :: starEach [] X.env := by rfl) : PA X [a] (tCons ta tNil) := pa_cons ha pa_nil h1
theorem pa2 (ha : PE X a ta) (hb : PE X b tb) (h1 : starEach [a, b] X.env = (false, eval a X.env) :: starEach [b] X.env := by rfl) (h2 : starEach [b] X.env = (false, eval b X.env) :: starEach [] X.env := by rfl) : PA X [a, b] (tCons ta (tCons tb tNil)) := pa_cons ha (pa1 hb h2) h1
theorem pa3 (ha : PE X a ta) (hb : PE X b tb) (hc : PE X c tc) (h1 : starEach [a, b, c] X.env = (false, eval a X.env) :: starEach [b, c] X.env := by rfl) (h2 : starEach [b, c] X.env = (false, eval b X.env) :: starEach [c] X.env := by rfl) (h3 : starEach [c] X.env = (false, eval c X.env) :: starEach [] X.env := by rfl) :
    PA X [a, b, c] (tCons ta (tCons tb (tCons tc tNil))) := pa_cons ha (pa2 hb hc h2 h3) h1
theorem pt2 {k : Nat} {pos : Pos} (ha : PE X a ta) (hb : PE X b tb) (h1 : starEach [a, b] X.env = (false, eval a X.env) :: starEach [b] X.env := by rfl) (h2 : starEach [b] X.env = (false, eval b X.env) :: starEach [] X.env := by rfl) : PE X (.Tuple [a, b] k pos) (tTup (tCons ta (tCons tb tNil))) := pe_tup (pa2 ha hb h1 h2)
end
end Sr
end
section
set_option Elab.async false
set_option linter.all false
set_option maxRecDepth 100000
set_option maxHeartbeats 4000000
/-! dicts made of pairs; rows of names; names in order; a dict that is locked -/
namespace Sr
open PySem PySem.Spec PyProof.Rows L2 SrM SrK
/-! ### made of pairs -/
theorem dAt_merge {α : Type} {R : V → α → Prop} {f : Bk α} : ∀ (L : List (Nm × V)) (acc : List (Key × V)) (g : Bk α), DAt R acc g → (∀ p ∈ L, ∃ s, f p.1 = some s ∧ R p.2 s) →
    DAt R (mergeK acc (L.map fun p => (nK p.1, p.2))) (fun x => if x ∈ L.map (·.1) then f x else g x)
  | [], acc, g, h, _ => h.congr (funext fun x => by simp)
  | p :: L, acc, g, h, hL => by
    obtain ⟨s, e, r⟩ := hL p (by simp)
    refine (dAt_merge L (putK acc (nK p.1) p.2) (SrM.put g p.1 s) (h.put r) fun q hq => hL q (by simp [hq])).congr (funext fun x => ?_)
    by_cases c : x ∈ L.map (·.1)
    · rw [if_pos c, if_pos (by rw [List.map_cons]; exact List.mem_cons_of_mem _ c)]
    · rw [if_neg c]
      by_cases c' : x = p.1
      · subst c'
        rw [put_same, if_pos (by rw [List.map_cons]; exact List.mem_cons_self), e]
      · rw [put_ne c', if_neg (fun z => by
          rw [List.map_cons, List.mem_cons] at z
          exact z.elim c' c)]
theorem dAt_list {α : Type} {R : V → α → Prop} {f : Bk α} {L : List (Nm × V)} (h1 : ∀ p ∈ L, ∃ s, f p.1 = some s ∧ R p.2 s) (h2 : ∀ x, (f x).isSome = true → x ∈ L.map (·.1)) : DAt R (mergeK [] (L.map fun p => (nK p.1, p.2))) f :=
  (dAt_merge L [] (fun _ => none) .nil h1).congr (funext fun x => by
    by_cases c : x ∈ L.map (·.1)
    · rw [if_pos c]
    · rw [if_neg c]
      cases e : f x with
      | none => rfl
      | some s => exact absurd (h2 x (by rw [e]; rfl)) c)
/-- pairs that stand -/
def PrsAt (H : Hp) : List Addr → List (Nm × V) → Prop := Paired fun p l => H p = some (.tup [.str (nS l.1), l.2])
theorem PrsAt.mono {H H' : Hp} {ps : List Addr} {L : List (Nm × V)} (h : PrsAt H ps L) (t : Tups H H') : PrsAt H' ps L := Paired.mono (fun _ _ e => t _ _ e) h
theorem PrsAt.sq {K : PySem.W.Frag} {H : Hp} : ∀ {ps : List Addr} {L : List (Nm × V)}, PrsAt H ps L → Paired (fun p (kv : Key × V) => SqT K H p [kV kv.1, kv.2]) ps (L.map fun p => (nK p.1, p.2))
  | _, _, .nil => .nil
  | _, _, .cons h t => .cons (.inl (.inl h)) (PrsAt.sq t)
/-! ### rows of a name and a stretch -/
def bkOf (rows : List (Nm × Sg)) : Bk Sg := fun x => rows.lookup x
def RowsIn (H : Hp) : List Addr → List (Nm × Sg) → Prop := Paired fun r x => H r = some (.tup [.str (nS x.1), .int x.2.1, .int x.2.2])
def RowsAt (H : Hp) (a : Addr) (rows : List (Nm × Sg)) : Prop := ∃ rs : List Addr, H a = some (.tup (rs.map V.ref)) ∧ RowsIn H rs rows
theorem RowsAt.mono {H H' : Hp} {a : Addr} {rows : List (Nm × Sg)} (h : RowsAt H a rows) (t : Tups H H') : RowsAt H' a rows := by
  obtain ⟨rs, h1, h2⟩ := h
  exact ⟨rs, t _ _ h1, Paired.mono (fun _ _ e => t _ _ e) h2⟩
theorem bkOf_mem {rows : List (Nm × Sg)} (nd : (rows.map (·.1)).Nodup) {x : Nm} {s : Sg} (h : (x, s) ∈ rows) : bkOf rows x = some s := by
  induction rows with
  | nil => cases h
  | cons p r ih =>
    obtain ⟨y, t⟩ := p
    have nd' := List.nodup_cons.mp nd
    rcases List.mem_cons.mp h with e | e
    · injection e with e1 e2
      subst e1 e2
      show List.lookup x ((x, s) :: r) = _
      simp [List.lookup]
    · have hne : x ≠ y := fun z => nd'.1 (by rw [← z]; exact List.mem_map.mpr ⟨(x, s), e, rfl⟩)
      show List.lookup x ((y, t) :: r) = _
      rw [List.lookup_cons, show (x == y) = false from beq_false_of_ne hne]
      exact ih nd'.2 e
theorem bkOf_some {rows : List (Nm × Sg)} {x : Nm} (h : (bkOf rows x).isSome = true) : x ∈ rows.map (·.1) := by
  induction rows with
  | nil => cases h
  | cons p r ih =>
    obtain ⟨y, t⟩ := p
    by_cases e : x = y
    · subst e; simp
    · refine List.mem_cons_of_mem _ (ih ?_)
      have : bkOf ((y, t) :: r) x = bkOf r x := by
        show List.lookup x ((y, t) :: r) = List.lookup x r
        rw [List.lookup_cons, show (x == y) = false from beq_false_of_ne e]
      rw [← this]
      exact h
/-! ### names in order -/
def nrk : Nm → Nat
  | .a => 0
  | .b => 1
  | .c => 2
  | .d => 3
theorem nrk_inj {x y : Nm} (h : nrk x = nrk y) : x = y := by cases x <;> cases y <;> first | rfl | cases h
theorem lt_nm (x y : Nm) : ltCps (nS y).cps.toList (nS x).cps.toList = decide (nrk y < nrk x) := by
  cases x <;> cases y <;> decide +kernel
theorem le_nm (x y : Nm) : PySem.W.dataLe false PyData.str (nS x) (nS y) = decide (nrk x ≤ nrk y) := by
  cases x <;> cases y <;> decide +kernel
theorem rising_nm : ∀ (ns : List Nm) (x : Nm), risingS (nS x) (ns.map nS) = true → (x :: ns).Pairwise (fun x y => nrk x ≤ nrk y)
  | [], x, _ => by simp
  | y :: ns, x, h => by
    have h : (!ltCps (nS y).cps.toList (nS x).cps.toList && risingS (nS y) (ns.map nS)) = true := h
    rw [Bool.and_eq_true, lt_nm] at h
    have h1 : nrk x ≤ nrk y := by simpa using h.1
    have ih := rising_nm ns y h.2
    refine List.pairwise_cons.mpr ⟨fun z hz => ?_, ih⟩
    rcases List.mem_cons.mp hz with rfl | hz
    · exact h1
    · exact Nat.le_trans h1 ((List.pairwise_cons.mp ih).1 z hz)
theorem sorted_nm {ns : List Nm} (h : sortedS (ns.map nS) = true) : ns.Pairwise (fun x y => nrk x ≤ nrk y) := by
  cases ns with
  | nil => exact .nil
  | cons x r => exact rising_nm r x h
/-- names that are texts of a permutation -/
theorem perm_nm {ys : List Str} {ns : List Nm} (h : ys.Perm (ns.map nS)) : ∃ ms : List Nm, ms.Perm ns ∧ ys = ms.map nS := by
  obtain ⟨ms, h1, h2⟩ := perm_lift nS h ns rfl
  exact ⟨ms, h1, h2.symm⟩
theorem nm_unique {ms ns : List Nm} (h : ms.Perm ns) (h1 : ms.Pairwise (fun x y => nrk x ≤ nrk y)) (h2 : ns.Pairwise (fun x y => nrk x ≤ nrk y)) : ms = ns :=
  List.Perm.eq_of_pairwise (fun a b _ _ x y => nrk_inj (Nat.le_antisymm x y)) h1 h2 h
/-! ### locked -/
theorem rd_same {H H' : Hp} {a : Addr} {u : HO} (h : Rd H a u) (s : Same H H') : Rd H' a u := h.imp (fun e => s _ _ e) fun ⟨o, e⟩ => ⟨o, s _ _ e⟩
theorem rd_lock {H : Hp} {a d : Addr} {u v : HO} {od : Obj} (hd : H d = some v) (h : H a = some u) : Rd (upd H d (.frz od v)) a u := by
  by_cases c : a = d
  · subst c
    rw [hd] at h
    injection h with h
    subst h
    exact .inr ⟨od, upd_same⟩
  · exact .inl (by rw [upd_ne c]; exact h)
theorem dget_rd {H : Hp} {a : Addr} {kvs : List (Key × V)} {k : Key} (e : Rd H a (.dK kvs)) : DGet H a (kV k) (valV kvs k) := .inl ⟨kvs, k, e, rfl, rfl⟩
theorem tups_lock {H : Hp} {d : Addr} {u : HO} {od : Obj} (hd : H d = some u) (hu : ∀ xs, u ≠ .tup xs) : Tups H (upd H d (.frz od u)) := .put fun xs e => hu xs (by rw [hd] at e; injection e)
theorem tups_unlock {H : Hp} {d : Addr} {u : HO} {od : Obj} (hd : H d = some (.frz od u)) : Tups H (upd H d u) := .put fun xs e => by rw [hd] at e; cases e
theorem lock_same {H H' : Hp} {d : Addr} {u : HO} {od : Obj} (hd : H d = some u) (s : Same (upd H d (.frz od u)) H') : Same H (upd H' d u) := fun b o e => by
  by_cases c : b = d
  · subst c
    rw [hd] at e
    rw [upd_same]
    exact e
  · rw [upd_ne c]
    exact s _ _ (by rw [upd_ne c]; exact e)
theorem lock_none {H : Hp} {b d : Addr} {u : HO} {od : Obj} (hb : (upd H d (.frz od u)) b = none) : b ≠ d ∧ H b = none := by
  by_cases c : b = d
  · subst c
    rw [upd_same] at hb
    cases hb
  · rw [upd_ne c] at hb
    exact ⟨c, hb⟩
theorem same_put {H H' : Hp} {a : Addr} {o : HO} (s : Same H H') (h : H a = none) : Same H (upd H' a o) := fun b u e => by
  rw [upd_ne (ne_of_none e h)]
  exact s _ _ e
/-! ### rules within a comprehension: the frame named -/
section
variable {X : Cx} {o : Expr} {to : TE} (K : PySem.W.Frag)
theorem ixk {j : Int} {k : Nat} {p pos : Pos} (ho : PE X o to) (hK : X.K = K := by rfl) : PE X (.Subscript o (.Constant (.int j) k p) pos) (tOp (rIxT K) to (tC (.int j))) := by
  subst hK
  exact ixc ho
theorem op_catK (hK : X.K = K := by rfl) : OpR X (binaryOp .Add) (rCatA K) := by
  subst hK
  exact op_catA
theorem sl_tupK (hK : X.K = K := by rfl) : SlR X (rSlA K) := by
  subst hK
  exact sl_tupA
theorem call_isK (hK : X.K = K := by rfl) : CallR X (.builtin "isinstance") (rIsi K) := by
  subst hK
  exact call_isi
theorem op_eqK (hu : X.A.units + 64 < cLine) (hK : X.K = K := by rfl) : OpR X (compareOp .Eq) (rEqD K) := by
  subst hK
  exact op_eqD hu
theorem op_neK (hu : X.A.units + 64 < cLine) (hK : X.K = K := by rfl) : OpR X (compareOp .NotEq) (rNeD K) := by
  subst hK
  exact op_neD hu
theorem op_inK (hu : X.A.units + 65 < cLine) (hK : X.K = K := by rfl) : OpR X (compareOp .In) (rInD K) := by
  subst hK
  exact op_inD hu
theorem op_notInK (hu : X.A.units + 65 < cLine) (hK : X.K = K := by rfl) : OpR X (compareOp .NotIn) (rNotInD K) := by
  subst hK
  exact op_notInD hu
theorem op_inSK (hK : X.K = K := by rfl) : OpR X (compareOp .In) (rIn K false) := by
  subst hK
  exact op_in_seq
theorem op_notInSK (hK : X.K = K := by rfl) : OpR X (compareOp .NotIn) (rIn K true) := by
  subst hK
  exact op_notIn_seq
end
end Sr
end
section
set_option Elab.async false
set_option linter.all false
set_option maxRecDepth 100000
set_option maxHeartbeats 4000000
/-! walks: reckoned, stretches -/
namespace Sr
open PySem PySem.Spec PyProof.Rows L2 SrM SrK
section
variable {P : Program} {w : World} {K : PySem.W.Frag} {mg : Str → Option Value} {base : Heap} {C0 : Addr}
/-! ### reckoned -/
theorem sc_reckoned : FnScope ["word", "one", "other"] ["word", "one", "other"] (defScope s_reckoned) := ⟨rfl, rfl, rfl, by decide +kernel, rfl, by decide +kernel, by decide +kernel⟩
def spReck : Sp := fun vs H Q _ => ∃ (u : Wd) (i j : Int), vs = [.str (wS u), .int i, .int j] ∧ inW i ∧ inW j ∧ (u = .quo → j ≠ 0) ∧ Q (.int (reck u i j)) H
theorem b2_int (b : Bool) : (b2i b : Int) = b2 b := by cases b <;> rfl
theorem ok_reckoned (T : Tx K mg) (G : FnG K mg "reckoned" s_reckoned) : Has P w K mg base 1 "reckoned" ["word", "one", "other"] spReck := by
  refine has_of (N := ["word", "one", "other"]) G sc_reckoned (fun _ _ _ _ _ _ us hl => match us, hl with | [_, _, _], _ => rfl) (fun vs H Q E h => ?_) (fun f cdv A outer s H vs Q E hr h => ?_)
  · obtain ⟨u, i, j, rfl, _⟩ := h
    rfl
  · obtain ⟨u, i, j, rfl, hi, hj, h0, q⟩ := h
    refine ⟨_, pss_cons (ps_if (pt_cmpR op_eq (pv 0) pe_str (nomark _)) (pss_one (ps_ret (pe_op op_add (pv 1) (pv 2)))) pss_nil)
      (pss_cons (ps_if (pt_cmpR op_eq (pv 0) pe_str (nomark _)) (pss_one (ps_ret (pe_op op_sub (pv 1) (pv 2)))) pss_nil)
      (pss_cons (ps_if (pt_cmpR op_eq (pv 0) pe_str (nomark _)) (pss_one (ps_ret (pe_op op_mul (pv 1) (pv 2)))) pss_nil)
      (pss_cons (ps_if (pt_cmpR op_eq (pv 0) pe_str (nomark _)) (pss_one (ps_ret (pe_op op_fdivN (pv 1) (pv 2)))) pss_nil)
      (pss_cons (ps_if (pt_cmpR op_eq (pv 0) pe_str (nomark _)) (pss_one (ps_ret (pe_callTy call_int1 (by rfl) T.int (by decide +kernel) (pa_cons (pe_cmp (pc_lt (pv 1) (pv 2)) rfl) pa_nil)))) pss_nil)
      (pss_cons (ps_if (pt_cmpR op_eq (pv 0) pe_str (nomark _)) (pss_one (ps_ret (pe_callTy call_int1 (by rfl) T.int (by decide +kernel) (pa_cons (pe_cmp (pc_eqI (pv 1) (pv 2)) rfl) pa_nil)))) pss_nil)
      (pss_one (ps_ret (pe_ifExp (pt_cmpR op_eq (pv 0) pe_str (nomark _)) (pe_callB (call_min2 rfl) (by rfl) T.min (by decide +kernel) (pa_cons (pv 1) (pa_cons (pv 2) pa_nil)))
        (pe_callB (call_max2 rfl) (by rfl) T.max (by decide +kernel) (pa_cons (pv 1) (pa_cons (pv 2) pa_nil))))))))))), ?_⟩
    unfold inW at hi hj
    cases u with
    | add => exact ⟨_, rfl, rfl, _, rfl, ifT (by decide +kernel) ⟨_, rfl, _, rfl, _, _, rfl, rfl, q⟩⟩
    | sub => exact ⟨_, rfl, rfl, _, rfl, ifF (by decide +kernel) ⟨_, rfl, rfl, _, rfl, ifT (by decide +kernel) ⟨_, rfl, _, rfl, _, _, rfl, rfl, q⟩⟩⟩
    | mul => exact ⟨_, rfl, rfl, _, rfl, ifF (by decide +kernel) ⟨_, rfl, rfl, _, rfl, ifF (by decide +kernel) ⟨_, rfl, rfl, _, rfl, ifT (by decide +kernel) ⟨_, rfl, _, rfl, _, _, rfl, rfl, .inl ⟨by omega, by omega⟩, q⟩⟩⟩⟩
    | quo => exact ⟨_, rfl, rfl, _, rfl, ifF (by decide +kernel) ⟨_, rfl, rfl, _, rfl, ifF (by decide +kernel) ⟨_, rfl, rfl, _, rfl, ifF (by decide +kernel) ⟨_, rfl, rfl, _, rfl, ifT (by decide +kernel) ⟨_, rfl, _, rfl, _, _, rfl, rfl, ⟨h0 rfl, by omega⟩, q⟩⟩⟩⟩⟩
    | less => exact ⟨_, rfl, rfl, _, rfl, ifF (by decide +kernel) ⟨_, rfl, rfl, _, rfl, ifF (by decide +kernel) ⟨_, rfl, rfl, _, rfl, ifF (by decide +kernel) ⟨_, rfl, rfl, _, rfl, ifF (by decide +kernel) ⟨_, rfl, rfl, _, rfl, ifT (by decide +kernel) ⟨_, rfl, _, rfl, _, _, rfl, rfl, .inr ⟨_, rfl, q⟩⟩⟩⟩⟩⟩⟩
    | same => exact ⟨_, rfl, rfl, _, rfl, ifF (by decide +kernel) ⟨_, rfl, rfl, _, rfl, ifF (by decide +kernel) ⟨_, rfl, rfl, _, rfl, ifF (by decide +kernel) ⟨_, rfl, rfl, _, rfl, ifF (by decide +kernel) ⟨_, rfl, rfl, _, rfl, ifF (by decide +kernel) ⟨_, rfl, rfl, _, rfl, ifT (by decide +kernel) ⟨_, rfl, _, rfl, _, _, rfl, rfl, .inr ⟨_, rfl, q⟩⟩⟩⟩⟩⟩⟩⟩
    | min => exact ⟨_, rfl, rfl, _, rfl, ifF (by decide +kernel) ⟨_, rfl, rfl, _, rfl, ifF (by decide +kernel) ⟨_, rfl, rfl, _, rfl, ifF (by decide +kernel) ⟨_, rfl, rfl, _, rfl, ifF (by decide +kernel) ⟨_, rfl, rfl, _, rfl, ifF (by decide +kernel) ⟨_, rfl, rfl, _, rfl, ifF (by decide +kernel) ⟨_, rfl, rfl, _, rfl, ifT (by decide +kernel) ⟨_, rfl, _, rfl, _, _, rfl, by rw [min_if]; exact q⟩⟩⟩⟩⟩⟩⟩⟩
    | max => exact ⟨_, rfl, rfl, _, rfl, ifF (by decide +kernel) ⟨_, rfl, rfl, _, rfl, ifF (by decide +kernel) ⟨_, rfl, rfl, _, rfl, ifF (by decide +kernel) ⟨_, rfl, rfl, _, rfl, ifF (by decide +kernel) ⟨_, rfl, rfl, _, rfl, ifF (by decide +kernel) ⟨_, rfl, rfl, _, rfl, ifF (by decide +kernel) ⟨_, rfl, rfl, _, rfl, ifF (by decide +kernel) ⟨_, rfl, _, rfl, _, _, rfl, by rw [max_if]; exact q⟩⟩⟩⟩⟩⟩⟩⟩
/-! ### joined, met -/
theorem sc_joined : FnScope ["one", "other"] ["one", "other"] (defScope s_joined) := ⟨rfl, rfl, rfl, by decide +kernel, rfl, by decide +kernel, by decide +kernel⟩
theorem sc_met : FnScope ["one", "other"] ["one", "other"] (defScope s_met) := ⟨rfl, rfl, rfl, by decide +kernel, rfl, by decide +kernel, by decide +kernel⟩
/-- two stretches or nothing; a stretch or nothing -/
def spO2 (K : PySem.W.Frag) (f : Option Sg → Option Sg → Option Sg) : Sp := fun vs H Q _ => ∃ (x y : V) (s t : Option Sg), vs = [x, y] ∧ IsO K H x s ∧ IsO K H y t ∧ ∀ v H', Same H H' → IsO K H' v (f s t) → Q v H'
theorem isO_some {K : PySem.W.Frag} {H : Hp} {v : V} {s : Sg} (h : IsO K H v (some s)) : ∃ a, v = .ref a ∧ TupK K H a [.int s.1, .int s.2] := h
theorem isO_none {K : PySem.W.Frag} {H : Hp} {v : V} (h : IsO K H v none) : v = .non := h
theorem two : 2 ≤ sizeLine := by decide
theorem ok_joined (T : Tx K mg) (G : FnG K mg "joined" s_joined) : Has P w K mg base 1 "joined" ["one", "other"] (spO2 K oJ) := by
  refine has_of (N := ["one", "other"]) G sc_joined (fun _ _ _ _ _ _ us hl => match us, hl with | [_, _], _ => rfl) (fun vs H Q E h => ?_) (fun f cdv A outer s0 H vs Q E hr h => ?_)
  · obtain ⟨x, y, s, t, rfl, _⟩ := h
    rfl
  · obtain ⟨x, y, s, t, rfl, hx, hy, q⟩ := h
    refine ⟨_, pss_cons (ps_if (PW.pt (pw_or (pt_cmpR op_isN (pv 0) pe_non (nomark _)) (pw_or1 (pt_cmpR op_isN (pv 1) pe_non (nomark _))))) (pss_one (ps_ret (pe_ifExp (pt_cmpR op_isN (pv 0) pe_non (nomark _)) (pv 1) (pv 0)))) pss_nil)
      (pss_one (ps_ret (pe_tup (pa_cons (pe_callB (call_min2 rfl) (by rfl) T.min (by decide +kernel) (pa_cons (pe_ix ix_tup (pv 0) pe_int (fun _ _ => rfl)) (pa_cons (pe_ix ix_tup (pv 1) pe_int (fun _ _ => rfl)) pa_nil)))
        (pa_cons (pe_callB (call_max2 rfl) (by rfl) T.max (by decide +kernel) (pa_cons (pe_ix ix_tup (pv 0) pe_int (fun _ _ => rfl)) (pa_cons (pe_ix ix_tup (pv 1) pe_int (fun _ _ => rfl)) pa_nil))) pa_nil))))), ?_⟩
    cases s with
    | none =>
      obtain rfl := isO_none hx
      exact ⟨_, rfl, rfl, _, rfl, ifT rfl (ifT rfl ⟨_, rfl, rfl, _, rfl, ifT rfl ⟨_, rfl, q _ _ (fun _ _ e => e) hy⟩⟩)⟩
    | some s =>
      obtain ⟨a, rfl, ha⟩ := isO_some hx
      refine ⟨_, rfl, rfl, _, rfl, ifF rfl ⟨_, rfl, rfl, _, rfl, ?_⟩⟩
      cases t with
      | none =>
        obtain rfl := isO_none hy
        exact ifT rfl ⟨_, rfl, rfl, _, rfl, ifF rfl ⟨_, rfl, q _ _ (fun _ _ e => e) hx⟩⟩
      | some t =>
        obtain ⟨b, rfl, hb⟩ := isO_some hy
        refine ifF rfl ⟨_, rfl, _, _, _, _, rfl, rfl, ha.sq, at0, _, rfl, _, _, _, _, rfl, rfl, hb.sq, at0, _, _, rfl, _, rfl, _, _, _, _, rfl, rfl, ha.sq, at1, _, rfl, _, _, _, _, rfl, rfl, hb.sq, at1, _, _, rfl, two, fun p hp => ?_⟩
        refine q _ _ (same_new hp) ⟨p, rfl, .inl ?_⟩
        rw [upd_same, min_if, max_if]
        rfl
def spM2 (K : PySem.W.Frag) : Sp := fun vs H Q _ => ∃ (x y : V) (s t : Option Sg), vs = [x, y] ∧ IsO K H x s ∧ IsOq K H y t ∧ ∀ v H', Same H H' → IsO K H' v (oM s t) → Q v H'
theorem isQ_some {K : PySem.W.Frag} {H : Hp} {v : V} {s : Sg} (h : IsOq K H v (some s)) : ∃ a, v = .ref a ∧ SqT K H a [.int s.1, .int s.2] := h
theorem isQ_none {K : PySem.W.Frag} {H : Hp} {v : V} (h : IsOq K H v none) : v = .non := h
theorem ok_met (T : Tx K mg) (G : FnG K mg "met" s_met) : Has P w K mg base 1 "met" ["one", "other"] (spM2 K) := by
  refine has_of (N := ["one", "other"]) G sc_met (fun _ _ _ _ _ _ us hl => match us, hl with | [_, _], _ => rfl) (fun vs H Q E h => ?_) (fun f cdv A outer s0 H vs Q E hr h => ?_)
  · obtain ⟨x, y, s, t, rfl, _⟩ := h
    rfl
  · obtain ⟨x, y, s, t, rfl, hx, hy, q⟩ := h
    refine ⟨_, pss_cons (ps_if (PW.pt (pw_or (pt_cmpR op_isN (pv 0) pe_non (nomark _)) (pw_or (pt_cmpR op_isN (pv 1) pe_non (nomark _))
        (pw_or1 (pt_cmpR op_gt (pe_callB (call_max2 rfl) (by rfl) T.max (by decide +kernel) (pa_cons (pe_ix ix_tup (pv 0) pe_int (fun _ _ => rfl)) (pa_cons (pe_ix ix_tup (pv 1) pe_int (fun _ _ => rfl)) pa_nil)))
          (pe_callB (call_min2 rfl) (by rfl) T.min (by decide +kernel) (pa_cons (pe_ix ix_tup (pv 0) pe_int (fun _ _ => rfl)) (pa_cons (pe_ix ix_tup (pv 1) pe_int (fun _ _ => rfl)) pa_nil))) (nomark _)))))) (pss_one (ps_ret pe_non)) pss_nil)
      (pss_one (ps_ret (pe_tup (pa_cons (pe_callB (call_max2 rfl) (by rfl) T.max (by decide +kernel) (pa_cons (pe_ix ix_tup (pv 0) pe_int (fun _ _ => rfl)) (pa_cons (pe_ix ix_tup (pv 1) pe_int (fun _ _ => rfl)) pa_nil)))
        (pa_cons (pe_callB (call_min2 rfl) (by rfl) T.min (by decide +kernel) (pa_cons (pe_ix ix_tup (pv 0) pe_int (fun _ _ => rfl)) (pa_cons (pe_ix ix_tup (pv 1) pe_int (fun _ _ => rfl)) pa_nil))) pa_nil))))), ?_⟩
    cases s with
    | none =>
      obtain rfl := isO_none hx
      exact ⟨_, rfl, rfl, _, rfl, ifT rfl (ifT rfl (q _ _ (fun _ _ e => e) rfl))⟩
    | some s =>
      obtain ⟨a, rfl, ha⟩ := isO_some hx
      refine ⟨_, rfl, rfl, _, rfl, ifF rfl ⟨_, rfl, rfl, _, rfl, ?_⟩⟩
      cases t with
      | none =>
        obtain rfl := isQ_none hy
        exact ifT rfl (ifT rfl (q _ _ (fun _ _ e => e) rfl))
      | some t =>
        obtain ⟨b, rfl, hb⟩ := isQ_some hy
        refine ifF rfl ⟨_, rfl, _, _, _, _, rfl, rfl, ha.sq, at0, _, rfl, _, _, _, _, rfl, rfl, hb, at0, _, _, rfl, _, rfl, _, _, _, _, rfl, rfl, ha.sq, at1, _, rfl, _, _, _, _, rfl, rfl, hb, at1, _, _, rfl, _, _, rfl, rfl, _, rfl, ?_⟩
        rw [min_if, max_if]
        refine ifC (fun c => ?_) fun c => ?_
        · have c := of_decide_eq_true c
          refine q _ _ (fun _ _ e => e) ?_
          show IsO K H .non (SrM.mt s t)
          rw [SrM.mt, if_pos c]
          rfl
        · have c := of_decide_eq_false c
          refine ⟨_, rfl, _, _, _, _, rfl, rfl, ha.sq, at0, _, rfl, _, _, _, _, rfl, rfl, hb, at0, _, _, rfl, _, rfl, _, _, _, _, rfl, rfl, ha.sq, at1, _, rfl, _, _, _, _, rfl, rfl, hb, at1, _, _, rfl, two, fun p hp => ?_⟩
          refine q _ _ (same_new hp) ?_
          show IsO K _ _ (SrM.mt s t)
          rw [SrM.mt, if_neg c]
          refine ⟨p, rfl, .inl ?_⟩
          rw [upd_same, min_if, max_if]
/-! ### is_within -/
theorem sc_is_within : FnScope ["one", "other"] ["one", "other"] (defScope s_is_within) := ⟨rfl, rfl, rfl, by decide +kernel, rfl, by decide +kernel, by decide +kernel⟩
def spIsWithin (K : PySem.W.Frag) : Sp := fun vs H Q _ => ∃ (x y : V) (s t : Sg), vs = [x, y] ∧ IsSt K H x s ∧ IsSt K H y t ∧ ∀ H', Same H H' → Q (.bl (decide (jn s t = t))) H'
theorem ok_is_within (J : Has P w K mg base 1 "joined" ["one", "other"] (spO2 K oJ)) (G : FnG K mg "is_within" s_is_within) : Has P w K mg base 2 "is_within" ["one", "other"] (spIsWithin K) := by
  refine has_of (N := ["one", "other"]) G sc_is_within (fun _ _ _ _ _ _ us hl => match us, hl with | [_, _], _ => rfl) (fun vs H Q E h => ?_) (fun f cdv A outer s0 H vs Q E hr h => ?_)
  · obtain ⟨x, y, s, t, rfl, _⟩ := h
    rfl
  · obtain ⟨x, y, s, t, rfl, hx, hy, q⟩ := h
    refine ⟨_, pss_one (ps_ret (pe_cmpR (op_eqD (hu64 hr)) (pe_callH J hr (by decide) (pa_cons (pv 0) (pa_cons (pv 1) pa_nil))) (pv 1) (nomark _))), ?_⟩
    refine ⟨_, rfl, _, rfl, x, y, some s, some t, rfl, hx, hy, fun v H1 s1 hv => ⟨_, rfl, _, _, dp_st hv, dp_st (hy.mono (.of_same s1)), shaped_path _, shaped_path _, ?_⟩⟩
    rw [eqv_st]
    exact q _ s1
/-! ### without_worth -/
theorem sc_without_worth : FnScope ["stretch", "worth", "low", "high"] ["stretch", "worth"] (defScope s_without_worth) := ⟨rfl, rfl, rfl, by decide +kernel, rfl, by decide +kernel, by decide +kernel⟩
def spWo (K : PySem.W.Frag) : Sp := fun vs H Q _ => ∃ (x : V) (s : Sg) (i : Int), vs = [x, .int i] ∧ IsSt K H x s ∧ ∀ v H', Same H H' → IsO K H' v (wo s i) → Q v H'
theorem ok_without_worth (G : FnG K mg "without_worth" s_without_worth) : Has P w K mg base 1 "without_worth" ["stretch", "worth"] (spWo K) := by
  refine has_of (N := ["stretch", "worth", "low", "high"]) G sc_without_worth (fun _ _ _ _ _ _ us hl => match us, hl with | [_, _], _ => rfl) (fun vs H Q E h => ?_) (fun f cdv A outer s0 H vs Q E hr h => ?_)
  · obtain ⟨x, s, i, rfl, _⟩ := h
    rfl
  · obtain ⟨x, s, i, rfl, hx, q⟩ := h
    obtain ⟨a, rfl, ha⟩ := hx
    refine ⟨_, pss_cons (ps_asg (pv 0) (pg_tup (by rfl) (pgs_cons (pg_name (i := 2) sc_without_worth.nd rfl (.inl rfl)) (pgs_cons (pg_name (i := 3) sc_without_worth.nd rfl (.inl rfl)) pgs_nil))))
      (pss_cons (ps_if (pt_cmpR op_eq (pv 2) (pv 1) (nomark _)) (pss_one (ps_set (i := 2) sc_without_worth.nd rfl (.inl rfl) (pe_op op_add (pv 2) pe_int))) pss_nil)
      (pss_cons (ps_if (pt_cmpR op_eq (pv 3) (pv 1) (nomark _)) (pss_one (ps_set (i := 3) sc_without_worth.nd rfl (.inl rfl) (pe_op op_sub (pv 3) pe_int))) pss_nil)
      (pss_one (ps_ret (pe_ifExp (pt_cmpR op_le (pv 2) (pv 3) (nomark _)) (pe_tup (pa_cons (pv 2) (pa_cons (pv 3) pa_nil))) pe_non))))), ?_⟩
    refine ⟨_, rfl, _, _, rfl, ha.sq, rfl, _, _, rfl, _, _, rfl, rfl, ?_⟩
    refine ⟨_, rfl, _, rfl, rfl, _, rfl, ifC (fun c1 => ⟨_, rfl, _, _, rfl, rfl, ?_⟩) (fun c1 => ?_)⟩
    all_goals refine ⟨_, rfl, _, rfl, rfl, _, rfl, ifC (fun c2 => ⟨_, rfl, _, _, rfl, rfl, ?_⟩) (fun c2 => ?_)⟩
    all_goals refine ⟨_, rfl, _, rfl, _, _, rfl, rfl, _, rfl, ifC (fun c => ⟨_, rfl, _, rfl, two, fun p hp => q _ _ (same_new hp) ?_⟩) (fun c => q _ _ (Same.refl _) ?_)⟩
    all_goals
      rw [dec_ii] at c1 c2
      unfold wo
      first
        | rw [if_pos (of_decide_eq_true c1)]
        | rw [if_neg (of_decide_eq_false c1)]
      first
        | rw [if_pos (of_decide_eq_true c2)]
        | rw [if_neg (of_decide_eq_false c2)]
      first
        | (rw [if_pos (of_decide_eq_true c)]
           exact ⟨_, rfl, .inl upd_same⟩)
        | (rw [if_neg (of_decide_eq_false c)]
           rfl)
end
end Sr
end
section
set_option Elab.async false
set_option linter.all false
set_option maxRecDepth 100000
set_option maxHeartbeats 4000000
/-! walks: by_ends, divided, asked, stretch_of -/
namespace Sr
open PySem PySem.Spec PyProof.Rows L2 SrM SrK
/-- a wide stretch -/
def Wi (s : Sg) : Prop := -32768 ≤ s.1 ∧ s.1 ≤ s.2 ∧ s.2 ≤ 32767
theorem Wi.l {s : Sg} (h : Wi s) : inW s.1 := by unfold Wi at h; unfold inW; omega
theorem Wi.r {s : Sg} (h : Wi s) : inW s.2 := by unfold Wi at h; unfold inW; omega
theorem small_line {n : Nat} (h : n ≤ 1000) : n < sizeLine := small1000 h
section
variable {P : Program} {w : World} {K : PySem.W.Frag} {mg : Str → Option Value} {base : Heap} {C0 : Addr}
theorem sc_by_ends : FnScope ["word", "one", "other", "worths", "mine", "yours"] ["word", "one", "other"] (defScope s_by_ends) := ⟨rfl, rfl, rfl, by decide +kernel, rfl, by decide +kernel, by decide +kernel⟩
def spByEnds (K : PySem.W.Frag) : Sp := fun vs H Q _ => ∃ (u : Wd) (x y : V) (s t : Sg), vs = [.str (wS u), x, y] ∧ IsSt K H x s ∧ IsSt K H y t ∧ Wi s ∧ Wi t ∧ (u = .quo → t.1 ≠ 0 ∧ t.2 ≠ 0) ∧ ∀ v H', Same H H' → IsSt K H' v (bE u s t) → Q v H'
def endsL (u : Wd) (s t : Sg) : List Int := [reck u s.1 t.1, reck u s.1 t.2, reck u s.2 t.1, reck u s.2 t.2]
theorem ok_by_ends (T : Tx K mg) (R : Has P w K mg base 1 "reckoned" ["word", "one", "other"] spReck) (G : FnG K mg "by_ends" s_by_ends) : Has P w K mg base 2 "by_ends" ["word", "one", "other"] (spByEnds K) := by
  refine has_of (N := ["word", "one", "other", "worths", "mine", "yours"]) G sc_by_ends (fun _ _ _ _ _ _ us hl => match us, hl with | [_, _, _], _ => rfl) (fun vs H Q E h => ?_) (fun f cdv A outer s0 H vs Q E hr h => ?_)
  · obtain ⟨u, x, y, s, t, rfl, _⟩ := h
    rfl
  · obtain ⟨u, x, y, s, t, rfl, hx, hy, ws, wt, h0, q⟩ := h
    obtain ⟨a, rfl, ha⟩ := hx
    obtain ⟨b, rfl, hb⟩ := hy
    refine ⟨_, pss_cons (ps_set (i := 3) sc_by_ends.nd rfl (.inl rfl) (pe_lst pa_nil))
      (pss_cons (ps_for PassesOwn.never rfl (pi_tup (pv 1)) (pg_name (i := 4) sc_by_ends.nd rfl (.inr rfl))
        (pss_one (ps_expr (pe_bm PySem.F.plainAttrs_list PySem.F.slot_list_extend PySem.F.type_list_extend mt_extend (pv 3)
          (pa_cons (pe_lc (own := [("yours", 5)]) (g := gName 5) (tt := tYes) rfl sc_by_ends.nd (pi_tup (pv 2)) (blkOk_by (N := ["word", "one", "other", "worths", "mine", "yours"]) (sc := defScope s_by_ends) (by decide +kernel))
            (fun _ _ _ _ _ => pg_name (i := 5) sc_by_ends.nd rfl (.inl rfl)) (fun _ _ _ _ _ => pts_nil)
            (fun _ _ _ _ _ => pe_callH R hr (by decide) (pa_cons (pv 0) (pa_cons (pv 4) (pa_cons (pv 5) pa_nil))))) pa_nil)))))
      (pss_one (ps_ret (pe_tup (pa_cons (pe_callB (cr_min rfl) (by rfl) T.min (by decide +kernel) (pa_cons (pv 3) pa_nil)) (pa_cons (pe_callB (cr_max rfl) (by rfl) T.max (by decide +kernel) (pa_cons (pv 3) pa_nil)) pa_nil)))))), ?_⟩
    refine ⟨Nat.zero_le _, fun l hl => ?_⟩
    have sl : Same H (upd H l (.lst [])) := same_new hl
    refine ⟨_, rfl, a, rfl, ⟨_, (ha.mono (.of_same sl)).sq⟩, for_tup (K := K) (a := a) (xs := [.int s.1, .int s.2]) (fun i σ H' => ∃ z y, σ = [some (.str (wS u)), some (.ref a), some (.ref b), some (.ref l), z, y] ∧ Same H H' ∧ H' l = some (.lst (((endsL u s t).take (2 * i)).map V.int)))
      ⟨none, none, rfl, sl, upd_same⟩ (fun i σ H' _ ⟨_, _, _, s1, _⟩ => (ha.mono (.of_same s1)).sq) ?_ ?_⟩
    · intro i x σ H' hi ⟨z, y, e, s1, e1⟩
      subst e
      have hm : ∃ m, x = .int m ∧ inW m ∧ ((endsL u s t).take (2 * i)) ++ [reck u m t.1, reck u m t.2] = (endsL u s t).take (2 * (i + 1)) ∧ ((endsL u s t).take (2 * i)).length ≤ 2 := by
        match i, hi with
        | 0, hi => exact ⟨s.1, by simpa using hi.symm, ws.l, rfl, Nat.zero_le 2⟩
        | 1, hi => exact ⟨s.2, by simpa using hi.symm, ws.r, rfl, Nat.le_refl 2⟩
        | i + 2, hi => simp at hi
      obtain ⟨m, rfl, wm, hm, hn⟩ := hm
      refine ⟨_, rfl, .inl ⟨rfl, _, .inl (.inl e1)⟩, ?_⟩
      have hb1 : TupK K H' b [.int t.1, .int t.2] := hb.mono (.of_same s1)
      refine ⟨_, rfl, b, rfl, ⟨_, hb1.sq⟩, fun D hD => ?_⟩
      have sD : Same H' (upd H' D (.lst [])) := same_new hD
      have nl : l ≠ D := ne_of_none e1 hD
      refine lc_tup (K := K) (a := b) (xs := [.int t.1, .int t.2]) (fun j H2 => H2 = upd H' D (.lst (([reck u m t.1, reck u m t.2].take j).map V.int))) rfl (fun j H2 _ e => by subst e; exact (hb1.mono (.of_same (same_new hD))).sq) ?_ ?_
      · intro j x H2 hj e
        subst e
        have hm : ∃ n, x = .int n ∧ inW n ∧ (u = .quo → n ≠ 0) ∧ ([reck u m t.1, reck u m t.2].take j) ++ [reck u m n] = [reck u m t.1, reck u m t.2].take (j + 1) ∧ ([reck u m t.1, reck u m t.2].take j).length ≤ 2 := by
          match j, hj with
          | 0, hi => exact ⟨t.1, by simpa using hi.symm, wt.l, fun e => (h0 e).1, rfl, Nat.zero_le 2⟩
          | 1, hi => exact ⟨t.2, by simpa using hi.symm, wt.r, fun e => (h0 e).2, rfl, Nat.le_succ 1⟩
          | j + 2, hi => simp at hi
        obtain ⟨n, rfl, wn, n0, hm', hn'⟩ := hm
        refine ⟨rfl, _, rfl, _, rfl, _, rfl, u, m, n, rfl, wm, wn, n0, _, upd_same, small_line (by rw [List.length_map]; omega), ?_⟩
        rw [upd_upd, ← hm', List.map_append]
        rfl
      · intro H2 e
        subst e
        refine ⟨l, D, _, _, rfl, rfl, by rw [upd_ne nl]; exact e1, upd_same, Nat.le_of_lt (small_line (by rw [List.length_map, List.length_map]; simp only [List.take_succ_cons, List.take_zero, List.length_cons, List.length_nil]; omega)), ?_⟩
        refine ⟨_, _, rfl, fun c o ec => ?_, ?_⟩
        · rw [upd_ne (fun z => by rw [z, hl] at ec; cases ec), upd_ne (ne_of_none (s1 _ _ ec) hD)]
          exact s1 _ _ ec
        · rw [upd_same, ← hm, List.map_append]
          rfl
    · intro σ H' ⟨z, y, e, s1, e1⟩
      subst e
      have hL : (endsL u s t).take (2 * [V.int s.1, V.int s.2].length) = endsL u s t := rfl
      rw [hL] at e1
      refine ⟨_, rfl, l, endsL u s t, rfl, .inl (.inl e1), Nat.succ_pos 3, fun m1 i1 l1 => ⟨_, rfl, l, endsL u s t, rfl, .inl (.inl e1), Nat.succ_pos 3, fun m2 i2 l2 => ⟨two, fun p hp => ?_⟩⟩⟩
      refine q _ _ (s1.trans (same_new hp)) ⟨p, rfl, .inl ?_⟩
      have em1 : m1 = (bE u s t).1 := by
        simp only [endsL, List.mem_cons, List.not_mem_nil, or_false, forall_eq_or_imp, forall_eq] at i1 l1
        show m1 = min (min _ _) (min _ _)
        omega
      have em2 : m2 = (bE u s t).2 := by
        simp only [endsL, List.mem_cons, List.not_mem_nil, or_false, forall_eq_or_imp, forall_eq] at i2 l2
        show m2 = max (max _ _) (max _ _)
        omega
      rw [upd_same, em1, em2]
/-! ### asked -/
theorem sc_asked : FnScope ["word", "one", "other", "together"] ["word", "one", "other"] (defScope s_asked) := ⟨rfl, rfl, rfl, by decide +kernel, rfl, by decide +kernel, by decide +kernel⟩
def askA (u : Wd) (s t : Sg) : Sg := if u = .less then askL s t else askS s t
def spAsked (K : PySem.W.Frag) : Sp := fun vs H Q _ => ∃ (u : Wd) (x y : V) (s t : Sg), vs = [.str (wS u), x, y] ∧ IsSt K H x s ∧ IsSt K H y t ∧ ∀ v H', Same H H' → IsSt K H' v (askA u s t) → Q v H'
theorem ok_asked (T : Tx K mg) (M : Has P w K mg base 1 "met" ["one", "other"] (spM2 K)) (G : FnG K mg "asked" s_asked) : Has P w K mg base 2 "asked" ["word", "one", "other"] (spAsked K) := by
  refine has_of (N := ["word", "one", "other", "together"]) G sc_asked (fun _ _ _ _ _ _ us hl => match us, hl with | [_, _, _], _ => rfl) (fun vs H Q E h => ?_) (fun f cdv A outer s0 H vs Q E hr h => ?_)
  · obtain ⟨u, x, y, s, t, rfl, _⟩ := h
    rfl
  · obtain ⟨u, x, y, s, t, rfl, hx, hy, q⟩ := h
    have hxs := hx
    have hys := hy
    obtain ⟨a, rfl, ha⟩ := hx
    obtain ⟨b, rfl, hb⟩ := hy
    refine ⟨_, pss_cons (ps_if (pt_cmpR op_eq (pv 0) pe_str (nomark _)) (pss_one (ps_ret (pe_tup
        (pa_cons (pe_callTy call_int1 (by rfl) T.int (by decide +kernel) (pa_cons (pe_cmp (pc_lt (pe_ix ix_tup (pv 1) pe_int (fun _ _ => rfl)) (pe_ix ix_tup (pv 2) pe_int (fun _ _ => rfl))) rfl) pa_nil))
        (pa_cons (pe_callTy call_int1 (by rfl) T.int (by decide +kernel) (pa_cons (pe_cmp (pc_lt (pe_ix ix_tup (pv 1) pe_int (fun _ _ => rfl)) (pe_ix ix_tup (pv 2) pe_int (fun _ _ => rfl))) rfl) pa_nil)) pa_nil))))) pss_nil)
      (pss_cons (ps_set (i := 3) sc_asked.nd rfl (.inl rfl) (pe_callH M hr (by decide) (pa_cons (pv 1) (pa_cons (pv 2) pa_nil))))
      (pss_one (ps_ret (pe_tup
        (pa_cons (pe_callTy call_int1 (by rfl) T.int (by decide +kernel) (pa_cons (pe_and (pe_cmp (pc_eqI (pe_ix ix_tup (pv 1) pe_int (fun _ _ => rfl)) (pe_ix ix_tup (pv 1) pe_int (fun _ _ => rfl))) rfl) (pe_one (pe_cmpR (op_eqD (hu64 hr)) (pv 1) (pv 2) (nomark _)))) pa_nil))
        (pa_cons (pe_callTy call_int1 (by rfl) T.int (by decide +kernel) (pa_cons (pe_cmpR op_notN (pv 3) pe_non (nomark _)) pa_nil)) pa_nil)))))), ?_⟩
    refine ⟨_, rfl, rfl, _, rfl, ?_⟩
    rw [show decide (V.str (wS u) = V.str "less") = decide (u = .less) from dec_ww u .less]
    refine ifC (fun c => ?_) fun c => ?_
    · have c := of_decide_eq_true c
      refine ⟨_, rfl, _, _, _, _, rfl, rfl, ha.sq, at1, _, rfl, _, _, _, _, rfl, rfl, hb.sq, at0, _, _, rfl, rfl, .inr ⟨_, rfl, _, rfl, _, _, _, _, rfl, rfl, ha.sq, at0, _, rfl, _, _, _, _, rfl, rfl, hb.sq, at1, _, _, rfl, rfl, .inr ⟨_, rfl, two, fun p hp => ?_⟩⟩⟩
      refine q _ _ (same_new hp) ⟨p, rfl, .inl ?_⟩
      rw [upd_same, askA, if_pos c]
      rfl
    · have c := of_decide_eq_false c
      refine ⟨_, rfl, _, rfl, _, _, some s, some t, rfl, hxs, IsO.q (o := some t) hys, fun m H1 s1 hm => ?_⟩
      have ha1 := ha.mono (.of_same s1)
      have fin : ∀ (k : Bool), k = decide (s.1 = s.2 ∧ s = t) → ∀ p, H1 p = none → Q (.ref p) (upd H1 p (.tup [.int (b2i k), .int (b2i (!decide (m = .non)))])) := fun k hk p hp => by
        refine q _ _ (s1.trans (same_new hp)) ⟨p, rfl, .inl ?_⟩
        rw [upd_same, askA, if_neg c, b2_int, b2_int, hk, isO_non hm]
        show some (HO.tup [V.int _, V.int (b2 (!(SrM.mt s t).isNone))]) = _
        rw [show (!(SrM.mt s t).isNone) = (SrM.mt s t).isSome by cases SrM.mt s t <;> rfl]
        rfl
      refine ⟨_, rfl, _, _, _, _, rfl, rfl, ha1.sq, at0, _, rfl, _, _, _, _, rfl, rfl, ha1.sq, at1, _, _, rfl, rfl, _, rfl, ifC (fun c1 => ⟨_, rfl, _, rfl, _, _, dp_st (hxs.mono (.of_same s1)), dp_st (hys.mono (.of_same s1)), shaped_path _, shaped_path _, ?_⟩) (fun c1 => ?_)⟩
      · rw [eqv_st]
        refine .inr ⟨_, rfl, _, rfl, rfl, .inr ⟨_, rfl, two, fun p hp => fin _ ?_ p hp⟩⟩
        simp [of_decide_eq_true c1]
      · refine .inr ⟨_, rfl, _, rfl, rfl, .inr ⟨_, rfl, two, fun p hp => fin _ ?_ p hp⟩⟩
        simp [of_decide_eq_false c1]
/-! ### divided -/
theorem sc_divided : FnScope ["one", "other", "made", "part"] ["one", "other"] (defScope s_divided) := ⟨rfl, rfl, rfl, by decide +kernel, rfl, by decide +kernel, by decide +kernel⟩
def spDivided (K : PySem.W.Frag) : Sp := fun vs H Q _ => ∃ (x y : V) (s t : Sg), vs = [x, y] ∧ IsSt K H x s ∧ IsSt K H y t ∧ Wi s ∧ Wi t ∧ ∀ v H', Same H H' → IsO K H' v (dv s t) → Q v H'
def parts (t : Sg) : Nat → Option Sg
  | 0 => SrM.mt t (min t.1 (-1), -1)
  | _ => SrM.mt t (1, max t.2 1)
def dvAcc (s t : Sg) : Nat → Option Sg
  | 0 => none
  | i + 1 => oJ (dvAcc s t i) ((parts t i).map (bE .quo s))
theorem oJ_none (o : Option Sg) : oJ o none = o := by cases o <;> rfl
theorem parts_ok {t : Sg} (h : Wi t) {i : Nat} {u : Sg} (e : parts t i = some u) : Wi u ∧ u.1 ≠ 0 ∧ u.2 ≠ 0 := by
  unfold Wi at *
  cases i with
  | zero =>
    have := mt_sub e
    simp only at this
    refine ⟨⟨?_, ?_, ?_⟩, ?_, ?_⟩ <;> omega
  | succ i =>
    have := mt_sub e
    simp only at this
    refine ⟨⟨?_, ?_, ?_⟩, ?_, ?_⟩ <;> omega
theorem ok_divided (T : Tx K mg) (J : Has P w K mg base 1 "joined" ["one", "other"] (spO2 K oJ)) (M : Has P w K mg base 1 "met" ["one", "other"] (spM2 K)) (B : Has P w K mg base 2 "by_ends" ["word", "one", "other"] (spByEnds K)) (G : FnG K mg "divided" s_divided) : Has P w K mg base 3 "divided" ["one", "other"] (spDivided K) := by
  refine has_of (N := ["one", "other", "made", "part"]) G sc_divided (fun _ _ _ _ _ _ us hl => match us, hl with | [_, _], _ => rfl) (fun vs H Q E h => ?_) (fun f cdv A outer s0 H vs Q E hr h => ?_)
  · obtain ⟨x, y, s, t, rfl, _⟩ := h
    rfl
  · obtain ⟨x, y, s, t, rfl, hx, hy, ws, wt, q⟩ := h
    have hxs := hx
    have hys := hy
    obtain ⟨a, rfl, ha⟩ := hx
    obtain ⟨b, rfl, hb⟩ := hy
    refine ⟨_, pss_cons (ps_set (i := 2) sc_divided.nd rfl (.inl rfl) pe_non)
      (pss_cons (ps_for PassesOwn.never rfl (pi_tup (pe_tup
          (pa_cons (pe_callH M hr (by decide) (pa_cons (pv 1) (pa_cons (pe_tup (pa_cons (pe_callB (call_min2 rfl) (by rfl) T.min (by decide +kernel) (pa_cons (pe_ix ix_tup (pv 1) pe_int (fun _ _ => rfl)) (pa_cons (pe_un un_neg pe_int) pa_nil))) (pa_cons (pe_un un_neg pe_int) pa_nil))) pa_nil)))
          (pa_cons (pe_callH M hr (by decide) (pa_cons (pv 1) (pa_cons (pe_tup (pa_cons pe_int (pa_cons (pe_callB (call_max2 rfl) (by rfl) T.max (by decide +kernel) (pa_cons (pe_ix ix_tup (pv 1) pe_int (fun _ _ => rfl)) (pa_cons pe_int pa_nil))) pa_nil))) pa_nil))) pa_nil))))
          (pg_name (i := 3) sc_divided.nd rfl (.inl rfl))
        (pss_one (ps_if (pt_cmpR op_notN (pv 3) pe_non (nomark _))
          (pss_one (ps_set (i := 2) sc_divided.nd rfl (.inl rfl) (pe_callH J hr (by decide) (pa_cons (pv 2) (pa_cons (pe_callH B hr (by decide) (pa_cons pe_str (pa_cons (pv 0) (pa_cons (pv 3) pa_nil)))) pa_nil))))) pss_nil)))
      (pss_one (ps_ret (pv 2)))), ?_⟩
    refine ⟨_, rfl, _, rfl, _, _, _, _, rfl, rfl, hb.sq, at0, _, rfl, _, _, rfl, _, rfl, two, fun p hp => ?_⟩
    have s1 := same_new (o := HO.tup [V.int (if -1 < t.1 then -1 else t.1), V.int (-1)]) hp
    refine ⟨_, _, some t, some (min t.1 (-1), -1), rfl, hys.mono (.of_same s1), IsO.q (o := some (min t.1 (-1), -1)) ⟨p, rfl, .inl (by rw [upd_same, min_if])⟩, fun v1 H1 s2 h1 => ?_⟩
    have s2 := s1.trans s2
    have hb2 := hb.mono (.of_same s2)
    refine ⟨_, rfl, _, rfl, _, _, _, _, rfl, rfl, hb2.sq, at1, _, _, rfl, two, fun p2 hp2 => ?_⟩
    have s3 := same_new (o := HO.tup [V.int 1, V.int (if 1 > t.2 then 1 else t.2)]) hp2
    refine ⟨_, _, some t, some (1, max t.2 1), rfl, (hys.mono (.of_same s2)).mono (.of_same s3), IsO.q (o := some (1, max t.2 1)) ⟨p2, rfl, .inl (by rw [upd_same, max_if])⟩, fun v2 H2 s4 h2 => ?_⟩
    have h1' : IsO K H2 v1 (parts t 0) := (h1.mono (.of_same s3)).mono (.of_same s4)
    have s4 := (s2.trans s3).trans s4
    refine ⟨two, fun p3 hp3 => ?_⟩
    have s5 := s4.trans (same_new (o := HO.tup [v1, v2]) hp3)
    refine ⟨p3, rfl, ⟨_, .inl (.inl upd_same)⟩, for_tup (K := K) (a := p3) (xs := [v1, v2]) (fun i σ H' => ∃ m z, σ = [some (.ref a), some (.ref b), some m, z] ∧ Same H H' ∧ H' p3 = some (.tup [v1, v2]) ∧ IsO K H' m (dvAcc s t i) ∧ IsO K H' v1 (parts t 0) ∧ IsO K H' v2 (parts t 1))
      ⟨.non, none, rfl, s5, upd_same, rfl, h1'.mono (.new hp3), IsO.mono (.new hp3) h2⟩ (fun i σ H' _ ⟨_, _, _, _, e, _⟩ => .inl (.inl e)) ?_ ?_⟩
    · intro i x σ H' hi ⟨m, z, e, s6, e3, hm, g1, g2⟩
      subst e
      have hx : IsO K H' x (parts t i) ∧ i < 2 := by
        match i, hi with
        | 0, hi => exact ⟨by have : v1 = x := by simpa using hi
                             rw [← this]; exact g1, by decide⟩
        | 1, hi => exact ⟨by have : v2 = x := by simpa using hi
                             rw [← this]; exact g2, by decide⟩
        | i + 2, hi => simp at hi
      obtain ⟨hx, _⟩ := hx
      refine ⟨_, rfl, rfl, _, rfl, ?_⟩
      rw [isO_non hx]
      cases ep : parts t i with
      | none =>
        refine ifF rfl ⟨m, some x, rfl, s6, e3, ?_, g1, g2⟩
        show IsO K H' m (oJ (dvAcc s t i) ((parts t i).map (bE .quo s)))
        rw [ep]
        show IsO K H' m (oJ (dvAcc s t i) none)
        rw [oJ_none]
        exact hm
      | some u =>
        rw [ep] at hx
        obtain ⟨wu, n1, n2⟩ := parts_ok wt ep
        refine ifT rfl ⟨_, rfl, _, rfl, _, rfl, .quo, _, _, s, u, rfl, hxs.mono (.of_same s6), hx, ws, wu, fun _ => ⟨n1, n2⟩, fun y H6 s7 hy => ?_⟩
        refine ⟨_, _, dvAcc s t i, some (bE .quo s u), rfl, hm.mono (.of_same s7), hy, fun r H7 s8 hr => ?_⟩
        refine ⟨r, some x, rfl, (s6.trans s7).trans s8, s8 _ _ (s7 _ _ e3), ?_, (g1.mono (.of_same s7)).mono (.of_same s8), (g2.mono (.of_same s7)).mono (.of_same s8)⟩
        show IsO K H7 r (oJ (dvAcc s t i) ((parts t i).map (bE .quo s)))
        rw [ep]
        exact hr
    · intro σ H' ⟨m, z, e, s6, e3, hm, g1, g2⟩
      subst e
      exact ⟨_, rfl, q _ _ s6 hm⟩
/-! ### stretch_of -/
theorem sc_stretch_of : FnScope ["word", "one", "other"] ["word", "one", "other"] (defScope s_stretch_of) := ⟨rfl, rfl, rfl, by decide +kernel, rfl, by decide +kernel, by decide +kernel⟩
def WiO (o : Option Sg) : Prop := ∀ s, o = some s → Wi s
def spStOf (K : PySem.W.Frag) : Sp := fun vs H Q _ => ∃ (u : Wd) (x y : V) (s t : Option Sg), vs = [.str (wS u), x, y] ∧ IsO K H x s ∧ IsO K H y t ∧ WiO s ∧ WiO t ∧ ∀ v H', Same H H' → IsO K H' v (stOf u s t) → Q v H'
theorem ok_stretch_of (T : Tx K mg) (D : Has P w K mg base 3 "divided" ["one", "other"] (spDivided K)) (A' : Has P w K mg base 2 "asked" ["word", "one", "other"] (spAsked K)) (B : Has P w K mg base 2 "by_ends" ["word", "one", "other"] (spByEnds K)) (G : FnG K mg "stretch_of" s_stretch_of) : Has P w K mg base 4 "stretch_of" ["word", "one", "other"] (spStOf K) := by
  refine has_of (N := ["word", "one", "other"]) G sc_stretch_of (fun _ _ _ _ _ _ us hl => match us, hl with | [_, _, _], _ => rfl) (fun vs H Q E h => ?_) (fun f cdv A outer s0 H vs Q E hr h => ?_)
  · obtain ⟨u, x, y, s, t, rfl, _⟩ := h
    rfl
  · obtain ⟨u, x, y, s, t, rfl, hx, hy, ws, wt, q⟩ := h
    refine ⟨_, pss_cons (ps_if (PW.pt (pw_or (pt_cmpR op_isN (pv 1) pe_non (nomark _)) (pw_or1 (pt_cmpR op_isN (pv 2) pe_non (nomark _))))) (pss_one (ps_ret pe_non)) pss_nil)
      (pss_cons (ps_if (pt_cmpR op_eq (pv 0) pe_str (nomark _)) (pss_one (ps_ret (pe_callH D hr (by decide) (pa_cons (pv 1) (pa_cons (pv 2) pa_nil))))) pss_nil)
      (pss_cons (ps_if (pt_cmpR op_in_seq (pv 0) (pe_tup (pa_cons pe_str (pa_cons pe_str pa_nil))) (by rfl)) (pss_one (ps_ret (pe_callH A' hr (by decide) (pa_cons (pv 0) (pa_cons (pv 1) (pa_cons (pv 2) pa_nil)))))) pss_nil)
      (pss_one (ps_ret (pe_callH B hr (by decide) (pa_cons (pv 0) (pa_cons (pv 1) (pa_cons (pv 2) pa_nil)))))))), ?_⟩
    cases s with
    | none =>
      obtain rfl := isO_none hx
      refine ⟨_, rfl, rfl, _, rfl, ifT rfl ?_⟩
      refine ifT rfl ?_
      exact q _ _ (Same.refl _) rfl
    | some s =>
      obtain ⟨a, rfl, ha⟩ := isO_some hx
      refine ⟨_, rfl, rfl, _, rfl, ifF rfl ⟨_, rfl, rfl, _, rfl, ?_⟩⟩
      cases t with
      | none =>
        obtain rfl := isO_none hy
        refine ifT rfl ?_
        exact q _ _ (Same.refl _) rfl
      | some t =>
        obtain ⟨b, rfl, hb⟩ := isO_some hy
        have ws := ws s rfl
        have wt := wt t rfl
        refine ifF rfl ?_
        refine ⟨_, rfl, rfl, _, rfl, ?_⟩
        rw [show decide (V.str (wS u) = V.str "quo") = decide (u = .quo) from dec_ww u .quo]
        refine ifC (fun c => ?_) fun c => ?_
        · have c := of_decide_eq_true c
          subst c
          exact ⟨_, rfl, _, rfl, _, _, s, t, rfl, hx, hy, ws, wt, fun v H1 s1 h1 => q _ _ s1 h1⟩
        · have c := of_decide_eq_false c
          refine ⟨_, rfl, two, fun p hp => ⟨p, [.str "less", .str "same"], rfl, .inr (.inl (.inl upd_same)), rfl, rfl, _, rfl, ?_⟩⟩
          have sp : Same H (upd H p (.tup [.str "less", .str "same"])) := same_new hp
          have hin : inV (V.str (wS u)) [V.str "less", V.str "same"] = (decide (u = .less) || decide (u = .same)) := by
            cases u <;> decide +kernel
          show if inV (V.str (wS u)) [V.str "less", V.str "same"] = true then _ else _
          rw [hin]
          refine ifC (fun c1 => ?_) fun c1 => ?_
          · refine ⟨_, rfl, _, rfl, _, rfl, u, _, _, s, t, rfl, IsSt.mono (.of_same sp) hx, IsSt.mono (.of_same sp) hy, fun v H1 s1 h1 => q _ _ (sp.trans s1) ?_⟩
            simp only [Bool.or_eq_true, decide_eq_true_eq] at c1
            rcases c1 with rfl | rfl
            · exact h1
            · exact h1
          · refine ⟨_, rfl, _, rfl, _, rfl, u, _, _, s, t, rfl, IsSt.mono (.of_same sp) hx, IsSt.mono (.of_same sp) hy, ws, wt, fun z => absurd z c, fun v H1 s1 h1 => q _ _ (sp.trans s1) ?_⟩
            simp only [Bool.or_eq_false_iff, decide_eq_false_iff_not] at c1
            show IsO K H1 v (stO u s t)
            cases u with
            | quo => exact absurd rfl c
            | less => exact absurd rfl c1.1
            | same => exact absurd rfl c1.2
            | add => exact h1
            | sub => exact h1
            | mul => exact h1
            | min => exact h1
            | max => exact h1
end
end Sr
end
section
set_option Elab.async false
set_option linter.all false
set_option maxRecDepth 100000
set_option maxHeartbeats 4000000
/-! walks: reckoned_from, kept_to, unlike_to, behind -/
namespace Sr
open PySem PySem.Spec PyProof.Rows L2 SrM SrK
theorem rk_wi {Kn : Nm → Prop} {bk : Bk Sg} (hb : wideB bk) : ∀ {e : Ex}, wfE Kn e → WiO (rk bk e)
  | .num n, h, s, e => by
    have h : inW n := h
    have e : some (n, n) = some s := e
    injection e with e
    subst e
    unfold inW at h
    exact ⟨h.1, Int.le_refl _, h.2⟩
  | .name x, h, s, e => hb x s e
  | .bin w l r, h, s, e => by
    have e : oM (stOf w (rk bk l) (rk bk r)) (some WW) = some s := e
    cases q : stOf w (rk bk l) (rk bk r) with
    | none => rw [q] at e; cases e
    | some t =>
      rw [q] at e
      have := mt_sub (s := t) (t := WW) e
      simp only [WW] at this
      exact ⟨this.2.1, this.2.2.2.2, this.2.2.2.1⟩
theorem sq_of {K : PySem.W.Frag} {H : Hp} {a : Addr} {xs : List V} (h : H a = some (.tup xs)) : SqT K H a xs := .inl (.inl h)
theorem wi00 : Wi (0, 0) := by unfold Wi; decide
section
variable {P : Program} {w : World} {K : PySem.W.Frag} {mg : Str → Option Value} {base : Heap} {C0 : Addr}
/-! ### reckoned_from -/
theorem sc_reckoned_from : FnScope ["expr", "book"] ["expr", "book"] (defScope s_reckoned_from) := ⟨rfl, rfl, rfl, by decide +kernel, rfl, by decide +kernel, by decide +kernel⟩
def spRf (K : PySem.W.Frag) (n : Nat) : Sp := fun vs H Q _ => ∃ (x : V) (d : Addr) (e : Ex) (bk : Bk Sg) (Kn : Nm → Prop), vs = [x, .ref d] ∧ IsEx H x e ∧ dpE e ≤ n ∧ BkAt K H d bk ∧ wideB bk ∧ wfE Kn e ∧ inDom Kn bk ∧ ∀ v H', Same H H' → IsO K H' v (rk bk e) → Q v H'
theorem dpE_pos (e : Ex) : 1 ≤ dpE e := by cases e <;> simp [dpE]
theorem ok_reckoned_from (T : Tx K mg) (M : Has P w K mg base 1 "met" ["one", "other"] (spM2 K)) (S : Has P w K mg base 4 "stretch_of" ["word", "one", "other"] (spStOf K)) (G : FnG K mg "reckoned_from" s_reckoned_from) : ∀ n, Has P w K mg base (5 + n) "reckoned_from" ["expr", "book"] (spRf K n)
  | 0 => has_of (k := 4) (N := ["expr", "book"]) G sc_reckoned_from (fun _ _ _ _ _ _ us hl => match us, hl with | [_, _], _ => rfl) (fun vs H Q E h => by obtain ⟨x, d, e, bk, Kn, rfl, _⟩ := h; rfl) (fun f cdv A outer s0 H vs Q E hr h => by
    obtain ⟨x, d, e, bk, Kn, rfl, he, hd, _⟩ := h
    have := dpE_pos e
    omega)
  | n + 1 => by
    have R := ok_reckoned_from T M S G n
    refine has_of (k := 5 + n) (N := ["expr", "book"]) G sc_reckoned_from (fun _ _ _ _ _ _ us hl => match us, hl with | [_, _], _ => rfl) (fun vs H Q E h => ?_) (fun f cdv A outer s0 H vs Q E hr h => ?_)
    · obtain ⟨x, d, e, bk, Kn, rfl, _⟩ := h
      rfl
    · obtain ⟨x, d, e, bk, Kn, rfl, he, hd, hb, hw, wf, hK, q⟩ := h
      obtain ⟨aw, mW, hW⟩ := T.WIDE
      refine ⟨_, pss_cons (ps_if (pt_cmpR op_eq (pe_ix ix_tup (pv 0) pe_int (fun _ _ => rfl)) pe_str (nomark _)) (pss_one (ps_ret (pe_tup (pa_cons (pe_ix ix_tup (pv 0) pe_int (fun _ _ => rfl)) (pa_cons (pe_ix ix_tup (pv 0) pe_int (fun _ _ => rfl)) pa_nil))))) pss_nil)
        (pss_cons (ps_if (pt_cmpR op_eq (pe_ix ix_tup (pv 0) pe_int (fun _ _ => rfl)) pe_str (nomark _)) (pss_one (ps_ret (pe_dget (hu1 hr) (pv 1) (pe_ix ix_tup (pv 0) pe_int (fun _ _ => rfl)) (fun _ _ => rfl)))) pss_nil)
        (pss_one (ps_ret (pe_callH M hr (by omega) (pa_cons (pe_callH S hr (by omega) (pa_cons (pe_ix ix_tup (pv 0) pe_int (fun _ _ => rfl))
          (pa_cons (pe_callH R hr (by omega) (pa_cons (pe_ix ix_tup (pv 0) pe_int (fun _ _ => rfl)) (pa_cons (pv 1) pa_nil)))
          (pa_cons (pe_callH R hr (by omega) (pa_cons (pe_ix ix_tup (pv 0) pe_int (fun _ _ => rfl)) (pa_cons (pv 1) pa_nil))) pa_nil)))) (pa_cons (pe_glob (v := .ref aw) rfl mW rfl) pa_nil)))))), ?_⟩
      cases e with
      | num m =>
        obtain ⟨a, rfl, ha⟩ := he
        refine ⟨_, rfl, _, _, _, _, rfl, rfl, sq_of ha, at0, rfl, _, rfl, ifT (by decide +kernel) ⟨_, rfl, _, _, _, _, rfl, rfl, sq_of ha, at1, _, rfl, _, _, _, _, rfl, rfl, sq_of ha, at1, two, fun p hp => ?_⟩⟩
        exact q _ _ (same_new hp) ⟨p, rfl, .inl upd_same⟩
      | name y =>
        obtain ⟨a, rfl, ha⟩ := he
        obtain ⟨kvs, hk, D⟩ := hb
        obtain ⟨v, s, e1, e2, e3⟩ := D.get (hK y wf)
        refine ⟨_, rfl, _, _, _, _, rfl, rfl, sq_of ha, at0, rfl, _, rfl, ifF (by decide +kernel) ⟨_, rfl, _, _, _, _, rfl, rfl, sq_of ha, at0, rfl, _, rfl, ifT (by decide +kernel) ⟨_, rfl, _, rfl, _, _, _, _, rfl, rfl, sq_of ha, at1, d, v, rfl, by rw [← e2]; exact DGet.k (k := nK y) hk, ?_⟩⟩⟩
        refine q _ _ (Same.refl _) ?_
        show IsO K H v (bk y)
        rw [e1]
        exact e3
      | bin u l r =>
        obtain ⟨a, vl, vr, rfl, ha, hl, hrr⟩ := he
        have hd : 1 + max (dpE l) (dpE r) ≤ n + 1 := hd
        refine ⟨_, rfl, _, _, _, _, rfl, rfl, sq_of ha, at0, rfl, _, rfl, ifF (by cases u <;> decide +kernel) ⟨_, rfl, _, _, _, _, rfl, rfl, sq_of ha, at0, rfl, _, rfl, ifF (by cases u <;> decide +kernel) ⟨_, rfl, _, _, _, _, rfl, rfl, sq_of ha, at0, ?_⟩⟩⟩
        refine ⟨_, rfl, _, _, _, _, rfl, rfl, sq_of ha, at1, _, rfl, _, d, l, bk, Kn, rfl, hl, by omega, hb, hw, wf.1, hK, fun v1 H1 s1 h1 => ?_⟩
        refine ⟨_, rfl, _, _, _, _, rfl, rfl, sq_of (s1 _ _ ha), at2, _, rfl, _, d, r, bk, Kn, rfl, hrr.mono (.of_same s1), by omega, hb.same s1, hw, wf.2, hK, fun v2 H2 s2 h2 => ?_⟩
        refine ⟨u, v1, v2, _, _, rfl, h1.mono (.of_same s2), h2, rk_wi hw wf.1, rk_wi hw wf.2, fun v3 H3 s3 h3 => ?_⟩
        refine ⟨_, _, _, some WW, rfl, h3, ⟨aw, rfl, hW _⟩, fun v4 H4 s4 h4 => ?_⟩
        exact q _ _ (((s1.trans s2).trans s3).trans s4) h4
/-! ### kept_to -/
theorem sc_kept_to : FnScope ["book", "expr", "stretch", "left", "made"] ["book", "expr", "stretch"] (defScope s_kept_to) := ⟨rfl, rfl, rfl, by decide +kernel, rfl, by decide +kernel, by decide +kernel⟩
def nmIn (bko : Option (Bk Sg)) (e : Ex) : Prop := ∀ bk, bko = some bk → ∀ x, e = .name x → (bk x).isSome = true
def spKt (K : PySem.W.Frag) (f : Option (Bk Sg) → Ex → Sg → Option (Bk Sg)) : Sp := fun vs H Q _ => ∃ (vb ve vt : V) (bko : Option (Bk Sg)) (e : Ex) (st : Sg), vs = [vb, ve, vt] ∧ BkO K H vb bko ∧ IsEx H ve e ∧ IsSt K H vt st ∧ nmIn bko e ∧ ∀ v H', Same H H' → BkO K H' v (f bko e st) → Q v H'
/-- is it a name -/
def isNm : Ex → Bool
  | .name _ => true
  | _ => false
/-- the first of an expression's tuple -/
theorem ex_tag {H : Hp} {v : V} {e : Ex} (h : IsEx H v e) : ∃ a z xs, v = .ref a ∧ H a = some (.tup (.str z :: xs)) ∧ decide (V.str z = V.str "name") = isNm e := by
  cases e with
  | num n =>
    obtain ⟨a, rfl, ha⟩ := h
    exact ⟨a, "num", _, rfl, ha, show _ = false by decide +kernel⟩
  | name n =>
    obtain ⟨a, rfl, ha⟩ := h
    exact ⟨a, "name", _, rfl, ha, show _ = true by decide +kernel⟩
  | bin u l r =>
    obtain ⟨a, vl, vr, rfl, ha, _⟩ := h
    exact ⟨a, wS u, _, rfl, ha, show _ = false by cases u <;> decide +kernel⟩
theorem kpt_no {bk : Option (Bk Sg)} {e : Ex} {st : Sg} (h : isNm e = false) : kpt bk e st = bk := by
  cases bk <;> cases e <;> first | rfl | cases h
theorem unl_no {bk : Option (Bk Sg)} {e : Ex} {st : Sg} (h : isNm e = false) : unl bk e st = bk := by
  cases bk <;> cases e <;> first | rfl | cases h
theorem ok_kept_to (T : Tx K mg) (M : Has P w K mg base 1 "met" ["one", "other"] (spM2 K)) (G : FnG K mg "kept_to" s_kept_to) : Has P w K mg base 2 "kept_to" ["book", "expr", "stretch"] (spKt K kpt) := by
  refine has_of (N := ["book", "expr", "stretch", "left", "made"]) G sc_kept_to (fun _ _ _ _ _ _ us hl => match us, hl with | [_, _, _], _ => rfl) (fun vs H Q E h => ?_) (fun f cdv A outer s0 H vs Q E hr h => ?_)
  · obtain ⟨_, _, _, _, _, _, rfl, _⟩ := h
    rfl
  · obtain ⟨vb, ve, vt, bko, e, st, rfl, hb, he, ht, hn, q⟩ := h
    refine ⟨_, pss_cons (ps_if (PW.pt (pw_or (pt_cmpR op_isN (pv 0) pe_non (nomark _)) (pw_or1 (pt_cmpR op_ne (pe_ix ix_tup (pv 1) pe_int (fun _ _ => rfl)) pe_str (nomark _))))) (pss_one (ps_ret (pv 0))) pss_nil)
      (pss_cons (ps_set (i := 3) sc_kept_to.nd rfl (.inl rfl) (pe_callH M hr (by decide) (pa_cons (pe_dget (hu1 hr) (pv 0) (pe_ix ix_tup (pv 1) pe_int (fun _ _ => rfl)) (fun _ _ => rfl)) (pa_cons (pv 2) pa_nil))))
      (pss_cons (ps_if (pt_cmpR op_isN (pv 3) pe_non (nomark _)) (pss_one (ps_ret pe_non)) pss_nil)
      (pss_cons (ps_set (i := 4) sc_kept_to.nd rfl (.inl rfl) (pe_callTy call_dictD (by rfl) T.dict (by decide +kernel) (pa_cons (pv 0) pa_nil)))
      (pss_cons (ps_dput (hu1 hr) (pv 4) (pe_ix ix_tup (pv 1) pe_int (fun _ _ => rfl)) (pv 3) rfl)
      (pss_one (ps_ret (pv 4))))))), ?_⟩
    cases bko with
    | none =>
      obtain rfl : vb = .non := hb
      refine ⟨_, rfl, rfl, _, rfl, ifT rfl ?_⟩
      refine ifT rfl ⟨_, rfl, ?_⟩
      refine q _ _ (Same.refl _) ?_
      show BkO K H .non (kpt none e st)
      cases e <;> rfl
    | some bk =>
      obtain ⟨d, rfl, hd⟩ := hb
      refine ⟨_, rfl, rfl, _, rfl, ifF rfl ?_⟩
      obtain ⟨a, z, xs, rfl, ha, hz⟩ := ex_tag he
      refine ⟨_, rfl, _, _, _, _, rfl, rfl, sq_of ha, at0, rfl, _, rfl, ?_⟩
      rw [show decide (V.str z = V.str (_ : String)) = isNm e from hz]
      cases hm : isNm e with
      | false =>
        refine ifT rfl ⟨_, rfl, q _ _ (Same.refl _) ?_⟩
        rw [kpt_no hm]
        exact ⟨d, rfl, hd⟩
      | true =>
        refine ifF rfl ?_
        cases e with
        | num n => cases hm
        | bin u l r => cases hm
        | name x =>
          obtain ⟨a', e', ha'⟩ := he
          injection e' with e'
          subst e'
          obtain ⟨kvs, hk, D⟩ := id hd
          obtain ⟨v, s, e1, e2, e3⟩ := D.get (hn bk rfl x rfl)
          refine ⟨_, rfl, _, rfl, _, _, _, _, rfl, rfl, sq_of ha', at1, d, v, rfl, by rw [← e2]; exact DGet.k (k := nK x) hk, _, rfl, ?_⟩
          refine ⟨_, _, some s, some st, rfl, e3, IsO.q (o := some st) ht, fun m H1 s1 hm => ⟨_, rfl, rfl, _, rfl, ?_⟩⟩
          rw [isO_non hm]
          cases eq : oM (some s) (some st) with
          | none =>
            refine ifT rfl (q _ _ s1 ?_)
            show BkO K H1 .non (kpt (some bk) (.name x) st)
            rw [kpt_name, e1, eq]
            rfl
          | some u =>
            rw [eq] at hm
            refine ifF rfl ⟨_, rfl, d, kvs, rfl, .inl (s1 _ _ hk), fun p hp => ?_⟩
            have s2 := s1.trans (same_new (o := HO.dK kvs) hp)
            refine ⟨_, rfl, _, rfl, _, rfl, _, _, _, _, rfl, rfl, sq_of (s2 _ _ ha'), at1, p, _, rfl, DPut.k (k := nK x) upd_same (small_line (by have := D.length; omega)), _, rfl, ?_⟩
            have s3 : Same H (upd (upd H1 p (.dK kvs)) p (.dK (putK kvs (nK x) m))) := by
              rw [upd_upd]
              exact s1.trans (same_new hp)
            refine q _ _ s3 ?_
            rw [kpt_name, e1, eq]
            exact ⟨p, rfl, _, upd_same, (D.mono fun v s h => h.mono (.of_same s3)).put (IsSt.mono (by rw [upd_upd]; exact .new hp) hm)⟩
/-! ### unlike_to -/
theorem sc_unlike_to : FnScope ["book", "expr", "stretch", "left"] ["book", "expr", "stretch"] (defScope s_unlike_to) := ⟨rfl, rfl, rfl, by decide +kernel, rfl, by decide +kernel, by decide +kernel⟩
theorem ok_unlike_to (T : Tx K mg) (W' : Has P w K mg base 1 "without_worth" ["stretch", "worth"] (spWo K)) (Kt : Has P w K mg base 2 "kept_to" ["book", "expr", "stretch"] (spKt K kpt)) (G : FnG K mg "unlike_to" s_unlike_to) : Has P w K mg base 3 "unlike_to" ["book", "expr", "stretch"] (spKt K unl) := by
  refine has_of (N := ["book", "expr", "stretch", "left"]) G sc_unlike_to (fun _ _ _ _ _ _ us hl => match us, hl with | [_, _, _], _ => rfl) (fun vs H Q E h => ?_) (fun f cdv A outer s0 H vs Q E hr h => ?_)
  · obtain ⟨_, _, _, _, _, _, rfl, _⟩ := h
    rfl
  · obtain ⟨vb, ve, vt, bko, e, st, rfl, hb, he, ht, hn, q⟩ := h
    refine ⟨_, pss_cons (ps_if (PW.pt (pw_or (pt_cmpR op_isN (pv 0) pe_non (nomark _)) (pw_or (pt_cmpR op_ne (pe_ix ix_tup (pv 1) pe_int (fun _ _ => rfl)) pe_str (nomark _)) (pw_or1 (pt_cmpR op_ne (pe_ix ix_tup (pv 2) pe_int (fun _ _ => rfl)) (pe_ix ix_tup (pv 2) pe_int (fun _ _ => rfl)) (nomark _)))))) (pss_one (ps_ret (pv 0))) pss_nil)
      (pss_cons (ps_set (i := 3) sc_unlike_to.nd rfl (.inl rfl) (pe_callH W' hr (by decide) (pa_cons (pe_dget (hu1 hr) (pv 0) (pe_ix ix_tup (pv 1) pe_int (fun _ _ => rfl)) (fun _ _ => rfl)) (pa_cons (pe_ix ix_tup (pv 2) pe_int (fun _ _ => rfl)) pa_nil))))
      (pss_one (ps_ret (pe_ifExp (pt_cmpR op_isN (pv 3) pe_non (nomark _)) pe_non (pe_callH Kt hr (by decide) (pa_cons (pv 0) (pa_cons (pv 1) (pa_cons (pv 3) pa_nil)))))))), ?_⟩
    cases bko with
    | none =>
      obtain rfl : vb = .non := hb
      refine ⟨_, rfl, rfl, _, rfl, ifT rfl ?_⟩
      refine ifT rfl ⟨_, rfl, ?_⟩
      refine q _ _ (Same.refl _) ?_
      show BkO K H .non (unl none e st)
      cases e <;> rfl
    | some bk =>
      obtain ⟨d, rfl, hd⟩ := hb
      refine ⟨_, rfl, rfl, _, rfl, ifF rfl ?_⟩
      obtain ⟨a, z, xs, rfl, ha, hz⟩ := ex_tag he
      refine ⟨_, rfl, _, _, _, _, rfl, rfl, sq_of ha, at0, rfl, _, rfl, ?_⟩
      rw [show decide (V.str z = V.str (_ : String)) = isNm e from hz]
      cases hm : isNm e with
      | false =>
        refine ifT rfl ?_
        refine ifT rfl ⟨_, rfl, q _ _ (Same.refl _) ?_⟩
        rw [unl_no hm]
        exact ⟨d, rfl, hd⟩
      | true =>
        refine ifF rfl ?_
        cases e with
        | num n => cases hm
        | bin u l r => cases hm
        | name x =>
          obtain ⟨b, rfl, hb⟩ := id ht
          obtain ⟨a', e', ha'⟩ := id he
          injection e' with e'
          subst e'
          obtain ⟨kvs, hk, D⟩ := id hd
          obtain ⟨v, s, e1, e2, e3⟩ := D.get (hn bk rfl x rfl)
          refine ⟨_, rfl, _, _, _, _, rfl, rfl, hb.sq, at0, _, rfl, _, _, _, _, rfl, rfl, hb.sq, at1, rfl, _, rfl, ?_⟩
          rw [dec_ii]
          refine ifC (fun c => ?_) fun c => ?_
          · have c : st.1 ≠ st.2 := by simpa using c
            refine ⟨_, rfl, q _ _ (Same.refl _) ?_⟩
            rw [unl_name, if_pos c]
            exact ⟨d, rfl, hd⟩
          · have c : ¬ st.1 ≠ st.2 := by simpa using c
            refine ⟨_, rfl, _, rfl, _, _, _, _, rfl, rfl, sq_of ha', at1, d, v, rfl, by rw [← e2]; exact DGet.k (k := nK x) hk, _, rfl, _, _, _, _, rfl, rfl, hb.sq, at0, ?_⟩
            refine ⟨_, s, st.1, rfl, e3, fun m H1 s1 hm => ⟨_, rfl, rfl, _, rfl, ?_⟩⟩
            rw [isO_non hm]
            cases eq : wo s st.1 with
            | none =>
              refine ifT rfl (q _ _ s1 ?_)
              rw [unl_name, if_neg c, e1]
              simp only [eq]
              rfl
            | some u =>
              rw [eq] at hm
              refine ifF rfl ⟨_, rfl, _, rfl, _, rfl, _, _, _, some bk, .name x, u, rfl, ⟨d, rfl, hd.same s1⟩, he.mono (.of_same s1), hm, hn, fun v2 H2 s2 h2 => q _ _ (s1.trans s2) ?_⟩
              rw [unl_name, if_neg c, e1]
              simp only [eq]
              exact h2
end
end Sr
end
section
set_option Elab.async false
set_option linter.all false
set_option maxRecDepth 100000
set_option maxHeartbeats 4000000
/-! walks: behind -/
namespace Sr
open PySem PySem.Spec PyProof.Rows L2 SrM SrK
theorem nmIn_bk {Kn : Nm → Prop} {bk : Bk Sg} {e : Ex} (hK : inDom Kn bk) (wf : wfE Kn e) : nmIn (some bk) e := fun g eg x ex => by
  injection eg with eg
  subst eg ex
  exact hK x wf
theorem nmIn_kpt {Kn : Nm → Prop} {bk : Bk Sg} {l e : Ex} {t : Sg} (hK : inDom Kn bk) (wf : wfE Kn e) : nmIn (kpt (some bk) l t) e := fun g eg x ex => by
  obtain ⟨b, eb, _, sd⟩ := kpt_wide eg
  injection eb with eb
  subst eb ex
  rw [sd x]
  exact hK x wf
theorem nmIn_unl {Kn : Nm → Prop} {bk : Bk Sg} {l e : Ex} {t : Sg} (hK : inDom Kn bk) (wf : wfE Kn e) : nmIn (unl (some bk) l t) e := fun g eg x ex => by
  obtain ⟨b, eb, _, sd⟩ := unl_wide eg
  injection eb with eb
  subst eb ex
  rw [sd x]
  exact hK x wf
section
variable {P : Program} {w : World} {K : PySem.W.Frag} {mg : Str → Option Value} {base : Heap} {C0 : Addr}
theorem sc_behind : FnScope ["expr", "book", "is_so", "one", "other"] ["expr", "book", "is_so"] (defScope s_behind) := ⟨rfl, rfl, rfl, by decide +kernel, rfl, by decide +kernel, by decide +kernel⟩
def spBehind (K : PySem.W.Frag) : Sp := fun vs H Q _ => ∃ (x : V) (d : Addr) (b : Bool) (e : Ex) (bk : Bk Sg) (Kn : Nm → Prop), vs = [x, .ref d, .bl b] ∧ IsEx H x e ∧ dpE e ≤ 3 ∧ BkAt K H d bk ∧ wideB bk ∧ wfE Kn e ∧ inDom Kn bk ∧ ∀ v H', Same H H' → BkO K H' v (bhd e bk b) → Q v H'
theorem in_ls (u : Wd) : inV (V.str (wS u)) [V.str "less", V.str "same"] = (decide (u = .less) || decide (u = .same)) := by
  cases u <;> decide +kernel
theorem ok_behind (T : Tx K mg) (R : Has P w K mg base 8 "reckoned_from" ["expr", "book"] (spRf K 3)) (Kt : Has P w K mg base 2 "kept_to" ["book", "expr", "stretch"] (spKt K kpt)) (U : Has P w K mg base 3 "unlike_to" ["book", "expr", "stretch"] (spKt K unl)) (G : FnG K mg "behind" s_behind) : Has P w K mg base 9 "behind" ["expr", "book", "is_so"] (spBehind K) := by
  refine has_of (N := ["expr", "book", "is_so", "one", "other"]) G sc_behind (fun _ _ _ _ _ _ us hl => match us, hl with | [_, _, _], _ => rfl) (fun vs H Q E h => ?_) (fun f cdv A outer s0 H vs Q E hr h => ?_)
  · obtain ⟨_, _, _, _, _, _, rfl, _⟩ := h
    rfl
  · obtain ⟨x, d, b, e, bk, Kn, rfl, he, hd, hb, hw, wf, hK, q⟩ := h
    obtain ⟨tL, mL⟩ := T.LEAST
    obtain ⟨tG, mG⟩ := T.GREATEST
    obtain ⟨kvs, hk, D⟩ := hb
    refine ⟨_, (pss_cons (ps_set (i := 1) sc_behind.nd rfl (.inl rfl) (pe_callTy call_dictD (by rfl) T.dict (by decide +kernel) (pa1 (pv 1))))
      (pss_cons (ps_if (pt_cmpR op_eq (ixc (pv 0)) pe_str (nomark _)) (pss_one (ps_ret (pe_ifExp (pt_val (pv 2)) (pe_callH U hr (by decide) (pa3 (pv 1) (pv 0) (pt2 pe_int pe_int))) (pe_callH Kt hr (by decide) (pa3 (pv 1) (pv 0) (pt2 pe_int pe_int)))))) pss_nil)
      (pss_cons (ps_if (pt_cmpR op_notIn_seq (ixc (pv 0)) (pt2 pe_str pe_str) (by rfl)) (pss_one (ps_ret (pv 1))) pss_nil)
      (pss_cons (ps_set (i := 3) sc_behind.nd rfl (.inl rfl) (pe_callH R hr (by decide) (pa2 (ixc (pv 0)) (pv 1))))
      (pss_cons (ps_set (i := 4) sc_behind.nd rfl (.inl rfl) (pe_callH R hr (by decide) (pa2 (ixc (pv 0)) (pv 1))))
      (pss_cons (ps_if (PW.pt (pw_or (pt_cmpR op_isN (pv 3) pe_non (nomark _)) (pw_or1 (pt_cmpR op_isN (pv 4) pe_non (nomark _))))) (pss_one (ps_ret pe_non)) pss_nil)
      (pss_cons (ps_if (PW.pt (pw_and (pt_cmpR op_eq (ixc (pv 0)) pe_str (nomark _)) (pw_and1 (pt_val (pv 2))))) (pss_one (ps_ret (pe_callH Kt hr (by decide) (pa3 (pe_callH Kt hr (by decide) (pa3 (pv 1) (ixc (pv 0)) (pv 4))) (ixc (pv 0)) (pv 3))))) pss_nil)
      (pss_cons (ps_if (pt_cmpR op_eq (ixc (pv 0)) pe_str (nomark _)) (pss_one (ps_ret (pe_callH U hr (by decide) (pa3 (pe_callH U hr (by decide) (pa3 (pv 1) (ixc (pv 0)) (pv 4))) (ixc (pv 0)) (pv 3))))) pss_nil)
      (pss_cons (ps_if (pt_val (pv 2)) (pss_cons (ps_set (i := 1) sc_behind.nd rfl (.inl rfl) (pe_callH Kt hr (by decide) (pa3 (pv 1) (ixc (pv 0)) (pt2 (pe_glob (v := .int (-32768)) rfl mL ⟨_, rfl⟩) (pe_op op_sub (ixc (pv 4)) pe_int))))) (pss_one (ps_ret (pe_callH Kt hr (by decide) (pa3 (pv 1) (ixc (pv 0)) (pt2 (pe_op op_add (ixc (pv 3)) pe_int) (pe_glob (v := .int 32767) rfl mG ⟨_, rfl⟩))))))) pss_nil)
      (pss_cons (ps_set (i := 1) sc_behind.nd rfl (.inl rfl) (pe_callH Kt hr (by decide) (pa3 (pv 1) (ixc (pv 0)) (pt2 (ixc (pv 4)) (pe_glob (v := .int 32767) rfl mG ⟨_, rfl⟩)))))
      (pss_one (ps_ret (pe_callH Kt hr (by decide) (pa3 (pv 1) (ixc (pv 0)) (pt2 (pe_glob (v := .int (-32768)) rfl mL ⟨_, rfl⟩) (ixc (pv 3))))))))))))))))), ?_⟩
    refine ⟨_, rfl, d, kvs, rfl, .inl hk, fun p hp => ?_⟩
    have s1 : Same H (upd H p (.dK kvs)) := same_new hp
    have hB : BkAt K (upd H p (.dK kvs)) p bk := ⟨kvs, upd_same, D.mono fun v s h => h.mono (.of_same s1)⟩
    have he1 := he.mono (.of_same s1)
    generalize upd H p (.dK kvs) = H1 at s1 hB he1
    cases e with
    | num m =>
      obtain ⟨a, rfl, ha⟩ := he1
      refine ⟨_, rfl, _, _, _, _, rfl, rfl, sq_of ha, at0, rfl, _, rfl, ifF (by decide +kernel) ?_⟩
      refine ⟨_, rfl, _, _, _, _, rfl, rfl, sq_of ha, at0, two, fun t ht => ⟨t, [.str "less", .str "same"], rfl, .inr (.inl (.inl upd_same)), rfl, rfl, _, rfl, ifT (by decide +kernel) ?_⟩⟩
      exact ⟨_, rfl, q _ _ (s1.trans (same_new ht)) ⟨p, rfl, hB.same (same_new ht)⟩⟩
    | name y =>
      have he2 := he1
      obtain ⟨a, rfl, ha⟩ := he1
      refine ⟨_, rfl, _, _, _, _, rfl, rfl, sq_of ha, at0, rfl, _, rfl, ifT (by decide +kernel) ?_⟩
      refine ⟨_, rfl, _, rfl, ?_⟩
      refine ifC (fun c => ?_) fun c => ?_
      all_goals
        subst c
        refine ⟨_, rfl, _, rfl, two, fun t ht => ?_⟩
        have s2 : Same H1 (upd H1 t (.tup [.int 0, .int 0])) := same_new ht
        exact ⟨_, _, _, some bk, .name y, (0, 0), rfl, ⟨p, rfl, hB.same s2⟩, he2.mono (.of_same s2), ⟨t, rfl, .inl upd_same⟩, nmIn_bk hK wf, fun v H3 s3 h3 => q _ _ ((s1.trans s2).trans s3) h3⟩
    | bin u l r =>
      obtain ⟨a, vl, vr, rfl, ha, hl, hrr⟩ := he1
      refine ⟨_, rfl, _, _, _, _, rfl, rfl, sq_of ha, at0, rfl, _, rfl, ifF (by cases u <;> decide +kernel) ?_⟩
      refine ⟨_, rfl, _, _, _, _, rfl, rfl, sq_of ha, at0, two, fun t ht => ⟨t, [.str "less", .str "same"], rfl, .inr (.inl (.inl upd_same)), rfl, rfl, _, rfl, ?_⟩⟩
      show if (!inV (V.str (wS u)) [V.str "less", V.str "same"]) = true then _ else _
      rw [in_ls]
      have s2 : Same H1 (upd H1 t (.tup [.str "less", .str "same"])) := same_new ht
      have hB := hB.same s2
      have ha := s2 _ _ ha
      have hl := hl.mono (.of_same s2)
      have hrr := hrr.mono (.of_same s2)
      have s2 := s1.trans s2
      generalize upd H1 t (.tup [.str "less", .str "same"]) = H2 at s2 hB ha hl hrr
      have hd3 : 1 + max (dpE l) (dpE r) ≤ 3 := hd
      refine ifC (fun c => ?_) fun c => ?_
      · refine ⟨_, rfl, q _ _ s2 ?_⟩
        have : bhd (.bin u l r) bk b = some bk := by
          cases u <;> first | rfl | (simp at c)
        rw [this]
        exact ⟨p, rfl, hB⟩
      · have hu : u = .less ∨ u = .same := by
          cases u <;> first | exact .inl rfl | exact .inr rfl | (simp at c)
        clear c
        refine ⟨_, rfl, _, _, _, _, rfl, rfl, sq_of ha, at1, _, rfl, _, p, l, bk, Kn, rfl, hl, by omega, hB, hw, wf.1, hK, fun v1 H3 s3 h1 => ?_⟩
        have hB := hB.same s3
        have ha := s3 _ _ ha
        have hl := hl.mono (.of_same s3)
        have hrr := hrr.mono (.of_same s3)
        have s3 := s2.trans s3
        refine ⟨_, rfl, _, _, _, _, rfl, rfl, sq_of ha, at2, _, rfl, _, p, r, bk, Kn, rfl, hrr, by omega, hB, hw, wf.2, hK, fun v2 H4 s4 h2 => ?_⟩
        have hB := hB.same s4
        have ha := s4 _ _ ha
        have hl := hl.mono (.of_same s4)
        have hrr := hrr.mono (.of_same s4)
        have h1 := h1.mono (.of_same s4)
        have s4 := s3.trans s4
        have key : bhd (.bin u l r) bk b = match rk bk l, rk bk r with
            | some s, some t => if u = .same then (if b then kpt (kpt (some bk) l t) r s else unl (unl (some bk) l t) r s) else
                (if b then kpt (kpt (some bk) l (-32768, t.2 - 1)) r (s.1 + 1, 32767) else kpt (kpt (some bk) l (t.1, 32767)) r (-32768, s.2))
            | _, _ => none := by
          rcases hu with rfl | rfl
          · rw [bhd_less]; rfl
          · rw [bhd_same]; rfl
        rw [key] at q
        refine ⟨_, rfl, rfl, _, rfl, ?_⟩
        rw [isO_non h1]
        cases e1 : rk bk l with
        | none =>
          rw [e1] at q
          refine ifT rfl ?_
          exact ifT rfl (q _ _ s4 rfl)
        | some s =>
          refine ifF rfl ⟨_, rfl, rfl, _, rfl, ?_⟩
          rw [isO_non h2]
          cases e2 : rk bk r with
          | none =>
            rw [e1, e2] at q
            exact ifT rfl (q _ _ s4 rfl)
          | some t =>
            refine ifF rfl ?_
            rw [e1, e2] at q
            simp only at q
            rw [e1] at h1
            rw [e2] at h2
            obtain ⟨a1, rfl, ht1⟩ := id h1
            obtain ⟨a2, rfl, ht2⟩ := id h2
            refine ⟨_, rfl, _, _, _, _, rfl, rfl, sq_of ha, at0, rfl, _, rfl, ?_⟩
            rw [show decide (V.str (wS u) = V.str "same") = decide (u = .same) from dec_ww u .same]
            rcases hu with rfl | rfl
            · -- less
              refine ifF rfl ?_
              refine ifF rfl ⟨_, rfl, _, _, _, _, rfl, rfl, sq_of ha, at0, rfl, _, rfl, ifF (by decide +kernel) ⟨_, rfl, _, rfl, ?_⟩⟩
              cases b with
              | true =>
                refine ifT rfl ⟨_, rfl, _, rfl, _, _, _, _, rfl, rfl, sq_of ha, at1, _, rfl, _, _, _, _, rfl, rfl, ht2.sq, at1, _, _, rfl, rfl, two, fun z hz => ?_⟩
                have s5 : Same H4 (upd H4 z (.tup [.int (-32768), .int (t.2 - 1)])) := same_new hz
                refine ⟨_, _, _, some bk, l, (-32768, t.2 - 1), rfl, ⟨p, rfl, hB.same s5⟩, hl.mono (.of_same s5), ⟨z, rfl, .inl upd_same⟩, nmIn_bk hK wf.1, fun v5 H6 s6 h6 => ?_⟩
                have s6 := s5.trans s6
                refine ⟨_, rfl, _, rfl, _, _, _, _, rfl, rfl, sq_of (s6 _ _ ha), at2, _, rfl, _, _, _, _, rfl, rfl, (ht1.mono (.of_same s6)).sq, at0, _, _, rfl, rfl, two, fun z2 hz2 => ?_⟩
                have s7 : Same H6 (upd H6 z2 (.tup [.int (s.1 + 1), .int 32767])) := same_new hz2
                exact ⟨_, _, _, _, r, (s.1 + 1, 32767), rfl, h6.same s7, hrr.mono (.of_same (s6.trans s7)), ⟨z2, rfl, .inl upd_same⟩, nmIn_kpt hK wf.2, fun v8 H8 s8 h8 => q _ _ (((s4.trans s6).trans s7).trans s8) h8⟩
              | false =>
                refine ifF rfl ⟨_, rfl, _, rfl, _, _, _, _, rfl, rfl, sq_of ha, at1, _, rfl, _, _, _, _, rfl, rfl, ht2.sq, at0, two, fun z hz => ?_⟩
                have s5 : Same H4 (upd H4 z (.tup [.int t.1, .int 32767])) := same_new hz
                refine ⟨_, _, _, some bk, l, (t.1, 32767), rfl, ⟨p, rfl, hB.same s5⟩, hl.mono (.of_same s5), ⟨z, rfl, .inl upd_same⟩, nmIn_bk hK wf.1, fun v5 H6 s6 h6 => ?_⟩
                have s6 := s5.trans s6
                refine ⟨_, rfl, _, rfl, _, _, _, _, rfl, rfl, sq_of (s6 _ _ ha), at2, _, rfl, _, _, _, _, rfl, rfl, (ht1.mono (.of_same s6)).sq, at1, two, fun z2 hz2 => ?_⟩
                have s7 : Same H6 (upd H6 z2 (.tup [.int (-32768), .int s.2])) := same_new hz2
                exact ⟨_, _, _, _, r, (-32768, s.2), rfl, h6.same s7, hrr.mono (.of_same (s6.trans s7)), ⟨z2, rfl, .inl upd_same⟩, nmIn_kpt hK wf.2, fun v8 H8 s8 h8 => q _ _ (((s4.trans s6).trans s7).trans s8) h8⟩
            · -- same
              refine ifT rfl ⟨_, rfl, _, rfl, ?_⟩
              cases b with
              | true =>
                refine ifT rfl ⟨_, rfl, _, rfl, _, _, _, _, rfl, rfl, sq_of ha, at1, _, rfl, ?_⟩
                refine ⟨_, _, _, some bk, l, t, rfl, ⟨p, rfl, hB⟩, hl, h2, nmIn_bk hK wf.1, fun v5 H6 s6 h6 => ?_⟩
                refine ⟨_, rfl, _, _, _, _, rfl, rfl, sq_of (s6 _ _ ha), at2, _, rfl, ?_⟩
                exact ⟨_, _, _, _, r, s, rfl, h6, hrr.mono (.of_same s6), IsSt.mono (.of_same s6) h1, nmIn_kpt hK wf.2, fun v8 H8 s8 h8 => q _ _ ((s4.trans s6).trans s8) h8⟩
              | false =>
                refine ifF rfl ⟨_, rfl, _, _, _, _, rfl, rfl, sq_of ha, at0, rfl, _, rfl, ifT (by decide +kernel) ⟨_, rfl, _, rfl, _, _, _, _, rfl, rfl, sq_of ha, at1, _, rfl, ?_⟩⟩
                refine ⟨_, _, _, some bk, l, t, rfl, ⟨p, rfl, hB⟩, hl, h2, nmIn_bk hK wf.1, fun v5 H6 s6 h6 => ?_⟩
                refine ⟨_, rfl, _, _, _, _, rfl, rfl, sq_of (s6 _ _ ha), at2, _, rfl, ?_⟩
                exact ⟨_, _, _, _, r, s, rfl, h6, hrr.mono (.of_same s6), IsSt.mono (.of_same s6) h1, nmIn_unl hK wf.2, fun v8 H8 s8 h8 => q _ _ ((s4.trans s6).trans s8) h8⟩
end
end Sr
end
section
set_option Elab.async false
set_option linter.all false
set_option maxRecDepth 100000
set_option maxHeartbeats 4000000
/-! walks: books joined, compared, made of rows; rows made of books -/
namespace Sr
open PySem PySem.Spec PyProof.Rows L2 SrM SrK
section
variable {P : Program} {w : World} {K : PySem.W.Frag} {mg : Str → Option Value} {base : Heap} {C0 : Addr}
/-! ### joined_books -/
abbrev N_joined_books : List Str := ["one", "other", "name"]
theorem sc_joined_books : FnScope N_joined_books ["one", "other"] (defScope s_joined_books) := ⟨rfl, rfl, rfl, by decide +kernel, rfl, by decide +kernel, by decide +kernel⟩
def spJB (K : PySem.W.Frag) : Sp := fun vs H Q _ => ∃ (x y : V) (o u : Option (Bk Sg)), vs = [x, y] ∧ BkO K H x o ∧ BkO K H y u ∧ ∀ v H', Same H H' → BkO K H' v (jB o u) → Q v H'
/-- what the loops over names hold: the list at Dl of pairs made of the first i names -/
def PrI (K : PySem.W.Frag) (F : Hp) (Dl : Addr) (kvs : List (Key × V)) (f : Bk Sg) (i : Nat) (H' : Hp) : Prop := Same F H' ∧ ∃ (L : List (Nm × V)) (ps : List Addr), H' Dl = some (.lst (ps.map V.ref)) ∧ PrsAt H' ps L ∧ ps.length ≤ i ∧
  (∀ l ∈ L, ∃ s, f l.1 = some s ∧ IsSt K H' l.2 s) ∧ ∀ j z v, j < i → kvs[j]? = some (nK z, v) → (f z).isSome = true → z ∈ L.map (·.1)
theorem PrI.start {K : PySem.W.Frag} {F : Hp} {Dl : Addr} {kvs : List (Key × V)} {f : Bk Sg} (hD : F Dl = none) : PrI K F Dl kvs f 0 (upd F Dl (.lst [])) :=
  ⟨same_new hD, [], [], upd_same, .nil, Nat.le_refl _, fun l hl => (nomatch hl), fun j z v hj => absurd hj (Nat.not_lt_zero j)⟩
theorem PrI.skip {K : PySem.W.Frag} {F H' : Hp} {Dl : Addr} {kvs : List (Key × V)} {f : Bk Sg} {i : Nat} {z : Nm} {v : V} (h : PrI K F Dl kvs f i H') (e : kvs[i]? = some (nK z, v)) (hz : f z = none) : PrI K F Dl kvs f (i + 1) H' := by
  obtain ⟨s1, L, ps, h1, h2, h3, h4, h5⟩ := h
  refine ⟨s1, L, ps, h1, h2, by omega, h4, fun j y u hj ej hy => ?_⟩
  by_cases c : j < i
  · exact h5 j y u c ej hy
  · obtain rfl : j = i := by omega
    rw [e] at ej
    injection ej with ej
    injection ej with ej _
    rw [← nK_inj ej, hz] at hy
    cases hy
theorem PrI.put {K : PySem.W.Frag} {F H' H3 : Hp} {Dl p : Addr} {kvs : List (Key × V)} {f : Bk Sg} {i : Nat} {z : Nm} {v u : V} {s : Sg} (h : PrI K F Dl kvs f i H') (hD : F Dl = none) (e : kvs[i]? = some (nK z, v)) (hi : i < 5) (hz : f z = some s) (s3 : Same H' H3) (hp : H3 p = none) (hu : IsSt K H3 u s) :
    ∃ acc, (upd H3 p (.tup [.str (nS z), u])) Dl = some (.lst acc) ∧ acc.length < sizeLine ∧ PrI K F Dl kvs f (i + 1) (upd (upd H3 p (.tup [.str (nS z), u])) Dl (.lst (acc ++ [.ref p]))) := by
  obtain ⟨s1, L, ps, h1, h2, h3, h4, h5⟩ := h
  have sp : Same H3 (upd H3 p (.tup [.str (nS z), u])) := same_new hp
  have hDl : (upd H3 p (.tup [.str (nS z), u])) Dl = some (.lst (ps.map V.ref)) := sp _ _ (s3 _ _ h1)
  have tD : Tups (upd H3 p (.tup [.str (nS z), u])) (upd (upd H3 p (.tup [.str (nS z), u])) Dl (.lst (ps.map V.ref ++ [.ref p]))) := .put fun xs q => by rw [hDl] at q; cases q
  have tt : Tups H' (upd (upd H3 p (.tup [.str (nS z), u])) Dl (.lst (ps.map V.ref ++ [.ref p]))) := ((Tups.of_same s3).trans (.of_same sp)).trans tD
  refine ⟨ps.map V.ref, hDl, small_line (by rw [List.length_map]; omega), same_put ((s1.trans s3).trans sp) hD, L ++ [(z, u)], ps ++ [p], ?_, ?_, ?_, ?_, ?_⟩
  · rw [upd_same, List.map_append]
    rfl
  · exact Paired.snoc (PrsAt.mono h2 tt) (tD _ _ upd_same)
  · rw [List.length_append]
    simp only [List.length_cons, List.length_nil]
    omega
  · intro l hl
    rcases List.mem_append.mp hl with hl | hl
    · obtain ⟨t, e1, e2⟩ := h4 l hl
      exact ⟨t, e1, e2.mono tt⟩
    · rw [List.mem_singleton.mp hl]
      exact ⟨s, hz, hu.mono ((Tups.of_same sp).trans tD)⟩
  · intro j y t hj ej hy
    rw [List.map_append, List.mem_append]
    by_cases c : j < i
    · exact .inl (h5 j y t c ej hy)
    · obtain rfl : j = i := by omega
      rw [e] at ej
      injection ej with ej
      injection ej with ej _
      rw [← nK_inj ej]
      exact .inr (by simp)
/-- the dict made of the list -/
theorem PrI.done {K : PySem.W.Frag} {F H' : Hp} {Dl : Addr} {kvs : List (Key × V)} {h f : Bk Sg} (g : PrI K F Dl kvs f kvs.length H') (D : DAt (IsSt K F) kvs h) (hf : ∀ x, (f x).isSome = true → (h x).isSome = true) :
    ∃ (L : List (Nm × V)) (ps : List Addr), H' Dl = some (.lst (ps.map V.ref)) ∧ PrsAt H' ps L ∧ DAt (IsSt K H') (mergeK [] (L.map fun p => (nK p.1, p.2))) f := by
  obtain ⟨s1, L, ps, h1, h2, h3, h4, h5⟩ := g
  refine ⟨L, ps, h1, h2, dAt_list h4 fun x hx => ?_⟩
  obtain ⟨v, s, e1, e2, _⟩ := D.get (hf x hx)
  obtain ⟨p, hp, e3, e4⟩ := valV_mem e2
  obtain ⟨j, hj, e5⟩ := List.mem_iff_getElem.mp hp
  refine h5 j x p.2 hj ?_ hx
  rw [List.getElem?_eq_getElem hj, e5, ← e3]
def jF (h g : Bk Sg) : Bk Sg := fun x => match h x, g x with
  | some s, some t => some (jn s t)
  | _, _ => none
theorem jF_some {h g : Bk Sg} {x : Nm} (e : (jF h g x).isSome = true) : (h x).isSome = true := by
  unfold jF at e
  cases q : h x with
  | none => rw [q] at e; cases e
  | some s => rfl
theorem ok_joined_books (T : Tx K mg) (h_joined : Has P w K mg base 1 "joined" ["one", "other"] (spO2 K oJ)) (G : FnG K mg "joined_books" s_joined_books) : Has P w K mg base 2 "joined_books" ["one", "other"] (spJB K) := by
  refine has_of (N := N_joined_books) G sc_joined_books (fun _ _ _ _ _ _ us hl => match us, hl with | [_, _], _ => rfl) (fun vs H Q E h => ?_) (fun f cdv A outer s0 H vs Q E hr h => ?_)
  · obtain ⟨_, _, _, _, rfl, _⟩ := h
    rfl
  · obtain ⟨x, y, o, u, rfl, hx, hy, q⟩ := h
    refine ⟨_, (pss_cons (ps_if (PW.pt (pw_or (pt_cmpR op_isN (pv 0) pe_non (nomark _)) (pw_or1 (pt_cmpR op_isN (pv 1) pe_non (nomark _)))))
      (pss_one (ps_ret (pe_ifExp (pt_cmpR op_isN (pv 0) pe_non (nomark _)) (pv 1) (pv 0))))
      pss_nil)
      (pss_one (ps_ret (pe_callTy (call_dictP rfl) (by rfl) T.dict (by decide +kernel) (pa1 (pe_lock (pe_lc (own := [("name", 2)]) rfl sc_joined_books.nd (pi_keys (pv 0)) (blkOk_by (N := N_joined_books) (sc := defScope s_joined_books) (by decide +kernel)) (fun _ _ _ _ _ => (pg_name (i := 2) sc_joined_books.nd rfl (.inl rfl))) (fun _ _ _ _ _ => (pts_one (pt_cmp (pc_din (hu1 hr) (pv 2) (pv 1))))) (fun _ _ _ _ _ => (pt2 (pv 2) (pe_callH h_joined hr (by decide) (pa2 (pe_dget (hu1 hr) (pv 0) (pv 2) (fun _ _ => rfl)) (pe_dget (hu1 hr) (pv 1) (pv 2) (fun _ _ => rfl))))))))))))), ?_⟩
    cases o with
    | none =>
      obtain rfl : x = .non := hx
      exact ⟨_, rfl, rfl, _, rfl, ifT rfl (ifT rfl ⟨_, rfl, rfl, _, rfl, ifT rfl ⟨_, rfl, q _ _ (Same.refl _) hy⟩⟩)⟩
    | some h =>
      obtain ⟨d, rfl, kvs, hk, D⟩ := id hx
      refine ⟨_, rfl, rfl, _, rfl, ifF rfl ⟨_, rfl, rfl, _, rfl, ?_⟩⟩
      cases u with
      | none =>
        obtain rfl : y = .non := hy
        exact ifT rfl ⟨_, rfl, rfl, _, rfl, ifF rfl ⟨_, rfl, q _ _ (Same.refl _) hx⟩⟩
      | some g =>
        obtain ⟨d2, rfl, kvs2, hk2, D2⟩ := id hy
        refine ifF rfl ?_
        refine ⟨d, .dK kvs, hk, trivial, fun od => ?_⟩
        have tF : Tups H (upd H d (.frz od (.dK kvs))) := tups_lock hk (fun xs z => by cases z)
        have r1 : Rd (upd H d (.frz od (.dK kvs))) d (.dK kvs) := rd_lock hk hk
        have r2 : Rd (upd H d (.frz od (.dK kvs))) d2 (.dK kvs2) := rd_lock hk hk2
        have DF : DAt (IsSt K (upd H d (.frz od (.dK kvs)))) kvs h := D.mono fun v s e => e.mono tF
        have DF2 : DAt (IsSt K (upd H d (.frz od (.dK kvs)))) kvs2 g := D2.mono fun v s e => e.mono tF
        have eF : upd H d (.frz od (.dK kvs)) d = some (.frz od (.dK kvs)) := upd_same
        have un : ∀ H', Same (upd H d (.frz od (.dK kvs))) H' → Same H (upd H' d (.dK kvs)) := fun H' s => lock_same hk s
        generalize upd H d (.frz od (.dK kvs)) = F at tF r1 r2 DF DF2 eF un
        refine ⟨_, rfl, d, od, rfl, .inl ⟨kvs, eF, fun Dl hD => ?_⟩⟩
        refine lc_it walk_keys (PrI K F Dl kvs (jF h g)) (.start hD) (fun i H' _ p => p.1 _ _ eF) ?_ ?_
        · intro i x H' H2 hi p hY
          obtain ⟨rfl, k, v, ek, rfl⟩ := hY
          obtain ⟨z, rfl, hz⟩ := DF.key ek
          obtain ⟨v1, s, e1, e2, e3⟩ := DF.get hz
          have hi5 : i < 5 := by have := D.length; omega
          refine ⟨rfl, _, rfl, _, rfl, d2, _, rfl, dget_rd (k := nK z) (rd_same r2 p.1), _, rfl, ?_⟩
          rw [DF2.isSome z]
          refine ifC (fun c => ?_) fun c => ?_
          · obtain ⟨v2, t, e4, e5, e6⟩ := DF2.get c
            refine ⟨_, rfl, _, rfl, _, rfl, d, v1, rfl, by rw [← e2]; exact dget_rd (k := nK z) (rd_same r1 p.1), _, rfl, _, rfl, d2, v2, rfl, by rw [← e5]; exact dget_rd (k := nK z) (rd_same r2 p.1), ?_⟩
            refine ⟨v1, v2, some s, some t, rfl, e3.mono (.of_same p.1), e6.mono (.of_same p.1), fun m H3 s3 hm => ⟨two, fun pp hpp => ?_⟩⟩
            exact PrI.put p hD ek hi5 (by unfold jF; rw [e1, e4]) s3 hpp hm
          · refine PrI.skip p ek ?_
            unfold jF
            cases e : g z with
            | none => rw [e1]
            | some t => rw [e] at c; cases c
        · intro H' p
          refine ⟨p.1 _ _ eF, ?_⟩
          obtain ⟨L, ps, g1, g2, g3⟩ := PrI.done p DF fun x hx => jF_some hx
          have tu : Tups H' (upd H' d (.dK kvs)) := tups_unlock (p.1 _ _ eF)
          have nd : Dl ≠ d := fun z => by rw [z, eF] at hD; cases hD
          have hl := PrsAt.sq (K := K) (g2.mono tu)
          refine ⟨Dl, ps, _, rfl, .inl (.inl (by rw [upd_ne nd]; exact g1)), hl, fun r hr => ?_⟩
          have s9 := un H' p.1
          refine q _ _ (s9.trans (same_new hr)) ⟨r, rfl, _, upd_same, g3.mono fun v s e => (e.mono tu).mono (.new hr)⟩
end
end Sr
end
section
set_option Elab.async false
set_option linter.all false
set_option maxRecDepth 100000
set_option maxHeartbeats 4000000
/-! walks: is_book_within, widened, book_of, ins_book, shelf_of -/
namespace Sr
open PySem PySem.Spec PyProof.Rows L2 SrM SrK
theorem keys_at {kvs : List (Key × V)} {ns : List Nm} (e : kvs.map (·.1) = ns.map nK) {i : Nat} {k : Key} {v : V} (h : kvs[i]? = some (k, v)) : ∃ z, ns[i]? = some z ∧ k = nK z := by
  have h1 : (kvs.map (·.1))[i]? = some k := by rw [List.getElem?_map, h]; rfl
  rw [e, List.getElem?_map] at h1
  cases q : ns[i]? with
  | none => rw [q] at h1; cases h1
  | some z =>
    rw [q] at h1
    injection h1 with h1
    exact ⟨z, rfl, h1.symm⟩
theorem cut13 (x y z : V) : cutV [x, y, z] (some 1) none = [y, z] := by
  unfold cutV
  rw [show HT.sIx [x, y, z].length 0 (some 1) = min 1 3 from HT.sIx_nat 3 0 1, HT.sIx_none]
  rfl
theorem nwhole (x y z : V) : ¬ (HT.sIx [x, y, z].length 0 (some 1) = 0 ∧ HT.sIx [x, y, z].length [x, y, z].length none = [x, y, z].length) := fun h => by
  have e : HT.sIx [x, y, z].length 0 (some 1) = min 1 3 := HT.sIx_nat 3 0 1
  rw [e] at h
  exact absurd h.1 (by decide)
theorem updComm {H : Hp} {a b : Addr} {o u : HO} (h : a ≠ b) : upd (upd H a o) b u = upd (upd H b u) a o := funext fun c => by
  by_cases c1 : c = a
  · subst c1
    rw [upd_ne h, upd_same, upd_same]
  · by_cases c2 : c = b
    · subst c2
      rw [upd_same, upd_ne c1, upd_same]
    · rw [upd_ne c2, upd_ne c1, upd_ne c1, upd_ne c2]
theorem tups_np {H : Hp} {p m : Addr} {o u : HO} {ms : List (Key × V)} (hp : H p = none) (hm : H m = some (.dK ms)) : Tups H (upd (upd H p o) m u) := (Tups.new hp).trans (.put fun xs e => by rw [upd_ne (ne_of_none hm hp), hm] at e; cases e)
section
variable {P : Program} {w : World} {K : PySem.W.Frag} {mg : Str → Option Value} {base : Heap} {C0 : Addr}
theorem PrI.done' {K : PySem.W.Frag} {F H' : Hp} {Dl : Addr} {kvs : List (Key × V)} {f : Bk Sg} (g : PrI K F Dl kvs f kvs.length H') (hf : ∀ x, (f x).isSome = true → ∃ (j : Nat) (v : V), kvs[j]? = some (nK x, v)) :
    ∃ (L : List (Nm × V)) (ps : List Addr), H' Dl = some (.lst (ps.map V.ref)) ∧ PrsAt H' ps L ∧ DAt (IsSt K H') (mergeK [] (L.map fun p => (nK p.1, p.2))) f := by
  obtain ⟨s1, L, ps, h1, h2, h3, h4, h5⟩ := g
  refine ⟨L, ps, h1, h2, dAt_list h4 fun x hx => ?_⟩
  obtain ⟨j, v, e⟩ := hf x hx
  exact h5 j x v (List.getElem?_eq_some_iff.mp e).1 e hx
/-! ### is_book_within -/
abbrev N_is_book_within : List Str := ["one", "other", "name"]
theorem sc_is_book_within : FnScope N_is_book_within ["one", "other"] (defScope s_is_book_within) := ⟨rfl, rfl, rfl, by decide +kernel, rfl, by decide +kernel, by decide +kernel⟩
def spIBW (K : PySem.W.Frag) : Sp := fun vs H Q _ => ∃ (d d2 : Addr) (h g : Bk Sg), vs = [.ref d, .ref d2] ∧ BkAt K H d h ∧ BkAt K H d2 g ∧ (∀ x t, g x = some t → ∃ s, h x = some s ∧ jn s t = t) ∧ ∀ H', Same H H' → Q (.bl true) H'
theorem ok_is_book_within (T : Tx K mg) (h_is_within : Has P w K mg base 2 "is_within" ["one", "other"] (spIsWithin K)) (G : FnG K mg "is_book_within" s_is_book_within) : Has P w K mg base 3 "is_book_within" ["one", "other"] (spIBW K) := by
  refine has_of (N := N_is_book_within) G sc_is_book_within (fun _ _ _ _ _ _ us hl => match us, hl with | [_, _], _ => rfl) (fun vs H Q E h => ?_) (fun f cdv A outer s0 H vs Q E hr h => ?_)
  · obtain ⟨_, _, _, _, rfl, _⟩ := h
    rfl
  · obtain ⟨d2, d, h, g, rfl, ⟨kvs2, hk2, D2⟩, ⟨kvs, hk, D⟩, hin, q⟩ := h
    refine ⟨_, (pss_one (ps_ret (pe_callB (cr_all rfl) (by rfl) T.all (by decide +kernel) (pa1 (pe_lock (pe_lc (own := [("name", 2)]) rfl sc_is_book_within.nd (pi_keys (pv 1)) (blkOk_by (N := N_is_book_within) (sc := defScope s_is_book_within) (by decide +kernel)) (fun _ _ _ _ _ => (pg_name (i := 2) sc_is_book_within.nd rfl (.inl rfl))) (fun _ _ _ _ _ => pts_nil) (fun _ _ _ _ _ => (pe_and (pe_cmp (pc_din (hu1 hr) (pv 2) (pv 0)) rfl) (pe_one (pe_callH h_is_within hr (by decide) (pa2 (pe_dget (hu1 hr) (pv 0) (pv 2) (fun _ _ => rfl)) (pe_dget (hu1 hr) (pv 1) (pv 2) (fun _ _ => rfl))))))))))))), ?_⟩
    refine ⟨d, .dK kvs, hk, trivial, fun od => ?_⟩
    have tF : Tups H (upd H d (.frz od (.dK kvs))) := tups_lock hk (fun xs z => by cases z)
    have r1 : Rd (upd H d (.frz od (.dK kvs))) d (.dK kvs) := rd_lock hk hk
    have r2 : Rd (upd H d (.frz od (.dK kvs))) d2 (.dK kvs2) := rd_lock hk hk2
    have DF := D.mono fun v s (e : IsSt K H v s) => e.mono tF
    have DF2 := D2.mono fun v s (e : IsSt K H v s) => e.mono tF
    have eF : upd H d (.frz od (.dK kvs)) d = some (.frz od (.dK kvs)) := upd_same
    have un : ∀ H', Same (upd H d (.frz od (.dK kvs))) H' → Same H (upd H' d (.dK kvs)) := fun H' s => lock_same hk s
    generalize upd H d (.frz od (.dK kvs)) = F at tF r1 r2 DF DF2 eF un
    refine ⟨_, rfl, d, od, rfl, .inl ⟨kvs, eF, fun Dl hD => ?_⟩⟩
    refine lc_it walk_keys (fun i H' => Same F H' ∧ H' Dl = some (.lst ((List.replicate i true).map V.bl))) ⟨same_new hD, upd_same⟩ (fun i H' _ p => p.1 _ _ eF) ?_ ?_
    · intro i x H' H2 hi p hY
      obtain ⟨rfl, k, v, ek, rfl⟩ := hY
      obtain ⟨z, rfl, hz⟩ := DF.key ek
      obtain ⟨v1, t, e1, e2, e3⟩ := DF.get hz
      obtain ⟨s, e4, e5⟩ := hin z t e1
      obtain ⟨v2, s', e6, e7, e8⟩ := DF2.get (x := z) (by rw [e4]; rfl)
      rw [e4] at e6
      injection e6 with e6
      subst e6
      have hi5 : i < 5 := by have := D.length; omega
      refine ⟨rfl, _, rfl, _, rfl, d2, _, rfl, dget_rd (k := nK z) (rd_same r2 p.1), _, rfl, ifT (by rw [e7]; rfl) ?_⟩
      refine ⟨_, rfl, _, rfl, d2, v2, rfl, by rw [← e7]; exact dget_rd (k := nK z) (rd_same r2 p.1), _, rfl, _, rfl, d, v1, rfl, by rw [← e2]; exact dget_rd (k := nK z) (rd_same r1 p.1), ?_⟩
      refine ⟨v2, v1, s, t, rfl, e8.mono (.of_same p.1), e3.mono (.of_same p.1), fun H3 s3 => ?_⟩
      rw [decide_eq_true e5]
      refine ⟨_, s3 _ _ p.2, small_line (by rw [List.length_map, List.length_replicate]; omega), same_put (p.1.trans s3) hD, ?_⟩
      rw [upd_same, List.replicate_succ', List.map_append]
      rfl
    · intro H' p
      refine ⟨p.1 _ _ eF, ?_⟩
      have nd : Dl ≠ d := fun z => by rw [z, eF] at hD; cases hD
      refine ⟨Dl, _, rfl, .inl (.inl (by rw [upd_ne nd]; exact p.2)), ?_⟩
      rw [show (List.replicate kvs.length true).all id = true by rw [List.all_eq_true]; intro b hb; exact (List.mem_replicate.mp hb).2]
      exact q _ (un H' p.1)
/-! ### widened -/
abbrev N_widened : List Str := ["one", "other", "made", "name", "low", "high"]
theorem sc_widened : FnScope N_widened ["one", "other"] (defScope s_widened) := ⟨rfl, rfl, rfl, by decide +kernel, rfl, by decide +kernel, by decide +kernel⟩
def spWiden (K : PySem.W.Frag) : Sp := fun vs H Q _ => ∃ (d d2 : Addr) (h g : Bk Sg), vs = [.ref d, .ref d2] ∧ BkAt K H d h ∧ BkAt K H d2 g ∧ (∀ x, (h x).isSome = true → (g x).isSome = true) ∧ ∀ p H', Same H H' → H p = none → BkAt K H' p (wdn h g) → Q (.ref p) H'
theorem ok_widened (T : Tx K mg) (G : FnG K mg "widened" s_widened) : Has P w K mg base 1 "widened" ["one", "other"] (spWiden K) := by
  refine has_of (N := N_widened) G sc_widened (fun _ _ _ _ _ _ us hl => match us, hl with | [_, _], _ => rfl) (fun vs H Q E h => ?_) (fun f cdv A outer s0 H vs Q E hr h => ?_)
  · obtain ⟨_, _, _, _, rfl, _⟩ := h
    rfl
  · obtain ⟨d, d2, h, g, rfl, ⟨kvs, hk, D⟩, ⟨kvs2, hk2, D2⟩, hdom, q⟩ := h
    obtain ⟨tL, mLEAST⟩ := T.LEAST
    obtain ⟨tG, mGREATEST⟩ := T.GREATEST
    refine ⟨_, (pss_cons (ps_set (i := 2) sc_widened.nd rfl (.inl rfl) pe_dnewK)
      (pss_cons (ps_lock (ps_for PassesOwn.never rfl (pi_keys (pv 0)) (pg_name (i := 3) sc_widened.nd rfl (.inl rfl))
      (pss_cons (ps_set (i := 4) sc_widened.nd rfl (.inl rfl) (pe_ifExp (pt_cmpR op_eq (ixc (pe_dget (hu1 hr) (pv 1) (pv 3) (fun _ _ => rfl))) (ixc (pe_dget (hu1 hr) (pv 0) (pv 3) (fun _ _ => rfl))) (nomark _)) (ixc (pe_dget (hu1 hr) (pv 0) (pv 3) (fun _ _ => rfl))) (pe_glob (v := .int (-32768)) rfl mLEAST ⟨_, rfl⟩)))
      (pss_cons (ps_set (i := 5) sc_widened.nd rfl (.inl rfl) (pe_ifExp (pt_cmpR op_eq (ixc (pe_dget (hu1 hr) (pv 1) (pv 3) (fun _ _ => rfl))) (ixc (pe_dget (hu1 hr) (pv 0) (pv 3) (fun _ _ => rfl))) (nomark _)) (ixc (pe_dget (hu1 hr) (pv 0) (pv 3) (fun _ _ => rfl))) (pe_glob (v := .int 32767) rfl mGREATEST ⟨_, rfl⟩)))
      (pss_one (ps_dput (hu1 hr) (pv 2) (pv 3) (pt2 (pv 4) (pv 5)) rfl))))))
      (pss_one (ps_ret (pv 2))))), ?_⟩
    intro m hm
    have nmd : m ≠ d := fun z => by rw [z, hk] at hm; cases hm
    refine ⟨d, .dK kvs, by rw [upd_ne nmd.symm]; exact hk, trivial, fun od => ?_⟩
    rw [show upd (upd H m (.dK [])) d (.frz od (.dK kvs)) = upd (upd H d (.frz od (.dK kvs))) m (.dK []) from updComm nmd]
    have tF : Tups H (upd H d (.frz od (.dK kvs))) := tups_lock hk (fun xs z => by cases z)
    have r1 : Rd (upd H d (.frz od (.dK kvs))) d (.dK kvs) := rd_lock hk hk
    have r2 : Rd (upd H d (.frz od (.dK kvs))) d2 (.dK kvs2) := rd_lock hk hk2
    have DF := D.mono fun v s (e : IsSt K H v s) => e.mono tF
    have DF2 := D2.mono fun v s (e : IsSt K H v s) => e.mono tF
    have eF : upd H d (.frz od (.dK kvs)) d = some (.frz od (.dK kvs)) := upd_same
    have un : ∀ H', Same (upd H d (.frz od (.dK kvs))) H' → Same H (upd H' d (.dK kvs)) := fun H' s => lock_same hk s
    have hmF : upd H d (.frz od (.dK kvs)) m = none := by rw [upd_ne nmd]; exact hm
    generalize upd H d (.frz od (.dK kvs)) = F at tF r1 r2 DF DF2 eF un hmF
    obtain ⟨ns, ek, nd⟩ := D.ks
    have hlen : kvs.length = ns.length := by have := congrArg List.length ek; rw [List.length_map, List.length_map] at this; exact this
    refine ⟨_, rfl, d, od, rfl, .inl ⟨kvs, by rw [upd_ne nmd.symm]; exact eF, ?_⟩⟩
    refine for_it walk_keys (fun i σ H' => ∃ y3 y4 y5 ms, σ = [some (.ref d), some (.ref d2), some (.ref m), y3, y4, y5] ∧ Same F H' ∧ H' m = some (.dK ms) ∧ DAt (IsSt K H') ms (fun x => if x ∈ ns.take i then wdn h g x else none))
      ⟨none, none, none, [], rfl, same_new hmF, upd_same, DAt.nil.congr (funext fun x => by simp)⟩ (fun i σ H' _ ⟨_, _, _, _, _, s, _⟩ => s _ _ eF) ?_ ?_
    · rintro i x σ H' H2 hi ⟨y3, y4, y5, ms, rfl, s1, hms, DM⟩ hY
      obtain ⟨rfl, k, v, eki, rfl⟩ := hY
      obtain ⟨z, hzi, rfl⟩ := keys_at ek eki
      obtain ⟨z', ez, hz⟩ := DF.key eki
      obtain rfl := nK_inj ez
      obtain ⟨v1, s, e1, e2, e3⟩ := DF.get hz
      obtain ⟨v2, t, e4, e5, e6⟩ := DF2.get (hdom _ hz)
      obtain ⟨a1, rfl, k1⟩ := e3.mono (.of_same s1)
      obtain ⟨a2, rfl, k2⟩ := e6.mono (.of_same s1)
      have g1 : DGet H2 d (.str (nS z)) (some (.ref a1)) := by rw [← e2]; exact dget_rd (k := nK z) (rd_same r1 s1)
      have g2 : DGet H2 d2 (.str (nS z)) (some (.ref a2)) := by rw [← e5]; exact dget_rd (k := nK z) (rd_same r2 s1)
      have hput : SrM.put (fun x => if x ∈ ns.take i then wdn h g x else none) z (wdn1 s t) = fun x => if x ∈ ns.take (i + 1) then wdn h g x else none := funext fun x => by
        rw [List.take_add_one, hzi]
        by_cases c : x = z
        · subst c
          rw [put_same, if_pos (by simp)]
          unfold wdn
          rw [e1, e4]
        · rw [put_ne c]
          simp only [Option.toList_some, List.mem_append, List.mem_singleton, c, or_false]
      refine ⟨_, rfl, _, rfl, d2, _, rfl, g2, _, _, _, _, rfl, rfl, k2.sq, at0, _, rfl, _, rfl, d, _, rfl, g1, _, _, _, _, rfl, rfl, k1.sq, at0, rfl, _, rfl, ifC (fun c1 => ⟨_, rfl, _, rfl, d, _, rfl, g1, _, _, _, _, rfl, rfl, k1.sq, at0, ?_⟩) (fun c1 => ?_)⟩
      all_goals refine ⟨_, rfl, _, rfl, d2, _, rfl, g2, _, _, _, _, rfl, rfl, k2.sq, at1, _, rfl, _, rfl, d, _, rfl, g1, _, _, _, _, rfl, rfl, k1.sq, at1, rfl, _, rfl, ifC (fun c2 => ⟨_, rfl, _, rfl, d, _, rfl, g1, _, _, _, _, rfl, rfl, k1.sq, at1, ?_⟩) (fun c2 => ?_)⟩
      all_goals
        rw [dec_ii] at c1 c2
        refine ⟨_, rfl, _, rfl, two, fun p hp => ⟨_, rfl, _, rfl, m, _, rfl, DPut.k (k := nK z) (by rw [upd_ne (ne_of_none hms hp)]; exact hms) (small_line (by have := DM.length; omega)), _, _, _, _, rfl, ?_, upd_same, ?_⟩⟩
        · exact same_put (s1.trans (same_new hp)) hmF
        · rw [← hput]
          refine (DM.mono fun v s e => e.mono (tups_np hp hms)).put ⟨p, rfl, .inl ?_⟩
          rw [upd_ne (ne_of_none hms hp).symm, upd_same]
          unfold wdn1
          first
            | rw [if_pos (of_decide_eq_true c1)]
            | rw [if_neg (of_decide_eq_false c1)]
          first
            | rw [if_pos (of_decide_eq_true c2)]
            | rw [if_neg (of_decide_eq_false c2)]
    · rintro σ H' ⟨y3, y4, y5, ms, rfl, s1, hms, DM⟩
      refine ⟨s1 _ _ eF, _, rfl, q m _ (un H' s1) hm ⟨ms, by rw [upd_ne nmd]; exact hms, ?_⟩⟩
      have tu : Tups H' (upd H' d (.dK kvs)) := tups_unlock (s1 _ _ eF)
      refine (DM.mono fun v s e => e.mono tu).congr (funext fun x => ?_)
      by_cases c : x ∈ ns.take kvs.length
      · rw [if_pos c]
      · rw [if_neg c]
        rw [hlen, List.take_length] at c
        unfold wdn
        cases e : h x with
        | none => rfl
        | some s =>
          have : (valV kvs (nK x)).isSome = true := by rw [D.isSome x, e]; rfl
          rw [valV_in', ek] at this
          obtain ⟨y, hy, ey⟩ := List.mem_map.mp this
          rw [nK_inj ey] at hy
          exact absurd hy c
end
end Sr
end
section
set_option Elab.async false
set_option linter.all false
set_option maxRecDepth 100000
set_option maxHeartbeats 2000000
/-! a test of four things in a chain -/
namespace SrK
open PySem PySem.Spec PyProof.Rows L2
variable {X : Cx} {a b c d : Expr} {ta tb tc td : TE} {pos : Pos}
def tChain3 (r r' r'' : R2) (ta tb tc td : TE) : TT := fun σ H Q => ta σ H fun x H1 => tb σ H1 fun y H2 => r x y H2 fun z H3 => ∃ k, z = .bl k ∧
  (if k = true then tc σ H3 fun w' H4 => r' y w' H4 fun z H5 => ∃ k, z = .bl k ∧ (if k = true then td σ H5 fun v' H6 => r'' w' v' H6 fun z H7 => ∃ k, z = .bl k ∧ Q k H7 else Q false H5) else Q false H3)
theorem pt_chain3 {op op' op'' : CmpOp} {r r' r'' : R2} (ho : OpR X (compareOp op) r) (ho' : OpR X (compareOp op') r') (ho'' : OpR X (compareOp op'') r'') (ha : PE X a ta) (hb : PE X b tb) (hc : PE X c tc) (hd : PE X d td)
    (hm : lastMarks [op, op', op''] [b, c, d] = false := by with_unfolding_all rfl) : PT X (.Compare a [op, op', op''] [b, c, d] pos) (tChain3 r r' r'' ta tb tc td) := by
  refine ⟨fun pins s σ H Q I h => ?_⟩
  refine isTrue_chain (thn (ha.run pins s σ H _ I h) fun v s1 ⟨x, H1, I1, r1, q1⟩ => test_link (thn (hb.run pins s1 σ H1 _ I1 q1) fun u s2 ⟨y, H2, I2, r2, q2⟩ =>
    thn (ho pins s2 σ H2 x y v u _ I2 r1 r2 q2) fun d s3 ⟨z, H3, I3, r3, k, e, q3⟩ => ?_)) hm
  subst e
  cases r3
  refine wpAny_truthy_bool ?_
  cases k with
  | false => exact ite_ff ⟨H3, I3, q3⟩
  | true =>
    refine ite_tt (test_link (thn (hc.run pins s3 σ H3 _ I3 q3) fun w' s4 ⟨z', H4, I4, r4, q4⟩ => thn (ho' pins s4 σ H4 y z' u w' _ I4 r2 r4 q4) fun d' s5 ⟨z2, H5, I5, r5, k2, e2, q5⟩ => ?_))
    subst e2
    cases r5
    refine wpAny_truthy_bool ?_
    cases k2 with
    | false => exact ite_ff ⟨H5, I5, q5⟩
    | true =>
      refine ite_tt (test_last (thn (hd.run pins s5 σ H5 _ I5 q5) fun w2 s6 ⟨z3, H6, I6, r6, q6⟩ => thn (ho'' pins s6 σ H6 z' z3 w' w2 _ I6 r4 r6 q6) fun d2 s7 ⟨z4, H7, I7, r7, k3, e3, q7⟩ => ?_))
      subst e3
      cases r7
      exact wpAny_truthy_bool ⟨H7, I7, q7⟩
end SrK
end
section
set_option Elab.async false
set_option linter.all false
set_option maxRecDepth 100000
set_option maxHeartbeats 4000000
/-! walks: is_whole, is_between, is_name, is_shelf -/
namespace Sr
open PySem PySem.Spec PyProof.Rows L2 SrM SrK
theorem lay_nms : ∀ p : List Nm, PyData.canLayAll0 ((p.map nS).map .str) = true
  | [] => rfl
  | x :: p => by
    show (PyData.canLay0 (.str (nS x)) && PyData.canLayAll0 ((p.map nS).map .str)) = true
    rw [lay_nms p, show PyData.canLay0 (.str (nS x)) = true by cases x <;> decide +kernel]
    rfl
theorem depth_strs : ∀ xs : List Str, PyData.depthAll (xs.map .str) = 0
  | [] => by simp [PyData.depthAll]
  | x :: xs => by
    show PyData.depthAll (.str x :: xs.map .str) = 0
    rw [PyData.depthAll, depth_strs xs]
    simp [PyData.depth]
theorem shaped_nms (ns : List Nm) : SeqAt.shaped (.list ((ns.map nS).map .str)) = true := by
  unfold SeqAt.shaped
  rw [show (PyData.list ((ns.map nS).map .str)).canLay0 = true from lay_nms ns, show (PyData.list ((ns.map nS).map .str)).depth = PyData.depthAll ((ns.map nS).map .str) + 1 by rw [PyData.depth], depth_strs]
  rfl
theorem dpAll_strs {K : PySem.W.Frag} {H : Hp} : ∀ p : List Str, DpAll K H (p.map V.str) (p.map .str)
  | [] => .nil
  | x :: p => .cons (.str x) (dpAll_strs p)
theorem nm_small (x : Nm) : ((nS x).cps.toList.all fun c => decide (c ∈ (Str.ofString "abcdefghijklmnopqrstuvwxyz").cps.toList)) = true := by cases x <;> decide +kernel
section
variable {P : Program} {w : World} {K : PySem.W.Frag} {mg : Str → Option Value} {base : Heap} {C0 : Addr}
/-! ### is_whole -/
abbrev N_is_whole : List Str := ["thing"]
theorem sc_is_whole : FnScope N_is_whole ["thing"] (defScope s_is_whole) := ⟨rfl, rfl, rfl, by decide +kernel, rfl, by decide +kernel, by decide +kernel⟩
def spWhole : Sp := fun vs H Q _ => ∃ i : Int, vs = [.int i] ∧ Q (.bl true) H
theorem ok_is_whole (T : Tx K mg) (G : FnG K mg "is_whole" s_is_whole) : Has P w K mg base 1 "is_whole" ["thing"] spWhole := by
  refine has_of (N := N_is_whole) G sc_is_whole (fun _ _ _ _ _ _ us hl => match us, hl with | [_], _ => rfl) (fun vs H Q E h => ?_) (fun f cdv A outer s0 H vs Q E hr h => ?_)
  · obtain ⟨_, rfl, _⟩ := h
    rfl
  · obtain ⟨i, rfl, q⟩ := h
    refine ⟨_, (pss_one (ps_ret (pe_and (pe_callB call_isi (by rfl) T.isinstance (by decide +kernel) (pa2 (pv 0) (pe_bltn (v := .ty "int") (by rfl) T.int (by decide +kernel) rfl))) (pe_one (pe_not (pe_callB call_isi (by rfl) T.isinstance (by decide +kernel) (pa2 (pv 0) (pe_bltn (v := .ty "bool") (by rfl) T.bool (by decide +kernel) rfl)))))))), ?_⟩
    refine ⟨_, rfl, _, _, _, _, true, rfl, .ty "int", .base (.int i), kit_ty (by decide +kernel), _, rfl, ifT rfl ?_⟩
    exact ⟨_, rfl, _, _, _, _, false, rfl, .ty "bool", .base (.int i), kit_ty (by decide +kernel), _, rfl, q⟩
/-! ### is_between -/
abbrev N_is_between : List Str := ["thing", "low", "high"]
theorem sc_is_between : FnScope N_is_between ["thing", "low", "high"] (defScope s_is_between) := ⟨rfl, rfl, rfl, by decide +kernel, rfl, by decide +kernel, by decide +kernel⟩
def spBetween : Sp := fun vs H Q _ => ∃ i lo hi : Int, vs = [.int i, .int lo, .int hi] ∧ lo ≤ i ∧ i ≤ hi ∧ Q (.bl true) H
theorem ok_is_between (h_is_whole : Has P w K mg base 1 "is_whole" ["thing"] spWhole) (G : FnG K mg "is_between" s_is_between) : Has P w K mg base 2 "is_between" ["thing", "low", "high"] spBetween := by
  refine has_of (N := N_is_between) G sc_is_between (fun _ _ _ _ _ _ us hl => match us, hl with | [_, _, _], _ => rfl) (fun vs H Q E h => ?_) (fun f cdv A outer s0 H vs Q E hr h => ?_)
  · obtain ⟨_, _, _, rfl, _⟩ := h
    rfl
  · obtain ⟨i, lo, hi, rfl, h1, h2, q⟩ := h
    refine ⟨_, (pss_one (ps_ret (pe_and (pe_callH h_is_whole hr (by decide) (pa1 (pv 0))) (pe_one (pe_chain op_le op_le (pv 1) (pv 0) (pv 2)))))), ?_⟩
    refine ⟨_, rfl, i, rfl, _, rfl, ifT rfl ⟨_, rfl, _, rfl, _, _, rfl, rfl, _, rfl, ifT (decide_eq_true h1) ⟨_, rfl, _, _, rfl, rfl, ?_⟩⟩⟩
    show Q (V.bl (decide (i ≤ hi))) H
    rw [decide_eq_true h2]
    exact q
/-! ### is_name -/
abbrev N_is_name : List Str := ["thing", "sign"]
theorem sc_is_name : FnScope N_is_name ["thing"] (defScope s_is_name) := ⟨rfl, rfl, rfl, by decide +kernel, rfl, by decide +kernel, by decide +kernel⟩
def spName : Sp := fun vs H Q _ => ∃ x : Nm, vs = [.str (nS x)] ∧ ∀ H', Same H H' → Q (.bl true) H'
theorem ok_is_name (T : Tx K mg) (G : FnG K mg "is_name" s_is_name) : Has P w K mg base 1 "is_name" ["thing"] spName := by
  refine has_of (N := N_is_name) G sc_is_name (fun _ _ _ _ _ _ us hl => match us, hl with | [_], _ => rfl) (fun vs H Q E h => ?_) (fun f cdv A outer s0 H vs Q E hr h => ?_)
  · obtain ⟨_, rfl, _⟩ := h
    rfl
  · obtain ⟨x, rfl, q⟩ := h
    obtain ⟨tl, mLONGEST⟩ := T.LONGEST
    obtain ⟨ts, mSMALL⟩ := T.SMALL
    refine ⟨_, (pss_one (ps_ret (pe_and (pe_callB call_isi (by rfl) T.isinstance (by decide +kernel) (pa2 (pv 0) (pe_bltn (v := .ty "str") (by rfl) T.str (by decide +kernel) rfl))) (pe_and (pe_chain op_le op_le pe_int (pe_callB call_len_str (by rfl) T.len (by decide +kernel) (pa1 (pv 0))) (pe_glob (v := .int 2) rfl mLONGEST ⟨_, rfl⟩)) (pe_one (pe_callB (cr_all rfl) (by rfl) T.all (by decide +kernel) (pa1 (pe_lc (own := [("sign", 1)]) rfl sc_is_name.nd (pi_str (pv 0)) (blkOk_by (N := N_is_name) (sc := defScope s_is_name) (by decide +kernel)) (fun _ _ _ _ _ => (pg_name (i := 1) sc_is_name.nd rfl (.inl rfl))) (fun _ _ _ _ _ => pts_nil) (fun _ _ _ _ _ => (pe_cmpR op_in_sign (pv 1) (pe_glob (v := .str "abcdefghijklmnopqrstuvwxyz") rfl mSMALL ⟨_, rfl⟩) (by rfl))))))))))), ?_⟩
    refine ⟨_, rfl, _, _, _, _, true, rfl, .ty "str", .base (.str _), kit_ty (by decide +kernel), _, rfl, ifT rfl ?_⟩
    refine ⟨_, rfl, _, rfl, by cases x <;> decide +kernel, _, _, rfl, rfl, _, rfl, ifT (by cases x <;> decide +kernel) ⟨_, _, rfl, rfl, _, rfl, ifT (by cases x <;> decide +kernel) ?_⟩⟩
    refine ⟨_, rfl, _, rfl, fun Dl hD => ?_⟩
    have sz : (nS x).cps.size < 3 := by cases x <;> decide +kernel
    refine lc_it walk_str (fun i H' => Same H H' ∧ H' Dl = some (.lst ((List.replicate i true).map V.bl))) ⟨same_new hD, upd_same⟩ (fun _ _ _ _ => trivial) ?_ ?_
    · intro i y H' H2 hi p hY
      obtain ⟨rfl, c, ec, rfl⟩ := hY
      refine ⟨rfl, _, rfl, c, _, rfl, rfl, ?_⟩
      have hc : c ∈ (nS x).cps.toList := by
        rw [Array.mem_toList_iff]
        exact Array.mem_of_getElem? ec
      have := List.all_eq_true.mp (nm_small x) c hc
      rw [show (decide (c ∈ (Str.ofString "abcdefghijklmnopqrstuvwxyz").cps.toList)) = true from this]
      refine ⟨_, p.2, small_line (by rw [List.length_map, List.length_replicate]; omega), same_put p.1 hD, ?_⟩
      rw [upd_same, List.replicate_succ', List.map_append]
      rfl
    · intro H' p
      refine ⟨Dl, _, rfl, .inl (.inl p.2), ?_⟩
      rw [show (List.replicate (nS x).cps.size true).all id = true by rw [List.all_eq_true]; intro b hb; exact (List.mem_replicate.mp hb).2]
      exact q _ p.1
/-! ### is_shelf -/
abbrev N_is_shelf : List Str := ["thing", "row", "names"]
theorem sc_is_shelf : FnScope N_is_shelf ["thing"] (defScope s_is_shelf) := ⟨rfl, rfl, rfl, by decide +kernel, rfl, by decide +kernel, by decide +kernel⟩
def spShelf : Sp := fun vs H Q _ => ∃ (a : Addr) (rows : List (Nm × Sg)), vs = [.ref a] ∧ RowsAt H a rows ∧ (rows.map (·.1)).Nodup ∧ (rows.map (·.1)).Pairwise (fun x y => nrk x ≤ nrk y) ∧ (∀ r ∈ rows, Wi r.2) ∧ ∀ H', Same H H' → Q (.bl true) H'
theorem ok_is_shelf (T : Tx K mg) (h_is_whole : Has P w K mg base 1 "is_whole" ["thing"] spWhole) (h_is_name : Has P w K mg base 1 "is_name" ["thing"] spName) (G : FnG K mg "is_shelf" s_is_shelf) : Has P w K mg base 2 "is_shelf" ["thing"] spShelf := by
  refine has_of (N := N_is_shelf) G sc_is_shelf (fun _ _ _ _ _ _ us hl => match us, hl with | [_], _ => rfl) (fun vs H Q E h => ?_) (fun f cdv A outer s0 H vs Q E hr h => ?_)
  · obtain ⟨_, _, rfl, _⟩ := h
    rfl
  · obtain ⟨a, rows, rfl, ⟨rs, ha, hrs⟩, nd, so, wi, q⟩ := h
    obtain ⟨tL, mLEAST⟩ := T.LEAST
    obtain ⟨tG, mGREATEST⟩ := T.GREATEST
    refine ⟨_, (pss_cons (ps_if (pt_not (pt_val (pe_callB call_isi (by rfl) T.isinstance (by decide +kernel) (pa2 (pv 0) (pe_bltn (v := .ty "tuple") (by rfl) T.tuple (by decide +kernel) rfl)))))
      (pss_one (ps_ret pe_bl))
      pss_nil)
      (pss_cons (ps_for PassesOwn.never rfl (pi_tup (pv 0)) (pg_name (i := 1) sc_is_shelf.nd rfl (.inl rfl))
      (pss_cons (ps_if (PW.pt (pw_or (pt_not (pt_val (pe_callB call_isi (by rfl) T.isinstance (by decide +kernel) (pa2 (pv 1) (pe_bltn (v := .ty "tuple") (by rfl) T.tuple (by decide +kernel) rfl))))) (pw_or (pt_cmpR op_ne (pe_callB call_len_seq (by rfl) T.len (by decide +kernel) (pa1 (pv 1))) pe_int (nomark _)) (pw_or1 (pt_not (pt_val (pe_callH h_is_name hr (by decide) (pa1 (ixc (pv 1))))))))))
      (pss_one (ps_ret pe_bl))
      pss_nil)
      (pss_one (ps_if (PW.pt (pw_or (pt_not (pt_val (pe_callH h_is_whole hr (by decide) (pa1 (ixc (pv 1)))))) (pw_or (pt_not (pt_val (pe_callH h_is_whole hr (by decide) (pa1 (ixc (pv 1)))))) (pw_or1 (pt_not (pt_chain3 op_le op_le op_le (pe_glob (v := .int (-32768)) rfl mLEAST ⟨_, rfl⟩) (ixc (pv 1)) (ixc (pv 1)) (pe_glob (v := .int 32767) rfl mGREATEST ⟨_, rfl⟩)))))))
      (pss_one (ps_ret pe_bl))
      pss_nil))))
      (pss_cons (ps_setLc (i := 2) (own := [("row", 1)]) rfl sc_is_shelf.nd rfl rfl (sw_true rfl rfl rfl (by decide +kernel)) (pi_tup (pv 0)) (blkOk_by (N := N_is_shelf) (sc := defScope s_is_shelf) (by decide +kernel)) (fun _ _ _ _ _ => (pg_name (i := 1) sc_is_shelf.nd rfl (.inl rfl))) (fun _ _ _ _ _ => pts_nil) (fun _ _ _ _ _ => (ixk K (pv 1))))
      (pss_one (ps_ret (pe_cmpR (op_eqD (hu64 hr)) (pv 2) (pe_callB (cr_sortTx rfl (hu66 hr)) (by rfl) T.sorted (by decide +kernel) (pa1 (pe_callTy (cr_setTx rfl) (by rfl) T.set (by decide +kernel) (pa1 (pv 2))))) (nomark _))))))), ?_⟩
    have hlen : rs.length = rows.length := hrs.length
    have hl4 : rows.length ≤ 4 := by have := nm_len nd; rw [List.length_map] at this; exact this
    refine ⟨_, rfl, _, _, _, _, true, rfl, .ty "tuple", .base (.tup ha), kit_ty (by decide +kernel), _, rfl, ifF rfl ?_⟩
    refine ⟨_, rfl, a, rfl, ⟨_, sq_of ha⟩, for_tup (K := K) (a := a) (xs := rs.map V.ref) (fun i σ H' => (∃ y, σ = [some (.ref a), y, none]) ∧ Same H H') ⟨⟨none, rfl⟩, Same.refl _⟩ (fun i σ H' _ p => sq_of (p.2 _ _ ha)) ?_ ?_⟩
    · rintro i x σ H' hi ⟨⟨y, rfl⟩, s1⟩
      rw [List.getElem?_map] at hi
      cases er : rs[i]? with
      | none => rw [er] at hi; cases hi
      | some r =>
        rw [er] at hi
        injection hi with hi
        subst hi
        obtain ⟨row, e1, e2⟩ := paired_get hrs er
        obtain ⟨z, s⟩ := row
        have hw : Wi s := wi _ (List.mem_of_getElem? e1)
        have e2 : H r = some (.tup [.str (nS z), .int s.1, .int s.2]) := e2
        have e3 := s1 _ _ e2
        refine ⟨_, rfl, _, _, _, _, true, rfl, .ty "tuple", .base (.tup e3), kit_ty (by decide +kernel), _, rfl, ifF rfl ?_⟩
        refine ⟨_, rfl, r, _, rfl, .inr (sq_of e3), rfl, _, rfl, ifF rfl ?_⟩
        refine ⟨_, rfl, _, _, _, _, rfl, rfl, sq_of e3, at0, z, rfl, fun H3 s3 => ⟨_, rfl, ifF rfl ?_⟩⟩
        have e4 := s3 _ _ e3
        refine ⟨_, rfl, _, _, _, _, rfl, rfl, sq_of e4, at1, _, rfl, _, rfl, ifF rfl ?_⟩
        refine ⟨_, rfl, _, _, _, _, rfl, rfl, sq_of e4, at2, _, rfl, _, rfl, ifF rfl ?_⟩
        unfold Wi at hw
        refine ⟨_, rfl, _, _, _, _, rfl, rfl, sq_of e4, at1, _, _, rfl, rfl, _, rfl, ifT (decide_eq_true hw.1) ?_⟩
        refine ⟨_, rfl, _, _, _, _, rfl, rfl, sq_of e4, at2, _, _, rfl, rfl, _, rfl, ifT (decide_eq_true hw.2.1) ?_⟩
        refine ⟨_, _, rfl, rfl, _, rfl, ?_⟩
        rw [decide_eq_true hw.2.2]
        exact ifF rfl ⟨⟨_, rfl⟩, s1.trans s3⟩
    · rintro σ H' ⟨⟨y, rfl⟩, s1⟩
      have ha := s1 _ _ ha
      refine ⟨_, rfl, a, rfl, ⟨_, sq_of ha⟩, fun Dl hD => lc_tup (K := K) (a := a) (xs := rs.map V.ref) (fun i H2 => Same H' H2 ∧ H2 Dl = some (.lst ((((rows.take i).map (·.1)).map nS).map V.str))) ⟨same_new hD, upd_same⟩ (fun i H2 _ p => sq_of (p.1 _ _ ha)) ?_ ?_⟩
      · intro i x H2 hi p
        rw [List.getElem?_map] at hi
        cases er : rs[i]? with
        | none => rw [er] at hi; cases hi
        | some r =>
          rw [er] at hi
          injection hi with hi
          subst hi
          obtain ⟨row, e1, e2⟩ := paired_get hrs er
          obtain ⟨z, s⟩ := row
          have e2 : H r = some (.tup [.str (nS z), .int s.1, .int s.2]) := e2
          have e3 := p.1 _ _ (s1 _ _ e2)
          refine ⟨rfl, _, rfl, _, _, _, _, rfl, rfl, sq_of e3, at0, _, p.2, small_line (by rw [List.length_map, List.length_map, List.length_map, List.length_take]; omega), same_put p.1 hD, ?_⟩
          rw [upd_same, List.take_add_one, e1, List.map_append, List.map_append, List.map_append]
          rfl
      · intro H2 p
        have hn : (rs.map V.ref).length = rows.length := by rw [List.length_map, hlen]
        have e5 := p.2
        rw [hn, List.take_length] at e5
        refine ⟨_, rfl, _, rfl, Dl, (rows.map (·.1)).map nS, rfl, .inl (.inl e5), by rw [List.length_map, List.length_map]; omega, fun S ys hS ynd ymem => ?_⟩
        have ne1 : Dl ≠ S := ne_of_none e5 hS
        have hp : ys.Perm ((rows.map (·.1)).map nS) := by
          refine (List.perm_ext_iff_of_nodup ynd ?_).mpr ymem
          exact List.pairwise_map.mpr (nd.imp fun h z => h (nS_inj z))
        refine ⟨S, ys, rfl, upd_same, by rw [hp.length_eq, List.length_map, List.length_map]; omega, fun zs p2 pm pw hp2 => ?_⟩
        obtain ⟨ms, h1, rfl⟩ := perm_nm (pm.trans hp)
        have h2 : ms.Pairwise (fun x y => nrk x ≤ nrk y) := (List.pairwise_map.mp pw).imp fun {x y} h => by rw [le_nm] at h; exact of_decide_eq_true h
        obtain rfl := nm_unique h1 h2 so
        have hD2 : (upd (upd H2 S (TxO P w S ys)) p2 (.lst (((rows.map (·.1)).map nS).map V.str))) Dl = some (.lst (((rows.map (·.1)).map nS).map V.str)) := by
          rw [upd_ne (ne_of_none (by rw [upd_ne ne1]; exact e5) hp2), upd_ne ne1]
          exact e5
        refine ⟨_, _, .lst (.inl (.inl hD2)) (dpAll_strs _), .lst (.inl (.inl upd_same)) (dpAll_strs _), shaped_nms _, shaped_nms _, ?_⟩
        rw [show PyData.eqv (.list ((((rows.map (·.1)).map nS)).map .str)) (.list ((((rows.map (·.1)).map nS)).map .str)) = true from SeqAt.eqv_refl _ (lay_nms _)]
        exact q _ (((s1.trans p.1).trans (same_new hS)).trans (same_new hp2))
end
end Sr
end
section
set_option Elab.async false
set_option linter.all false
set_option maxRecDepth 100000
set_option maxHeartbeats 4000000
/-! walks: book_of, ins_book, shelf_of -/
namespace Sr
open PySem PySem.Spec PyProof.Rows L2 SrM SrK
section
variable {P : Program} {w : World} {K : PySem.W.Frag} {mg : Str → Option Value} {base : Heap} {C0 : Addr}
/-- the keys of the rows, with nothing at them -/
abbrev rK (rows : List (Nm × Sg)) : List (Key × V) := rows.map fun r => (nK r.1, V.non)
theorem rK_at {rows : List (Nm × Sg)} {i : Nat} {z : Nm} {s : Sg} (h : rows[i]? = some (z, s)) : (rK rows)[i]? = some (nK z, V.non) := by
  rw [List.getElem?_map, h]
  rfl
theorem rK_has {rows : List (Nm × Sg)} {x : Nm} (h : (bkOf rows x).isSome = true) : ∃ (j : Nat) (v : V), (rK rows)[j]? = some (nK x, v) := by
  obtain ⟨⟨y, s⟩, hp, rfl⟩ := List.mem_map.mp (bkOf_some h)
  obtain ⟨j, hj, e⟩ := List.mem_iff_getElem.mp hp
  exact ⟨j, V.non, rK_at (s := s) (by rw [List.getElem?_eq_getElem hj, e])⟩
/-! ### book_of -/
abbrev N_book_of : List Str := ["shelf", "row"]
theorem sc_book_of : FnScope N_book_of ["shelf"] (defScope s_book_of) := ⟨rfl, rfl, rfl, by decide +kernel, rfl, by decide +kernel, by decide +kernel⟩
def spBookOf (K : PySem.W.Frag) : Sp := fun vs H Q _ => ∃ (a : Addr) (rows : List (Nm × Sg)), vs = [.ref a] ∧ RowsAt H a rows ∧ (rows.map (·.1)).Nodup ∧ ∀ p H', Same H H' → H p = none → BkAt K H' p (bkOf rows) → Q (.ref p) H'
theorem ok_book_of (T : Tx K mg) (G : FnG K mg "book_of" s_book_of) : Has P w K mg base 1 "book_of" ["shelf"] (spBookOf K) := by
  refine has_of (N := N_book_of) G sc_book_of (fun _ _ _ _ _ _ us hl => match us, hl with | [_], _ => rfl) (fun vs H Q E h => ?_) (fun f cdv A outer s0 H vs Q E hr h => ?_)
  · obtain ⟨_, _, rfl, _⟩ := h
    rfl
  · obtain ⟨a, rows, rfl, ⟨rs, ha, hrs⟩, nd, q⟩ := h
    refine ⟨_, (pss_one (ps_ret (pe_callTy (call_dictP rfl) (by rfl) T.dict (by decide +kernel) (pa1 (pe_lc (own := [("row", 1)]) rfl sc_book_of.nd (pi_tup (pv 0)) (blkOk_by (N := N_book_of) (sc := defScope s_book_of) (by decide +kernel)) (fun _ _ _ _ _ => (pg_name (i := 1) sc_book_of.nd rfl (.inl rfl))) (fun _ _ _ _ _ => pts_nil) (fun _ _ _ _ _ => (pt2 (ixk K (pv 1)) (pe_slice (sl_tupK K) (pv 1) (po_some pe_int) po_none)))))))), ?_⟩
    have hlen : rs.length = rows.length := hrs.length
    have hl4 : rows.length ≤ 4 := by have := nm_len nd; rw [List.length_map] at this; exact this
    refine ⟨_, rfl, a, rfl, ⟨_, sq_of ha⟩, fun Dl hD => lc_tup (K := K) (a := a) (xs := rs.map V.ref) (PrI K H Dl (rK rows) (bkOf rows)) (.start hD) (fun i H2 _ p => sq_of (p.1 _ _ ha)) ?_ ?_⟩
    · intro i x H2 hi p
      rw [List.getElem?_map] at hi
      cases er : rs[i]? with
      | none => rw [er] at hi; cases hi
      | some r =>
        rw [er] at hi
        injection hi with hi
        subst hi
        obtain ⟨row, e1, e2⟩ := paired_get hrs er
        obtain ⟨z, s⟩ := row
        have e2 : H r = some (.tup [.str (nS z), .int s.1, .int s.2]) := e2
        have e3 := p.1 _ _ e2
        have hi4 : i < 5 := by have := (List.getElem?_eq_some_iff.mp e1).1; omega
        refine ⟨rfl, _, rfl, _, _, _, _, rfl, rfl, sq_of e3, at0, _, rfl, 1, rfl, r, _, rfl, sq_of e3, fun z => absurd z (nwhole _ _ _), fun _ c hc => ⟨two, fun t ht => ?_⟩⟩
        rw [cut13] at ht ⊢
        exact PrI.put p hD (rK_at e1) hi4 (bkOf_mem nd (List.mem_of_getElem? e1)) (same_new hc) ht ⟨c, rfl, .inl upd_same⟩
    · intro H2 p
      rw [show (rs.map V.ref).length = (rK rows).length by rw [List.length_map, List.length_map, hlen]] at p
      obtain ⟨L, ps, g1, g2, g3⟩ := PrI.done' p fun x hx => rK_has hx
      refine ⟨Dl, ps, _, rfl, .inl (.inl g1), PrsAt.sq g2, fun r hr => ?_⟩
      exact q r _ (p.1.trans (same_new hr)) (p.1.free hr) ⟨_, upd_same, g3.mono fun v s e => e.mono (.new hr)⟩
/-! ### ins_book -/
abbrev N_ins_book : List Str := ["program", "row"]
theorem sc_ins_book : FnScope N_ins_book ["program"] (defScope s_ins_book) := ⟨rfl, rfl, rfl, by decide +kernel, rfl, by decide +kernel, by decide +kernel⟩
/-- a program stands at a: its ins at i, its block -/
def PgAt (H : Hp) (v : V) (ins : List (Nm × Sg)) (ds : List Dd) : Prop := ∃ a i b vs, v = .ref a ∧ H a = some (.tup [.ref i, .ref b]) ∧ RowsAt H i ins ∧ H b = some (.tup vs) ∧ IsDs H vs ds
theorem PgAt.mono {H H' : Hp} {v : V} {ins : List (Nm × Sg)} {ds : List Dd} (h : PgAt H v ins ds) (t : Tups H H') : PgAt H' v ins ds := by
  obtain ⟨a, i, b, vs, e, h1, h2, h3, h4⟩ := h
  exact ⟨a, i, b, vs, e, t _ _ h1, h2.mono t, t _ _ h3, h4.mono t⟩
def spInsBook (K : PySem.W.Frag) : Sp := fun vs H Q _ => ∃ (x : V) (ins : List (Nm × Sg)) (ds : List Dd), vs = [x] ∧ PgAt H x ins ds ∧ (ins.map (·.1)).Nodup ∧ ∀ p H', Same H H' → H p = none → BkAt K H' p (bkOf ins) → Q (.ref p) H'
theorem ok_ins_book (T : Tx K mg) (G : FnG K mg "ins_book" s_ins_book) : Has P w K mg base 1 "ins_book" ["program"] (spInsBook K) := by
  refine has_of (N := N_ins_book) G sc_ins_book (fun _ _ _ _ _ _ us hl => match us, hl with | [_], _ => rfl) (fun vs H Q E h => ?_) (fun f cdv A outer s0 H vs Q E hr h => ?_)
  · obtain ⟨_, _, _, rfl, _⟩ := h
    rfl
  · obtain ⟨x, rows, ds, rfl, ⟨ap, a, b, vs, rfl, hp, ⟨rs, ha, hrs⟩, _⟩, nd, q⟩ := h
    refine ⟨_, (pss_one (ps_ret (pe_callTy (call_dictP rfl) (by rfl) T.dict (by decide +kernel) (pa1 (pe_lc (own := [("row", 1)]) rfl sc_ins_book.nd (pi_tup (ixc (pv 0))) (blkOk_by (N := N_ins_book) (sc := defScope s_ins_book) (by decide +kernel)) (fun _ _ _ _ _ => (pg_name (i := 1) sc_ins_book.nd rfl (.inl rfl))) (fun _ _ _ _ _ => pts_nil) (fun _ _ _ _ _ => (pt2 (ixk K (pv 1)) (pe_slice (sl_tupK K) (pv 1) (po_some pe_int) po_none)))))))), ?_⟩
    have hlen : rs.length = rows.length := hrs.length
    have hl4 : rows.length ≤ 4 := by have := nm_len nd; rw [List.length_map] at this; exact this
    refine ⟨_, rfl, _, _, _, _, rfl, rfl, sq_of hp, at0, a, rfl, ⟨_, sq_of ha⟩, fun Dl hD => lc_tup (K := K) (a := a) (xs := rs.map V.ref) (PrI K H Dl (rK rows) (bkOf rows)) (.start hD) (fun i H2 _ p => sq_of (p.1 _ _ ha)) ?_ ?_⟩
    · intro i x H2 hi p
      rw [List.getElem?_map] at hi
      cases er : rs[i]? with
      | none => rw [er] at hi; cases hi
      | some r =>
        rw [er] at hi
        injection hi with hi
        subst hi
        obtain ⟨row, e1, e2⟩ := paired_get hrs er
        obtain ⟨z, s⟩ := row
        have e2 : H r = some (.tup [.str (nS z), .int s.1, .int s.2]) := e2
        have e3 := p.1 _ _ e2
        have hi4 : i < 5 := by have := (List.getElem?_eq_some_iff.mp e1).1; omega
        refine ⟨rfl, _, rfl, _, _, _, _, rfl, rfl, sq_of e3, at0, _, rfl, 1, rfl, r, _, rfl, sq_of e3, fun z => absurd z (nwhole _ _ _), fun _ c hc => ⟨two, fun t ht => ?_⟩⟩
        rw [cut13] at ht ⊢
        exact PrI.put p hD (rK_at e1) hi4 (bkOf_mem nd (List.mem_of_getElem? e1)) (same_new hc) ht ⟨c, rfl, .inl upd_same⟩
    · intro H2 p
      rw [show (rs.map V.ref).length = (rK rows).length by rw [List.length_map, List.length_map, hlen]] at p
      obtain ⟨L, ps, g1, g2, g3⟩ := PrI.done' p fun x hx => rK_has hx
      refine ⟨Dl, ps, _, rfl, .inl (.inl g1), PrsAt.sq g2, fun r hr => ?_⟩
      exact q r _ (p.1.trans (same_new hr)) (p.1.free hr) ⟨_, upd_same, g3.mono fun v s e => e.mono (.new hr)⟩
/-! ### shelf_of -/
abbrev N_shelf_of : List Str := ["book", "name"]
theorem sc_shelf_of : FnScope N_shelf_of ["book"] (defScope s_shelf_of) := ⟨rfl, rfl, rfl, by decide +kernel, rfl, by decide +kernel, by decide +kernel⟩
def spShelfOf (K : PySem.W.Frag) : Sp := fun vs H Q _ => ∃ (d : Addr) (bk : Bk Sg), vs = [.ref d] ∧ BkAt K H d bk ∧
  ∀ a H' rows, Same H H' → RowsAt H' a rows → (rows.map (·.1)).Nodup → (rows.map (·.1)).Pairwise (fun x y => nrk x ≤ nrk y) → bkOf rows = bk → Q (.ref a) H'
theorem ok_shelf_of (T : Tx K mg) (G : FnG K mg "shelf_of" s_shelf_of) : Has P w K mg base 1 "shelf_of" ["book"] (spShelfOf K) := by
  refine has_of (N := N_shelf_of) G sc_shelf_of (fun _ _ _ _ _ _ us hl => match us, hl with | [_], _ => rfl) (fun vs H Q E h => ?_) (fun f cdv A outer s0 H vs Q E hr h => ?_)
  · obtain ⟨_, _, rfl, _⟩ := h
    rfl
  · obtain ⟨d, bk, rfl, ⟨kvs, hk, D⟩, q⟩ := h
    refine ⟨_, (pss_one (ps_ret (pe_callTy call_tuple_of (by rfl) T.tuple (by decide +kernel) (pa1 (pe_lc (own := [("name", 1)]) rfl sc_shelf_of.nd (pi_list (pe_callB cr_sortedS (by rfl) T.sorted (by decide +kernel) (pa1 (pe_callTy (call_listD rfl) (by rfl) T.list (by decide +kernel) (pa1 (pv 0)))))) (blkOk_by (N := N_shelf_of) (sc := defScope s_shelf_of) (by decide +kernel)) (fun _ _ _ _ _ => (pg_name (i := 1) sc_shelf_of.nd rfl (.inl rfl))) (fun _ _ _ _ _ => pts_nil) (fun _ _ _ _ _ => (pe_op (op_catK K) (pe_tup (pa1 (pv 1))) (pe_dget (hu1 hr) (pv 0) (pv 1) (fun _ _ => rfl))))))))), ?_⟩
    obtain ⟨ns, ek, nd⟩ := D.ks
    have hl4 := nm_len nd
    have e1 : (kvs.map fun kv => kV kv.1) = (ns.map nS).map V.str := by
      have : (kvs.map (·.1)).map kV = (ns.map nK).map kV := by rw [ek]
      rw [List.map_map, List.map_map] at this
      rw [List.map_map]
      exact this
    refine ⟨_, rfl, d, kvs, rfl, .inl hk, fun l hl => ⟨l, ns.map nS, rfl, .inl (.inl (by rw [upd_same, e1])), by rw [List.length_map]; omega, fun ys p pm so hp => ?_⟩⟩
    obtain ⟨ms, h1, rfl⟩ := perm_nm pm
    have h2 := sorted_nm so
    have nd2 : ms.Nodup := h1.nodup_iff.mpr nd
    have hm4 := nm_len nd2
    have s1 : Same H (upd (upd H l (.lst (kvs.map fun kv => kV kv.1))) p (.lst ((ms.map nS).map V.str))) := (same_new hl).trans (same_new hp)
    have ep : (upd (upd H l (.lst (kvs.map fun kv => kV kv.1))) p (.lst ((ms.map nS).map V.str))) p = some (.lst ((ms.map nS).map V.str)) := upd_same
    generalize upd (upd H l (.lst (kvs.map fun kv => kV kv.1))) p (.lst ((ms.map nS).map V.str)) = H1 at s1 ep
    have hin : ∀ z ∈ ms, (bk z).isSome = true := fun z hz => by
      rw [← D.isSome z, valV_in', ek]
      exact List.mem_map.mpr ⟨z, h1.mem_iff.mp hz, rfl⟩
    have rw_at : ∀ i z, ms[i]? = some z → (ms.map fun z => (z, (bk z).getD (0, 0)))[i]? = some (z, (bk z).getD (0, 0)) := fun i z e => by rw [List.getElem?_map, e]; rfl
    refine ⟨p, rfl, ⟨_, .inl (.inl ep)⟩, fun Dl hD => lc_list (K := K) (a := p) (xs := (ms.map nS).map V.str) (fun i H2 => Same H1 H2 ∧ ∃ rs : List Addr, H2 Dl = some (.lst (rs.map V.ref)) ∧ RowsIn H2 rs ((ms.map fun z => (z, (bk z).getD (0, 0))).take i)) ⟨same_new hD, [], upd_same, .nil⟩ (fun i H2 _ p => .inl (.inl (p.1 _ _ ep))) ?_ ?_⟩
    · rintro i x H2 hi ⟨s2, rs, g1, g2⟩
      rw [List.getElem?_map, List.getElem?_map] at hi
      cases ez : ms[i]? with
      | none => rw [ez] at hi; cases hi
      | some z =>
        rw [ez] at hi
        injection hi with hi
        subst hi
        obtain ⟨v, s, e2, e3, e4⟩ := D.get (hin z (List.mem_of_getElem? ez))
        have e5 := e4.mono (.of_same (s1.trans s2))
        have hk2 := s2 _ _ (s1 _ _ hk)
        obtain ⟨av, rfl, tv⟩ := e5
        have hi4 : i < 5 := by have := (List.getElem?_eq_some_iff.mp ez).1; omega
        have hrl : rs.length ≤ i := by have := g2.length; rw [this, List.length_take]; omega
        refine ⟨rfl, _, rfl, by show 1 ≤ sizeLine; decide, fun t ht => ⟨_, rfl, _, rfl, d, .ref av, rfl, ?_, ?_⟩⟩
        · rw [← e3]
          exact DGet.k (k := nK z) (same_new ht _ _ hk2)
        · refine ⟨t, av, _, _, rfl, rfl, sq_of upd_same, (tv.mono (.new ht)).sq, by show 3 ≤ sizeLine; decide, fun z => (nomatch z), fun _ z => (nomatch z), fun _ _ r hr => ?_⟩
          have sr : Same H2 (upd (upd H2 t (.tup [V.str (nS z)])) r (.tup ([V.str (nS z)] ++ [.int s.1, .int s.2]))) := (same_new ht).trans (same_new hr)
          have gr : (upd (upd H2 t (.tup [V.str (nS z)])) r (.tup ([V.str (nS z)] ++ [.int s.1, .int s.2]))) r = some (.tup [V.str (nS z), .int s.1, .int s.2]) := upd_same
          generalize upd (upd H2 t (.tup [V.str (nS z)])) r (.tup ([V.str (nS z)] ++ [.int s.1, .int s.2])) = H3 at sr gr
          have td : Tups H3 (upd H3 Dl (.lst (rs.map V.ref ++ [.ref r]))) := .put fun xs e => by rw [sr _ _ g1] at e; cases e
          refine ⟨_, sr _ _ g1, small_line (by rw [List.length_map]; omega), same_put (s2.trans sr) hD, rs ++ [r], by rw [upd_same, List.map_append]; rfl, ?_⟩
          rw [List.take_add_one, rw_at i z ez]
          refine Paired.snoc (Paired.mono (fun _ _ e => td _ _ (sr _ _ e)) g2) ?_
          show (upd H3 Dl (.lst (rs.map V.ref ++ [.ref r]))) r = some (.tup [.str (nS z), .int ((bk z).getD (0, 0)).1, .int ((bk z).getD (0, 0)).2])
          rw [e2]
          exact td _ _ gr
    · rintro H2 ⟨s2, rs, g1, g2⟩
      rw [show ((ms.map nS).map V.str).length = (ms.map fun z => (z, (bk z).getD (0, 0))).length by rw [List.length_map, List.length_map, List.length_map], List.take_length] at g2
      refine ⟨Dl, _, rfl, .inl ⟨.inl (.inl g1), fun r hr => ?_⟩⟩
      have em : (ms.map fun z => (z, (bk z).getD (0, 0))).map (·.1) = ms := by rw [List.map_map]; exact List.map_id' ms
      refine q r _ (ms.map fun z => (z, (bk z).getD (0, 0))) ((s1.trans s2).trans (same_new hr)) ⟨rs, upd_same, Paired.mono (fun _ _ e => same_new hr _ _ e) g2⟩ (by rw [em]; exact nd2) (by rw [em]; exact h2) (funext fun x => ?_)
      cases e : bk x with
      | none =>
        cases e2 : bkOf (ms.map fun z => (z, (bk z).getD (0, 0))) x with
        | none => rfl
        | some s =>
          have := bkOf_some (rows := ms.map fun z => (z, (bk z).getD (0, 0))) (x := x) (by rw [e2]; rfl)
          rw [em] at this
          have := hin x this
          rw [e] at this
          cases this
      | some s =>
        have hx : x ∈ ms := by
          refine h1.mem_iff.mpr ?_
          have : (valV kvs (nK x)).isSome = true := by rw [D.isSome x, e]; rfl
          rw [valV_in', ek] at this
          obtain ⟨y, hy, ey⟩ := List.mem_map.mp this
          rw [nK_inj ey] at hy
          exact hy
        exact bkOf_mem (by rw [em]; exact nd2) (List.mem_map.mpr ⟨x, hx, by rw [e]; rfl⟩)
end
end Sr
end
section
set_option Elab.async false
set_option linter.all false
set_option maxRecDepth 100000
set_option maxHeartbeats 4000000
/-! walks: Run: refuse, note, by_zero, worth -/
namespace Sr
open PySem PySem.Spec PyProof.Rows L2 SrM SrK
theorem big_line {n : Nat} (h : n ≤ 8000000) : n < sizeLine := by rw [sizeLine_eq]; omega
/-- path + (i,) -/
def rPath : R2 := fun x y H Q => ∃ (p : Path) (i : Int) (t : Addr), IsPa H x p ∧ y = .ref t ∧ H t = some (.tup [.int i]) ∧ p.length ≤ 1000 ∧ ∀ v H', Same H H' → IsPa H' v (p ++ [i]) → Q v H'
theorem op_path {X : Cx} : OpR X (binaryOp .Add) rPath := by
  intro pins s σ H x y v u Q I rx ry h
  obtain ⟨p, i, t, ⟨a, rfl, ha⟩, rfl, ht, hl, q⟩ := h
  refine op_catA pins s σ H _ _ v u Q I rx ry ⟨a, t, p.map V.int, [.int i], rfl, rfl, sq_of ha, sq_of ht, ?_, fun e => ?_, fun _ z => (nomatch z), fun _ _ r hr => ?_⟩
  · rw [List.length_map]
    exact Nat.le_of_lt (big_line (by simp only [List.length_cons, List.length_nil]; omega))
  · have e : p = [] := List.map_eq_nil_iff.mp e
    subst e
    exact q _ _ (Same.refl _) ⟨t, rfl, ht⟩
  · refine q _ _ (same_new hr) ⟨r, rfl, ?_⟩
    rw [upd_same, List.map_append]
    rfl
theorem one_line : 1 ≤ sizeLine := by decide
/-! ### a run as it stands -/
abbrev rF (bd sl : Addr) (pl vf : V) : List (Str × V) := [("book", .ref bd), ("plan", pl), ("seen", .ref sl), ("fault", vf)]
def FtAt (H : Hp) (v : V) : Option (Fw × Path) → Prop
  | none => v = .non
  | some (w, q) => ∃ a b, v = .ref a ∧ H a = some (.tup [.str (fS w), .ref b]) ∧ H b = some (.tup (q.map V.int))
def SeenIn (H : Hp) : List Addr → List (Path × Int) → Prop := Paired fun p row => ∃ q, H p = some (.tup [.ref q, .int row.2]) ∧ H q = some (.tup (row.1.map V.int))
theorem FtAt.mono {H H' : Hp} {v : V} {o : Option (Fw × Path)} (h : FtAt H v o) (t : Tups H H') : FtAt H' v o := by
  cases o with
  | none => exact h
  | some x =>
    obtain ⟨w, q⟩ := x
    obtain ⟨a, b, e, h1, h2⟩ := h
    exact ⟨a, b, e, t _ _ h1, t _ _ h2⟩
theorem SeenIn.mono {H H' : Hp} {ps : List Addr} {rows : List (Path × Int)} (h : SeenIn H ps rows) (t : Tups H H') : SeenIn H' ps rows := Paired.mono (fun _ _ ⟨q, h1, h2⟩ => ⟨q, t _ _ h1, t _ _ h2⟩) h
theorem ft_non {H : Hp} {v : V} {o : Option (Fw × Path)} (h : FtAt H v o) : decide (v = .non) = o.isNone := by
  cases o with
  | none =>
    obtain rfl : v = .non := h
    rfl
  | some x =>
    obtain ⟨w, q⟩ := x
    obtain ⟨a, b, rfl, _⟩ := h
    rfl
structure RunAt (H : Hp) (C r bd sl : Addr) (s : RS) : Prop where
  ob : ∃ dx pl vf, H r = some (.ins C dx (rF bd sl pl vf)) ∧ FtAt H vf s.fault
  env : EnvAt H bd s.env
  sn : ∃ ps : List Addr, H sl = some (.lst (ps.map V.ref)) ∧ SeenIn H ps s.seen
theorem RunAt.same {H H' : Hp} {C r bd sl : Addr} {s : RS} (h : RunAt H C r bd sl s) (e : Same H H') : RunAt H' C r bd sl s := by
  obtain ⟨⟨dx, pl, vf, h1, h2⟩, ⟨kvs, h3, h4⟩, ps, h5, h6⟩ := h
  exact ⟨⟨dx, pl, vf, e _ _ h1, h2.mono (.of_same e)⟩, ⟨kvs, e _ _ h3, h4⟩, ps, e _ _ h5, h6.mono (.of_same e)⟩
/-- what a step of a run leaves -/
def RFm (r bd sl : Addr) (H H' : Hp) : Prop := Tups H H' ∧ Fm [r, bd, sl] H H'
theorem RFm.refl {r bd sl : Addr} {H : Hp} : RFm r bd sl H H := ⟨.refl H, .refl _ H⟩
theorem RFm.trans {r bd sl : Addr} {H H1 H2 : Hp} (a : RFm r bd sl H H1) (b : RFm r bd sl H1 H2) : RFm r bd sl H H2 := ⟨a.1.trans b.1, a.2.trans b.2⟩
theorem RFm.of {r bd sl : Addr} {H H' : Hp} (a : Same H H') : RFm r bd sl H H' := ⟨.of_same a, .of_same a⟩
theorem RunAt.put_r {H : Hp} {C r bd sl : Addr} {s : RS} (h : RunAt H C r bd sl s) {dx : Addr} {fs fs' : List (Str × V)} (e : H r = some (.ins C dx fs)) : RFm r bd sl H (upd H r (.ins C dx fs')) :=
  ⟨.put fun xs z => (by rw [e] at z; cases z), .put (by simp)⟩
structure RunC (K : PySem.W.Frag) (C : Addr) : Prop where
  cl : Cls K C
  book : NoAttr K C "book"
  plan : NoAttr K C "plan"
  seen : NoAttr K C "seen"
  fault : NoAttr K C "fault"
section
variable {P : Program} {w : World} {K : PySem.W.Frag} {mg : Str → Option Value} {base : Heap} {C : Addr}
/-! ### refuse -/
abbrev N_Run_refuse : List Str := ["self", "word", "path"]
theorem sc_Run_refuse : FnScope N_Run_refuse ["self", "word", "path"] (defScope s_Run_refuse) := ⟨rfl, rfl, rfl, by decide +kernel, rfl, by decide +kernel, by decide +kernel⟩
def spRefuse (C : Addr) : Sp := fun vs H Q _ => ∃ (r bd sl : Addr) (s : RS) (u : Fw) (vp : V) (p : Path), vs = [.ref r, .str (fS u), vp] ∧ RunAt H C r bd sl s ∧ IsPa H vp p ∧ ∀ H', RFm r bd sl H H' → RunAt H' C r bd sl ⟨s.env, s.seen, some (u, p)⟩ → Q .non H'
theorem ok_refuse (R : RunC K C) (G : FnM K C "refuse" "Run.refuse" s_Run_refuse) : HasM P w K mg base 1 C "refuse" ["self", "word", "path"] (spRefuse C) := by
  refine hasM_of (N := N_Run_refuse) G sc_Run_refuse (fun _ _ _ _ _ _ us hl => match us, hl with | [_, _, _], _ => rfl) (fun vs H Q E h => ?_) (fun f cdv A outer s0 H vs Q E hr h => ?_)
  · obtain ⟨_, _, _, _, _, _, _, rfl, _⟩ := h
    rfl
  · obtain ⟨r, bd, sl, s, u, vp, p, rfl, hR, ⟨pa, rfl, hp⟩, q⟩ := h
    refine ⟨_, (pss_one (ps_fld (pv 0) (pt2 (pv 1) (pv 2)) rfl)), ?_⟩
    refine ⟨_, rfl, _, rfl, two, fun t ht => ?_⟩
    have s1 : Same H (upd H t (.tup [.str (fS u), .ref pa])) := same_new ht
    have hR1 := hR.same s1
    have et : upd H t (.tup [.str (fS u), .ref pa]) t = some (.tup [.str (fS u), .ref pa]) := upd_same
    have hp := s1 _ _ hp
    generalize upd H t (.tup [.str (fS u), .ref pa]) = H1 at s1 hR1 et hp
    obtain ⟨⟨dx, pl, vf, h1, h2⟩, ⟨kvs, h3, h4⟩, ps, h5, h6⟩ := id hR1
    refine ⟨_, rfl, r, C, dx, _, rfl, h1, R.cl, R.fault, by show 4 < 1000; decide, ?_⟩
    have f2 : RFm r bd sl H1 (upd H1 r (.ins C dx (putF "fault" (.ref t) (rF bd sl pl vf)))) := hR1.put_r h1
    refine q _ (RFm.trans (.of s1) f2) ⟨⟨dx, pl, .ref t, upd_same, t, pa, rfl, f2.1 _ _ et, f2.1 _ _ hp⟩, ⟨kvs, ?_, h4⟩, ps, ?_, h6.mono f2.1⟩
    · rw [upd_ne (ne_of h3 h1 (by intro z; cases z))]
      exact h3
    · rw [upd_ne (ne_of h5 h1 (by intro z; cases z))]
      exact h5
/-! ### by_zero -/
abbrev N_Run_by_zero : List Str := ["self", "path"]
theorem sc_Run_by_zero : FnScope N_Run_by_zero ["self", "path"] (defScope s_Run_by_zero) := ⟨rfl, rfl, rfl, by decide +kernel, rfl, by decide +kernel, by decide +kernel⟩
def spByZero (C : Addr) : Sp := fun vs H Q _ => ∃ (r bd sl : Addr) (s : RS) (vp : V) (p : Path), vs = [.ref r, vp] ∧ RunAt H C r bd sl s ∧ IsPa H vp p ∧ ∀ H', RFm r bd sl H H' → RunAt H' C r bd sl ⟨s.env, s.seen, some (.zero, p)⟩ → Q (.int 0) H'
/-- no method is a field -/
theorem rF_refuse {bd sl : Addr} {pl vf : V} : (rF bd sl pl vf).lookup ("refuse" : Str) = none := rfl
theorem rF_note {bd sl : Addr} {pl vf : V} : (rF bd sl pl vf).lookup ("note" : Str) = none := rfl
theorem rF_worth {bd sl : Addr} {pl vf : V} : (rF bd sl pl vf).lookup ("worth" : Str) = none := rfl
theorem rF_by_zero {bd sl : Addr} {pl vf : V} : (rF bd sl pl vf).lookup ("by_zero" : Str) = none := rfl
theorem rF_block {bd sl : Addr} {pl vf : V} : (rF bd sl pl vf).lookup ("block" : Str) = none := rfl
theorem rF_deed {bd sl : Addr} {pl vf : V} : (rF bd sl pl vf).lookup ("deed" : Str) = none := rfl
theorem rF_rounds {bd sl : Addr} {pl vf : V} : (rF bd sl pl vf).lookup ("rounds" : Str) = none := rfl
theorem ok_by_zero (R : RunC K C) (m_refuse : HasM P w K mg base 1 C "refuse" ["self", "word", "path"] (spRefuse C)) (G : FnM K C "by_zero" "Run.by_zero" s_Run_by_zero) : HasM P w K mg base 2 C "by_zero" ["self", "path"] (spByZero C) := by
  refine hasM_of (N := N_Run_by_zero) G sc_Run_by_zero (fun _ _ _ _ _ _ us hl => match us, hl with | [_, _], _ => rfl) (fun vs H Q E h => ?_) (fun f cdv A outer s0 H vs Q E hr h => ?_)
  · obtain ⟨_, _, _, _, _, _, rfl, _⟩ := h
    rfl
  · obtain ⟨r, bd, sl, s, vp, p, rfl, hR, hp, q⟩ := h
    have cl := R.cl
    refine ⟨_, (pss_cons (ps_expr (pe_methH m_refuse cl hr (by decide) (pv 0) (pa2 pe_str (pv 1))))
      (pss_one (ps_ret pe_int))), ?_⟩
    obtain ⟨⟨dx, pl, vf, h1, h2⟩, _⟩ := id hR
    exact ⟨_, rfl, r, dx, _, rfl, h1, rF_refuse, _, rfl, r, bd, sl, s, .zero, vp, p, rfl, hR, hp, fun H' f1 hR' => q _ f1 hR'⟩
/-! ### note -/
abbrev N_Run_note : List Str := ["self", "path", "worth"]
theorem sc_Run_note : FnScope N_Run_note ["self", "path", "worth"] (defScope s_Run_note) := ⟨rfl, rfl, rfl, by decide +kernel, rfl, by decide +kernel, by decide +kernel⟩
def nFt (s : RS) (p : Path) (i : Int) : Option (Fw × Path) := if inW i then s.fault else some (.over, p)
def spNote (C : Addr) : Sp := fun vs H Q _ => ∃ (r bd sl : Addr) (s : RS) (vp : V) (p : Path) (i : Int), vs = [.ref r, vp, .int i] ∧ RunAt H C r bd sl s ∧ IsPa H vp p ∧ s.seen.length ≤ 4000000 ∧ ∀ H', RFm r bd sl H H' → RunAt H' C r bd sl ⟨s.env, s.seen ++ [(p, i)], nFt s p i⟩ → Q (.int i) H'
theorem ok_note (T : Tx K mg) (R : RunC K C) (m_refuse : HasM P w K mg base 1 C "refuse" ["self", "word", "path"] (spRefuse C)) (G : FnM K C "note" "Run.note" s_Run_note) : HasM P w K mg base 2 C "note" ["self", "path", "worth"] (spNote C) := by
  refine hasM_of (N := N_Run_note) G sc_Run_note (fun _ _ _ _ _ _ us hl => match us, hl with | [_, _, _], _ => rfl) (fun vs H Q E h => ?_) (fun f cdv A outer s0 H vs Q E hr h => ?_)
  · obtain ⟨_, _, _, _, _, _, _, rfl, _⟩ := h
    rfl
  · obtain ⟨r, bd, sl, s, vp, p, i, rfl, hR, ⟨pa, rfl, hp⟩, hl, q⟩ := h
    have cl := R.cl
    obtain ⟨tL, mLEAST⟩ := T.LEAST
    obtain ⟨tG, mGREATEST⟩ := T.GREATEST
    refine ⟨_, (pss_cons (ps_expr (pe_bm PySem.F.plainAttrs_list PySem.F.slot_list_append PySem.F.type_list_append mt_append (pe_fld (pv 0) rfl) (pa1 (pt2 (pv 1) (pv 2)))))
      (pss_cons (ps_if (pt_not (pt_chain op_le op_le (pe_glob (v := .int (-32768)) rfl mLEAST ⟨_, rfl⟩) (pv 2) (pe_glob (v := .int 32767) rfl mGREATEST ⟨_, rfl⟩)))
      (pss_one (ps_expr (pe_methH m_refuse cl hr (by decide) (pv 0) (pa2 pe_str (pv 1)))))
      pss_nil)
      (pss_one (ps_ret (pv 2))))), ?_⟩
    obtain ⟨⟨dx, pl, vf, h1, h2⟩, ⟨kvs, h3, h4⟩, ps, h5, h6⟩ := id hR
    refine ⟨_, rfl, r, C, dx, _, _, rfl, h1, R.cl, R.seen, rfl, .inl ⟨rfl, _, .inl (.inl h5)⟩, _, rfl, _, rfl, two, fun t ht => ?_⟩
    have s1 : Same H (upd H t (.tup [.ref pa, .int i])) := same_new ht
    have et : upd H t (.tup [.ref pa, .int i]) t = some (.tup [.ref pa, .int i]) := upd_same
    generalize upd H t (.tup [.ref pa, .int i]) = H1 at s1 et
    have h5' := s1 _ _ h5
    have hpl : ps.length = s.seen.length := h6.length
    refine ⟨sl, _, _, rfl, rfl, h5', big_line (by rw [List.length_map]; omega), ?_⟩
    have f2 : RFm r bd sl H1 (upd H1 sl (.lst (ps.map V.ref ++ [.ref t]))) := ⟨.put fun xs z => (by rw [h5'] at z; cases z), .put (by simp)⟩
    have hR2 : RunAt (upd H1 sl (.lst (ps.map V.ref ++ [.ref t]))) C r bd sl ⟨s.env, s.seen ++ [(p, i)], s.fault⟩ := by
      refine ⟨⟨dx, pl, vf, ?_, (h2.mono (.of_same s1)).mono f2.1⟩, ⟨kvs, ?_, h4⟩, ps ++ [t], by rw [upd_same, List.map_append]; rfl, Paired.snoc ((h6.mono (.of_same s1)).mono f2.1) ⟨pa, f2.1 _ _ et, f2.1 _ _ (s1 _ _ hp)⟩⟩
      · rw [upd_ne (ne_of (s1 _ _ h1) h5' (by intro z; cases z))]
        exact s1 _ _ h1
      · rw [upd_ne (ne_of (s1 _ _ h3) h5' (by intro z; cases z))]
        exact s1 _ _ h3
    have f3 := RFm.trans (.of s1) f2
    generalize upd H1 sl (.lst (ps.map V.ref ++ [.ref t])) = H2 at hR2 f3
    refine ⟨_, rfl, _, _, rfl, rfl, _, rfl, ifC (fun c1 => ⟨_, _, rfl, rfl, _, rfl, ?_⟩) (fun c1 => ⟨_, rfl, ?_⟩)⟩
    · refine ifC (fun c2 => ?_) fun c2 => ?_
      · have hn : ¬ i ≤ 32767 := by simpa using c2
        obtain ⟨⟨dx, pl, vf, h1, h2⟩, _⟩ := id hR2
        refine ⟨_, rfl, r, dx, _, rfl, h1, rF_refuse, _, rfl, r, bd, sl, _, .over, _, p, rfl, hR2, ⟨pa, rfl, f3.1 _ _ hp⟩, fun H3 f4 hR3 => ⟨_, rfl, ?_⟩⟩
        refine q _ (f3.trans f4) ?_
        rw [nFt, if_neg (fun z => hn z.2)]
        exact hR3
      · have hn : i ≤ 32767 := by simpa using c2
        refine ⟨_, rfl, q _ f3 ?_⟩
        rw [nFt, if_pos ⟨of_decide_eq_true c1, hn⟩]
        exact hR2
    · refine ifT rfl ?_
      have hn : ¬ -32768 ≤ i := of_decide_eq_false c1
      obtain ⟨⟨dx, pl, vf, h1, h2⟩, _⟩ := id hR2
      refine ⟨_, rfl, r, dx, _, rfl, h1, rF_refuse, _, rfl, r, bd, sl, _, .over, _, p, rfl, hR2, ⟨pa, rfl, f3.1 _ _ hp⟩, fun H3 f4 hR3 => ⟨_, rfl, ?_⟩⟩
      refine q _ (f3.trans f4) ?_
      rw [nFt, if_neg (fun z => hn z.1)]
      exact hR3
end
end Sr
end
section
set_option Elab.async false
set_option linter.all false
set_option maxRecDepth 100000
set_option maxHeartbeats 4000000
/-! a walk over a paper as it stands: its notes, its heads, what is used -/
namespace Sr
open PySem PySem.Spec PyProof.Rows L2 SrM SrK
/-! ### by path -/
abbrev pK (p : Path) : List Key := p.map Sum.inl
theorem pK_kV (p : Path) : (pK p).map kV = p.map V.int := by
  rw [List.map_map]
  rfl
theorem pK_inj {p q : Path} (h : pK p = pK q) : p = q := by
  refine kVs_inj' h
where
  kVs_inj' : ∀ {p q : Path}, pK p = pK q → p = q
    | [], [], _ => rfl
    | [], _ :: _, h => by cases h
    | _ :: _, [], h => by cases h
    | x :: p, y :: q, h => by
      injection h with h1 h2
      injection h1 with h1
      rw [h1, kVs_inj' h2]
def putP {α : Type} (f : Path → Option α) (p : Path) (v : α) : Path → Option α := fun q => if q = p then some v else f q
theorem putP_same {α : Type} (f : Path → Option α) (p : Path) (v : α) : putP f p v p = some v := by simp [putP]
theorem putP_ne {α : Type} {f : Path → Option α} {p q : Path} {v : α} (h : q ≠ p) : putP f p v q = f q := by simp [putP, h]
structure PAt {α : Type} (R : V → α → Prop) (kvs : List (List Key × V)) (f : Path → Option α) : Prop where
  ks : ∃ qs : List Path, kvs.map (·.1) = qs.map pK ∧ qs.Nodup
  no : ∀ p, f p = none → valV kvs (pK p) = none
  so : ∀ p s, f p = some s → ∃ v, valV kvs (pK p) = some v ∧ R v s
section
variable {α : Type} {R R' : V → α → Prop} {kvs : List (List Key × V)} {f : Path → Option α}
theorem PAt.mono (h : PAt R kvs f) (g : ∀ v s, R v s → R' v s) : PAt R' kvs f := ⟨h.ks, h.no, fun p s e => by
  obtain ⟨v, e1, e2⟩ := h.so p s e
  exact ⟨v, e1, g v s e2⟩⟩
theorem PAt.nil : PAt R [] (fun _ => none) := ⟨⟨[], rfl, List.nodup_nil⟩, fun _ _ => rfl, fun p s e => by cases e⟩
theorem PAt.congr {f' : Path → Option α} (h : PAt R kvs f) (e : f = f') : PAt R kvs f' := e ▸ h
theorem valV_inT {kvs : List (List Key × V)} {k : List Key} : (valV kvs k).isSome = true ↔ k ∈ kvs.map (·.1) := by
  induction kvs with
  | nil => simp [valV_nil]
  | cons p r ih =>
    by_cases e : p.1 = k
    · rw [valV_pos e]; simp [e]
    · rw [valV_neg e, ih]
      simp only [List.map_cons, List.mem_cons]
      constructor
      · exact fun h => .inr h
      · rintro (h | h)
        · exact absurd h.symm e
        · exact h
theorem PAt.isSome (h : PAt R kvs f) (p : Path) : (valV kvs (pK p)).isSome = (f p).isSome := by
  cases e : f p with
  | none => rw [h.no p e]; rfl
  | some s =>
    obtain ⟨v, e1, _⟩ := h.so p s e
    rw [e1]; rfl
theorem PAt.key (h : PAt R kvs f) {i : Nat} {k : List Key} {v : V} (e : kvs[i]? = some (k, v)) : ∃ p, k = pK p ∧ (f p).isSome = true := by
  obtain ⟨qs, e1, nd⟩ := h.ks
  have hk : k ∈ kvs.map (·.1) := List.mem_map.mpr ⟨(k, v), List.mem_of_getElem? e, rfl⟩
  have hk' := hk
  rw [e1] at hk
  obtain ⟨p, _, rfl⟩ := List.mem_map.mp hk
  exact ⟨p, rfl, by rw [← h.isSome p]; exact valV_inT.mpr hk'⟩
theorem PAt.mem (h : PAt R kvs f) {qs : List Path} (e : kvs.map (·.1) = qs.map pK) (p : Path) : p ∈ qs ↔ (f p).isSome = true := by
  rw [← h.isSome p, valV_inT, e]
  exact ⟨fun hp => List.mem_map.mpr ⟨p, hp, rfl⟩, fun hp => by
    obtain ⟨q, hq, e⟩ := List.mem_map.mp hp
    rw [← pK_inj e]
    exact hq⟩
theorem PAt.put (h : PAt R kvs f) {p : Path} {v : V} {s : α} (r : R v s) : PAt R (putK kvs (pK p) v) (putP f p s) := by
  refine ⟨?_, fun y e => ?_, fun y t e => ?_⟩
  · obtain ⟨qs, e1, nd⟩ := h.ks
    cases q : valV kvs (pK p) with
    | none =>
      refine ⟨qs ++ [p], ?_, ?_⟩
      · rw [putK_new v q, List.map_append, List.map_append, e1]
        rfl
      · refine List.nodup_append.mpr ⟨nd, by simp, fun a ha b hb => ?_⟩
        rw [List.mem_singleton.mp hb]
        rintro rfl
        have : (valV kvs (pK a)).isSome = true := valV_inT.mpr (by rw [e1]; exact List.mem_map.mpr ⟨a, ha, rfl⟩)
        rw [q] at this
        cases this
    | some u =>
      refine ⟨qs, ?_, nd⟩
      rw [← e1]
      unfold putK
      rw [valV_any, q]
      simp only [Option.isSome_some, if_true, List.map_map]
      refine List.map_congr_left fun p _ => ?_
      simp only [Function.comp]
      split <;> rfl
  · rw [valV_put]
    by_cases c : y = p
    · subst c; rw [putP_same] at e; cases e
    · rw [if_neg (fun z => c (pK_inj z)), h.no y (by rw [putP_ne c] at e; exact e)]
  · rw [valV_put]
    by_cases c : y = p
    · subst c
      rw [putP_same] at e
      injection e with e
      subst e
      exact ⟨v, by rw [if_pos rfl], r⟩
    · rw [putP_ne c] at e
      obtain ⟨u, e1, e2⟩ := h.so y t e
      exact ⟨u, by rw [if_neg (fun z => c (pK_inj z)), e1], e2⟩
end
/-! ### kept but for instances and dicts by path -/
def Kp (H H' : Hp) : Prop := ∀ b o, H b = some o → (∀ C dx fs, o ≠ .ins C dx fs) → (∀ kvs, o ≠ .dT kvs) → H' b = some o
theorem Kp.refl (H : Hp) : Kp H H := fun _ _ e _ _ => e
theorem Kp.trans {H H1 H2 : Hp} (a : Kp H H1) (b : Kp H1 H2) : Kp H H2 := fun c o e n m => b c o (a c o e n m) n m
theorem Kp.of {H H' : Hp} (s : Same H H') : Kp H H' := fun b o e _ _ => s _ _ e
theorem Kp.tups {H H' : Hp} (k : Kp H H') : Tups H H' := fun b xs e => k b _ e (fun _ _ _ z => by cases z) fun _ z => by cases z
theorem Kp.dK {H H' : Hp} (k : Kp H H') {d : Addr} {kvs : List (Key × V)} (e : H d = some (.dK kvs)) : H' d = some (.dK kvs) := k d _ e (fun _ _ _ z => by cases z) fun _ z => by cases z
theorem Kp.bk {K : PySem.W.Frag} {H H' : Hp} (k : Kp H H') {d : Addr} {bk : Bk Sg} (h : BkAt K H d bk) : BkAt K H' d bk := h.mono k.tups fun _ e => k.dK e
theorem Kp.bkO {K : PySem.W.Frag} {H H' : Hp} (k : Kp H H') {v : V} {o : Option (Bk Sg)} (h : BkO K H v o) : BkO K H' v o := by
  cases o with
  | none => exact h
  | some bk =>
    obtain ⟨d, e, h⟩ := h
    exact ⟨d, e, k.bk h⟩
theorem Kp.put_T {H : Hp} {a : Addr} {kvs : List (List Key × V)} {o : HO} (e : H a = some (.dT kvs)) : Kp H (upd H a o) := fun b u eb n m => by
  rw [upd_ne (fun z => by rw [z, e] at eb; injection eb with eb; exact m kvs eb.symm)]
  exact eb
theorem Kp.put_I {H : Hp} {a C dx : Addr} {fs : List (Str × V)} {o : HO} (e : H a = some (.ins C dx fs)) : Kp H (upd H a o) := fun b u eb n m => by
  rw [upd_ne (fun z => by rw [z, e] at eb; injection eb with eb; exact n C dx fs eb.symm)]
  exact eb
/-! ### the state -/
structure GS where
  notes : List (Path × Sg)
  heads : Path → Option (Bk Sg)
  used : List Path
  hn : Nat
def GS.sz (g : GS) : Nat := g.notes.length + g.hn + g.used.length
/-- what is noted last -/
def nF : List (Path × Sg) → Path → Option Sg := fun l q => l.reverse.lookup q
theorem nF_put (l : List (Path × Sg)) (p : Path) (m : Sg) : nF (l ++ [(p, m)]) = putP (nF l) p m := funext fun q => by
  unfold nF putP
  rw [List.reverse_append, List.reverse_singleton, List.singleton_append, List.lookup_cons]
  by_cases c : q = p
  · subst c; simp
  · rw [show (q == p) = false from beq_false_of_ne c, if_neg c]
def uF (l : List Path) : Path → Option Unit := fun q => if q ∈ l then some () else none
theorem uF_put (l : List Path) (p : Path) : uF (l ++ [p]) = putP (uF l) p () := funext fun q => by
  unfold uF putP
  by_cases c : q = p
  · subst c; simp
  · simp [c]
abbrev wF (hd nt us : Addr) : List (Str × V) := [("heads", .ref hd), ("notes", .ref nt), ("used", .ref us)]
structure WkP (K : PySem.W.Frag) (H : Hp) (C wk dx hd nt us : Addr) (hkv nkv ukv : List (List Key × V)) (g : GS) : Prop where
  ob : H wk = some (.ins C dx (wF hd nt us))
  eh : H hd = some (.dT hkv)
  en : H nt = some (.dT nkv)
  eu : H us = some (.dT ukv)
  n1 : hd ≠ nt
  n2 : hd ≠ us
  n3 : nt ≠ us
  ph : PAt (fun v bk => ∃ b, v = .ref b ∧ BkAt K H b bk) hkv g.heads
  pn : PAt (IsSt K H) nkv (nF g.notes)
  pu : PAt (fun _ _ => True) ukv (uF g.used)
  lh : hkv.length ≤ g.hn
  ln : nkv.length ≤ g.notes.length
  lu : ukv.length ≤ g.used.length
def WkAt (K : PySem.W.Frag) (H : Hp) (C wk : Addr) (g : GS) : Prop := ∃ dx hd nt us hkv nkv ukv, WkP K H C wk dx hd nt us hkv nkv ukv g
section
variable {K : PySem.W.Frag} {H H' : Hp} {C wk : Addr} {g : GS}
theorem bks_mono (t : Tups H H') (d : ∀ b kvs, H b = some (.dK kvs) → H' b = some (.dK kvs)) : ∀ v bk, (∃ b, v = V.ref b ∧ BkAt K H b bk) → ∃ b, v = V.ref b ∧ BkAt K H' b bk := fun v bk ⟨b, e, h⟩ => ⟨b, e, h.mono t (d b)⟩
theorem WkAt.same (h : WkAt K H C wk g) (s : Same H H') : WkAt K H' C wk g := by
  obtain ⟨dx, hd, nt, us, hkv, nkv, ukv, W⟩ := h
  exact ⟨dx, hd, nt, us, hkv, nkv, ukv, s _ _ W.ob, s _ _ W.eh, s _ _ W.en, s _ _ W.eu, W.n1, W.n2, W.n3, W.ph.mono (bks_mono (.of_same s) fun b kvs e => s _ _ e), W.pn.mono fun v s' e => e.mono (.of_same s), W.pu, W.lh, W.ln, W.lu⟩
theorem ins_ne_T {a b C dx : Addr} {fs : List (Str × V)} {kvs : List (List Key × V)} (h : H a = some (.ins C dx fs)) (h' : H b = some (.dT kvs)) : a ≠ b := ne_of h h' (by intro z; cases z)
/-- one note more -/
theorem WkP.note {dx hd nt us : Addr} {hkv nkv ukv : List (List Key × V)} (W : WkP K H C wk dx hd nt us hkv nkv ukv g) {p : Path} {v : V} {m : Sg} (hm : IsSt K H v m) :
    Kp H (upd H nt (.dT (putK nkv (pK p) v))) ∧ WkAt K (upd H nt (.dT (putK nkv (pK p) v))) C wk ⟨g.notes ++ [(p, m)], g.heads, g.used, g.hn⟩ := by
  have k : Kp H (upd H nt (.dT (putK nkv (pK p) v))) := .put_T W.en
  refine ⟨k, dx, hd, nt, us, hkv, _, ukv, ?_, ?_, upd_same, ?_, W.n1, W.n2, W.n3, W.ph.mono (bks_mono k.tups fun b kvs e => k.dK e), ?_, W.pu, W.lh, ?_, W.lu⟩
  · rw [upd_ne (ins_ne_T W.ob W.en)]; exact W.ob
  · rw [upd_ne W.n1]; exact W.eh
  · rw [upd_ne W.n3.symm]; exact W.eu
  · rw [show nF (g.notes ++ [(p, m)]) = putP (nF g.notes) p m from nF_put _ _ _]
    exact (W.pn.mono fun v s e => e.mono k.tups).put (hm.mono k.tups)
  · rw [List.length_append, List.length_singleton]
    exact Nat.le_trans (length_putK _ _ _) (Nat.succ_le_succ W.ln)
/-- one head used more -/
theorem WkP.use {dx hd nt us : Addr} {hkv nkv ukv : List (List Key × V)} (W : WkP K H C wk dx hd nt us hkv nkv ukv g) {p : Path} {v : V} :
    Kp H (upd H us (.dT (putK ukv (pK p) v))) ∧ WkAt K (upd H us (.dT (putK ukv (pK p) v))) C wk ⟨g.notes, g.heads, g.used ++ [p], g.hn⟩ := by
  have k : Kp H (upd H us (.dT (putK ukv (pK p) v))) := .put_T W.eu
  refine ⟨k, dx, hd, nt, us, hkv, nkv, _, ?_, ?_, ?_, upd_same, W.n1, W.n2, W.n3, W.ph.mono (bks_mono k.tups fun b kvs e => k.dK e), W.pn.mono fun v s e => e.mono k.tups, ?_, W.lh, W.ln, ?_⟩
  · rw [upd_ne (ins_ne_T W.ob W.eu)]; exact W.ob
  · rw [upd_ne W.n2]; exact W.eh
  · rw [upd_ne W.n3]; exact W.en
  · rw [show uF (g.used ++ [p]) = putP (uF g.used) p () from uF_put _ _]
    exact W.pu.put trivial
  · rw [List.length_append, List.length_singleton]
    exact Nat.le_trans (length_putK _ _ _) (Nat.succ_le_succ W.lu)
/-- one head stored -/
theorem WkP.head {dx hd nt us : Addr} {hkv nkv ukv : List (List Key × V)} (W : WkP K H C wk dx hd nt us hkv nkv ukv g) {p : Path} {b : Addr} {bk : Bk Sg} (hb : BkAt K H b bk) :
    Kp H (upd H hd (.dT (putK hkv (pK p) (.ref b)))) ∧ WkAt K (upd H hd (.dT (putK hkv (pK p) (.ref b)))) C wk ⟨g.notes, putP g.heads p bk, g.used, g.hn + 1⟩ := by
  have k : Kp H (upd H hd (.dT (putK hkv (pK p) (.ref b)))) := .put_T W.eh
  refine ⟨k, dx, hd, nt, us, _, nkv, ukv, ?_, upd_same, ?_, ?_, W.n1, W.n2, W.n3, ?_, W.pn.mono fun v s e => e.mono k.tups, W.pu, ?_, W.ln, W.lu⟩
  · rw [upd_ne (ins_ne_T W.ob W.eh)]; exact W.ob
  · rw [upd_ne W.n1.symm]; exact W.en
  · rw [upd_ne W.n2.symm]; exact W.eu
  · exact (W.ph.mono (bks_mono k.tups fun b kvs e => k.dK e)).put ⟨b, rfl, k.bk hb⟩
  · exact Nat.le_trans (length_putK _ _ _) (Nat.succ_le_succ W.lh)
end
/-! ### what a stretch of a walk does to the state -/
def HPost (R : Path → Prop) (hs hs' : Path → Option (Bk Sg)) (l : List (Path × Bk Sg)) : Prop :=
  (∀ q, ¬ R q → hs' q = hs q) ∧ ∀ q, (∃ h, (q, h) ∈ l ∧ hs' q = some h) ∨ ((∀ h, (q, h) ∉ l) ∧ (hs' q = hs q ∨ hs' q = none))
theorem HPost.refl (R : Path → Prop) (hs : Path → Option (Bk Sg)) : HPost R hs hs [] := ⟨fun _ _ => rfl, fun q => .inr ⟨fun h z => (nomatch z), .inl rfl⟩⟩
theorem HPost.mono {R R' : Path → Prop} {hs hs' : Path → Option (Bk Sg)} {l : List (Path × Bk Sg)} (h : HPost R hs hs' l) (f : ∀ q, R q → R' q) : HPost R' hs hs' l := ⟨fun q n => h.1 q fun z => n (f q z), h.2⟩
theorem HPost.trans {R1 R2 R : Path → Prop} {hs hs1 hs2 : Path → Option (Bk Sg)} {l1 l2 : List (Path × Bk Sg)} (h1 : HPost R1 hs hs1 l1) (h2 : HPost R2 hs1 hs2 l2) (k1 : ∀ z ∈ l1, R1 z.1)
    (d : ∀ q, R1 q → R2 q → False) (f1 : ∀ q, R1 q → R q) (f2 : ∀ q, R2 q → R q) : HPost R hs hs2 (l1 ++ l2) := by
  refine ⟨fun q n => by rw [h2.1 q fun z => n (f2 q z), h1.1 q fun z => n (f1 q z)], fun q => ?_⟩
  rcases h2.2 q with ⟨h, hm, e⟩ | ⟨nm, e⟩
  · exact .inl ⟨h, List.mem_append_right _ hm, e⟩
  · rcases h1.2 q with ⟨h, hm, e1⟩ | ⟨nm1, e1⟩
    · have r1 := k1 _ hm
      exact .inl ⟨h, List.mem_append_left _ hm, by rw [h2.1 q fun z => d q r1 z, e1]⟩
    · refine .inr ⟨fun h z => (List.mem_append.mp z).elim (nm1 h) (nm h), ?_⟩
      rcases e with e | e
      · rw [e]; exact e1
      · exact .inr e
def Pre (fi : Bool) (g : GS) (l : List (Path × Bk Sg)) : Prop := fi = false → ∀ z ∈ l, g.heads z.1 = some z.2
def Post (fi : Bool) (b : Nat) (R : Path → Prop) (g g' : GS) (ns : List (Path × Sg)) (l : List (Path × Bk Sg)) : Prop :=
  g'.sz ≤ g.sz + b ∧ (fi = false → g'.notes = g.notes ++ ns ∧ g'.heads = g.heads ∧ g'.used = g.used ++ l.map (·.1)) ∧ (fi = true → HPost R g.heads g'.heads l)
theorem Post.refl (fi : Bool) (R : Path → Prop) (g : GS) : Post fi 0 R g g [] [] := ⟨Nat.le_refl _, fun _ => ⟨by simp, rfl, by simp⟩, fun _ => .refl R _⟩
theorem Post.mono {fi : Bool} {b b' : Nat} {R R' : Path → Prop} {g g' : GS} {ns : List (Path × Sg)} {l : List (Path × Bk Sg)} (h : Post fi b R g g' ns l) (hb : b ≤ b') (f : ∀ q, R q → R' q) : Post fi b' R' g g' ns l :=
  ⟨Nat.le_trans h.1 (Nat.add_le_add_left hb _), h.2.1, fun z => (h.2.2 z).mono f⟩
theorem Post.trans {fi : Bool} {b1 b2 : Nat} {R1 R2 R : Path → Prop} {g g1 g2 : GS} {n1 n2 : List (Path × Sg)} {l1 l2 : List (Path × Bk Sg)} (h1 : Post fi b1 R1 g g1 n1 l1) (h2 : Post fi b2 R2 g1 g2 n2 l2) (k1 : ∀ z ∈ l1, R1 z.1)
    (d : ∀ q, R1 q → R2 q → False) (f1 : ∀ q, R1 q → R q) (f2 : ∀ q, R2 q → R q) : Post fi (b1 + b2) R g g2 (n1 ++ n2) (l1 ++ l2) := by
  refine ⟨by have := h1.1; have := h2.1; omega, fun z => ?_, fun z => (h1.2.2 z).trans (h2.2.2 z) k1 d f1 f2⟩
  obtain ⟨a1, a2, a3⟩ := h1.2.1 z
  obtain ⟨c1, c2, c3⟩ := h2.2.1 z
  exact ⟨by rw [c1, a1, List.append_assoc], c2.trans a2, by rw [c3, a3, List.append_assoc, List.map_append]⟩
/-- notes alone -/
theorem Post.notes (fi : Bool) (R : Path → Prop) (g : GS) (ns : List (Path × Sg)) : Post fi ns.length R g ⟨g.notes ++ ns, g.heads, g.used, g.hn⟩ ns [] :=
  ⟨by unfold GS.sz; simp only [List.length_append]; omega, fun _ => ⟨rfl, rfl, by simp⟩, fun _ => .refl R _⟩
theorem Pre.post {fi : Bool} {b : Nat} {R : Path → Prop} {g g' : GS} {ns : List (Path × Sg)} {l l' : List (Path × Bk Sg)} (h : Pre fi g l') (p : Post fi b R g g' ns l) : Pre fi g' l' := fun z y hy => by
  rw [(p.2.1 z).2.1]
  exact h z y hy
theorem Pre.sub {fi : Bool} {g : GS} {l l' : List (Path × Bk Sg)} (h : Pre fi g l) (s : ∀ z ∈ l', z ∈ l) : Pre fi g l' := fun z y hy => h z y (s y hy)
theorem abS_len (bk : Bk Sg) : ∀ (e : Ex) (p : Path), (abS bk e p).1.length ≤ szE e
  | .num n, p => Nat.le_refl 1
  | .name x, p => by
    unfold abS
    cases bk x <;> simp [szE]
  | .bin u l r, p => by
    have h1 := abS_len bk l (p ++ [0])
    have h2 := abS_len bk r (p ++ [1])
    rw [szE, abS]
    cases e1 : abS bk l (p ++ [0]) with
    | mk n1 o1 =>
      rw [e1] at h1
      cases o1 with
      | none => simp only at h1 ⊢; omega
      | some s =>
        simp only at h1 ⊢
        cases e2 : stOf u (some s) (abS bk r (p ++ [1])).2 with
        | none => simp only [List.length_append]; omega
        | some m => simp only [List.length_append, List.length_singleton]; omega
end Sr
end
section
set_option Elab.async false
set_option linter.all false
set_option maxRecDepth 100000
set_option maxHeartbeats 4000000
/-! walks: Walk.stretch -/
namespace Sr
open PySem PySem.Spec PyProof.Rows L2 SrM SrK
structure WalkC (K : PySem.W.Frag) (C : Addr) : Prop where
  cl : Cls K C
  heads : NoAttr K C "heads"
  notes : NoAttr K C "notes"
  used : NoAttr K C "used"
section
variable {P : Program} {w : World} {K : PySem.W.Frag} {mg : Str → Option Value} {base : Heap} {C : Addr}
theorem wF_stretch {hd nt us : Addr} : (wF hd nt us).lookup ("stretch" : Str) = none := rfl
theorem wF_block {hd nt us : Addr} : (wF hd nt us).lookup ("block" : Str) = none := rfl
theorem wF_deed {hd nt us : Addr} : (wF hd nt us).lookup ("deed" : Str) = none := rfl
theorem wF_block_behind {hd nt us : Addr} : (wF hd nt us).lookup ("block_behind" : Str) = none := rfl
theorem wF_round_from {hd nt us : Addr} : (wF hd nt us).lookup ("round_from" : Str) = none := rfl
theorem wF_rounds {hd nt us : Addr} : (wF hd nt us).lookup ("rounds" : Str) = none := rfl
theorem wF_next_head {hd nt us : Addr} : (wF hd nt us).lookup ("next_head" : Str) = none := rfl
abbrev N_Walk_stretch : List Str := ["self", "expr", "book", "path", "made", "one"]
theorem sc_Walk_stretch : FnScope N_Walk_stretch ["self", "expr", "book", "path"] (defScope s_Walk_stretch) := ⟨rfl, rfl, rfl, by decide +kernel, rfl, by decide +kernel, by decide +kernel⟩
def spStr (K : PySem.W.Frag) (C : Addr) (n : Nat) : Sp := fun vs H Q _ => ∃ (wk : Addr) (g : GS) (ve : V) (e : Ex) (d : Addr) (bk : Bk Sg) (vp : V) (p : Path) (Kn : Nm → Prop), vs = [.ref wk, ve, .ref d, vp] ∧ WkAt K H C wk g ∧ IsEx H ve e ∧ dpE e ≤ n ∧ BkAt K H d bk ∧ wideB bk ∧ wfE Kn e ∧ inDom Kn bk ∧
  IsPa H vp p ∧ p.length + dpE e ≤ 1000 ∧ g.sz + szE e ≤ 4000000 ∧ ∀ v H', Kp H H' → WkAt K H' C wk ⟨g.notes ++ (abS bk e p).1, g.heads, g.used, g.hn⟩ → IsO K H' v (abS bk e p).2 → Q v H'
/-- what stands behind the question of the sum's kind -/
def abR (bk : Bk Sg) (e : Ex) (p : Path) (n0 : List (Path × Sg)) (o : Option Sg) : Prop := abS bk e p = match o with
  | none => (n0, none)
  | some m => (n0 ++ [(p, m)], SrM.mt m WW)
theorem ok_stretch (T : Tx K mg) (Wc : WalkC K C) (h_stretch_of : Has P w K mg base 4 "stretch_of" ["word", "one", "other"] (spStOf K)) (h_met : Has P w K mg base 1 "met" ["one", "other"] (spM2 K)) (G : FnM K C "stretch" "Walk.stretch" s_Walk_stretch) :
    ∀ n, HasM P w K mg base (5 + n) C "stretch" ["self", "expr", "book", "path"] (spStr K C n)
  | 0 => hasM_of (k := 4) (N := N_Walk_stretch) G sc_Walk_stretch (fun _ _ _ _ _ _ us hl => match us, hl with | [_, _, _, _], _ => rfl) (fun vs H Q E h => by obtain ⟨_, _, _, _, _, _, _, _, _, rfl, _⟩ := h; rfl) (fun f cdv A outer s0 H vs Q E hr h => by
    obtain ⟨_, _, _, e, _, _, _, _, _, rfl, _, _, hd, _⟩ := h
    have := dpE_pos e
    omega)
  | n + 1 => by
    have m_stretch := ok_stretch T Wc h_stretch_of h_met G n
    refine hasM_of (k := 5 + n) (N := N_Walk_stretch) G sc_Walk_stretch (fun _ _ _ _ _ _ us hl => match us, hl with | [_, _, _, _], _ => rfl) (fun vs H Q E h => ?_) (fun f cdv A outer s0 H vs Q E hr h => ?_)
    · obtain ⟨_, _, _, _, _, _, _, _, _, rfl, _⟩ := h
      rfl
    · obtain ⟨wk, g, ve, e, d, bk, vp, p, Kn, rfl, hW, he, hd, hb, hw, wf, hK, hp, hpl, hz, q⟩ := h
      obtain ⟨aW, mWIDE, hWI⟩ := T.WIDE
      refine ⟨_, (Evl.pss_cut (ps_if (pt_cmpR op_eq (ixc (pv 1)) pe_str (nomark _))
      (pss_one (ps_set (i := 4) sc_Walk_stretch.nd rfl (.inl rfl) (pt2 (ixc (pv 1)) (ixc (pv 1)))))
      (pss_one (ps_if (pt_cmpR op_eq (ixc (pv 1)) pe_str (nomark _))
      (pss_one (ps_set (i := 4) sc_Walk_stretch.nd rfl (.inl rfl) (pe_dget (hu1 hr) (pv 2) (ixc (pv 1)) (fun _ _ => rfl))))
      (pss_cons (ps_set (i := 5) sc_Walk_stretch.nd rfl (.inl rfl) (pe_methH m_stretch Wc.cl hr (by omega) (pv 0) (pa3 (ixc (pv 1)) (pv 2) (pe_op op_path (pv 3) (pe_tup (pa1 pe_int))))))
      (pss_cons (ps_if (pt_cmpR op_isN (pv 5) pe_non (nomark _))
      (pss_one (ps_ret pe_non))
      pss_nil)
      (pss_one (ps_set (i := 4) sc_Walk_stretch.nd rfl (.inl rfl) (pe_callH h_stretch_of hr (by omega) (pa3 (ixc (pv 1)) (pv 5) (pe_methH m_stretch Wc.cl hr (by omega) (pv 0) (pa3 (ixc (pv 1)) (pv 2) (pe_op op_path (pv 3) (pe_tup (pa1 pe_int))))))))))))))
      (pss_cons (ps_if (pt_cmpR op_isN (pv 4) pe_non (nomark _))
      (pss_one (ps_ret pe_non))
      pss_nil)
      (pss_cons (ps_dput (hu1 hr) (pe_fld (pv 0) rfl) (pv 3) (pv 4) rfl)
      (pss_one (ps_ret (pe_callH h_met hr (by omega) (pa2 (pv 4) (pe_glob (v := .ref aW) rfl mWIDE rfl)))))))), ?_⟩
      have hal := abS_len bk e p
      unfold GS.sz at hz
      refine ⟨fun σ H' => ∃ v y5 n0 o, σ = [some (.ref wk), some ve, some (.ref d), some vp, some v, y5] ∧ Kp H H' ∧ WkAt K H' C wk ⟨g.notes ++ n0, g.heads, g.used, g.hn⟩ ∧ IsO K H' v o ∧ abR bk e p n0 o, ?_, ?_⟩
      · cases e with
        | num m =>
          obtain ⟨a, rfl, ha⟩ := he
          refine ⟨_, rfl, _, _, _, _, rfl, rfl, sq_of ha, at0, rfl, _, rfl, ifT (by decide +kernel) ⟨_, rfl, _, _, _, _, rfl, rfl, sq_of ha, at1, _, rfl, _, _, _, _, rfl, rfl, sq_of ha, at1, two, fun t ht => ?_⟩⟩
          exact ⟨_, _, [], some (m, m), rfl, .of (same_new ht), by rw [List.append_nil]; exact hW.same (same_new ht), ⟨t, rfl, .inl upd_same⟩, rfl⟩
        | name y =>
          obtain ⟨a, rfl, ha⟩ := he
          obtain ⟨kvs, hk, D⟩ := hb
          obtain ⟨v, s, e1, e2, e3⟩ := D.get (hK y wf)
          refine ⟨_, rfl, _, _, _, _, rfl, rfl, sq_of ha, at0, rfl, _, rfl, ifF (by decide +kernel) ⟨_, rfl, _, _, _, _, rfl, rfl, sq_of ha, at0, rfl, _, rfl, ifT (by decide +kernel) ⟨_, rfl, _, rfl, _, _, _, _, rfl, rfl, sq_of ha, at1, d, v, rfl, by rw [← e2]; exact DGet.k (k := nK y) hk, ?_⟩⟩⟩
          refine ⟨_, _, [], some s, rfl, .refl H, by rw [List.append_nil]; exact hW, e3, ?_⟩
          unfold abR
          rw [abS, e1]
          rfl
        | bin u l r =>
          obtain ⟨a, vl, vr, rfl, ha, hl, hrr⟩ := he
          have hd : 1 + max (dpE l) (dpE r) ≤ n + 1 := hd
          have hpl : p.length + (1 + max (dpE l) (dpE r)) ≤ 1000 := hpl
          have hz' : szE (.bin u l r) = 1 + (szE l + szE r) := by rw [szE]; omega
          have hal1 := abS_len bk l (p ++ [0])
          obtain ⟨dx, hdd, nt, us, hkv, nkv, ukv, W⟩ := id hW
          refine ⟨_, rfl, _, _, _, _, rfl, rfl, sq_of ha, at0, rfl, _, rfl, ifF (by cases u <;> decide +kernel) ⟨_, rfl, _, _, _, _, rfl, rfl, sq_of ha, at0, rfl, _, rfl, ifF (by cases u <;> decide +kernel) ?_⟩⟩
          refine ⟨_, rfl, wk, dx, _, rfl, W.ob, wF_stretch, _, rfl, _, _, _, _, rfl, rfl, sq_of ha, at1, _, rfl, _, rfl, one_line, fun t ht => ⟨p, 0, t, hp.mono (.new ht), rfl, upd_same, by omega, fun v1 H1 s1 hp1 => ?_⟩⟩
          have s1 := (same_new ht).trans s1
          refine ⟨wk, g, vl, l, d, bk, v1, p ++ [0], Kn, rfl, hW.same s1, hl.mono (.of_same s1), by omega, hb.same s1, hw, wf.1, hK, hp1, by rw [List.length_append, List.length_singleton]; omega, by unfold GS.sz; omega, fun vo H2 k2 hW2 ho => ?_⟩
          have k2 := Kp.trans (.of s1) k2
          refine ⟨_, rfl, rfl, _, rfl, ?_⟩
          rw [isO_non ho]
          cases el : abS bk l (p ++ [0]) with
          | mk n1 o1 =>
            rw [el] at hW2 ho hal1
            have hW2 : WkAt K H2 C wk ⟨g.notes ++ n1, g.heads, g.used, g.hn⟩ := hW2
            have hal1 : n1.length ≤ szE l := hal1
            cases o1 with
            | none =>
              have eb : abS bk (.bin u l r) p = (n1, none) := by rw [abS, el]
              refine ifT rfl (q .non H2 k2 ?_ ?_)
              · rw [eb]; exact hW2
              · rw [eb]; rfl
            | some s =>
              obtain ⟨dx, hdd, nt, us, hkv, nkv, ukv, W⟩ := id hW2
              have ha := k2.tups _ _ ha
              have hp := hp.mono k2.tups
              refine ifF rfl ⟨_, rfl, _, _, _, _, rfl, rfl, sq_of ha, at0, _, rfl, ?_⟩
              refine ⟨_, rfl, wk, dx, _, rfl, W.ob, wF_stretch, _, rfl, _, _, _, _, rfl, rfl, sq_of ha, at2, _, rfl, _, rfl, one_line, fun t ht => ⟨p, 1, t, hp.mono (.new ht), rfl, upd_same, by omega, fun v3 H3 s3 hp3 => ?_⟩⟩
              have s3 := (same_new ht).trans s3
              have k3 := k2.trans (.of s3)
              refine ⟨wk, _, vr, r, d, bk, v3, p ++ [1], Kn, rfl, hW2.same s3, hrr.mono k3.tups, by omega, k3.bk hb, hw, wf.2, hK, hp3, by rw [List.length_append, List.length_singleton]; omega, by unfold GS.sz; simp only [List.length_append]; omega, fun vo2 H4 k4 hW4 ho4 => ?_⟩
              have ho1 : IsSt K H4 vo s := IsSt.mono (k4.tups) (IsSt.mono (.of_same s3) ho)
              refine ⟨u, vo, vo2, some s, _, rfl, ho1, ho4, fun s' e => by injection e with e; subst e; exact abS_wide (by rw [el]), fun s' e => abS_wide e, fun v5 H5 s5 h5 => ?_⟩
              refine ⟨v5, _, n1 ++ (abS bk r (p ++ [1])).1, _, rfl, (k3.trans k4).trans (.of s5), ?_, h5, ?_⟩
              · rw [← List.append_assoc]
                exact hW4.same s5
              · unfold abR
                rw [abS, el] <;> rfl
      · rintro σ H1 ⟨v, y5, n0, o, rfl, k1, hW1, ho, hab⟩
        refine ⟨_, rfl, rfl, _, rfl, ?_⟩
        rw [isO_non ho]
        unfold abR at hab
        cases o with
        | none =>
          refine ifT rfl (q .non H1 k1 ?_ ?_)
          · rw [hab]; exact hW1
          · rw [hab]; rfl
        | some m =>
          obtain ⟨dx, hdd, nt, us, hkv, nkv, ukv, W⟩ := id hW1
          obtain ⟨pa, rfl, hpa⟩ := hp.mono k1.tups
          rw [hab] at hal
          have hal : (n0 ++ [(p, m)]).length ≤ szE e := hal
          rw [List.length_append, List.length_singleton] at hal
          have hln := W.ln
          simp only [List.length_append] at hln
          obtain ⟨k2, hW2⟩ := W.note (p := p) (v := v) (m := m) ho
          refine ifF rfl ⟨_, rfl, _, rfl, wk, C, dx, _, _, rfl, W.ob, Wc.cl, Wc.notes, rfl, _, rfl, nt, _, rfl, DPut.t (k := pK p) W.en (by rw [pK_kV]; exact hpa) (big_line (by omega)), ?_⟩
          refine ⟨_, rfl, _, _, some m, some WW, rfl, IsSt.mono k2.tups ho, ⟨aW, rfl, hWI _⟩, fun v3 H3 s3 h3 => ?_⟩
          refine q v3 H3 ((k1.trans k2).trans (.of s3)) ?_ ?_
          · rw [hab, show g.notes ++ ((match (some m : Option Sg) with | none => (n0, none) | some m => (n0 ++ [(p, m)], SrM.mt m WW)) : List (Path × Sg) × Option Sg).1 = g.notes ++ n0 ++ [(p, m)] from (List.append_assoc _ _ _).symm]
            exact hW2.same s3
          · rw [hab]
            exact h3
end
end Sr
end
section
set_option Elab.async false
set_option linter.all false
set_option maxRecDepth 100000
set_option maxHeartbeats 4000000
/-! walks: Run.worth -/
namespace Sr
open PySem PySem.Spec PyProof.Rows L2 SrM SrK
theorem evC_of {e : Ex} {p : Path} {s : RS} {rows : List (Path × Int)} {i : Int} (h : evS s.env e p = (rows, noteR p i)) (hf : s.fault = none) : (evC e p s).1 = ⟨s.env, s.seen ++ rows, nFt s p i⟩ ∧ ∀ v, (evC e p s).2 = some v → i = v := by
  unfold evC
  rw [h]
  unfold noteR nFt
  by_cases c : inW i
  · rw [if_pos c, if_pos c, hf]
    exact ⟨rfl, fun v e => by injection e⟩
  · rw [if_neg c, if_neg c]
    exact ⟨rfl, fun v e => (nomatch e)⟩
theorem evC_ok {e : Ex} {p : Path} {s : RS} {rows : List (Path × Int)} {i : Int} (h : evS s.env e p = (rows, .ok i)) : evC e p s = (⟨s.env, s.seen ++ rows, none⟩, some i) := by
  unfold evC
  rw [h]
theorem evC_bad {e : Ex} {p q : Path} {s : RS} {rows : List (Path × Int)} {f : Fw} (h : evS s.env e p = (rows, .bad f q)) : evC e p s = (⟨s.env, s.seen ++ rows, some (f, q)⟩, none) := by
  unfold evC
  rw [h]
theorem noteR_inW {p : Path} {i v : Int} (h : noteR p i = .ok v) : inW v := by
  have := noteR_ok h
  rw [← this.1]
  exact this.2
theorem evS_inW {env : Bk Int} {e : Ex} {p : Path} {rows : List (Path × Int)} {v : Int} (h : evS env e p = (rows, .ok v)) : inW v := by
  cases e with
  | num n =>
    have h : (([(p, n)], noteR p n) : List (Path × Int) × Rs) = (rows, .ok v) := h
    injection h with _ h
    exact noteR_inW h
  | name x =>
    have h : (([(p, (env x).getD 0)], noteR p ((env x).getD 0)) : List (Path × Int) × Rs) = (rows, .ok v) := h
    injection h with _ h
    exact noteR_inW h
  | bin u l r =>
    have h2 : (evS env (.bin u l r) p).2 = .ok v := by rw [h]
    obtain ⟨i, j, h1, h3, h4⟩ := evS_bin h2
    rw [evS] at h
    cases hl : evS env l (p ++ [0]) with
    | mk r1 o1 =>
      rw [hl] at h
      cases o1 with
      | bad f q => simp only at h; injection h with _ h; cases h
      | ok i =>
        simp only at h
        cases hr : evS env r (p ++ [1]) with
        | mk r2 o2 =>
          rw [hr] at h
          cases o2 with
          | bad f q => simp only at h; injection h with _ h; cases h
          | ok j =>
            simp only at h
            split at h
            · injection h with _ h; cases h
            · injection h with _ h
              exact noteR_inW h
theorem wfE_len {env : Bk Int} (e : Ex) (p : Path) : (evS env e p).1.length ≤ szE e := evS_len env e p
section
variable {P : Program} {w : World} {K : PySem.W.Frag} {mg : Str → Option Value} {base : Heap} {C : Addr}
abbrev N_Run_worth : List Str := ["self", "expr", "path", "one", "other"]
theorem sc_Run_worth : FnScope N_Run_worth ["self", "expr", "path"] (defScope s_Run_worth) := ⟨rfl, rfl, rfl, by decide +kernel, rfl, by decide +kernel, by decide +kernel⟩
def spWorth (C : Addr) (n : Nat) : Sp := fun vs H Q _ => ∃ (r bd sl : Addr) (s : RS) (ve : V) (e : Ex) (vp : V) (p : Path) (Kn : Nm → Prop), vs = [.ref r, ve, vp] ∧ RunAt H C r bd sl s ∧ s.fault = none ∧ IsEx H ve e ∧ dpE e ≤ n ∧ wfE Kn e ∧ inDomE Kn s.env ∧
  IsPa H vp p ∧ p.length + dpE e ≤ 1000 ∧ s.seen.length + szE e ≤ 4000000 ∧ ∀ i H', RFm r bd sl H H' → RunAt H' C r bd sl (evC e p s).1 → (∀ v, (evC e p s).2 = some v → i = v) → Q (.int i) H'
theorem szE_pos (e : Ex) : 1 ≤ szE e := by cases e <;> simp only [szE] <;> omega
theorem ok_worth (T : Tx K mg) (R : RunC K C) (h_reckoned : Has P w K mg base 1 "reckoned" ["word", "one", "other"] spReck) (m_note : HasM P w K mg base 2 C "note" ["self", "path", "worth"] (spNote C)) (m_by_zero : HasM P w K mg base 2 C "by_zero" ["self", "path"] (spByZero C)) (G : FnM K C "worth" "Run.worth" s_Run_worth) :
    ∀ n, HasM P w K mg base (3 + n) C "worth" ["self", "expr", "path"] (spWorth C n)
  | 0 => hasM_of (k := 2) (N := N_Run_worth) G sc_Run_worth (fun _ _ _ _ _ _ us hl => match us, hl with | [_, _, _], _ => rfl) (fun vs H Q E h => by obtain ⟨_, _, _, _, _, _, _, _, _, rfl, _⟩ := h; rfl) (fun f cdv A outer s0 H vs Q E hr h => by
    obtain ⟨_, _, _, _, _, e, _, _, _, rfl, _, _, _, hd, _⟩ := h
    have := dpE_pos e
    omega)
  | n + 1 => by
    have m_worth := ok_worth T R h_reckoned m_note m_by_zero G n
    have cl := R.cl
    refine hasM_of (k := 3 + n) (N := N_Run_worth) G sc_Run_worth (fun _ _ _ _ _ _ us hl => match us, hl with | [_, _, _], _ => rfl) (fun vs H Q E h => ?_) (fun f cdv A outer s0 H vs Q E hr h => ?_)
    · obtain ⟨_, _, _, _, _, _, _, _, _, rfl, _⟩ := h
      rfl
    · obtain ⟨r, bd, sl, s, ve, e, vp, p, Kn, rfl, hR, hf, he, hd, wf, hK, hp, hpl, hz, q⟩ := h
      refine ⟨_, (pss_cons (ps_if (pt_cmpR op_eq (ixc (pv 1)) pe_str (nomark _))
      (pss_one (ps_ret (pe_methH m_note cl hr (by omega) (pv 0) (pa2 (pv 2) (ixc (pv 1))))))
      pss_nil)
      (pss_cons (ps_if (pt_cmpR op_eq (ixc (pv 1)) pe_str (nomark _))
      (pss_one (ps_ret (pe_methH m_note cl hr (by omega) (pv 0) (pa2 (pv 2) (pe_dget (hu1 hr) (pe_fld (pv 0) rfl) (ixc (pv 1)) (fun _ _ => rfl))))))
      pss_nil)
      (pss_cons (ps_set (i := 3) sc_Run_worth.nd rfl (.inl rfl) (pe_methH m_worth cl hr (by omega) (pv 0) (pa2 (ixc (pv 1)) (pe_op op_path (pv 2) (pe_tup (pa1 pe_int))))))
      (pss_cons (ps_if (pt_cmpR op_notN (pe_fld (pv 0) rfl) pe_non (nomark _))
      (pss_one (ps_ret pe_int))
      pss_nil)
      (pss_cons (ps_set (i := 4) sc_Run_worth.nd rfl (.inl rfl) (pe_methH m_worth cl hr (by omega) (pv 0) (pa2 (ixc (pv 1)) (pe_op op_path (pv 2) (pe_tup (pa1 pe_int))))))
      (pss_cons (ps_if (pt_cmpR op_notN (pe_fld (pv 0) rfl) pe_non (nomark _))
      (pss_one (ps_ret pe_int))
      pss_nil)
      (pss_cons (ps_if (PW.pt (pw_and (pt_cmpR op_eq (ixc (pv 1)) pe_str (nomark _)) (pw_and1 (pt_cmpR op_eq (pv 4) pe_int (nomark _)))))
      (pss_one (ps_ret (pe_methH m_by_zero cl hr (by omega) (pv 0) (pa1 (pv 2)))))
      pss_nil)
      (pss_one (ps_ret (pe_methH m_note cl hr (by omega) (pv 0) (pa2 (pv 2) (pe_callH h_reckoned hr (by omega) (pa3 (ixc (pv 1)) (pv 3) (pv 4)))))))))))))), ?_⟩
      have hsz := szE_pos e
      cases e with
      | num m =>
        obtain ⟨a, rfl, ha⟩ := he
        obtain ⟨⟨dx, pl, vf, h1, h2⟩, _⟩ := id hR
        refine ⟨_, rfl, _, _, _, _, rfl, rfl, sq_of ha, at0, rfl, _, rfl, ifT (by decide +kernel) ⟨_, rfl, r, dx, _, rfl, h1, rF_note, _, rfl, _, rfl, _, _, _, _, rfl, rfl, sq_of ha, at1, r, bd, sl, s, vp, p, m, rfl, hR, hp, by omega, fun H' f1 hR' => ?_⟩⟩
        obtain ⟨g1, g2⟩ := evC_of (e := .num m) (p := p) (s := s) (rows := [(p, m)]) (i := m) rfl hf
        exact q m H' f1 (by rw [g1]; exact hR') g2
      | name y =>
        obtain ⟨a, rfl, ha⟩ := he
        obtain ⟨⟨dx, pl, vf, h1, h2⟩, ⟨kvs, h3, D⟩, _⟩ := id hR
        obtain ⟨v, i, e1, e2, e3⟩ := D.get (hK y wf)
        subst e3
        refine ⟨_, rfl, _, _, _, _, rfl, rfl, sq_of ha, at0, rfl, _, rfl, ifF (by decide +kernel) ⟨_, rfl, _, _, _, _, rfl, rfl, sq_of ha, at0, rfl, _, rfl, ifT (by decide +kernel) ⟨_, rfl, r, dx, _, rfl, h1, rF_note, _, rfl, ?_⟩⟩⟩
        refine ⟨_, rfl, r, C, dx, _, _, rfl, h1, R.cl, R.book, rfl, _, rfl, _, _, _, _, rfl, rfl, sq_of ha, at1, bd, .int i, rfl, by rw [← e2]; exact DGet.k (k := nK y) h3, ?_⟩
        refine ⟨r, bd, sl, s, vp, p, i, rfl, hR, hp, by omega, fun H' f1 hR' => ?_⟩
        obtain ⟨g1, g2⟩ := evC_of (e := .name y) (p := p) (s := s) (rows := [(p, i)]) (i := i) (by rw [evS, e1]; rfl) hf
        exact q i H' f1 (by rw [g1]; exact hR') g2
      | bin u l rr =>
        obtain ⟨a, vl, vr, rfl, ha, hl, hrr⟩ := he
        have hd : 1 + max (dpE l) (dpE rr) ≤ n + 1 := hd
        have hpl : p.length + (1 + max (dpE l) (dpE rr)) ≤ 1000 := hpl
        have hz' : szE (.bin u l rr) = 1 + (szE l + szE rr) := by rw [szE]; omega
        obtain ⟨⟨dx, pl, vf, h1, h2⟩, _⟩ := id hR
        refine ⟨_, rfl, _, _, _, _, rfl, rfl, sq_of ha, at0, rfl, _, rfl, ifF (by cases u <;> decide +kernel) ⟨_, rfl, _, _, _, _, rfl, rfl, sq_of ha, at0, rfl, _, rfl, ifF (by cases u <;> decide +kernel) ?_⟩⟩
        refine ⟨_, rfl, r, dx, _, rfl, h1, rF_worth, _, rfl, _, _, _, _, rfl, rfl, sq_of ha, at1, _, rfl, one_line, fun t ht => ⟨p, 0, t, hp.mono (.new ht), rfl, upd_same, by omega, fun v1 H1 s1 hp1 => ?_⟩⟩
        have s1 := (same_new ht).trans s1
        refine ⟨r, bd, sl, s, vl, l, v1, p ++ [0], Kn, rfl, hR.same s1, hf, hl.mono (.of_same s1), by omega, wf.1, hK, hp1, by rw [List.length_append, List.length_singleton]; omega, by omega, fun i1 H2 f2 hR2 g2 => ?_⟩
        have f2 := RFm.trans (.of s1) f2
        have ha := f2.1 _ _ ha
        have hrr := hrr.mono f2.1
        have hp := hp.mono f2.1
        obtain ⟨⟨dx, pl, vf, h1, h2⟩, _⟩ := id hR2
        refine ⟨_, rfl, r, C, dx, _, _, rfl, h1, R.cl, R.fault, rfl, rfl, _, rfl, ?_⟩
        rw [ft_non h2]
        cases el : evS s.env l (p ++ [0]) with
        | mk r1 o1 =>
          have hr1 := wfE_len (env := s.env) l (p ++ [0])
          rw [el] at hr1
          cases o1 with
          | bad ff qq =>
            rw [evC_bad el] at hR2 ⊢
            refine ifT rfl ?_
            have eb : evS s.env (.bin u l rr) p = (r1, .bad ff qq) := by rw [evS, el]
            refine q 0 H2 f2 ?_ ?_
            · rw [evC_bad eb]
              exact hR2
            · rw [evC_bad eb]
              exact fun v z => (nomatch z)
          | ok i =>
            rw [evC_ok el] at hR2 g2 ⊢
            obtain rfl := g2 i rfl
            refine ifF rfl ?_
            refine ⟨_, rfl, r, dx, _, rfl, h1, rF_worth, _, rfl, _, _, _, _, rfl, rfl, sq_of ha, at2, _, rfl, one_line, fun t ht => ⟨p, 1, t, hp.mono (.new ht), rfl, upd_same, by omega, fun v3 H3 s3 hp3 => ?_⟩⟩
            have s3 := (same_new ht).trans s3
            refine ⟨r, bd, sl, _, vr, rr, v3, p ++ [1], Kn, rfl, hR2.same s3, rfl, hrr.mono (.of_same s3), by omega, wf.2, hK, hp3, by rw [List.length_append, List.length_singleton]; omega, by simp only [List.length_append] at hr1 ⊢; omega, fun i2 H4 f4 hR4 g4 => ?_⟩
            have f4 := RFm.trans (.of s3) f4
            have ha := f4.1 _ _ ha
            have hp := hp.mono f4.1
            have f5 := f2.trans f4
            obtain ⟨⟨dx, pl, vf, h1, h2⟩, _⟩ := id hR4
            refine ⟨_, rfl, r, C, dx, _, _, rfl, h1, R.cl, R.fault, rfl, rfl, _, rfl, ?_⟩
            rw [ft_non h2]
            cases er : evS s.env rr (p ++ [1]) with
            | mk r2 o2 =>
              have hr2 := wfE_len (env := s.env) rr (p ++ [1])
              rw [er] at hr2
              have er' : evS (RS.mk s.env (s.seen ++ r1) none).env rr (p ++ [1]) = (r2, o2) := er
              cases o2 with
              | bad ff qq =>
                rw [evC_bad er'] at hR4 ⊢
                refine ifT rfl ?_
                have eb : evS s.env (.bin u l rr) p = (r1 ++ r2, .bad ff qq) := by rw [evS, el, er]
                refine q 0 H4 f5 ?_ ?_
                · rw [evC_bad eb, ← List.append_assoc]
                  exact hR4
                · rw [evC_bad eb]
                  exact fun v z => (nomatch z)
              | ok j =>
                rw [evC_ok er'] at hR4 g4 ⊢
                obtain rfl := g4 j rfl
                refine ifF rfl ?_
                have w1 := evS_inW el
                have w2 := evS_inW er
                refine ⟨_, rfl, _, _, _, _, rfl, rfl, sq_of ha, at0, rfl, _, rfl, ?_⟩
                rw [show decide (V.str (wS u) = V.str "quo") = decide (u = .quo) from dec_ww u .quo]
                have hn : ¬ (u = .quo ∧ i2 = 0) → ∀ Q', (∀ i H', RFm r bd sl H4 H' → RunAt H' C r bd sl (evC (.bin u l rr) p s).1 → (∀ v, (evC (.bin u l rr) p s).2 = some v → i = v) → Q' (.int i) H') → spNote C [.ref r, vp, .int (reck u i1 i2)] H4 Q' E := fun hq Q' k => by
                  refine ⟨r, bd, sl, _, vp, p, reck u i1 i2, rfl, hR4, hp, by simp only [List.length_append] at hr1 hr2 ⊢; omega, fun H' f6 hR6 => ?_⟩
                  have eb : evS s.env (.bin u l rr) p = (r1 ++ r2 ++ [(p, reck u i1 i2)], noteR p (reck u i1 i2)) := by
                    rw [evS, el, er]
                    simp only
                    rw [if_neg hq]
                  obtain ⟨g1, g2⟩ := evC_of eb hf
                  refine k _ H' f6 ?_ g2
                  rw [g1, ← List.append_assoc, ← List.append_assoc]
                  have : nFt ⟨s.env, s.seen ++ r1 ++ r2, none⟩ p (reck u i1 i2) = nFt s p (reck u i1 i2) := by unfold nFt; rw [hf]
                  rw [← this]
                  exact hR6
                refine ifC (fun c1 => ⟨_, rfl, rfl, _, rfl, ?_⟩) fun c1 => ?_
                · rw [dec_ii]
                  refine ifC (fun c2 => ?_) fun c2 => ?_
                  · have c1 := of_decide_eq_true c1
                    have c2 := of_decide_eq_true c2
                    refine ⟨_, rfl, r, dx, _, rfl, h1, rF_by_zero, _, rfl, r, bd, sl, _, vp, p, rfl, hR4, hp, fun H' f6 hR6 => ?_⟩
                    have eb : evS s.env (.bin u l rr) p = (r1 ++ r2, .bad .zero p) := by
                      rw [evS, el, er]
                      simp only
                      rw [if_pos ⟨c1, c2⟩]
                    refine q 0 H' (f5.trans f6) ?_ ?_
                    · rw [evC_bad eb, ← List.append_assoc]
                      exact hR6
                    · rw [evC_bad eb]
                      exact fun v z => (nomatch z)
                  · have c2 := of_decide_eq_false c2
                    refine ⟨_, rfl, r, dx, _, rfl, h1, rF_note, _, rfl, _, rfl, _, _, _, _, rfl, rfl, sq_of ha, at0, _, rfl, _, rfl, u, i1, i2, rfl, w1, w2, fun _ => c2, ?_⟩
                    exact hn (fun z => c2 z.2) _ fun i H' f6 k1 k2 => q i H' (f5.trans f6) k1 k2
                · have c1 := of_decide_eq_false c1
                  refine ifF rfl ?_
                  refine ⟨_, rfl, r, dx, _, rfl, h1, rF_note, _, rfl, _, rfl, _, _, _, _, rfl, rfl, sq_of ha, at0, _, rfl, _, rfl, u, i1, i2, rfl, w1, w2, fun z => absurd z c1, ?_⟩
                  exact hn (fun z => c1 z.1) _ fun i H' f6 k1 k2 => q i H' (f5.trans f6) k1 k2
end
end Sr
end
section
set_option Elab.async false
set_option linter.all false
set_option maxRecDepth 100000
set_option maxHeartbeats 4000000
/-! walks: Run: block, deed, rounds -/
namespace Sr
open PySem PySem.Spec PyProof.Rows L2 SrM SrK
/-- blocks less than n deep -/
def limX : Nat → List Dd → Prop
  | 0, _ => False
  | n + 1, ds => limB n ds
theorem limD_ife {n : Nat} {e : Ex} {f g : List Dd} (h : limD n (.ife e f g)) : dpE e ≤ 3 ∧ limX n f ∧ limX n g := by
  cases n with
  | zero => exact h.elim
  | succ n => exact h
theorem limD_whl {n : Nat} {e : Ex} {m : Int} {b : List Dd} (h : limD n (.whl e m b)) : dpE e ≤ 3 ∧ 0 ≤ m ∧ m ≤ 20 ∧ limX n b := by
  cases n with
  | zero => exact h.elim
  | succ n => exact h
theorem limD_set {n : Nat} {x : Nm} {e : Ex} (h : limD n (.set x e)) : dpE e ≤ 3 := by
  cases n with
  | zero => exact h
  | succ n => exact h
/-- the tags -/
def dT : Dd → Nat
  | .set _ _ => 0
  | .ife _ _ _ => 1
  | .whl _ _ _ => 2
theorem dd_tag {H : Hp} {v : V} {d : Dd} (h : IsDd H v d) : ∃ a z xs, v = .ref a ∧ H a = some (.tup (.str z :: xs)) ∧ decide (V.str z = V.str "set") = (dT d == 0) ∧ decide (V.str z = V.str "if") = (dT d == 1) ∧ decide (V.str z = V.str "while") = (dT d == 2) := by
  cases d with
  | set x e =>
    obtain ⟨a, ve, rfl, ha, _⟩ := h
    exact ⟨a, "set", _, rfl, ha, show _ = true by decide +kernel, show _ = false by decide +kernel, show _ = false by decide +kernel⟩
  | ife e f g =>
    obtain ⟨a, ve, af, ag, vf, vg, rfl, ha, _⟩ := h
    exact ⟨a, "if", _, rfl, ha, show _ = false by decide +kernel, show _ = true by decide +kernel, show _ = false by decide +kernel⟩
  | whl e m b =>
    obtain ⟨a, ve, ab, vb, rfl, ha, _⟩ := h
    exact ⟨a, "while", _, rfl, ha, show _ = false by decide +kernel, show _ = false by decide +kernel, show _ = true by decide +kernel⟩
/-- a loop behind a question asked -/
def lpF (cond : RS → RS × Option Int) (body : RS → RS) (p : Path) (n : Nat) : RS × Option Int → RS
  | (s1, none) => s1
  | (s1, some v) => if v = 0 then s1 else match n with
    | 0 => { s1 with fault := some (.long, p) }
    | n + 1 => if (body s1).fault.isSome then body s1 else lpR cond body p n (body s1)
theorem lpR_lpF (cond : RS → RS × Option Int) (body : RS → RS) (p : Path) (n : Nat) (s : RS) : lpR cond body p n s = lpF cond body p n (cond s) := by
  rw [lpR]
  unfold lpF
  cases n with
  | zero => rfl
  | succ n => rfl
theorem evC_fault {e : Ex} {p : Path} {s : RS} : (evC e p s).1.fault = none ↔ ∃ v, (evC e p s).2 = some v := by
  cases h : evS s.env e p with
  | mk r o =>
    cases o with
    | ok v => rw [evC_ok h]; exact ⟨fun _ => ⟨v, rfl⟩, fun _ => rfl⟩
    | bad f q => rw [evC_bad h]; exact ⟨fun z => (nomatch z), fun ⟨v, z⟩ => (nomatch z)⟩
theorem evC_env {e : Ex} {p : Path} {s : RS} : (evC e p s).1.env = s.env := by
  cases h : evS s.env e p with
  | mk r o =>
    cases o with
    | ok v => rw [evC_ok h]
    | bad f q => rw [evC_bad h]
theorem evC_seen {e : Ex} {p : Path} {s : RS} : (evC e p s).1.seen.length ≤ s.seen.length + szE e := by
  cases h : evC e p s with
  | mk s1 o => exact (evC_len h).1
theorem rnD_set {x : Nm} {e : Ex} {p : Path} {s : RS} : rnD (.set x e) p s = match evC e (p ++ [0]) s with
    | (s1, some v) => { s1 with env := SrM.put s1.env x v }
    | (s1, none) => s1 := by rw [rnD] <;> rfl
theorem rnD_ife {e : Ex} {f g : List Dd} {p : Path} {s : RS} : rnD (.ife e f g) p s = match evC e (p ++ [0]) s with
    | (s1, some v) => if v ≠ 0 then rnB f 0 (p ++ [1]) s1 else rnB g 0 (p ++ [2]) s1
    | (s1, none) => s1 := by rw [rnD] <;> rfl
section
variable {P : Program} {w : World} {K : PySem.W.Frag} {mg : Str → Option Value} {base : Heap} {C : Addr}
def spRBlock (C : Addr) (n : Nat) : Sp := fun vs H Q _ => ∃ (r bd sl : Addr) (s : RS) (vd : V) (ds : List Dd) (vp : V) (p : Path) (Kn : Nm → Prop), vs = [.ref r, vd, vp] ∧ RunAt H C r bd sl s ∧ s.fault = none ∧ IsBl H vd ds ∧ limX n ds ∧ wfB ds Kn ∧ inDomE Kn s.env ∧
  IsPa H vp p ∧ p.length + 2 * n + 6 ≤ 1000 ∧ s.seen.length + cB ds ≤ 2000000 ∧ ∀ H', RFm r bd sl H H' → RunAt H' C r bd sl (rnB ds 0 p s) → Q .non H'
def spRDeed (C : Addr) (n : Nat) : Sp := fun vs H Q _ => ∃ (r bd sl : Addr) (s : RS) (vd : V) (d : Dd) (vp : V) (p : Path) (Kn : Nm → Prop), vs = [.ref r, vd, vp] ∧ RunAt H C r bd sl s ∧ s.fault = none ∧ IsDd H vd d ∧ limD n d ∧ wfD d Kn ∧ inDomE Kn s.env ∧
  IsPa H vp p ∧ p.length + 2 * n + 7 ≤ 1000 ∧ s.seen.length + cD d ≤ 2000000 ∧ ∀ H', RFm r bd sl H H' → RunAt H' C r bd sl (rnD d p s) → Q .non H'
def spRRounds (C : Addr) (n : Nat) : Sp := fun vs H Q _ => ∃ (r bd sl : Addr) (s : RS) (vd : V) (e : Ex) (m : Int) (b : List Dd) (vp : V) (p : Path) (Kn : Nm → Prop), vs = [.ref r, vd, vp] ∧ RunAt H C r bd sl s ∧ s.fault = none ∧ IsDd H vd (.whl e m b) ∧ limD n (.whl e m b) ∧ wfD (.whl e m b) Kn ∧ inDomE Kn s.env ∧
  IsPa H vp p ∧ p.length + 2 * n + 7 ≤ 1000 ∧ s.seen.length + cD (.whl e m b) ≤ 2000000 ∧ ∀ H', RFm r bd sl H H' → RunAt H' C r bd sl (rnD (.whl e m b) p s) → Q .non H'
abbrev N_Run_rounds : List Str := ["self", "deed", "path", "many", "worth"]
theorem sc_Run_rounds : FnScope N_Run_rounds ["self", "deed", "path"] (defScope s_Run_rounds) := ⟨rfl, rfl, rfl, by decide +kernel, rfl, by decide +kernel, by decide +kernel⟩
theorem ok_rrounds (R : RunC K C) (n : Nat) (m_refuse : HasM P w K mg base 1 C "refuse" ["self", "word", "path"] (spRefuse C)) (m_worth : HasM P w K mg base 6 C "worth" ["self", "expr", "path"] (spWorth C 3)) (m_block : HasM P w K mg base (3 * n + 7) C "block" ["self", "deeds", "path"] (spRBlock C n)) (G : FnM K C "rounds" "Run.rounds" s_Run_rounds) :
    HasM P w K mg base (3 * n + 8) C "rounds" ["self", "deed", "path"] (spRRounds C n) := by
  have cl := R.cl
  refine hasM_of (k := 3 * n + 7) (N := N_Run_rounds) G sc_Run_rounds (fun _ _ _ _ _ _ us hl => match us, hl with | [_, _, _], _ => rfl) (fun vs H Q E h => ?_) (fun f cdv A outer s0 H vs Q E hr h => ?_)
  · obtain ⟨_, _, _, _, _, _, _, _, _, _, _, rfl, _⟩ := h
    rfl
  · obtain ⟨r, bd, sl, s, vd, e, m, b, vp, p, Kn, rfl, hR, hf, hd, hlim, wf, hK, hp, hpl, hz, q⟩ := h
    refine ⟨_, (pss_cons (ps_set (i := 3) sc_Run_rounds.nd rfl (.inl rfl) pe_int)
      (pss_cons (ps_set (i := 4) sc_Run_rounds.nd rfl (.inl rfl) (pe_methH m_worth cl hr (by omega) (pv 0) (pa2 (ixc (pv 1)) (pe_op op_path (pv 2) (pe_tup (pa1 pe_int))))))
      (pss_cons (ps_while PassesOwn.never (PW.pt (pw_and (pt_cmpR op_isN (pe_fld (pv 0) rfl) pe_non (nomark _)) (pw_and1 (pt_cmpR op_ne (pv 4) pe_int (nomark _)))))
      (pss_cons (ps_if (pt_cmpR op_eq (pv 3) (ixc (pv 1)) (nomark _))
      (pss_cons (ps_expr (pe_methH m_refuse cl hr (by omega) (pv 0) (pa2 pe_str (pv 2))))
      (pss_one (ps_ret pe_non)))
      pss_nil)
      (pss_cons (ps_expr (pe_methH m_block cl hr (by omega) (pv 0) (pa2 (ixc (pv 1)) (pe_op op_path (pv 2) (pe_tup (pa1 pe_int))))))
      (pss_cons (ps_set (i := 3) sc_Run_rounds.nd rfl (.inl rfl) (pe_op op_add (pv 3) pe_int))
      (pss_one (ps_if (pt_cmpR op_isN (pe_fld (pv 0) rfl) pe_non (nomark _))
      (pss_one (ps_set (i := 4) sc_Run_rounds.nd rfl (.inl rfl) (pe_methH m_worth cl hr (by omega) (pv 0) (pa2 (ixc (pv 1)) (pe_op op_path (pv 2) (pe_tup (pa1 pe_int)))))))
      pss_nil))))))
      (pss_one (ps_ret pe_non))))), ?_⟩
    obtain ⟨a, ve, ab, vb, rfl, ha, he, hb, hbs⟩ := hd
    obtain ⟨hd3, m0, m20, hlx⟩ := limD_whl hlim
    have wf : wfE Kn e ∧ 0 ≤ m ∧ m ≤ 20 ∧ wfB b Kn := wf
    have hz : s.seen.length + ((m.toNat + 1) * szE e + m.toNat * cB b) ≤ 2000000 := hz
    obtain ⟨⟨dx, pl, vf, h1, h2⟩, _⟩ := id hR
    refine ⟨_, rfl, r, dx, _, rfl, h1, rF_worth, _, rfl, _, _, _, _, rfl, rfl, sq_of ha, at1, _, rfl, one_line, fun t ht => ⟨p, 0, t, hp.mono (.new ht), rfl, upd_same, by omega, fun v1 H1 s1 hp1 => ?_⟩⟩
    have s1 := (same_new ht).trans s1
    have hz0 : s.seen.length + szE e ≤ 4000000 := by
      have : (m.toNat + 1) * szE e = m.toNat * szE e + szE e := Nat.succ_mul _ _
      omega
    refine ⟨r, bd, sl, s, ve, e, v1, p ++ [0], Kn, rfl, hR.same s1, hf, he.mono (.of_same s1), hd3, wf.1, hK, hp1, by rw [List.length_append, List.length_singleton]; omega, hz0, fun i1 H2 f2 hR2 g2 => ?_⟩
    have f2 := RFm.trans (.of s1) f2
    have ha := f2.1 _ _ ha
    -- the loop
    refine ⟨fun μ σ H' => ∃ (k : Nat) (i : Int) (so : RS × Option Int), σ = [some (.ref r), some (.ref a), some vp, some (.int (k : Int)), some (.int i)] ∧ (k : Int) ≤ m ∧ RFm r bd sl H H' ∧ RunAt H' C r bd sl so.1 ∧ (∀ v, so.2 = some v → i = v) ∧ (so.1.fault = none ↔ ∃ v, so.2 = some v) ∧
        lpF (evC e (p ++ [0])) (fun s => rnB b 0 (p ++ [1]) s) p (m.toNat - k) so = rnD (.whl e m b) p s ∧ inDomE Kn so.1.env ∧ so.1.seen.length + (m.toNat - k) * (szE e + cB b) ≤ 2000000 ∧ μ = (if so.1.fault.isSome then 0 else m.toNat + 1 - k),
      ⟨_, 0, i1, evC e (p ++ [0]) s, rfl, m0, f2, hR2, g2, evC_fault, ?_, ?_, ?_, rfl⟩, ?_⟩
    · rw [Nat.sub_zero, ← lpR_lpF, rnD]
    · rw [evC_env]
      exact hK
    · have e1 := evC_seen (e := e) (p := p ++ [0]) (s := s)
      have e2 : (m.toNat + 1) * szE e = m.toNat * szE e + szE e := Nat.succ_mul _ _
      rw [Nat.sub_zero, Nat.mul_add]
      omega
    · rintro μ σ H3 ⟨k, i, ⟨s3, o⟩, rfl, hk, f3, hR3, g3, hfo, hfin, hK3, hz3, rfl⟩
      have ha3 := f3.1 _ _ (show H a = some (.tup [.str "while", ve, .int m, .ref ab]) by assumption)
      obtain ⟨⟨dx, pl, vf, h1, h2⟩, _⟩ := id hR3
      have hp3 := hp.mono f3.1
      refine ⟨_, rfl, r, C, dx, _, _, rfl, h1, R.cl, R.fault, rfl, rfl, _, rfl, ?_⟩
      rw [ft_non h2]
      cases eft : s3.fault with
      | some x =>
        refine ifF rfl ?_
        refine ifF rfl ?_
        cases o with
        | some v =>
          have := hfo.mpr ⟨v, rfl⟩
          rw [eft] at this
          cases this
        | none =>
          refine q H3 f3 ?_
          rw [← hfin]
          exact hR3
      | none =>
        obtain ⟨v, ov⟩ := hfo.mp eft
        subst ov
        obtain rfl := g3 v rfl
        refine ifT rfl ⟨_, rfl, rfl, _, rfl, ?_⟩
        rw [dec_ii]
        refine ifC (fun c => ?_) fun c => ?_
        · have c : i ≠ 0 := by simpa using c
          refine ⟨fun σ' H' => ∃ (k' : Nat) (i : Int) (so : RS × Option Int), σ' = [some (.ref r), some (.ref a), some vp, some (.int (k' : Int)), some (.int i)] ∧ (k' : Int) ≤ m ∧ RFm r bd sl H H' ∧ RunAt H' C r bd sl so.1 ∧ (∀ v, so.2 = some v → i = v) ∧ (so.1.fault = none ↔ ∃ v, so.2 = some v) ∧
            lpF (evC e (p ++ [0])) (fun s => rnB b 0 (p ++ [1]) s) p (m.toNat - k') so = rnD (.whl e m b) p s ∧ inDomE Kn so.1.env ∧ so.1.seen.length + (m.toNat - k') * (szE e + cB b) ≤ 2000000 ∧ k' = k + 1, ?_, ?_⟩
          · rintro σ' H' ⟨k', i', so', rfl, hk', z1, z2, z3, z4, z5, z6, z7, rfl⟩
            refine ⟨_, ?_, _, i', so', rfl, hk', z1, z2, z3, z4, z5, z6, z7, rfl⟩
            show _ < (if (none : Option (Fw × Path)).isSome = true then 0 else m.toNat + 1 - k)
            rw [show ((none : Option (Fw × Path)).isSome) = false from rfl, if_neg Bool.false_ne_true]
            split <;> omega
          · refine ⟨_, rfl, _, rfl, _, _, _, _, rfl, rfl, sq_of ha3, at2, rfl, _, rfl, ?_⟩
            rw [dec_ii]
            refine ifC (fun c2 => ?_) fun c2 => ?_
            · have c2 := of_decide_eq_true c2
              refine ⟨_, rfl, r, dx, _, rfl, h1, rF_refuse, _, rfl, r, bd, sl, s3, .long, vp, p, rfl, hR3, hp3, fun H4 f4 hR4 => ?_⟩
              refine q H4 (f3.trans f4) ?_
              rw [← hfin]
              have : m.toNat - k = 0 := by omega
              rw [this]
              show RunAt H4 C r bd sl (if i = 0 then s3 else _)
              rw [if_neg c]
              exact hR4
            · have c2 := of_decide_eq_false c2
              have hk1 : (k : Int) + 1 ≤ m := by omega
              obtain ⟨j, hj⟩ : ∃ j, m.toNat - k = j + 1 := ⟨m.toNat - k - 1, by omega⟩
              have hj' : m.toNat - (k + 1) = j := by omega
              have hzz : (j + 1) * (szE e + cB b) = j * (szE e + cB b) + (szE e + cB b) := Nat.succ_mul _ _
              rw [hj] at hz3
              have hz3 : s3.seen.length + (j + 1) * (szE e + cB b) ≤ 2000000 := hz3
              refine ⟨_, rfl, r, dx, _, rfl, h1, rF_block, _, rfl, _, _, _, _, rfl, rfl, sq_of ha3, at3, _, rfl, one_line, fun t ht => ⟨p, 1, t, hp3.mono (.new ht), rfl, upd_same, by omega, fun v5 H5 s5 hp5 => ?_⟩⟩
              have s5 := (same_new ht).trans s5
              have f5 := f3.trans (.of s5)
              refine ⟨r, bd, sl, s3, _, b, v5, p ++ [1], Kn, rfl, hR3.same s5, eft, ⟨ab, vb, rfl, f5.1 _ _ hb, hbs.mono f5.1⟩, hlx, wf.2.2.2, hK3, hp5, by rw [List.length_append, List.length_singleton]; omega, by omega, fun H6 f6 hR6 => ?_⟩
              have f6 := f5.trans f6
              refine ⟨_, rfl, _, _, rfl, rfl, ?_⟩
              obtain ⟨⟨dx, pl, vf, h1, h2⟩, _⟩ := id hR6
              refine ⟨_, rfl, r, C, dx, _, _, rfl, h1, R.cl, R.fault, rfl, rfl, _, rfl, ?_⟩
              rw [ft_non h2]
              have hlen := rnB_len b 0 (p ++ [1]) s3
              have hstep : rnD (.whl e m b) p s = if (rnB b 0 (p ++ [1]) s3).fault.isSome then rnB b 0 (p ++ [1]) s3 else lpR (evC e (p ++ [0])) (fun s => rnB b 0 (p ++ [1]) s) p j (rnB b 0 (p ++ [1]) s3) := by
                rw [← hfin, hj]
                show (if i = 0 then s3 else _) = _
                rw [if_neg c]
              have hdom : inDomE Kn (rnB b 0 (p ++ [1]) s3).env := fun x hx => rnB_dom b 0 (p ++ [1]) s3 x (hK3 x hx)
              cases e6 : (rnB b 0 (p ++ [1]) s3).fault with
              | some x =>
                refine ifF rfl ⟨k + 1, i, (rnB b 0 (p ++ [1]) s3, none), rfl, by omega, f6, hR6, fun v z => (nomatch z), ⟨fun z => (by rw [e6] at z; cases z), fun ⟨v, z⟩ => (nomatch z)⟩, ?_, hdom, ?_, rfl⟩
                · rw [hstep, e6]
                  rfl
                · rw [hj']
                  show (rnB b 0 (p ++ [1]) s3).seen.length + _ ≤ _
                  omega
              | none =>
                refine ifT rfl ⟨_, rfl, r, dx, _, rfl, h1, rF_worth, _, rfl, _, _, _, _, rfl, rfl, sq_of (f6.1 _ _ (show H a = some (.tup [.str "while", ve, .int m, .ref ab]) by assumption)), at1, _, rfl, one_line, fun t ht => ⟨p, 0, t, (hp.mono f6.1).mono (.new ht), rfl, upd_same, by omega, fun v7 H7 s7 hp7 => ?_⟩⟩
                have s7 := (same_new ht).trans s7
                have f7 := f6.trans (.of s7)
                refine ⟨r, bd, sl, _, ve, e, v7, p ++ [0], Kn, rfl, hR6.same s7, e6, he.mono f7.1, hd3, wf.1, hdom, hp7, by rw [List.length_append, List.length_singleton]; omega, by omega, fun i8 H8 f8 hR8 g8 => ?_⟩
                refine ⟨k + 1, i8, evC e (p ++ [0]) (rnB b 0 (p ++ [1]) s3), rfl, by omega, f7.trans f8, hR8, g8, evC_fault, ?_, ?_, ?_, rfl⟩
                · rw [hj', hstep, e6, ← lpR_lpF]
                  rfl
                · rw [evC_env]
                  exact hdom
                · have := evC_seen (e := e) (p := p ++ [0]) (s := rnB b 0 (p ++ [1]) s3)
                  rw [hj']
                  omega
        · have c : i = 0 := by simpa using c
          refine q H3 f3 ?_
          rw [← hfin]
          show RunAt H3 C r bd sl (if i = 0 then s3 else _)
          rw [if_pos c]
          exact hR3
end
end Sr
end
section
set_option Elab.async false
set_option linter.all false
set_option maxRecDepth 100000
set_option maxHeartbeats 4000000
/-! walks: Walk.block_behind, round_from, deed -/
namespace Sr
open PySem PySem.Spec PyProof.Rows L2 SrM SrK
section
variable {P : Program} {w : World} {K : PySem.W.Frag} {mg : Str → Option Value} {base : Heap} {C : Addr} {fi : Bool}
def spWB (K : PySem.W.Frag) (C : Addr) (fi : Bool) (n : Nat) : Sp := fun vs H Q _ => ∃ (wk : Addr) (g : GS) (vd : V) (ds : List Dd) (d : Addr) (bk : Bk Sg) (vp : V) (p : Path) (Kn : Nm → Prop), vs = [.ref wk, vd, .ref d, vp] ∧ WkAt K H C wk g ∧ IsBl H vd ds ∧ limX n ds ∧ BkAt K H d bk ∧ wideB bk ∧ wfB ds Kn ∧ inDom Kn bk ∧
  IsPa H vp p ∧ p.length + 2 * n + 6 ≤ 1000 ∧ g.sz + wB ds ≤ 4000000 ∧ Pre fi g (aB ds 0 p bk).heads ∧ ∀ v H' g', Kp H H' → WkAt K H' C wk g' → BkO K H' v (aB ds 0 p bk).out → Post fi (wB ds) (und p) g g' (aB ds 0 p bk).notes (aB ds 0 p bk).heads → Q v H'
def spBB (K : PySem.W.Frag) (C : Addr) (fi : Bool) (n : Nat) : Sp := fun vs H Q _ => ∃ (wk : Addr) (g : GS) (vd : V) (ds : List Dd) (vb : V) (bko : Option (Bk Sg)) (vp : V) (p : Path) (Kn : Nm → Prop), vs = [.ref wk, vd, vb, vp] ∧ WkAt K H C wk g ∧ IsBl H vd ds ∧ limX n ds ∧ BkO K H vb bko ∧ (∀ bk, bko = some bk → wideB bk ∧ inDom Kn bk) ∧ wfB ds Kn ∧
  IsPa H vp p ∧ p.length + 2 * n + 6 ≤ 1000 ∧ g.sz + wB ds ≤ 4000000 ∧ Pre fi g (bkBlk (fun h => aB ds 0 p h) bko).heads ∧ ∀ v H' g', Kp H H' → WkAt K H' C wk g' → BkO K H' v (bkBlk (fun h => aB ds 0 p h) bko).out →
    Post fi (wB ds) (und p) g g' (bkBlk (fun h => aB ds 0 p h) bko).notes (bkBlk (fun h => aB ds 0 p h) bko).heads → Q v H'
def spRF (K : PySem.W.Frag) (C : Addr) (fi : Bool) (n : Nat) : Sp := fun vs H Q _ => ∃ (wk : Addr) (g : GS) (vd : V) (e : Ex) (m : Int) (b : List Dd) (d : Addr) (h : Bk Sg) (vp : V) (p : Path) (Kn : Nm → Prop), vs = [.ref wk, vd, .ref d, vp] ∧ WkAt K H C wk g ∧ IsDd H vd (.whl e m b) ∧ limD n (.whl e m b) ∧ BkAt K H d h ∧ wideB h ∧ wfD (.whl e m b) Kn ∧ inDom Kn h ∧
  IsPa H vp p ∧ p.length + 2 * n + 7 ≤ 1000 ∧ g.sz + (szE e + wB b) ≤ 4000000 ∧ Pre fi g (rfd e (fun h => aB b 0 (p ++ [1]) h) p h).heads ∧ ∀ t v1 v2 H' g', Kp H H' → WkAt K H' C wk g' → H' t = some (.tup [v1, v2]) → BkO K H' v1 (rfd e (fun h => aB b 0 (p ++ [1]) h) p h).again → BkO K H' v2 (rfd e (fun h => aB b 0 (p ++ [1]) h) p h).ends →
    Post fi (szE e + wB b) (und (p ++ [1])) g g' (rfd e (fun h => aB b 0 (p ++ [1]) h) p h).notes (rfd e (fun h => aB b 0 (p ++ [1]) h) p h).heads → Q (.ref t) H'
def spWD (K : PySem.W.Frag) (C : Addr) (fi : Bool) (n : Nat) : Sp := fun vs H Q _ => ∃ (wk : Addr) (g : GS) (vd : V) (dd : Dd) (d : Addr) (bk : Bk Sg) (vp : V) (p : Path) (Kn : Nm → Prop), vs = [.ref wk, vd, .ref d, vp] ∧ WkAt K H C wk g ∧ IsDd H vd dd ∧ limD n dd ∧ BkAt K H d bk ∧ wideB bk ∧ wfD dd Kn ∧ inDom Kn bk ∧
  IsPa H vp p ∧ p.length + 2 * n + 7 ≤ 1000 ∧ g.sz + wD dd ≤ 4000000 ∧ Pre fi g (aD dd p bk).heads ∧ ∀ v H' g', Kp H H' → WkAt K H' C wk g' → BkO K H' v (aD dd p bk).out → Post fi (wD dd) (und p) g g' (aD dd p bk).notes (aD dd p bk).heads → Q v H'
def spWR (K : PySem.W.Frag) (C : Addr) (fi : Bool) (n : Nat) : Sp := fun vs H Q _ => ∃ (wk : Addr) (g : GS) (vd : V) (e : Ex) (m : Int) (b : List Dd) (d : Addr) (bk : Bk Sg) (vp : V) (p : Path) (Kn : Nm → Prop), vs = [.ref wk, vd, .ref d, vp] ∧ WkAt K H C wk g ∧ IsDd H vd (.whl e m b) ∧ limD n (.whl e m b) ∧ BkAt K H d bk ∧ wideB bk ∧ wfD (.whl e m b) Kn ∧ inDom Kn bk ∧
  IsPa H vp p ∧ p.length + 2 * n + 7 ≤ 1000 ∧ g.sz + wD (.whl e m b) ≤ 4000000 ∧ Pre fi g (aD (.whl e m b) p bk).heads ∧ ∀ v H' g', Kp H H' → WkAt K H' C wk g' → BkO K H' v (aD (.whl e m b) p bk).out → Post fi (wD (.whl e m b)) (und p) g g' (aD (.whl e m b) p bk).notes (aD (.whl e m b) p bk).heads → Q v H'
abbrev N_Walk_block_behind : List Str := ["self", "deeds", "book", "path"]
theorem sc_Walk_block_behind : FnScope N_Walk_block_behind ["self", "deeds", "book", "path"] (defScope s_Walk_block_behind) := ⟨rfl, rfl, rfl, by decide +kernel, rfl, by decide +kernel, by decide +kernel⟩
theorem ok_block_behind (Wc : WalkC K C) (n : Nat) (m_block : HasM P w K mg base (6 * n + 9) C "block" ["self", "deeds", "book", "path"] (spWB K C fi n)) (G : FnM K C "block_behind" "Walk.block_behind" s_Walk_block_behind) :
    HasM P w K mg base (6 * n + 10) C "block_behind" ["self", "deeds", "book", "path"] (spBB K C fi n) := by
  refine hasM_of (k := 6 * n + 9) (N := N_Walk_block_behind) G sc_Walk_block_behind (fun _ _ _ _ _ _ us hl => match us, hl with | [_, _, _, _], _ => rfl) (fun vs H Q E h => ?_) (fun f cdv A outer s0 H vs Q E hr h => ?_)
  · obtain ⟨_, _, _, _, _, _, _, _, _, rfl, _⟩ := h
    rfl
  · obtain ⟨wk, g, vd, ds, vb, bko, vp, p, Kn, rfl, hW, hd, hlim, hb, hw, wf, hp, hpl, hz, hpre, q⟩ := h
    refine ⟨_, (pss_one (ps_ret (pe_ifExp (pt_cmpR op_isN (pv 2) pe_non (nomark _)) pe_non (pe_methH m_block Wc.cl hr (by omega) (pv 0) (pa3 (pv 1) (pv 2) (pv 3)))))), ?_⟩
    refine ⟨_, rfl, rfl, _, rfl, ?_⟩
    rw [bkO_non hb]
    cases bko with
    | none => exact ifT rfl (q .non H g (.refl H) hW rfl ((Post.refl fi _ g).mono (Nat.zero_le _) fun _ z => z))
    | some bk =>
      obtain ⟨d, rfl, hb⟩ := hb
      obtain ⟨hw1, hw2⟩ := hw bk rfl
      obtain ⟨dx, hdd, nt, us, hkv, nkv, ukv, W⟩ := id hW
      exact ifF rfl ⟨_, rfl, wk, dx, _, rfl, W.ob, wF_block, _, rfl, _, rfl, _, rfl, wk, g, vd, ds, d, bk, vp, p, Kn, rfl, hW, hd, hlim, hb, hw1, wf, hw2, hp, hpl, hz, hpre, q⟩
theorem heads_und {ds : List Dd} {p : Path} {o : Option (Bk Sg)} : ∀ z ∈ (bkBlk (fun h => aB ds 0 p h) o).heads, und p z.1 := fun z hz => by
  cases o with
  | none => cases hz
  | some bk => exact from_und ((aB_ku ds 0 p bk).heads.all z hz)
theorem isO00 {K : PySem.W.Frag} {H : Hp} {t : Addr} (h : H t = some (.tup [.int 0, .int 0])) : IsO K H (.ref t) (some (0, 0)) := ⟨t, rfl, .inl h⟩
abbrev N_Walk_round_from : List Str := ["self", "deed", "head", "path", "made", "again", "ends"]
theorem sc_Walk_round_from : FnScope N_Walk_round_from ["self", "deed", "head", "path"] (defScope s_Walk_round_from) := ⟨rfl, rfl, rfl, by decide +kernel, rfl, by decide +kernel, by decide +kernel⟩
theorem ok_round_from (T : Tx K mg) (Wc : WalkC K C) (n : Nat) (m_stretch : HasM P w K mg base 8 C "stretch" ["self", "expr", "book", "path"] (spStr K C 3)) (h_behind : Has P w K mg base 9 "behind" ["expr", "book", "is_so"] (spBehind K)) (h_met : Has P w K mg base 1 "met" ["one", "other"] (spM2 K))
    (m_block_behind : HasM P w K mg base (6 * n + 10) C "block_behind" ["self", "deeds", "book", "path"] (spBB K C fi n)) (G : FnM K C "round_from" "Walk.round_from" s_Walk_round_from) :
    HasM P w K mg base (6 * n + 11) C "round_from" ["self", "deed", "head", "path"] (spRF K C fi n) := by
  refine hasM_of (k := 6 * n + 10) (N := N_Walk_round_from) G sc_Walk_round_from (fun _ _ _ _ _ _ us hl => match us, hl with | [_, _, _, _], _ => rfl) (fun vs H Q E h => ?_) (fun f cdv A outer s0 H vs Q E hr h => ?_)
  · obtain ⟨_, _, _, _, _, _, _, _, _, _, _, rfl, _⟩ := h
    rfl
  · obtain ⟨wk, g, vd, e, m, b, d, h, vp, p, Kn, rfl, hW, hdd, hlim, hb, hw, wf, hK, hp, hpl, hz, hpre, q⟩ := h
    refine ⟨_, (pss_cons (ps_set (i := 4) sc_Walk_round_from.nd rfl (.inl rfl) (pe_methH m_stretch Wc.cl hr (by omega) (pv 0) (pa3 (ixc (pv 1)) (pv 2) (pe_op op_path (pv 3) (pe_tup (pa1 pe_int))))))
      (pss_cons (ps_if (pt_cmpR op_isN (pv 4) pe_non (nomark _))
      (pss_one (ps_ret (pt2 pe_non pe_non)))
      pss_nil)
      (pss_cons (ps_set (i := 5) sc_Walk_round_from.nd rfl (.inl rfl) pe_non)
      (pss_cons (ps_set (i := 6) sc_Walk_round_from.nd rfl (.inl rfl) pe_non)
      (Evl.pss_cut (ps_if (pt_cmpR (op_neD (hu64 hr)) (pv 4) (pt2 pe_int pe_int) (nomark _))
      (pss_one (ps_set (i := 5) sc_Walk_round_from.nd rfl (.inl rfl) (pe_methH m_block_behind Wc.cl hr (by omega) (pv 0) (pa3 (ixc (pv 1)) (pe_callH h_behind hr (by omega) (pa3 (ixc (pv 1)) (pv 2) pe_bl)) (pe_op op_path (pv 3) (pe_tup (pa1 pe_int)))))))
      pss_nil)
      (Evl.pss_cut (ps_if (pt_cmpR op_notN (pe_callH h_met hr (by omega) (pa2 (pv 4) (pt2 pe_int pe_int))) pe_non (nomark _))
      (pss_one (ps_set (i := 6) sc_Walk_round_from.nd rfl (.inl rfl) (pe_callH h_behind hr (by omega) (pa3 (ixc (pv 1)) (pv 2) pe_bl))))
      pss_nil)
      (pss_one (ps_ret (pt2 (pv 5) (pv 6)))))))))), ?_⟩
    obtain ⟨a, ve, ab, vb, rfl, ha, he, hbb, hbs⟩ := hdd
    obtain ⟨hd3, m0, m20, hlx⟩ := limD_whl hlim
    have wf : wfE Kn e ∧ 0 ≤ m ∧ m ≤ 20 ∧ wfB b Kn := wf
    obtain ⟨dx, hdd, nt, us, hkv, nkv, ukv, W⟩ := id hW
    have hal := abS_len h e (p ++ [0])
    have hz0 := hz
    unfold GS.sz at hz
    refine ⟨_, rfl, wk, dx, _, rfl, W.ob, wF_stretch, _, rfl, _, _, _, _, rfl, rfl, sq_of ha, at1, _, rfl, _, rfl, one_line, fun t ht => ⟨p, 0, t, hp.mono (.new ht), rfl, upd_same, by omega, fun v1 H1 s1 hp1 => ?_⟩⟩
    have s1 := (same_new ht).trans s1
    refine ⟨wk, g, ve, e, d, h, v1, p ++ [0], Kn, rfl, hW.same s1, he.mono (.of_same s1), hd3, hb.same s1, hw, wf.1, hK, hp1, by rw [List.length_append, List.length_singleton]; omega, by unfold GS.sz; omega, fun vm H2 k2 hW2 hm => ?_⟩
    have k2 := Kp.trans (.of s1) k2
    refine ⟨_, rfl, rfl, _, rfl, ?_⟩
    rw [isO_non hm]
    have hpn : Post fi (szE e + wB b) (und (p ++ [1])) g ⟨g.notes ++ (abS h e (p ++ [0])).1, g.heads, g.used, g.hn⟩ (abS h e (p ++ [0])).1 [] := (Post.notes fi _ g _).mono (by omega) fun _ z => z
    have hpn1 : Post fi (szE e) (fun _ => False) g ⟨g.notes ++ (abS h e (p ++ [0])).1, g.heads, g.used, g.hn⟩ (abS h e (p ++ [0])).1 [] := (Post.notes fi _ g _).mono hal fun _ z => z
    have hsz1 : GS.sz ⟨g.notes ++ (abS h e (p ++ [0])).1, g.heads, g.used, g.hn⟩ ≤ g.sz + szE e := hpn1.1
    generalize GS.mk (g.notes ++ (abS h e (p ++ [0])).1) g.heads g.used g.hn = g1 at hW2 hpn hpn1 hsz1
    cases ea : abS h e (p ++ [0]) with
    | mk n1 o1 =>
      rw [ea] at hm hpn hpn1
      cases o1 with
      | none =>
        have er : rfd e (fun h => aB b 0 (p ++ [1]) h) p h = ⟨none, none, n1, []⟩ := by unfold rfd; rw [ea]
        refine ifT rfl ⟨two, fun t ht => ?_⟩
        refine q t .non .non _ g1 (k2.trans (.of (same_new ht))) (hW2.same (same_new ht)) upd_same ?_ ?_ ?_
        · rw [er]; rfl
        · rw [er]; rfl
        · rw [er]; exact hpn
      | some mm =>
        have er : rfd e (fun h => aB b 0 (p ++ [1]) h) p h = ⟨(if mm = (0, 0) then AR.no else bkBlk (fun h => aB b 0 (p ++ [1]) h) (bhd e h true)).out, if (SrM.mt mm (0, 0)).isSome then bhd e h false else none,
            n1 ++ (if mm = (0, 0) then AR.no else bkBlk (fun h => aB b 0 (p ++ [1]) h) (bhd e h true)).notes, (if mm = (0, 0) then AR.no else bkBlk (fun h => aB b 0 (p ++ [1]) h) (bhd e h true)).heads⟩ := by
          unfold rfd
          rw [ea]
        have hm : IsSt K H2 vm mm := hm
        have ha := k2.tups _ _ ha
        have he := he.mono k2.tups
        have hbb := k2.tups _ _ hbb
        have hbs := hbs.mono k2.tups
        have hb := k2.bk hb
        have hp := hp.mono k2.tups
        refine ifF rfl ?_
        rw [er] at q hpre
        simp only at q hpre
        refine ⟨fun σ H' => ∃ v5 g2, σ = [some (.ref wk), some (.ref a), some (.ref d), some vp, some vm, some v5, some .non] ∧ Kp H2 H' ∧ WkAt K H' C wk g2 ∧ BkO K H' v5 (if mm = (0, 0) then AR.no else bkBlk (fun h => aB b 0 (p ++ [1]) h) (bhd e h true)).out ∧
          Post fi (wB b) (und (p ++ [1])) g1 g2 (if mm = (0, 0) then AR.no else bkBlk (fun h => aB b 0 (p ++ [1]) h) (bhd e h true)).notes (if mm = (0, 0) then AR.no else bkBlk (fun h => aB b 0 (p ++ [1]) h) (bhd e h true)).heads, ?_, ?_⟩
        · refine ⟨_, rfl, two, fun t ht => ⟨_, _, dp_st (hm.mono (.new ht)), dp_st (s := (0, 0)) ⟨t, rfl, .inl upd_same⟩, shaped_path _, shaped_path _, _, rfl, ?_⟩⟩
          rw [eqv_st]
          have st : Same H2 (upd H2 t (.tup [.int 0, .int 0])) := same_new ht
          refine ifC (fun c => ?_) fun c => ?_
          · have c : mm ≠ (0, 0) := by simpa using c
            rw [if_neg c] at hpre ⊢
            have ha := st _ _ ha
            obtain ⟨dx, hdd, nt, us, hkv, nkv, ukv, W⟩ := id (hW2.same st)
            refine ⟨_, rfl, wk, dx, _, rfl, W.ob, wF_block_behind, _, rfl, _, _, _, _, rfl, rfl, sq_of ha, at3, _, rfl, _, _, _, _, rfl, rfl, sq_of ha, at1, _, rfl, _, d, true, e, h, Kn, rfl, he.mono (.of_same st), hd3, hb.same st, hw, wf.1, hK, fun v3 H3 s3 h3 => ?_⟩
            have s3 := st.trans s3
            refine ⟨_, rfl, one_line, fun t2 ht2 => ⟨p, 1, t2, (hp.mono (.of_same s3)).mono (.new ht2), rfl, upd_same, by omega, fun v4 H4 s4 hp4 => ?_⟩⟩
            have s4 := (same_new ht2).trans s4
            have s5 := s3.trans s4
            refine ⟨wk, g1, _, b, v3, bhd e h true, v4, p ++ [1], Kn, rfl, hW2.same s5, ⟨ab, vb, rfl, s5 _ _ hbb, hbs.mono (.of_same s5)⟩, hlx, h3.same s4, fun k ek => ?_, wf.2.2.2, hp4, by rw [List.length_append, List.length_singleton]; omega, by omega, hpre.post hpn1, fun v6 H6 g6 k6 hW6 h6 p6 => ?_⟩
            · obtain ⟨w1, w2⟩ := bhd_wide ek
              exact ⟨w1 hw, fun x hx => by rw [w2 x]; exact hK x hx⟩
            · exact ⟨v6, g6, rfl, (Kp.of s5).trans k6, hW6, h6, p6⟩
          · have c : mm = (0, 0) := by simpa using c
            rw [if_pos c]
            exact ⟨.non, g1, rfl, .of st, hW2.same st, rfl, (Post.refl fi _ g1).mono (Nat.zero_le _) fun _ z => z⟩
        · rintro σ H3 ⟨v5, g2, rfl, k3, hW3, h5, p5⟩
          have hpost := hpn1.trans (R := und (p ++ [1])) p5 (fun z hz => (nomatch hz)) (fun q z _ => z) (fun _ z => z.elim) (fun _ z => z)
          rw [show ([] : List (Path × Bk Sg)) ++ (if mm = (0, 0) then AR.no else bkBlk (fun h => aB b 0 (p ++ [1]) h) (bhd e h true)).heads = _ from List.nil_append _] at hpost
          have k4 := k2.trans k3
          refine ⟨fun σ H' => ∃ v6, σ = [some (.ref wk), some (.ref a), some (.ref d), some vp, some vm, some v5, some v6] ∧ Same H3 H' ∧ BkO K H' v6 (if (SrM.mt mm (0, 0)).isSome then bhd e h false else none), ?_, ?_⟩
          · refine ⟨_, rfl, two, fun t ht => ?_⟩
            have st : Same H3 (upd H3 t (.tup [.int 0, .int 0])) := same_new ht
            refine ⟨vm, .ref t, some mm, some (0, 0), rfl, (IsSt.mono k3.tups hm).mono (.of_same st), (isO00 upd_same).q, fun vx H4 s4 hx => ?_⟩
            have s4 := st.trans s4
            refine ⟨rfl, _, rfl, ?_⟩
            rw [isO_non hx]
            show if (!(SrM.mt mm (0, 0)).isNone) = true then _ else _
            cases emt : SrM.mt mm (0, 0) with
            | none => exact ifF rfl ⟨.non, rfl, s4, rfl⟩
            | some u =>
              refine ifT rfl ⟨_, rfl, _, _, _, _, rfl, rfl, sq_of (s4 _ _ (k3.tups _ _ ha)), at1, _, rfl, _, d, false, e, h, Kn, rfl, (he.mono k3.tups).mono (.of_same s4), hd3, (k3.bk hb).same s4, hw, wf.1, hK, fun v6 H5 s5 h5 => ?_⟩
              exact ⟨v6, rfl, s4.trans s5, h5⟩
          · rintro σ H4 ⟨v6, rfl, s4, h6⟩
            refine ⟨_, rfl, _, rfl, two, fun t ht => ?_⟩
            have st : Same H4 (upd H4 t (.tup [v5, v6])) := same_new ht
            exact q t v5 v6 _ g2 (k4.trans ((Kp.of s4).trans (.of st))) ((hW3.same s4).same st) upd_same ((h5.same s4).same st) (h6.same st) hpost
end
end Sr
end
section
set_option Elab.async false
set_option linter.all false
set_option maxRecDepth 100000
set_option maxHeartbeats 4000000
/-! walks: Run: deed, block -/
namespace Sr
open PySem PySem.Spec PyProof.Rows L2 SrM SrK
section
variable {P : Program} {w : World} {K : PySem.W.Frag} {mg : Str → Option Value} {base : Heap} {C : Addr}
abbrev N_Run_deed : List Str := ["self", "deed", "path", "worth"]
theorem sc_Run_deed : FnScope N_Run_deed ["self", "deed", "path"] (defScope s_Run_deed) := ⟨rfl, rfl, rfl, by decide +kernel, rfl, by decide +kernel, by decide +kernel⟩
theorem ok_rdeed (R : RunC K C) (n : Nat) (m_worth : HasM P w K mg base 6 C "worth" ["self", "expr", "path"] (spWorth C 3)) (m_block : HasM P w K mg base (3 * n + 7) C "block" ["self", "deeds", "path"] (spRBlock C n)) (m_rounds : HasM P w K mg base (3 * n + 8) C "rounds" ["self", "deed", "path"] (spRRounds C n)) (G : FnM K C "deed" "Run.deed" s_Run_deed) :
    HasM P w K mg base (3 * n + 9) C "deed" ["self", "deed", "path"] (spRDeed C n) := by
  have cl := R.cl
  refine hasM_of (k := 3 * n + 8) (N := N_Run_deed) G sc_Run_deed (fun _ _ _ _ _ _ us hl => match us, hl with | [_, _, _], _ => rfl) (fun vs H Q E h => ?_) (fun f cdv A outer s0 H vs Q E hr h => ?_)
  · obtain ⟨_, _, _, _, _, _, _, _, _, rfl, _⟩ := h
    rfl
  · obtain ⟨r, bd, sl, s, vd, d, vp, p, Kn, rfl, hR, hf, hd, hlim, wf, hK, hp, hpl, hz, q⟩ := h
    refine ⟨_, (pss_one (ps_if (pt_cmpR op_eq (ixc (pv 1)) pe_str (nomark _))
      (pss_cons (ps_set (i := 3) sc_Run_deed.nd rfl (.inl rfl) (pe_methH m_worth cl hr (by omega) (pv 0) (pa2 (ixc (pv 1)) (pe_op op_path (pv 2) (pe_tup (pa1 pe_int))))))
      (pss_one (ps_if (pt_cmpR op_isN (pe_fld (pv 0) rfl) pe_non (nomark _))
      (pss_one (ps_dput (hu1 hr) (pe_fld (pv 0) rfl) (ixc (pv 1)) (pv 3) rfl))
      pss_nil)))
      (pss_one (ps_if (pt_cmpR op_eq (ixc (pv 1)) pe_str (nomark _))
      (pss_cons (ps_set (i := 3) sc_Run_deed.nd rfl (.inl rfl) (pe_methH m_worth cl hr (by omega) (pv 0) (pa2 (ixc (pv 1)) (pe_op op_path (pv 2) (pe_tup (pa1 pe_int))))))
      (pss_one (ps_if (PW.pt (pw_and (pt_cmpR op_isN (pe_fld (pv 0) rfl) pe_non (nomark _)) (pw_and1 (pt_cmpR op_ne (pv 3) pe_int (nomark _)))))
      (pss_one (ps_expr (pe_methH m_block cl hr (by omega) (pv 0) (pa2 (ixc (pv 1)) (pe_op op_path (pv 2) (pe_tup (pa1 pe_int)))))))
      (pss_one (ps_if (pt_cmpR op_isN (pe_fld (pv 0) rfl) pe_non (nomark _))
      (pss_one (ps_expr (pe_methH m_block cl hr (by omega) (pv 0) (pa2 (ixc (pv 1)) (pe_op op_path (pv 2) (pe_tup (pa1 pe_int)))))))
      pss_nil)))))
      (pss_one (ps_expr (pe_methH m_rounds cl hr (by omega) (pv 0) (pa2 (pv 1) (pv 2))))))))), ?_⟩
    obtain ⟨⟨dx, pl, vf, h1, h2⟩, _⟩ := id hR
    cases d with
    | set x e =>
      obtain ⟨a, ve, rfl, ha, he⟩ := hd
      have hd3 := limD_set hlim
      have wf : wfE Kn e := wf
      have hz : s.seen.length + szE e ≤ 2000000 := hz
      refine ⟨_, rfl, _, _, _, _, rfl, rfl, sq_of ha, at0, rfl, _, rfl, ifT (by decide +kernel) ?_⟩
      refine ⟨_, rfl, r, dx, _, rfl, h1, rF_worth, _, rfl, _, _, _, _, rfl, rfl, sq_of ha, at2, _, rfl, one_line, fun t ht => ⟨p, 0, t, hp.mono (.new ht), rfl, upd_same, by omega, fun v1 H1 s1 hp1 => ?_⟩⟩
      have s1 := (same_new ht).trans s1
      refine ⟨r, bd, sl, s, ve, e, v1, p ++ [0], Kn, rfl, hR.same s1, hf, he.mono (.of_same s1), hd3, wf, hK, hp1, by rw [List.length_append, List.length_singleton]; omega, by omega, fun i H2 f2 hR2 g2 => ?_⟩
      have f2 := RFm.trans (.of s1) f2
      obtain ⟨⟨dx, pl, vf, h1, h2⟩, ⟨kvs, h3, D⟩, ps, h5, h6⟩ := id hR2
      refine ⟨_, rfl, r, C, dx, _, _, rfl, h1, R.cl, R.fault, rfl, rfl, _, rfl, ?_⟩
      rw [ft_non h2]
      rw [rnD_set] at q
      cases ec : evC e (p ++ [0]) s with
      | mk s2 o =>
        have hfo := evC_fault (e := e) (p := p ++ [0]) (s := s)
        rw [ec] at hR2 g2 h2 hfo q D h6
        cases o with
        | none =>
          cases es : s2.fault with
          | none =>
            obtain ⟨v, z⟩ := hfo.mp es
            cases z
          | some y => exact ifF rfl (q H2 f2 hR2)
        | some v =>
          obtain rfl := g2 v rfl
          have es : s2.fault = none := hfo.mpr ⟨i, rfl⟩
          show if s2.fault.isNone = true then _ else _
          rw [es]
          refine ifT rfl ⟨_, rfl, _, rfl, r, C, dx, _, _, rfl, h1, R.cl, R.book, rfl, _, rfl, _, _, _, _, rfl, rfl, sq_of (f2.1 _ _ ha), at1, bd, _, rfl, DPut.k (k := nK x) h3 (small_line (by have := D.length; omega)), ?_⟩
          have f3 : RFm r bd sl H2 (upd H2 bd (.dK (putK kvs (nK x) (.int i)))) := ⟨.put fun xs z => (by rw [h3] at z; cases z), .put (by simp)⟩
          refine q _ (f2.trans f3) ⟨⟨dx, pl, vf, ?_, ?_⟩, ⟨_, upd_same, D.put rfl⟩, ps, ?_, h6.mono f3.1⟩
          · rw [upd_ne (ne_of h1 h3 (by intro z; cases z))]
            exact h1
          · exact h2.mono f3.1
          · rw [upd_ne (ne_of h5 h3 (by intro z; cases z))]
            exact h5
    | ife e f g =>
      obtain ⟨a, ve, af, ag, vff, vg, rfl, ha, he, hbf, hdf, hbg, hdg⟩ := hd
      obtain ⟨hd3, lf, lg⟩ := limD_ife hlim
      have wf : wfE Kn e ∧ wfB f Kn ∧ wfB g Kn := wf
      have hz : s.seen.length + (szE e + cB f + cB g) ≤ 2000000 := hz
      refine ⟨_, rfl, _, _, _, _, rfl, rfl, sq_of ha, at0, rfl, _, rfl, ifF (by decide +kernel) ?_⟩
      refine ⟨_, rfl, _, _, _, _, rfl, rfl, sq_of ha, at0, rfl, _, rfl, ifT (by decide +kernel) ?_⟩
      refine ⟨_, rfl, r, dx, _, rfl, h1, rF_worth, _, rfl, _, _, _, _, rfl, rfl, sq_of ha, at1, _, rfl, one_line, fun t ht => ⟨p, 0, t, hp.mono (.new ht), rfl, upd_same, by omega, fun v1 H1 s1 hp1 => ?_⟩⟩
      have s1 := (same_new ht).trans s1
      refine ⟨r, bd, sl, s, ve, e, v1, p ++ [0], Kn, rfl, hR.same s1, hf, he.mono (.of_same s1), hd3, wf.1, hK, hp1, by rw [List.length_append, List.length_singleton]; omega, by omega, fun i H2 f2 hR2 g2 => ?_⟩
      have f2 := RFm.trans (.of s1) f2
      have hp2 := hp.mono f2.1
      have hseen := evC_seen (e := e) (p := p ++ [0]) (s := s)
      have henv := evC_env (e := e) (p := p ++ [0]) (s := s)
      obtain ⟨⟨dx, pl, vf, h1, h2⟩, _⟩ := id hR2
      refine ⟨_, rfl, r, C, dx, _, _, rfl, h1, R.cl, R.fault, rfl, rfl, _, rfl, ?_⟩
      rw [ft_non h2]
      rw [rnD_ife] at q
      cases ec : evC e (p ++ [0]) s with
      | mk s2 o =>
        have hfo := evC_fault (e := e) (p := p ++ [0]) (s := s)
        rw [ec] at hR2 g2 h2 hfo q hseen henv
        have hseen : s2.seen.length ≤ s.seen.length + szE e := hseen
        have hK2 : inDomE Kn s2.env := by rw [show s2.env = s.env from henv]; exact hK
        cases o with
        | none =>
          cases es : s2.fault with
          | none =>
            obtain ⟨v, z⟩ := hfo.mp es
            cases z
          | some y =>
            refine ifF rfl ?_
            refine ifF rfl ⟨_, rfl, r, C, dx, _, _, rfl, h1, R.cl, R.fault, rfl, rfl, _, rfl, ?_⟩
            rw [ft_non h2]
            show if s2.fault.isNone = true then _ else _
            rw [es]
            exact ifF rfl (q H2 f2 hR2)
        | some v =>
          obtain rfl := g2 v rfl
          have es : s2.fault = none := hfo.mpr ⟨i, rfl⟩
          show if s2.fault.isNone = true then _ else _
          rw [es]
          refine ifT rfl ⟨_, rfl, rfl, _, rfl, ?_⟩
          rw [dec_ii]
          refine ifC (fun c => ?_) fun c => ?_
          · have c : i ≠ 0 := by simpa using c
            refine ⟨_, rfl, r, dx, _, rfl, h1, rF_block, _, rfl, _, _, _, _, rfl, rfl, sq_of (f2.1 _ _ ha), at2, _, rfl, one_line, fun t ht => ⟨p, 1, t, hp2.mono (.new ht), rfl, upd_same, by omega, fun v5 H5 s5 hp5 => ?_⟩⟩
            have s5 := (same_new ht).trans s5
            have f5 := f2.trans (.of s5)
            refine ⟨r, bd, sl, s2, _, f, v5, p ++ [1], Kn, rfl, hR2.same s5, es, ⟨af, vff, rfl, f5.1 _ _ hbf, hdf.mono f5.1⟩, lf, wf.2.1, hK2, hp5, by rw [List.length_append, List.length_singleton]; omega, by omega, fun H6 f6 hR6 => ?_⟩
            refine q _ (f5.trans f6) ?_
            simp only
            rw [if_pos c]
            exact hR6
          · have c : i = 0 := by simpa using c
            refine ⟨_, rfl, r, C, dx, _, _, rfl, h1, R.cl, R.fault, rfl, rfl, _, rfl, ?_⟩
            rw [ft_non h2]
            show if s2.fault.isNone = true then _ else _
            rw [es]
            refine ifT rfl ⟨_, rfl, r, dx, _, rfl, h1, rF_block, _, rfl, _, _, _, _, rfl, rfl, sq_of (f2.1 _ _ ha), at3, _, rfl, one_line, fun t ht => ⟨p, 2, t, hp2.mono (.new ht), rfl, upd_same, by omega, fun v5 H5 s5 hp5 => ?_⟩⟩
            have s5 := (same_new ht).trans s5
            have f5 := f2.trans (.of s5)
            refine ⟨r, bd, sl, s2, _, g, v5, p ++ [2], Kn, rfl, hR2.same s5, es, ⟨ag, vg, rfl, f5.1 _ _ hbg, hdg.mono f5.1⟩, lg, wf.2.2, hK2, hp5, by rw [List.length_append, List.length_singleton]; omega, by omega, fun H6 f6 hR6 => ?_⟩
            refine q _ (f5.trans f6) ?_
            simp only
            rw [if_neg (fun z => z c)]
            exact hR6
    | whl e m b =>
      obtain ⟨a, z, xs, ea, ha, t1, t2, t3⟩ := dd_tag hd
      subst ea
      refine ⟨_, rfl, _, _, _, _, rfl, rfl, sq_of ha, at0, rfl, _, rfl, ?_⟩
      rw [show decide (V.str z = V.str (_ : String)) = (dT (.whl e m b) == 0) from t1]
      refine ifF rfl ⟨_, rfl, _, _, _, _, rfl, rfl, sq_of ha, at0, rfl, _, rfl, ?_⟩
      rw [show decide (V.str z = V.str (_ : String)) = (dT (.whl e m b) == 1) from t2]
      refine ifF rfl ⟨_, rfl, r, dx, _, rfl, h1, rF_rounds, _, rfl, _, rfl, ?_⟩
      exact ⟨r, bd, sl, s, _, e, m, b, vp, p, Kn, rfl, hR, hf, hd, hlim, wf, hK, hp, hpl, hz, fun H' f1 h => q H' f1 h⟩
abbrev N_Run_block : List Str := ["self", "deeds", "path", "number", "deed"]
theorem sc_Run_block : FnScope N_Run_block ["self", "deeds", "path"] (defScope s_Run_block) := ⟨rfl, rfl, rfl, by decide +kernel, rfl, by decide +kernel, by decide +kernel⟩
theorem drop_get {α : Type} {l : List α} {i : Nat} {x : α} (h : l[i]? = some x) : l.drop i = x :: l.drop (i + 1) := by
  obtain ⟨hi, e⟩ := List.getElem?_eq_some_iff.mp h
  rw [List.drop_eq_getElem_cons hi, e]
theorem ok_rblock (T : Tx K mg) (R : RunC K C) (n : Nat) (m_deed : HasM P w K mg base (3 * n + 9) C "deed" ["self", "deed", "path"] (spRDeed C n)) (G : FnM K C "block" "Run.block" s_Run_block) :
    HasM P w K mg base (3 * n + 10) C "block" ["self", "deeds", "path"] (spRBlock C (n + 1)) := by
  have cl := R.cl
  refine hasM_of (k := 3 * n + 9) (N := N_Run_block) G sc_Run_block (fun _ _ _ _ _ _ us hl => match us, hl with | [_, _, _], _ => rfl) (fun vs H Q E h => ?_) (fun f cdv A outer s0 H vs Q E hr h => ?_)
  · obtain ⟨_, _, _, _, _, _, _, _, _, rfl, _⟩ := h
    rfl
  · obtain ⟨r, bd, sl, s, vd, ds, vp, p, Kn, rfl, hR, hf, ⟨ab, vb, rfl, hb, hds⟩, hlim, wf, hK, hp, hpl, hz, q⟩ := h
    refine ⟨_, (pss_one (ps_for PassesOwn.never rfl (pi_enumT (by rfl) T.enumerate (pa1 (pv 1))) (pg_tup (by rfl) (pgs_cons (pg_name (i := 3) sc_Run_block.nd rfl (.inl rfl)) (pgs_cons (pg_name (i := 4) sc_Run_block.nd rfl (.inl rfl)) pgs_nil)))
      (pss_one (ps_if (pt_cmpR op_isN (pe_fld (pv 0) rfl) pe_non (nomark _))
      (pss_one (ps_expr (pe_methH m_deed cl hr (by omega) (pv 0) (pa2 (pv 4) (pe_op op_path (pv 2) (pe_tup (pa1 (pv 3))))))))
      pss_nil)))), ?_⟩
    have hlim : limB n ds := hlim
    have hlen : vb.length = ds.length := hds.length
    refine ⟨_, rfl, ab, vb, rfl, sq_of hb, for_it walk_enumT (fun i σ H' => ∃ y3 y4 s1 Ki, σ = [some (.ref r), some (.ref ab), some vp, y3, y4] ∧ RFm r bd sl H H' ∧ RunAt H' C r bd sl s1 ∧ rnB (ds.drop i) (i : Nat) p s1 = rnB ds 0 p s ∧
        (s1.fault = none → inDomE Ki s1.env ∧ wfB (ds.drop i) Ki) ∧ s1.seen.length + cB (ds.drop i) ≤ 2000000)
      ⟨none, none, s, Kn, rfl, .refl, hR, rfl, fun _ => ⟨hK, wf⟩, hz⟩ (fun i σ H' _ ⟨_, _, _, _, _, f1, _⟩ => sq_of (f1.1 _ _ hb)) ?_ ?_⟩
    · rintro i x σ H' H2 hi ⟨y3, y4, s1, Ki, rfl, f1, hR1, hrn, hdm, hz1⟩ hY
      obtain ⟨t, x1, x2, rfl, ht, rfl, ex1, ex2⟩ := hY
      injection ex1 with ex1
      subst ex1
      obtain ⟨d, ed, hd⟩ := hds.get ex2
      rw [drop_get ed] at hrn hz1 hdm
      have hz1 : s1.seen.length + (cD d + cB (ds.drop (i + 1))) ≤ 2000000 := hz1
      have s2 : Same H' (upd H' t (.tup [.int (i : Nat), x2])) := same_new ht
      have et : upd H' t (.tup [.int (i : Nat), x2]) t = some (.tup [.int (i : Nat), x2]) := upd_same
      have hR2 := hR1.same s2
      have f2 := f1.trans (.of s2)
      generalize upd H' t (.tup [.int (i : Nat), x2]) = H2 at s2 et hR2 f2
      refine ⟨t, _, rfl, sq_of et, rfl, _, _, rfl, _, _, rfl, rfl, ?_⟩
      obtain ⟨⟨dx, pl, vf, h1, h2⟩, _⟩ := id hR2
      refine ⟨_, rfl, r, C, dx, _, _, rfl, h1, R.cl, R.fault, rfl, rfl, _, rfl, ?_⟩
      rw [ft_non h2]
      rw [rnB] at hrn
      have ei : ((i : Nat) : Int) + 1 = ((i + 1 : Nat) : Int) := by omega
      rw [ei] at hrn
      cases es : s1.fault with
      | some y =>
        refine ifF rfl ⟨_, _, s1, Ki, rfl, f2, hR2, ?_, fun z => (by rw [es] at z; cases z), by omega⟩
        rw [es] at hrn
        exact hrn
      | none =>
        obtain ⟨hK1, wf1⟩ := hdm es
        have wf1 : wfD d Ki ∧ wfB (ds.drop (i + 1)) (afD d Ki) := wf1
        rw [es] at hrn
        refine ifT rfl ⟨_, rfl, r, dx, _, rfl, h1, rfl, _, rfl, _, rfl, _, rfl, one_line, fun t2 ht2 => ⟨p, (i : Nat), t2, (hp.mono f2.1).mono (.new ht2), rfl, upd_same, by omega, fun v1 H3 s3 hp3 => ?_⟩⟩
        have s3 := (same_new ht2).trans s3
        have f3 := f2.trans (.of s3)
        have hdl := rnD_len d (p ++ [((i : Nat) : Int)]) s1
        refine ⟨r, bd, sl, s1, x2, d, v1, p ++ [((i : Nat) : Int)], Ki, rfl, hR2.same s3, es, hd.mono f3.1, hlim.2 d (List.mem_of_getElem? ed), wf1.1, hK1, hp3, by rw [List.length_append, List.length_singleton]; omega, by omega, fun H4 f4 hR4 => ?_⟩
        exact ⟨_, _, _, afD d Ki, rfl, f3.trans f4, hR4, hrn, fun z => ⟨rnD_inDom d _ Ki s1 hK1 es z, wf1.2⟩, by omega⟩
    · rintro σ H' ⟨y3, y4, s1, Ki, rfl, f1, hR1, hrn, hdm, hz1⟩
      rw [hlen, List.drop_length] at hrn
      refine q H' f1 ?_
      rw [← hrn]
      exact hR1
/-- a run's block, at every depth -/
theorem ok_runs (T : Tx K mg) (R : RunC K C) (m_refuse : HasM P w K mg base 1 C "refuse" ["self", "word", "path"] (spRefuse C)) (m_worth : HasM P w K mg base 6 C "worth" ["self", "expr", "path"] (spWorth C 3))
    (Gr : FnM K C "rounds" "Run.rounds" s_Run_rounds) (Gd : FnM K C "deed" "Run.deed" s_Run_deed) (Gb : FnM K C "block" "Run.block" s_Run_block) : ∀ n, HasM P w K mg base (3 * n + 7) C "block" ["self", "deeds", "path"] (spRBlock C n)
  | 0 => hasM_of (k := 6) (N := N_Run_block) Gb sc_Run_block (fun _ _ _ _ _ _ us hl => match us, hl with | [_, _, _], _ => rfl) (fun vs H Q E h => by obtain ⟨_, _, _, _, _, _, _, _, _, rfl, _⟩ := h; rfl) (fun f cdv A outer s0 H vs Q E hr h => by
    obtain ⟨_, _, _, _, _, _, _, _, _, rfl, _, _, _, hd, _⟩ := h
    exact hd.elim)
  | n + 1 => by
    have m_block := ok_runs T R m_refuse m_worth Gr Gd Gb n
    have m_rounds := ok_rrounds R n m_refuse m_worth m_block Gr
    exact ok_rblock T R n (ok_rdeed R n m_worth m_block m_rounds Gd) Gb
end
end Sr
end
section
set_option Elab.async false
set_option linter.all false
set_option maxRecDepth 100000
set_option maxHeartbeats 4000000
/-! walks: Walk.deed -/
namespace Sr
open PySem PySem.Spec PyProof.Rows L2 SrM SrK
section
variable {P : Program} {w : World} {K : PySem.W.Frag} {mg : Str → Option Value} {base : Heap} {C : Addr} {fi : Bool}
theorem aD_set {x : Nm} {e : Ex} {p : Path} {bk : Bk Sg} : aD (.set x e) p bk = setA x e p bk := by rw [aD]
theorem aD_ife {e : Ex} {f g : List Dd} {p : Path} {bk : Bk Sg} : aD (.ife e f g) p bk = ifA e (fun h => aB f 0 (p ++ [1]) h) (fun h => aB g 0 (p ++ [2]) h) p bk := by rw [aD]
/-- one side of a question -/
abbrev sideA (c : Bool) (blk : Bk Sg → AR) (o : Option (Bk Sg)) : AR := if c = true then bkBlk blk o else AR.no
theorem side_und {c : Bool} {ds : List Dd} {p : Path} {o : Option (Bk Sg)} : ∀ z ∈ (sideA c (fun h => aB ds 0 p h) o).heads, und p z.1 := fun z hz => by
  unfold sideA at hz
  split at hz
  · exact heads_und z hz
  · cases hz
theorem ne_side {c : Bool} {X : AR} {mm : Sg} (h : c = !decide (mm = (0, 0))) : (if mm = (0, 0) then AR.no else X) = if c = true then X else AR.no := by
  by_cases e : mm = (0, 0)
  · subst e
    rw [if_pos rfl, h, if_neg (by decide)]
  · rw [if_neg e, h, decide_eq_false e]
    rfl
abbrev N_Walk_deed : List Str := ["self", "deed", "book", "path", "made", "first", "second"]
theorem sc_Walk_deed : FnScope N_Walk_deed ["self", "deed", "book", "path"] (defScope s_Walk_deed) := ⟨rfl, rfl, rfl, by decide +kernel, rfl, by decide +kernel, by decide +kernel⟩
theorem ok_wdeed (T : Tx K mg) (Wc : WalkC K C) (n : Nat) (m_stretch : HasM P w K mg base 8 C "stretch" ["self", "expr", "book", "path"] (spStr K C 3)) (h_behind : Has P w K mg base 9 "behind" ["expr", "book", "is_so"] (spBehind K)) (h_met : Has P w K mg base 1 "met" ["one", "other"] (spM2 K))
    (h_joined_books : Has P w K mg base 2 "joined_books" ["one", "other"] (spJB K)) (m_block_behind : HasM P w K mg base (6 * n + 10) C "block_behind" ["self", "deeds", "book", "path"] (spBB K C fi n)) (m_rounds : HasM P w K mg base (6 * n + 13) C "rounds" ["self", "deed", "book", "path"] (spWR K C fi n))
    (G : FnM K C "deed" "Walk.deed" s_Walk_deed) : HasM P w K mg base (6 * n + 14) C "deed" ["self", "deed", "book", "path"] (spWD K C fi n) := by
  refine hasM_of (k := 6 * n + 13) (N := N_Walk_deed) G sc_Walk_deed (fun _ _ _ _ _ _ us hl => match us, hl with | [_, _, _, _], _ => rfl) (fun vs H Q E h => ?_) (fun f cdv A outer s0 H vs Q E hr h => ?_)
  · obtain ⟨_, _, _, _, _, _, _, _, _, rfl, _⟩ := h
    rfl
  · obtain ⟨wk, g, vd, dd, d, bk, vp, p, Kn, rfl, hW, hdd, hlim, hb, hw, wf, hK, hp, hpl, hz, hpre, q⟩ := h
    refine ⟨_, (pss_cons (ps_if (pt_cmpR op_eq (ixc (pv 1)) pe_str (nomark _))
      (pss_one (ps_ret (pe_methH m_rounds Wc.cl hr (by omega) (pv 0) (pa3 (pv 1) (pv 2) (pv 3)))))
      pss_nil)
      (pss_cons (ps_set (i := 4) sc_Walk_deed.nd rfl (.inl rfl) (pe_methH m_stretch Wc.cl hr (by omega) (pv 0) (pa3 (pe_ifExp (pt_cmpR op_eq (ixc (pv 1)) pe_str (nomark _)) (ixc (pv 1)) (ixc (pv 1))) (pv 2) (pe_op op_path (pv 3) (pe_tup (pa1 pe_int))))))
      (pss_cons (ps_if (pt_cmpR op_isN (pv 4) pe_non (nomark _))
      (pss_one (ps_ret pe_non))
      pss_nil)
      (pss_cons (ps_if (pt_cmpR op_eq (ixc (pv 1)) pe_str (nomark _))
      (pss_cons (ps_set (i := 2) sc_Walk_deed.nd rfl (.inl rfl) (pe_callTy call_dictD (by rfl) T.dict (by decide +kernel) (pa1 (pv 2))))
      (pss_cons (ps_dput (hu1 hr) (pv 2) (ixc (pv 1)) (pv 4) rfl)
      (pss_one (ps_ret (pv 2)))))
      pss_nil)
      (pss_cons (ps_set (i := 5) sc_Walk_deed.nd rfl (.inl rfl) pe_non)
      (pss_cons (ps_set (i := 6) sc_Walk_deed.nd rfl (.inl rfl) pe_non)
      (Evl.pss_cut (ps_if (pt_cmpR (op_neD (hu64 hr)) (pv 4) (pt2 pe_int pe_int) (nomark _))
      (pss_one (ps_set (i := 5) sc_Walk_deed.nd rfl (.inl rfl) (pe_methH m_block_behind Wc.cl hr (by omega) (pv 0) (pa3 (ixc (pv 1)) (pe_callH h_behind hr (by omega) (pa3 (ixc (pv 1)) (pv 2) pe_bl)) (pe_op op_path (pv 3) (pe_tup (pa1 pe_int)))))))
      pss_nil)
      (Evl.pss_cut (ps_if (pt_cmpR op_notN (pe_callH h_met hr (by omega) (pa2 (pv 4) (pt2 pe_int pe_int))) pe_non (nomark _))
      (pss_one (ps_set (i := 6) sc_Walk_deed.nd rfl (.inl rfl) (pe_methH m_block_behind Wc.cl hr (by omega) (pv 0) (pa3 (ixc (pv 1)) (pe_callH h_behind hr (by omega) (pa3 (ixc (pv 1)) (pv 2) pe_bl)) (pe_op op_path (pv 3) (pe_tup (pa1 pe_int)))))))
      pss_nil)
      (pss_one (ps_ret (pe_callH h_joined_books hr (by omega) (pa2 (pv 5) (pv 6))))))))))))), ?_⟩
    obtain ⟨dx, hdd', nt, us, hkv, nkv, ukv, W⟩ := id hW
    have hz0 := hz
    unfold GS.sz at hz
    cases dd with
    | whl e m b =>
      obtain ⟨a, z, xs, ea, ha, t1, t2, t3⟩ := dd_tag hdd
      subst ea
      refine ⟨_, rfl, _, _, _, _, rfl, rfl, sq_of ha, at0, rfl, _, rfl, ?_⟩
      rw [show decide (V.str z = V.str (_ : String)) = (dT (.whl e m b) == 2) from t3]
      refine ifT rfl ⟨_, rfl, wk, dx, _, rfl, W.ob, wF_rounds, _, rfl, _, rfl, _, rfl, ?_⟩
      exact ⟨wk, g, _, e, m, b, d, bk, vp, p, Kn, rfl, hW, hdd, hlim, hb, hw, wf, hK, hp, hpl, hz0, hpre, q⟩
    | set x e =>
      obtain ⟨a, ve, rfl, ha, he⟩ := hdd
      have hd3 := limD_set hlim
      have wf : wfE Kn e := wf
      have hz : g.notes.length + g.hn + g.used.length + szE e ≤ 4000000 := hz
      have hal := abS_len bk e (p ++ [0])
      have hpn : Post fi (szE e) (und p) g ⟨g.notes ++ (abS bk e (p ++ [0])).1, g.heads, g.used, g.hn⟩ (abS bk e (p ++ [0])).1 [] := (Post.notes fi _ g _).mono hal fun _ z => z
      refine ⟨_, rfl, _, _, _, _, rfl, rfl, sq_of ha, at0, rfl, _, rfl, ifF (by decide +kernel) ?_⟩
      refine ⟨_, rfl, wk, dx, _, rfl, W.ob, wF_stretch, _, rfl, _, _, _, _, rfl, rfl, sq_of ha, at0, rfl, _, rfl, ifT (by decide +kernel) ⟨_, rfl, _, _, _, _, rfl, rfl, sq_of ha, at2, _, rfl, _, rfl, one_line, fun t ht => ⟨p, 0, t, hp.mono (.new ht), rfl, upd_same, by omega, fun v1 H1 s1 hp1 => ?_⟩⟩⟩
      have s1 := (same_new ht).trans s1
      refine ⟨wk, g, ve, e, d, bk, v1, p ++ [0], Kn, rfl, hW.same s1, he.mono (.of_same s1), hd3, hb.same s1, hw, wf, hK, hp1, by rw [List.length_append, List.length_singleton]; omega, by unfold GS.sz; omega, fun vm H2 k2 hW2 hm => ?_⟩
      have k2 := Kp.trans (.of s1) k2
      rw [aD_set] at q
      have hq : ∀ n1 o1, abS bk e (p ++ [0]) = (n1, o1) → (setA x e p bk).notes = n1 ∧ (setA x e p bk).heads = [] ∧ (setA x e p bk).out = o1.map (fun s => SrM.put bk x s) := fun n1 o1 ee => by
        unfold setA
        rw [ee]
        cases o1 <;> exact ⟨rfl, rfl, rfl⟩
      cases eab : abS bk e (p ++ [0]) with
      | mk n1 o1 =>
        obtain ⟨q1, q2, q3⟩ := hq n1 o1 eab
        rw [q1, q2, q3] at q
        rw [eab] at hm hpn hW2
        refine ⟨_, rfl, rfl, _, rfl, ?_⟩
        rw [isO_non hm]
        cases o1 with
        | none => exact ifT rfl (q .non H2 _ k2 hW2 rfl hpn)
        | some m =>
          have ha := k2.tups _ _ ha
          obtain ⟨kvs, hk, D⟩ := k2.bk hb
          refine ifF rfl ⟨_, rfl, _, _, _, _, rfl, rfl, sq_of ha, at0, rfl, _, rfl, ifT (by decide +kernel) ?_⟩
          refine ⟨_, rfl, d, kvs, rfl, .inl hk, fun b hb' => ?_⟩
          have s3 : Same H2 (upd H2 b (.dK kvs)) := same_new hb'
          refine ⟨_, rfl, _, rfl, _, rfl, _, _, _, _, rfl, rfl, sq_of (s3 _ _ ha), at1, b, _, rfl, DPut.k (k := nK x) upd_same (small_line (by have := D.length; omega)), _, rfl, ?_⟩
          have s4 : Same H2 (upd (upd H2 b (.dK kvs)) b (.dK (putK kvs (nK x) vm))) := by
            rw [upd_upd]
            exact same_new hb'
          exact q _ _ _ (k2.trans (.of s4)) (hW2.same s4) ⟨b, rfl, _, upd_same, (D.mono fun v s h => h.mono (.of_same s4)).put (IsSt.mono (.of_same s4) hm)⟩ hpn
    | ife e f gg =>
      obtain ⟨a, ve, af, ag, vff, vg, rfl, ha, he, hbf, hdf, hbg, hdg⟩ := hdd
      obtain ⟨hd3, lf, lg⟩ := limD_ife hlim
      have wf : wfE Kn e ∧ wfB f Kn ∧ wfB gg Kn := wf
      have hz : g.notes.length + g.hn + g.used.length + (szE e + wB f + wB gg) ≤ 4000000 := hz
      have hz0 : g.sz + (szE e + wB f + wB gg) ≤ 4000000 := hz0
      have hal := abS_len bk e (p ++ [0])
      have hpn : Post fi (szE e + wB f + wB gg) (und p) g ⟨g.notes ++ (abS bk e (p ++ [0])).1, g.heads, g.used, g.hn⟩ (abS bk e (p ++ [0])).1 [] := (Post.notes fi _ g _).mono (by omega) fun _ z => z
      have hpn1 : Post fi (szE e) (fun _ => False) g ⟨g.notes ++ (abS bk e (p ++ [0])).1, g.heads, g.used, g.hn⟩ (abS bk e (p ++ [0])).1 [] := (Post.notes fi _ g _).mono hal fun _ z => z
      refine ⟨_, rfl, _, _, _, _, rfl, rfl, sq_of ha, at0, rfl, _, rfl, ifF (by decide +kernel) ?_⟩
      refine ⟨_, rfl, wk, dx, _, rfl, W.ob, wF_stretch, _, rfl, _, _, _, _, rfl, rfl, sq_of ha, at0, rfl, _, rfl, ifF (by decide +kernel) ⟨_, rfl, _, _, _, _, rfl, rfl, sq_of ha, at1, _, rfl, _, rfl, one_line, fun t ht => ⟨p, 0, t, hp.mono (.new ht), rfl, upd_same, by omega, fun v1 H1 s1 hp1 => ?_⟩⟩⟩
      have s1 := (same_new ht).trans s1
      refine ⟨wk, g, ve, e, d, bk, v1, p ++ [0], Kn, rfl, hW.same s1, he.mono (.of_same s1), hd3, hb.same s1, hw, wf.1, hK, hp1, by rw [List.length_append, List.length_singleton]; omega, by unfold GS.sz; omega, fun vm H2 k2 hW2 hm => ?_⟩
      have k2 := Kp.trans (.of s1) k2
      rw [aD_ife] at q hpre
      refine ⟨_, rfl, rfl, _, rfl, ?_⟩
      rw [isO_non hm]
      have hsz1 : GS.sz ⟨g.notes ++ (abS bk e (p ++ [0])).1, g.heads, g.used, g.hn⟩ ≤ g.sz + szE e := hpn1.1
      generalize GS.mk (g.notes ++ (abS bk e (p ++ [0])).1) g.heads g.used g.hn = g1 at hW2 hpn hpn1 hsz1
      cases eab : abS bk e (p ++ [0]) with
      | mk n1 o1 =>
        rw [eab] at hm hpn hpn1
        cases o1 with
        | none =>
          have er : ifA e (fun h => aB f 0 (p ++ [1]) h) (fun h => aB gg 0 (p ++ [2]) h) p bk = ⟨none, n1, []⟩ := by unfold ifA; rw [eab]
          rw [er] at q
          exact ifT rfl (q .non H2 g1 k2 hW2 rfl hpn)
        | some mm =>
          have er : ifA e (fun h => aB f 0 (p ++ [1]) h) (fun h => aB gg 0 (p ++ [2]) h) p bk = ⟨jB (sideA (!decide (mm = (0, 0))) (fun h => aB f 0 (p ++ [1]) h) (bhd e bk true)).out (sideA (SrM.mt mm (0, 0)).isSome (fun h => aB gg 0 (p ++ [2]) h) (bhd e bk false)).out,
              n1 ++ (sideA (!decide (mm = (0, 0))) (fun h => aB f 0 (p ++ [1]) h) (bhd e bk true)).notes ++ (sideA (SrM.mt mm (0, 0)).isSome (fun h => aB gg 0 (p ++ [2]) h) (bhd e bk false)).notes,
              (sideA (!decide (mm = (0, 0))) (fun h => aB f 0 (p ++ [1]) h) (bhd e bk true)).heads ++ (sideA (SrM.mt mm (0, 0)).isSome (fun h => aB gg 0 (p ++ [2]) h) (bhd e bk false)).heads⟩ := by
            unfold ifA
            rw [eab]
            simp only [ne_side (X := bkBlk (fun h => aB f 0 (p ++ [1]) h) (bhd e bk true)) (mm := mm) rfl]
          rw [er] at q hpre
          simp only at q hpre
          have hm : IsSt K H2 vm mm := hm
          have ha := k2.tups _ _ ha
          have he := he.mono k2.tups
          have hbf := k2.tups _ _ hbf
          have hdf := hdf.mono k2.tups
          have hbg := k2.tups _ _ hbg
          have hdg := hdg.mono k2.tups
          have hb := k2.bk hb
          have hp := hp.mono k2.tups
          have hbh : ∀ b k, bhd e bk b = some k → wideB k ∧ inDom Kn k := fun b k ek => by
            obtain ⟨w1, w2⟩ := bhd_wide ek
            exact ⟨w1 hw, fun x hx => by rw [w2 x]; exact hK x hx⟩
          refine ifF rfl ⟨_, rfl, _, _, _, _, rfl, rfl, sq_of ha, at0, rfl, _, rfl, ifF (by decide +kernel) ?_⟩
          have u1 := side_und (c := !decide (mm = (0, 0))) (ds := f) (p := p ++ [1]) (o := bhd e bk true)
          have u2 := side_und (c := (SrM.mt mm (0, 0)).isSome) (ds := gg) (p := p ++ [2]) (o := bhd e bk false)
          generalize hA2 : sideA (SrM.mt mm (0, 0)).isSome (fun h => aB gg 0 (p ++ [2]) h) (bhd e bk false) = A2 at q hpre u2
          generalize hA1 : sideA (!decide (mm = (0, 0))) (fun h => aB f 0 (p ++ [1]) h) (bhd e bk true) = A1 at q hpre u1
          have pre1 : Pre fi g1 A1.heads := (hpre.sub fun z hz => List.mem_append_left _ hz).post hpn1
          have pre2 : Pre fi g1 A2.heads := (hpre.sub fun z hz => List.mem_append_right _ hz).post hpn1
          refine ⟨fun σ H' => ∃ v5 g2, σ = [some (.ref wk), some (.ref a), some (.ref d), some vp, some vm, some v5, some .non] ∧ Kp H2 H' ∧ WkAt K H' C wk g2 ∧ BkO K H' v5 A1.out ∧ Post fi (wB f) (und (p ++ [1])) g1 g2 A1.notes A1.heads, ?_, ?_⟩
          · refine ⟨_, rfl, two, fun t ht => ⟨_, _, dp_st (hm.mono (.new ht)), dp_st (s := (0, 0)) ⟨t, rfl, .inl upd_same⟩, shaped_path _, shaped_path _, _, rfl, ?_⟩⟩
            rw [eqv_st]
            have st : Same H2 (upd H2 t (.tup [.int 0, .int 0])) := same_new ht
            refine ifC (fun c => ?_) fun c => ?_
            · unfold sideA at hA1
              rw [if_pos c] at hA1
              subst hA1
              have ha := st _ _ ha
              obtain ⟨dx, hdd, nt, us, hkv, nkv, ukv, W⟩ := id (hW2.same st)
              refine ⟨_, rfl, wk, dx, _, rfl, W.ob, wF_block_behind, _, rfl, _, _, _, _, rfl, rfl, sq_of ha, at2, _, rfl, _, _, _, _, rfl, rfl, sq_of ha, at1, _, rfl, _, d, true, e, bk, Kn, rfl, he.mono (.of_same st), hd3, hb.same st, hw, wf.1, hK, fun v3 H3 s3 h3 => ?_⟩
              have s3 := st.trans s3
              refine ⟨_, rfl, one_line, fun t2 ht2 => ⟨p, 1, t2, (hp.mono (.of_same s3)).mono (.new ht2), rfl, upd_same, by omega, fun v4 H4 s4 hp4 => ?_⟩⟩
              have s4 := (same_new ht2).trans s4
              have s5 := s3.trans s4
              refine ⟨wk, g1, _, f, v3, bhd e bk true, v4, p ++ [1], Kn, rfl, hW2.same s5, ⟨af, vff, rfl, s5 _ _ hbf, hdf.mono (.of_same s5)⟩, lf, h3.same s4, hbh true, wf.2.1, hp4, by rw [List.length_append, List.length_singleton]; omega, by omega, pre1, fun v6 H6 g6 k6 hW6 h6 p6 => ?_⟩
              exact ⟨v6, g6, rfl, (Kp.of s5).trans k6, hW6, h6, p6⟩
            · unfold sideA at hA1
              rw [c, if_neg Bool.false_ne_true] at hA1
              subst hA1
              exact ⟨.non, g1, rfl, .of st, hW2.same st, rfl, (Post.refl fi _ g1).mono (Nat.zero_le _) fun _ z => z⟩
          · rintro σ H3 ⟨v5, g2, rfl, k3, hW3, h5, p5⟩
            have hp3 := hpn1.trans (R := und (p ++ [1])) p5 (fun z hz => (nomatch hz)) (fun q z _ => z) (fun _ z => z.elim) (fun _ z => z)
            rw [List.nil_append] at hp3
            have ha := k3.tups _ _ ha
            have hb := k3.bk hb
            have hp := hp.mono k3.tups
            refine ⟨fun σ H' => ∃ v6 g4, σ = [some (.ref wk), some (.ref a), some (.ref d), some vp, some vm, some v5, some v6] ∧ Kp H3 H' ∧ WkAt K H' C wk g4 ∧ BkO K H' v6 A2.out ∧ Post fi (wB gg) (und (p ++ [2])) g2 g4 A2.notes A2.heads, ?_, ?_⟩
            · refine ⟨_, rfl, two, fun t ht => ?_⟩
              have st : Same H3 (upd H3 t (.tup [.int 0, .int 0])) := same_new ht
              refine ⟨vm, .ref t, some mm, some (0, 0), rfl, (IsSt.mono k3.tups hm).mono (.of_same st), (isO00 upd_same).q, fun vx H4 s4 hx => ?_⟩
              have s4 := st.trans s4
              refine ⟨rfl, _, rfl, ?_⟩
              rw [isO_non hx]
              show if (!(SrM.mt mm (0, 0)).isNone) = true then _ else _
              rw [show (!(SrM.mt mm (0, 0)).isNone) = (SrM.mt mm (0, 0)).isSome by cases SrM.mt mm (0, 0) <;> rfl]
              refine ifC (fun c => ?_) fun c => ?_
              · unfold sideA at hA2
                rw [if_pos c] at hA2
                subst hA2
                have ha := s4 _ _ ha
                obtain ⟨dx, hdd, nt, us, hkv, nkv, ukv, W⟩ := id (hW3.same s4)
                refine ⟨_, rfl, wk, dx, _, rfl, W.ob, wF_block_behind, _, rfl, _, _, _, _, rfl, rfl, sq_of ha, at3, _, rfl, _, _, _, _, rfl, rfl, sq_of ha, at1, _, rfl, _, d, false, e, bk, Kn, rfl, (he.mono k3.tups).mono (.of_same s4), hd3, hb.same s4, hw, wf.1, hK, fun v7 H5 s5 h7 => ?_⟩
                have s5 := s4.trans s5
                refine ⟨_, rfl, one_line, fun t2 ht2 => ⟨p, 2, t2, (hp.mono (.of_same s5)).mono (.new ht2), rfl, upd_same, by omega, fun v8 H6 s6 hp6 => ?_⟩⟩
                have s6 := (same_new ht2).trans s6
                have s7 := s5.trans s6
                refine ⟨wk, g2, _, gg, v7, bhd e bk false, v8, p ++ [2], Kn, rfl, hW3.same s7, ⟨ag, vg, rfl, s7 _ _ (k3.tups _ _ hbg), (hdg.mono k3.tups).mono (.of_same s7)⟩, lg, h7.same s6, hbh false, wf.2.2, hp6, by rw [List.length_append, List.length_singleton]; omega, by have := p5.1; omega, pre2.post p5, fun v9 H9 g9 k9 hW9 h9 p9 => ?_⟩
                exact ⟨v9, g9, rfl, (Kp.of s7).trans k9, hW9, h9, p9⟩
              · unfold sideA at hA2
                rw [c, if_neg Bool.false_ne_true] at hA2
                subst hA2
                exact ⟨.non, g2, rfl, .of s4, hW3.same s4, rfl, (Post.refl fi _ g2).mono (Nat.zero_le _) fun _ z => z⟩
            · rintro σ H4 ⟨v6, g4, rfl, k4, hW4, h6, p6⟩
              have hp4 := hp3.trans (R := und p) p6 u1 (fun q z z' => absurd (und.apart z z') (by decide)) (fun _ z => z.step) (fun _ z => z.step)
              refine ⟨_, rfl, _, rfl, v5, v6, A1.out, A2.out, rfl, k4.bkO h5, h6, fun v7 H7 s7 h7 => ?_⟩
              exact q v7 H7 g4 ((k2.trans k3).trans (k4.trans (.of s7))) (hW4.same s7) h7 hp4
theorem seqA_assoc (r : AR) (k1 k2 : Bk Sg → AR) : seqA (seqA r k1) k2 = seqA r (fun g => seqA (k1 g) k2) := by
  unfold seqA
  cases h : r.out with
  | none => simp only [h]
  | some g =>
    simp only
    cases h1 : (k1 g).out with
    | none => simp only [h1]
    | some g' => simp only [h1, List.append_assoc]
theorem seqA_none {r : AR} {k : Bk Sg → AR} (h : r.out = none) : seqA r k = r := by
  unfold seqA
  rw [h]
theorem seqA_some {r : AR} {k : Bk Sg → AR} {g : Bk Sg} (h : r.out = some g) : seqA r k = ⟨(k g).out, r.notes ++ (k g).notes, r.heads ++ (k g).heads⟩ := by
  unfold seqA
  rw [h]
theorem aB_cons (d : Dd) (ds : List Dd) (k : Int) (p : Path) (bk : Bk Sg) : aB (d :: ds) k p bk = seqA (aD d (p ++ [k]) bk) fun g => aB ds (k + 1) p g := by rw [aB]
abbrev N_Walk_block : List Str := ["self", "deeds", "book", "path", "number", "deed"]
theorem sc_Walk_block : FnScope N_Walk_block ["self", "deeds", "book", "path"] (defScope s_Walk_block) := ⟨rfl, rfl, rfl, by decide +kernel, rfl, by decide +kernel, by decide +kernel⟩
/-- the paths of the deeds before the i-th -/
def befo (i : Nat) (p : Path) (q : Path) : Prop := ∃ j : Nat, j < i ∧ und (p ++ [(j : Int)]) q
theorem ok_wblock (T : Tx K mg) (Wc : WalkC K C) (n : Nat) (m_deed : HasM P w K mg base (6 * n + 14) C "deed" ["self", "deed", "book", "path"] (spWD K C fi n)) (G : FnM K C "block" "Walk.block" s_Walk_block) :
    HasM P w K mg base (6 * n + 15) C "block" ["self", "deeds", "book", "path"] (spWB K C fi (n + 1)) := by
  refine hasM_of (k := 6 * n + 14) (N := N_Walk_block) G sc_Walk_block (fun _ _ _ _ _ _ us hl => match us, hl with | [_, _, _, _], _ => rfl) (fun vs H Q E h => ?_) (fun f cdv A outer s0 H vs Q E hr h => ?_)
  · obtain ⟨_, _, _, _, _, _, _, _, _, rfl, _⟩ := h
    rfl
  · obtain ⟨wk, g, vd, ds, d, bk, vp, p, Kn, rfl, hW, ⟨ab, vb, rfl, hbl, hds⟩, hlim, hb, hw, wf, hK, hp, hpl, hz, hpre, q⟩ := h
    refine ⟨_, (pss_cons (ps_for PassesOwn.never rfl (pi_enumT (by rfl) T.enumerate (pa1 (pv 1))) (pg_tup (by rfl) (pgs_cons (pg_name (i := 4) sc_Walk_block.nd rfl (.inl rfl)) (pgs_cons (pg_name (i := 5) sc_Walk_block.nd rfl (.inl rfl)) pgs_nil)))
      (pss_one (ps_if (pt_cmpR op_notN (pv 2) pe_non (nomark _))
      (pss_one (ps_set (i := 2) sc_Walk_block.nd rfl (.inl rfl) (pe_methH m_deed Wc.cl hr (by omega) (pv 0) (pa3 (pv 5) (pv 2) (pe_op op_path (pv 3) (pe_tup (pa1 (pv 4))))))))
      pss_nil)))
      (pss_one (ps_ret (pv 2)))), ?_⟩
    have hlim : limB n ds := hlim
    have hlen : vb.length = ds.length := hds.length
    refine ⟨_, rfl, ab, vb, rfl, sq_of hbl, for_it walk_enumT (fun i σ H' => ∃ v y4 y5 g1 r c Ki, σ = [some (.ref wk), some (.ref ab), some v, some vp, y4, y5] ∧ Kp H H' ∧ WkAt K H' C wk g1 ∧ BkO K H' v r.out ∧ seqA r (fun g => aB (ds.drop i) (i : Nat) p g) = aB ds 0 p bk ∧
        Post fi c (befo i p) g g1 r.notes r.heads ∧ (∀ z ∈ r.heads, befo i p z.1) ∧ c + wB (ds.drop i) ≤ wB ds ∧ ∀ k, r.out = some k → wideB k ∧ inDom Ki k ∧ wfB (ds.drop i) Ki)
      ⟨.ref d, none, none, g, ⟨some bk, [], []⟩, 0, Kn, rfl, .refl H, hW, (show BkO K H (.ref d) (some bk) from ⟨d, rfl, hb⟩), rfl, .refl fi _ g, fun z hz => (nomatch hz), by simp, fun k e => by injection e with e; subst e; exact ⟨hw, hK, wf⟩⟩ (fun i σ H' _ ⟨_, _, _, _, _, _, _, _, k1, _⟩ => sq_of (k1.tups _ _ hbl)) ?_ ?_⟩
    · rintro i x σ H' H2 hi ⟨v, y4, y5, g1, r, c, Ki, rfl, k1, hW1, ho, hseq, hpost, hhe, hcw, hbk⟩ ⟨t, x1, x2, rfl, ht, rfl, ex1, ex2⟩
      injection ex1 with ex1
      subst ex1
      obtain ⟨dd, ed, hdd⟩ := hds.get ex2
      rw [drop_get ed] at hseq hcw hbk
      have hcw : c + (wD dd + wB (ds.drop (i + 1))) ≤ wB ds := hcw
      have s2 : Same H' (upd H' t (.tup [.int (i : Nat), x2])) := same_new ht
      have et : upd H' t (.tup [.int (i : Nat), x2]) t = some (.tup [.int (i : Nat), x2]) := upd_same
      have hW2 := hW1.same s2
      have ho2 := ho.same s2
      have k2 := k1.trans (.of s2)
      generalize upd H' t (.tup [.int (i : Nat), x2]) = H2 at s2 et hW2 ho2 k2
      refine ⟨t, _, rfl, sq_of et, rfl, _, _, rfl, _, _, rfl, rfl, _, rfl, rfl, _, rfl, ?_⟩
      rw [bkO_non ho2]
      have ei : ((i : Nat) : Int) + 1 = ((i + 1 : Nat) : Int) := by omega
      have hmono : ∀ q, befo i p q → befo (i + 1) p q := fun q ⟨j, hj, u⟩ => ⟨j, by omega, u⟩
      cases eo : r.out with
      | none =>
        refine ifF rfl ⟨v, _, _, g1, r, c, Ki, rfl, k2, hW2, by rw [eo] at ho2 ⊢; exact ho2, ?_, hpost.mono (Nat.le_refl _) hmono, fun z hz => hmono _ (hhe z hz), by omega, fun k e => by rw [eo] at e; cases e⟩
        rw [seqA_none eo] at hseq ⊢
        exact hseq
      | some bk1 =>
        rw [eo] at ho2
        obtain ⟨d1, rfl, hb1⟩ := ho2
        obtain ⟨w1, i1, f1⟩ := hbk bk1 eo
        have f1 : wfD dd Ki ∧ wfB (ds.drop (i + 1)) (afD dd Ki) := f1
        have hseq2 : seqA (seqA r fun g => aD dd (p ++ [((i : Nat) : Int)]) g) (fun g => aB (ds.drop (i + 1)) ((i + 1 : Nat) : Int) p g) = aB ds 0 p bk := by
          rw [seqA_assoc, ← hseq]
          congr 1
        have hr2 : (seqA r fun g => aD dd (p ++ [((i : Nat) : Int)]) g) = ⟨(aD dd (p ++ [((i : Nat) : Int)]) bk1).out, r.notes ++ (aD dd (p ++ [((i : Nat) : Int)]) bk1).notes, r.heads ++ (aD dd (p ++ [((i : Nat) : Int)]) bk1).heads⟩ := seqA_some eo
        rw [hr2] at hseq2
        obtain ⟨dx, hdd', nt, us, hkv, nkv, ukv, W⟩ := id hW2
        refine ifT rfl ⟨_, rfl, wk, dx, _, rfl, W.ob, wF_deed, _, rfl, _, rfl, _, rfl, _, rfl, one_line, fun t2 ht2 => ⟨p, (i : Nat), t2, (hp.mono k2.tups).mono (.new ht2), rfl, upd_same, by omega, fun v1 H3 s3 hp3 => ?_⟩⟩
        have s3 := (same_new ht2).trans s3
        have k3 := k2.trans (.of s3)
        have hsub : ∀ z ∈ (aD dd (p ++ [((i : Nat) : Int)]) bk1).heads, z ∈ (aB ds 0 p bk).heads := fun z hz => by
          rw [← hseq2]
          unfold seqA
          cases (aD dd (p ++ [((i : Nat) : Int)]) bk1).out with
          | none => exact List.mem_append_right _ hz
          | some _ => exact List.mem_append_left _ (List.mem_append_right _ hz)
        refine ⟨wk, g1, x2, dd, d1, bk1, v1, p ++ [((i : Nat) : Int)], Ki, rfl, hW2.same s3, hdd.mono k3.tups, hlim.2 dd (List.mem_of_getElem? ed), hb1.same s3, w1, f1.1, i1, hp3, by rw [List.length_append, List.length_singleton]; omega, by have := hpost.1; omega, (hpre.sub hsub).post hpost, fun v4 H4 g4 k4 hW4 h4 p4 => ?_⟩
        have hku := (aD_ku dd (p ++ [((i : Nat) : Int)]) bk1).heads.all
        refine ⟨v4, _, _, g4, ⟨(aD dd (p ++ [((i : Nat) : Int)]) bk1).out, r.notes ++ (aD dd (p ++ [((i : Nat) : Int)]) bk1).notes, r.heads ++ (aD dd (p ++ [((i : Nat) : Int)]) bk1).heads⟩, c + wD dd, afD dd Ki, rfl, k3.trans k4, hW4, h4, hseq2, ?_, ?_, by omega, fun k e => ?_⟩
        · refine hpost.trans p4 hhe (fun q ⟨j, hj, u⟩ u' => ?_) hmono fun q u => ⟨i, by omega, u⟩
          have := und.apart u u'
          omega
        · intro z hz
          rcases List.mem_append.mp hz with hz | hz
          · exact hmono _ (hhe z hz)
          · exact ⟨i, by omega, hku z hz⟩
        · obtain ⟨w2, _⟩ := aD_out dd (p ++ [((i : Nat) : Int)]) bk1 w1 k e
          exact ⟨w2, aD_inDom dd _ Ki bk1 w1 i1 k e, f1.2⟩
    · rintro σ H' ⟨v, y4, y5, g1, r, c, Ki, rfl, k1, hW1, ho, hseq, hpost, hhe, hcw, hbk⟩
      rw [hlen, List.drop_length] at hseq
      have er : seqA r (fun g => aB [] ((ds.length : Nat) : Int) p g) = r := by
        unfold seqA
        cases eo : r.out with
        | none => rfl
        | some k =>
          simp only [aB, List.append_nil]
          rw [← eo]
      rw [er] at hseq
      subst hseq
      exact ⟨_, rfl, q v H' g1 k1 hW1 ho (hpost.mono (by omega) fun q ⟨j, _, u⟩ => u.step)⟩
/-- a walk's block, at every depth -/
theorem ok_walks (T : Tx K mg) (Wc : WalkC K C) (m_stretch : HasM P w K mg base 8 C "stretch" ["self", "expr", "book", "path"] (spStr K C 3)) (h_behind : Has P w K mg base 9 "behind" ["expr", "book", "is_so"] (spBehind K)) (h_met : Has P w K mg base 1 "met" ["one", "other"] (spM2 K))
    (h_joined_books : Has P w K mg base 2 "joined_books" ["one", "other"] (spJB K)) (Gbb : FnM K C "block_behind" "Walk.block_behind" s_Walk_block_behind) (Gf : FnM K C "round_from" "Walk.round_from" s_Walk_round_from) (Gd : FnM K C "deed" "Walk.deed" s_Walk_deed) (Gb : FnM K C "block" "Walk.block" s_Walk_block)
    (hR : ∀ n, HasM P w K mg base (6 * n + 11) C "round_from" ["self", "deed", "head", "path"] (spRF K C fi n) → HasM P w K mg base (6 * n + 13) C "rounds" ["self", "deed", "book", "path"] (spWR K C fi n)) : ∀ n, HasM P w K mg base (6 * n + 9) C "block" ["self", "deeds", "book", "path"] (spWB K C fi n)
  | 0 => hasM_of (k := 8) (N := N_Walk_block) Gb sc_Walk_block (fun _ _ _ _ _ _ us hl => match us, hl with | [_, _, _, _], _ => rfl) (fun vs H Q E h => by obtain ⟨_, _, _, _, _, _, _, _, _, rfl, _⟩ := h; rfl) (fun f cdv A outer s0 H vs Q E hr h => by
    obtain ⟨_, _, _, _, _, _, _, _, _, rfl, _, _, hd, _⟩ := h
    exact hd.elim)
  | n + 1 => by
    have m_block := ok_walks T Wc m_stretch h_behind h_met h_joined_books Gbb Gf Gd Gb hR n
    have m_bb := ok_block_behind Wc n m_block Gbb
    have m_rf := ok_round_from T Wc n m_stretch h_behind h_met m_bb Gf
    have m_rounds := hR n m_rf
    exact ok_wblock T Wc n (ok_wdeed T Wc n m_stretch h_behind h_met h_joined_books m_bb m_rounds Gd) Gb
end
end Sr
end
section
set_option Elab.async false
set_option linter.all false
set_option maxRecDepth 100000
set_option maxHeartbeats 4000000
/-! walks: Walk made, Walk.rounds -/
namespace Sr
open PySem PySem.Spec PyProof.Rows L2 SrM SrK
theorem aD_whl {e : Ex} {m : Int} {b : List Dd} {p : Path} {bk : Bk Sg} : aD (.whl e m b) p bk = whlA e (fun h => aB b 0 (p ++ [1]) h) p bk := by rw [aD]
theorem jn_in {s t : Sg} (h1 : t.1 ≤ s.1) (h2 : s.2 ≤ t.2) : jn s t = t := by
  unfold jn
  have e1 : min s.1 t.1 = t.1 := by omega
  have e2 : max s.2 t.2 = t.2 := by omega
  rw [e1, e2]
theorem rfd_heads {e : Ex} {b : List Dd} {p : Path} {h : Bk Sg} : ∀ z ∈ (rfd e (fun h => aB b 0 (p ++ [1]) h) p h).heads, und (p ++ [1]) z.1 := fun z hz => by
  refine (rfd_ku (e := e) (p := p) (blk := fun h => aB b 0 (p ++ [1]) h) (fun g => (aB_ku b 0 (p ++ [1]) g).mono fun q => from_und) h).2.all z hz
section
variable {P : Program} {w : World} {K : PySem.W.Frag} {mg : Str → Option Value} {base : Heap} {C : Addr}
/-! ### made -/
abbrev N_Walk_init : List Str := ["self", "heads"]
theorem sc_Walk_init : FnScope N_Walk_init ["self", "heads"] (defScope s_Walk_init) := ⟨rfl, rfl, rfl, by decide +kernel, rfl, by decide +kernel, by decide +kernel⟩
def spWInit (K : PySem.W.Frag) (C : Addr) : Sp := fun vs H Q _ => ∃ (wk dx hd : Addr) (hkv : List (List Key × V)) (hs : Path → Option (Bk Sg)), vs = [.ref wk, .ref hd] ∧ H wk = some (.ins C dx []) ∧ H hd = some (.dT hkv) ∧ PAt (fun v bk => ∃ b, v = .ref b ∧ BkAt K H b bk) hkv hs ∧
  ∀ H', (∀ b o, H b = some o → b ≠ wk → H' b = some o) → WkAt K H' C wk ⟨[], hs, [], hkv.length⟩ → Q .non H'
theorem ok_walk_init (Wc : WalkC K C) {x : Str} (G : ∃ f fd, FunD K "__init__" "Walk.__init__" (defArgs s_Walk_init) (defBody s_Walk_init) (defScope s_Walk_init) [] [] f fd ∧ Mk K C f) (hm : mg x = some (.ref C)) : MkC P w K mg base 1 x C ["self", "heads"] (spWInit K C) := by
  refine mkC_of (N := N_Walk_init) G hm sc_Walk_init (fun _ _ _ _ _ _ us hl => match us, hl with | [_, _], _ => rfl) (fun vs H Q E h => ?_) (fun f cdv A outer s0 H vs Q E hr h => ?_)
  · obtain ⟨_, _, _, _, _, rfl, _⟩ := h
    rfl
  · obtain ⟨wk, dx, hd, hkv, hs, rfl, h1, h2, h3, q⟩ := h
    refine ⟨_, (pss_cons (ps_fld (pv 0) (pv 1) rfl)
      (pss_cons (ps_fld (pv 0) pe_dnewT rfl)
      (pss_one (ps_fld (pv 0) pe_dnewT rfl)))), ?_⟩
    have nb : hd ≠ wk := (ins_ne_T h1 h2).symm
    refine ⟨_, rfl, _, rfl, wk, C, dx, _, rfl, h1, Wc.cl, Wc.heads, by show 0 < 1000; decide, ?_⟩
    intro nt hnt
    have n1 : nt ≠ wk := fun z => by rw [z, upd_same] at hnt; cases hnt
    have hnt' : H nt = none := by rw [upd_ne n1] at hnt; exact hnt
    refine ⟨_, rfl, wk, C, dx, _, rfl, by rw [upd_ne n1.symm]; exact upd_same, Wc.cl, Wc.notes, by show 1 < 1000; decide, ?_⟩
    intro us hus
    have n2 : us ≠ wk := fun z => by rw [z, upd_same] at hus; cases hus
    have n3 : us ≠ nt := fun z => by rw [z, upd_ne n1, upd_same] at hus; cases hus
    have hus' : H us = none := by rw [upd_ne n2, upd_ne n3, upd_ne n2] at hus; exact hus
    refine ⟨_, rfl, wk, C, dx, _, rfl, by rw [upd_ne n2.symm]; exact upd_same, Wc.cl, Wc.used, by show 2 < 1000; decide, ?_⟩
    have n4 : hd ≠ nt := ne_of_none h2 hnt'
    have n5 : hd ≠ us := ne_of_none h2 hus'
    have keep : ∀ b o, H b = some o → b ≠ wk → (upd (upd (upd (upd (upd H wk (.ins C dx (putF "heads" (.ref hd) []))) nt (.dT [])) wk (.ins C dx (putF "notes" (.ref nt) (putF "heads" (.ref hd) [])))) us (.dT [])) wk (.ins C dx (putF "used" (.ref us) (putF "notes" (.ref nt) (putF "heads" (.ref hd) []))))) b = some o := fun b o e n => by
      rw [upd_ne n, upd_ne (ne_of_none e hus'), upd_ne n, upd_ne (ne_of_none e hnt'), upd_ne n]
      exact e
    refine q _ keep ⟨dx, hd, nt, us, hkv, [], [], upd_same, keep _ _ h2 nb, ?_, ?_, n4, n5, n3.symm, h3.mono fun v bk ⟨b, e, hb⟩ => ⟨b, e, hb.mono (fun c xs ec => keep _ _ ec (ne_of ec h1 (by intro z; cases z))) fun kvs ec => keep _ _ ec (ne_of ec h1 (by intro z; cases z))⟩, PAt.nil, PAt.nil.congr (funext fun q => by simp [uF]), Nat.le_refl _, Nat.le_refl _, Nat.le_refl _⟩
    · rw [upd_ne n1, upd_ne n3.symm, upd_ne n1, upd_same]
    · rw [upd_ne n2, upd_same]
/-! ### rounds -/
/-- the keys of a book as sorted names -/
theorem sorted_keys {kvs : List (Key × V)} {R : V → Sg → Prop} {bk : Bk Sg} (D : DAt R kvs bk) : ∃ ns : List Nm, (kvs.map fun kv => kV kv.1) = (ns.map nS).map V.str ∧ ns.Nodup ∧ ∀ z, z ∈ ns ↔ (bk z).isSome = true := by
  obtain ⟨ns, ek, nd⟩ := D.ks
  refine ⟨ns, ?_, nd, fun z => ?_⟩
  · have : (kvs.map (·.1)).map kV = (ns.map nK).map kV := by rw [ek]
    rw [List.map_map, List.map_map] at this
    rw [List.map_map]
    exact this
  · rw [← D.isSome z, valV_in', ek]
    exact ⟨fun hz => List.mem_map.mpr ⟨z, hz, rfl⟩, fun hz => by
      obtain ⟨y, hy, e⟩ := List.mem_map.mp hz
      rw [← nK_inj e]
      exact hy⟩
abbrev N_Walk_rounds : List Str := ["self", "deed", "book", "path", "head", "again", "ends"]
theorem sc_Walk_rounds : FnScope N_Walk_rounds ["self", "deed", "book", "path"] (defScope s_Walk_rounds) := ⟨rfl, rfl, rfl, by decide +kernel, rfl, by decide +kernel, by decide +kernel⟩
theorem ok_wrounds (T : Tx K mg) (Wc : WalkC K C) (n : Nat) (h_is_book_within : Has P w K mg base 3 "is_book_within" ["one", "other"] (spIBW K)) (G : FnM K C "rounds" "Walk.rounds" s_Walk_rounds)
    (m_round_from : HasM P w K mg base (6 * n + 11) C "round_from" ["self", "deed", "head", "path"] (spRF K C false n)) : HasM P w K mg base (6 * n + 13) C "rounds" ["self", "deed", "book", "path"] (spWR K C false n) := by
  refine hasM_of (k := 6 * n + 12) (N := N_Walk_rounds) G sc_Walk_rounds (fun _ _ _ _ _ _ us hl => match us, hl with | [_, _, _, _], _ => rfl) (fun vs H Q E h => ?_) (fun f cdv A outer s0 H vs Q E hr h => ?_)
  · obtain ⟨_, _, _, _, _, _, _, _, _, _, _, rfl, _⟩ := h
    rfl
  · obtain ⟨wk, g, vd, e, m, b, d, bk, vp, p, Kn, rfl, hW, hdd, hlim, hb, hw, wf, hK, hp, hpl, hz, hpre, q⟩ := h
    refine ⟨_, (pss_cons (ps_set (i := 4) sc_Walk_rounds.nd rfl (.inl rfl) (pe_dget1 (hu1 hr) (pe_fld (pv 0) rfl) (pv 3) ⟨rfl, rfl, rfl, rfl⟩))
      (pss_cons (ps_dput (hu1 hr) (pe_fld (pv 0) rfl) (pv 3) pe_bl rfl)
      (pss_cons (ps_if (PW.pt (pw_or (pt_cmpR op_isN (pv 4) pe_non (nomark _)) (pw_or (pt_cmpR (op_neD (hu64 hr)) (pe_callB cr_sortedS (by rfl) T.sorted (by decide +kernel) (pa1 (pe_callTy (call_listD rfl) (by rfl) T.list (by decide +kernel) (pa1 (pv 4))))) (pe_callB cr_sortedS (by rfl) T.sorted (by decide +kernel) (pa1 (pe_callTy (call_listD rfl) (by rfl) T.list (by decide +kernel) (pa1 (pv 2))))) (nomark _)) (pw_or1 (pt_not (pt_val (pe_callH h_is_book_within hr (by omega) (pa2 (pv 2) (pv 4)))))))))
      (pss_one ps_never)
      pss_nil)
      (pss_cons (ps_asg (pe_methH m_round_from Wc.cl hr (by omega) (pv 0) (pa3 (pv 1) (pv 4) (pv 3))) (pg_tup (by rfl) (pgs_cons (pg_name (i := 5) sc_Walk_rounds.nd rfl (.inl rfl)) (pgs_cons (pg_name (i := 6) sc_Walk_rounds.nd rfl (.inl rfl)) pgs_nil))))
      (pss_cons (ps_if (PW.pt (pw_and (pt_cmpR op_notN (pv 5) pe_non (nomark _)) (pw_and1 (pt_not (pt_val (pe_callH h_is_book_within hr (by omega) (pa2 (pv 5) (pv 4))))))))
      (pss_one ps_never)
      pss_nil)
      (pss_one (ps_ret (pv 6)))))))), ?_⟩
    obtain ⟨dx, hd, nt, us, hkv, nkv, ukv, W⟩ := id hW
    obtain ⟨pa, rfl, hpa⟩ := id hp
    rw [aD_whl] at q hpre
    obtain ⟨fx, gr, hwh⟩ := hdF_fix (e := e) (p := p) (aB_out b 0 (p ++ [1])) hw
    have hh := hpre rfl (p, hdF e (fun h => aB b 0 (p ++ [1]) h) p bk) (by unfold whlA; exact List.mem_cons_self)
    have hprf : Pre false g (rfd e (fun h => aB b 0 (p ++ [1]) h) p (hdF e (fun h => aB b 0 (p ++ [1]) h) p bk)).heads := hpre.sub fun z hz => by unfold whlA; exact List.mem_cons_of_mem _ hz
    have eA : whlA e (fun h => aB b 0 (p ++ [1]) h) p bk = ⟨(rfd e (fun h => aB b 0 (p ++ [1]) h) p (hdF e (fun h => aB b 0 (p ++ [1]) h) p bk)).ends, (rfd e (fun h => aB b 0 (p ++ [1]) h) p (hdF e (fun h => aB b 0 (p ++ [1]) h) p bk)).notes, (p, hdF e (fun h => aB b 0 (p ++ [1]) h) p bk) :: (rfd e (fun h => aB b 0 (p ++ [1]) h) p (hdF e (fun h => aB b 0 (p ++ [1]) h) p bk)).heads⟩ := rfl
    rw [eA] at q
    simp only at q
    have hag := fun g' => again_in (e := e) (blk := fun h => aB b 0 (p ++ [1]) h) (p := p) (aB_out b 0 (p ++ [1])) (g := g') hwh fx
    have hrh := rfd_heads (e := e) (b := b) (p := p) (h := hdF e (fun h => aB b 0 (p ++ [1]) h) p bk)
    generalize hdF e (fun h => aB b 0 (p ++ [1]) h) p bk = hh' at *
    obtain ⟨vb, ev, hb0, rfl, hbh⟩ := W.ph.so p hh' hh
    have eh : H pa = some (.tup ((pK p).map kV)) := by rw [pK_kV]; exact hpa
    refine ⟨_, rfl, wk, C, dx, _, _, rfl, W.ob, Wc.cl, Wc.heads, rfl, hd, rfl, .inr ⟨_, .inl W.eh⟩, _, rfl, _, DGet.t (k := pK p) W.eh eh, ?_⟩
    rw [ev]
    obtain ⟨k1, hW1⟩ := W.use (p := p) (v := .bl true)
    have hzz : g.sz + (14 * (szE e + wB b) + 1) ≤ 4000000 := hz
    have hlu := W.lu
    refine ⟨_, rfl, wk, C, dx, _, _, rfl, W.ob, Wc.cl, Wc.used, rfl, _, rfl, us, _, rfl, DPut.t (k := pK p) W.eu eh (big_line (by unfold GS.sz at hzz; omega)), ?_⟩
    have hb1 := k1.bk hb
    have hbh1 := k1.bk hbh
    have hpa1 := k1.tups _ _ hpa
    have hdd1 := hdd.mono k1.tups
    generalize upd H us (.dT (putK ukv (pK p) (.bl true))) = H1 at k1 hW1 hb1 hbh1 hpa1 hdd1
    obtain ⟨kvs, hk, D⟩ := id hb1
    obtain ⟨kvs2, hk2, D2⟩ := id hbh1
    obtain ⟨ns, en, nd, nm⟩ := sorted_keys D
    obtain ⟨ns2, en2, nd2, nm2⟩ := sorted_keys D2
    have l1 := nm_len nd
    have l2 := nm_len nd2
    refine ⟨_, rfl, rfl, _, rfl, ifF rfl ?_⟩
    refine ⟨_, rfl, hb0, kvs2, rfl, .inl hk2, fun a1 ha1 => ⟨a1, ns2.map nS, rfl, .inl (.inl (by rw [upd_same, en2])), by rw [List.length_map]; omega, fun ys1 a2 pm1 so1 ha2 => ?_⟩⟩
    have s1 : Same H1 (upd (upd H1 a1 (.lst (kvs2.map fun kv => kV kv.1))) a2 (.lst (ys1.map V.str))) := (same_new ha1).trans (same_new ha2)
    have e2 : (upd (upd H1 a1 (.lst (kvs2.map fun kv => kV kv.1))) a2 (.lst (ys1.map V.str))) a2 = some (.lst (ys1.map V.str)) := upd_same
    generalize upd (upd H1 a1 (.lst (kvs2.map fun kv => kV kv.1))) a2 (.lst (ys1.map V.str)) = H2 at s1 e2
    refine ⟨_, rfl, d, kvs, rfl, .inl (s1 _ _ hk), fun a3 ha3 => ⟨a3, ns.map nS, rfl, .inl (.inl (by rw [upd_same, en])), by rw [List.length_map]; omega, fun ys2 a4 pm2 so2 ha4 => ?_⟩⟩
    have s2 : Same H2 (upd (upd H2 a3 (.lst (kvs.map fun kv => kV kv.1))) a4 (.lst (ys2.map V.str))) := (same_new ha3).trans (same_new ha4)
    have e4 : (upd (upd H2 a3 (.lst (kvs.map fun kv => kV kv.1))) a4 (.lst (ys2.map V.str))) a4 = some (.lst (ys2.map V.str)) := upd_same
    have e3 := s2 _ _ e2
    generalize upd (upd H2 a3 (.lst (kvs.map fun kv => kV kv.1))) a4 (.lst (ys2.map V.str)) = H3 at s2 e3 e4
    have s3 := s1.trans s2
    obtain ⟨ms1, hm1, rfl⟩ := perm_nm pm1
    obtain ⟨ms2, hm2, rfl⟩ := perm_nm pm2
    have hms : ms1 = ms2 := by
      refine nm_unique (hm1.trans (((List.perm_ext_iff_of_nodup nd2 nd).mpr fun z => ?_).trans hm2.symm)) (sorted_nm so1) (sorted_nm so2)
      rw [nm2, nm]
      exact ⟨gr.domB z, gr.dom z⟩
    subst hms
    refine ⟨_, _, .lst (.inl (.inl e3)) (dpAll_strs _), .lst (.inl (.inl e4)) (dpAll_strs _), shaped_nms _, shaped_nms _, _, rfl, ?_⟩
    rw [show PyData.eqv (.list ((ms1.map nS).map .str)) (.list ((ms1.map nS).map .str)) = true from SeqAt.eqv_refl _ (lay_nms _)]
    refine ifF rfl ?_
    refine ⟨_, rfl, _, rfl, d, hb0, bk, hh', rfl, hb1.same s3, hbh1.same s3, fun x t ext => ?_, fun H4 s4 => ⟨_, rfl, ?_⟩⟩
    · obtain ⟨v, s, es, _, _⟩ := D.get (gr.domB x (by rw [ext]; rfl))
      obtain ⟨t', et, i1, i2⟩ := gr.some x s es
      rw [ext] at et
      injection et with et
      subst et
      exact ⟨s, es, jn_in i1 i2⟩
    · refine ifF rfl ?_
      have s5 := s3.trans s4
      obtain ⟨dx1, hd1, nt1, us1, hkv1, nkv1, ukv1, W1⟩ := id (hW1.same s5)
      have hdom : inDom Kn hh' := fun x hx => gr.dom x (hK x hx)
      have hsz1 : GS.sz ⟨g.notes, g.heads, g.used ++ [p], g.hn⟩ ≤ g.sz + 1 := by unfold GS.sz; simp only [List.length_append, List.length_singleton]; omega
      have hpu : Post false 1 (fun q => q = p) g ⟨g.notes, g.heads, g.used ++ [p], g.hn⟩ [] [(p, hh')] := ⟨hsz1, fun _ => ⟨by simp, rfl, rfl⟩, fun z => (nomatch z)⟩
      refine ⟨_, rfl, wk, dx1, _, rfl, W1.ob, wF_round_from, _, rfl, _, rfl, _, rfl, ?_⟩
      refine ⟨wk, _, vd, e, m, b, hb0, hh', .ref pa, p, Kn, rfl, hW1.same s5, hdd1.mono (.of_same s5), hlim, hbh1.same s5, hwh, wf, hdom, ⟨pa, rfl, s5 _ _ hpa1⟩, hpl, by omega, hprf.post hpu, fun t v1 v2 H5 g5 k5 hW5 ht h1 h2 p5 => ?_⟩
      refine ⟨t, _, rfl, sq_of ht, rfl, v1, _, rfl, v2, _, rfl, rfl, ?_⟩
      have hpost := hpu.trans (R := und p) p5 (fun z hz => by rw [List.mem_singleton.mp hz]) (fun q z z' => z'.ne z) (fun q' z => by rw [show q' = p from z]; exact .refl p) (fun _ z => z.step)
      have hfin : ∀ H6, Same H5 H6 → Q v2 H6 := fun H6 s6 => by
        refine q v2 H6 g5 (k1.trans ((Kp.of s5).trans (k5.trans (.of s6)))) (hW5.same s6) (h2.same s6) (hpost.mono ?_ fun _ z => z)
        show 1 + (szE e + wB b) ≤ 14 * (szE e + wB b) + 1
        omega
      refine ⟨_, rfl, rfl, _, rfl, ?_⟩
      show if (!decide (v1 = .non)) = true then _ else _
      rw [bkO_non h1]
      cases er : (rfd e (fun h => aB b 0 (p ++ [1]) h) p hh').again with
      | none =>
        refine ifF rfl ?_
        refine ifF rfl ⟨_, rfl, hfin H5 (.refl H5)⟩
      | some g' =>
        rw [er] at h1
        obtain ⟨d1, rfl, hd1'⟩ := h1
        refine ifT rfl ⟨_, rfl, _, rfl, d1, hb0, g', hh', rfl, hd1', k5.bk (hbh1.same s5), fun x t ext => ?_, fun H6 s6 => ⟨_, rfl, ifF rfl ⟨_, rfl, hfin H6 s6⟩⟩⟩
        obtain ⟨s', es, i1, i2⟩ := hag g' er x t ext
        exact ⟨s', es, jn_in i1 i2⟩
end
end Sr
end
section
set_option Elab.async false
set_option linter.all false
set_option maxRecDepth 100000
set_option maxHeartbeats 4000000
/-! more rules with the frame named; zip of two tuples as a walk; worths by name -/
namespace Sr
open PySem PySem.Spec PyProof.Rows L2 SrM SrK RZ
section
variable {X : Cx} (K : PySem.W.Frag)
theorem tupK {pos : Pos} {es : List Expr} {k : Nat} {t : TGs} {n : Nat} (hc : X.calm = true) (h : PGs X es t)
    (hK : X.K = K := by rfl) (hn : (assignEach es X.env).length = n := by rfl) (hst : (assignEach es X.env).findIdx? (·.1) = none := by rfl) : PG X (.Tuple es k pos) (gTup K n t) := by
  subst hK
  exact pg_tup hc h hn hst
theorem fldK {e : Expr} {f : Str} {pos : Pos} {ta : TE} (he : PE X e ta) (hb : attributeBase e f X.env (eval e X.env) = eval e X.env) (hK : X.K = K := by rfl) : PE X (.Attribute e f pos) (tFld K ta f) := by
  subst hK
  exact pe_fld he hb
end
theorem walk_zipT {K : PySem.W.Frag} {a b : Addr} {xs ys : List V} (hn : xs.length = ys.length) : Walk (ItzT K a b) xs.length (fun H => SqT K H a xs ∧ SqT K H b ys) (YPair (fun i => xs[i]?) (fun i => ys[i]?)) := by
  refine ⟨fun i _ hi q => ?_, fun _ q => ⟨xs, ys, q.1, q.2, .inl (Nat.le_refl _)⟩, fun i H v H' _ q y => ?_⟩
  · have h2 : i < ys.length := by omega
    exact ⟨xs, ys, xs[i], ys[i], q.1, q.2, by simp [hi], by simp [h2]⟩
  · obtain ⟨T, x, z, h1, h2, h3, h4, h5⟩ := y
    exact ⟨T, x, z, h1, h2, h3, h4 xs q.1, h5 ys q.2⟩
/-! ### a dict of worths made of pairs -/
/-- worths by the names of the rows -/
def envOf (ns : List Nm) (ws : List Int) : Bk Int := fun x => (ns.zip ws).lookup x
theorem lookup_mem {β : Type} {l : List (Nm × β)} (nd : (l.map (·.1)).Nodup) {x : Nm} {s : β} (h : (x, s) ∈ l) : l.lookup x = some s := by
  induction l with
  | nil => cases h
  | cons p r ih =>
    obtain ⟨y, t⟩ := p
    have nd' := List.nodup_cons.mp nd
    rcases List.mem_cons.mp h with e | e
    · injection e with e1 e2
      subst e1 e2
      simp [List.lookup]
    · have hne : x ≠ y := fun z => nd'.1 (by rw [← z]; exact List.mem_map.mpr ⟨(x, s), e, rfl⟩)
      rw [List.lookup_cons, show (x == y) = false from beq_false_of_ne hne]
      exact ih nd'.2 e
theorem lookup_some {β : Type} {l : List (Nm × β)} {x : Nm} (h : (l.lookup x).isSome = true) : x ∈ l.map (·.1) := by
  induction l with
  | nil => cases h
  | cons p r ih =>
    obtain ⟨y, t⟩ := p
    by_cases e : x = y
    · subst e; simp
    · refine List.mem_cons_of_mem _ (ih ?_)
      rw [List.lookup_cons, show (x == y) = false from beq_false_of_ne e] at h
      exact h
end Sr
end
section
set_option Elab.async false
set_option linter.all false
set_option maxRecDepth 100000
set_option maxHeartbeats 4000000
/-! walks: Finder.next_head -/
namespace Sr
open PySem PySem.Spec PyProof.Rows L2 SrM SrK
section
variable {X : Cx} (K : PySem.W.Frag)
theorem call_len_seqK (hK : X.K = K := by rfl) : CallR X (.builtin "len") (fun xs H Q => ∃ p ys, xs = [.ref p] ∧ (SqL K H p ys ∨ SqT K H p ys) ∧ Q (.int ys.length) H) := by
  subst hK
  exact call_len_seq
end
/-! ### books equal -/
def encH (H : Hp) : V → PyData
  | .ref a => match H a with
    | some (.tup [.int i, .int j]) => encT [i, j]
    | _ => .none
  | _ => .none
theorem encH_st {K : PySem.W.Frag} {H : Hp} {v : V} {s : Sg} (h : IsSt K H v s) : encH H v = encS s := by
  obtain ⟨a, rfl, ⟨e⟩⟩ := h
  unfold encH
  simp only [e]
  rfl
theorem valV_of_mem {kvs : List (Key × V)} (nd : (kvs.map (·.1)).Nodup) {p : Key × V} (h : p ∈ kvs) : valV kvs p.1 = some p.2 := by
  induction kvs with
  | nil => cases h
  | cons q r ih =>
    have nd' := List.nodup_cons.mp nd
    rcases List.mem_cons.mp h with e | e
    · subst e
      exact valV_pos rfl
    · rw [valV_neg (fun z => nd'.1 (List.mem_map.mpr ⟨p, e, z.symm⟩))]
      exact ih nd'.2 e
theorem DAt.nodup {α : Type} {R : V → α → Prop} {kvs : List (Key × V)} {bk : Bk α} (D : DAt R kvs bk) : (kvs.map (·.1)).Nodup := by
  obtain ⟨ns, e, nd⟩ := D.ks
  rw [e]
  exact List.pairwise_map.mpr (nd.imp fun h z => h (nK_inj z))
theorem DAt.mem {α : Type} {R : V → α → Prop} {kvs : List (Key × V)} {bk : Bk α} (D : DAt R kvs bk) {p : Key × V} (h : p ∈ kvs) : ∃ x s, p.1 = nK x ∧ bk x = some s ∧ R p.2 s := by
  obtain ⟨i, hi, e⟩ := List.mem_iff_getElem.mp h
  obtain ⟨x, ex, hx⟩ := D.key (i := i) (k := p.1) (v := p.2) (by rw [List.getElem?_eq_getElem hi, e])
  obtain ⟨v, s, e1, e2, e3⟩ := D.get hx
  have := valV_of_mem D.nodup h
  rw [ex, e2] at this
  injection this with this
  subst this
  exact ⟨x, s, ex, e1, e3⟩
theorem bk_dp {K : PySem.W.Frag} {H : Hp} {kvs : List (Key × V)} {bk : Bk Sg} (D : DAt (IsSt K H) kvs bk) : ∀ p ∈ kvs, Dp K H p.2 (encH H p.2) ∧ SeqAt.shaped (encH H p.2) = true := fun p hp => by
  obtain ⟨x, s, _, _, hs⟩ := D.mem hp
  rw [encH_st hs]
  exact ⟨dp_st hs, shaped_path _⟩
theorem sameD_bk {K : PySem.W.Frag} {H : Hp} {ks ls : List (Key × V)} {h g : Bk Sg} (D : DAt (IsSt K H) ks h) (D' : DAt (IsSt K H) ls g) : sameD (encH H) ks ls = decide (h = g) := by
  have key : sameD (encH H) ks ls = true ↔ h = g := by
    unfold sameD
    rw [Bool.and_eq_true, List.all_eq_true]
    constructor
    · rintro ⟨e1, e2⟩
      have e1 : ks.length = ls.length := by simpa using e1
      -- all names of h are names of g with the same stretch
      have hsub : ∀ x s, h x = some s → g x = some s := fun x s hx => by
        obtain ⟨v, ev, rv⟩ := D.so x s hx
        obtain ⟨p, hp, ep, epv⟩ := valV_mem ev
        have q := e2 p hp
        rw [ep] at q
        cases eg : g x with
        | none =>
          rw [D'.no x eg] at q
          cases q
        | some t =>
          obtain ⟨u, eu, ru⟩ := D'.so x t eg
          rw [eu] at q
          simp only at q
          rw [epv, encH_st rv, encH_st ru, eqv_st] at q
          rw [of_decide_eq_true q]
      -- as many names
      obtain ⟨ns, en, nd⟩ := D.ks
      obtain ⟨ms, em, md⟩ := D'.ks
      have l1 : ks.length = ns.length := by have := congrArg List.length en; rw [List.length_map, List.length_map] at this; exact this
      have l2 : ls.length = ms.length := by have := congrArg List.length em; rw [List.length_map, List.length_map] at this; exact this
      have m1 : ∀ x, x ∈ ns ↔ (h x).isSome = true := fun x => by
        rw [← D.isSome x, valV_in', en]
        exact ⟨fun hz => List.mem_map.mpr ⟨x, hz, rfl⟩, fun hz => by
          obtain ⟨y, hy, e⟩ := List.mem_map.mp hz
          rw [← nK_inj e]; exact hy⟩
      have m2 : ∀ x, x ∈ ms ↔ (g x).isSome = true := fun x => by
        rw [← D'.isSome x, valV_in', em]
        exact ⟨fun hz => List.mem_map.mpr ⟨x, hz, rfl⟩, fun hz => by
          obtain ⟨y, hy, e⟩ := List.mem_map.mp hz
          rw [← nK_inj e]; exact hy⟩
      have sub : ∀ x ∈ ns, x ∈ ms := fun x hx => by
        rw [m2]
        have := (m1 x).mp hx
        cases eh : h x with
        | none => rw [eh] at this; cases this
        | some s => rw [hsub x s eh]; rfl
      have all : ∀ x ∈ ms, x ∈ ns := fun x hx => by
        refine Classical.byContradiction fun hn => ?_
        have : (x :: ns).length ≤ ms.length := len_le (x :: ns) ms (List.nodup_cons.mpr ⟨hn, nd⟩) fun y hy => by
          rcases List.mem_cons.mp hy with rfl | hy
          · exact hx
          · exact sub y hy
        rw [List.length_cons] at this
        omega
      funext x
      cases eh : h x with
      | some s => rw [hsub x s eh]
      | none =>
        cases eg : g x with
        | none => rfl
        | some t =>
          have := (m1 x).mp (all x ((m2 x).mpr (by rw [eg]; rfl)))
          rw [eh] at this
          cases this
    · intro e
      subst e
      obtain ⟨ns, en, nd⟩ := D.ks
      obtain ⟨ms, em, md⟩ := D'.ks
      have l1 : ks.length = ns.length := by have := congrArg List.length en; rw [List.length_map, List.length_map] at this; exact this
      have l2 : ls.length = ms.length := by have := congrArg List.length em; rw [List.length_map, List.length_map] at this; exact this
      refine ⟨?_, fun p hp => ?_⟩
      · have m1 : ∀ x, x ∈ ns ↔ x ∈ ms := fun x => by
          constructor
          · intro hx
            have : (valV ks (nK x)).isSome = true := valV_in'.mpr (by rw [en]; exact List.mem_map.mpr ⟨x, hx, rfl⟩)
            rw [D.isSome x, ← D'.isSome x, valV_in', em] at this
            obtain ⟨y, hy, e⟩ := List.mem_map.mp this
            rw [← nK_inj e]; exact hy
          · intro hx
            have : (valV ls (nK x)).isSome = true := valV_in'.mpr (by rw [em]; exact List.mem_map.mpr ⟨x, hx, rfl⟩)
            rw [D'.isSome x, ← D.isSome x, valV_in', en] at this
            obtain ⟨y, hy, e⟩ := List.mem_map.mp this
            rw [← nK_inj e]; exact hy
        have := ((List.perm_ext_iff_of_nodup nd md).mpr m1).length_eq
        rw [beq_iff_eq, l1, l2, this]
      · obtain ⟨x, s, ex, es, rs⟩ := D.mem hp
        obtain ⟨u, eu, ru⟩ := D'.so x s es
        rw [ex, eu]
        simp only
        rw [encH_st rs, encH_st ru, eqv_st]
        exact decide_eq_true rfl
  by_cases c : h = g
  · rw [decide_eq_true c]; exact key.mpr c
  · rw [decide_eq_false c]
    cases e : sameD (encH H) ks ls with
    | false => rfl
    | true => exact absurd (key.mp e) c
where
  len_le : ∀ (l m : List Nm), l.Nodup → (∀ x ∈ l, x ∈ m) → l.length ≤ m.length := by
    intro l
    induction l with
    | nil => intro m _ _; exact Nat.zero_le _
    | cons x r ih =>
      intro m nd hm
      have nd' := List.nodup_cons.mp nd
      have hx : x ∈ m := hm x (by simp)
      have := ih (m.erase x) nd'.2 fun y hy => (List.mem_erase_of_ne (fun z => nd'.1 (by rw [← z]; exact hy))).mpr (hm y (by simp [hy]))
      rw [List.length_erase_of_mem hx] at this
      have h0 : 0 < m.length := List.length_pos_of_mem hx
      rw [List.length_cons]
      omega
/-! ### a dict by paths made of pairs -/
theorem pAt_merge {α : Type} {R : V → α → Prop} {f : Path → Option α} : ∀ (L : List (Path × V)) (acc : List (List Key × V)) (g : Path → Option α), PAt R acc g → (∀ p ∈ L, ∃ s, f p.1 = some s ∧ R p.2 s) →
    PAt R (mergeT acc (L.map fun p => (pK p.1, p.2))) (fun x => if x ∈ L.map (·.1) then f x else g x)
  | [], acc, g, h, _ => h.congr (funext fun x => by simp)
  | p :: L, acc, g, h, hL => by
    obtain ⟨s, e, r⟩ := hL p (by simp)
    refine (pAt_merge L (putK acc (pK p.1) p.2) (putP g p.1 s) (h.put r) fun q hq => hL q (by simp [hq])).congr (funext fun x => ?_)
    by_cases c : x ∈ L.map (·.1)
    · rw [if_pos c, if_pos (by rw [List.map_cons]; exact List.mem_cons_of_mem _ c)]
    · rw [if_neg c]
      by_cases c' : x = p.1
      · subst c'
        rw [putP_same, if_pos (by rw [List.map_cons]; exact List.mem_cons_self), e]
      · rw [putP_ne c', if_neg (fun z => by
          rw [List.map_cons, List.mem_cons] at z
          exact z.elim c' c)]
theorem pAt_list {α : Type} {R : V → α → Prop} {f : Path → Option α} {L : List (Path × V)} (h1 : ∀ p ∈ L, ∃ s, f p.1 = some s ∧ R p.2 s) (h2 : ∀ x, (f x).isSome = true → x ∈ L.map (·.1)) : PAt R (mergeT [] (L.map fun p => (pK p.1, p.2))) f :=
  (pAt_merge L [] (fun _ => none) .nil h1).congr (funext fun x => by
    by_cases c : x ∈ L.map (·.1)
    · rw [if_pos c]
    · rw [if_neg c]
      cases e : f x with
      | none => rfl
      | some s => exact absurd (h2 x (by rw [e]; rfl)) c)
/-- pairs of a path and a value that stand -/
def PpsAt (H : Hp) : List Addr → List (Path × V) → Prop := Paired fun p l => ∃ b, H b = some (.tup (l.1.map V.int)) ∧ H p = some (.tup [.ref b, l.2])
theorem PpsAt.mono {H H' : Hp} {ps : List Addr} {L : List (Path × V)} (h : PpsAt H ps L) (t : Tups H H') : PpsAt H' ps L := Paired.mono (fun _ _ ⟨b, e1, e2⟩ => ⟨b, t _ _ e1, t _ _ e2⟩) h
theorem PpsAt.sq {K : PySem.W.Frag} {H : Hp} : ∀ {ps : List Addr} {L : List (Path × V)}, PpsAt H ps L → Paired (fun p (kv : List Key × V) => ∃ b, H b = some (.tup (kv.1.map kV)) ∧ SqT K H p [.ref b, kv.2]) ps (L.map fun p => (pK p.1, p.2))
  | _, _, .nil => .nil
  | _, _, .cons ⟨b, h1, h2⟩ t => .cons ⟨b, by rw [pK_kV]; exact h1, sq_of h2⟩ (PpsAt.sq t)
theorem dgetT_rd {H : Hp} {a b : Addr} {kvs : List (List Key × V)} {k : List Key} (e : Rd H a (.dT kvs)) (eb : H b = some (.tup (k.map kV))) : DGet H a (.ref b) (valV kvs k) := .inr ⟨kvs, k, b, e, rfl, eb, rfl⟩
theorem und_take {p q : Path} : und p q ↔ q.take p.length = p := by
  constructor
  · rintro ⟨r, rfl⟩
    rw [List.take_left]
  · intro h
    have := List.take_append_drop p.length q
    rw [h] at this
    exact ⟨q.drop p.length, this.symm⟩
theorem cutTo (q : Path) (k : Nat) : cutV (q.map V.int) none (some (k : Int)) = (q.take k).map V.int := by
  unfold cutV
  rw [HT.sIx_none, HT.sIx_nat, List.drop_zero, Nat.sub_zero, List.length_map, List.map_take]
  by_cases h : k ≤ q.length
  · rw [Nat.min_eq_left h]
  · rw [Nat.min_eq_right (by omega), List.take_of_length_le (by rw [List.length_map]; exact Nat.le_refl _), List.take_of_length_le (by rw [List.length_map]; omega)]
theorem nxt_jF (h ga : Bk Sg) : nxt (some ga) h = jF h (fun x => if (h x).isSome then ga x else none) := funext fun x => by
  show (match h x, ga x with
    | some s, some t => some (jn s t)
    | _, _ => none) = (match h x, (if (h x).isSome = true then ga x else none) with
    | some s, some t => some (jn s t)
    | _, _ => none)
  cases h x with
  | none => rfl
  | some s => rfl
section
variable {P : Program} {w : World} {K : PySem.W.Frag} {mg : Str → Option Value} {base : Heap} {C : Addr}
abbrev N_Finder_next_head : List Str := ["self", "deed", "head", "path", "again", "one", "name"]
theorem sc_Finder_next_head : FnScope N_Finder_next_head ["self", "deed", "head", "path"] (defScope s_Finder_next_head) := ⟨rfl, rfl, rfl, by decide +kernel, rfl, by decide +kernel, by decide +kernel⟩
/-- the heads found in one round from h -/
def NHd (p : Path) (hs hs' : Path → Option (Bk Sg)) (l : List (Path × Bk Sg)) : Prop := (∀ q, ¬ und p q → hs' q = hs q) ∧ ∀ q, und p q → (∃ h, (q, h) ∈ l ∧ hs' q = some h) ∨ ((∀ h, (q, h) ∉ l) ∧ hs' q = none)
def spNH (K : PySem.W.Frag) (C : Addr) (n : Nat) : Sp := fun vs H Q _ => ∃ (wk : Addr) (g : GS) (vd : V) (e : Ex) (m : Int) (b : List Dd) (d : Addr) (h : Bk Sg) (vp : V) (p : Path) (Kn : Nm → Prop), vs = [.ref wk, vd, .ref d, vp] ∧ WkAt K H C wk g ∧ IsDd H vd (.whl e m b) ∧ limD n (.whl e m b) ∧ BkAt K H d h ∧ wideB h ∧ wfD (.whl e m b) Kn ∧ inDom Kn h ∧
  IsPa H vp p ∧ p.length + 2 * n + 7 ≤ 1000 ∧ g.sz + (szE e + wB b) ≤ 4000000 ∧ ∀ d' H' g', Kp H H' → WkAt K H' C wk g' → BkAt K H' d' (nxF e (fun h => aB b 0 (p ++ [1]) h) p h) → g'.sz ≤ g.sz + (szE e + wB b) → NHd p g.heads g'.heads (rfd e (fun h => aB b 0 (p ++ [1]) h) p h).heads → Q (.ref d') H'
theorem ok_next_head (T : Tx K mg) (Wc : WalkC K C) (n : Nat) (h_joined_books : Has P w K mg base 2 "joined_books" ["one", "other"] (spJB K)) (m_round_from : HasM P w K mg base (6 * n + 11) C "round_from" ["self", "deed", "head", "path"] (spRF K C true n))
    (G : FnM K C "next_head" "Finder.next_head" s_Finder_next_head) : HasM P w K mg base (6 * n + 12) C "next_head" ["self", "deed", "head", "path"] (spNH K C n) := by
  refine hasM_of (k := 6 * n + 11) (N := N_Finder_next_head) G sc_Finder_next_head (fun _ _ _ _ _ _ us hl => match us, hl with | [_, _, _, _], _ => rfl) (fun vs H Q E h => ?_) (fun f cdv A outer s0 H vs Q E hr h => ?_)
  · obtain ⟨_, _, _, _, _, _, _, _, _, _, _, rfl, _⟩ := h
    rfl
  · obtain ⟨wk, g, vd, e, m, b, d, h, vp, p, Kn, rfl, hW, hdd, hlim, hb, hw, wf, hK, hp, hpl, hz, q⟩ := h
    refine ⟨_, (pss_cons (ps_fld (pv 0) (pe_callTy (call_dictPT rfl (hu66 hr)) (by rfl) T.dict (by decide +kernel) (pa1 (pe_lock (pe_lc (own := [("one", 5)]) rfl sc_Finder_next_head.nd (pi_keys (pe_fld (pv 0) rfl)) (blkOk_by (N := N_Finder_next_head) (sc := defScope s_Finder_next_head) (by decide +kernel)) (fun _ _ _ _ _ => (pg_name (i := 5) sc_Finder_next_head.nd rfl (.inl rfl))) (fun _ _ _ _ _ => (pts_one (pt_cmpR (op_neK K (hu64 hr)) (pe_slice (sl_tupK K) (pv 5) po_none (po_some (pe_callB (call_len_seqK K) (by rfl) T.len (by decide +kernel) (pa1 (pv 3))))) (pv 3) (nomark _)))) (fun _ _ _ _ _ => (pt2 (pv 5) (pe_dget (hu1 hr) (fldK K (pv 0) rfl) (pv 5) (fun _ _ => rfl)))))))) rfl)
      (pss_cons (ps_set (i := 4) sc_Finder_next_head.nd rfl (.inr rfl) (ixc (pe_methH m_round_from Wc.cl hr (by omega) (pv 0) (pa3 (pv 1) (pv 2) (pv 3)))))
      (pss_cons (ps_if (pt_cmpR op_isN (pv 4) pe_non (nomark _))
      (pss_one (ps_ret (pv 2)))
      pss_nil)
      (pss_one (ps_ret (pe_callH h_joined_books hr (by omega) (pa2 (pv 2) (pe_callTy (call_dictP rfl) (by rfl) T.dict (by decide +kernel) (pa1 (pe_lock (pe_lc (own := [("name", 6)]) rfl sc_Finder_next_head.nd (pi_keys (pv 2)) (blkOk_by (N := N_Finder_next_head) (sc := defScope s_Finder_next_head) (by decide +kernel)) (fun _ _ _ _ _ => (pg_name (i := 6) sc_Finder_next_head.nd rfl (.inl rfl))) (fun _ _ _ _ _ => pts_nil) (fun _ _ _ _ _ => (pt2 (pv 6) (pe_dget (hu1 hr) (pv 4) (pv 6) (fun _ _ => rfl))))))))))))))), ?_⟩
    obtain ⟨dx, hd, nt, us, hkv, nkv, ukv, W⟩ := id hW
    obtain ⟨pa, rfl, hpa⟩ := id hp
    have hkl : hkv.length ≤ 4000000 := by have := W.lh; unfold GS.sz at hz; omega
    -- the heads that stay
    refine ⟨hd, .dT hkv, W.eh, trivial, fun od => ?_⟩
    have nwk : wk ≠ hd := ins_ne_T W.ob W.eh
    have tF : Tups H (upd H hd (.frz od (.dT hkv))) := tups_lock W.eh (fun xs z => by cases z)
    have r1 : Rd (upd H hd (.frz od (.dT hkv))) hd (.dT hkv) := rd_lock W.eh W.eh
    have eF : upd H hd (.frz od (.dT hkv)) hd = some (.frz od (.dT hkv)) := upd_same
    have ew : upd H hd (.frz od (.dT hkv)) wk = some (.ins C dx (wF hd nt us)) := by rw [upd_ne nwk]; exact W.ob
    have un : ∀ H', Same (upd H hd (.frz od (.dT hkv))) H' → Same H (upd H' hd (.dT hkv)) := fun H' s => lock_same W.eh s
    have epF := tF _ _ hpa
    have kF : ∀ b kvs, H b = some (.dK kvs) → upd H hd (.frz od (.dT hkv)) b = some (.dK kvs) := fun b kvs e => by
      rw [upd_ne (ne_of e W.eh (by intro z; cases z))]
      exact e
    generalize upd H hd (.frz od (.dT hkv)) = F at tF r1 eF ew un epF kF
    have phF : PAt (fun v bk => ∃ b, v = .ref b ∧ BkAt K F b bk) hkv g.heads := W.ph.mono (bks_mono tF kF)
    have hkeep : ∀ q s, (if q.take p.length = p then none else g.heads q) = some s → q.take p.length ≠ p ∧ g.heads q = some s := fun q s e => by
      by_cases c : q.take p.length = p
      · rw [if_pos c] at e; cases e
      · rw [if_neg c] at e; exact ⟨c, e⟩
    refine ⟨_, rfl, wk, C, dx, _, _, rfl, ew, Wc.cl, Wc.heads, rfl, hd, od, rfl, .inr ⟨hkv, eF, fun Dl hD => ?_⟩⟩
    refine lc_it walk_keysT (fun i H' => Same F H' ∧ ∃ (L : List (Path × V)) (ps : List Addr), H' Dl = some (.lst (ps.map V.ref)) ∧ PpsAt H' ps L ∧ ps.length ≤ i ∧ (∀ l ∈ L, ∃ s, (if l.1.take p.length = p then none else g.heads l.1) = some s ∧ ∃ b, l.2 = .ref b ∧ BkAt K H' b s) ∧
        ∀ j z v, j < i → hkv[j]? = some (pK z, v) → ((if z.take p.length = p then none else g.heads z) : Option (Bk Sg)).isSome = true → z ∈ L.map (·.1))
      ⟨same_new hD, [], [], upd_same, .nil, Nat.le_refl _, fun l hl => (nomatch hl), fun j z v hj => absurd hj (Nat.not_lt_zero j)⟩ (fun i H' _ p => p.1 _ _ eF) ?_ ?_
    · rintro i x H' H2 hi ⟨s1, L, ps, g1, g2, g3, g4, g5⟩ ⟨rfl, k, v, qa, ek, rfl, eq⟩
      obtain ⟨z, rfl, hz1⟩ := phF.key ek
      rw [pK_kV] at eq
      refine ⟨rfl, ?_⟩
      have step : ∀ H4, Same H2 H4 → (z.take p.length = p → (Same F H4 ∧ ∃ (L : List (Path × V)) (ps : List Addr), H4 Dl = some (.lst (ps.map V.ref)) ∧ PpsAt H4 ps L ∧ ps.length ≤ i + 1 ∧ (∀ l ∈ L, ∃ s, (if l.1.take p.length = p then none else g.heads l.1) = some s ∧ ∃ b, l.2 = .ref b ∧ BkAt K H4 b s) ∧
          ∀ j z v, j < i + 1 → hkv[j]? = some (pK z, v) → ((if z.take p.length = p then none else g.heads z) : Option (Bk Sg)).isSome = true → z ∈ L.map (·.1))) := fun H4 s4 c => by
        refine ⟨s1.trans s4, L, ps, s4 _ _ g1, g2.mono (.of_same s4), by omega, fun l hl => ?_, fun j y u hj ej hy => ?_⟩
        · obtain ⟨s, e1, b, e2, e3⟩ := g4 l hl
          exact ⟨s, e1, b, e2, e3.same s4⟩
        · by_cases c' : j < i
          · exact g5 j y u c' ej hy
          · obtain rfl : j = i := by omega
            rw [ek] at ej
            injection ej with ej
            injection ej with ej _
            rw [← pK_inj ej, if_pos c] at hy
            cases hy
      have hlen4 : ps.length ≤ 4000000 := by omega
      obtain ⟨bz0, ebz⟩ : ∃ s, g.heads z = some s := by
        cases e : g.heads z with
        | none => rw [e] at hz1; cases hz1
        | some s => exact ⟨s, rfl⟩
      have put : ∀ H4, Same H2 H4 → z.take p.length ≠ p → ∀ u, H4 u = none → ∀ bz, BkAt K F bz bz0 → ∃ acc, (upd H4 u (.tup [.ref qa, .ref bz])) Dl = some (.lst acc) ∧ acc.length < sizeLine ∧ (Same F (upd (upd H4 u (.tup [.ref qa, .ref bz])) Dl (.lst (acc ++ [.ref u]))) ∧ ∃ (L : List (Path × V)) (ps : List Addr), (upd (upd H4 u (.tup [.ref qa, .ref bz])) Dl (.lst (acc ++ [.ref u]))) Dl = some (.lst (ps.map V.ref)) ∧ PpsAt (upd (upd H4 u (.tup [.ref qa, .ref bz])) Dl (.lst (acc ++ [.ref u]))) ps L ∧ ps.length ≤ i + 1 ∧ (∀ l ∈ L, ∃ s, (if l.1.take p.length = p then none else g.heads l.1) = some s ∧ ∃ b, l.2 = .ref b ∧ BkAt K (upd (upd H4 u (.tup [.ref qa, .ref bz])) Dl (.lst (acc ++ [.ref u]))) b s) ∧
          ∀ j z v, j < i + 1 → hkv[j]? = some (pK z, v) → ((if z.take p.length = p then none else g.heads z) : Option (Bk Sg)).isSome = true → z ∈ L.map (·.1)) := fun H4 s4 cc u hu bz hbz => by
        have s5 : Same H4 (upd H4 u (.tup [.ref qa, .ref bz])) := same_new hu
        have eu : (upd H4 u (.tup [.ref qa, .ref bz])) u = some (.tup [.ref qa, .ref bz]) := upd_same
        generalize upd H4 u (.tup [.ref qa, .ref bz]) = H5 at s5 eu
        have g1' := s5 _ _ (s4 _ _ g1)
        have td : Tups H5 (upd H5 Dl (.lst (ps.map V.ref ++ [.ref u]))) := .put fun xs e => by rw [g1'] at e; cases e
        have kd : ∀ b kvs, H5 b = some (.dK kvs) → (upd H5 Dl (.lst (ps.map V.ref ++ [.ref u]))) b = some (.dK kvs) := fun b kvs e => by
          rw [upd_ne (ne_of e g1' (by intro z; cases z))]
          exact e
        have s45 : Same H2 H5 := s4.trans s5
        refine ⟨_, g1', big_line (by rw [List.length_map]; omega), same_put (s1.trans s45) hD, L ++ [(z, .ref bz)], ps ++ [u], by rw [upd_same, List.map_append]; rfl, ?_, by rw [List.length_append, List.length_singleton]; omega, fun l hl => ?_, fun j y w' hj ej hy => ?_⟩
        · exact Paired.snoc (PpsAt.mono g2 ((Tups.of_same s45).trans td)) ⟨qa, td _ _ (s45 _ _ eq), td _ _ eu⟩
        · rcases List.mem_append.mp hl with hl | hl
          · obtain ⟨s, e1, b, e2, e3⟩ := g4 l hl
            exact ⟨s, e1, b, e2, (e3.same s45).mono td (kd b)⟩
          · rw [List.mem_singleton.mp hl]
            exact ⟨bz0, by rw [if_neg cc]; exact ebz, bz, rfl, ((hbz.same s1).same s45).mono td (kd bz)⟩
        · rw [List.map_append, List.mem_append]
          by_cases c' : j < i
          · exact .inl (g5 j y w' c' ej hy)
          · obtain rfl : j = i := by omega
            rw [ek] at ej
            injection ej with ej
            injection ej with ej _
            rw [← pK_inj ej]
            exact .inr (by simp)
      refine ⟨_, rfl, _, rfl, pa, _, rfl, .inr (sq_of (s1 _ _ epF)), _, rfl, qa, _, rfl, sq_of eq, fun hwh => ?_, fun _ c hc => ?_⟩
      · have et : H2 qa = some (.tup ((z.take p.length).map V.int)) := by
          rw [eq]
          have h2 := hwh.2
          rw [List.length_map, HT.sIx_nat, List.length_map] at h2
          rw [List.take_of_length_le (by omega)]
        have s4 : Same H2 H2 := .refl H2
        refine ⟨_, rfl, _, _, dp_path (sq_of et), dp_path (sq_of (s4 _ _ (s1 _ _ epF))), shaped_path _, shaped_path _, _, rfl, ?_⟩
        rw [eqv_path]
        refine ifC (fun cc => ?_) fun cc => ?_
        · have cc : z.take p.length ≠ p := by simpa using cc
          obtain ⟨v1, ev1, bz, rfl, hbz⟩ := phF.so z bz0 ebz
          refine ⟨_, rfl, _, rfl, wk, C, dx, _, _, rfl, s4 _ _ (s1 _ _ ew), Wc.cl, Wc.heads, rfl, _, rfl, hd, .ref bz, rfl, by rw [← ev1]; exact dgetT_rd (k := pK z) (rd_same (rd_same r1 s1) s4) (by rw [pK_kV]; exact s4 _ _ eq), two, fun u hu => ?_⟩
          exact put _ s4 cc u hu bz hbz
        · exact step _ s4 (by simpa using cc)
      · have et : (upd H2 c (.tup (cutV (z.map V.int) none (some ((p.map V.int).length : Int))))) c = some (.tup ((z.take p.length).map V.int)) := by
          rw [upd_same, List.length_map, cutTo]
        have s4 : Same H2 (upd H2 c (.tup (cutV (z.map V.int) none (some ((p.map V.int).length : Int))))) := same_new hc
        refine ⟨_, rfl, _, _, dp_path (sq_of et), dp_path (sq_of (s4 _ _ (s1 _ _ epF))), shaped_path _, shaped_path _, _, rfl, ?_⟩
        rw [eqv_path]
        refine ifC (fun cc => ?_) fun cc => ?_
        · have cc : z.take p.length ≠ p := by simpa using cc
          obtain ⟨v1, ev1, bz, rfl, hbz⟩ := phF.so z bz0 ebz
          refine ⟨_, rfl, _, rfl, wk, C, dx, _, _, rfl, s4 _ _ (s1 _ _ ew), Wc.cl, Wc.heads, rfl, _, rfl, hd, .ref bz, rfl, by rw [← ev1]; exact dgetT_rd (k := pK z) (rd_same (rd_same r1 s1) s4) (by rw [pK_kV]; exact s4 _ _ eq), two, fun u hu => ?_⟩
          exact put _ s4 cc u hu bz hbz
        · exact step _ s4 (by simpa using cc)
    · rintro H1 ⟨s1, L, ps, g1, g2, g3, g4, g5⟩
      refine ⟨s1 _ _ eF, ?_⟩
      have tu : Tups H1 (upd H1 hd (.dT hkv)) := tups_unlock (s1 _ _ eF)
      have ku : ∀ b kvs, H1 b = some (.dK kvs) → (upd H1 hd (.dT hkv)) b = some (.dK kvs) := fun b kvs e => by
        rw [upd_ne (ne_of e (s1 _ _ eF) (by intro z; cases z))]
        exact e
      have nD : Dl ≠ hd := fun z => by rw [z, eF] at hD; cases hD
      have s2 := un H1 s1
      refine ⟨Dl, ps, _, rfl, .inl (.inl (by rw [upd_ne nD]; exact g1)), PpsAt.sq (g2.mono tu), fun nd hnd => ?_⟩
      have s3 : Same H (upd (upd H1 hd (.dT hkv)) nd (.dT (mergeT [] (L.map fun p => (pK p.1, p.2))))) := s2.trans (same_new hnd)
      have hnd' : H nd = none := s2.free hnd
      have enw := s3 _ _ W.ob
      refine ⟨_, rfl, wk, C, dx, _, rfl, enw, Wc.cl, Wc.heads, by show 3 < 1000; decide, ?_⟩
      rw [show putF "heads" (.ref nd) (wF hd nt us) = wF nd nt us from rfl]
      have end_ : (upd (upd H1 hd (.dT hkv)) nd (.dT (mergeT [] (L.map fun p => (pK p.1, p.2))))) nd = some (.dT (mergeT [] (L.map fun p => (pK p.1, p.2)))) := upd_same
      have pnew : PAt (fun v bk => ∃ b, v = .ref b ∧ BkAt K (upd (upd H1 hd (.dT hkv)) nd (.dT (mergeT [] (L.map fun p => (pK p.1, p.2))))) b bk) (mergeT [] (L.map fun p => (pK p.1, p.2))) (fun q => if q.take p.length = p then none else g.heads q) := by
        refine pAt_list (fun l hl => ?_) fun x hx => ?_
        · obtain ⟨s, e1, b, e2, e3⟩ := g4 l hl
          exact ⟨s, e1, b, e2, (e3.mono tu (ku b)).same (same_new hnd)⟩
        · cases ex : (if x.take p.length = p then none else g.heads x : Option (Bk Sg)) with
          | none => rw [ex] at hx; cases hx
          | some s =>
            obtain ⟨c1, c2⟩ := hkeep x s ex
            have : (valV hkv (pK x)).isSome = true := by rw [phF.isSome x, c2]; rfl
            obtain ⟨y, hy, ey⟩ := List.mem_map.mp (valV_inT.mp this)
            obtain ⟨j, hj, ej⟩ := List.mem_iff_getElem.mp hy
            exact g5 j x y.2 hj (by rw [List.getElem?_eq_getElem hj, ej, ← ey]) (by rw [ex]; rfl)
      have hll : (mergeT [] (L.map fun p => (pK p.1, p.2))).length ≤ g.hn := by
        have h1 := length_mergeT (L.map fun p => (pK p.1, p.2)) []
        rw [List.length_map, List.length_nil] at h1
        have h2 : ps.length = L.length := g2.length
        have h3 := W.lh
        omega
      generalize upd (upd H1 hd (.dT hkv)) nd (.dT (mergeT [] (L.map fun p => (pK p.1, p.2)))) = H2 at s3 enw end_ pnew
      have k4 : Kp H2 (upd H2 wk (.ins C dx (wF nd nt us))) := .put_I enw
      have hW4 : WkAt K (upd H2 wk (.ins C dx (wF nd nt us))) C wk ⟨g.notes, fun q => if q.take p.length = p then none else g.heads q, g.used, g.hn⟩ := by
        refine ⟨dx, nd, nt, us, _, nkv, ukv, upd_same, ?_, ?_, ?_, (ne_of_none W.en hnd').symm, (ne_of_none W.eu hnd').symm, W.n3, pnew.mono (bks_mono k4.tups fun b kvs e => k4.dK e), W.pn.mono fun v s e => (e.mono (.of_same s3)).mono k4.tups, W.pu, hll, W.ln, W.lu⟩
        · rw [upd_ne (ins_ne_T enw end_).symm]; exact end_
        · rw [upd_ne (ins_ne_T enw (s3 _ _ W.en)).symm]; exact s3 _ _ W.en
        · rw [upd_ne (ins_ne_T enw (s3 _ _ W.eu)).symm]; exact s3 _ _ W.eu
      have k5 : Kp H (upd H2 wk (.ins C dx (wF nd nt us))) := (Kp.of s3).trans k4
      generalize upd H2 wk (.ins C dx (wF nd nt us)) = H4 at k4 hW4 k5
      have hsz : GS.sz ⟨g.notes, fun q => if q.take p.length = p then none else g.heads q, g.used, g.hn⟩ = g.sz := rfl
      obtain ⟨dx4, hd4, nt4, us4, hkv4, nkv4, ukv4, W4⟩ := id hW4
      refine ⟨_, rfl, wk, dx4, _, rfl, W4.ob, wF_round_from, _, rfl, _, rfl, _, rfl, ?_⟩
      refine ⟨wk, _, vd, e, m, b, d, h, .ref pa, p, Kn, rfl, hW4, hdd.mono k5.tups, hlim, k5.bk hb, hw, wf, hK, hp.mono k5.tups, hpl, hz, fun z => (nomatch z), fun t v1 v2 H5 g5' k6 hW5 ht h1 h2 p5 => ?_⟩
      refine ⟨_, _, _, _, rfl, rfl, sq_of ht, at0, ?_⟩
      have k7 := k5.trans k6
      have hnh : NHd p g.heads g5'.heads (rfd e (fun h => aB b 0 (p ++ [1]) h) p h).heads := by
        have hh := p5.2.2 rfl
        refine ⟨fun q nq => ?_, fun q uq => ?_⟩
        · rw [hh.1 q fun z => nq z.step]
          exact if_neg fun z => nq (und_take.mpr z)
        · rcases hh.2 q with r | ⟨r1, r2⟩
          · exact .inl r
          · refine .inr ⟨r1, r2.elim (fun r => r.trans (if_pos (und_take.mp uq))) id⟩
      have hs5 : g5'.sz ≤ g.sz + (szE e + wB b) := p5.1
      refine ⟨_, rfl, rfl, _, rfl, ?_⟩
      rw [bkO_non h1]
      cases er : (rfd e (fun h => aB b 0 (p ++ [1]) h) p h).again with
      | none =>
        refine ifT rfl ⟨_, rfl, q d H5 g5' k7 hW5 ?_ hs5 hnh⟩
        unfold nxF
        rw [er]
        exact k7.bk hb
      | some ga =>
        rw [er] at h1
        obtain ⟨da, rfl, hda⟩ := h1
        have hdl := (rfd_again (aB_out b 0 (p ++ [1])) hw er).2
        have hb5 := k7.bk hb
        obtain ⟨kvs, hk, D⟩ := id hb5
        obtain ⟨kvs2, hk2, D2⟩ := id hda
        refine ifF rfl ?_
        refine ⟨_, rfl, ?_⟩
        -- dict([(name, again[name]) for name in head])
        refine ⟨d, .dK kvs, hk, trivial, fun od2 => ?_⟩
        have tF : Tups H5 (upd H5 d (.frz od2 (.dK kvs))) := tups_lock hk (fun xs z => by cases z)
        have r1 : Rd (upd H5 d (.frz od2 (.dK kvs))) d (.dK kvs) := rd_lock hk hk
        have r2 : Rd (upd H5 d (.frz od2 (.dK kvs))) da (.dK kvs2) := rd_lock hk hk2
        have DF : DAt (IsSt K (upd H5 d (.frz od2 (.dK kvs)))) kvs h := D.mono fun v s e => e.mono tF
        have DF2 : DAt (IsSt K (upd H5 d (.frz od2 (.dK kvs)))) kvs2 ga := D2.mono fun v s e => e.mono tF
        have eF : upd H5 d (.frz od2 (.dK kvs)) d = some (.frz od2 (.dK kvs)) := upd_same
        have un : ∀ H', Same (upd H5 d (.frz od2 (.dK kvs))) H' → Same H5 (upd H' d (.dK kvs)) := fun H' s => lock_same hk s
        generalize upd H5 d (.frz od2 (.dK kvs)) = F at tF r1 r2 DF DF2 eF un
        refine ⟨_, rfl, d, od2, rfl, .inl ⟨kvs, eF, fun Dl hD => ?_⟩⟩
        refine lc_it walk_keys (PrI K F Dl kvs (fun x => if (h x).isSome then ga x else none)) (.start hD) (fun i H' _ p => p.1 _ _ eF) ?_ ?_
        · rintro i x H' H2 hi pp ⟨rfl, k, v, ek, rfl⟩
          obtain ⟨z, rfl, hz⟩ := DF.key ek
          obtain ⟨v2, t, e4, e5, e6⟩ := DF2.get (hdl z hz)
          have hi5 : i < 5 := by have := D.length; omega
          refine ⟨rfl, _, rfl, _, rfl, _, rfl, da, v2, rfl, by rw [← e5]; exact dget_rd (k := nK z) (rd_same r2 pp.1), two, fun u hu => ?_⟩
          exact PrI.put pp hD ek hi5 (by rw [if_pos hz, e4]) (.refl _) hu (e6.mono (.of_same pp.1))
        · intro H' pp
          refine ⟨pp.1 _ _ eF, ?_⟩
          obtain ⟨L2, ps2, w1, w2, w3⟩ := PrI.done pp DF fun x hx => by
            by_cases c : (h x).isSome = true
            · exact c
            · rw [if_neg c] at hx; cases hx
          have tu2 : Tups H' (upd H' d (.dK kvs)) := tups_unlock (pp.1 _ _ eF)
          have nd2 : Dl ≠ d := fun z => by rw [z, eF] at hD; cases hD
          refine ⟨Dl, ps2, _, rfl, .inl (.inl (by rw [upd_ne nd2]; exact w1)), PrsAt.sq (K := K) (w2.mono tu2), fun r hr => ?_⟩
          have s9 := (un H' pp.1).trans (same_new (o := HO.dK (mergeK [] (L2.map fun p => (nK p.1, p.2)))) hr)
          refine ⟨_, _, some h, some (fun x => if (h x).isSome then ga x else none), rfl, ⟨d, rfl, hb5.same s9⟩, ⟨r, rfl, _, upd_same, w3.mono fun v s e => (e.mono tu2).mono (.new hr)⟩, fun v6 H6 s6 h6 => ?_⟩
          obtain ⟨d6, rfl, hd6⟩ := h6
          refine q d6 H6 g5' (k7.trans (.of (s9.trans s6))) (hW5.same (s9.trans s6)) ?_ hs5 hnh
          have : nxF e (fun h => aB b 0 (p ++ [1]) h) p h = jF h (fun x => if (h x).isSome then ga x else none) := by
            unfold nxF
            rw [er]
            exact nxt_jF h ga
          rw [this]
          exact hd6
end
end Sr
end
section
set_option Elab.async false
set_option linter.all false
set_option maxRecDepth 100000
set_option maxHeartbeats 4000000
/-! walks: Finder.rounds; the block of a Walk, the block of a Finder -/
namespace Sr
open PySem PySem.Spec PyProof.Rows L2 SrM SrK
theorem NHd.trans {p : Path} {a b c : Path → Option (Bk Sg)} {l l' : List (Path × Bk Sg)} (h : NHd p a b l) (h' : NHd p b c l') : NHd p a c l' := ⟨fun q n => (h'.1 q n).trans (h.1 q n), h'.2⟩
section
variable {P : Program} {w : World} {K : PySem.W.Frag} {mg : Str → Option Value} {base : Heap} {C : Addr}
abbrev N_Finder_rounds : List Str := ["self", "deed", "book", "path", "head", "more", "many"]
theorem sc_Finder_rounds : FnScope N_Finder_rounds ["self", "deed", "book", "path"] (defScope s_Finder_rounds) := ⟨rfl, rfl, rfl, by decide +kernel, rfl, by decide +kernel, by decide +kernel⟩
theorem ok_frounds (T : Tx K mg) (Wc : WalkC K C) (n : Nat) (h_widened : Has P w K mg base 1 "widened" ["one", "other"] (spWiden K)) (m_next_head : HasM P w K mg base (6 * n + 12) C "next_head" ["self", "deed", "head", "path"] (spNH K C n))
    (m_round_from : HasM P w K mg base (6 * n + 11) C "round_from" ["self", "deed", "head", "path"] (spRF K C true n)) (G : FnM K C "rounds" "Finder.rounds" s_Finder_rounds) : HasM P w K mg base (6 * n + 13) C "rounds" ["self", "deed", "book", "path"] (spWR K C true n) := by
  refine hasM_of (k := 6 * n + 12) (N := N_Finder_rounds) G sc_Finder_rounds (fun _ _ _ _ _ _ us hl => match us, hl with | [_, _, _, _], _ => rfl) (fun vs H Q E h => ?_) (fun f cdv A outer s0 H vs Q E hr h => ?_)
  · obtain ⟨_, _, _, _, _, _, _, _, _, _, _, rfl, _⟩ := h
    rfl
  · obtain ⟨wk, g, vd, e, m, b, d, bk, vp, p, Kn, rfl, hW, hdd, hlim, hb, hw, wf, hK, hp, hpl, hz, hpre, q⟩ := h
    refine ⟨_, (pss_cons (ps_set (i := 4) sc_Finder_rounds.nd rfl (.inl rfl) (pv 2))
      (pss_cons (ps_set (i := 5) sc_Finder_rounds.nd rfl (.inl rfl) (pe_methH m_next_head Wc.cl hr (by omega) (pv 0) (pa3 (pv 1) (pv 4) (pv 3))))
      (pss_cons (ps_set (i := 6) sc_Finder_rounds.nd rfl (.inl rfl) pe_int)
      (pss_cons (ps_while PassesOwn.never (pt_cmpR (op_neDD (hu66 hr)) (pv 5) (pv 4) (nomark _))
      (pss_cons (ps_set (i := 6) sc_Finder_rounds.nd rfl (.inl rfl) (pe_op op_add (pv 6) pe_int))
      (pss_cons (ps_set (i := 4) sc_Finder_rounds.nd rfl (.inl rfl) (pe_ifExp (pt_cmpR op_lt (pv 6) pe_int (nomark _)) (pv 5) (pe_callH h_widened hr (by omega) (pa2 (pv 4) (pv 5)))))
      (pss_one (ps_set (i := 5) sc_Finder_rounds.nd rfl (.inl rfl) (pe_methH m_next_head Wc.cl hr (by omega) (pv 0) (pa3 (pv 1) (pv 4) (pv 3))))))))
      (pss_cons (ps_dput (hu1 hr) (pe_fld (pv 0) rfl) (pv 3) (pv 4) rfl)
      (pss_one (ps_ret (ixc (pe_methH m_round_from Wc.cl hr (by omega) (pv 0) (pa3 (pv 1) (pv 4) (pv 3))))))))))), ?_⟩
    obtain ⟨dx, hd, nt, us, hkv, nkv, ukv, W⟩ := id hW
    obtain ⟨pa, rfl, hpa⟩ := id hp
    rw [aD_whl] at q
    have hz : g.sz + (14 * (szE e + wB b) + 1) ≤ 4000000 := hz
    have hG : Grow (nxF e (fun h => aB b 0 (p ++ [1]) h) p) := fun h hh => nxF_ok (aB_out b 0 (p ++ [1])) hh
    have eA : whlA e (fun h => aB b 0 (p ++ [1]) h) p bk = ⟨(rfd e (fun h => aB b 0 (p ++ [1]) h) p (hdF e (fun h => aB b 0 (p ++ [1]) h) p bk)).ends, (rfd e (fun h => aB b 0 (p ++ [1]) h) p (hdF e (fun h => aB b 0 (p ++ [1]) h) p bk)).notes, (p, hdF e (fun h => aB b 0 (p ++ [1]) h) p bk) :: (rfd e (fun h => aB b 0 (p ++ [1]) h) p (hdF e (fun h => aB b 0 (p ++ [1]) h) p bk)).heads⟩ := rfl
    rw [eA] at q
    simp only at q
    have ehd : hdF e (fun h => aB b 0 (p ++ [1]) h) p bk = itr (nxF e (fun h => aB b 0 (p ++ [1]) h) p) 12 0 bk := rfl
    rw [ehd] at q
    have hmu : mM 0 bk ≤ 12 := by unfold mM; have := mu_le bk; omega
    refine ⟨_, rfl, _, rfl, wk, dx, _, rfl, W.ob, wF_next_head, _, rfl, _, rfl, _, rfl, ?_⟩
    refine ⟨wk, g, vd, e, m, b, d, bk, .ref pa, p, Kn, rfl, hW, hdd, hlim, hb, hw, wf, hK, hp, hpl, by omega, fun d1 H1 g1 k1 hW1 hb1 hs1 hn1 => ?_⟩
    refine ⟨fun μ σ H' => ∃ (dh dm : Addr) (h : Bk Sg) (m : Nat) (g' : GS), σ = [some (.ref wk), some vd, some (.ref d), some (.ref pa), some (.ref dh), some (.ref dm), some (.int (m : Int))] ∧ Kp H H' ∧ WkAt K H' C wk g' ∧ BkAt K H' dh h ∧ BkAt K H' dm (nxF e (fun h => aB b 0 (p ++ [1]) h) p h) ∧ wideB h ∧ grows bk h ∧
        m + mM m h ≤ 12 ∧ (∃ f, mM m h ≤ f ∧ itr (nxF e (fun h => aB b 0 (p ++ [1]) h) p) f m h = itr (nxF e (fun h => aB b 0 (p ++ [1]) h) p) 12 0 bk) ∧ g'.sz ≤ g.sz + (m + 1) * (szE e + wB b) ∧ NHd p g.heads g'.heads (rfd e (fun h => aB b 0 (p ++ [1]) h) p h).heads ∧ μ = mM m h,
      ⟨_, d, d1, bk, 0, g1, rfl, k1, hW1, k1.bk hb, hb1, hw, .refl bk, by omega, ⟨12, hmu, rfl⟩, by omega, hn1, rfl⟩, ?_⟩
    rintro μ σ H2 ⟨dh, dm, h, mm, g2, rfl, k2, hW2, hb2, hm2, hw2, gr2, hmm, ⟨ff, hff, hit⟩, hs2, hn2, rfl⟩
    obtain ⟨kh, ekh, Dh⟩ := id hb2
    obtain ⟨km, ekm, Dm⟩ := id hm2
    refine ⟨_, rfl, _, rfl, dm, dh, km, kh, encH H2, rfl, rfl, ekm, ekh, bk_dp Dm, bk_dp Dh, _, rfl, ?_⟩
    rw [sameD_bk Dm Dh]
    have hc : (mm + 1) * (szE e + wB b) ≤ 13 * (szE e + wB b) := Nat.mul_le_mul_right _ (by omega)
    refine ifC (fun c => ?_) fun c => ?_
    · have c : nxF e (fun h => aB b 0 (p ++ [1]) h) p h ≠ h := by simpa using c
      obtain ⟨sw, sg, sm⟩ := stp_ok hG (m := mm) hw2 c
      have hc2 : (mm + 1) * (szE e + wB b) ≤ 12 * (szE e + wB b) := Nat.mul_le_mul_right _ (by omega)
      obtain ⟨f', rfl⟩ : ∃ f', ff = f' + 1 := ⟨ff - 1, by omega⟩
      rw [itr_next c] at hit
      refine ⟨fun σ' H' => ∃ (dh dm : Addr) (h' : Bk Sg) (m' : Nat) (g' : GS), σ' = [some (.ref wk), some vd, some (.ref d), some (.ref pa), some (.ref dh), some (.ref dm), some (.int (m' : Int))] ∧ Kp H H' ∧ WkAt K H' C wk g' ∧ BkAt K H' dh h' ∧ BkAt K H' dm (nxF e (fun h => aB b 0 (p ++ [1]) h) p h') ∧ wideB h' ∧ grows bk h' ∧
        m' + mM m' h' ≤ 12 ∧ (∃ f, mM m' h' ≤ f ∧ itr (nxF e (fun h => aB b 0 (p ++ [1]) h) p) f m' h' = itr (nxF e (fun h => aB b 0 (p ++ [1]) h) p) 12 0 bk) ∧ g'.sz ≤ g.sz + (m' + 1) * (szE e + wB b) ∧ NHd p g.heads g'.heads (rfd e (fun h => aB b 0 (p ++ [1]) h) p h').heads ∧ mM m' h' < mM mm h, ?_, ?_⟩
      · rintro σ' H' ⟨dh, dm, h', m', g', e1, e2, e3, e4, e5, e6, e7, e8, e9, e10, e11, e12⟩
        exact ⟨_, e12, dh, dm, h', m', g', e1, e2, e3, e4, e5, e6, e7, e8, e9, e10, e11, rfl⟩
      · have go : ∀ dh' H3, Same H2 H3 → BkAt K H3 dh' (stp (nxF e (fun h => aB b 0 (p ++ [1]) h) p) mm h) → ∃ a dx fs, V.ref wk = .ref a ∧ H3 a = some (.ins C dx fs) ∧ fs.lookup ("next_head" : Str) = none ∧
            spNH K C n [.ref wk, vd, .ref dh', .ref pa] H3 (fun v H' => ∃ (dh dm : Addr) (h' : Bk Sg) (m' : Nat) (g' : GS), [some (V.ref wk), some vd, some (.ref d), some (.ref pa), some (.ref dh'), some v, some (.int ((mm : Int) + 1))] = [some (V.ref wk), some vd, some (.ref d), some (.ref pa), some (.ref dh), some (.ref dm), some (.int (m' : Int))] ∧ Kp H H' ∧ WkAt K H' C wk g' ∧ BkAt K H' dh h' ∧ BkAt K H' dm (nxF e (fun h => aB b 0 (p ++ [1]) h) p h') ∧ wideB h' ∧ grows bk h' ∧
              m' + mM m' h' ≤ 12 ∧ (∃ f, mM m' h' ≤ f ∧ itr (nxF e (fun h => aB b 0 (p ++ [1]) h) p) f m' h' = itr (nxF e (fun h => aB b 0 (p ++ [1]) h) p) 12 0 bk) ∧ g'.sz ≤ g.sz + (m' + 1) * (szE e + wB b) ∧ NHd p g.heads g'.heads (rfd e (fun h => aB b 0 (p ++ [1]) h) p h').heads ∧ mM m' h' < mM mm h) E0 := fun dh' H3 s3 hb3 => by
          have hW3 := hW2.same s3
          have k3 := k2.trans (.of s3)
          obtain ⟨dx3, hd3, nt3, us3, hkv3, nkv3, ukv3, W3⟩ := id hW3
          refine ⟨wk, dx3, _, rfl, W3.ob, wF_next_head, wk, g2, vd, e, m, b, dh', _, .ref pa, p, Kn, rfl, hW3, hdd.mono k3.tups, hlim, hb3, sw, wf, fun x hx => (gr2.trans sg).dom x (hK x hx), hp.mono k3.tups, hpl, by omega, fun d4 H4 g4 k4 hW4 hb4 hs4 hn4 => ?_⟩
          refine ⟨dh', d4, stp (nxF e (fun h => aB b 0 (p ++ [1]) h) p) mm h, mm + 1, g4, rfl, k3.trans k4, hW4, k4.bk hb3, hb4, sw, gr2.trans sg, by omega, ⟨f', by omega, hit⟩, ?_, hn2.trans hn4, sm⟩
          have : (mm + 1 + 1) * (szE e + wB b) = (mm + 1) * (szE e + wB b) + (szE e + wB b) := Nat.succ_mul _ _
          omega
        refine ⟨_, rfl, _, _, rfl, rfl, ?_⟩
        refine ⟨_, rfl, _, _, rfl, rfl, _, rfl, ifC (fun c4 => ?_) fun c4 => ?_⟩
        · have c4 : (mm : Int) + 1 < 4 := of_decide_eq_true c4
          refine ⟨_, rfl, _, rfl, ?_⟩
          obtain ⟨a, dx', fs, ea, e1, e2, e3⟩ := go dm H2 (.refl H2) (by unfold stp; rw [if_pos (by omega)]; exact hm2)
          exact ⟨a, dx', fs, ea, e1, e2, _, rfl, _, rfl, _, rfl, e3⟩
        · have c4 : ¬ (mm : Int) + 1 < 4 := of_decide_eq_false c4
          refine ⟨_, rfl, _, rfl, dh, dm, h, _, rfl, hb2, hm2, fun x hx => ((hG h hw2).2).dom x hx, fun pw H3 s3 npw hbw => ?_⟩
          obtain ⟨a, dx', fs, ea, e1, e2, e3⟩ := go pw H3 s3 (by unfold stp; rw [if_neg (by omega)]; exact hbw)
          exact ⟨_, rfl, a, dx', fs, ea, e1, e2, _, rfl, _, rfl, _, rfl, e3⟩
    · have c : nxF e (fun h => aB b 0 (p ++ [1]) h) p h = h := by simpa using c
      rw [itr_here c] at hit
      rw [← hit] at q
      obtain ⟨dx2, hd2, nt2, us2, hkv2, nkv2, ukv2, W2⟩ := id hW2
      have hpa2 := k2.tups _ _ hpa
      have hl2 := W2.lh
      obtain ⟨k3, hW3⟩ := W2.head (p := p) hb2
      have hcc : 13 * (szE e + wB b) + (szE e + wB b) = 14 * (szE e + wB b) := by omega
      refine ⟨_, rfl, _, rfl, wk, C, dx2, _, _, rfl, W2.ob, Wc.cl, Wc.heads, rfl, _, rfl, hd2, _, rfl, DPut.t (k := pK p) W2.eh (by rw [pK_kV]; exact hpa2) (big_line (by unfold GS.sz at hs2 hz; omega)), ?_⟩
      have k4 := k2.trans k3
      have hb3 := k3.bk hb2
      have hs3 : GS.sz ⟨g2.notes, putP g2.heads p h, g2.used, g2.hn + 1⟩ = g2.sz + 1 := by unfold GS.sz; simp only; omega
      generalize upd H2 hd2 (.dT (putK hkv2 (pK p) (.ref dh))) = H3 at k3 hW3 k4 hb3
      obtain ⟨dx3, hd3, nt3, us3, hkv3, nkv3, ukv3, W3⟩ := id hW3
      refine ⟨_, rfl, wk, dx3, _, rfl, W3.ob, wF_round_from, _, rfl, _, rfl, _, rfl, ?_⟩
      refine ⟨wk, _, vd, e, m, b, dh, h, .ref pa, p, Kn, rfl, hW3, hdd.mono k4.tups, hlim, hb3, hw2, wf, fun x hx => gr2.dom x (hK x hx), hp.mono k4.tups, hpl, by rw [hs3]; omega, fun z => (nomatch z), fun t v1 v2 H5 g5 k5 hW5 ht h1 h2 p5 => ?_⟩
      refine ⟨_, _, _, _, rfl, rfl, sq_of ht, at1, ?_⟩
      refine q v2 H5 g5 (k4.trans k5) hW5 h2 ⟨?_, fun z => (nomatch z), fun _ => ?_⟩
      · have := p5.1
        show g5.sz ≤ g.sz + (14 * (szE e + wB b) + 1)
        rw [hs3] at this
        omega
      · have hh := p5.2.2 rfl
        have hmem := rfd_heads (e := e) (b := b) (p := p) (h := h)
        refine ⟨fun r nr => ?_, fun r => ?_⟩
        · rw [hh.1 r fun z => nr z.step]
          show putP g2.heads p h r = g.heads r
          rw [putP_ne (fun z => nr (by rw [z]; exact .refl p))]
          exact hn2.1 r nr
        · by_cases rp : r = p
          · subst rp
            refine .inl ⟨h, List.mem_cons_self, ?_⟩
            rw [hh.1 r fun z => z.self]
            exact putP_same _ _ _
          · by_cases ur : und p r
            · rcases hh.2 r with ⟨hr, m1, m2⟩ | ⟨m1, m2⟩
              · exact .inl ⟨hr, List.mem_cons_of_mem _ m1, m2⟩
              · refine .inr ⟨fun hq z => ?_, .inr ?_⟩
                · rcases List.mem_cons.mp z with z | z
                  · injection z with z _
                    exact rp z
                  · exact m1 hq z
                · rcases m2 with m2 | m2
                  · rw [m2]
                    show putP g2.heads p h r = none
                    rw [putP_ne rp]
                    rcases hn2.2 r ur with ⟨hq, z, _⟩ | ⟨_, z⟩
                    · exact absurd z (m1 hq)
                    · exact z
                  · exact m2
            · refine .inr ⟨fun hq z => ?_, .inl ?_⟩
              · rcases List.mem_cons.mp z with z | z
                · injection z with z _
                  exact rp z
                · exact ur (hmem _ z).step
              · rw [hh.1 r fun z => ur z.step]
                show putP g2.heads p h r = g.heads r
                rw [putP_ne rp]
                exact hn2.1 r ur
end
end Sr
end
section
/-! the heads that are found: wide, few -/
set_option autoImplicit false
set_option linter.all false
namespace SrM
def wideH (l : List (Path × Bk Sg)) : Prop := ∀ z ∈ l, wideB z.2
theorem wideH_nil : wideH [] := fun z h => (nomatch h)
theorem wideH_app {l m : List (Path × Bk Sg)} (h : wideH l) (h' : wideH m) : wideH (l ++ m) := fun z hz => (List.mem_append.mp hz).elim (h z) (h' z)
theorem bkBlk_wide {blk : Bk Sg → AR} (hb : ∀ h, wideB h → wideH (blk h).heads) {e : Ex} {bk : Bk Sg} {b : Bool} (hw : wideB bk) : wideH (bkBlk blk (bhd e bk b)).heads := by
  cases q : bhd e bk b with
  | none => exact wideH_nil
  | some g => exact hb g ((bhd_wide q).1 hw)
theorem rfd_wideH {e : Ex} {blk : Bk Sg → AR} {p : Path} {h : Bk Sg} (hb : ∀ h, wideB h → wideH (blk h).heads) (hw : wideB h) : wideH (rfd e blk p h).heads := by
  unfold rfd
  cases abS h e (p ++ [0]) with
  | mk n o =>
    cases o with
    | none => exact wideH_nil
    | some m =>
      simp only
      split
      · exact wideH_nil
      · exact bkBlk_wide hb hw
mutual
theorem aD_wideH : ∀ (d : Dd) (p : Path) (bk : Bk Sg), wideB bk → wideH (aD d p bk).heads
  | .set x e, p, bk, hw => by
    rw [aD]
    unfold setA
    cases abS bk e (p ++ [0]) with
    | mk n o => cases o <;> exact wideH_nil
  | .ife e f g, p, bk, hw => by
    rw [aD]
    unfold ifA
    cases abS bk e (p ++ [0]) with
    | mk n o =>
      cases o with
      | none => exact wideH_nil
      | some m =>
        simp only
        refine wideH_app ?_ ?_
        · split
          · exact wideH_nil
          · exact bkBlk_wide (fun h hh => aB_wideH f 0 (p ++ [1]) h hh) hw
        · split
          · exact bkBlk_wide (fun h hh => aB_wideH g 0 (p ++ [2]) h hh) hw
          · exact wideH_nil
  | .whl e m b, p, bk, hw => by
    rw [aD]
    have hf := hdF_fix (e := e) (p := p) (aB_out b 0 (p ++ [1])) hw
    intro z hz
    unfold whlA at hz
    rcases List.mem_cons.mp hz with hz | hz
    · rw [hz]
      exact hf.2.2
    · exact rfd_wideH (fun h hh => aB_wideH b 0 (p ++ [1]) h hh) hf.2.2 z hz
theorem aB_wideH : ∀ (ds : List Dd) (k : Int) (p : Path) (bk : Bk Sg), wideB bk → wideH (aB ds k p bk).heads
  | [], k, p, bk, hw => by rw [aB]; exact wideH_nil
  | d :: ds, k, p, bk, hw => by
    rw [aB]
    have h1 := aD_wideH d (p ++ [k]) bk hw
    unfold seqA
    cases q : (aD d (p ++ [k]) bk).out with
    | none => exact h1
    | some g => exact wideH_app h1 (aB_wideH ds (k + 1) p g (aD_out d (p ++ [k]) bk hw g q).1)
end
mutual
def hD : Dd → Nat
  | .set _ _ => 0
  | .ife _ f g => hB f + hB g
  | .whl _ _ b => 1 + hB b
def hB : List Dd → Nat
  | [] => 0
  | d :: ds => hD d + hB ds
end
theorem bkBlk_few {blk : Bk Sg → AR} {c : Nat} (hb : ∀ h, (blk h).heads.length ≤ c) (o : Option (Bk Sg)) : (bkBlk blk o).heads.length ≤ c := by
  cases o with
  | none => exact Nat.zero_le _
  | some g => exact hb g
mutual
theorem aD_few : ∀ (d : Dd) (p : Path) (bk : Bk Sg), (aD d p bk).heads.length ≤ hD d
  | .set x e, p, bk => by
    rw [aD]
    unfold setA
    cases abS bk e (p ++ [0]) with
    | mk n o => cases o <;> exact Nat.zero_le _
  | .ife e f g, p, bk => by
    rw [aD, hD]
    unfold ifA
    cases abS bk e (p ++ [0]) with
    | mk n o =>
      cases o with
      | none => exact Nat.zero_le _
      | some m =>
        simp only [List.length_append]
        refine Nat.add_le_add ?_ ?_
        · split
          · exact Nat.zero_le _
          · exact bkBlk_few (fun h => aB_few f 0 (p ++ [1]) h) _
        · split
          · exact bkBlk_few (fun h => aB_few g 0 (p ++ [2]) h) _
          · exact Nat.zero_le _
  | .whl e m b, p, bk => by
    rw [aD, hD]
    unfold whlA rfd
    cases abS (hdF e (fun h => aB b 0 (p ++ [1]) h) p bk) e (p ++ [0]) with
    | mk n o =>
      cases o with
      | none => simp
      | some m =>
        simp only [List.length_cons]
        have : (if m = (0, 0) then AR.no else bkBlk (fun h => aB b 0 (p ++ [1]) h) (bhd e (hdF e (fun h => aB b 0 (p ++ [1]) h) p bk) true)).heads.length ≤ hB b := by
          split
          · exact Nat.zero_le _
          · exact bkBlk_few (fun h => aB_few b 0 (p ++ [1]) h) _
        omega
theorem aB_few : ∀ (ds : List Dd) (k : Int) (p : Path) (bk : Bk Sg), (aB ds k p bk).heads.length ≤ hB ds
  | [], k, p, bk => by rw [aB]; exact Nat.zero_le _
  | d :: ds, k, p, bk => by
    rw [aB, hB]
    have h1 := aD_few d (p ++ [k]) bk
    unfold seqA
    cases q : (aD d (p ++ [k]) bk).out with
    | none => simp only; omega
    | some g =>
      simp only [List.length_append]
      have := aB_few ds (k + 1) p g
      omega
end
def mH : Nat → Nat
  | 0 => 0
  | n + 1 => 8 * mH n + 1
theorem hD_le : ∀ (n : Nat) (d : Dd), limD n d → hD d ≤ mH n := by
  intro n
  induction n with
  | zero =>
    intro d h
    cases d with
    | set x e => exact Nat.le_refl _
    | ife e f g => exact h.elim
    | whl e m b => exact h.elim
  | succ n ih =>
    intro d h
    have blk : ∀ b : List Dd, (b.length ≤ 4 ∧ ∀ d ∈ b, limD n d) → hB b ≤ 4 * mH n := fun b hb =>
      mul4 (sumB (F := hD) (S := hB) (by simp [hB]) (fun d ds => by simp [hB]) b fun d hd => ih d (hb.2 d hd)) hb.1
    show hD d ≤ 8 * mH n + 1
    cases d with
    | set x e => rw [hD]; exact Nat.zero_le _
    | ife e f g =>
      obtain ⟨h1, h2, h3⟩ := h
      have b := blk f h2
      have c := blk g h3
      rw [hD]
      omega
    | whl e m b =>
      obtain ⟨h1, h2, h3, h4⟩ := h
      have c := blk b h4
      rw [hD]
      omega
theorem heads_few {ds : List Dd} (h : limB 2 ds) (k : Int) (p : Path) (bk : Bk Sg) : (aB ds k p bk).heads.length < 64 := by
  have h1 := aB_few ds k p bk
  have h2 : hB ds ≤ 4 * mH 2 := mul4 (sumB (F := hD) (S := hB) (by simp [hB]) (fun d ds => by simp [hB]) ds fun d hd => hD_le 2 d (h.2 d hd)) h.1
  have h3 : 4 * mH 2 = 36 := by decide
  omega
theorem bkBlk_sub {blk : Bk Sg → AR} {o : Option (Bk Sg)} {z : Path × Bk Sg} (h : z ∈ (bkBlk blk o).heads) : ∃ g, z ∈ (blk g).heads := by
  cases o with
  | none => cases h
  | some g => exact ⟨g, h⟩
theorem aB_short {n : Nat} (ih : ∀ d, limD n d → ∀ (p : Path) (bk : Bk Sg), ∀ z ∈ (aD d p bk).heads, z.1.length ≤ p.length + 2 * n) : ∀ (ds : List Dd), (∀ d ∈ ds, limD n d) → ∀ (k : Int) (p : Path) (bk : Bk Sg), ∀ z ∈ (aB ds k p bk).heads, z.1.length ≤ p.length + 2 * n + 1
  | [], _, k, p, bk, z, hz => by
    rw [aB] at hz
    cases hz
  | d :: ds, h, k, p, bk, z, hz => by
    rw [aB] at hz
    unfold seqA at hz
    have h1 : z ∈ (aD d (p ++ [k]) bk).heads → z.1.length ≤ p.length + 2 * n + 1 := fun m => by
      have := ih d (h d (by simp)) (p ++ [k]) bk z m
      rw [List.length_append, List.length_singleton] at this
      omega
    cases q : (aD d (p ++ [k]) bk).out with
    | none =>
      rw [q] at hz
      exact h1 hz
    | some g =>
      rw [q] at hz
      rcases List.mem_append.mp hz with hz | hz
      · exact h1 hz
      · exact aB_short ih ds (fun d hd => h d (by simp [hd])) (k + 1) p g z hz
theorem aD_short : ∀ (n : Nat) (d : Dd), limD n d → ∀ (p : Path) (bk : Bk Sg), ∀ z ∈ (aD d p bk).heads, z.1.length ≤ p.length + 2 * n := by
  intro n
  induction n with
  | zero =>
    intro d h p bk z hz
    cases d with
    | set x e =>
      rw [aD] at hz
      unfold setA at hz
      cases q : abS bk e (p ++ [0]) with
      | mk a o =>
        rw [q] at hz
        cases o <;> cases hz
    | ife e f g => exact h.elim
    | whl e m b => exact h.elim
  | succ n ih =>
    intro d h p bk z hz
    have blk : ∀ (b : List Dd), (b.length ≤ 4 ∧ ∀ d ∈ b, limD n d) → ∀ (i : Int) (g : Bk Sg), z ∈ (aB b 0 (p ++ [i]) g).heads → z.1.length ≤ p.length + 2 * (n + 1) := fun b hb i g hz => by
      have := aB_short (fun d hd p bk => ih d hd p bk) b hb.2 0 (p ++ [i]) g z hz
      rw [List.length_append, List.length_singleton] at this
      omega
    cases d with
    | set x e =>
      rw [aD] at hz
      unfold setA at hz
      cases q : abS bk e (p ++ [0]) with
      | mk a o =>
        rw [q] at hz
        cases o <;> cases hz
    | ife e f g =>
      obtain ⟨h1, h2, h3⟩ := h
      rw [aD] at hz
      unfold ifA at hz
      cases q : abS bk e (p ++ [0]) with
      | mk a o =>
        rw [q] at hz
        cases o with
        | none => cases hz
        | some m =>
          simp only at hz
          rcases List.mem_append.mp hz with hz | hz
          · split at hz
            · cases hz
            · obtain ⟨k, hk⟩ := bkBlk_sub hz
              exact blk f h2 1 k hk
          · split at hz
            · obtain ⟨k, hk⟩ := bkBlk_sub hz
              exact blk g h3 2 k hk
            · cases hz
    | whl e m b =>
      obtain ⟨h1, h2, h3, h4⟩ := h
      rw [aD] at hz
      unfold whlA rfd at hz
      rcases List.mem_cons.mp hz with hz | hz
      · rw [hz]
        simp only
        omega
      · cases q : abS (hdF e (fun h => aB b 0 (p ++ [1]) h) p bk) e (p ++ [0]) with
        | mk a o =>
          rw [q] at hz
          cases o with
          | none => cases hz
          | some m =>
            simp only at hz
            split at hz
            · cases hz
            · obtain ⟨k, hk⟩ := bkBlk_sub hz
              exact blk b h4 1 k hk
theorem heads_short {ds : List Dd} (h : limB 2 ds) (bk : Bk Sg) : ∀ z ∈ (aB ds 0 [] bk).heads, z.1.length ≤ 1000 := fun z hz => by
  have := aB_short (fun d hd p bk => aD_short 2 d hd p bk) ds h.2 0 [] bk z hz
  simp only [List.length_nil] at this
  omega
theorem from_ne {k : Int} {q : Path} (h : from_ k [] q) : q ≠ [] := fun e => by
  obtain ⟨j, _, r, er⟩ := h
  subst e
  cases er
theorem rfd_notes_len {e : Ex} {blk : Bk Sg → AR} {c : Nat} (hb : ∀ h, (blk h).notes.length ≤ c) (hs : ∀ (bk : Bk Sg) (p : Path), (abS bk e p).1.length ≤ szE e) (p : Path) (h : Bk Sg) : (rfd e blk p h).notes.length ≤ szE e + c := by
  unfold rfd
  have h1 := hs h (p ++ [0])
  cases q : abS h e (p ++ [0]) with
  | mk n o =>
    rw [q] at h1
    have h1 : n.length ≤ szE e := h1
    cases o with
    | none => simp only; omega
    | some m =>
      simp only [List.length_append]
      have : (if m = (0, 0) then AR.no else bkBlk blk (bhd e h true)).notes.length ≤ c := by
        split
        · exact Nat.zero_le _
        · cases bhd e h true with
          | none => exact Nat.zero_le _
          | some g => exact hb g
      omega
theorem abS_few (bk : Bk Sg) : ∀ (e : Ex) (p : Path), (abS bk e p).1.length ≤ szE e
  | .num n, p => Nat.le_refl 1
  | .name x, p => by
    unfold abS
    cases bk x <;> simp [szE]
  | .bin u l r, p => by
    have h1 := abS_few bk l (p ++ [0])
    have h2 := abS_few bk r (p ++ [1])
    rw [szE, abS]
    cases e1 : abS bk l (p ++ [0]) with
    | mk n1 o1 =>
      rw [e1] at h1
      cases o1 with
      | none => simp only at h1 ⊢; omega
      | some s =>
        simp only at h1 ⊢
        cases e2 : stOf u (some s) (abS bk r (p ++ [1])).2 with
        | none => simp only [List.length_append]; omega
        | some m => simp only [List.length_append, List.length_singleton]; omega
mutual
theorem aD_nlen : ∀ (d : Dd) (p : Path) (bk : Bk Sg), (aD d p bk).notes.length ≤ wD d
  | .set x e, p, bk => by
    rw [aD, wD]
    unfold setA
    have h1 := abS_few bk e (p ++ [0])
    cases q : abS bk e (p ++ [0]) with
    | mk n o =>
      rw [q] at h1
      cases o <;> exact h1
  | .ife e f g, p, bk => by
    rw [aD, wD]
    unfold ifA
    have h1 := abS_few bk e (p ++ [0])
    cases q : abS bk e (p ++ [0]) with
    | mk n o =>
      rw [q] at h1
      have h1 : n.length ≤ szE e := h1
      cases o with
      | none => simp only; omega
      | some m =>
        simp only [List.length_append]
        have a : (if m = (0, 0) then AR.no else bkBlk (fun h => aB f 0 (p ++ [1]) h) (bhd e bk true)).notes.length ≤ wB f := by
          split
          · exact Nat.zero_le _
          · cases bhd e bk true with
            | none => exact Nat.zero_le _
            | some k => exact aB_nlen f 0 (p ++ [1]) k
        have b : (if (mt m (0, 0)).isSome then bkBlk (fun h => aB g 0 (p ++ [2]) h) (bhd e bk false) else AR.no).notes.length ≤ wB g := by
          split
          · cases bhd e bk false with
            | none => exact Nat.zero_le _
            | some k => exact aB_nlen g 0 (p ++ [2]) k
          · exact Nat.zero_le _
        omega
  | .whl e m b, p, bk => by
    rw [aD, wD]
    unfold whlA
    have := rfd_notes_len (e := e) (blk := fun h => aB b 0 (p ++ [1]) h) (c := wB b) (fun h => aB_nlen b 0 (p ++ [1]) h) (fun bk p => abS_few bk e p) p (hdF e (fun h => aB b 0 (p ++ [1]) h) p bk)
    simp only
    omega
theorem aB_nlen : ∀ (ds : List Dd) (k : Int) (p : Path) (bk : Bk Sg), (aB ds k p bk).notes.length ≤ wB ds
  | [], k, p, bk => by rw [aB]; exact Nat.zero_le _
  | d :: ds, k, p, bk => by
    rw [aB, wB]
    have h1 := aD_nlen d (p ++ [k]) bk
    unfold seqA
    cases q : (aD d (p ++ [k]) bk).out with
    | none => simp only; omega
    | some g =>
      simp only [List.length_append]
      have := aB_nlen ds (k + 1) p g
      omega
end
theorem notes_few {ds : List Dd} (h : limB 2 ds) (k : Int) (p : Path) (bk : Bk Sg) : (aB ds k p bk).notes.length ≤ 1000000 := by
  have h1 := aB_nlen ds k p bk
  have h2 := wB_le h
  have h3 := mW2
  omega
end SrM
namespace SrM
def mD : Nat → Nat
  | 0 => 1
  | n + 1 => 8 * mD n + 1
theorem nD_le2 : ∀ (n : Nat) (d : Dd), limD n d → nD d ≤ mD n := by
  intro n
  induction n with
  | zero =>
    intro d h
    cases d with
    | set x e => rw [nD]; exact Nat.le_refl _
    | ife e f g => exact h.elim
    | whl e m b => exact h.elim
  | succ n ih =>
    intro d h
    have blk : ∀ b : List Dd, (b.length ≤ 4 ∧ ∀ d ∈ b, limD n d) → nB b ≤ 4 * mD n := fun b hb =>
      mul4 (sumB (F := nD) (S := nB) (by simp [nB]) (fun d ds => by simp [nB]) b fun d hd => ih d (hb.2 d hd)) hb.1
    show nD d ≤ 8 * mD n + 1
    cases d with
    | set x e => rw [nD]; omega
    | ife e f g =>
      obtain ⟨h1, h2, h3⟩ := h
      have b := blk f h2
      have c := blk g h3
      rw [nD]
      omega
    | whl e m b =>
      obtain ⟨h1, h2, h3, h4⟩ := h
      have c := blk b h4
      rw [nD]
      omega
theorem deeds_few {ds : List Dd} (h : limB 2 ds) : nB ds ≤ 300 := by
  have h2 : nB ds ≤ 4 * mD 2 := mul4 (sumB (F := nD) (S := nB) (by simp [nB]) (fun d ds => by simp [nB]) ds fun d hd => nD_le2 2 d (h.2 d hd)) h.1
  have h3 : 4 * mD 2 = 292 := by decide
  omega
end SrM
end
section
set_option Elab.async false
set_option linter.all false
set_option maxRecDepth 100000
set_option maxHeartbeats 4000000
/-! walks: Run made; first_book, end_of, run, traced -/
namespace Sr
open PySem PySem.Spec PyProof.Rows L2 SrM SrK RZ
/-! ### what a run ends with, as data -/
def nmsOf (env : Bk Int) : List Nm := [Nm.a, .b, .c, .d].filter fun z => (env z).isSome
def rowD (env : Bk Int) (z : Nm) : PyData := .tuple [.str (nS z), .int ((env z).getD 0)]
def endD (s : RS) : PyData := match s.fault with
  | none => .tuple [.str "told", .tuple ((nmsOf s.env).map (rowD s.env))]
  | some (w, p) => .tuple [.str "refused", .str (fS w), encT p]
theorem lay_rows (env : Bk Int) : ∀ ms : List Nm, PyData.canLayAll0 (ms.map (rowD env)) = true
  | [] => rfl
  | z :: ms => by
    show (PyData.canLay0 (rowD env z) && PyData.canLayAll0 (ms.map (rowD env))) = true
    rw [lay_rows env ms, show PyData.canLay0 (rowD env z) = (PyData.canLay0 (.str (nS z)) && true) from rfl, show PyData.canLay0 (.str (nS z)) = true by cases z <;> decide +kernel]
    rfl
theorem depth_rows (env : Bk Int) : ∀ ms : List Nm, PyData.depthAll (ms.map (rowD env)) ≤ 1
  | [] => by simp [PyData.depthAll]
  | z :: ms => by
    have := depth_rows env ms
    show PyData.depthAll (rowD env z :: ms.map (rowD env)) ≤ 1
    rw [PyData.depthAll]
    have h1 : (rowD env z).depth = 1 := by simp [rowD, PyData.depth, PyData.depthAll]
    rw [h1]
    omega
theorem shaped_end (s : RS) : SeqAt.shaped (endD s) = true := by
  unfold endD SeqAt.shaped
  cases s.fault with
  | none =>
    simp only
    have h1 : PyData.canLay0 (.tuple [.str "told", .tuple ((nmsOf s.env).map (rowD s.env))]) = true := by
      show (PyData.canLay0 (.str "told") && (PyData.canLayAll0 ((nmsOf s.env).map (rowD s.env)) && true)) = true
      rw [lay_rows, show PyData.canLay0 (.str "told") = true by decide +kernel]
      rfl
    have h2 : PyData.depth (.tuple [.str "told", .tuple ((nmsOf s.env).map (rowD s.env))]) ≤ 64 := by
      have := depth_rows s.env (nmsOf s.env)
      simp only [PyData.depth, PyData.depthAll]
      omega
    rw [h1, decide_eq_true h2]
    rfl
  | some x =>
    obtain ⟨w, p⟩ := x
    simp only
    have h1 : PyData.canLay0 (.tuple [.str "refused", .str (fS w), encT p]) = true := by
      show (PyData.canLay0 (.str "refused") && (PyData.canLay0 (.str (fS w)) && (PyData.canLay0 (encT p) && true))) = true
      rw [show PyData.canLay0 (encT p) = true from lay_ints p, show PyData.canLay0 (.str "refused") = true by decide +kernel, show PyData.canLay0 (.str (fS w)) = true by cases w <;> decide +kernel]
      rfl
    have h2 : PyData.depth (.tuple [.str "refused", .str (fS w), encT p]) ≤ 64 := by
      have := depth_encT p
      simp only [PyData.depth, PyData.depthAll]
      omega
    rw [h1, decide_eq_true h2]
    rfl
def EndAt (K : PySem.W.Frag) (H : Hp) (v : V) (s : RS) : Prop := ∃ a xs, v = .ref a ∧ H a = some (.tup (.str (if s.fault.isNone then "told" else "refused") :: xs)) ∧ Dp K H v (endD s)
theorem nms_sorted (env : Bk Int) : (nmsOf env).Pairwise (fun x y => nrk x ≤ nrk y) := List.Pairwise.filter _ (by decide)
theorem nms_nodup (env : Bk Int) : (nmsOf env).Nodup := List.Pairwise.filter _ (by decide)
theorem nms_mem {env : Bk Int} {z : Nm} : z ∈ nmsOf env ↔ (env z).isSome = true := by
  unfold nmsOf
  rw [List.mem_filter]
  exact ⟨fun h => h.2, fun h => ⟨by cases z <;> simp, h⟩⟩
/-! ### a program that is well formed; its worths -/
structure PgOk (ins : List (Nm × Sg)) (ds : List Dd) : Prop where
  nd : (ins.map (·.1)).Nodup
  wi : ∀ r ∈ ins, Wi r.2
  few : ins.length ≤ 2
  thin : ∀ r ∈ ins, r.2.2 ≤ r.2.1 + 2
  lim : limB 2 ds
  wf : wfB ds (fun x => x ∈ ins.map (·.1))
def Fits (ins : List (Nm × Sg)) (ws : List Int) : Prop := ws.length = ins.length ∧ ∀ (i : Nat) r v, ins[i]? = some r → ws[i]? = some v → has r.2 v
def rnP (ins : List (Nm × Sg)) (ds : List Dd) (ws : List Int) : RS := rnB ds 0 [] ⟨envOf (ins.map (·.1)) ws, [], none⟩
theorem envOf_dom {ns : List Nm} {ws : List Int} (h : ns.length = ws.length) {x : Nm} (hx : x ∈ ns) (nd : ns.Nodup) : (envOf ns ws x).isSome = true := by
  obtain ⟨i, hi, e⟩ := List.mem_iff_getElem.mp hx
  have hm : (x, ws[i]'(by omega)) ∈ ns.zip ws := by
    refine List.mem_iff_getElem.mpr ⟨i, by rw [List.length_zip]; omega, ?_⟩
    rw [List.getElem_zip, e]
  unfold envOf
  rw [lookup_mem (by rw [List.map_fst_zip (by omega)]; exact nd) hm]
  rfl
section
variable {P : Program} {w : World} {K : PySem.W.Frag} {mg : Str → Option Value} {base : Heap} {C : Addr}
/-! ### Run made -/
abbrev N_Run_init : List Str := ["self", "book", "plan"]
theorem sc_Run_init : FnScope N_Run_init ["self", "book", "plan"] (defScope s_Run_init) := ⟨rfl, rfl, rfl, by decide +kernel, rfl, by decide +kernel, by decide +kernel⟩
def spRunInit (C : Addr) : Sp := fun vs H Q _ => ∃ (r dx bd : Addr) (pl : V) (env : Bk Int), vs = [.ref r, .ref bd, pl] ∧ H r = some (.ins C dx []) ∧ EnvAt H bd env ∧
  ∀ sl H', H sl = none → (∀ b o, H b = some o → b ≠ r → H' b = some o) → RunAt H' C r bd sl ⟨env, [], none⟩ → Q .non H'
theorem ok_run_init (R : RunC K C) (G : ∃ f fd, FunD K "__init__" "Run.__init__" (defArgs s_Run_init) (defBody s_Run_init) (defScope s_Run_init) [] [] f fd ∧ Mk K C f) (hm : mg "Run" = some (.ref C)) : MkC P w K mg base 1 "Run" C ["self", "book", "plan"] (spRunInit C) := by
  refine mkC_of (N := N_Run_init) G hm sc_Run_init (fun _ _ _ _ _ _ us hl => match us, hl with | [_, _, _], _ => rfl) (fun vs H Q E h => ?_) (fun f cdv A outer s0 H vs Q E hr h => ?_)
  · obtain ⟨_, _, _, _, _, rfl, _⟩ := h
    rfl
  · obtain ⟨r, dx, bd, pl, env, rfl, h1, ⟨kvs, h2, D⟩, q⟩ := h
    refine ⟨_, (pss_cons (ps_fld (pv 0) (pv 1) rfl)
      (pss_cons (ps_fld (pv 0) (pv 2) rfl)
      (pss_cons (ps_fld (pv 0) (pe_lst pa_nil) rfl)
      (pss_one (ps_fld (pv 0) pe_non rfl))))), ?_⟩
    have nb : bd ≠ r := ne_of h2 h1 (by intro z; cases z)
    refine ⟨_, rfl, _, rfl, r, C, dx, _, rfl, h1, R.cl, R.book, by show 0 < 1000; decide, ?_⟩
    refine ⟨_, rfl, _, rfl, r, C, dx, _, rfl, upd_same, R.cl, R.plan, by show 1 < 1000; decide, ?_⟩
    refine ⟨Nat.zero_le _, fun sl hsl => ?_⟩
    rw [upd_upd] at hsl ⊢
    have nsl : sl ≠ r := fun z => by rw [z, upd_same] at hsl; cases hsl
    have hsl' : H sl = none := by rw [upd_ne nsl] at hsl; exact hsl
    refine ⟨_, rfl, r, C, dx, _, rfl, by rw [upd_ne nsl.symm]; exact upd_same, R.cl, R.seen, by show 2 < 1000; decide, ?_⟩
    refine ⟨_, rfl, r, C, dx, _, rfl, upd_same, R.cl, R.fault, by show 3 < 1000; decide, ?_⟩
    rw [upd_upd]
    refine q sl _ hsl' (fun b o e nb => ?_) ⟨⟨dx, pl, .non, upd_same, rfl⟩, ⟨kvs, ?_, D⟩, [], ?_, .nil⟩
    · rw [upd_ne nb, upd_ne (ne_of_none e hsl'), upd_ne nb]
      exact e
    · rw [upd_ne nb, upd_ne (ne_of_none h2 hsl'), upd_ne nb]
      exact h2
    · rw [upd_ne nsl, upd_same]
      rfl
/-! ### first_book -/
abbrev N_first_book : List Str := ["program", "worths", "ins", "worth", "row"]
theorem sc_first_book : FnScope N_first_book ["program", "worths"] (defScope s_first_book) := ⟨rfl, rfl, rfl, by decide +kernel, rfl, by decide +kernel, by decide +kernel⟩
def spFirst (K : PySem.W.Frag) : Sp := fun vs H Q _ => ∃ (x : V) (wa : Addr) (ins : List (Nm × Sg)) (ds : List Dd) (ws : List Int), vs = [x, .ref wa] ∧ PgAt H x ins ds ∧ (ins.map (·.1)).Nodup ∧ H wa = some (.tup (ws.map V.int)) ∧ Fits ins ws ∧
  ∀ p H', Same H H' → H p = none → EnvAt H' p (envOf (ins.map (·.1)) ws) → Q (.ref p) H'
theorem ok_first_book (T : Tx K mg) (h_is_between : Has P w K mg base 2 "is_between" ["thing", "low", "high"] spBetween) (G : FnG K mg "first_book" s_first_book) : Has P w K mg base 3 "first_book" ["program", "worths"] (spFirst K) := by
  refine has_of (N := N_first_book) G sc_first_book (fun _ _ _ _ _ _ us hl => match us, hl with | [_, _], _ => rfl) (fun vs H Q E h => ?_) (fun f cdv A outer s0 H vs Q E hr h => ?_)
  · obtain ⟨_, _, _, _, _, rfl, _⟩ := h
    rfl
  · obtain ⟨x, wa, ins, ds, ws, rfl, ⟨ap, a, b, vs, rfl, hp, ⟨rs, ha, hrs⟩, _⟩, nd, hw, ⟨hl, hfit⟩, q⟩ := h
    refine ⟨_, (pss_cons (ps_set (i := 2) sc_first_book.nd rfl (.inl rfl) (ixc (pv 0)))
      (pss_cons (ps_if (PW.pt (pw_or (pt_cmpR op_ne (pe_callB call_len_seq (by rfl) T.len (by decide +kernel) (pa1 (pv 1))) (pe_callB call_len_seq (by rfl) T.len (by decide +kernel) (pa1 (pv 2))) (nomark _)) (pw_or1 (pt_not (pt_val (pe_callB (cr_all rfl) (by rfl) T.all (by decide +kernel) (pa1 (pe_lc (own := [("worth", 3), ("row", 4)]) rfl sc_first_book.nd (pi_zipA (by rfl) T.zip (pa2 (pv 1) (pv 2))) (blkOk_by (N := N_first_book) (sc := defScope s_first_book) (by decide +kernel)) (fun _ _ _ _ _ => (tupK K (n := 2) (by rfl) (pgs_cons (pg_name (i := 3) sc_first_book.nd rfl (.inl rfl)) (pgs_cons (pg_name (i := 4) sc_first_book.nd rfl (.inl rfl)) pgs_nil)))) (fun _ _ _ _ _ => pts_nil) (fun _ _ _ _ _ => (pe_callH h_is_between hr (by decide) (pa3 (pv 3) (ixk K (pv 4)) (ixk K (pv 4)))))))))))))
      (pss_one ps_never)
      pss_nil)
      (pss_one (ps_ret (pe_callTy (call_dictP rfl) (by rfl) T.dict (by decide +kernel) (pa1 (pe_lc (own := [("row", 4), ("worth", 3)]) rfl sc_first_book.nd (pi_zipA (by rfl) T.zip (pa2 (pv 2) (pv 1))) (blkOk_by (N := N_first_book) (sc := defScope s_first_book) (by decide +kernel)) (fun _ _ _ _ _ => (tupK K (n := 2) (by rfl) (pgs_cons (pg_name (i := 4) sc_first_book.nd rfl (.inl rfl)) (pgs_cons (pg_name (i := 3) sc_first_book.nd rfl (.inl rfl)) pgs_nil)))) (fun _ _ _ _ _ => pts_nil) (fun _ _ _ _ _ => (pt2 (ixk K (pv 4)) (pv 3)))))))))), ?_⟩
    have hlen : rs.length = ins.length := hrs.length
    have hl4 : ins.length ≤ 4 := by have := nm_len nd; rw [List.length_map] at this; exact this
    have hlr : (ws.map V.int).length = (rs.map V.ref).length := by rw [List.length_map, List.length_map, hlen, hl]
    refine ⟨_, rfl, _, _, _, _, rfl, rfl, sq_of hp, at0, _, rfl, wa, _, rfl, .inr (sq_of hw), _, rfl, a, _, rfl, .inr (sq_of ha), rfl, _, rfl, ?_⟩
    rw [hlr]
    refine ifF (by rw [dec_ii]; simp) ?_
    refine ⟨_, rfl, _, rfl, wa, a, _, _, rfl, .inr ⟨sq_of hw, sq_of ha, fun Dl hD => ?_⟩⟩
    refine lc_it (walk_zipT hlr) (fun i H' => Same H H' ∧ H' Dl = some (.lst ((List.replicate i true).map V.bl))) ⟨same_new hD, upd_same⟩ (fun i H' _ p => ⟨sq_of (p.1 _ _ hw), sq_of (p.1 _ _ ha)⟩) ?_ ?_
    · rintro i y H' H2 hi ⟨s1, g1⟩ ⟨t, x1, x2, rfl, ht, rfl, ex1, ex2⟩
      simp only [List.getElem?_map] at ex1 ex2
      have hi' : i < ins.length := by rw [List.length_map] at hi; omega
      cases ew : ws[i]? with
      | none => rw [ew] at ex1; cases ex1
      | some v =>
        rw [ew] at ex1
        injection ex1 with ex1
        subst ex1
        cases er : rs[i]? with
        | none => rw [er] at ex2; cases ex2
        | some r =>
          rw [er] at ex2
          injection ex2 with ex2
          subst ex2
          obtain ⟨row, e1, e2⟩ := paired_get hrs er
          obtain ⟨z, s⟩ := row
          have e2 : H r = some (.tup [.str (nS z), .int s.1, .int s.2]) := e2
          have hv := hfit i _ v e1 ew
          have s2 : Same H' (upd H' t (.tup [.int v, .ref r])) := same_new ht
          have e3 := s2 _ _ (s1 _ _ e2)
          refine ⟨t, _, rfl, sq_of upd_same, rfl, _, _, rfl, _, _, rfl, rfl, rfl, ?_⟩
          refine ⟨_, rfl, _, rfl, _, _, _, _, rfl, rfl, sq_of e3, at1, _, rfl, _, _, _, _, rfl, rfl, sq_of e3, at2, v, s.1, s.2, rfl, hv.1, hv.2, _, s2 _ _ g1, small_line (by rw [List.length_map, List.length_replicate]; omega), same_put (s1.trans s2) hD, ?_⟩
          rw [upd_same, List.replicate_succ', List.map_append]
          rfl
    · rintro H' ⟨s1, g1⟩
      refine ⟨Dl, _, rfl, .inl (.inl g1), ?_⟩
      rw [show (List.replicate (ws.map V.int).length true).all id = true by rw [List.all_eq_true]; intro b hb; exact (List.mem_replicate.mp hb).2]
      refine ⟨_, rfl, ifF rfl ?_⟩
      refine ⟨_, rfl, _, rfl, a, wa, _, _, rfl, .inr ⟨sq_of (s1 _ _ ha), sq_of (s1 _ _ hw), fun D2 hD2 => ?_⟩⟩
      refine lc_it (walk_zipT hlr.symm) (fun i H2 => Same H' H2 ∧ ∃ ps : List Addr, H2 D2 = some (.lst (ps.map V.ref)) ∧ PrsAt H2 ps ((((ins.map (·.1)).zip ws).map fun z => (z.1, V.int z.2)).take i)) ⟨same_new hD2, [], upd_same, .nil⟩ (fun i H2 _ p => ⟨sq_of (p.1 _ _ (s1 _ _ ha)), sq_of (p.1 _ _ (s1 _ _ hw))⟩) ?_ ?_
      · rintro i y H2 H3 hi ⟨s2, ps, g2, g3⟩ ⟨t, x1, x2, rfl, ht, rfl, ex1, ex2⟩
        simp only [List.getElem?_map] at ex1 ex2
        cases ew : ws[i]? with
        | none => rw [ew] at ex2; cases ex2
        | some v =>
          rw [ew] at ex2
          injection ex2 with ex2
          subst ex2
          cases er : rs[i]? with
          | none => rw [er] at ex1; cases ex1
          | some r =>
            rw [er] at ex1
            injection ex1 with ex1
            subst ex1
            obtain ⟨row, e1, e2⟩ := paired_get hrs er
            obtain ⟨z, s⟩ := row
            have e2 : H r = some (.tup [.str (nS z), .int s.1, .int s.2]) := e2
            have s3 : Same H2 (upd H2 t (.tup [.ref r, .int v])) := same_new ht
            have e3 := s3 _ _ (s2 _ _ (s1 _ _ e2))
            have et : (upd H2 t (.tup [.ref r, .int v])) t = some (.tup [.ref r, .int v]) := upd_same
            generalize upd H2 t (.tup [.ref r, .int v]) = H4 at s3 e3 et
            refine ⟨t, _, rfl, sq_of et, rfl, _, _, rfl, _, _, rfl, rfl, rfl, ?_⟩
            refine ⟨_, rfl, _, _, _, _, rfl, rfl, sq_of e3, at0, _, rfl, two, fun u hu => ?_⟩
            have s4 : Same H4 (upd H4 u (.tup [.str (nS z), .int v])) := same_new hu
            have g2' := s4 _ _ (s3 _ _ g2)
            have hpl : ps.length ≤ i := by have := g3.length; rw [this, List.length_take]; omega
            have hi' : i < ins.length := (List.getElem?_eq_some_iff.mp e1).1
            have hz : (((ins.map (·.1)).zip ws).map fun z => (z.1, V.int z.2))[i]? = some (z, V.int v) := by
              rw [List.getElem?_map, show ((ins.map (·.1)).zip ws)[i]? = some (z, v) from List.getElem?_zip_eq_some.mpr ⟨by rw [List.getElem?_map, e1]; rfl, ew⟩]
              rfl
            have td : Tups (upd H4 u (.tup [.str (nS z), .int v])) (upd (upd H4 u (.tup [.str (nS z), .int v])) D2 (.lst (ps.map V.ref ++ [.ref u]))) := .put fun xs z => by rw [g2'] at z; cases z
            refine ⟨_, g2', small_line (by rw [List.length_map]; omega), same_put ((s2.trans s3).trans s4) hD2, ps ++ [u], by rw [upd_same, List.map_append]; rfl, ?_⟩
            rw [List.take_add_one, hz]
            exact Paired.snoc (PrsAt.mono g3 (((Tups.of_same s3).trans (.of_same s4)).trans td)) (td _ _ upd_same)
      · rintro H2 ⟨s2, ps, g2, g3⟩
        have hzl : ((ins.map (·.1)).zip ws).length = ins.length := by rw [List.length_zip, List.length_map]; omega
        rw [show (rs.map V.ref).length = (((ins.map (·.1)).zip ws).map fun z => (z.1, V.int z.2)).length by rw [List.length_map, List.length_map, hzl, hlen], List.take_length] at g3
        refine ⟨D2, ps, _, rfl, .inl (.inl g2), PrsAt.sq g3, fun d hd => ?_⟩
        have hf : ((ins.map (·.1)).zip ws).map (·.1) = ins.map (·.1) := List.map_fst_zip (by rw [List.length_map]; omega)
        refine q d _ ((s1.trans s2).trans (same_new hd)) (s1.free (s2.free hd)) ⟨_, upd_same, dAt_list (f := envOf (ins.map (·.1)) ws) (fun l hl => ?_) fun y hy => ?_⟩
        · obtain ⟨⟨y, v⟩, hyv, rfl⟩ := List.mem_map.mp hl
          exact ⟨v, lookup_mem (by rw [hf]; exact nd) hyv, rfl⟩
        · rw [List.map_map]
          have := lookup_some hy
          rw [hf] at this
          rw [show ((fun x : Nm × V => x.1) ∘ fun z : Nm × Int => (z.1, V.int z.2)) = (·.1) from rfl, hf]
          exact this
end
end Sr
end
section
set_option Elab.async false
set_option linter.all false
set_option maxRecDepth 100000
set_option maxHeartbeats 4000000
/-! walks: end_of, run, traced -/
namespace Sr
open PySem PySem.Spec PyProof.Rows L2 SrM SrK RZ
def RowE (H : Hp) (env : Bk Int) : List Addr → List Nm → Prop := Paired fun r z => H r = some (.tup [.str (nS z), .int ((env z).getD 0)])
theorem dpAll_rows {K : PySem.W.Frag} {H : Hp} {env : Bk Int} : ∀ {rs : List Addr} {ms : List Nm}, RowE H env rs ms → DpAll K H (rs.map V.ref) (ms.map (rowD env))
  | _, _, .nil => .nil
  | _, _, .cons h t => .cons (.tup (sq_of h) (.cons (.str _) (.cons (.int _) .nil))) (dpAll_rows t)
section
variable {P : Program} {w : World} {K : PySem.W.Frag} {mg : Str → Option Value} {base : Heap} {C : Addr}
abbrev N_end_of : List Str := ["made", "name"]
theorem sc_end_of : FnScope N_end_of ["made"] (defScope s_end_of) := ⟨rfl, rfl, rfl, by decide +kernel, rfl, by decide +kernel, by decide +kernel⟩
def spEnd (K : PySem.W.Frag) (C : Addr) : Sp := fun vs H Q _ => ∃ (r bd sl : Addr) (s : RS), vs = [.ref r] ∧ RunAt H C r bd sl s ∧ ∀ v H', Same H H' → EndAt K H' v s → Q v H'
theorem ok_end_of (T : Tx K mg) (R : RunC K C) (G : FnG K mg "end_of" s_end_of) : Has P w K mg base 1 "end_of" ["made"] (spEnd K C) := by
  refine has_of (N := N_end_of) G sc_end_of (fun _ _ _ _ _ _ us hl => match us, hl with | [_], _ => rfl) (fun vs H Q E h => ?_) (fun f cdv A outer s0 H vs Q E hr h => ?_)
  · obtain ⟨_, _, _, _, rfl, _⟩ := h
    rfl
  · obtain ⟨r, bd, sl, s, rfl, hR, q⟩ := h
    refine ⟨_, (pss_cons (ps_if (pt_cmpR op_notN (pe_fld (pv 0) rfl) pe_non (nomark _))
      (pss_one (ps_ret (pe_op op_catA (pe_tup (pa1 pe_str)) (pe_fld (pv 0) rfl))))
      pss_nil)
      (pss_one (ps_ret (pt2 pe_str (pe_callTy call_tuple_of (by rfl) T.tuple (by decide +kernel) (pa1 (pe_lc (own := [("name", 1)]) rfl sc_end_of.nd (pi_list (pe_callB cr_sortedS (by rfl) T.sorted (by decide +kernel) (pa1 (pe_callTy (call_listD rfl) (by rfl) T.list (by decide +kernel) (pa1 (pe_fld (pv 0) rfl)))))) (blkOk_by (N := N_end_of) (sc := defScope s_end_of) (by decide +kernel)) (fun _ _ _ _ _ => (pg_name (i := 1) sc_end_of.nd rfl (.inl rfl))) (fun _ _ _ _ _ => pts_nil) (fun _ _ _ _ _ => (pt2 (pv 1) (pe_dget (hu1 hr) (fldK K (pv 0) rfl) (pv 1) (fun _ _ => rfl))))))))))), ?_⟩
    obtain ⟨⟨dx, pl, vf, h1, h2⟩, ⟨kvs, h3, D⟩, _⟩ := id hR
    refine ⟨_, rfl, r, C, dx, _, _, rfl, h1, R.cl, R.fault, rfl, rfl, _, rfl, ?_⟩
    rw [ft_non h2]
    cases es : s.fault with
    | some x =>
      obtain ⟨u, p⟩ := x
      rw [es] at h2
      obtain ⟨a, b, rfl, ha, hb⟩ := h2
      refine ifT rfl ⟨one_line, fun t ht => ⟨_, rfl, r, C, dx, _, _, rfl, same_new ht _ _ h1, R.cl, R.fault, rfl, t, a, _, _, rfl, rfl, sq_of upd_same, sq_of (same_new ht _ _ ha), by show 3 ≤ sizeLine; decide, fun z => (nomatch z), fun _ z => (nomatch z), fun _ _ v hv => ?_⟩⟩
      have s1 : Same H (upd (upd H t (.tup [.str "refused"])) v (.tup ([.str "refused"] ++ [.str (fS u), .ref b]))) := (same_new ht).trans (same_new hv)
      have ev : (upd (upd H t (.tup [.str "refused"])) v (.tup ([.str "refused"] ++ [.str (fS u), .ref b]))) v = some (.tup [.str "refused", .str (fS u), .ref b]) := upd_same
      refine q _ _ s1 ⟨v, _, rfl, by rw [es]; exact ev, ?_⟩
      unfold endD
      rw [es]
      exact .tup (sq_of ev) (.cons (.str _) (.cons (.str _) (.cons (dp_path (sq_of (s1 _ _ hb))) .nil)))
    | none =>
      refine ifF rfl ?_
      obtain ⟨ns, ek, nd⟩ := D.ks
      have hl4 := nm_len nd
      have e1 : (kvs.map fun kv => kV kv.1) = (ns.map nS).map V.str := by
        have : (kvs.map (·.1)).map kV = (ns.map nK).map kV := by rw [ek]
        rw [List.map_map, List.map_map] at this
        rw [List.map_map]
        exact this
      refine ⟨_, rfl, r, C, dx, _, _, rfl, h1, R.cl, R.book, rfl, bd, kvs, rfl, .inl h3, fun l hl => ⟨l, ns.map nS, rfl, .inl (.inl (by rw [upd_same, e1])), by rw [List.length_map]; omega, fun ys p pm so hp => ?_⟩⟩
      obtain ⟨ms, hm1, rfl⟩ := perm_nm pm
      have hm2 := sorted_nm so
      have hms : ms = nmsOf s.env := by
        refine nm_unique (hm1.trans ((List.perm_ext_iff_of_nodup nd (nms_nodup _)).mpr fun z => ?_)) hm2 (nms_sorted _)
        rw [nms_mem, ← D.isSome z, valV_in', ek]
        exact ⟨fun hz => List.mem_map.mpr ⟨z, hz, rfl⟩, fun hz => by
          obtain ⟨y, hy, e⟩ := List.mem_map.mp hz
          rw [← nK_inj e]
          exact hy⟩
      have hm4 : ms.length ≤ 4 := nm_len (hm1.nodup_iff.mpr nd)
      have s1 : Same H (upd (upd H l (.lst (kvs.map fun kv => kV kv.1))) p (.lst ((ms.map nS).map V.str))) := (same_new hl).trans (same_new hp)
      have ep : (upd (upd H l (.lst (kvs.map fun kv => kV kv.1))) p (.lst ((ms.map nS).map V.str))) p = some (.lst ((ms.map nS).map V.str)) := upd_same
      generalize upd (upd H l (.lst (kvs.map fun kv => kV kv.1))) p (.lst ((ms.map nS).map V.str)) = H1 at s1 ep
      refine ⟨p, rfl, ⟨_, .inl (.inl ep)⟩, fun Dl hD => lc_list (K := K) (a := p) (xs := (ms.map nS).map V.str) (fun i H2 => Same H1 H2 ∧ ∃ rs : List Addr, H2 Dl = some (.lst (rs.map V.ref)) ∧ RowE H2 s.env rs (ms.take i)) ⟨same_new hD, [], upd_same, .nil⟩ (fun i H2 _ p => .inl (.inl (p.1 _ _ ep))) ?_ ?_⟩
      · rintro i x H2 hi ⟨s2, rs, g1, g2⟩
        rw [List.getElem?_map, List.getElem?_map] at hi
        cases ez : ms[i]? with
        | none => rw [ez] at hi; cases hi
        | some z =>
          rw [ez] at hi
          injection hi with hi
          subst hi
          have hz : (s.env z).isSome = true := nms_mem.mp (hms ▸ List.mem_of_getElem? ez)
          obtain ⟨v, n, e2, e3, e4⟩ := D.get hz
          subst e4
          have hi4 : i < 5 := by have := (List.getElem?_eq_some_iff.mp ez).1; omega
          have hrl : rs.length ≤ i := by have := g2.length; rw [this, List.length_take]; omega
          refine ⟨rfl, _, rfl, _, rfl, r, C, dx, _, _, rfl, s2 _ _ (s1 _ _ h1), R.cl, R.book, rfl, _, rfl, bd, .int n, rfl, by rw [← e3]; exact DGet.k (k := nK z) (s2 _ _ (s1 _ _ h3)), two, fun t ht => ?_⟩
          have st : Same H2 (upd H2 t (.tup [.str (nS z), .int n])) := same_new ht
          have td : Tups (upd H2 t (.tup [.str (nS z), .int n])) (upd (upd H2 t (.tup [.str (nS z), .int n])) Dl (.lst (rs.map V.ref ++ [.ref t]))) := .put fun xs e => by rw [st _ _ g1] at e; cases e
          refine ⟨_, st _ _ g1, small_line (by rw [List.length_map]; omega), same_put (s2.trans st) hD, rs ++ [t], by rw [upd_same, List.map_append]; rfl, ?_⟩
          rw [List.take_add_one, ez]
          refine Paired.snoc (Paired.mono (fun _ _ e => td _ _ (st _ _ e)) g2) ?_
          rw [e2]
          exact td _ _ upd_same
      · rintro H2 ⟨s2, rs, g1, g2⟩
        rw [show ((ms.map nS).map V.str).length = ms.length by rw [List.length_map, List.length_map], List.take_length] at g2
        refine ⟨Dl, _, rfl, .inl ⟨.inl (.inl g1), fun u hu => ⟨two, fun v hv => ?_⟩⟩⟩
        have s3 : Same H2 (upd (upd H2 u (.tup (rs.map V.ref))) v (.tup [.str "told", .ref u])) := (same_new hu).trans (same_new hv)
        have eu : (upd (upd H2 u (.tup (rs.map V.ref))) v (.tup [.str "told", .ref u])) u = some (.tup (rs.map V.ref)) := same_new hv _ _ upd_same
        have ev : (upd (upd H2 u (.tup (rs.map V.ref))) v (.tup [.str "told", .ref u])) v = some (.tup [.str "told", .ref u]) := upd_same
        refine q _ _ ((s1.trans s2).trans s3) ⟨v, _, rfl, by rw [es]; exact ev, ?_⟩
        unfold endD
        rw [es, ← hms]
        exact .tup (sq_of ev) (.cons (.str _) (.cons (.tup (sq_of eu) (dpAll_rows (Paired.mono (fun _ _ e => s3 _ _ e) g2))) .nil))
/-! ### run, traced -/
abbrev N_run : List Str := ["program", "worths", "made"]
theorem sc_run : FnScope N_run ["program", "worths"] (defScope s_run) := ⟨rfl, rfl, rfl, by decide +kernel, rfl, by decide +kernel, by decide +kernel⟩
abbrev N_traced : List Str := ["program", "worths", "made"]
theorem sc_traced : FnScope N_traced ["program", "worths"] (defScope s_traced) := ⟨rfl, rfl, rfl, by decide +kernel, rfl, by decide +kernel, by decide +kernel⟩
theorem isPa_nil {H : Hp} {a : Addr} (h : H a = some (.tup [])) : IsPa H (.ref a) [] := ⟨a, rfl, h⟩
def spRun (K : PySem.W.Frag) : Sp := fun vs H Q _ => ∃ (x : V) (wa : Addr) (ins : List (Nm × Sg)) (ds : List Dd) (ws : List Int), vs = [x, .ref wa] ∧ PgAt H x ins ds ∧ PgOk ins ds ∧ H wa = some (.tup (ws.map V.int)) ∧ Fits ins ws ∧
  ∀ v H', Same H H' → EndAt K H' v (rnP ins ds ws) → Q v H'
def spTraced : Sp := fun vs H Q _ => ∃ (x : V) (wa : Addr) (ins : List (Nm × Sg)) (ds : List Dd) (ws : List Int), vs = [x, .ref wa] ∧ PgAt H x ins ds ∧ PgOk ins ds ∧ H wa = some (.tup (ws.map V.int)) ∧ Fits ins ws ∧
  ∀ sl H' ps, Same H H' → H sl = none → H' sl = some (.lst (ps.map V.ref)) → SeenIn H' ps (rnP ins ds ws).seen → Q (.ref sl) H'
theorem dom_first {ins : List (Nm × Sg)} {ws : List Int} (hf : Fits ins ws) (nd : (ins.map (·.1)).Nodup) : inDomE (fun x => x ∈ ins.map (·.1)) (envOf (ins.map (·.1)) ws) := fun x hx => envOf_dom (by rw [List.length_map]; exact hf.1.symm) hx nd
theorem seen_few {ins : List (Nm × Sg)} {ds : List Dd} {ws : List Int} (h : PgOk ins ds) : (rnP ins ds ws).seen.length ≤ 1000000 := by
  have h1 := rnB_len ds 0 [] ⟨envOf (ins.map (·.1)) ws, [], none⟩
  have h2 := cB_le h.lim
  have h3 := mC2
  unfold rnP
  simp only [List.length_nil] at h1
  omega
theorem ok_run (T : Tx K mg) (R : RunC K C) (h_Run : MkC P w K mg base 1 "Run" C ["self", "book", "plan"] (spRunInit C)) (h_first_book : Has P w K mg base 3 "first_book" ["program", "worths"] (spFirst K)) (h_end_of : Has P w K mg base 1 "end_of" ["made"] (spEnd K C))
    (m_block : HasM P w K mg base 16 C "block" ["self", "deeds", "path"] (spRBlock C 3)) (G : FnG K mg "run" s_run) : Has P w K mg base 17 "run" ["program", "worths"] (spRun K) := by
  have clR := R.cl
  refine has_of (N := N_run) G sc_run (fun _ _ _ _ _ _ us hl => match us, hl with | [_, _], _ => rfl) (fun vs H Q E h => ?_) (fun f cdv A outer s0 H vs Q E hr h => ?_)
  · obtain ⟨_, _, _, _, _, rfl, _⟩ := h
    rfl
  · obtain ⟨x, wa, ins, ds, ws, rfl, hP, hok, hw, hfit, q⟩ := h
    refine ⟨_, (pss_cons (ps_set (i := 2) sc_run.nd rfl (.inl rfl) (pe_makeH h_Run hr (by decide) (pa2 (pe_callH h_first_book hr (by decide) (pa2 (pv 0) (pv 1))) pe_dnewK)))
      (pss_cons (ps_expr (pe_methH m_block clR hr (by decide) (pv 2) (pa2 (ixc (pv 0)) (pe_tup pa_nil))))
      (pss_one (ps_ret (pe_callH h_end_of hr (by decide) (pa1 (pv 2))))))), ?_⟩
    refine ⟨_, rfl, _, rfl, x, wa, ins, ds, ws, rfl, hP, hok.nd, hw, hfit, fun bd H1 s1 nbd env1 => ?_⟩
    intro pl hpl r dx hx hdx ne
    have s2 : Same H1 (upd H1 pl (.dK [])) := same_new hpl
    have s3 : Same (upd H1 pl (.dK [])) (upd (upd (upd H1 pl (.dK [])) dx (.own r)) r (.ins C dx [])) := (same_new hdx).trans (same_new (by rw [upd_ne ne.symm]; exact hx))
    obtain ⟨kvs, hk, D⟩ := env1
    have sH := s1.trans (s2.trans s3)
    refine ⟨r, dx, bd, .ref pl, _, rfl, upd_same, ⟨kvs, s3 _ _ (s2 _ _ hk), D⟩, fun sl H4 nsl k4 hR4 => ⟨rfl, ?_⟩⟩
    have nr : H r = none := s1.free (s2.free hx)
    have s4 : Same H H4 := fun b o e => k4 b o (sH _ _ e) (ne_of_none e nr)
    obtain ⟨ap, i, b, vb, rfl, hp1, hp2, hp3, hp4⟩ := hP.mono (.of_same s4)
    obtain ⟨⟨dx', pl', vf, g1, g2⟩, _⟩ := id hR4
    refine ⟨_, rfl, r, dx', _, rfl, g1, rF_block, _, rfl, _, _, _, _, rfl, rfl, sq_of hp1, at1, Nat.zero_le _, fun t ht => ?_⟩
    have s5 : Same H4 (upd H4 t (.tup [])) := same_new ht
    have hseen := cB_le hok.lim
    have hm := mC2
    refine ⟨r, bd, sl, ⟨_, [], none⟩, _, ds, _, [], _, rfl, hR4.same s5, rfl, ⟨b, vb, rfl, s5 _ _ hp3, hp4.mono (.of_same s5)⟩, hok.lim, hok.wf, dom_first hfit hok.nd, isPa_nil upd_same, by decide, by simp only [List.length_nil]; omega, fun H6 f6 hR6 => ?_⟩
    refine ⟨_, rfl, r, bd, sl, _, rfl, hR6, fun v H7 s7 e7 => ?_⟩
    refine q v H7 (fun c o ec => s7 _ _ (f6.2 c o (s5 _ _ (s4 _ _ ec)) ?_)) e7
    have n1 : c ≠ r := ne_of_none ec nr
    have n2 : c ≠ bd := ne_of_none ec nbd
    have n3 : c ≠ sl := ne_of_none (sH _ _ ec) nsl
    simp [n1, n2, n3]
theorem ok_traced (T : Tx K mg) (R : RunC K C) (h_Run : MkC P w K mg base 1 "Run" C ["self", "book", "plan"] (spRunInit C)) (h_first_book : Has P w K mg base 3 "first_book" ["program", "worths"] (spFirst K))
    (m_block : HasM P w K mg base 16 C "block" ["self", "deeds", "path"] (spRBlock C 3)) (G : FnG K mg "traced" s_traced) : Has P w K mg base 17 "traced" ["program", "worths"] spTraced := by
  have clR := R.cl
  refine has_of (N := N_traced) G sc_traced (fun _ _ _ _ _ _ us hl => match us, hl with | [_, _], _ => rfl) (fun vs H Q E h => ?_) (fun f cdv A outer s0 H vs Q E hr h => ?_)
  · obtain ⟨_, _, _, _, _, rfl, _⟩ := h
    rfl
  · obtain ⟨x, wa, ins, ds, ws, rfl, hP, hok, hw, hfit, q⟩ := h
    refine ⟨_, (pss_cons (ps_set (i := 2) sc_traced.nd rfl (.inl rfl) (pe_makeH h_Run hr (by decide) (pa2 (pe_callH h_first_book hr (by decide) (pa2 (pv 0) (pv 1))) pe_dnewK)))
      (pss_cons (ps_expr (pe_methH m_block clR hr (by decide) (pv 2) (pa2 (ixc (pv 0)) (pe_tup pa_nil))))
      (pss_one (ps_ret (pe_fld (pv 2) rfl))))), ?_⟩
    refine ⟨_, rfl, _, rfl, x, wa, ins, ds, ws, rfl, hP, hok.nd, hw, hfit, fun bd H1 s1 nbd env1 => ?_⟩
    intro pl hpl r dx hx hdx ne
    have s2 : Same H1 (upd H1 pl (.dK [])) := same_new hpl
    have s3 : Same (upd H1 pl (.dK [])) (upd (upd (upd H1 pl (.dK [])) dx (.own r)) r (.ins C dx [])) := (same_new hdx).trans (same_new (by rw [upd_ne ne.symm]; exact hx))
    obtain ⟨kvs, hk, D⟩ := env1
    have sH := s1.trans (s2.trans s3)
    refine ⟨r, dx, bd, .ref pl, _, rfl, upd_same, ⟨kvs, s3 _ _ (s2 _ _ hk), D⟩, fun sl H4 nsl k4 hR4 => ⟨rfl, ?_⟩⟩
    have nr : H r = none := s1.free (s2.free hx)
    have s4 : Same H H4 := fun b o e => k4 b o (sH _ _ e) (ne_of_none e nr)
    obtain ⟨ap, i, b, vb, rfl, hp1, hp2, hp3, hp4⟩ := hP.mono (.of_same s4)
    obtain ⟨⟨dx', pl', vf, g1, g2⟩, _⟩ := id hR4
    refine ⟨_, rfl, r, dx', _, rfl, g1, rF_block, _, rfl, _, _, _, _, rfl, rfl, sq_of hp1, at1, Nat.zero_le _, fun t ht => ?_⟩
    have s5 : Same H4 (upd H4 t (.tup [])) := same_new ht
    have hseen := cB_le hok.lim
    have hm := mC2
    refine ⟨r, bd, sl, ⟨_, [], none⟩, _, ds, _, [], _, rfl, hR4.same s5, rfl, ⟨b, vb, rfl, s5 _ _ hp3, hp4.mono (.of_same s5)⟩, hok.lim, hok.wf, dom_first hfit hok.nd, isPa_nil upd_same, by decide, by simp only [List.length_nil]; omega, fun H6 f6 hR6 => ?_⟩
    obtain ⟨⟨dx6, pl6, vf6, g6, _⟩, _, ps, h5, h6⟩ := id hR6
    refine ⟨_, rfl, r, C, dx6, _, _, rfl, g6, R.cl, R.seen, rfl, ?_⟩
    refine q sl H6 ps (fun c o ec => f6.2 c o (s5 _ _ (s4 _ _ ec)) ?_) (sH.free nsl) h5 h6
    have n1 : c ≠ r := ne_of_none ec nr
    have n2 : c ≠ bd := ne_of_none ec nbd
    have n3 : c ≠ sl := ne_of_none (sH _ _ ec) nsl
    simp [n1, n2, n3]
end
end Sr
end
section
set_option Elab.async false
set_option linter.all false
set_option maxRecDepth 100000
set_option maxHeartbeats 4000000
/-! walks: paper_for -/
namespace Sr
open PySem PySem.Spec PyProof.Rows L2 SrM SrK
/-! ### paths in order -/
def pLe (p q : Path) : Bool := PySem.W.dataLe false encT p q
def encPa (H : Hp) : V → PyData
  | .ref a => match H a with
    | some (.tup xs) => encT (xs.map fun v => match v with | .int i => i | _ => 0)
    | _ => .none
  | _ => .none
theorem encPa_at {H : Hp} {b : Addr} {q : Path} (h : H b = some (.tup (q.map V.int))) : encPa H (.ref b) = encT q := by
  unfold encPa
  simp only [h, List.map_map]
  congr 1
  exact List.map_id' q
def PasIn (H : Hp) : List Addr → List Path → Prop := Paired fun b q => H b = some (.tup (q.map V.int))
theorem PasIn.mono {H H' : Hp} {bs : List Addr} {qs : List Path} (h : PasIn H bs qs) (t : Tups H H') : PasIn H' bs qs := Paired.mono (fun _ _ e => t _ _ e) h
theorem paired_mem {α β : Type} {F : α → β → Prop} {l : List α} {m : List β} (h : Paired F l m) : ∀ a ∈ l, ∃ b ∈ m, F a b := by
  induction h with
  | nil => intro a ha; cases ha
  | cons h t ih =>
    intro a ha
    rcases List.mem_cons.mp ha with rfl | ha
    · exact ⟨_, List.mem_cons_self, h⟩
    · obtain ⟨b, hb, e⟩ := ih a ha
      exact ⟨b, List.mem_cons_of_mem _ hb, e⟩
theorem pas_mem {H : Hp} {bs : List Addr} {qs : List Path} (h : PasIn H bs qs) : ∀ x ∈ bs.map V.ref, ∃ b q, x = .ref b ∧ q ∈ qs ∧ H b = some (.tup (q.map V.int)) := fun x hx => by
  obtain ⟨b, hb, rfl⟩ := List.mem_map.mp hx
  obtain ⟨q, hq, e⟩ := paired_mem h b hb
  exact ⟨b, q, rfl, hq, e⟩
theorem pas_dp {K : PySem.W.Frag} {H : Hp} {bs : List Addr} {qs : List Path} (h : PasIn H bs qs) : ∀ x ∈ bs.map V.ref, Dp K H x (encPa H x) ∧ (encPa H x).depth ≤ 60 := fun x hx => by
  obtain ⟨b, q, rfl, hq, e⟩ := pas_mem h x hx
  rw [encPa_at e]
  exact ⟨dp_path (sq_of e), depth_encT q⟩
theorem pas_alike {H : Hp} {bs : List Addr} {qs : List Path} (h : PasIn H bs qs) : PySem.W.AllAlike ((bs.map V.ref).map (encPa H)) := fun d hd d' hd' => by
  obtain ⟨x, hx, rfl⟩ := List.mem_map.mp hd
  obtain ⟨x', hx', rfl⟩ := List.mem_map.mp hd'
  obtain ⟨b, q, rfl, _, e⟩ := pas_mem h x hx
  obtain ⟨b', q', rfl, _, e'⟩ := pas_mem h x' hx'
  rw [encPa_at e, encPa_at e']
  exact PySem.W.alike_ints q q'
theorem pas_sortable {H : Hp} {bs : List Addr} {qs : List Path} (h : PasIn H bs qs) (hne : ∀ q ∈ qs, q ≠ []) : PySem.W.Sortable ((bs.map V.ref).map (encPa H)) := .inl fun d hd => by
  obtain ⟨x, hx, rfl⟩ := List.mem_map.mp hd
  obtain ⟨b, q, rfl, hq, e⟩ := pas_mem h x hx
  rw [encPa_at e]
  cases q with
  | nil => exact absurd rfl (hne [] hq)
  | cons i r => exact ⟨_, _, rfl⟩
theorem paired_zip {α β : Type} {F : α → β → Prop} : ∀ {l : List α} {m : List β}, Paired F l m → (l.zip m).map (·.1) = l ∧ (l.zip m).map (·.2) = m ∧ ∀ z ∈ l.zip m, F z.1 z.2
  | _, _, .nil => ⟨rfl, rfl, fun z hz => (nomatch hz)⟩
  | _, _, .cons h t => by
    obtain ⟨a, b, c⟩ := paired_zip t
    refine ⟨by simp [List.zip_cons_cons, a], by simp [List.zip_cons_cons, b], fun z hz => ?_⟩
    rcases List.mem_cons.mp hz with rfl | hz
    · exact h
    · exact c z hz
theorem paired_of_list {α β : Type} {F : α → β → Prop} : ∀ (l : List (α × β)), (∀ z ∈ l, F z.1 z.2) → Paired F (l.map (·.1)) (l.map (·.2))
  | [], _ => .nil
  | z :: l, h => .cons (h z List.mem_cons_self) (paired_of_list l fun y hy => h y (List.mem_cons_of_mem _ hy))
theorem pas_sorted {H : Hp} {bs : List Addr} {qs : List Path} (h : PasIn H bs qs) : ∃ bs' qs', srt (encPa H) (bs.map V.ref) = bs'.map V.ref ∧ PasIn H bs' qs' ∧ qs'.Perm qs ∧ qs'.Pairwise (fun p q => pLe p q = true) := by
  obtain ⟨z1, z2, z3⟩ := paired_zip h
  have pm : (srt (encPa H) (bs.map V.ref)).Perm (bs.map V.ref) := List.mergeSort_perm _ _
  obtain ⟨L, hL, eL⟩ := perm_lift (fun z : Addr × Path => V.ref z.1) pm (bs.zip qs) (by rw [← z1]; rw [List.map_map]; rw [z1]; rfl)
  have hz : ∀ z ∈ L, H z.1 = some (.tup (z.2.map V.int)) := fun z m => z3 z (hL.mem_iff.mp m)
  have hP : PasIn H (L.map Prod.fst) (L.map Prod.snd) := paired_of_list (F := fun (b : Addr) (q : Path) => H b = some (.tup (q.map V.int))) L hz
  refine ⟨L.map Prod.fst, L.map Prod.snd, by rw [← eL, List.map_map]; rfl, hP, by rw [← z2]; exact hL.map _, ?_⟩
  have hp : (srt (encPa H) (bs.map V.ref)).Pairwise (fun a b => PySem.W.dataLe false (encPa H) a b = true) := PySem.W.sort_pairwise (PySem.W.sortLe_total _ _ _) _
  rw [← eL] at hp
  refine List.pairwise_map.mpr ((List.pairwise_map.mp hp).imp_of_mem fun {y z} hy hz' e => ?_)
  have e : (!PySem.W.dataLt (encPa H (.ref z.1)) (encPa H (.ref y.1))) = true := e
  rw [encPa_at (hz y hy), encPa_at (hz z hz')] at e
  exact e
/-! ### a paper as it stands -/
def PpRow (H : Hp) (r : Addr) (z : Path × Bk Sg) : Prop := ∃ b sh rows, H r = some (.tup [.ref b, .ref sh]) ∧ H b = some (.tup (z.1.map V.int)) ∧ RowsAt H sh rows ∧ (rows.map (·.1)).Nodup ∧ (rows.map (·.1)).Pairwise (fun x y => nrk x ≤ nrk y) ∧ bkOf rows = z.2
def PpAt (H : Hp) (v : V) (l : List (Path × Bk Sg)) : Prop := ∃ a rs, v = .ref a ∧ H a = some (.tup (rs.map V.ref)) ∧ Paired (PpRow H) rs l
theorem PpRow.mono {H H' : Hp} {r : Addr} {z : Path × Bk Sg} (h : PpRow H r z) (t : Tups H H') : PpRow H' r z := by
  obtain ⟨b, sh, rows, h1, h2, h3, h4, h5, h6⟩ := h
  exact ⟨b, sh, rows, t _ _ h1, t _ _ h2, h3.mono t, h4, h5, h6⟩
theorem PpAt.mono {H H' : Hp} {v : V} {l : List (Path × Bk Sg)} (h : PpAt H v l) (t : Tups H H') : PpAt H' v l := by
  obtain ⟨a, rs, e, h1, h2⟩ := h
  exact ⟨a, rs, e, t _ _ h1, Paired.mono (fun _ _ x => x.mono t) h2⟩
/-- the heads that are found in a program -/
abbrev hdsOf (ins : List (Nm × Sg)) (ds : List Dd) : List (Path × Bk Sg) := (aB ds 0 [] (bkOf ins)).heads
structure PpOk (ins : List (Nm × Sg)) (ds : List Dd) (l : List (Path × Bk Sg)) : Prop where
  mem : ∀ z, z ∈ l ↔ z ∈ hdsOf ins ds
  nd : (l.map (·.1)).Nodup
  so : (l.map (·.1)).Pairwise (fun p q => pLe p q = true)
theorem wide_ins {ins : List (Nm × Sg)} {ds : List Dd} (h : PgOk ins ds) : wideB (bkOf ins) := fun x s e => by
  have := bkOf_mem_of e
  exact h.wi _ this
where
  bkOf_mem_of : ∀ {rows : List (Nm × Sg)} {x : Nm} {s : Sg}, bkOf rows x = some s → (x, s) ∈ rows := by
    intro rows x s e
    induction rows with
    | nil => cases e
    | cons p r ih =>
      obtain ⟨y, t⟩ := p
      by_cases c : x = y
      · subst c
        have : bkOf ((x, t) :: r) x = some t := by
          show List.lookup x ((x, t) :: r) = some t
          simp [List.lookup]
        rw [this] at e
        injection e with e
        subst e
        exact List.mem_cons_self
      · refine List.mem_cons_of_mem _ (ih ?_)
        have : bkOf ((y, t) :: r) x = bkOf r x := by
          show List.lookup x ((y, t) :: r) = List.lookup x r
          rw [List.lookup_cons, show (x == y) = false from beq_false_of_ne c]
        rw [← this]
        exact e
theorem dom_ins {ins : List (Nm × Sg)} (nd : (ins.map (·.1)).Nodup) : inDom (fun x => x ∈ ins.map (·.1)) (bkOf ins) := fun x hx => by
  obtain ⟨⟨y, s⟩, h, rfl⟩ := List.mem_map.mp hx
  rw [bkOf_mem nd h]
  rfl
theorem PpOk.ne {ins : List (Nm × Sg)} {ds : List Dd} {l : List (Path × Bk Sg)} (h : PpOk ins ds l) : ∀ z ∈ l, z.1 ≠ [] := fun z hz => from_ne ((aB_ku ds 0 [] (bkOf ins)).heads.all z ((h.mem z).mp hz))
theorem PpOk.few {ins : List (Nm × Sg)} {ds : List Dd} {l : List (Path × Bk Sg)} (hp : PgOk ins ds) (h : PpOk ins ds l) : l.length < 64 := by
  have h1 : l.length = (hdsOf ins ds).length := by
    have n1 : l.Nodup := List.Pairwise.of_map (·.1) (fun a b ne e => ne (by rw [e])) h.nd
    have n2 : (hdsOf ins ds).Nodup := List.Pairwise.of_map (·.1) (fun a b ne e => ne (by rw [e])) (aB_ku ds 0 [] (bkOf ins)).heads.nd
    exact ((List.perm_ext_iff_of_nodup n1 n2).mpr h.mem).length_eq
  rw [h1]
  exact heads_few hp.lim 0 [] (bkOf ins)
section
variable {P : Program} {w : World} {K : PySem.W.Frag} {mg : Str → Option Value} {base : Heap} {C : Addr}
abbrev N_paper_for : List Str := ["program", "finder", "path"]
theorem sc_paper_for : FnScope N_paper_for ["program"] (defScope s_paper_for) := ⟨rfl, rfl, rfl, by decide +kernel, rfl, by decide +kernel, by decide +kernel⟩
def spPaper : Sp := fun vs H Q _ => ∃ (x : V) (ins : List (Nm × Sg)) (ds : List Dd), vs = [x] ∧ PgAt H x ins ds ∧ PgOk ins ds ∧ ∀ v H' l, Kp H H' → PpAt H' v l → PpOk ins ds l → Q v H'
theorem ok_paper_for (T : Tx K mg) (Wf : WalkC K C) (h_Finder : MkC P w K mg base 1 "Finder" C ["self", "heads"] (spWInit K C)) (h_ins_book : Has P w K mg base 1 "ins_book" ["program"] (spInsBook K)) (h_shelf_of : Has P w K mg base 1 "shelf_of" ["book"] (spShelfOf K))
    (m_block : HasM P w K mg base 27 C "block" ["self", "deeds", "book", "path"] (spWB K C true 3)) (G : FnG K mg "paper_for" s_paper_for) : Has P w K mg base 28 "paper_for" ["program"] spPaper := by
  refine has_of (N := N_paper_for) G sc_paper_for (fun _ _ _ _ _ _ us hl => match us, hl with | [_], _ => rfl) (fun vs H Q E h => ?_) (fun f cdv A outer s0 H vs Q E hr h => ?_)
  · obtain ⟨_, _, _, rfl, _⟩ := h
    rfl
  · obtain ⟨x, ins, ds, rfl, hP, hok, q⟩ := h
    refine ⟨_, (pss_cons (ps_set (i := 1) sc_paper_for.nd rfl (.inr rfl) (pe_makeH h_Finder hr (by decide) (pa1 pe_dnewT)))
      (pss_cons (ps_expr (pe_methH m_block Wf.cl hr (by decide) (pv 1) (pa3 (ixc (pv 0)) (pe_callH h_ins_book hr (by decide) (pa1 (pv 0))) (pe_tup pa_nil))))
      (pss_one (ps_ret (pe_callTy call_tuple_of (by rfl) T.tuple (by decide +kernel) (pa1 (pe_lc (own := [("path", 2)]) rfl sc_paper_for.nd (pi_list (pe_callB (cr_sortedA (hu66 hr)) (by rfl) T.sorted (by decide +kernel) (pa1 (pe_callTy (call_list_dT rfl) (by rfl) T.list (by decide +kernel) (pa1 (pe_fld (pv 1) rfl)))))) (blkOk_by (N := N_paper_for) (sc := defScope s_paper_for) (by decide +kernel)) (fun _ _ _ _ _ => (pg_name (i := 2) sc_paper_for.nd rfl (.inl rfl))) (fun _ _ _ _ _ => pts_nil) (fun _ _ _ _ _ => (pt2 (pv 2) (pe_callH h_shelf_of hr (by decide) (pa1 (pe_dget (hu1 hr) (fldK K (pv 1) rfl) (pv 2) (fun _ _ => rfl))))))))))))), ?_⟩
    intro hd hhd wk dx hx hdx ne
    have s1 : Same H (upd H hd (.dT [])) := same_new hhd
    have s2 : Same (upd H hd (.dT [])) (upd (upd (upd H hd (.dT [])) dx (.own wk)) wk (.ins C dx [])) := (same_new hdx).trans (same_new (by rw [upd_ne ne.symm]; exact hx))
    refine ⟨wk, dx, hd, [], fun _ => none, rfl, upd_same, s2 _ _ upd_same, PAt.nil, fun H3 k3 hW3 => ⟨rfl, ?_⟩⟩
    have nw : H wk = none := s1.free hx
    have s3 : Same H H3 := fun b o e => k3 b o (s2 _ _ (s1 _ _ e)) (ne_of_none e nw)
    have hP3 := hP.mono (.of_same s3)
    obtain ⟨ap, i, b, vb, rfl, hp1, hp2, hp3, hp4⟩ := id hP3
    obtain ⟨dx3, hd3, nt3, us3, hkv3, nkv3, ukv3, W3⟩ := id hW3
    refine ⟨_, rfl, wk, dx3, _, rfl, W3.ob, wF_block, _, rfl, _, _, _, _, rfl, rfl, sq_of hp1, at1, _, rfl, _, ins, ds, rfl, hP3, hok.nd, fun bd H4 s4 nb hbk => ?_⟩
    refine ⟨Nat.zero_le _, fun t ht => ?_⟩
    have s5 := s4.trans (same_new (o := HO.tup []) ht)
    have hwl := wB_le hok.lim
    have hw2 := mW2
    refine ⟨wk, _, _, ds, bd, bkOf ins, _, [], _, rfl, hW3.same s5, ⟨b, vb, rfl, s5 _ _ hp3, hp4.mono (.of_same s5)⟩, hok.lim, hbk.same (same_new ht), wide_ins hok, hok.wf, dom_ins hok.nd, isPa_nil upd_same, by decide, by unfold GS.sz; simp only [List.length_nil]; omega, fun z => (nomatch z), fun v6 H6 g6 k6 hW6 h6 p6 => ?_⟩
    have kH : Kp H H6 := (Kp.of s3).trans ((Kp.of s5).trans k6)
    have hh := p6.2.2 rfl
    obtain ⟨dx6, hd6, nt6, us6, hkv6, nkv6, ukv6, W6⟩ := id hW6
    obtain ⟨qs, ekq, qnd⟩ := W6.ph.ks
    have hku := (aB_ku ds 0 [] (bkOf ins)).heads
    -- the heads found are those
    have hmem : ∀ p h, (p, h) ∈ hdsOf ins ds ↔ g6.heads p = some h := fun p h => by
      rcases hh.2 p with ⟨h', m1, m2⟩ | ⟨m1, m2⟩
      · rw [m2]
        exact ⟨fun m => by rw [hku.uniq m m1], fun e => by injection e with e; rw [← e]; exact m1⟩
      · refine ⟨fun m => absurd m (m1 h), fun e => ?_⟩
        rcases m2 with m2 | m2
        · rw [m2] at e; cases e
        · rw [m2] at e; cases e
    refine ⟨_, rfl, wk, C, dx6, _, _, rfl, W6.ob, Wf.cl, Wf.heads, rfl, hd6, hkv6, rfl, .inl W6.eh, fun l bs hl hbs => ?_⟩
    have hbs0 : PasIn H6 bs qs := keys_pas hbs ekq
    have hbs1 : PasIn (upd H6 l (.lst (bs.map V.ref))) bs qs := hbs0.mono (.new hl)
    have hqm : ∀ p ∈ qs, ∃ h, (p, h) ∈ hdsOf ins ds := fun p hp => by
      have := (W6.ph.mem ekq p).mp hp
      cases e : g6.heads p with
      | none => rw [e] at this; cases this
      | some h => exact ⟨h, (hmem p h).mpr e⟩
    have hqne : ∀ p ∈ qs, p ≠ [] := fun p hp => by
      obtain ⟨h, m⟩ := hqm p hp
      exact from_ne (hku.all _ m)
    refine ⟨l, bs.map V.ref, encPa (upd H6 l (.lst (bs.map V.ref))), rfl, .inl (.inl upd_same), pas_dp hbs1, pas_alike hbs1, pas_sortable hbs1 hqne, fun l2 hl2 => ?_⟩
    obtain ⟨bs', qs', es, hb', hperm, hpw⟩ := pas_sorted hbs1
    rw [es]
    have s7 : Same H6 (upd (upd H6 l (.lst (bs.map V.ref))) l2 (.lst (bs'.map V.ref))) := (same_new hl).trans (same_new hl2)
    have e7 : (upd (upd H6 l (.lst (bs.map V.ref))) l2 (.lst (bs'.map V.ref))) l2 = some (.lst (bs'.map V.ref)) := upd_same
    have hb7 : PasIn (upd (upd H6 l (.lst (bs.map V.ref))) l2 (.lst (bs'.map V.ref))) bs' qs' := hb'.mono (.new hl2)
    generalize upd (upd H6 l (.lst (bs.map V.ref))) l2 (.lst (bs'.map V.ref)) = H7 at s7 e7 hb7
    -- each path has its head
    have hz : ∀ p ∈ qs', ∃ h, g6.heads p = some h := fun p hp => by
      have := (W6.ph.mem ekq p).mp (hperm.mem_iff.mp hp)
      cases e : g6.heads p with
      | none => rw [e] at this; cases this
      | some h => exact ⟨h, rfl⟩
    have hfew : bs'.length ≤ 1000 := by
      have e1 : bs'.length = qs'.length := hb7.length
      have n2 : qs.length ≤ (hdsOf ins ds).length := by
        have := sub_len qs ((hdsOf ins ds).map (·.1)) qnd fun p hp => by
          obtain ⟨h, m⟩ := hqm p hp
          exact List.mem_map.mpr ⟨_, m, rfl⟩
        rw [List.length_map] at this
        exact this
      have n3 := heads_few hok.lim 0 [] (bkOf ins)
      have n4 := hperm.length_eq
      have : (hdsOf ins ds).length < 64 := n3
      omega
    refine ⟨l2, rfl, ⟨_, .inl (.inl e7)⟩, fun Dl hD => lc_list (K := K) (a := l2) (xs := bs'.map V.ref) (fun i H' => Same H7 H' ∧ ∃ rs : List Addr, H' Dl = some (.lst (rs.map V.ref)) ∧ Paired (PpRow H') rs ((qs'.take i).map fun p => (p, (g6.heads p).getD (fun _ => none)))) ⟨same_new hD, [], upd_same, .nil⟩ (fun i H' _ p => .inl (.inl (p.1 _ _ e7))) ?_ ?_⟩
    · rintro i x H' hi ⟨s8, rs, g1, g2⟩
      rw [List.getElem?_map] at hi
      cases eb : bs'[i]? with
      | none => rw [eb] at hi; cases hi
      | some b' =>
        rw [eb] at hi
        injection hi with hi
        subst hi
        obtain ⟨p', ep, hp'⟩ := paired_get hb7 eb
        obtain ⟨h', eh'⟩ := hz p' (List.mem_of_getElem? ep)
        obtain ⟨vh, ev, bh, rfl, hbh⟩ := W6.ph.so p' h' eh'
        have s78 := s7.trans s8
        refine ⟨rfl, _, rfl, _, rfl, wk, C, dx6, _, _, rfl, s78 _ _ W6.ob, Wf.cl, Wf.heads, rfl, _, rfl, hd6, .ref bh, rfl, by rw [← ev]; exact DGet.t (k := pK p') (s78 _ _ W6.eh) (by rw [pK_kV]; exact s8 _ _ hp'), ?_⟩
        refine ⟨bh, h', rfl, hbh.same s78, fun sh H9 rows s9 hrows n1 n2 n3 => ⟨two, fun u hu => ?_⟩⟩
        have s10 : Same H9 (upd H9 u (.tup [.ref b', .ref sh])) := same_new hu
        have eu : (upd H9 u (.tup [.ref b', .ref sh])) u = some (.tup [.ref b', .ref sh]) := upd_same
        generalize upd H9 u (.tup [.ref b', .ref sh]) = H10 at s10 eu
        have s11 := s9.trans s10
        have g1' := s11 _ _ g1
        have hrl : rs.length ≤ i := by have := g2.length; rw [this, List.length_map, List.length_take]; omega
        have hi' : i < bs'.length := (List.getElem?_eq_some_iff.mp eb).1
        have td : Tups H10 (upd H10 Dl (.lst (rs.map V.ref ++ [.ref u]))) := .put fun xs e => by rw [g1'] at e; cases e
        refine ⟨_, g1', big_line (by rw [List.length_map]; omega), same_put (s8.trans s11) hD, rs ++ [u], by rw [upd_same, List.map_append]; rfl, ?_⟩
        rw [List.take_add_one, ep, List.map_append]
        refine Paired.snoc (Paired.mono (fun _ _ e => e.mono ((Tups.of_same s11).trans td)) g2) ⟨b', sh, rows, td _ _ eu, td _ _ (s11 _ _ (s8 _ _ hp')), (hrows.mono (.of_same s10)).mono td, n1, n2, ?_⟩
        rw [n3]
        show h' = (g6.heads p').getD (fun _ => none)
        rw [eh']
        rfl
    · rintro H' ⟨s8, rs, g1, g2⟩
      rw [show (bs'.map V.ref).length = qs'.length by rw [List.length_map]; exact hb7.length, List.take_length] at g2
      refine ⟨Dl, _, rfl, .inl ⟨.inl (.inl g1), fun u hu => ?_⟩⟩
      have emap : (qs'.map fun p => (p, (g6.heads p).getD (fun _ => none))).map (·.1) = qs' := by rw [List.map_map]; exact List.map_id' qs'
      refine q (.ref u) _ (qs'.map fun p => (p, (g6.heads p).getD (fun _ => none))) (kH.trans ((Kp.of (s7.trans s8)).trans (.of (same_new hu)))) ⟨u, rs, rfl, upd_same, Paired.mono (fun _ _ e => e.mono (.new hu)) g2⟩ ⟨fun z => ?_, by rw [emap]; exact hperm.nodup_iff.mpr qnd, by rw [emap]; exact hpw⟩
      obtain ⟨zp, zh⟩ := z
      rw [hmem zp zh]
      constructor
      · intro hm
        obtain ⟨p, hp, e⟩ := List.mem_map.mp hm
        obtain ⟨h, eh⟩ := hz p hp
        injection e with e1 e2
        subst e1
        rw [eh] at e2
        rw [eh, ← e2]
        rfl
      · intro e
        have hp : zp ∈ qs' := hperm.mem_iff.mpr ((W6.ph.mem ekq zp).mpr (by rw [e]; rfl))
        exact List.mem_map.mpr ⟨zp, hp, by rw [e]; rfl⟩
where
  keys_pas : ∀ {H : Hp} {kvs : List (List Key × V)} {bs : List Addr} {qs : List Path}, IsKeys H kvs bs → kvs.map (·.1) = qs.map pK → PasIn H bs qs := by
    intro H kvs bs qs h
    induction h generalizing qs with
    | nil =>
      intro e
      cases qs with
      | nil => exact .nil
      | cons q r => cases e
    | cons h t ih =>
      intro e
      cases qs with
      | nil => cases e
      | cons q r =>
        injection e with e1 e2
        refine .cons ?_ (ih e2)
        have e1 := e1
        simp only at e1
        rw [e1, pK_kV] at h
        exact h
  sub_len : ∀ (l m : List Path), l.Nodup → (∀ x ∈ l, x ∈ m) → l.length ≤ m.length := by
    intro l
    induction l with
    | nil => intro m _ _; exact Nat.zero_le _
    | cons x r ih =>
      intro m nd hm
      have nd' := List.nodup_cons.mp nd
      have hx : x ∈ m := hm x (by simp)
      have := ih (m.erase x) nd'.2 fun y hy => (List.mem_erase_of_ne (fun z => nd'.1 (by rw [← z]; exact hy))).mpr (hm y (by simp [hy]))
      rw [List.length_erase_of_mem hx] at this
      have h0 : 0 < m.length := List.length_pos_of_mem hx
      rw [List.length_cons]
      omega
end
end Sr
end
section
set_option Elab.async false
set_option linter.all false
set_option maxRecDepth 100000
set_option maxHeartbeats 4000000
/-! walks: are_heads, walked, shown -/
namespace Sr
open PySem PySem.Spec PyProof.Rows L2 SrM SrK
theorem pLe_eq (p q : Path) : pLe p q = decide (p ≤ q) := by
  have h := congrFun (congrFun (PySem.W.dataLe_rows (fun p : Path => p)) p) q
  rw [PySem.W.dataLe_eq] at h
  rw [← h]
  show (!PySem.W.dataLt (.tuple (q.map .int)) (.tuple (p.map .int))) = (!PySem.W.dataLt (.list (q.map .int)) (.list (p.map .int)))
  rw [PySem.W.dataLt_tuple, PySem.W.dataLt_list]
theorem pLe_anti {p q : Path} (h : pLe p q = true) (h' : pLe q p = true) : p = q := by
  rw [pLe_eq] at h h'
  exact List.le_antisymm (of_decide_eq_true h) (of_decide_eq_true h')
theorem pa_unique {ps qs : List Path} (h : ps.Perm qs) (h1 : ps.Pairwise (fun p q => pLe p q = true)) (h2 : qs.Pairwise (fun p q => pLe p q = true)) : ps = qs :=
  List.Perm.eq_of_pairwise (fun a b _ _ x y => pLe_anti x y) h1 h2 h
theorem lay_pas : ∀ qs : List Path, PyData.canLayAll0 (qs.map encT) = true
  | [] => rfl
  | q :: qs => by
    show (PyData.canLay0 (encT q) && PyData.canLayAll0 (qs.map encT)) = true
    rw [lay_pas qs, show PyData.canLay0 (encT q) = true from lay_ints q]
    rfl
theorem depth_pas : ∀ qs : List Path, PyData.depthAll (qs.map encT) ≤ 60
  | [] => by simp [PyData.depthAll]
  | q :: qs => by
    have h1 := depth_pas qs
    have h2 := depth_encT q
    show PyData.depthAll (encT q :: qs.map encT) ≤ 60
    rw [PyData.depthAll]
    omega
theorem shaped_pas (qs : List Path) : SeqAt.shaped (.list (qs.map encT)) = true := by
  unfold SeqAt.shaped
  have h := depth_pas qs
  rw [show (PyData.list (qs.map encT)).canLay0 = true from lay_pas qs, show (PyData.list (qs.map encT)).depth = PyData.depthAll (qs.map encT) + 1 by rw [PyData.depth], decide_eq_true (show PyData.depthAll (qs.map encT) + 1 ≤ 64 by omega)]
  rfl
theorem dpAll_pas {K : PySem.W.Frag} {H : Hp} : ∀ {bs : List Addr} {qs : List Path}, PasIn H bs qs → DpAll K H (bs.map V.ref) (qs.map encT)
  | _, _, .nil => .nil
  | _, _, .cons h t => .cons (dp_path (sq_of h)) (dpAll_pas t)
section
variable {P : Program} {w : World} {K : PySem.W.Frag} {mg : Str → Option Value} {base : Heap} {C : Addr}
abbrev N_are_heads : List Str := ["thing", "row", "paths", "number"]
theorem sc_are_heads : FnScope N_are_heads ["thing"] (defScope s_are_heads) := ⟨rfl, rfl, rfl, by decide +kernel, rfl, by decide +kernel, by decide +kernel⟩
def spHeads : Sp := fun vs H Q _ => ∃ (x : V) (l : List (Path × Bk Sg)), vs = [x] ∧ PpAt H x l ∧ (l.map (·.1)).Nodup ∧ (l.map (·.1)).Pairwise (fun p q => pLe p q = true) ∧ (∀ z ∈ l, z.1 ≠ []) ∧ wideH l ∧ l.length < 64 ∧ (∀ z ∈ l, z.1.length ≤ 1000) ∧ ∀ H', Same H H' → Q (.bl true) H'
theorem wide_rows {rows : List (Nm × Sg)} (nd : (rows.map (·.1)).Nodup) (h : wideB (bkOf rows)) : ∀ r ∈ rows, Wi r.2 := fun r hr => h r.1 r.2 (bkOf_mem nd hr)
theorem all_true (n : Nat) : (List.replicate n true).all id = true := by
  rw [List.all_eq_true]
  intro b hb
  exact (List.mem_replicate.mp hb).2
theorem ok_are_heads (T : Tx K mg) (h_is_shelf : Has P w K mg base 2 "is_shelf" ["thing"] spShelf) (G : FnG K mg "are_heads" s_are_heads) : Has P w K mg base 3 "are_heads" ["thing"] spHeads := by
  refine has_of (N := N_are_heads) G sc_are_heads (fun _ _ _ _ _ _ us hl => match us, hl with | [_], _ => rfl) (fun vs H Q E h => ?_) (fun f cdv A outer s0 H vs Q E hr h => ?_)
  · obtain ⟨_, _, rfl, _⟩ := h
    rfl
  · obtain ⟨x, l, rfl, ⟨a, rs, rfl, ha, hrs⟩, nd, so, ne, wi, few, hshort, q⟩ := h
    refine ⟨_, (pss_cons (ps_if (pt_not (pt_val (pe_callB call_isi (by rfl) T.isinstance (by decide +kernel) (pa2 (pv 0) (pe_bltn (v := .ty "tuple") (by rfl) T.tuple (by decide +kernel) rfl)))))
      (pss_one (ps_ret pe_bl))
      pss_nil)
      (pss_cons (ps_for PassesOwn.never rfl (pi_tup (pv 0)) (pg_name (i := 1) sc_are_heads.nd rfl (.inl rfl))
      (pss_cons (ps_if (PW.pt (pw_or (pt_not (pt_val (pe_callB call_isi (by rfl) T.isinstance (by decide +kernel) (pa2 (pv 1) (pe_bltn (v := .ty "tuple") (by rfl) T.tuple (by decide +kernel) rfl))))) (pw_or (pt_cmpR op_ne (pe_callB call_len_seq (by rfl) T.len (by decide +kernel) (pa1 (pv 1))) pe_int (nomark _)) (pw_or (pt_not (pt_val (pe_callB call_isi (by rfl) T.isinstance (by decide +kernel) (pa2 (ixc (pv 1)) (pe_bltn (v := .ty "tuple") (by rfl) T.tuple (by decide +kernel) rfl))))) (pw_or1 (pt_not (pt_val (pe_callH h_is_shelf hr (by decide) (pa1 (ixc (pv 1)))))))))))
      (pss_one (ps_ret pe_bl))
      pss_nil)
      (pss_one (ps_if (pt_not (pt_val (pe_callB (cr_all rfl) (by rfl) T.all (by decide +kernel) (pa1 (pe_lc (own := [("number", 3)]) rfl sc_are_heads.nd (pi_tup (ixc (pv 1))) (blkOk_by (N := N_are_heads) (sc := defScope s_are_heads) (by decide +kernel)) (fun _ _ _ _ _ => (pg_name (i := 3) sc_are_heads.nd rfl (.inl rfl))) (fun _ _ _ _ _ => pts_nil) (fun _ _ _ _ _ => (pe_and (pe_callB (call_isK K) (by rfl) T.isinstance (by decide +kernel) (pa2 (pv 3) (pe_bltn (v := .ty "int") (by rfl) T.int (by decide +kernel) rfl))) (pe_one (pe_not (pe_callB (call_isK K) (by rfl) T.isinstance (by decide +kernel) (pa2 (pv 3) (pe_bltn (v := .ty "bool") (by rfl) T.bool (by decide +kernel) rfl))))))))))))
      (pss_one (ps_ret pe_bl))
      pss_nil))))
      (pss_cons (ps_setLc (i := 2) (own := [("row", 1)]) rfl sc_are_heads.nd rfl rfl (sw_true rfl rfl rfl (by decide +kernel)) (pi_tup (pv 0)) (blkOk_by (N := N_are_heads) (sc := defScope s_are_heads) (by decide +kernel)) (fun _ _ _ _ _ => (pg_name (i := 1) sc_are_heads.nd rfl (.inl rfl))) (fun _ _ _ _ _ => pts_nil) (fun _ _ _ _ _ => (ixk K (pv 1))))
      (pss_one (ps_ret (pe_cmpR (op_eqD (hu64 hr)) (pv 2) (pe_callB (cr_sortTV rfl (hu66 hr)) (by rfl) T.sorted (by decide +kernel) (pa1 (pe_callTy (cr_setOfT rfl (hu64 hr)) (by rfl) T.set (by decide +kernel) (pa1 (pv 2))))) (nomark _))))))), ?_⟩
    have hlen : rs.length = l.length := hrs.length
    refine ⟨_, rfl, _, _, _, _, true, rfl, .ty "tuple", .base (.tup ha), kit_ty (by decide +kernel), _, rfl, ifF rfl ?_⟩
    refine ⟨_, rfl, a, rfl, ⟨_, sq_of ha⟩, for_tup (K := K) (a := a) (xs := rs.map V.ref) (fun i σ H' => (∃ y, σ = [some (.ref a), y, none, none]) ∧ Same H H') ⟨⟨none, rfl⟩, Same.refl _⟩ (fun i σ H' _ p => sq_of (p.2 _ _ ha)) ?_ ?_⟩
    · rintro i x σ H' hi ⟨⟨y, rfl⟩, s1⟩
      rw [List.getElem?_map] at hi
      cases er : rs[i]? with
      | none => rw [er] at hi; cases hi
      | some r =>
        rw [er] at hi
        injection hi with hi
        subst hi
        obtain ⟨z, e1, b, sh, rows, h1, h2, h3, h4, h5, h6⟩ := paired_get hrs er
        have hzm := List.mem_of_getElem? e1
        have hwr : ∀ r ∈ rows, Wi r.2 := wide_rows h4 (by rw [h6]; exact wi z hzm)
        have e3 := s1 _ _ h1
        refine ⟨_, rfl, _, _, _, _, true, rfl, .ty "tuple", .base (.tup e3), kit_ty (by decide +kernel), _, rfl, ifF rfl ?_⟩
        refine ⟨_, rfl, r, _, rfl, .inr (sq_of e3), rfl, _, rfl, ifF rfl ?_⟩
        refine ⟨_, rfl, _, _, _, _, rfl, rfl, sq_of e3, at0, _, _, _, _, true, rfl, .ty "tuple", .base (.tup (s1 _ _ h2)), kit_ty (by decide +kernel), _, rfl, ifF rfl ?_⟩
        refine ⟨_, rfl, _, _, _, _, rfl, rfl, sq_of e3, at1, sh, rows, rfl, h3.mono (.of_same s1), h4, h5, hwr, fun H3 s3 => ⟨_, rfl, ifF rfl ?_⟩⟩
        have s13 := s1.trans s3
        have e4 := s3 _ _ e3
        have hb3 := s13 _ _ h2
        refine ⟨_, rfl, _, _, _, _, rfl, rfl, sq_of e4, at0, b, rfl, ⟨_, sq_of hb3⟩, fun Dl hD => lc_tup (K := K) (a := b) (xs := z.1.map V.int) (fun j H4 => Same H3 H4 ∧ H4 Dl = some (.lst ((List.replicate j true).map V.bl))) ⟨same_new hD, upd_same⟩ (fun j H4 _ p => sq_of (p.1 _ _ hb3)) ?_ ?_⟩
        · rintro j x H4 hj ⟨s4, g4⟩
          rw [List.getElem?_map] at hj
          cases en : z.1[j]? with
          | none => rw [en] at hj; cases hj
          | some k =>
            rw [en] at hj
            injection hj with hj
            subst hj
            have hjl : j < z.1.length := (List.getElem?_eq_some_iff.mp en).1
            have hbl := hshort z hzm
            refine ⟨rfl, _, rfl, _, _, _, _, true, rfl, .ty "int", .base (.int k), kit_ty (by decide +kernel), _, rfl, ifT rfl ?_⟩
            refine ⟨_, rfl, _, _, _, _, false, rfl, .ty "bool", .base (.int k), kit_ty (by decide +kernel), _, rfl, _, g4, ?_, same_put s4 hD, ?_⟩
            · rw [List.length_map, List.length_replicate]
              exact big_line (by omega)
            · rw [upd_same, List.replicate_succ', List.map_append]
              rfl
        · rintro H4 ⟨s4, g4⟩
          refine ⟨Dl, _, rfl, .inl (.inl g4), _, rfl, ?_⟩
          rw [all_true]
          exact ifF rfl ⟨⟨_, rfl⟩, s13.trans s4⟩
    · rintro σ H' ⟨⟨y, rfl⟩, s1⟩
      have ha := s1 _ _ ha
      refine ⟨_, rfl, a, rfl, ⟨_, sq_of ha⟩, fun Dl hD => lc_tup (K := K) (a := a) (xs := rs.map V.ref) (fun i H2 => Same H' H2 ∧ ∃ bs : List Addr, H2 Dl = some (.lst (bs.map V.ref)) ∧ PasIn H2 bs ((l.map (·.1)).take i)) ⟨same_new hD, [], upd_same, .nil⟩ (fun i H2 _ p => sq_of (p.1 _ _ ha)) ?_ ?_⟩
      · rintro i x H2 hi ⟨s2, bs, g1, g2⟩
        rw [List.getElem?_map] at hi
        cases er : rs[i]? with
        | none => rw [er] at hi; cases hi
        | some r =>
          rw [er] at hi
          injection hi with hi
          subst hi
          obtain ⟨z, e1, b, sh, rows, h1, h2, h3, h4, h5, h6⟩ := paired_get hrs er
          have s12 := s1.trans s2
          have hbl : bs.length ≤ i := by have := g2.length; rw [this, List.length_take]; omega
          have hi' : i < l.length := (List.getElem?_eq_some_iff.mp e1).1
          have td : Tups H2 (upd H2 Dl (.lst (bs.map V.ref ++ [.ref b]))) := .put fun xs e => by rw [g1] at e; cases e
          refine ⟨rfl, _, rfl, _, _, _, _, rfl, rfl, sq_of (s12 _ _ h1), at0, _, g1, small_line (by rw [List.length_map]; omega), same_put s2 hD, bs ++ [b], by rw [upd_same, List.map_append]; rfl, ?_⟩
          rw [List.take_add_one, List.getElem?_map, e1]
          exact Paired.snoc (PasIn.mono g2 td) (td _ _ (s12 _ _ h2))
      · rintro H2 ⟨s2, bs, g1, g2⟩
        rw [show (rs.map V.ref).length = (l.map (·.1)).length by rw [List.length_map, List.length_map, hlen], List.take_length] at g2
        obtain ⟨z1, z2, z3⟩ := paired_zip g2
        have ebs : (bs.zip (l.map (·.1))).map (fun p => V.ref p.1) = bs.map V.ref := by
          conv => rhs; rw [← z1]
          rw [List.map_map]
          rfl
        have hbl : bs.length = l.length := by have := g2.length; rw [List.length_map] at this; exact this
        refine ⟨_, rfl, _, rfl, Dl, bs.zip (l.map (·.1)), rfl, .inl (.inl (by rw [ebs]; exact g1)), fun p hp => sq_of (z3 p hp), by rw [List.length_zip, List.length_map]; omega, fun S L hS hL1 hL2 => ?_⟩
        have sS : Same H2 (upd H2 S (SetTO P w S L)) := same_new hS
        refine ⟨S, L, rfl, upd_same, fun p hp => sq_of (sS _ _ (z3 p (hL1 p hp))), fun p hp => ?_, fun L' p2 pm nd' _ pw hp2 => ?_⟩
        · have hm := hL1 p hp
          have : p.2 ∈ l.map (·.1) := by rw [← z2]; exact List.mem_map.mpr ⟨p, hm, rfl⟩
          obtain ⟨z, hz, e⟩ := List.mem_map.mp this
          rw [← e]
          exact ne z hz
        · have sp := sS.trans (same_new (o := HO.lst (L'.map fun q => V.ref q.1)) hp2)
          have e2 : (upd (upd H2 S (SetTO P w S L)) p2 (.lst (L'.map fun q => V.ref q.1))) p2 = some (.lst (L'.map fun q => V.ref q.1)) := upd_same
          have hmem : ∀ q, q ∈ L'.map (·.2) ↔ q ∈ l.map (·.1) := fun q => by
            constructor
            · intro hq
              obtain ⟨y, hy, rfl⟩ := List.mem_map.mp hq
              rw [← z2]
              exact List.mem_map.mpr ⟨y, hL1 y (pm.mem_iff.mp hy), rfl⟩
            · intro hq
              rw [← z2] at hq
              obtain ⟨y, hy, rfl⟩ := List.mem_map.mp hq
              obtain ⟨y', hy', e⟩ := List.mem_map.mp (hL2 y hy)
              exact List.mem_map.mpr ⟨y', pm.mem_iff.mpr hy', e⟩
          have eqs : L'.map (·.2) = l.map (·.1) := pa_unique ((List.perm_ext_iff_of_nodup nd' nd).mpr hmem) (List.pairwise_map.mpr pw) so
          have hP : PasIn (upd (upd H2 S (SetTO P w S L)) p2 (.lst (L'.map fun q => V.ref q.1))) (L'.map (·.1)) (L'.map (·.2)) := paired_of_list (F := fun (b : Addr) (q : Path) => (upd (upd H2 S (SetTO P w S L)) p2 (.lst (L'.map fun q => V.ref q.1))) b = some (.tup (q.map V.int))) L' fun y hy => sp _ _ (z3 y (hL1 y (pm.mem_iff.mp hy)))
          have e3 : (upd (upd H2 S (SetTO P w S L)) p2 (.lst (L'.map fun q => V.ref q.1))) p2 = some (.lst ((L'.map (·.1)).map V.ref)) := by rw [e2, List.map_map]; rfl
          refine ⟨_, _, .lst (.inl (.inl (sp _ _ g1))) (dpAll_pas (g2.mono (.of_same sp))), .lst (.inl (.inl e3)) (dpAll_pas hP), shaped_pas _, shaped_pas _, ?_⟩
          rw [eqs, show PyData.eqv (.list ((l.map (·.1)).map encT)) (.list ((l.map (·.1)).map encT)) = true from SeqAt.eqv_refl _ (lay_pas _)]
          exact q _ ((s1.trans s2).trans sp)
end
end Sr
end
section
set_option Elab.async false
set_option linter.all false
set_option maxRecDepth 100000
set_option maxHeartbeats 4000000
/-! walks: walked, shown -/
namespace Sr
open PySem PySem.Spec PyProof.Rows L2 SrM SrK
/-- the notes of a program's walk -/
abbrev ntsOf (ins : List (Nm × Sg)) (ds : List Dd) : List (Path × Sg) := (aB ds 0 [] (bkOf ins)).notes
theorem plook_mem {β : Type} {l : List (Path × β)} (nd : (l.map (·.1)).Nodup) {x : Path} {s : β} (h : (x, s) ∈ l) : l.lookup x = some s := by
  induction l with
  | nil => cases h
  | cons p r ih =>
    obtain ⟨y, t⟩ := p
    have nd' := List.nodup_cons.mp nd
    rcases List.mem_cons.mp h with e | e
    · injection e with e1 e2
      subst e1 e2
      simp [List.lookup]
    · have hne : x ≠ y := fun z => nd'.1 (by rw [← z]; exact List.mem_map.mpr ⟨(x, s), e, rfl⟩)
      rw [List.lookup_cons, show (x == y) = false from beq_false_of_ne hne]
      exact ih nd'.2 e
theorem plook_of {β : Type} {l : List (Path × β)} {x : Path} {s : β} (h : l.lookup x = some s) : (x, s) ∈ l := by
  induction l with
  | nil => cases h
  | cons p r ih =>
    obtain ⟨y, t⟩ := p
    by_cases e : x = y
    · subst e
      rw [List.lookup_cons, beq_self_eq_true] at h
      injection h with h
      subst h
      exact List.mem_cons_self
    · rw [List.lookup_cons, show (x == y) = false from beq_false_of_ne e] at h
      exact List.mem_cons_of_mem _ (ih h)
theorem nF_iff {l : List (Path × Sg)} (nd : (l.map (·.1)).Nodup) {q : Path} {s : Sg} : nF l q = some s ↔ (q, s) ∈ l := by
  unfold nF
  constructor
  · intro h
    exact List.mem_reverse.mp (plook_of h)
  · intro h
    refine plook_mem ?_ (List.mem_reverse.mpr h)
    rw [List.map_reverse]
    exact List.pairwise_reverse.mpr (nd.imp fun h => Ne.symm h)
section
variable {P : Program} {w : World} {K : PySem.W.Frag} {mg : Str → Option Value} {base : Heap} {C : Addr}
abbrev N_walked : List Str := ["program", "paper", "walk", "path", "shelf"]
theorem sc_walked : FnScope N_walked ["program", "paper"] (defScope s_walked) := ⟨rfl, rfl, rfl, by decide +kernel, rfl, by decide +kernel, by decide +kernel⟩
def spWalked (K : PySem.W.Frag) (C : Addr) : Sp := fun vs H Q _ => ∃ (x v : V) (ins : List (Nm × Sg)) (ds : List Dd) (l : List (Path × Bk Sg)), vs = [x, v] ∧ PgAt H x ins ds ∧ PgOk ins ds ∧ PpAt H v l ∧ PpOk ins ds l ∧ ∀ wk H' g, Kp H H' → WkAt K H' C wk g → g.notes = ntsOf ins ds → Q (.ref wk) H'
theorem ok_walked (T : Tx K mg) (Wc : WalkC K C) (h_Walk : MkC P w K mg base 1 "Walk" C ["self", "heads"] (spWInit K C)) (h_ins_book : Has P w K mg base 1 "ins_book" ["program"] (spInsBook K)) (h_book_of : Has P w K mg base 1 "book_of" ["shelf"] (spBookOf K)) (h_are_heads : Has P w K mg base 3 "are_heads" ["thing"] spHeads)
    (m_block : HasM P w K mg base 27 C "block" ["self", "deeds", "book", "path"] (spWB K C false 3)) (G : FnG K mg "walked" s_walked) : Has P w K mg base 28 "walked" ["program", "paper"] (spWalked K C) := by
  refine has_of (N := N_walked) G sc_walked (fun _ _ _ _ _ _ us hl => match us, hl with | [_, _], _ => rfl) (fun vs H Q E h => ?_) (fun f cdv A outer s0 H vs Q E hr h => ?_)
  · obtain ⟨_, _, _, _, _, rfl, _⟩ := h
    rfl
  · obtain ⟨x, v, ins, ds, l, rfl, hP, hok, hpp, hpo, q⟩ := h
    refine ⟨_, (pss_cons (ps_if (pt_not (pt_val (pe_callH h_are_heads hr (by decide) (pa1 (pv 1)))))
      (pss_one ps_never)
      pss_nil)
      (pss_cons (ps_set (i := 2) sc_walked.nd rfl (.inl rfl) (pe_makeH h_Walk hr (by decide) (pa1 (pe_callTy (call_dictPT rfl (hu66 hr)) (by rfl) T.dict (by decide +kernel) (pa1 (pe_lc (own := [("path", 3), ("shelf", 4)]) rfl sc_walked.nd (pi_tup (pv 1)) (blkOk_by (N := N_walked) (sc := defScope s_walked) (by decide +kernel)) (fun _ _ _ _ _ => (tupK K (n := 2) (by rfl) (pgs_cons (pg_name (i := 3) sc_walked.nd rfl (.inl rfl)) (pgs_cons (pg_name (i := 4) sc_walked.nd rfl (.inl rfl)) pgs_nil)))) (fun _ _ _ _ _ => pts_nil) (fun _ _ _ _ _ => (pt2 (pv 3) (pe_callH h_book_of hr (by decide) (pa1 (pv 4)))))))))))
      (pss_cons (ps_expr (pe_methH m_block Wc.cl hr (by decide) (pv 2) (pa3 (ixc (pv 0)) (pe_callH h_ins_book hr (by decide) (pa1 (pv 0))) (pe_tup pa_nil))))
      (pss_cons (ps_if (pt_cmpR op_ne (pe_callB call_len_dT (by rfl) T.len (by decide +kernel) (pa1 (pe_fld (pv 2) rfl))) (pe_callB call_len_seq (by rfl) T.len (by decide +kernel) (pa1 (pv 1))) (nomark _))
      (pss_one ps_never)
      pss_nil)
      (pss_one (ps_ret (pv 2))))))), ?_⟩
    have hwh : wideH l := fun z hz => aB_wideH ds 0 [] (bkOf ins) (wide_ins hok) z ((hpo.mem z).mp hz)
    have hfew := hpo.few hok
    refine ⟨_, rfl, v, l, rfl, hpp, hpo.nd, hpo.so, hpo.ne, hwh, hfew, fun z hz => heads_short hok.lim (bkOf ins) z ((hpo.mem z).mp hz), fun H1 s1 => ⟨_, rfl, ifF rfl ?_⟩⟩
    obtain ⟨pa, rs, rfl, hpa, hrs⟩ := hpp.mono (.of_same s1)
    have hlen : rs.length = l.length := hrs.length
    refine ⟨_, rfl, pa, rfl, ⟨_, sq_of hpa⟩, fun Dl hD => lc_tup (K := K) (a := pa) (xs := rs.map V.ref) (fun i H2 => Same H1 H2 ∧ ∃ (L : List (Path × V)) (ps : List Addr), H2 Dl = some (.lst (ps.map V.ref)) ∧ PpsAt H2 ps L ∧ ps.length ≤ i ∧ Paired (fun (u : Path × V) (z : Path × Bk Sg) => u.1 = z.1 ∧ ∃ b, u.2 = .ref b ∧ BkAt K H2 b z.2) L (l.take i)) ⟨same_new hD, [], [], upd_same, .nil, Nat.le_refl _, .nil⟩ (fun i H2 _ p => sq_of (p.1 _ _ hpa)) ?_ ?_⟩
    · rintro i x' H2 hi ⟨s2, L, ps, g1, g2, g3, g4⟩
      rw [List.getElem?_map] at hi
      cases er : rs[i]? with
      | none => rw [er] at hi; cases hi
      | some r =>
        rw [er] at hi
        injection hi with hi
        subst hi
        obtain ⟨z, e1, b, sh, rows, h1, h2, h3, h4, h5, h6⟩ := paired_get hrs er
        have hi' : i < l.length := (List.getElem?_eq_some_iff.mp e1).1
        refine ⟨r, _, rfl, sq_of (s2 _ _ h1), rfl, _, _, rfl, _, _, rfl, rfl, rfl, ?_⟩
        refine ⟨_, rfl, _, rfl, sh, rows, rfl, h3.mono (.of_same s2), h4, fun bd H3 s3 _ hbk => ⟨two, fun u hu => ?_⟩⟩
        rw [h6] at hbk
        have s4 : Same H3 (upd H3 u (.tup [.ref b, .ref bd])) := same_new hu
        have eu : (upd H3 u (.tup [.ref b, .ref bd])) u = some (.tup [.ref b, .ref bd]) := upd_same
        have hbk := hbk.same s4
        generalize upd H3 u (.tup [.ref b, .ref bd]) = H4 at s4 eu hbk
        have s34 := s3.trans s4
        have g1' := s34 _ _ g1
        have td : Tups H4 (upd H4 Dl (.lst (ps.map V.ref ++ [.ref u]))) := .put fun xs e => by rw [g1'] at e; cases e
        have kd : ∀ b kvs, H4 b = some (.dK kvs) → (upd H4 Dl (.lst (ps.map V.ref ++ [.ref u]))) b = some (.dK kvs) := fun b kvs e => by
          rw [upd_ne (ne_of e g1' (by intro z; cases z))]
          exact e
        refine ⟨_, g1', small_line (by rw [List.length_map]; omega), same_put (s2.trans s34) hD, L ++ [(z.1, .ref bd)], ps ++ [u], by rw [upd_same, List.map_append]; rfl, ?_, by rw [List.length_append, List.length_singleton]; omega, ?_⟩
        · exact Paired.snoc (PpsAt.mono g2 ((Tups.of_same s34).trans td)) ⟨b, td _ _ (s34 _ _ (s2 _ _ h2)), td _ _ eu⟩
        · rw [List.take_add_one, e1]
          exact Paired.snoc (Paired.mono (fun _ _ ⟨e, b, eb, hb⟩ => ⟨e, b, eb, (hb.same s34).mono td (kd b)⟩) g4) ⟨rfl, bd, rfl, hbk.mono td (kd bd)⟩
    · rintro H2 ⟨s2, L, ps, g1, g2, g3, g4⟩
      rw [show (rs.map V.ref).length = l.length by rw [List.length_map, hlen], List.take_length] at g4
      refine ⟨Dl, ps, _, rfl, .inl (.inl g1), PpsAt.sq g2, fun hd hhd => ?_⟩
      have eL : L.map (·.1) = l.map (·.1) := paired_fst g4
      have hph : PAt (fun v bk => ∃ b, v = .ref b ∧ BkAt K (upd H2 hd (.dT (mergeT [] (L.map fun p => (pK p.1, p.2))))) b bk) (mergeT [] (L.map fun p => (pK p.1, p.2))) (fun q => l.lookup q) := by
        refine pAt_list (fun u hu => ?_) fun q hq => ?_
        · obtain ⟨z, hz, e, b, eb, hb⟩ := paired_mem g4 u hu
          exact ⟨z.2, by rw [e]; exact plook_mem hpo.nd hz, b, eb, hb.same (same_new hhd)⟩
        · rw [eL]
          cases e : l.lookup q with
          | none => rw [e] at hq; cases hq
          | some s => exact List.mem_map.mpr ⟨(q, s), plook_of e, rfl⟩
      have hml : (mergeT [] (L.map fun p => (pK p.1, p.2))).length ≤ 64 := by
        have h1 := length_mergeT (L.map fun p => (pK p.1, p.2)) []
        have h2 := congrArg List.length eL
        rw [List.length_map, List.length_map] at h2
        rw [List.length_map, List.length_nil] at h1
        omega
      have s3 : Same H2 (upd H2 hd (.dT (mergeT [] (L.map fun p => (pK p.1, p.2))))) := same_new hhd
      have ehd : (upd H2 hd (.dT (mergeT [] (L.map fun p => (pK p.1, p.2))))) hd = some (.dT (mergeT [] (L.map fun p => (pK p.1, p.2)))) := upd_same
      generalize upd H2 hd (.dT (mergeT [] (L.map fun p => (pK p.1, p.2)))) = H3 at s3 ehd hph
      have sH3 := (s1.trans s2).trans s3
      intro wk dx hx hdx ne
      have s4 : Same H3 (upd (upd H3 dx (.own wk)) wk (.ins C dx [])) := (same_new hdx).trans (same_new (by rw [upd_ne ne.symm]; exact hx))
      refine ⟨wk, dx, hd, _, _, rfl, upd_same, s4 _ _ ehd, hph.mono fun v bk ⟨b, e, hb⟩ => ⟨b, e, hb.same s4⟩, fun H5 k5 hW5 => ⟨rfl, ?_⟩⟩
      have nw : H wk = none := sH3.free hx
      have s5 : Same H H5 := fun b o e => k5 b o (s4 _ _ (sH3 _ _ e)) (ne_of_none e nw)
      have hP5 := hP.mono (.of_same s5)
      obtain ⟨ap, i, b, vb, rfl, hp1, hp2, hp3, hp4⟩ := id hP5
      obtain ⟨dx3, hd3, nt3, us3, hkv3, nkv3, ukv3, W3⟩ := id hW5
      refine ⟨_, rfl, wk, dx3, _, rfl, W3.ob, wF_block, _, rfl, _, _, _, _, rfl, rfl, sq_of hp1, at1, _, rfl, _, ins, ds, rfl, hP5, hok.nd, fun bd H6 s6 nb hbk => ?_⟩
      refine ⟨Nat.zero_le _, fun t ht => ?_⟩
      have s7 := s6.trans (same_new (o := HO.tup []) ht)
      have hwl := wB_le hok.lim
      have hw2 := mW2
      refine ⟨wk, _, _, ds, bd, bkOf ins, _, [], _, rfl, hW5.same s7, ⟨b, vb, rfl, s7 _ _ hp3, hp4.mono (.of_same s7)⟩, hok.lim, hbk.same (same_new ht), wide_ins hok, hok.wf, dom_ins hok.nd, isPa_nil upd_same, by decide, by unfold GS.sz; simp only [List.length_nil]; omega, fun _ z hz => plook_mem hpo.nd ((hpo.mem z).mpr hz), fun v8 H8 g8 k8 hW8 h8 p8 => ?_⟩
      have kH : Kp H H8 := (Kp.of s5).trans ((Kp.of s7).trans k8)
      obtain ⟨p81, p82, p83⟩ := p8.2.1 rfl
      obtain ⟨dx8, hd8, nt8, us8, hkv8, nkv8, ukv8, W8⟩ := id hW8
      obtain ⟨pa', rs', epa, hpaH, _⟩ := hpp
      injection epa with epa
      subst epa
      have erl : (rs'.map V.ref) = rs.map V.ref := by
        have := s1 _ _ hpaH
        rw [hpa] at this
        injection this with this
        injection this with this
        exact this.symm
      have hul : ukv8.length = l.length := by
        obtain ⟨qs, eq, qnd⟩ := W8.pu.ks
        have e1 : ukv8.length = qs.length := by have := congrArg List.length eq; rw [List.length_map, List.length_map] at this; exact this
        have e2 : qs.Perm (l.map (·.1)) := (List.perm_ext_iff_of_nodup qnd hpo.nd).mpr fun y => by
          rw [W8.pu.mem eq y]
          unfold uF
          rw [p83]
          constructor
          · intro hy
            by_cases c : y ∈ [] ++ (aB ds 0 [] (bkOf ins)).heads.map (·.1)
            · obtain ⟨z, hz, e⟩ := List.mem_map.mp (by simpa using c : y ∈ (aB ds 0 [] (bkOf ins)).heads.map (·.1))
              exact List.mem_map.mpr ⟨z, (hpo.mem z).mpr hz, e⟩
            · rw [if_neg c] at hy
              cases hy
          · intro hy
            obtain ⟨z, hz, e⟩ := List.mem_map.mp hy
            rw [if_pos (by rw [List.nil_append]; exact List.mem_map.mpr ⟨z, (hpo.mem z).mp hz, e⟩)]
            rfl
        rw [e1, e2.length_eq, List.length_map]
      refine ⟨_, rfl, wk, C, dx8, _, _, rfl, W8.ob, Wc.cl, Wc.used, rfl, us8, ukv8, rfl, W8.eu, _, rfl, pa, _, rfl, .inr (sq_of (kH.tups _ _ hpaH)), rfl, _, rfl, ?_⟩
      rw [erl, List.length_map, hlen, hul]
      refine ifF (by rw [dec_ii]; simp) ⟨_, rfl, q wk H8 g8 kH hW8 ?_⟩
      rw [p81]
      rfl
where
  paired_fst : ∀ {H : Hp} {L : List (Path × V)} {l : List (Path × Bk Sg)}, Paired (fun (u : Path × V) (z : Path × Bk Sg) => u.1 = z.1 ∧ ∃ b, u.2 = .ref b ∧ BkAt K H b z.2) L l → L.map (·.1) = l.map (·.1) := by
    intro H L l h
    induction h with
    | nil => rfl
    | cons h t ih => rw [List.map_cons, List.map_cons, h.1, ih]
end
section
variable {P : Program} {w : World} {K : PySem.W.Frag} {mg : Str → Option Value} {base : Heap} {C : Addr}
abbrev N_shown : List Str := ["program", "paper", "notes", "path"]
theorem sc_shown : FnScope N_shown ["program", "paper"] (defScope s_shown) := ⟨rfl, rfl, rfl, by decide +kernel, rfl, by decide +kernel, by decide +kernel⟩
/-- a row that is shown -/
def ShRow (H : Hp) (r : Addr) (z : Path × Sg) : Prop := ∃ b, H r = some (.tup [.ref b, .int z.2.1, .int z.2.2]) ∧ H b = some (.tup (z.1.map V.int))
theorem ShRow.mono {H H' : Hp} {r : Addr} {z : Path × Sg} (h : ShRow H r z) (t : Tups H H') : ShRow H' r z := by
  obtain ⟨b, h1, h2⟩ := h
  exact ⟨b, t _ _ h1, t _ _ h2⟩
def spShown : Sp := fun vs H Q _ => ∃ (x v : V) (ins : List (Nm × Sg)) (ds : List Dd) (l : List (Path × Bk Sg)), vs = [x, v] ∧ PgAt H x ins ds ∧ PgOk ins ds ∧ PpAt H v l ∧ PpOk ins ds l ∧
  ∀ D H' rs zs, Kp H H' → H' D = some (.lst (rs.map V.ref)) → Paired (ShRow H') rs zs → (zs.map (·.1)).Nodup → (∀ z, z ∈ zs ↔ z ∈ ntsOf ins ds) → Q (.ref D) H'
theorem ok_shown (T : Tx K mg) (Wc : WalkC K C) (h_walked : Has P w K mg base 28 "walked" ["program", "paper"] (spWalked K C)) (G : FnG K mg "shown" s_shown) : Has P w K mg base 29 "shown" ["program", "paper"] spShown := by
  refine has_of (N := N_shown) G sc_shown (fun _ _ _ _ _ _ us hl => match us, hl with | [_, _], _ => rfl) (fun vs H Q E h => ?_) (fun f cdv A outer s0 H vs Q E hr h => ?_)
  · obtain ⟨_, _, _, _, _, rfl, _⟩ := h
    rfl
  · obtain ⟨x, v, ins, ds, l, rfl, hP, hok, hpp, hpo, q⟩ := h
    refine ⟨_, (pss_cons (ps_set (i := 2) sc_shown.nd rfl (.inr rfl) (pe_fld (pe_callH h_walked hr (by decide) (pa2 (pv 0) (pv 1))) rfl))
      (pss_one (ps_ret (pe_lc (own := [("path", 3)]) rfl sc_shown.nd (pi_list (pe_callB (cr_sortedA (hu66 hr)) (by rfl) T.sorted (by decide +kernel) (pa1 (pe_callTy (call_list_dT rfl) (by rfl) T.list (by decide +kernel) (pa1 (pv 2)))))) (blkOk_by (N := N_shown) (sc := defScope s_shown) (by decide +kernel)) (fun _ _ _ _ _ => (pg_name (i := 3) sc_shown.nd rfl (.inl rfl))) (fun _ _ _ _ _ => pts_nil) (fun _ _ _ _ _ => (pe_op (op_catK K) (pe_tup (pa1 (pv 3))) (pe_dget (hu1 hr) (pv 2) (pv 3) (fun _ _ => rfl)))))))), ?_⟩
    have hku := (aB_ku ds 0 [] (bkOf ins)).notes
    refine ⟨_, rfl, _, rfl, x, v, ins, ds, l, rfl, hP, hok, hpp, hpo, fun wk H1 g k1 hW1 hn => ?_⟩
    obtain ⟨dx, hd, nt, us, hkv, nkv, ukv, W⟩ := id hW1
    have pn := W.pn
    rw [hn] at pn
    refine ⟨wk, C, dx, _, _, rfl, W.ob, Wc.cl, Wc.notes, rfl, ?_⟩
    obtain ⟨qs, ekq, qnd⟩ := pn.ks
    refine ⟨_, rfl, nt, nkv, rfl, .inl W.en, fun l1 bs hl hbs => ?_⟩
    have hbs0 : PasIn H1 bs qs := ok_paper_for.keys_pas hbs ekq
    have hbs1 : PasIn (upd H1 l1 (.lst (bs.map V.ref))) bs qs := hbs0.mono (.new hl)
    have hqm : ∀ p, p ∈ qs ↔ ∃ s, (p, s) ∈ ntsOf ins ds := fun p => by
      rw [pn.mem ekq p]
      constructor
      · intro h
        cases e : nF (ntsOf ins ds) p with
        | none => rw [e] at h; cases h
        | some s => exact ⟨s, (nF_iff hku.nd).mp e⟩
      · rintro ⟨s, hs⟩
        rw [(nF_iff hku.nd).mpr hs]
        rfl
    have hqne : ∀ p ∈ qs, p ≠ [] := fun p hp => by
      obtain ⟨s, m⟩ := (hqm p).mp hp
      exact from_ne (hku.all _ m)
    refine ⟨l1, bs.map V.ref, encPa (upd H1 l1 (.lst (bs.map V.ref))), rfl, .inl (.inl upd_same), pas_dp hbs1, pas_alike hbs1, pas_sortable hbs1 hqne, fun l2 hl2 => ?_⟩
    obtain ⟨bs', qs', es, hb', hperm, hpw⟩ := pas_sorted hbs1
    rw [es]
    have s7 : Same H1 (upd (upd H1 l1 (.lst (bs.map V.ref))) l2 (.lst (bs'.map V.ref))) := (same_new hl).trans (same_new hl2)
    have e7 : (upd (upd H1 l1 (.lst (bs.map V.ref))) l2 (.lst (bs'.map V.ref))) l2 = some (.lst (bs'.map V.ref)) := upd_same
    have hb7 : PasIn (upd (upd H1 l1 (.lst (bs.map V.ref))) l2 (.lst (bs'.map V.ref))) bs' qs' := hb'.mono (.new hl2)
    generalize upd (upd H1 l1 (.lst (bs.map V.ref))) l2 (.lst (bs'.map V.ref)) = H7 at s7 e7 hb7
    have hfew : bs'.length ≤ 8000000 := by
      have e1 : bs'.length = qs'.length := hb7.length
      have n4 := hperm.length_eq
      have n5 : nkv.length = qs.length := by have := congrArg List.length ekq; rw [List.length_map, List.length_map] at this; exact this
      have n6 := W.ln
      rw [hn] at n6
      have n7 : (ntsOf ins ds).length ≤ 1000000 := notes_few hok.lim 0 [] (bkOf ins)
      omega
    refine ⟨l2, rfl, ⟨_, .inl (.inl e7)⟩, fun Dl hD => lc_list (K := K) (a := l2) (xs := bs'.map V.ref) (fun i H' => Same H7 H' ∧ ∃ rs : List Addr, H' Dl = some (.lst (rs.map V.ref)) ∧ Paired (ShRow H') rs ((qs'.take i).map fun p => (p, (nF (ntsOf ins ds) p).getD (0, 0)))) ⟨same_new hD, [], upd_same, .nil⟩ (fun i H' _ p => .inl (.inl (p.1 _ _ e7))) ?_ ?_⟩
    · rintro i x' H' hi ⟨s8, rs, g1, g2⟩
      rw [List.getElem?_map] at hi
      cases eb : bs'[i]? with
      | none => rw [eb] at hi; cases hi
      | some b' =>
        rw [eb] at hi
        injection hi with hi
        subst hi
        obtain ⟨p', ep, hp'⟩ := paired_get hb7 eb
        obtain ⟨s', hs'⟩ := (hqm p').mp (hperm.mem_iff.mp (List.mem_of_getElem? ep))
        have es' := (nF_iff hku.nd).mpr hs'
        obtain ⟨vn, ev, hvn⟩ := pn.so p' s' es'
        have s78 := s7.trans s8
        obtain ⟨at_, rfl, hat⟩ := hvn.mono (.of_same s78)
        refine ⟨rfl, _, rfl, one_line, fun t ht => ⟨_, rfl, _, rfl, nt, .ref at_, rfl, by rw [← ev]; exact DGet.t (k := pK p') (same_new ht _ _ (s78 _ _ W.en)) (by rw [pK_kV]; exact same_new ht _ _ (s8 _ _ hp')), ?_⟩⟩
        refine ⟨t, at_, _, _, rfl, rfl, sq_of upd_same, (hat.mono (.new ht)).sq, by show 3 ≤ sizeLine; decide, fun z => (nomatch z), fun _ z => (nomatch z), fun _ _ r hr => ?_⟩
        have sr : Same H' (upd (upd H' t (.tup [V.ref b'])) r (.tup ([V.ref b'] ++ [.int s'.1, .int s'.2]))) := (same_new ht).trans (same_new hr)
        have gr : (upd (upd H' t (.tup [V.ref b'])) r (.tup ([V.ref b'] ++ [.int s'.1, .int s'.2]))) r = some (.tup [V.ref b', .int s'.1, .int s'.2]) := upd_same
        generalize upd (upd H' t (.tup [V.ref b'])) r (.tup ([V.ref b'] ++ [.int s'.1, .int s'.2])) = H9 at sr gr
        have g1' := sr _ _ g1
        have hrl : rs.length ≤ i := by have := g2.length; rw [this, List.length_map, List.length_take]; omega
        have hi' : i < bs'.length := (List.getElem?_eq_some_iff.mp eb).1
        have td : Tups H9 (upd H9 Dl (.lst (rs.map V.ref ++ [.ref r]))) := .put fun xs e => by rw [g1'] at e; cases e
        refine ⟨_, g1', big_line (by rw [List.length_map]; omega), same_put (s8.trans sr) hD, rs ++ [r], by rw [upd_same, List.map_append]; rfl, ?_⟩
        rw [List.take_add_one, ep, List.map_append]
        refine Paired.snoc (Paired.mono (fun _ _ e => e.mono ((Tups.of_same sr).trans td)) g2) ⟨b', ?_, td _ _ (sr _ _ (s8 _ _ hp'))⟩
        show (upd H9 Dl (.lst (rs.map V.ref ++ [.ref r]))) r = some (.tup [.ref b', .int ((nF (ntsOf ins ds) p').getD (0, 0)).1, .int ((nF (ntsOf ins ds) p').getD (0, 0)).2])
        rw [es']
        exact td _ _ gr
    · rintro H' ⟨s8, rs, g1, g2⟩
      rw [show (bs'.map V.ref).length = qs'.length by rw [List.length_map]; exact hb7.length, List.take_length] at g2
      have emap : (qs'.map fun p => (p, (nF (ntsOf ins ds) p).getD (0, 0))).map (·.1) = qs' := by rw [List.map_map]; exact List.map_id' qs'
      refine q Dl H' rs _ (k1.trans (.of (s7.trans s8))) g1 g2 (by rw [emap]; exact hperm.nodup_iff.mpr qnd) fun z => ?_
      obtain ⟨zp, zs⟩ := z
      constructor
      · intro hm
        obtain ⟨p, hp, e⟩ := List.mem_map.mp hm
        obtain ⟨s, hs⟩ := (hqm p).mp (hperm.mem_iff.mp hp)
        injection e with e1 e2
        subst e1
        rw [(nF_iff hku.nd).mpr hs] at e2
        rw [← e2]
        exact hs
      · intro hm
        refine List.mem_map.mpr ⟨zp, hperm.mem_iff.mpr ((hqm zp).mpr ⟨zs, hm⟩), ?_⟩
        rw [(nF_iff hku.nd).mpr hm]
        rfl
end
end Sr
end
section
set_option Elab.async false
set_option linter.all false
set_option maxRecDepth 100000
set_option maxHeartbeats 4000000
/-! walks: sums_of, spots_in, spots, used_at -/
namespace Sr
open PySem PySem.Spec PyProof.Rows L2 SrM SrK
/-- spots that stand: a path and a sum each -/
def SpIn (H : Hp) : List Addr → List (Path × Ex) → Prop := Paired fun r z => ∃ b v, H r = some (.tup [.ref b, v]) ∧ H b = some (.tup (z.1.map V.int)) ∧ IsEx H v z.2 ∧ dpE z.2 ≤ 3
theorem SpIn.mono {H H' : Hp} {ps : List Addr} {L : List (Path × Ex)} (h : SpIn H ps L) (t : Tups H H') : SpIn H' ps L := Paired.mono (fun _ _ ⟨b, v, h1, h2, h3, h4⟩ => ⟨b, v, t _ _ h1, t _ _ h2, h3.mono t, h4⟩) h
theorem paired_app {α β : Type} {F : α → β → Prop} : ∀ {l : List α} {m : List β} {l' : List α} {m' : List β}, Paired F l m → Paired F l' m' → Paired F (l ++ l') (m ++ m')
  | _, _, _, _, .nil, h => h
  | _, _, _, _, .cons h t, h' => .cons h (paired_app t h')
theorem kB_drop {ds : List Dd} {i : Nat} {d : Dd} (h : ds[i]? = some d) : kB (ds.drop i) = kD d + kB (ds.drop (i + 1)) := by
  rw [drop_get h, kB]
section
variable {P : Program} {w : World} {K : PySem.W.Frag} {mg : Str → Option Value} {base : Heap} {C : Addr}
abbrev N_sums_of : List Str := ["expr", "path", "made"]
theorem sc_sums_of : FnScope N_sums_of ["expr", "path"] (defScope s_sums_of) := ⟨rfl, rfl, rfl, by decide +kernel, rfl, by decide +kernel, by decide +kernel⟩
def spSums (n : Nat) : Sp := fun vs H Q _ => ∃ (ve : V) (e : Ex) (vp : V) (p : Path), vs = [ve, vp] ∧ IsEx H ve e ∧ dpE e ≤ n ∧ n ≤ 3 ∧ IsPa H vp p ∧ p.length + n ≤ 1000 ∧ ∀ D H' ps L, Same H H' → H D = none → H' D = some (.lst (ps.map V.ref)) → SpIn H' ps L → L.length = szE e → Q (.ref D) H'
theorem szE_le7 {e : Ex} (h : dpE e ≤ 3) : szE e ≤ 7 := by
  have := szE_le 3 e h
  omega
theorem ok_sums_of (G : FnG K mg "sums_of" s_sums_of) : ∀ n, Has P w K mg base (1 + n) "sums_of" ["expr", "path"] (spSums n)
  | 0 => has_of (k := 0) (N := N_sums_of) G sc_sums_of (fun _ _ _ _ _ _ us hl => match us, hl with | [_, _], _ => rfl) (fun vs H Q E h => by obtain ⟨_, _, _, _, rfl, _⟩ := h; rfl) (fun f cdv A outer s0 H vs Q E hr h => by
    obtain ⟨_, e, _, _, rfl, _, hd, _⟩ := h
    have := dpE_pos e
    omega)
  | n + 1 => by
    have h_sums_of := ok_sums_of G n
    refine has_of (k := 1 + n) (N := N_sums_of) G sc_sums_of (fun _ _ _ _ _ _ us hl => match us, hl with | [_, _], _ => rfl) (fun vs H Q E h => ?_) (fun f cdv A outer s0 H vs Q E hr h => ?_)
    · obtain ⟨_, _, _, _, rfl, _⟩ := h
      rfl
    · obtain ⟨ve, e, vp, p, rfl, he, hd, hn, hp, hpl, q⟩ := h
      refine ⟨_, (pss_cons (ps_set (i := 2) sc_sums_of.nd rfl (.inl rfl) (pe_lst (pa1 (pt2 (pv 1) (pv 0)))))
      (pss_cons (ps_if (pt_cmpR op_notIn_seq (ixc (pv 0)) (pt2 pe_str pe_str) (by rfl))
      (pss_one (ps_set (i := 2) sc_sums_of.nd rfl (.inl rfl) (pe_op op_cat (pe_op op_cat (pv 2) (pe_callH h_sums_of hr (by omega) (pa2 (ixc (pv 0)) (pe_op op_path (pv 1) (pe_tup (pa1 pe_int)))))) (pe_callH h_sums_of hr (by omega) (pa2 (ixc (pv 0)) (pe_op op_path (pv 1) (pe_tup (pa1 pe_int))))))))
      pss_nil)
      (pss_one (ps_ret (pv 2))))), ?_⟩
      obtain ⟨pa, rfl, hpa⟩ := id hp
      refine ⟨_, rfl, _, rfl, two, fun t ht => ⟨one_line, fun l hl => ?_⟩⟩
      have s1 : Same H (upd (upd H t (.tup [.ref pa, ve])) l (.lst [.ref t])) := (same_new ht).trans (same_new hl)
      have et : (upd (upd H t (.tup [.ref pa, ve])) l (.lst [.ref t])) t = some (.tup [.ref pa, ve]) := same_new hl _ _ upd_same
      have el : (upd (upd H t (.tup [.ref pa, ve])) l (.lst [.ref t])) l = some (.lst [.ref t]) := upd_same
      have hl0 : H l = none := (same_new ht).free hl
      generalize upd (upd H t (.tup [.ref pa, ve])) l (.lst [.ref t]) = H1 at s1 et el
      have h1 : SpIn H1 [t] [(p, e)] := .cons ⟨pa, ve, et, s1 _ _ hpa, he.mono (.of_same s1), Nat.le_trans hd hn⟩ .nil
      have he1 := he.mono (.of_same s1)
      cases e with
      | num m =>
        obtain ⟨a, rfl, ha⟩ := he1
        refine ⟨_, rfl, _, _, _, _, rfl, rfl, sq_of ha, at0, two, fun z hz => ⟨z, [.str "num", .str "name"], rfl, .inr (.inl (.inl upd_same)), rfl, rfl, _, rfl, ifF (by decide +kernel) ⟨_, rfl, ?_⟩⟩⟩
        exact q l _ [t] _ (s1.trans (same_new hz)) hl0 (same_new hz _ _ el) (h1.mono (.new hz)) rfl
      | name y =>
        obtain ⟨a, rfl, ha⟩ := he1
        refine ⟨_, rfl, _, _, _, _, rfl, rfl, sq_of ha, at0, two, fun z hz => ⟨z, [.str "num", .str "name"], rfl, .inr (.inl (.inl upd_same)), rfl, rfl, _, rfl, ifF (by decide +kernel) ⟨_, rfl, ?_⟩⟩⟩
        exact q l _ [t] _ (s1.trans (same_new hz)) hl0 (same_new hz _ _ el) (h1.mono (.new hz)) rfl
      | bin u e1 e2 =>
        obtain ⟨a, vl, vr, rfl, ha, hl1, hr1⟩ := he1
        have hd : 1 + max (dpE e1) (dpE e2) ≤ n + 1 := hd
        refine ⟨_, rfl, _, _, _, _, rfl, rfl, sq_of ha, at0, two, fun z hz => ⟨z, [.str "num", .str "name"], rfl, .inr (.inl (.inl upd_same)), rfl, rfl, _, rfl, ifT (by cases u <;> decide +kernel) ?_⟩⟩
        have s2 := s1.trans (same_new (o := HO.tup [.str "num", .str "name"]) hz)
        have ha := same_new (o := HO.tup [.str "num", .str "name"]) hz _ _ ha
        have el := same_new (o := HO.tup [.str "num", .str "name"]) hz _ _ el
        have h1 := h1.mono (Tups.new (o := HO.tup [.str "num", .str "name"]) hz)
        have hl1 := hl1.mono (Tups.new (o := HO.tup [.str "num", .str "name"]) hz)
        have hr1 := hr1.mono (Tups.new (o := HO.tup [.str "num", .str "name"]) hz)
        generalize upd H1 z (.tup [.str "num", .str "name"]) = H2 at s2 ha el h1 hl1 hr1
        refine ⟨_, rfl, _, rfl, _, _, _, _, rfl, rfl, sq_of ha, at1, _, rfl, one_line, fun t2 ht2 => ⟨p, 0, t2, (hp.mono (.of_same s2)).mono (.new ht2), rfl, upd_same, by omega, fun v3 H3 s3 hp3 => ?_⟩⟩
        have s3 := (same_new ht2).trans s3
        refine ⟨vl, e1, v3, p ++ [0], rfl, hl1.mono (.of_same s3), by omega, by omega, hp3, by rw [List.length_append, List.length_singleton]; omega, fun D4 H4 ps4 L4 s4 nD4 e4 h4 n4 => ?_⟩
        have s34 := s3.trans s4
        have z1 := szE_le7 (e := e1) (by omega)
        have z2 := szE_le7 (e := e2) (by omega)
        have m4 : ps4.length = L4.length := h4.length
        refine ⟨l, D4, [V.ref t], ps4.map V.ref, rfl, rfl, s34 _ _ el, e4, by rw [List.length_map]; exact Nat.le_of_lt (small_line (by simp only [List.length_singleton]; omega)), fun a5 ha5 => ?_⟩
        have s5 := s34.trans (same_new (o := HO.lst ([V.ref t] ++ ps4.map V.ref)) ha5)
        refine ⟨_, rfl, _, _, _, _, rfl, rfl, sq_of (s5 _ _ ha), at2, _, rfl, one_line, fun t6 ht6 => ⟨p, 1, t6, ((hp.mono (.of_same s2)).mono (.of_same s5)).mono (.new ht6), rfl, upd_same, by omega, fun v7 H7 s7 hp7 => ?_⟩⟩
        have s7 := (same_new ht6).trans s7
        have e5 := s7 _ _ (upd_same (H := H4) (a := a5) (o := HO.lst ([V.ref t] ++ ps4.map V.ref)))
        have h4' := h4.mono (Tups.trans (.new (o := HO.lst ([V.ref t] ++ ps4.map V.ref)) ha5) (.of_same s7))
        have s57 := s5.trans s7
        refine ⟨vr, e2, v7, p ++ [1], rfl, hr1.mono (.of_same s57), by omega, by omega, hp7, by rw [List.length_append, List.length_singleton]; omega, fun D8 H8 ps8 L8 s8 nD8 e8 h8 n8 => ?_⟩
        have s58 := s57.trans s8
        have m8 : ps8.length = L8.length := h8.length
        refine ⟨a5, D8, [V.ref t] ++ ps4.map V.ref, ps8.map V.ref, rfl, rfl, s8 _ _ e5, e8, Nat.le_of_lt (small_line (by simp only [List.length_append, List.length_singleton, List.length_map]; omega)), fun a9 ha9 => ?_⟩
        have s9 := s58.trans (same_new (o := HO.lst ([V.ref t] ++ ps4.map V.ref ++ ps8.map V.ref)) ha9)
        refine ⟨_, rfl, q a9 _ ([t] ++ ps4 ++ ps8) ([(p, .bin u e1 e2)] ++ L4 ++ L8) (s2.trans s9) (s2.free (s58.free ha9)) ?_ ?_ ?_⟩
        · rw [upd_same, List.map_append, List.map_append]
          rfl
        · exact paired_app (paired_app (SpIn.mono h1 (.of_same s9)) (SpIn.mono h4' ((Tups.of_same s8).trans (.new ha9)))) (SpIn.mono h8 (.new ha9))
        · simp only [List.length_append, List.length_singleton]
          rw [n4, n8, szE]
abbrev N_spots_in : List Str := ["block", "path", "made", "number", "deed", "here"]
theorem sc_spots_in : FnScope N_spots_in ["block", "path"] (defScope s_spots_in) := ⟨rfl, rfl, rfl, by decide +kernel, rfl, by decide +kernel, by decide +kernel⟩
def spSpots (n : Nat) : Sp := fun vs H Q _ => ∃ (vd : V) (ds : List Dd) (vp : V) (p : Path), vs = [vd, vp] ∧ IsBl H vd ds ∧ limX n ds ∧ IsPa H vp p ∧ p.length + 2 * n + 6 ≤ 1000 ∧ kB ds ≤ 1000000 ∧ ∀ D H' ps L, Same H H' → H D = none → H' D = some (.lst (ps.map V.ref)) → SpIn H' ps L → L.length = kB ds → Q (.ref D) H'
theorem ok_spots_in (T : Tx K mg) (h_sums_of : Has P w K mg base 4 "sums_of" ["expr", "path"] (spSums 3)) (G : FnG K mg "spots_in" s_spots_in) : ∀ n, Has P w K mg base (5 + n) "spots_in" ["block", "path"] (spSpots n)
  | 0 => has_of (k := 4) (N := N_spots_in) G sc_spots_in (fun _ _ _ _ _ _ us hl => match us, hl with | [_, _], _ => rfl) (fun vs H Q E h => by obtain ⟨_, _, _, _, rfl, _⟩ := h; rfl) (fun f cdv A outer s0 H vs Q E hr h => by
    obtain ⟨_, _, _, _, rfl, _, hd, _⟩ := h
    exact hd.elim)
  | n + 1 => by
    have h_spots_in := ok_spots_in T h_sums_of G n
    refine has_of (k := 5 + n) (N := N_spots_in) G sc_spots_in (fun _ _ _ _ _ _ us hl => match us, hl with | [_, _], _ => rfl) (fun vs H Q E h => ?_) (fun f cdv A outer s0 H vs Q E hr h => ?_)
    · obtain ⟨_, _, _, _, rfl, _⟩ := h
      rfl
    · obtain ⟨vd, ds, vp, p, rfl, ⟨ab, vb, rfl, hbl, hds⟩, hlim, hp, hpl, hk, q⟩ := h
      refine ⟨_, (pss_cons (ps_set (i := 2) sc_spots_in.nd rfl (.inl rfl) (pe_lst pa_nil))
      (pss_cons (ps_for PassesOwn.never rfl (pi_enumT (by rfl) T.enumerate (pa1 (pv 0))) (pg_tup (by rfl) (pgs_cons (pg_name (i := 3) sc_spots_in.nd rfl (.inl rfl)) (pgs_cons (pg_name (i := 4) sc_spots_in.nd rfl (.inl rfl)) pgs_nil)))
      (pss_cons (ps_set (i := 5) sc_spots_in.nd rfl (.inl rfl) (pe_op op_path (pv 1) (pe_tup (pa1 (pv 3)))))
      (pss_one (ps_if (pt_cmpR op_eq (ixc (pv 4)) pe_str (nomark _))
      (pss_one (ps_expr (pe_bm PySem.F.plainAttrs_list PySem.F.slot_list_extend PySem.F.type_list_extend mt_extend (pv 2) (pa1 (pe_callH h_sums_of hr (by omega) (pa2 (ixc (pv 4)) (pe_op op_path (pv 5) (pe_tup (pa1 pe_int)))))))))
      (pss_cons (ps_expr (pe_bm PySem.F.plainAttrs_list PySem.F.slot_list_extend PySem.F.type_list_extend mt_extend (pv 2) (pa1 (pe_callH h_sums_of hr (by omega) (pa2 (ixc (pv 4)) (pe_op op_path (pv 5) (pe_tup (pa1 pe_int))))))))
      (pss_one (ps_if (pt_cmpR op_eq (ixc (pv 4)) pe_str (nomark _))
      (pss_one (ps_expr (pe_bm PySem.F.plainAttrs_list PySem.F.slot_list_extend PySem.F.type_list_extend mt_extend (pv 2) (pa1 (pe_op op_cat (pe_callH h_spots_in hr (by omega) (pa2 (ixc (pv 4)) (pe_op op_path (pv 5) (pe_tup (pa1 pe_int))))) (pe_callH h_spots_in hr (by omega) (pa2 (ixc (pv 4)) (pe_op op_path (pv 5) (pe_tup (pa1 pe_int))))))))))
      (pss_one (ps_expr (pe_bm PySem.F.plainAttrs_list PySem.F.slot_list_extend PySem.F.type_list_extend mt_extend (pv 2) (pa1 (pe_callH h_spots_in hr (by omega) (pa2 (ixc (pv 4)) (pe_op op_path (pv 5) (pe_tup (pa1 pe_int))))))))))))))))
      (pss_one (ps_ret (pv 2))))), ?_⟩
      have hlim : limB n ds := hlim
      have hlen : vb.length = ds.length := hds.length
      refine ⟨Nat.zero_le _, fun l hl => ?_⟩
      refine ⟨_, rfl, ab, vb, rfl, sq_of (same_new hl _ _ hbl), for_it walk_enumT (fun i σ H' => ∃ y3 y4 y5 ps L, σ = [some (.ref ab), some vp, some (.ref l), y3, y4, y5] ∧ Same H H' ∧ H' l = some (.lst (ps.map V.ref)) ∧ SpIn H' ps L ∧ L.length + kB (ds.drop i) = kB ds)
        ⟨none, none, none, [], [], rfl, same_new hl, upd_same, .nil, by simp⟩ (fun i σ H' _ ⟨_, _, _, _, _, _, s, _⟩ => sq_of (s _ _ hbl)) ?_ ?_⟩
      · rintro i x σ H' H2 hi ⟨y3, y4, y5, ps, L, rfl, s1, g1, g2, g3⟩ ⟨t, x1, x2, rfl, ht, rfl, ex1, ex2⟩
        injection ex1 with ex1
        subst ex1
        obtain ⟨d, ed, hdd⟩ := hds.get ex2
        rw [kB_drop ed] at g3
        have s2 := s1.trans (same_new (o := HO.tup [.int (i : Nat), x2]) ht)
        have et : upd H' t (.tup [.int (i : Nat), x2]) t = some (.tup [.int (i : Nat), x2]) := upd_same
        have g1 := same_new (o := HO.tup [.int (i : Nat), x2]) ht _ _ g1
        have g2 := g2.mono (Tups.new (o := HO.tup [.int (i : Nat), x2]) ht)
        generalize upd H' t (.tup [.int (i : Nat), x2]) = H2 at s2 et g1 g2
        have hpsl : ps.length = L.length := g2.length
        refine ⟨t, _, rfl, sq_of et, rfl, _, _, rfl, _, _, rfl, rfl, ?_⟩
        refine ⟨_, rfl, _, rfl, one_line, fun t3 ht3 => ⟨p, (i : Nat), t3, (hp.mono (.of_same s2)).mono (.new ht3), rfl, upd_same, by omega, fun vh H3 s3 hh => ?_⟩⟩
        have s3 := (same_new ht3).trans s3
        have s4 := s2.trans s3
        have g1 := s3 _ _ g1
        have g2 := g2.mono (.of_same s3)
        have hdd := hdd.mono (.of_same s4)
        have hhl : (p ++ [((i : Nat) : Int)]).length = p.length + 1 := by rw [List.length_append, List.length_singleton]
        cases d with
        | set y e =>
          obtain ⟨a, ve, rfl, ha, he⟩ := hdd
          have hd3 := limD_set (hlim.2 _ (List.mem_of_getElem? ed))
          have g3 : L.length + (szE e + kB (ds.drop (i + 1))) = kB ds := g3
          refine ⟨_, rfl, _, _, _, _, rfl, rfl, sq_of ha, at0, rfl, _, rfl, ifT (by decide +kernel) ?_⟩
          refine ⟨_, rfl, .inl ⟨rfl, _, .inl (.inl g1)⟩, _, rfl, _, _, _, _, rfl, rfl, sq_of ha, at2, _, rfl, one_line, fun t5 ht5 => ⟨p ++ [((i : Nat) : Int)], 0, t5, hh.mono (.new ht5), rfl, upd_same, by omega, fun v6 H6 s6 hp6 => ?_⟩⟩
          have s6 := (same_new ht5).trans s6
          refine ⟨ve, e, v6, p ++ [((i : Nat) : Int)] ++ [0], rfl, he.mono (.of_same s6), hd3, by omega, hp6, by rw [List.length_append, List.length_singleton]; omega, fun D7 H7 ps7 L7 s7 nD7 e7 h7 n7 => ?_⟩
          have s67 := s6.trans s7
          have m7 : ps7.length = L7.length := h7.length
          have g1' := s67 _ _ g1
          refine ⟨l, D7, _, _, rfl, rfl, g1', e7, by rw [List.length_map, List.length_map]; exact Nat.le_of_lt (big_line (by omega)), ?_⟩
          have td : Tups H7 (upd H7 l (.lst (ps.map V.ref ++ ps7.map V.ref))) := .put fun xs e => by rw [g1'] at e; cases e
          exact ⟨_, _, _, ps ++ ps7, L ++ L7, rfl, same_put (s4.trans s67) hl, by rw [upd_same, List.map_append], paired_app (g2.mono ((Tups.of_same s67).trans td)) (SpIn.mono h7 td), by rw [List.length_append, n7]; omega⟩
        | ife e f g =>
          obtain ⟨a, ve, af, ag, vff, vg, rfl, ha, he, hbf, hdf, hbg, hdg⟩ := hdd
          obtain ⟨hd3, lf, lg⟩ := limD_ife (hlim.2 _ (List.mem_of_getElem? ed))
          have g3 : L.length + (szE e + (kB f + kB g) + kB (ds.drop (i + 1))) = kB ds := g3
          refine ⟨_, rfl, _, _, _, _, rfl, rfl, sq_of ha, at0, rfl, _, rfl, ifF (by decide +kernel) ?_⟩
          refine ⟨_, rfl, .inl ⟨rfl, _, .inl (.inl g1)⟩, _, rfl, _, _, _, _, rfl, rfl, sq_of ha, at1, _, rfl, one_line, fun t5 ht5 => ⟨p ++ [((i : Nat) : Int)], 0, t5, hh.mono (.new ht5), rfl, upd_same, by omega, fun v6 H6 s6 hp6 => ?_⟩⟩
          have s6 := (same_new ht5).trans s6
          refine ⟨ve, e, v6, p ++ [((i : Nat) : Int)] ++ [0], rfl, he.mono (.of_same s6), hd3, by omega, hp6, by rw [List.length_append, List.length_singleton]; omega, fun D7 H7 ps7 L7 s7 nD7 e7 h7 n7 => ?_⟩
          have s67 := s6.trans s7
          have m7 : ps7.length = L7.length := h7.length
          have g1' := s67 _ _ g1
          have td : Tups H7 (upd H7 l (.lst (ps.map V.ref ++ ps7.map V.ref))) := .put fun xs e => by rw [g1'] at e; cases e
          refine ⟨l, D7, _, _, rfl, rfl, g1', e7, by rw [List.length_map, List.length_map]; exact Nat.le_of_lt (big_line (by omega)), ?_⟩
          have t8 : Tups H3 (upd H7 l (.lst (ps.map V.ref ++ ps7.map V.ref))) := (Tups.of_same s67).trans td
          have s8 : Same H (upd H7 l (.lst (ps.map V.ref ++ ps7.map V.ref))) := same_put (s4.trans s67) hl
          have g8 : (upd H7 l (.lst (ps.map V.ref ++ ps7.map V.ref))) l = some (.lst ((ps ++ ps7).map V.ref)) := by rw [upd_same, List.map_append]
          have h8 : SpIn (upd H7 l (.lst (ps.map V.ref ++ ps7.map V.ref))) (ps ++ ps7) (L ++ L7) := paired_app (g2.mono t8) (SpIn.mono h7 td)
          generalize upd H7 l (.lst (ps.map V.ref ++ ps7.map V.ref)) = H8 at t8 s8 g8 h8
          have m8 : (ps ++ ps7).length = (L ++ L7).length := h8.length
          rw [List.length_append, List.length_append] at m8
          have ha := t8 _ _ ha
          refine ⟨_, rfl, _, _, _, _, rfl, rfl, sq_of ha, at0, rfl, _, rfl, ifT (by decide +kernel) ?_⟩
          refine ⟨_, rfl, .inl ⟨rfl, _, .inl (.inl g8)⟩, ?_⟩
          refine ⟨_, rfl, _, _, _, _, rfl, rfl, sq_of ha, at2, _, rfl, one_line, fun t9 ht9 => ⟨p ++ [((i : Nat) : Int)], 1, t9, (hh.mono t8).mono (.new ht9), rfl, upd_same, by omega, fun v10 H10 s10 hp10 => ?_⟩⟩
          have s10 := (same_new ht9).trans s10
          refine ⟨_, f, v10, p ++ [((i : Nat) : Int)] ++ [1], rfl, ⟨af, vff, rfl, s10 _ _ (t8 _ _ hbf), (hdf.mono t8).mono (.of_same s10)⟩, lf, hp10, by rw [List.length_append, List.length_singleton]; omega, by omega, fun D11 H11 ps11 L11 s11 nD11 e11 h11 n11 => ?_⟩
          have s11 := s10.trans s11
          have ha11 := s11 _ _ ha
          refine ⟨_, rfl, _, _, _, _, rfl, rfl, sq_of ha11, at3, _, rfl, one_line, fun t12 ht12 => ⟨p ++ [((i : Nat) : Int)], 2, t12, ((hh.mono t8).mono (.of_same s11)).mono (.new ht12), rfl, upd_same, by omega, fun v13 H13 s13 hp13 => ?_⟩⟩
          have s13 := (same_new ht12).trans s13
          have s1113 := s11.trans s13
          refine ⟨_, g, v13, p ++ [((i : Nat) : Int)] ++ [2], rfl, ⟨ag, vg, rfl, s1113 _ _ (t8 _ _ hbg), (hdg.mono t8).mono (.of_same s1113)⟩, lg, hp13, by rw [List.length_append, List.length_singleton]; omega, by omega, fun D14 H14 ps14 L14 s14 nD14 e14 h14 n14 => ?_⟩
          have s1314 := s13.trans s14
          have m11 : ps11.length = L11.length := h11.length
          have m14 : ps14.length = L14.length := h14.length
          refine ⟨D11, D14, _, _, rfl, rfl, s1314 _ _ e11, e14, by rw [List.length_map, List.length_map]; exact Nat.le_of_lt (big_line (by omega)), fun D15 hD15 => ?_⟩
          have s15 : Same H14 (upd H14 D15 (.lst (ps11.map V.ref ++ ps14.map V.ref))) := same_new hD15
          have e15 : (upd H14 D15 (.lst (ps11.map V.ref ++ ps14.map V.ref))) D15 = some (.lst (ps11.map V.ref ++ ps14.map V.ref)) := upd_same
          generalize upd H14 D15 (.lst (ps11.map V.ref ++ ps14.map V.ref)) = H15 at s15 e15
          have s815 := s11.trans (s1314.trans s15)
          have g15 := s815 _ _ g8
          have td2 : Tups H15 (upd H15 l (.lst ((ps ++ ps7).map V.ref ++ (ps11.map V.ref ++ ps14.map V.ref)))) := .put fun xs e => by rw [g15] at e; cases e
          refine ⟨l, D15, _, _, rfl, rfl, g15, e15, by rw [List.length_append, List.length_map, List.length_map, List.length_map, List.length_append]; exact Nat.le_of_lt (big_line (by omega)), ?_⟩
          exact ⟨_, _, _, ps ++ ps7 ++ (ps11 ++ ps14), L ++ L7 ++ (L11 ++ L14), rfl, same_put (s8.trans s815) hl, by rw [upd_same]; simp only [List.map_append], paired_app (h8.mono ((Tups.of_same s815).trans td2)) (paired_app (h11.mono ((Tups.of_same (s1314.trans s15)).trans td2)) (h14.mono ((Tups.of_same s15).trans td2))), by simp only [List.length_append]; omega⟩
        | whl e m b =>
          obtain ⟨a, ve, ab2, vb2, rfl, ha, he, hbb, hbs⟩ := hdd
          obtain ⟨hd3, m0, m20, hlx⟩ := limD_whl (hlim.2 _ (List.mem_of_getElem? ed))
          have g3 : L.length + (szE e + kB b + kB (ds.drop (i + 1))) = kB ds := g3
          refine ⟨_, rfl, _, _, _, _, rfl, rfl, sq_of ha, at0, rfl, _, rfl, ifF (by decide +kernel) ?_⟩
          refine ⟨_, rfl, .inl ⟨rfl, _, .inl (.inl g1)⟩, _, rfl, _, _, _, _, rfl, rfl, sq_of ha, at1, _, rfl, one_line, fun t5 ht5 => ⟨p ++ [((i : Nat) : Int)], 0, t5, hh.mono (.new ht5), rfl, upd_same, by omega, fun v6 H6 s6 hp6 => ?_⟩⟩
          have s6 := (same_new ht5).trans s6
          refine ⟨ve, e, v6, p ++ [((i : Nat) : Int)] ++ [0], rfl, he.mono (.of_same s6), hd3, by omega, hp6, by rw [List.length_append, List.length_singleton]; omega, fun D7 H7 ps7 L7 s7 nD7 e7 h7 n7 => ?_⟩
          have s67 := s6.trans s7
          have m7 : ps7.length = L7.length := h7.length
          have g1' := s67 _ _ g1
          have td : Tups H7 (upd H7 l (.lst (ps.map V.ref ++ ps7.map V.ref))) := .put fun xs e => by rw [g1'] at e; cases e
          refine ⟨l, D7, _, _, rfl, rfl, g1', e7, by rw [List.length_map, List.length_map]; exact Nat.le_of_lt (big_line (by omega)), ?_⟩
          have t8 : Tups H3 (upd H7 l (.lst (ps.map V.ref ++ ps7.map V.ref))) := (Tups.of_same s67).trans td
          have s8 : Same H (upd H7 l (.lst (ps.map V.ref ++ ps7.map V.ref))) := same_put (s4.trans s67) hl
          have g8 : (upd H7 l (.lst (ps.map V.ref ++ ps7.map V.ref))) l = some (.lst ((ps ++ ps7).map V.ref)) := by rw [upd_same, List.map_append]
          have h8 : SpIn (upd H7 l (.lst (ps.map V.ref ++ ps7.map V.ref))) (ps ++ ps7) (L ++ L7) := paired_app (g2.mono t8) (SpIn.mono h7 td)
          generalize upd H7 l (.lst (ps.map V.ref ++ ps7.map V.ref)) = H8 at t8 s8 g8 h8
          have m8 : (ps ++ ps7).length = (L ++ L7).length := h8.length
          rw [List.length_append, List.length_append] at m8
          have ha := t8 _ _ ha
          refine ⟨_, rfl, _, _, _, _, rfl, rfl, sq_of ha, at0, rfl, _, rfl, ifF (by decide +kernel) ?_⟩
          refine ⟨_, rfl, .inl ⟨rfl, _, .inl (.inl g8)⟩, ?_⟩
          refine ⟨_, rfl, _, _, _, _, rfl, rfl, sq_of ha, at3, _, rfl, one_line, fun t9 ht9 => ⟨p ++ [((i : Nat) : Int)], 1, t9, (hh.mono t8).mono (.new ht9), rfl, upd_same, by omega, fun v10 H10 s10 hp10 => ?_⟩⟩
          have s10 := (same_new ht9).trans s10
          refine ⟨_, b, v10, p ++ [((i : Nat) : Int)] ++ [1], rfl, ⟨ab2, vb2, rfl, s10 _ _ (t8 _ _ hbb), (hbs.mono t8).mono (.of_same s10)⟩, hlx, hp10, by rw [List.length_append, List.length_singleton]; omega, by omega, fun D11 H11 ps11 L11 s11 nD11 e11 h11 n11 => ?_⟩
          have s11 := s10.trans s11
          have m11 : ps11.length = L11.length := h11.length
          have g15 := s11 _ _ g8
          have td2 : Tups H11 (upd H11 l (.lst ((ps ++ ps7).map V.ref ++ ps11.map V.ref))) := .put fun xs e => by rw [g15] at e; cases e
          refine ⟨l, D11, _, _, rfl, rfl, g15, e11, by rw [List.length_map, List.length_map, List.length_append]; exact Nat.le_of_lt (big_line (by omega)), ?_⟩
          exact ⟨_, _, _, ps ++ ps7 ++ ps11, L ++ L7 ++ L11, rfl, same_put (s8.trans s11) hl, by rw [upd_same]; simp only [List.map_append], paired_app (h8.mono ((Tups.of_same s11).trans td2)) (h11.mono td2), by simp only [List.length_append]; omega⟩
      · rintro σ H' ⟨y3, y4, y5, ps, L, rfl, s1, g1, g2, g3⟩
        rw [hlen, List.drop_length, show kB [] = 0 by rw [kB]] at g3
        exact ⟨_, rfl, q l H' ps L s1 hl g1 g2 (by omega)⟩
abbrev N_spots : List Str := ["program"]
theorem sc_spots : FnScope N_spots ["program"] (defScope s_spots) := ⟨rfl, rfl, rfl, by decide +kernel, rfl, by decide +kernel, by decide +kernel⟩
def spSpotsP : Sp := fun vs H Q _ => ∃ (x : V) (ins : List (Nm × Sg)) (ds : List Dd), vs = [x] ∧ PgAt H x ins ds ∧ limB 2 ds ∧ ∀ D H' ps L, Same H H' → H D = none → H' D = some (.lst (ps.map V.ref)) → SpIn H' ps L → L.length = kB ds → Q (.ref D) H'
theorem kB_few {ds : List Dd} (h : limB 2 ds) : kB ds ≤ 1000000 := by
  have := kB_le h
  have := mN2
  omega
theorem ok_spots (h_spots_in : Has P w K mg base 8 "spots_in" ["block", "path"] (spSpots 3)) (G : FnG K mg "spots" s_spots) : Has P w K mg base 9 "spots" ["program"] spSpotsP := by
  refine has_of (N := N_spots) G sc_spots (fun _ _ _ _ _ _ us hl => match us, hl with | [_], _ => rfl) (fun vs H Q E h => ?_) (fun f cdv A outer s0 H vs Q E hr h => ?_)
  · obtain ⟨_, _, _, rfl, _⟩ := h
    rfl
  · obtain ⟨x, ins, ds, rfl, ⟨ap, i, b, vb, rfl, hp1, hp2, hp3, hp4⟩, hlim, q⟩ := h
    refine ⟨_, (pss_one (ps_ret (pe_callH h_spots_in hr (by decide) (pa2 (ixc (pv 0)) (pe_tup pa_nil))))), ?_⟩
    refine ⟨_, rfl, _, _, _, _, rfl, rfl, sq_of hp1, at1, Nat.zero_le _, fun t ht => ?_⟩
    have s1 : Same H (upd H t (.tup [])) := same_new ht
    exact ⟨_, ds, _, [], rfl, ⟨b, vb, rfl, s1 _ _ hp3, hp4.mono (.of_same s1)⟩, hlim, isPa_nil upd_same, by decide, kB_few hlim, fun D H' ps L s2 nD e h n => q D H' ps L (s1.trans s2) (s1.free nD) e h n⟩
/-! ### a sum as data -/
def encE : Ex → PyData
  | .num n => .tuple [.str "num", .int n]
  | .name x => .tuple [.str "name", .str (nS x)]
  | .bin u l r => .tuple [.str (wS u), encE l, encE r]
theorem dp_ex {K : PySem.W.Frag} {H : Hp} : ∀ {e : Ex} {v : V}, IsEx H v e → Dp K H v (encE e)
  | .num n, v, h => by
    obtain ⟨a, rfl, ha⟩ := h
    exact .tup (sq_of ha) (.cons (.str _) (.cons (.int _) .nil))
  | .name x, v, h => by
    obtain ⟨a, rfl, ha⟩ := h
    exact .tup (sq_of ha) (.cons (.str _) (.cons (.str _) .nil))
  | .bin u l r, v, h => by
    obtain ⟨a, vl, vr, rfl, ha, hl, hr⟩ := h
    exact .tup (sq_of ha) (.cons (.str _) (.cons (dp_ex hl) (.cons (dp_ex hr) .nil)))
theorem lay_ex : ∀ e : Ex, (encE e).canLay0 = true
  | .num n => by
    show (PyData.canLay0 (.str "num") && true) = true
    rw [show PyData.canLay0 (.str "num") = true by decide +kernel]
    rfl
  | .name x => by
    show (PyData.canLay0 (.str "name") && (PyData.canLay0 (.str (nS x)) && true)) = true
    rw [show PyData.canLay0 (.str "name") = true by decide +kernel, show PyData.canLay0 (.str (nS x)) = true by cases x <;> decide +kernel]
    rfl
  | .bin u l r => by
    show (PyData.canLay0 (.str (wS u)) && ((encE l).canLay0 && ((encE r).canLay0 && true))) = true
    rw [lay_ex l, lay_ex r, show PyData.canLay0 (.str (wS u)) = true by cases u <;> decide +kernel]
    rfl
theorem depth_ex : ∀ e : Ex, (encE e).depth ≤ dpE e
  | .num n => by simp [encE, PyData.depth, PyData.depthAll, dpE]
  | .name x => by simp [encE, PyData.depth, PyData.depthAll, dpE]
  | .bin u l r => by
    have h1 := depth_ex l
    have h2 := depth_ex r
    simp only [encE, PyData.depth, PyData.depthAll, dpE]
    omega
theorem shaped_ex {e : Ex} (h : dpE e ≤ 3) : SeqAt.shaped (encE e) = true := by
  unfold SeqAt.shaped
  have := depth_ex e
  rw [lay_ex e, decide_eq_true (show (encE e).depth ≤ 64 by omega)]
  rfl
abbrev N_used_at : List Str := ["program", "name", "path", "expr"]
theorem sc_used_at : FnScope N_used_at ["program", "name"] (defScope s_used_at) := ⟨rfl, rfl, rfl, by decide +kernel, rfl, by decide +kernel, by decide +kernel⟩
def spUsed : Sp := fun vs H Q _ => ∃ (x : V) (y : Nm) (ins : List (Nm × Sg)) (ds : List Dd), vs = [x, .str (nS y)] ∧ PgAt H x ins ds ∧ limB 2 ds ∧ ∀ D H' xs, Same H H' → H' D = some (.lst xs) → xs.length ≤ kB ds → Q (.ref D) H'
theorem ok_used_at (h_spots : Has P w K mg base 9 "spots" ["program"] spSpotsP) (G : FnG K mg "used_at" s_used_at) : Has P w K mg base 10 "used_at" ["program", "name"] spUsed := by
  refine has_of (N := N_used_at) G sc_used_at (fun _ _ _ _ _ _ us hl => match us, hl with | [_, _], _ => rfl) (fun vs H Q E h => ?_) (fun f cdv A outer s0 H vs Q E hr h => ?_)
  · obtain ⟨_, _, _, _, rfl, _⟩ := h
    rfl
  · obtain ⟨x, y, ins, ds, rfl, hP, hlim, q⟩ := h
    refine ⟨_, (pss_one (ps_ret (pe_lc (own := [("path", 2), ("expr", 3)]) rfl sc_used_at.nd (pi_list (pe_callH h_spots hr (by decide) (pa1 (pv 0)))) (blkOk_by (N := N_used_at) (sc := defScope s_used_at) (by decide +kernel)) (fun _ _ _ _ _ => (tupK K (n := 2) (by rfl) (pgs_cons (pg_name (i := 2) sc_used_at.nd rfl (.inl rfl)) (pgs_cons (pg_name (i := 3) sc_used_at.nd rfl (.inl rfl)) pgs_nil)))) (fun _ _ _ _ _ => (pts_one (pt_cmpR (op_eqK K (hu64 hr)) (pv 3) (pt2 pe_str (pv 1)) (nomark _)))) (fun _ _ _ _ _ => (pv 2))))), ?_⟩
    refine ⟨_, rfl, x, ins, ds, rfl, hP, hlim, fun D H1 ps L s1 nD eD hL nL => ?_⟩
    have hkf := kB_few hlim
    have m1 : ps.length = L.length := hL.length
    refine ⟨D, rfl, ⟨_, .inl (.inl eD)⟩, fun Dl hD => lc_list (K := K) (a := D) (xs := ps.map V.ref) (fun i H2 => Same H1 H2 ∧ ∃ xs, H2 Dl = some (.lst xs) ∧ xs.length ≤ i) ⟨same_new hD, [], upd_same, Nat.le_refl _⟩ (fun i H2 _ p => .inl (.inl (p.1 _ _ eD))) ?_ ?_⟩
    · rintro i z H2 hi ⟨s2, xs, g1, g2⟩
      rw [List.getElem?_map] at hi
      cases er : ps[i]? with
      | none => rw [er] at hi; cases hi
      | some r =>
        rw [er] at hi
        injection hi with hi
        subst hi
        obtain ⟨ze, e1, b, v, h1, h2, h3, h4⟩ := paired_get hL er
        have hi' : i < ps.length := (List.getElem?_eq_some_iff.mp er).1
        refine ⟨r, _, rfl, sq_of (s2 _ _ h1), rfl, _, _, rfl, _, _, rfl, rfl, rfl, ?_⟩
        refine ⟨_, rfl, _, rfl, two, fun t ht => ?_⟩
        have s3 := s2.trans (same_new (o := HO.tup [.str "name", .str (nS y)]) ht)
        have het : IsEx (upd H2 t (.tup [.str "name", .str (nS y)])) (.ref t) (.name y) := ⟨t, rfl, upd_same⟩
        refine ⟨_, _, dp_ex (h3.mono (.of_same s3)), dp_ex het, shaped_ex h4, shaped_ex (by simp [dpE]), _, rfl, ?_⟩
        have g3 := same_new (o := HO.tup [.str "name", .str (nS y)]) ht _ _ g1
        refine ifC (fun _ => ?_) fun _ => ⟨s3, xs, g3, by omega⟩
        refine ⟨_, rfl, xs, g3, big_line (by omega), same_put s3 hD, _, upd_same, by rw [List.length_append, List.length_singleton]; omega⟩
    · rintro H2 ⟨s2, xs, g1, g2⟩
      refine q Dl H2 xs (s1.trans s2) g1 ?_
      rw [List.length_map] at g2
      omega
end
end Sr
end
section
set_option Elab.async false
set_option linter.all false
set_option maxRecDepth 100000
set_option maxHeartbeats 4000000
/-! walks: Trace -/
namespace Sr
open PySem PySem.Spec PyProof.Rows L2 SrM SrK
abbrev tF (sl : Addr) (x : V) (wa : Addr) (n : Nat) : List (Str × V) := [("rows", .ref sl), ("program", x), ("worths", .ref wa), ("place", .int (n : Int))]
structure TraceC (K : PySem.W.Frag) (C : Addr) : Prop where
  cl : Cls K C
  rows : NoAttr K C "rows"
  program : NoAttr K C "program"
  worths : NoAttr K C "worths"
  place : NoAttr K C "place"
/-- a trace stands at tr: its rows at sl -/
def TrAt (H : Hp) (C tr sl : Addr) (x : V) (wa : Addr) (ps : List Addr) (rows : List (Path × Int)) (n : Nat) : Prop := ∃ dx, H tr = some (.ins C dx (tF sl x wa n)) ∧ H sl = some (.lst (ps.map V.ref)) ∧ SeenIn H ps rows
theorem TrAt.same {H H' : Hp} {C tr sl : Addr} {x : V} {wa : Addr} {ps : List Addr} {rows : List (Path × Int)} {n : Nat} (h : TrAt H C tr sl x wa ps rows n) (s : Same H H') : TrAt H' C tr sl x wa ps rows n := by
  obtain ⟨dx, h1, h2, h3⟩ := h
  exact ⟨dx, s _ _ h1, s _ _ h2, h3.mono (.of_same s)⟩
theorem sub_nat {a b : Nat} (h : b ≤ a) : ((a : Nat) : Int) - (b : Nat) = ((a - b : Nat) : Int) := by omega
section
variable {P : Program} {w : World} {K : PySem.W.Frag} {mg : Str → Option Value} {base : Heap} {C : Addr}
abbrev N_Trace_init : List Str := ["self", "program", "worths"]
theorem sc_Trace_init : FnScope N_Trace_init ["self", "program", "worths"] (defScope s_Trace_init) := ⟨rfl, rfl, rfl, by decide +kernel, rfl, by decide +kernel, by decide +kernel⟩
def spTrInit (C : Addr) : Sp := fun vs H Q _ => ∃ (tr dx : Addr) (x : V) (wa : Addr) (ins : List (Nm × Sg)) (ds : List Dd) (ws : List Int), vs = [.ref tr, x, .ref wa] ∧ H tr = some (.ins C dx []) ∧ PgAt H x ins ds ∧ PgOk ins ds ∧ H wa = some (.tup (ws.map V.int)) ∧ Fits ins ws ∧
  ∀ sl ps H', H sl = none → (∀ b o, H b = some o → b ≠ tr → H' b = some o) → TrAt H' C tr sl x wa ps (rnP ins ds ws).seen 0 → Q .non H'
theorem ok_trace_init (R : TraceC K C) (h_traced : Has P w K mg base 17 "traced" ["program", "worths"] spTraced) (G : ∃ f fd, FunD K "__init__" "Trace.__init__" (defArgs s_Trace_init) (defBody s_Trace_init) (defScope s_Trace_init) [] [] f fd ∧ Mk K C f) (hm : mg "Trace" = some (.ref C)) : MkC P w K mg base 18 "Trace" C ["self", "program", "worths"] (spTrInit C) := by
  refine mkC_of (N := N_Trace_init) G hm sc_Trace_init (fun _ _ _ _ _ _ us hl => match us, hl with | [_, _, _], _ => rfl) (fun vs H Q E h => ?_) (fun f cdv A outer s0 H vs Q E hr h => ?_)
  · obtain ⟨_, _, _, _, _, _, _, rfl, _⟩ := h
    rfl
  · obtain ⟨tr, dx, x, wa, ins, ds, ws, rfl, h1, hP, hok, hwa, hfit, q⟩ := h
    refine ⟨_, (pss_cons (ps_fld (pv 0) (pe_callH h_traced hr (by decide) (pa2 (pv 1) (pv 2))) rfl)
      (pss_cons (ps_fld (pv 0) (pv 1) rfl)
      (pss_cons (ps_fld (pv 0) (pv 2) rfl)
      (pss_one (ps_fld (pv 0) pe_int rfl))))), ?_⟩
    refine ⟨_, rfl, _, rfl, x, wa, ins, ds, ws, rfl, hP, hok, hwa, hfit, fun sl H1 ps s1 nsl esl hps => ?_⟩
    have nst : sl ≠ tr := (ne_of_none h1 nsl).symm
    refine ⟨_, rfl, tr, C, dx, _, rfl, s1 _ _ h1, R.cl, R.rows, by show 0 < 1000; decide, ?_⟩
    refine ⟨_, rfl, _, rfl, tr, C, dx, _, rfl, upd_same, R.cl, R.program, by show 1 < 1000; decide, ?_⟩
    refine ⟨_, rfl, _, rfl, tr, C, dx, _, rfl, upd_same, R.cl, R.worths, by show 2 < 1000; decide, ?_⟩
    refine ⟨_, rfl, tr, C, dx, _, rfl, upd_same, R.cl, R.place, by show 3 < 1000; decide, ?_⟩
    rw [upd_upd, upd_upd, upd_upd]
    have t1 : Tups H1 (upd H1 tr (.ins C dx (putF "place" (.int 0) (putF "worths" (.ref wa) (putF "program" x (putF "rows" (.ref sl) [])))))) := .put fun xs e => by rw [s1 _ _ h1] at e; cases e
    refine q sl ps _ nsl (fun b o e n => by rw [upd_ne n]; exact s1 _ _ e) ⟨dx, upd_same, by rw [upd_ne nst]; exact esl, hps.mono t1⟩
abbrev N_Trace_go : List Str := ["self"]
theorem sc_Trace_go : FnScope N_Trace_go ["self"] (defScope s_Trace_go) := ⟨rfl, rfl, rfl, by decide +kernel, rfl, by decide +kernel, by decide +kernel⟩
def spGo (C : Addr) : Sp := fun vs H Q _ => ∃ (tr sl : Addr) (x : V) (wa : Addr) (ps : List Addr) (rows : List (Path × Int)) (n : Nat) (r : Addr), vs = [.ref tr] ∧ TrAt H C tr sl x wa ps rows n ∧ ps[n]? = some r ∧
  ∀ H', (∀ b o, H b = some o → b ≠ tr → H' b = some o) → TrAt H' C tr sl x wa ps rows (n + 1) → Q (.ref r) H'
theorem ok_go (T : Tx K mg) (R : TraceC K C) (G : FnM K C "go" "Trace.go" s_Trace_go) : HasM P w K mg base 1 C "go" ["self"] (spGo C) := by
  refine hasM_of (N := N_Trace_go) G sc_Trace_go (fun _ _ _ _ _ _ us hl => match us, hl with | [_], _ => rfl) (fun vs H Q E h => ?_) (fun f cdv A outer s0 H vs Q E hr h => ?_)
  · obtain ⟨_, _, _, _, _, _, _, _, rfl, _⟩ := h
    rfl
  · obtain ⟨tr, sl, x, wa, ps, rows, n, r, rfl, ⟨dx, h1, h2, h3⟩, hr', q⟩ := h
    refine ⟨_, (pss_cons (ps_if (pt_cmpR op_eq (pe_fld (pv 0) rfl) (pe_callB call_len_seq (by rfl) T.len (by decide +kernel) (pa1 (pe_fld (pv 0) rfl))) (nomark _))
      (pss_one ps_never)
      pss_nil)
      (pss_cons (ps_fld (pv 0) (pe_op op_add (pe_fld (pv 0) rfl) pe_int) rfl)
      (pss_one (ps_ret (pe_ix ix_list (pe_fld (pv 0) rfl) (pe_op op_sub (pe_fld (pv 0) rfl) pe_int) (fun _ _ => rfl)))))), ?_⟩
    have hn : n < ps.length := (List.getElem?_eq_some_iff.mp hr').1
    refine ⟨_, rfl, tr, C, dx, _, _, rfl, h1, R.cl, R.place, rfl, _, rfl, tr, C, dx, _, _, rfl, h1, R.cl, R.rows, rfl, sl, _, rfl, .inl (.inl (.inl h2)), rfl, _, rfl, ?_⟩
    rw [dec_ii]
    refine ifF (decide_eq_false (by rw [List.length_map]; omega)) ?_
    refine ⟨_, rfl, tr, C, dx, _, _, rfl, h1, R.cl, R.place, rfl, _, _, rfl, rfl, _, rfl, tr, C, dx, _, rfl, h1, R.cl, R.place, by show 4 < 1000; decide, ?_⟩
    have ef : putF "place" (.int ((n : Int) + 1)) (tF sl x wa n) = tF sl x wa (n + 1) := by
      show ([("rows", V.ref sl), ("program", x), ("worths", V.ref wa), ("place", V.int ((n : Int) + 1))] : List (Str × V)) = ([("rows", V.ref sl), ("program", x), ("worths", V.ref wa), ("place", V.int (((n + 1 : Nat)) : Int))] : List (Str × V))
      rw [show ((n : Int) + 1) = ((n + 1 : Nat) : Int) by omega]
    have nst : sl ≠ tr := ne_of h2 h1 (by intro z; cases z)
    rw [show putF "place" ((fun i j => V.int (i + j)) (n : Int) 1) (tF sl x wa n) = tF sl x wa (n + 1) from ef]
    refine ⟨_, rfl, tr, C, dx, _, _, rfl, upd_same, R.cl, R.rows, rfl, _, rfl, tr, C, dx, _, _, rfl, upd_same, R.cl, R.place, rfl, _, _, rfl, rfl, sl, _, _, .ref r, rfl, rfl, .inl (.inl (by rw [upd_ne nst]; exact h2)), ?_, ?_⟩
    · show atI (ps.map V.ref) (((n + 1 : Nat) : Int) - 1) = some (.ref r)
      rw [show (((n + 1 : Nat) : Int) - 1) = ((n : Nat) : Int) by omega]
      exact atI_nat (by rw [List.getElem?_map, hr']; rfl)
    · have t1 : Tups H (upd H tr (.ins C dx (tF sl x wa (n + 1)))) := .put fun xs e => by rw [h1] at e; cases e
      exact q _ (fun b o e nb => by rw [upd_ne nb]; exact e) ⟨dx, upd_same, by rw [upd_ne nst]; exact h2, h3.mono t1⟩
abbrev N_Trace_passed : List Str := ["self"]
theorem sc_Trace_passed : FnScope N_Trace_passed ["self"] (defScope s_Trace_passed) := ⟨rfl, rfl, rfl, by decide +kernel, rfl, by decide +kernel, by decide +kernel⟩
def spPassed (C : Addr) : Sp := fun vs H Q _ => ∃ (tr sl : Addr) (x : V) (wa : Addr) (ps : List Addr) (rows : List (Path × Int)) (n : Nat), vs = [.ref tr] ∧ TrAt H C tr sl x wa ps rows n ∧ n ≤ rows.length ∧
  ∀ t H', Same H H' → H' t = some (.tup [.int (n : Int), .int ((rows.length - n : Nat) : Int)]) → Q (.ref t) H'
theorem ok_passed (T : Tx K mg) (R : TraceC K C) (G : FnM K C "passed" "Trace.passed" s_Trace_passed) : HasM P w K mg base 1 C "passed" ["self"] (spPassed C) := by
  refine hasM_of (N := N_Trace_passed) G sc_Trace_passed (fun _ _ _ _ _ _ us hl => match us, hl with | [_], _ => rfl) (fun vs H Q E h => ?_) (fun f cdv A outer s0 H vs Q E hr h => ?_)
  · obtain ⟨_, _, _, _, _, _, _, rfl, _⟩ := h
    rfl
  · obtain ⟨tr, sl, x, wa, ps, rows, n, rfl, ⟨dx, h1, h2, h3⟩, hn, q⟩ := h
    refine ⟨_, (pss_one (ps_ret (pt2 (pe_fld (pv 0) rfl) (pe_op op_sub (pe_callB call_len_seq (by rfl) T.len (by decide +kernel) (pa1 (pe_fld (pv 0) rfl))) (pe_fld (pv 0) rfl))))), ?_⟩
    have hl : ps.length = rows.length := h3.length
    refine ⟨_, rfl, tr, C, dx, _, _, rfl, h1, R.cl, R.place, rfl, _, rfl, tr, C, dx, _, _, rfl, h1, R.cl, R.rows, rfl, sl, _, rfl, .inl (.inl (.inl h2)), _, rfl, tr, C, dx, _, _, rfl, h1, R.cl, R.place, rfl, _, _, rfl, rfl, two, fun t ht => ?_⟩
    refine q t _ (same_new ht) ?_
    rw [upd_same]
    show some (HO.tup [V.int (n : Int), V.int (((ps.map V.ref).length : Int) - (n : Int))]) = _
    rw [List.length_map, hl, sub_nat hn]
abbrev N_Trace_outcome : List Str := ["self"]
theorem sc_Trace_outcome : FnScope N_Trace_outcome ["self"] (defScope s_Trace_outcome) := ⟨rfl, rfl, rfl, by decide +kernel, rfl, by decide +kernel, by decide +kernel⟩
def spOutcome (K : PySem.W.Frag) (C : Addr) : Sp := fun vs H Q _ => ∃ (tr sl : Addr) (x : V) (wa : Addr) (ps : List Addr) (rows : List (Path × Int)) (n : Nat) (ins : List (Nm × Sg)) (ds : List Dd) (ws : List Int), vs = [.ref tr] ∧ TrAt H C tr sl x wa ps rows n ∧ PgAt H x ins ds ∧ PgOk ins ds ∧ H wa = some (.tup (ws.map V.int)) ∧ Fits ins ws ∧
  ∀ v H', Same H H' → EndAt K H' v (rnP ins ds ws) → Q v H'
theorem ok_outcome (R : TraceC K C) (h_run : Has P w K mg base 17 "run" ["program", "worths"] (spRun K)) (G : FnM K C "outcome" "Trace.outcome" s_Trace_outcome) : HasM P w K mg base 18 C "outcome" ["self"] (spOutcome K C) := by
  refine hasM_of (N := N_Trace_outcome) G sc_Trace_outcome (fun _ _ _ _ _ _ us hl => match us, hl with | [_], _ => rfl) (fun vs H Q E h => ?_) (fun f cdv A outer s0 H vs Q E hr h => ?_)
  · obtain ⟨_, _, _, _, _, _, _, _, _, _, rfl, _⟩ := h
    rfl
  · obtain ⟨tr, sl, x, wa, ps, rows, n, ins, ds, ws, rfl, ⟨dx, h1, h2, h3⟩, hP, hok, hwa, hfit, q⟩ := h
    refine ⟨_, (pss_one (ps_ret (pe_callH h_run hr (by decide) (pa2 (pe_fld (pv 0) rfl) (pe_fld (pv 0) rfl))))), ?_⟩
    exact ⟨_, rfl, tr, C, dx, _, _, rfl, h1, R.cl, R.program, rfl, _, rfl, tr, C, dx, _, _, rfl, h1, R.cl, R.worths, rfl, x, wa, ins, ds, ws, rfl, hP, hok, hwa, hfit, q⟩
abbrev N_Trace_unseen : List Str := ["self", "some", "path", "worth", "expr"]
theorem sc_Trace_unseen : FnScope N_Trace_unseen ["self"] (defScope s_Trace_unseen) := ⟨rfl, rfl, rfl, by decide +kernel, rfl, by decide +kernel, by decide +kernel⟩
/-- the paths that no row passed has -/
def spUnseen (C : Addr) : Sp := fun vs H Q _ => ∃ (tr sl : Addr) (x : V) (wa : Addr) (ps : List Addr) (rows : List (Path × Int)) (n : Nat) (ins : List (Nm × Sg)) (ds : List Dd), vs = [.ref tr] ∧ TrAt H C tr sl x wa ps rows n ∧ rows.length ≤ 1000000 ∧ PgAt H x ins ds ∧ limB 2 ds ∧
  ∀ D H' bs qs, Same H H' → H' D = some (.lst (bs.map V.ref)) → PasIn H' bs qs → bs.length ≤ kB ds → (∀ q ∈ qs, ∀ v, (q, v) ∉ rows.take n) → Q (.ref D) H'
theorem ok_unseen (T : Tx K mg) (R : TraceC K C) (h_spots : Has P w K mg base 9 "spots" ["program"] spSpotsP) (G : FnM K C "unseen" "Trace.unseen" s_Trace_unseen) : HasM P w K mg base 10 C "unseen" ["self"] (spUnseen C) := by
  refine hasM_of (N := N_Trace_unseen) G sc_Trace_unseen (fun _ _ _ _ _ _ us hl => match us, hl with | [_], _ => rfl) (fun vs H Q E h => ?_) (fun f cdv A outer s0 H vs Q E hr h => ?_)
  · obtain ⟨_, _, _, _, _, _, _, _, _, rfl, _⟩ := h
    rfl
  · obtain ⟨tr, sl, x, wa, ps, rows, n, ins, ds, rfl, ⟨dx, h1, h2, h3⟩, hrl, hP, hlim, q⟩ := h
    refine ⟨_, (pss_cons (ps_set (i := 1) sc_Trace_unseen.nd rfl (.inr rfl) (pe_lc (own := [("path", 2), ("worth", 3)]) rfl sc_Trace_unseen.nd (pi_list (pe_slice sl_list (pe_fld (pv 0) rfl) po_none (po_some (pe_fld (pv 0) rfl)))) (blkOk_by (N := N_Trace_unseen) (sc := defScope s_Trace_unseen) (by decide +kernel)) (fun _ _ _ _ _ => (tupK K (n := 2) (by rfl) (pgs_cons (pg_name (i := 2) sc_Trace_unseen.nd rfl (.inl rfl)) (pgs_cons (pg_name (i := 3) sc_Trace_unseen.nd rfl (.inl rfl)) pgs_nil)))) (fun _ _ _ _ _ => pts_nil) (fun _ _ _ _ _ => (pv 2))))
      (pss_one (ps_ret (pe_lc (own := [("path", 2), ("expr", 4)]) rfl sc_Trace_unseen.nd (pi_list (pe_callH h_spots hr (by decide) (pa1 (pe_fld (pv 0) rfl)))) (blkOk_by (N := N_Trace_unseen) (sc := defScope s_Trace_unseen) (by decide +kernel)) (fun _ _ _ _ _ => (tupK K (n := 2) (by rfl) (pgs_cons (pg_name (i := 2) sc_Trace_unseen.nd rfl (.inl rfl)) (pgs_cons (pg_name (i := 4) sc_Trace_unseen.nd rfl (.inl rfl)) pgs_nil)))) (fun _ _ _ _ _ => (pts_one (pt_cmpR (op_notInK K (hu65 hr)) (pv 2) (pv 1) (by rfl)))) (fun _ _ _ _ _ => (pv 2)))))), ?_⟩
    have hl : ps.length = rows.length := h3.length
    refine ⟨_, rfl, tr, C, dx, _, _, rfl, h1, R.cl, R.rows, rfl, _, rfl, tr, C, dx, _, _, rfl, h1, R.cl, R.place, rfl, _, rfl, sl, _, rfl, .inl (.inl h2), fun c hc => ?_⟩
    have ec : cutV (ps.map V.ref) none (some (n : Int)) = (ps.take n).map V.ref := cutRef ps n
    rw [ec]
    have s1 : Same H (upd H c (.lst ((ps.take n).map V.ref))) := same_new hc
    have e1 : upd H c (.lst ((ps.take n).map V.ref)) c = some (.lst ((ps.take n).map V.ref)) := upd_same
    generalize upd H c (.lst ((ps.take n).map V.ref)) = H1 at s1 e1
    have hsn : SeenIn H1 (ps.take n) (rows.take n) := paired_take n (h3.mono (.of_same s1))
    refine ⟨c, rfl, ⟨_, .inl (.inl e1)⟩, fun D1 hD1 => lc_list (K := K) (a := c) (xs := (ps.take n).map V.ref) (fun i H2 => Same H1 H2 ∧ ∃ bs : List Addr, H2 D1 = some (.lst (bs.map V.ref)) ∧ PasIn H2 bs (((rows.take n).map (·.1)).take i)) ⟨same_new hD1, [], upd_same, .nil⟩ (fun i H2 _ p => .inl (.inl (p.1 _ _ e1))) ?_ ?_⟩
    · rintro i y H2 hi ⟨s2, bs, g1, g2⟩
      rw [List.getElem?_map] at hi
      cases er : (ps.take n)[i]? with
      | none => rw [er] at hi; cases hi
      | some r =>
        rw [er] at hi
        injection hi with hi
        subst hi
        obtain ⟨row, e2, b, e3, e4⟩ := paired_get hsn er
        have hbl : bs.length ≤ i := by have := g2.length; rw [this, List.length_take]; omega
        have hi' : i < (rows.take n).length := (List.getElem?_eq_some_iff.mp e2).1
        rw [List.length_take] at hi'
        have td : Tups H2 (upd H2 D1 (.lst (bs.map V.ref ++ [.ref b]))) := .put fun xs e => by rw [g1] at e; cases e
        refine ⟨r, _, rfl, sq_of (s2 _ _ e3), rfl, _, _, rfl, _, _, rfl, rfl, rfl, ?_⟩
        refine ⟨_, rfl, _, g1, big_line (by rw [List.length_map]; omega), same_put s2 hD1, bs ++ [b], by rw [upd_same, List.map_append]; rfl, ?_⟩
        rw [List.take_add_one, List.getElem?_map, e2]
        exact Paired.snoc (PasIn.mono g2 td) (td _ _ (s2 _ _ e4))
    · rintro H2 ⟨s2, bs, g1, g2⟩
      rw [show ((ps.take n).map V.ref).length = ((rows.take n).map (·.1)).length by rw [List.length_map, List.length_map, List.length_take, List.length_take, hl], List.take_length] at g2
      have s12 := s1.trans s2
      refine ⟨_, rfl, tr, C, dx, _, _, rfl, s12 _ _ h1, R.cl, R.program, rfl, x, ins, ds, rfl, hP.mono (.of_same s12), hlim, fun D3 H3 sp L s3 nD3 e3 hL nL => ?_⟩
      have hkf := kB_few hlim
      have m1 : sp.length = L.length := hL.length
      have g13 := s3 _ _ g1
      have g23 := g2.mono (.of_same s3)
      refine ⟨D3, rfl, ⟨_, .inl (.inl e3)⟩, fun Dl hD => lc_list (K := K) (a := D3) (xs := sp.map V.ref) (fun i H4 => Same H3 H4 ∧ ∃ cs qs, H4 Dl = some (.lst (cs.map V.ref)) ∧ PasIn H4 cs qs ∧ cs.length ≤ i ∧ ∀ q ∈ qs, q ∉ (rows.take n).map (·.1)) ⟨same_new hD, [], [], upd_same, .nil, Nat.le_refl _, fun q hq => (nomatch hq)⟩ (fun i H4 _ p => .inl (.inl (p.1 _ _ e3))) ?_ ?_⟩
      · rintro i y H4 hi ⟨s4, cs, qs, k1, k2, k3, k4⟩
        rw [List.getElem?_map] at hi
        cases er : sp[i]? with
        | none => rw [er] at hi; cases hi
        | some r =>
          rw [er] at hi
          injection hi with hi
          subst hi
          obtain ⟨z, e5, b, v, h5, h6, h7, h8⟩ := paired_get hL er
          have hi' : i < sp.length := (List.getElem?_eq_some_iff.mp er).1
          refine ⟨r, _, rfl, sq_of (s4 _ _ h5), rfl, _, _, rfl, _, _, rfl, rfl, rfl, ?_⟩
          refine ⟨_, rfl, _, rfl, encT z.1, _, dp_path (sq_of (s4 _ _ h6)), .lst (.inl (.inl (s4 _ _ g13))) (dpAll_pas (g23.mono (.of_same s4))), shaped_path _, shaped_pas _, _, rfl, ?_⟩
          rw [any_path]
          refine ifC (fun cc => ?_) fun cc => ⟨s4, cs, qs, k1, k2, by omega, k4⟩
          have cc : z.1 ∉ (rows.take n).map (·.1) := by simpa using cc
          have td : Tups H4 (upd H4 Dl (.lst (cs.map V.ref ++ [.ref b]))) := .put fun xs e => by rw [k1] at e; cases e
          refine ⟨_, rfl, _, k1, big_line (by rw [List.length_map]; omega), same_put s4 hD, cs ++ [b], qs ++ [z.1], by rw [upd_same, List.map_append]; rfl, Paired.snoc (PasIn.mono k2 td) (td _ _ (s4 _ _ h6)), by rw [List.length_append, List.length_singleton]; omega, fun q hq => ?_⟩
          rcases List.mem_append.mp hq with hq | hq
          · exact k4 q hq
          · rw [List.mem_singleton.mp hq]
            exact cc
      · rintro H4 ⟨s4, cs, qs, k1, k2, k3, k4⟩
        rw [List.length_map] at k3
        exact q Dl H4 cs qs (s12.trans (s3.trans s4)) k1 k2 (by omega) fun q' hq v hv => k4 q' hq (List.mem_map.mpr ⟨_, hv, rfl⟩)
where
  cutRef : ∀ (ps : List Addr) (k : Nat), cutV (ps.map V.ref) none (some (k : Int)) = (ps.take k).map V.ref := by
    intro ps k
    unfold cutV
    rw [HT.sIx_none, HT.sIx_nat, List.drop_zero, Nat.sub_zero, List.length_map, List.map_take]
    by_cases h : k ≤ ps.length
    · rw [Nat.min_eq_left h]
    · rw [Nat.min_eq_right (by omega), List.take_of_length_le (by rw [List.length_map]; exact Nat.le_refl _), List.take_of_length_le (by rw [List.length_map]; omega)]
  paired_take : ∀ {α β : Type} {F : α → β → Prop} {l : List α} {m : List β} (n : Nat), Paired F l m → Paired F (l.take n) (m.take n) := by
    intro α β F l m n h
    induction h generalizing n with
    | nil => rw [List.take_nil, List.take_nil]; exact .nil
    | cons h t ih =>
      cases n with
      | zero => exact .nil
      | succ n => exact .cons h (ih n)
  any_path : ∀ {qs : List Path} {p : Path}, (!(qs.map encT).any fun z => PyData.eqv z (encT p)) = decide (p ∉ qs) := by
    intro qs p
    induction qs with
    | nil => simp
    | cons q r ih =>
      rw [List.map_cons, List.any_cons, eqv_path, Bool.not_or, ih]
      by_cases h : q = p
      · subst h; simp
      · have h' : ¬ p = q := fun e => h e.symm
        simp [h, h']
end
end Sr
end
section
set_option Elab.async false
set_option linter.all false
set_option maxRecDepth 100000
set_option maxHeartbeats 4000000
/-! walks: all_worths, exact -/
namespace Sr
open PySem PySem.Spec PyProof.Rows L2 SrM SrK
/-! ### all worths -/
def wRow (s : Sg) (w : List Int) : List (List Int) := (List.range (s.2 + 1 - s.1).toNat).map fun i => w ++ [s.1 + (i : Nat)]
def wStep (made : List (List Int)) (s : Sg) : List (List Int) := made.flatMap (wRow s)
def allW (ins : List (Nm × Sg)) : List (List Int) := ins.foldl (fun m r => wStep m r.2) [[]]
theorem allW_snoc (ins : List (Nm × Sg)) (r : Nm × Sg) : allW (ins ++ [r]) = wStep (allW ins) r.2 := by
  unfold allW
  rw [List.foldl_append]
  rfl
theorem wStep_append (a b : List (List Int)) (s : Sg) : wStep (a ++ b) s = wStep a s ++ wStep b s := by
  unfold wStep
  rw [List.flatMap_append]
theorem wStep_one (a : List Int) (s : Sg) : wStep [a] s = wRow s a := by
  unfold wStep
  simp
theorem fits_snoc {ins : List (Nm × Sg)} {ws : List Int} {r : Nm × Sg} {v : Int} (h : Fits ins ws) (hv : has r.2 v) : Fits (ins ++ [r]) (ws ++ [v]) := by
  refine ⟨by rw [List.length_append, List.length_append, h.1]; rfl, fun i r' v' e1 e2 => ?_⟩
  by_cases hi : i < ins.length
  · rw [List.getElem?_append_left hi] at e1
    rw [List.getElem?_append_left (by rw [h.1]; exact hi)] at e2
    exact h.2 i r' v' e1 e2
  · have hl : i = ins.length := by
      have := (List.getElem?_eq_some_iff.mp e1).1
      rw [List.length_append, List.length_singleton] at this
      omega
    subst hl
    rw [List.getElem?_append_right (Nat.le_refl _), Nat.sub_self] at e1
    rw [← h.1, List.getElem?_append_right (Nat.le_refl _), Nat.sub_self] at e2
    have e1 : r = r' := by simpa using e1
    have e2 : v = v' := by simpa using e2
    rw [← e1, ← e2]
    exact hv
theorem allW_fits' : ∀ (m : Nat) (ins : List (Nm × Sg)), ins.length = m → ∀ ws ∈ allW ins, Fits ins ws
  | 0, ins, hl, ws, h => by
    have : ins = [] := List.length_eq_zero_iff.mp hl
    subst this
    have : ws = [] := by simpa [allW] using h
    subst this
    exact ⟨rfl, fun i r v e => by simp at e⟩
  | m + 1, ins, hl, ws, h => by
    obtain ⟨r0, r, e⟩ : ∃ r0 r, ins = r0 ++ [r] := by
      rcases List.eq_nil_or_concat ins with e | ⟨r0, r, e⟩
      · rw [e] at hl; cases hl
      · exact ⟨r0, r, by rw [e, List.concat_eq_append]⟩
    subst e
    rw [allW_snoc] at h
    unfold wStep at h
    obtain ⟨w0, h0, h1⟩ := List.mem_flatMap.mp h
    obtain ⟨i, hi, e⟩ := List.mem_map.mp h1
    have hi := List.mem_range.mp hi
    subst e
    refine fits_snoc (allW_fits' m r0 (by rw [List.length_append, List.length_singleton] at hl; omega) w0 h0) ⟨?_, ?_⟩
    · omega
    · omega
theorem allW_fits {ins : List (Nm × Sg)} {ws : List Int} (h : ws ∈ allW ins) : Fits ins ws := allW_fits' _ ins rfl ws h
theorem wRow_len (s : Sg) (w : List Int) : (wRow s w).length = (s.2 + 1 - s.1).toNat := by
  unfold wRow
  rw [List.length_map, List.length_range]
theorem wStep_len {made : List (List Int)} {s : Sg} (h : s.2 ≤ s.1 + 2) : (wStep made s).length ≤ 3 * made.length := by
  induction made with
  | nil => exact Nat.zero_le _
  | cons a r ih =>
    rw [show a :: r = [a] ++ r from rfl, wStep_append, wStep_one, List.length_append, wRow_len, List.length_append, List.length_singleton]
    omega
section
variable {P : Program} {w : World} {K : PySem.W.Frag} {mg : Str → Option Value} {base : Heap} {C : Addr}
abbrev N_all_worths : List Str := ["program", "made", "name", "low", "high", "longer", "worths", "worth"]
theorem sc_all_worths : FnScope N_all_worths ["program"] (defScope s_all_worths) := ⟨rfl, rfl, rfl, by decide +kernel, rfl, by decide +kernel, by decide +kernel⟩
def spAll : Sp := fun vs H Q _ => ∃ (x : V) (ins : List (Nm × Sg)) (ds : List Dd), vs = [x] ∧ PgAt H x ins ds ∧ PgOk ins ds ∧ ∀ D H' bs, Same H H' → H' D = some (.lst (bs.map V.ref)) → PasIn H' bs (allW ins) → (allW ins).length ≤ 9 → Q (.ref D) H'
theorem ok_all_worths (T : Tx K mg) (G : FnG K mg "all_worths" s_all_worths) : Has P w K mg base 1 "all_worths" ["program"] spAll := by
  refine has_of (N := N_all_worths) G sc_all_worths (fun _ _ _ _ _ _ us hl => match us, hl with | [_], _ => rfl) (fun vs H Q E h => ?_) (fun f cdv A outer s0 H vs Q E hr h => ?_)
  · obtain ⟨_, _, _, rfl, _⟩ := h
    rfl
  · obtain ⟨x, ins, ds, rfl, ⟨ap, a, b, vb, rfl, hp, ⟨rs, ha, hrs⟩, _⟩, hok, q⟩ := h
    refine ⟨_, (pss_cons (ps_set (i := 1) sc_all_worths.nd rfl (.inl rfl) (pe_lst (pa1 (pe_tup pa_nil))))
      (pss_cons (ps_for PassesOwn.never rfl (pi_tup (ixc (pv 0))) (pg_tup (by rfl) (pgs_cons (pg_name (i := 2) sc_all_worths.nd rfl (.inl rfl)) (pgs_cons (pg_name (i := 3) sc_all_worths.nd rfl (.inl rfl)) (pgs_cons (pg_name (i := 4) sc_all_worths.nd rfl (.inl rfl)) pgs_nil))))
      (pss_cons (ps_set (i := 5) sc_all_worths.nd rfl (.inl rfl) (pe_lst pa_nil))
      (pss_cons (ps_for PassesOwn.never rfl (pi_list (pv 1)) (pg_name (i := 6) sc_all_worths.nd rfl (.inr rfl))
      (pss_one (ps_expr (pe_bm PySem.F.plainAttrs_list PySem.F.slot_list_extend PySem.F.type_list_extend mt_extend (pv 5) (pa1 (pe_lc (own := [("worth", 7)]) rfl sc_all_worths.nd (pi_range2 (by rfl) T.range (pa2 (pv 3) (pe_op op_add (pv 4) pe_int))) (blkOk_by (N := N_all_worths) (sc := defScope s_all_worths) (by decide +kernel)) (fun _ _ _ _ _ => (pg_name (i := 7) sc_all_worths.nd rfl (.inl rfl))) (fun _ _ _ _ _ => pts_nil) (fun _ _ _ _ _ => (pe_op op_path (pv 6) (pe_tup (pa1 (pv 7)))))))))))
      (pss_one (ps_set (i := 1) sc_all_worths.nd rfl (.inl rfl) (pv 5))))))
      (pss_one (ps_ret (pv 1))))), ?_⟩
    have hlen : rs.length = ins.length := hrs.length
    refine ⟨Nat.zero_le _, fun t ht => ⟨one_line, fun l hl => ?_⟩⟩
    have s1 : Same H (upd (upd H t (.tup [])) l (.lst [.ref t])) := (same_new ht).trans (same_new hl)
    have et : (upd (upd H t (.tup [])) l (.lst [.ref t])) t = some (.tup []) := same_new hl _ _ upd_same
    have el : (upd (upd H t (.tup [])) l (.lst [.ref t])) l = some (.lst [.ref t]) := upd_same
    generalize upd (upd H t (.tup [])) l (.lst [.ref t]) = H1 at s1 et el
    refine ⟨_, rfl, _, _, _, _, rfl, rfl, sq_of (s1 _ _ hp), at0, a, rfl, ⟨_, sq_of (s1 _ _ ha)⟩, for_tup (K := K) (a := a) (xs := rs.map V.ref) (fun i σ H' => ∃ D bs y2 y3 y4 y5 y6, σ = [some (.ref ap), some (.ref D), y2, y3, y4, y5, y6, none] ∧ Same H H' ∧ H' D = some (.lst (bs.map V.ref)) ∧ PasIn H' bs (allW (ins.take i)) ∧ bs.length ≤ 3 ^ i)
      ⟨l, [t], none, none, none, none, none, rfl, s1, el, .cons et .nil, Nat.le_refl _⟩ (fun i σ H' _ ⟨_, _, _, _, _, _, _, _, s, _⟩ => sq_of (s _ _ ha)) ?_ ?_⟩
    · rintro i y σ H2 hi ⟨D, bs, y2, y3, y4, y5, y6, rfl, s2, g1, g2, g3⟩
      rw [List.getElem?_map] at hi
      cases er : rs[i]? with
      | none => rw [er] at hi; cases hi
      | some r =>
        rw [er] at hi
        injection hi with hi
        subst hi
        obtain ⟨row, e1, e2⟩ := paired_get hrs er
        obtain ⟨z, s⟩ := row
        have e2 : H r = some (.tup [.str (nS z), .int s.1, .int s.2]) := e2
        have e3 := s2 _ _ e2
        have hmem := List.mem_of_getElem? e1
        have hwi : Wi s := hok.wi _ hmem
        have hth : s.2 ≤ s.1 + 2 := hok.thin _ hmem
        have hi' : i < ins.length := (List.getElem?_eq_some_iff.mp e1).1
        have hi2 : i < 2 := by have := hok.few; omega
        have h9 : bs.length ≤ 3 := by
          have : (3 : Nat) ^ i ≤ 3 ^ 1 := Nat.pow_le_pow_right (by decide) (by omega)
          omega
        unfold Wi at hwi
        refine ⟨r, _, rfl, sq_of e3, rfl, _, _, rfl, _, _, rfl, _, _, rfl, rfl, ?_⟩
        refine ⟨Nat.zero_le _, fun L hL => ?_⟩
        have s3 := s2.trans (same_new (o := HO.lst []) hL)
        have hL0 : H L = none := s2.free hL
        have nDL : D ≠ L := ne_of_none g1 hL
        refine ⟨_, rfl, D, rfl, ⟨_, .inl (.inl (by rw [upd_ne nDL]; exact g1))⟩, for_list (K := K) (a := D) (xs := bs.map V.ref) (fun j σ H' => ∃ y6 cs, σ = [some (.ref ap), some (.ref D), some (.str (nS z)), some (.int s.1), some (.int s.2), some (.ref L), y6, none] ∧ Same H H' ∧ H' D = some (.lst (bs.map V.ref)) ∧ PasIn H' bs (allW (ins.take i)) ∧ H' L = some (.lst (cs.map V.ref)) ∧ PasIn H' cs (wStep ((allW (ins.take i)).take j) s) ∧ cs.length ≤ 3 * j)
          ⟨_, [], rfl, s3, by rw [upd_ne nDL]; exact g1, g2.mono (.new hL), upd_same, .nil, Nat.le_refl _⟩ (fun j σ H' _ ⟨_, _, _, _, e, _⟩ => .inl (.inl e)) ?_ ?_⟩
        · rintro j y σ H4 hj ⟨y6, cs, rfl, s4, k1, k2, k3, k4, k5⟩
          rw [List.getElem?_map] at hj
          cases eb : bs[j]? with
          | none => rw [eb] at hj; cases hj
          | some bb =>
            rw [eb] at hj
            injection hj with hj
            subst hj
            obtain ⟨wv, ew, hwv⟩ := paired_get k2 eb
            have hj' : j < bs.length := (List.getElem?_eq_some_iff.mp eb).1
            have hfit := allW_fits (List.mem_of_getElem? ew)
            have hwl : wv.length ≤ 2 := by
              have := hfit.1
              rw [List.length_take] at this
              omega
            refine ⟨_, rfl, .inl ⟨rfl, _, .inl (.inl k3)⟩, ?_⟩
            refine ⟨_, rfl, _, rfl, _, _, rfl, rfl, _, _, rfl, ⟨by omega, by omega, by omega, by omega⟩, fun D5 hD5 => ?_⟩
            have en : (s.2 + 1 - s.1).toNat ≤ 3 := by omega
            refine lc_range (lo := s.1) (n := (s.2 + 1 - s.1).toNat) (fun m H5 => Same H4 H5 ∧ ∃ us : List Addr, H5 D5 = some (.lst (us.map V.ref)) ∧ PasIn H5 us ((List.range m).map fun i => wv ++ [s.1 + (i : Nat)])) ⟨same_new hD5, [], upd_same, .nil⟩ ?_ ?_
            · rintro m H5 hm ⟨s5, us, u1, u2⟩
              have hul : us.length = m := by have := u2.length; rw [this, List.length_map, List.length_range]
              refine ⟨rfl, _, rfl, _, rfl, one_line, fun t6 ht6 => ⟨wv, s.1 + (m : Nat), t6, ⟨bb, rfl, same_new ht6 _ _ (s5 _ _ hwv)⟩, rfl, upd_same, by omega, fun v7 H7 s7 hv7 => ?_⟩⟩
              have s57 := (same_new ht6).trans s7
              obtain ⟨b7, rfl, hb7⟩ := hv7
              have u1' := s57 _ _ u1
              have td : Tups H7 (upd H7 D5 (.lst (us.map V.ref ++ [.ref b7]))) := .put fun xs e => by rw [u1'] at e; cases e
              refine ⟨_, u1', small_line (by rw [List.length_map]; omega), same_put (s5.trans s57) hD5, us ++ [b7], by rw [upd_same, List.map_append]; rfl, ?_⟩
              rw [List.range_succ, List.map_append]
              exact Paired.snoc (PasIn.mono u2 ((Tups.of_same s57).trans td)) (td _ _ hb7)
            · rintro H5 ⟨s5, us, u1, u2⟩
              have hul : us.length ≤ 3 := by have := u2.length; rw [this, List.length_map, List.length_range]; exact en
              have k3' := s5 _ _ k3
              have td : Tups H5 (upd H5 L (.lst (cs.map V.ref ++ us.map V.ref))) := .put fun xs e => by rw [k3'] at e; cases e
              have s45 := s4.trans s5
              have nLD : D ≠ L := nDL
              refine ⟨L, D5, _, _, rfl, rfl, k3', u1, by rw [List.length_map, List.length_map]; exact Nat.le_of_lt (small_line (by omega)), ?_⟩
              refine ⟨_, cs ++ us, rfl, same_put s45 hL0, by rw [upd_ne nLD]; exact s5 _ _ k1, (k2.mono (.of_same s5)).mono td, by rw [upd_same, List.map_append], ?_, by rw [List.length_append]; omega⟩
              rw [List.take_add_one, ew, wStep_append]
              refine paired_app ((PasIn.mono k4 (.of_same s5)).mono td) ?_
              rw [show (some wv).toList = [wv] from rfl, wStep_one]
              exact PasIn.mono u2 td
        · rintro σ H4 ⟨y6, cs, rfl, s4, k1, k2, k3, k4, k5⟩
          have hbl : bs.length = (allW (ins.take i)).length := k2.length
          rw [show (bs.map V.ref).length = (allW (ins.take i)).length by rw [List.length_map, hbl], List.take_length] at k4
          refine ⟨_, rfl, L, cs, _, _, _, _, _, rfl, s4, k3, ?_, ?_⟩
          · rw [List.take_add_one, e1]
            rw [show (some (z, s)).toList = [(z, s)] from rfl, allW_snoc]
            exact k4
          · rw [List.length_map] at k5
            have : (3 : Nat) ^ (i + 1) = 3 ^ i * 3 := Nat.pow_succ _ _
            omega
    · rintro σ H2 ⟨D, bs, y2, y3, y4, y5, y6, rfl, s2, g1, g2, g3⟩
      rw [show (rs.map V.ref).length = ins.length by rw [List.length_map, hlen]] at g3
      rw [show (rs.map V.ref).length = ins.length by rw [List.length_map, hlen], List.take_length] at g2
      refine ⟨_, rfl, q D H2 bs s2 g1 g2 ?_⟩
      have h1 : bs.length = (allW ins).length := g2.length
      have h2 : (3 : Nat) ^ ins.length ≤ 3 ^ 2 := Nat.pow_le_pow_right (by decide) hok.few
      omega
end
end Sr
end
section
set_option Elab.async false
set_option linter.all false
set_option maxRecDepth 100000
set_option maxHeartbeats 4000000
/-! walks: exact -/
namespace Sr
open PySem PySem.Spec PyProof.Rows L2 SrM SrK
theorem sat_ins {ins : List (Nm × Sg)} {ws : List Int} (hf : Fits ins ws) (nd : (ins.map (·.1)).Nodup) : sat (bkOf ins) (envOf (ins.map (·.1)) ws) := fun x s e => by
  have hm := wide_ins.bkOf_mem_of e
  obtain ⟨i, hi, ei⟩ := List.mem_iff_getElem.mp hm
  have hl := hf.1
  have hw : i < ws.length := by rw [hf.1]; exact hi
  refine ⟨ws[i], ?_, hf.2 i (x, s) _ (by rw [List.getElem?_eq_getElem hi, ei]) (List.getElem?_eq_getElem hw)⟩
  unfold envOf
  refine lookup_mem (by rw [List.map_fst_zip (by rw [List.length_map]; omega)]; exact nd) ?_
  refine List.mem_iff_getElem.mpr ⟨i, by rw [List.length_zip, List.length_map]; omega, ?_⟩
  rw [List.getElem_zip, List.getElem_map, ei]
/-- each row of a run lies in a stretch that is noted -/
theorem row_note {ins : List (Nm × Sg)} {ds : List Dd} {ws : List Int} (h : PgOk ins ds) (hf : Fits ins ws) {q : Path} {v : Int} (hr : (q, v) ∈ (rnP ins ds ws).seen) : ∃ s, (q, s) ∈ ntsOf ins ds ∧ has s v := by
  obtain ⟨⟨rows, e, hrow⟩, _⟩ := aB_ok ds 0 [] (fun x => x ∈ ins.map (·.1)) h.wf (bkOf ins) ⟨envOf (ins.map (·.1)) ws, [], none⟩ (wide_ins h) (dom_ins h.nd) (sat_ins hf h.nd) rfl
  unfold rnP at hr
  rw [e] at hr
  exact hrow q v (by simpa using hr)
/-- seen in a run of some worths -/
def SeenAll (ins : List (Nm × Sg)) (ds : List Dd) (q : Path) : Prop := ∃ ws ∈ allW ins, ∃ v, (q, v) ∈ (rnP ins ds ws).seen
theorem seen_note {ins : List (Nm × Sg)} {ds : List Dd} (h : PgOk ins ds) {q : Path} (hq : SeenAll ins ds q) : ∃ s, (q, s) ∈ ntsOf ins ds := by
  obtain ⟨ws, hw, v, hv⟩ := hq
  obtain ⟨s, hs, _⟩ := row_note h (allW_fits hw) hv
  exact ⟨s, hs⟩
section
variable {P : Program} {w : World} {K : PySem.W.Frag} {mg : Str → Option Value} {base : Heap} {C : Addr}
abbrev N_exact : List Str := ["program", "made", "worths", "path", "worth"]
theorem sc_exact : FnScope N_exact ["program"] (defScope s_exact) := ⟨rfl, rfl, rfl, by decide +kernel, rfl, by decide +kernel, by decide +kernel⟩
def spExact : Sp := fun vs H Q _ => ∃ (x : V) (ins : List (Nm × Sg)) (ds : List Dd), vs = [x] ∧ PgAt H x ins ds ∧ PgOk ins ds ∧ ∀ D H' rs (zs : List (Path × Sg)), Same H H' → H' D = some (.lst (rs.map V.ref)) → Paired (ShRow H') rs zs → rs.length ≤ 1000000 → (∀ z ∈ zs, SeenAll ins ds z.1) → Q (.ref D) H'
/-- the dict of what is seen -/
def ExI (K : PySem.W.Frag) (H : Hp) (ins : List (Nm × Sg)) (ds : List Dd) (m : Addr) (H' : Hp) : Prop := Same H H' ∧ ∃ mkv f, H' m = some (.dT mkv) ∧ PAt (IsSt K H') mkv f ∧ ∀ q, (f q).isSome = true → SeenAll ins ds q
theorem ExI.few {K : PySem.W.Frag} {H' : Hp} {ins : List (Nm × Sg)} {ds : List Dd} {mkv : List (List Key × V)} {f : Path → Option Sg} (h : PgOk ins ds) (p : PAt (IsSt K H') mkv f) (hs : ∀ q, (f q).isSome = true → SeenAll ins ds q) : mkv.length ≤ 1000000 := by
  obtain ⟨qs, e, nd⟩ := p.ks
  have e1 : mkv.length = qs.length := by have := congrArg List.length e; rw [List.length_map, List.length_map] at this; exact this
  have e2 := ok_paper_for.sub_len qs ((ntsOf ins ds).map (·.1)) nd fun q hq => by
    obtain ⟨s, m⟩ := seen_note h (hs q ((p.mem e q).mp hq))
    exact List.mem_map.mpr ⟨_, m, rfl⟩
  rw [List.length_map] at e2
  have e3 : (ntsOf ins ds).length ≤ 1000000 := notes_few h.lim 0 [] (bkOf ins)
  omega
theorem ExI.same {K : PySem.W.Frag} {H H1 H2 : Hp} {ins : List (Nm × Sg)} {ds : List Dd} {m : Addr} (h : ExI K H ins ds m H1) (s : Same H1 H2) : ExI K H ins ds m H2 := by
  obtain ⟨s1, mkv, f, e, p, q⟩ := h
  exact ⟨s1.trans s, mkv, f, s _ _ e, p.mono fun v s' e => e.mono (.of_same s), q⟩
theorem ok_exact (T : Tx K mg) (h_all_worths : Has P w K mg base 1 "all_worths" ["program"] spAll) (h_traced : Has P w K mg base 17 "traced" ["program", "worths"] spTraced) (h_joined : Has P w K mg base 1 "joined" ["one", "other"] (spO2 K oJ)) (G : FnG K mg "exact" s_exact) : Has P w K mg base 18 "exact" ["program"] spExact := by
  refine has_of (N := N_exact) G sc_exact (fun _ _ _ _ _ _ us hl => match us, hl with | [_], _ => rfl) (fun vs H Q E h => ?_) (fun f cdv A outer s0 H vs Q E hr h => ?_)
  · obtain ⟨_, _, _, rfl, _⟩ := h
    rfl
  · obtain ⟨x, ins, ds, rfl, hP, hok, q⟩ := h
    refine ⟨_, (pss_cons (ps_set (i := 1) sc_exact.nd rfl (.inr rfl) pe_dnewT)
      (pss_cons (ps_for PassesOwn.never rfl (pi_list (pe_callH h_all_worths hr (by decide) (pa1 (pv 0)))) (pg_name (i := 2) sc_exact.nd rfl (.inl rfl))
      (pss_one (ps_for PassesOwn.never rfl (pi_list (pe_callH h_traced hr (by decide) (pa2 (pv 0) (pv 2)))) (pg_tup (by rfl) (pgs_cons (pg_name (i := 3) sc_exact.nd rfl (.inl rfl)) (pgs_cons (pg_name (i := 4) sc_exact.nd rfl (.inl rfl)) pgs_nil)))
      (pss_one (ps_dput (hu1 hr) (pv 1) (pv 3) (pe_callH h_joined hr (by decide) (pa2 (pe_dget1 (hu1 hr) (pv 1) (pv 3) ⟨rfl, rfl, rfl, rfl⟩) (pt2 (pv 4) (pv 4)))) rfl)))))
      (pss_one (ps_ret (pe_lc (own := [("path", 3)]) rfl sc_exact.nd (pi_list (pe_callB (cr_sortedA (hu66 hr)) (by rfl) T.sorted (by decide +kernel) (pa1 (pe_callTy (call_list_dT rfl) (by rfl) T.list (by decide +kernel) (pa1 (pv 1)))))) (blkOk_by (N := N_exact) (sc := defScope s_exact) (by decide +kernel)) (fun _ _ _ _ _ => (pg_name (i := 3) sc_exact.nd rfl (.inl rfl))) (fun _ _ _ _ _ => pts_nil) (fun _ _ _ _ _ => (pe_op (op_catK K) (pe_tup (pa1 (pv 3))) (pe_dget (hu1 hr) (pv 1) (pv 3) (fun _ _ => rfl))))))))), ?_⟩
    intro m hm
    have hI0 : ExI K H ins ds m (upd H m (.dT [])) := ⟨same_new hm, [], fun _ => none, upd_same, PAt.nil, fun q h => (nomatch h)⟩
    refine ⟨_, rfl, x, ins, ds, rfl, hP.mono (.new hm), hok, fun D H1 bs s1 eD hbs h9 => ?_⟩
    have hI1 := hI0.same s1
    refine ⟨D, rfl, ⟨_, .inl (.inl eD)⟩, for_list (K := K) (a := D) (xs := bs.map V.ref) (fun i σ H' => ∃ y2 y3 y4, σ = [some x, some (.ref m), y2, y3, y4] ∧ ExI K H ins ds m H' ∧ H' D = some (.lst (bs.map V.ref)) ∧ PasIn H' bs (allW ins))
      ⟨none, none, none, rfl, hI1, eD, hbs⟩ (fun i σ H' _ ⟨_, _, _, _, _, e, _⟩ => .inl (.inl e)) ?_ ?_⟩
    · rintro i y σ H2 hi ⟨y2, y3, y4, rfl, hI2, eD2, hbs2⟩
      rw [List.getElem?_map] at hi
      cases eb : bs[i]? with
      | none => rw [eb] at hi; cases hi
      | some b =>
        rw [eb] at hi
        injection hi with hi
        subst hi
        obtain ⟨ws, ew, hwb⟩ := paired_get hbs2 eb
        have hwm := List.mem_of_getElem? ew
        refine ⟨_, rfl, _, rfl, x, b, ins, ds, ws, rfl, hP.mono (.of_same hI2.1), hok, hwb, allW_fits hwm, fun sl H3 ps s3 _ esl hps => ?_⟩
        have hI3 := hI2.same s3
        have hsl := seen_few (ws := ws) hok
        have hpl : ps.length = (rnP ins ds ws).seen.length := hps.length
        refine ⟨sl, rfl, ⟨_, .inl (.inl esl)⟩, for_list (K := K) (a := sl) (xs := ps.map V.ref) (fun j σ H' => ∃ y3 y4, σ = [some x, some (.ref m), some (.ref b), y3, y4] ∧ ExI K H ins ds m H' ∧ H' D = some (.lst (bs.map V.ref)) ∧ PasIn H' bs (allW ins) ∧ H' sl = some (.lst (ps.map V.ref)) ∧ SeenIn H' ps (rnP ins ds ws).seen)
          ⟨_, _, rfl, hI3, s3 _ _ eD2, hbs2.mono (.of_same s3), esl, hps⟩ (fun j σ H' _ ⟨_, _, _, _, _, _, e, _⟩ => .inl (.inl e)) ?_ ?_⟩
        · rintro j y σ H4 hj ⟨y3, y4, rfl, hI4, eD4, hbs4, esl4, hps4⟩
          rw [List.getElem?_map] at hj
          cases er : ps[j]? with
          | none => rw [er] at hj; cases hj
          | some r =>
            rw [er] at hj
            injection hj with hj
            subst hj
            obtain ⟨⟨rq, rv⟩, e1, pq, e2, e3⟩ := paired_get hps4 er
            have e2 : H4 r = some (.tup [.ref pq, .int rv]) := e2
            have e3 : H4 pq = some (.tup (rq.map V.int)) := e3
            have hseen : SeenAll ins ds rq := ⟨ws, hwm, rv, List.mem_of_getElem? e1⟩
            obtain ⟨sH4, mkv, f, em, pm, hf⟩ := id hI4
            refine ⟨r, _, rfl, sq_of e2, rfl, _, _, rfl, _, _, rfl, rfl, ?_⟩
            refine ⟨_, rfl, m, rfl, .inr ⟨_, .inl em⟩, _, rfl, _, DGet.t (k := pK rq) em (by rw [pK_kV]; exact e3), ?_⟩
            refine ⟨_, rfl, _, rfl, two, fun t ht => ?_⟩
            have s5 : Same H4 (upd H4 t (.tup [.int rv, .int rv])) := same_new ht
            have hold : IsO K (upd H4 t (.tup [.int rv, .int rv])) ((valV mkv (pK rq)).getD .non) (f rq) := by
              cases ef : f rq with
              | none => rw [pm.no rq ef]; rfl
              | some s =>
                obtain ⟨v, ev, hv⟩ := pm.so rq s ef
                rw [ev]
                exact IsSt.mono (.of_same s5) hv
            refine ⟨_, _, f rq, some (rv, rv), rfl, hold, ⟨t, rfl, .inl upd_same⟩, fun v6 H6 s6 h6 => ?_⟩
            obtain ⟨s', es'⟩ : ∃ s', oJ (f rq) (some (rv, rv)) = some s' := by cases f rq <;> exact ⟨_, rfl⟩
            rw [es'] at h6
            have s56 := s5.trans s6
            have em6 := s56 _ _ em
            have hmf := ExI.few hok pm hf
            refine ⟨_, rfl, _, rfl, m, _, rfl, DPut.t (k := pK rq) em6 (by rw [pK_kV]; exact s56 _ _ e3) (big_line (by omega)), ?_⟩
            have td : Tups H6 (upd H6 m (.dT (putK mkv (pK rq) v6))) := .put fun xs e => by rw [em6] at e; cases e
            refine ⟨_, _, rfl, ⟨same_put (sH4.trans s56) hm, _, putP f rq s', upd_same, (pm.mono fun v s e => (e.mono (.of_same s56)).mono td).put (IsSt.mono td h6), fun q' hq' => ?_⟩, ?_, (hbs4.mono (.of_same s56)).mono td, ?_, (hps4.mono (.of_same s56)).mono td⟩
            · by_cases c : q' = rq
              · rw [c]; exact hseen
              · rw [putP_ne c] at hq'
                exact hf q' hq'
            · rw [upd_ne (ne_of (s56 _ _ eD4) em6 (by intro z; cases z))]
              exact s56 _ _ eD4
            · rw [upd_ne (ne_of (s56 _ _ esl4) em6 (by intro z; cases z))]
              exact s56 _ _ esl4
        · rintro σ H4 ⟨y3, y4, rfl, hI4, eD4, hbs4, _, _⟩
          exact ⟨_, y3, y4, rfl, hI4, eD4, hbs4⟩
    · rintro σ H2 ⟨y2, y3, y4, rfl, ⟨sH2, mkv, f, em, pm, hf⟩, _, _⟩
      obtain ⟨qs, ekq, qnd⟩ := pm.ks
      refine ⟨_, rfl, m, mkv, rfl, .inl em, fun l1 bs1 hl hbs1 => ?_⟩
      have hb0 : PasIn H2 bs1 qs := ok_paper_for.keys_pas hbs1 ekq
      have hb1 : PasIn (upd H2 l1 (.lst (bs1.map V.ref))) bs1 qs := hb0.mono (.new hl)
      have hqne : ∀ p ∈ qs, p ≠ [] := fun p hp => by
        obtain ⟨s, ms⟩ := seen_note hok (hf p ((pm.mem ekq p).mp hp))
        exact from_ne ((aB_ku ds 0 [] (bkOf ins)).notes.all _ ms)
      refine ⟨l1, bs1.map V.ref, encPa (upd H2 l1 (.lst (bs1.map V.ref))), rfl, .inl (.inl upd_same), pas_dp hb1, pas_alike hb1, pas_sortable hb1 hqne, fun l2 hl2 => ?_⟩
      obtain ⟨bs', qs', es, hb', hperm, hpw⟩ := pas_sorted hb1
      rw [es]
      have s7 : Same H2 (upd (upd H2 l1 (.lst (bs1.map V.ref))) l2 (.lst (bs'.map V.ref))) := (same_new hl).trans (same_new hl2)
      have e7 : (upd (upd H2 l1 (.lst (bs1.map V.ref))) l2 (.lst (bs'.map V.ref))) l2 = some (.lst (bs'.map V.ref)) := upd_same
      have hb7 : PasIn (upd (upd H2 l1 (.lst (bs1.map V.ref))) l2 (.lst (bs'.map V.ref))) bs' qs' := hb'.mono (.new hl2)
      generalize upd (upd H2 l1 (.lst (bs1.map V.ref))) l2 (.lst (bs'.map V.ref)) = H7 at s7 e7 hb7
      have hfew : bs'.length ≤ 1000000 := by
        have e1 : bs'.length = qs'.length := hb7.length
        have n4 := hperm.length_eq
        have n5 : mkv.length = qs.length := by have := congrArg List.length ekq; rw [List.length_map, List.length_map] at this; exact this
        have n6 := ExI.few hok pm hf
        omega
      refine ⟨l2, rfl, ⟨_, .inl (.inl e7)⟩, fun Dl hD => lc_list (K := K) (a := l2) (xs := bs'.map V.ref) (fun i H' => Same H7 H' ∧ ∃ rs : List Addr, H' Dl = some (.lst (rs.map V.ref)) ∧ Paired (ShRow H') rs ((qs'.take i).map fun p => (p, (f p).getD (0, 0)))) ⟨same_new hD, [], upd_same, .nil⟩ (fun i H' _ p => .inl (.inl (p.1 _ _ e7))) ?_ ?_⟩
      · rintro i x' H' hi ⟨s8, rs, g1, g2⟩
        rw [List.getElem?_map] at hi
        cases eb : bs'[i]? with
        | none => rw [eb] at hi; cases hi
        | some b' =>
          rw [eb] at hi
          injection hi with hi
          subst hi
          obtain ⟨p', ep, hp'⟩ := paired_get hb7 eb
          obtain ⟨s', es'⟩ : ∃ s', f p' = some s' := by
            have := (pm.mem ekq p').mp (hperm.mem_iff.mp (List.mem_of_getElem? ep))
            cases e : f p' with
            | none => rw [e] at this; cases this
            | some s => exact ⟨s, rfl⟩
          obtain ⟨vn, ev, hvn⟩ := pm.so p' s' es'
          have s78 := s7.trans s8
          obtain ⟨at_, rfl, hat⟩ := hvn.mono (.of_same s78)
          refine ⟨rfl, _, rfl, one_line, fun t ht => ⟨_, rfl, _, rfl, m, .ref at_, rfl, by rw [← ev]; exact DGet.t (k := pK p') (same_new ht _ _ (s78 _ _ em)) (by rw [pK_kV]; exact same_new ht _ _ (s8 _ _ hp')), ?_⟩⟩
          refine ⟨t, at_, _, _, rfl, rfl, sq_of upd_same, (hat.mono (.new ht)).sq, by show 3 ≤ sizeLine; decide, fun z => (nomatch z), fun _ z => (nomatch z), fun _ _ r hr => ?_⟩
          have sr : Same H' (upd (upd H' t (.tup [V.ref b'])) r (.tup ([V.ref b'] ++ [.int s'.1, .int s'.2]))) := (same_new ht).trans (same_new hr)
          have gr : (upd (upd H' t (.tup [V.ref b'])) r (.tup ([V.ref b'] ++ [.int s'.1, .int s'.2]))) r = some (.tup [V.ref b', .int s'.1, .int s'.2]) := upd_same
          generalize upd (upd H' t (.tup [V.ref b'])) r (.tup ([V.ref b'] ++ [.int s'.1, .int s'.2])) = H9 at sr gr
          have g1' := sr _ _ g1
          have hrl : rs.length ≤ i := by have := g2.length; rw [this, List.length_map, List.length_take]; omega
          have hi' : i < bs'.length := (List.getElem?_eq_some_iff.mp eb).1
          have td : Tups H9 (upd H9 Dl (.lst (rs.map V.ref ++ [.ref r]))) := .put fun xs e => by rw [g1'] at e; cases e
          refine ⟨_, g1', big_line (by rw [List.length_map]; omega), same_put (s8.trans sr) hD, rs ++ [r], by rw [upd_same, List.map_append]; rfl, ?_⟩
          rw [List.take_add_one, ep, List.map_append]
          refine Paired.snoc (Paired.mono (fun _ _ e => e.mono ((Tups.of_same sr).trans td)) g2) ⟨b', ?_, td _ _ (sr _ _ (s8 _ _ hp'))⟩
          show (upd H9 Dl (.lst (rs.map V.ref ++ [.ref r]))) r = some (.tup [.ref b', .int ((f p').getD (0, 0)).1, .int ((f p').getD (0, 0)).2])
          rw [es']
          exact td _ _ gr
      · rintro H' ⟨s8, rs, g1, g2⟩
        rw [show (bs'.map V.ref).length = qs'.length by rw [List.length_map]; exact hb7.length, List.take_length] at g2
        refine q Dl H' rs _ (sH2.trans (s7.trans s8)) g1 g2 ?_ fun z hz => ?_
        · have e1 : rs.length = qs'.length := by have := g2.length; rw [this, List.length_map]
          have e2 : bs'.length = qs'.length := hb7.length
          omega
        · obtain ⟨p, hp, rfl⟩ := List.mem_map.mp hz
          exact hf p ((pm.mem ekq p).mp (hperm.mem_iff.mp hp))
end
end Sr
end
section
set_option Elab.async false
set_option linter.all false
set_option maxRecDepth 100000
set_option maxHeartbeats 4000000
/-! walks: _law_cell, _law_pick, _law_sum -/
namespace Sr
open PySem PySem.Spec PyProof.Rows L2 SrM SrK
theorem shaped_il (ns : List Int) : SeqAt.shaped (.list (ns.map .int)) = true := by
  unfold SeqAt.shaped
  rw [show (PyData.list (ns.map .int)).canLay0 = true from lay_ints ns, show (PyData.list (ns.map .int)).depth = PyData.depthAll (ns.map .int) + 1 by rw [PyData.depth], PySem.W.depth_ints]
  rfl
theorem eqv_nil_i (ns : List Int) : PyData.eqv (.list (ns.map .int)) (.list []) = ns.isEmpty := by
  cases ns <;> rfl
theorem eqv_nil_n (ns : List Nm) : PyData.eqv (.list ((ns.map nS).map .str)) (.list []) = ns.isEmpty := by
  cases ns <;> rfl
theorem shaped_nil : SeqAt.shaped (.list []) = true := shaped_il []
section
variable {P : Program} {w : World} {K : PySem.W.Frag} {mg : Str → Option Value} {base : Heap} {C : Addr}
abbrev N_law_cell : List Str := ["_law_script", "_law_k"]
theorem sc_law_cell : FnScope N_law_cell ["_law_script", "_law_k"] (defScope s_law_cell) := ⟨rfl, rfl, rfl, by decide +kernel, rfl, by decide +kernel, by decide +kernel⟩
def spCell (K : PySem.W.Frag) : Sp := fun vs H Q _ => ∃ (a : Addr) (ns : List Int) (k : Int), vs = [.ref a, .int k] ∧ SqL K H a (ns.map V.int) ∧ 0 ≤ k ∧ ∀ r H', Same H H' → Q (.int r) H'
theorem ok_law_cell (T : Tx K mg) (G : FnG K mg "_law_cell" s_law_cell) : Has P w K mg base 1 "_law_cell" ["_law_script", "_law_k"] (spCell K) := by
  refine has_of (N := N_law_cell) G sc_law_cell (fun _ _ _ _ _ _ us hl => match us, hl with | [_, _], _ => rfl) (fun vs H Q E h => ?_) (fun f cdv A outer s0 H vs Q E hr h => ?_)
  · obtain ⟨_, _, _, rfl, _⟩ := h
    rfl
  · obtain ⟨a, ns, k, rfl, ha, hk, q⟩ := h
    refine ⟨_, (pss_cons (ps_if (pt_cmpR op_lt (pv 1) (pe_callB call_len_seq (by rfl) T.len (by decide +kernel) (pa1 (pv 0))) (nomark _))
      (pss_one (ps_ret (pe_ix ix_list (pv 0) (pv 1) (fun _ _ => rfl))))
      pss_nil)
      (pss_cons (ps_if (pt_cmpR (op_eqD (hu64 hr)) (pv 0) (pe_lst pa_nil) (nomark _))
      (pss_one (ps_ret pe_int))
      pss_nil)
      (pss_one (ps_ret (pe_op op_add (pe_op op_mul (pe_ix ix_list (pv 0) (pe_op op_modN (pv 1) (pe_callB call_len_seq (by rfl) T.len (by decide +kernel) (pa1 (pv 0)))) (fun _ _ => rfl)) pe_int) (pv 1)))))), ?_⟩
    refine ⟨_, rfl, _, rfl, a, _, rfl, .inl ha, _, _, rfl, rfl, _, rfl, ifC (fun c => ?_) fun c => ?_⟩
    · have c := of_decide_eq_true c
      rw [List.length_map] at c
      obtain ⟨j, rfl⟩ : ∃ j : Nat, k = j := ⟨k.toNat, by omega⟩
      have hj : j < ns.length := by omega
      exact ⟨_, rfl, _, rfl, a, _, _, _, rfl, rfl, ha, atI_nat (v := V.int ns[j]) (by rw [List.getElem?_map, List.getElem?_eq_getElem hj]; rfl), q _ H (.refl H)⟩
    · refine ⟨_, rfl, Nat.zero_le _, fun l hl => ?_⟩
      have s1 : Same H (upd H l (.lst [])) := same_new hl
      have ha1 := s1.seq ha
      refine ⟨_, _, .lst ha1 (dpAll_ints' ns), .lst (.inl (.inl upd_same)) .nil, shaped_il ns, shaped_nil, _, rfl, ?_⟩
      rw [eqv_nil_i]
      refine ifC (fun c2 => q _ _ s1) fun c2 => ?_
      have hn : 0 < ns.length := by cases ns with | nil => cases c2 | cons x r => exact Nat.succ_pos _
      have hp : (0 : Int) < (ns.length : Int) := by omega
      have hm1 : 0 ≤ k.fmod (ns.length : Int) := Int.fmod_nonneg_of_pos k hp
      have hm2 : k.fmod (ns.length : Int) < (ns.length : Int) := Int.fmod_lt_of_pos k hp
      obtain ⟨j, ej⟩ : ∃ j : Nat, k.fmod (ns.length : Int) = j := ⟨(k.fmod (ns.length : Int)).toNat, by omega⟩
      have hj : j < ns.length := by omega
      refine ⟨_, rfl, _, rfl, _, rfl, a, _, rfl, .inl ha1, _, _, rfl, rfl, by rw [List.length_map]; omega, a, _, _, V.int ns[j], rfl, rfl, ha1, (by rw [List.length_map, ej]; exact atI_nat (by rw [List.getElem?_map, List.getElem?_eq_getElem hj]; rfl)), _, _, rfl, rfl, .inr ⟨by decide, by decide⟩, _, rfl, _, _, rfl, rfl, q _ _ s1⟩
where
  dpAll_ints' {K : PySem.W.Frag} {H : Hp} : ∀ p : List Int, DpAll K H (p.map V.int) (p.map .int)
    | [] => .nil
    | x :: p => .cons (.int x) (dpAll_ints' p)
abbrev N_law_pick : List Str := ["_law_script", "_law_k", "_law_many", "_law_drawn"]
theorem sc_law_pick : FnScope N_law_pick ["_law_script", "_law_k", "_law_many"] (defScope s_law_pick) := ⟨rfl, rfl, rfl, by decide +kernel, rfl, by decide +kernel, by decide +kernel⟩
def spPick (K : PySem.W.Frag) : Sp := fun vs H Q _ => ∃ (a : Addr) (ns : List Int) (k m : Int), vs = [.ref a, .int k, .int m] ∧ SqL K H a (ns.map V.int) ∧ 0 ≤ k ∧ 0 < m ∧ ∀ (r : Nat) H', (r : Int) < m → Same H H' → Q (.int (r : Int)) H'
theorem ok_law_pick (h_law_cell : Has P w K mg base 1 "_law_cell" ["_law_script", "_law_k"] (spCell K)) (G : FnG K mg "_law_pick" s_law_pick) : Has P w K mg base 2 "_law_pick" ["_law_script", "_law_k", "_law_many"] (spPick K) := by
  refine has_of (N := N_law_pick) G sc_law_pick (fun _ _ _ _ _ _ us hl => match us, hl with | [_, _, _], _ => rfl) (fun vs H Q E h => ?_) (fun f cdv A outer s0 H vs Q E hr h => ?_)
  · obtain ⟨_, _, _, _, rfl, _⟩ := h
    rfl
  · obtain ⟨a, ns, k, m, rfl, ha, hk, hm, q⟩ := h
    refine ⟨_, (pss_cons (ps_set (i := 3) sc_law_pick.nd rfl (.inl rfl) (pe_op op_modN (pe_op op_mul (pe_op op_add (pe_callH h_law_cell hr (by decide) (pa2 (pv 0) (pv 1))) (pe_op op_mul pe_int (pe_op op_add (pv 1) pe_int))) pe_int) pe_int))
      (pss_one (ps_ret (pe_op op_modN (pe_op op_modN (pe_op op_add (pe_op op_mul (pv 3) (pv 3)) (pe_op op_fdivN (pv 3) pe_int)) pe_int) (pv 2))))), ?_⟩
    refine ⟨_, rfl, _, rfl, a, ns, k, rfl, ha, hk, fun r H1 s1 => ?_⟩
    refine ⟨_, rfl, _, _, rfl, rfl, _, _, rfl, rfl, .inl ⟨by decide, by decide⟩, _, _, rfl, rfl, _, _, rfl, rfl, .inr ⟨by decide, by decide⟩, _, _, rfl, rfl, (by show (2147483399 : Int) ≠ 0; decide), ?_⟩
    show gName 3 (V.int (((r + 6151 * (k + 1)) * 40692).fmod 2147483399)) _ H1 _
    have b1 : 0 ≤ ((r + 6151 * (k + 1)) * 40692).fmod 2147483399 := Int.fmod_nonneg_of_pos _ (by decide)
    have b2 : ((r + 6151 * (k + 1)) * 40692).fmod 2147483399 < 2147483399 := Int.fmod_lt_of_pos _ (by decide)
    generalize ((r + 6151 * (k + 1)) * 40692).fmod 2147483399 = dr at b1 b2
    refine ⟨_, rfl, _, rfl, _, _, rfl, rfl, .inl ⟨by omega, by omega⟩, _, rfl, _, _, rfl, rfl, ⟨by decide, by decide⟩, _, _, rfl, rfl, _, _, rfl, rfl, (by show (2147483629 : Int) ≠ 0; decide), _, rfl, _, _, rfl, rfl, (by show m ≠ 0; omega), ?_⟩
    have c1 := Int.fmod_nonneg_of_pos ((dr * dr + dr.fdiv 31).fmod 2147483629) hm
    have c2 := Int.fmod_lt_of_pos ((dr * dr + dr.fdiv 31).fmod 2147483629) hm
    obtain ⟨j, ej⟩ : ∃ j : Nat, ((dr * dr + dr.fdiv 31).fmod 2147483629).fmod m = j := ⟨(((dr * dr + dr.fdiv 31).fmod 2147483629).fmod m).toNat, by omega⟩
    show Q (V.int (((dr * dr + dr.fdiv 31).fmod 2147483629).fmod m)) H1
    rw [ej]
    rw [ej] at c2
    exact q j H1 c2 s1
abbrev N_law_sum : List Str := ["_law_script", "_law_at", "_law_known", "_law_deep", "_law_way", "_law_words", "_law_one"]
theorem sc_law_sum : FnScope N_law_sum ["_law_script", "_law_at", "_law_known", "_law_deep"] (defScope s_law_sum) := ⟨rfl, rfl, rfl, by decide +kernel, rfl, by decide +kernel, by decide +kernel⟩
/-- names known, as a list that stands -/
def KnAt (H : Hp) (kn : Addr) (ks : List Nm) : Prop := H kn = some (.lst ((ks.map nS).map V.str))
def spLSum (K : PySem.W.Frag) (n : Nat) : Sp := fun vs H Q _ => ∃ (a : Addr) (ns : List Int) (k : Int) (kn : Addr) (ks : List Nm) (d : Nat), vs = [.ref a, .int k, .ref kn, .int (d : Int)] ∧ SqL K H a (ns.map V.int) ∧ 0 ≤ k ∧ KnAt H kn ks ∧ 1 ≤ d ∧ d ≤ n ∧
  ∀ v H' e, Same H H' → IsEx H' v e → dpE e ≤ d → wfE (fun x => x ∈ ks) e → Q v H'
def numsL : List Int := [0, 1, -1, 2, 3, 7, -8, 100, -129, 300, 32767, -32768]
def wdsL : List Wd := [.add, .sub, .mul, .quo, .less, .same, .min, .max, .add, .less]
theorem numsL_in : ∀ v ∈ numsL, inW v := by decide
theorem ok_law_sum (T : Tx K mg) (h_law_pick : Has P w K mg base 2 "_law_pick" ["_law_script", "_law_k", "_law_many"] (spPick K)) (G : FnG K mg "_law_sum" s_law_sum) : ∀ n, Has P w K mg base (3 + n) "_law_sum" ["_law_script", "_law_at", "_law_known", "_law_deep"] (spLSum K n)
  | 0 => has_of (k := 2) (N := N_law_sum) G sc_law_sum (fun _ _ _ _ _ _ us hl => match us, hl with | [_, _, _, _], _ => rfl) (fun vs H Q E h => by obtain ⟨_, _, _, _, _, _, rfl, _⟩ := h; rfl) (fun f cdv A outer s0 H vs Q E hr h => by
    obtain ⟨_, _, _, _, _, _, rfl, _, _, _, h1, h2, _⟩ := h
    omega)
  | n + 1 => by
    have h_law_sum := ok_law_sum T h_law_pick G n
    refine has_of (k := 3 + n) (N := N_law_sum) G sc_law_sum (fun _ _ _ _ _ _ us hl => match us, hl with | [_, _, _, _], _ => rfl) (fun vs H Q E h => ?_) (fun f cdv A outer s0 H vs Q E hr h => ?_)
    · obtain ⟨_, _, _, _, _, _, rfl, _⟩ := h
      rfl
    · obtain ⟨a, ns, k, kn, ks, d, rfl, ha, hk, hkn, d1, dn, q⟩ := h
      refine ⟨_, (pss_cons (ps_set (i := 4) sc_law_sum.nd rfl (.inl rfl) (pe_callH h_law_pick hr (by omega) (pa3 (pv 0) (pv 1) pe_int)))
      (pss_cons (ps_if (PW.pt (pw_or (pt_cmpR op_eq (pv 3) pe_int (nomark _)) (pw_or1 (pt_cmpR op_lt (pv 4) pe_int (nomark _)))))
      (pss_cons (ps_if (PW.pt (pw_and (pt_cmpR (op_neD (hu64 hr)) (pv 2) (pe_lst pa_nil) (nomark _)) (pw_and1 (pt_cmpR op_gt (pe_callH h_law_pick hr (by omega) (pa3 (pv 0) (pe_op op_add (pv 1) pe_int) pe_int)) pe_int (nomark _)))))
      (pss_one (ps_ret (pt2 pe_str (pe_ix ix_list (pv 2) (pe_callH h_law_pick hr (by omega) (pa3 (pv 0) (pe_op op_add (pv 1) pe_int) (pe_callB call_len_seq (by rfl) T.len (by decide +kernel) (pa1 (pv 2))))) (fun _ _ => rfl)))))
      pss_nil)
      (pss_one (ps_ret (pt2 pe_str (pe_ix ix_list (pe_lst (pa_cons pe_int (pa_cons pe_int (pa_cons (pe_un un_neg pe_int) (pa_cons pe_int (pa_cons pe_int (pa_cons pe_int (pa_cons (pe_un un_neg pe_int) (pa_cons pe_int (pa_cons (pe_un un_neg pe_int) (pa3 pe_int pe_int (pe_un un_neg pe_int)))))))))))) (pe_callH h_law_pick hr (by omega) (pa3 (pv 0) (pe_op op_add (pv 1) pe_int) pe_int)) (fun _ _ => rfl))))))
      pss_nil)
      (pss_cons (ps_set (i := 5) sc_law_sum.nd rfl (.inl rfl) (pe_lst (pa_cons pe_str (pa_cons pe_str (pa_cons pe_str (pa_cons pe_str (pa_cons pe_str (pa_cons pe_str (pa_cons pe_str (pa3 pe_str pe_str pe_str))))))))))
      (pss_cons (ps_set (i := 6) sc_law_sum.nd rfl (.inl rfl) (pe_callH h_law_sum hr (by omega) (pa_cons (pv 0) (pa3 (pe_op op_add (pe_op op_mul pe_int (pv 1)) pe_int) (pv 2) (pe_op op_sub (pv 3) pe_int)))))
      (pss_one (ps_ret (pe_tup (pa3 (pe_ix ix_list (pv 5) (pe_callH h_law_pick hr (by omega) (pa3 (pv 0) (pe_op op_add (pv 1) pe_int) pe_int)) (fun _ _ => rfl)) (pv 6) (pe_callH h_law_sum hr (by omega) (pa_cons (pv 0) (pa3 (pe_op op_add (pe_op op_mul pe_int (pv 1)) pe_int) (pv 2) (pe_op op_sub (pv 3) pe_int)))))))))))), ?_⟩
      refine ⟨_, rfl, _, rfl, a, ns, k, 10, rfl, ha, hk, by decide, fun way H1 _ s1 => ?_⟩
      have ha1 := s1.seq ha
      have hkn1 : KnAt H1 kn ks := s1 _ _ hkn
      refine ⟨_, rfl, rfl, _, rfl, ifC (fun c => ?_) fun c => ?_⟩
      · skip
        refine ⟨_, rfl, Nat.zero_le _, fun l hl => ?_⟩
        have s2 : Same H1 (upd H1 l (.lst [])) := same_new hl
        have e2 : (upd H1 l (.lst [])) l = some (.lst []) := upd_same
        generalize upd H1 l (.lst []) = H2 at s2 e2 ⊢
        have s12 := s1.trans s2
        refine ⟨_, _, .lst (.inl (.inl (s12 _ _ hkn))) (dpAll_strs _), .lst (.inl (.inl e2)) .nil, shaped_nms _, shaped_nil, _, rfl, ?_⟩
        rw [eqv_nil_n]
        cases hks : ks with
        | nil =>
          refine ifF rfl (ifF rfl ?_)
          refine ⟨_, rfl, _, rfl, _, rfl, _, rfl, by decide, fun l2 hl2 => ⟨_, rfl, _, rfl, _, _, rfl, rfl, a, ns, k + 3, 12, rfl, ((s12).trans (same_new hl2)).seq ha, by omega, by decide, fun r H9 hr9 s9 => ?_⟩⟩
          have hr9' : r < numsL.length := by
            have : numsL.length = 12 := rfl
            omega
          refine ⟨l2, _, _, V.int numsL[r], rfl, rfl, .inl (.inl (s9 _ _ upd_same)), atI_nat (by rw [show [V.int 0, V.int 1, V.int (-1), V.int 2, V.int 3, V.int 7, V.int (-8), V.int 100, V.int (-129), V.int 300, V.int 32767, V.int (-32768)] = numsL.map V.int from rfl, List.getElem?_map, List.getElem?_eq_getElem hr9']; rfl), (by show (2 : Nat) ≤ sizeLine; decide), fun t ht => ?_⟩
          exact q _ _ (.num numsL[r]) ((((s12).trans (same_new hl2)).trans s9).trans (same_new ht)) ⟨t, rfl, upd_same⟩ d1 (numsL_in _ (List.getElem_mem _))
        | cons x0 r0 =>
          rw [← hks]
          refine ifT (by rw [hks]; rfl) ⟨_, rfl, _, rfl, _, _, rfl, rfl, a, ns, k + 1, 3, rfl, s12.seq ha, by omega, by decide, fun r3 H3 _ s3 => ?_⟩
          have s13 := s12.trans s3
          refine ⟨_, _, rfl, rfl, _, rfl, ifC (fun c3 => ?_) fun c3 => ?_⟩
          · refine ⟨_, rfl, _, rfl, _, rfl, _, _, rfl, rfl, _, rfl, kn, _, rfl, .inl (.inl (.inl (s13 _ _ hkn))), a, ns, k + 2, _, rfl, s13.seq ha, by omega, by rw [List.length_map, List.length_map, hks]; simp, fun r4 H4 b4 s4 => ?_⟩
            have b4' : r4 < ks.length := by rw [List.length_map, List.length_map] at b4; omega
            refine ⟨kn, _, _, V.str (nS ks[r4]), rfl, rfl, .inl (.inl (s4 _ _ (s13 _ _ hkn))), atI_nat (by rw [List.getElem?_map, List.getElem?_map, List.getElem?_eq_getElem b4']; rfl), (by show (2 : Nat) ≤ sizeLine; decide), fun t ht => ?_⟩
            exact q _ _ (.name ks[r4]) ((s13.trans s4).trans (same_new ht)) ⟨t, rfl, upd_same⟩ d1 (List.getElem_mem _)
          · skip
            refine ⟨_, rfl, _, rfl, _, rfl, _, rfl, by decide, fun l2 hl2 => ⟨_, rfl, _, rfl, _, _, rfl, rfl, a, ns, k + 3, 12, rfl, ((s13).trans (same_new hl2)).seq ha, by omega, by decide, fun r H9 hr9 s9 => ?_⟩⟩
            have hr9' : r < numsL.length := by
              have : numsL.length = 12 := rfl
              omega
            refine ⟨l2, _, _, V.int numsL[r], rfl, rfl, .inl (.inl (s9 _ _ upd_same)), atI_nat (by rw [show [V.int 0, V.int 1, V.int (-1), V.int 2, V.int 3, V.int 7, V.int (-8), V.int 100, V.int (-129), V.int 300, V.int 32767, V.int (-32768)] = numsL.map V.int from rfl, List.getElem?_map, List.getElem?_eq_getElem hr9']; rfl), (by show (2 : Nat) ≤ sizeLine; decide), fun t ht => ?_⟩
            exact q _ _ (.num numsL[r]) ((((s13).trans (same_new hl2)).trans s9).trans (same_new ht)) ⟨t, rfl, upd_same⟩ d1 (numsL_in _ (List.getElem_mem _))
      · refine ⟨_, rfl, _, _, rfl, rfl, _, rfl, ifC (fun c2 => ?_) fun c2 => ?_⟩
        · skip
          refine ⟨_, rfl, Nat.zero_le _, fun l hl => ?_⟩
          have s2 : Same H1 (upd H1 l (.lst [])) := same_new hl
          have e2 : (upd H1 l (.lst [])) l = some (.lst []) := upd_same
          generalize upd H1 l (.lst []) = H2 at s2 e2 ⊢
          have s12 := s1.trans s2
          refine ⟨_, _, .lst (.inl (.inl (s12 _ _ hkn))) (dpAll_strs _), .lst (.inl (.inl e2)) .nil, shaped_nms _, shaped_nil, _, rfl, ?_⟩
          rw [eqv_nil_n]
          cases hks : ks with
          | nil =>
            refine ifF rfl (ifF rfl ?_)
            refine ⟨_, rfl, _, rfl, _, rfl, _, rfl, by decide, fun l2 hl2 => ⟨_, rfl, _, rfl, _, _, rfl, rfl, a, ns, k + 3, 12, rfl, ((s12).trans (same_new hl2)).seq ha, by omega, by decide, fun r H9 hr9 s9 => ?_⟩⟩
            have hr9' : r < numsL.length := by
              have : numsL.length = 12 := rfl
              omega
            refine ⟨l2, _, _, V.int numsL[r], rfl, rfl, .inl (.inl (s9 _ _ upd_same)), atI_nat (by rw [show [V.int 0, V.int 1, V.int (-1), V.int 2, V.int 3, V.int 7, V.int (-8), V.int 100, V.int (-129), V.int 300, V.int 32767, V.int (-32768)] = numsL.map V.int from rfl, List.getElem?_map, List.getElem?_eq_getElem hr9']; rfl), (by show (2 : Nat) ≤ sizeLine; decide), fun t ht => ?_⟩
            exact q _ _ (.num numsL[r]) ((((s12).trans (same_new hl2)).trans s9).trans (same_new ht)) ⟨t, rfl, upd_same⟩ d1 (numsL_in _ (List.getElem_mem _))
          | cons x0 r0 =>
            rw [← hks]
            refine ifT (by rw [hks]; rfl) ⟨_, rfl, _, rfl, _, _, rfl, rfl, a, ns, k + 1, 3, rfl, s12.seq ha, by omega, by decide, fun r3 H3 _ s3 => ?_⟩
            have s13 := s12.trans s3
            refine ⟨_, _, rfl, rfl, _, rfl, ifC (fun c3 => ?_) fun c3 => ?_⟩
            · refine ⟨_, rfl, _, rfl, _, rfl, _, _, rfl, rfl, _, rfl, kn, _, rfl, .inl (.inl (.inl (s13 _ _ hkn))), a, ns, k + 2, _, rfl, s13.seq ha, by omega, by rw [List.length_map, List.length_map, hks]; simp, fun r4 H4 b4 s4 => ?_⟩
              have b4' : r4 < ks.length := by rw [List.length_map, List.length_map] at b4; omega
              refine ⟨kn, _, _, V.str (nS ks[r4]), rfl, rfl, .inl (.inl (s4 _ _ (s13 _ _ hkn))), atI_nat (by rw [List.getElem?_map, List.getElem?_map, List.getElem?_eq_getElem b4']; rfl), (by show (2 : Nat) ≤ sizeLine; decide), fun t ht => ?_⟩
              exact q _ _ (.name ks[r4]) ((s13.trans s4).trans (same_new ht)) ⟨t, rfl, upd_same⟩ d1 (List.getElem_mem _)
            · skip
              refine ⟨_, rfl, _, rfl, _, rfl, _, rfl, by decide, fun l2 hl2 => ⟨_, rfl, _, rfl, _, _, rfl, rfl, a, ns, k + 3, 12, rfl, ((s13).trans (same_new hl2)).seq ha, by omega, by decide, fun r H9 hr9 s9 => ?_⟩⟩
              have hr9' : r < numsL.length := by
                have : numsL.length = 12 := rfl
                omega
              refine ⟨l2, _, _, V.int numsL[r], rfl, rfl, .inl (.inl (s9 _ _ upd_same)), atI_nat (by rw [show [V.int 0, V.int 1, V.int (-1), V.int 2, V.int 3, V.int 7, V.int (-8), V.int 100, V.int (-129), V.int 300, V.int 32767, V.int (-32768)] = numsL.map V.int from rfl, List.getElem?_map, List.getElem?_eq_getElem hr9']; rfl), (by show (2 : Nat) ≤ sizeLine; decide), fun t ht => ?_⟩
              exact q _ _ (.num numsL[r]) ((((s13).trans (same_new hl2)).trans s9).trans (same_new ht)) ⟨t, rfl, upd_same⟩ d1 (numsL_in _ (List.getElem_mem _))
        · have c' := of_decide_eq_false c
          obtain ⟨d', rfl⟩ : ∃ d', d = d' + 1 := ⟨d - 1, by omega⟩
          have hd' : 1 ≤ d' := by
            cases d' with
            | zero => exact absurd rfl c'
            | succ z => omega
          have ed : ((d' + 1 : Nat) : Int) - 1 = (d' : Int) := by omega
          refine ⟨by decide, fun l hl => ?_⟩
          have s2 : Same H1 (upd H1 l (.lst (wdsL.map fun u => V.str (wS u)))) := same_new hl
          have e2 : (upd H1 l (.lst (wdsL.map fun u => V.str (wS u)))) l = some (.lst (wdsL.map fun u => V.str (wS u))) := upd_same
          have s12 := s1.trans s2
          refine ⟨_, rfl, _, rfl, _, _, rfl, rfl, .inl ⟨by decide, by decide⟩, _, _, rfl, rfl, _, rfl, _, rfl, _, _, rfl, rfl, a, ns, 3 * k + 11, kn, ks, d', (by show [V.ref a, V.int (3 * k + 11), V.ref kn, V.int (((d' + 1 : Nat) : Int) - 1)] = _; rw [ed]), s12.seq ha, by omega, s12 _ _ hkn, hd', by omega, fun v1 H3 x1 s3 i1 p1 w1 => ?_⟩
          have s13 := s12.trans s3
          refine ⟨_, rfl, _, rfl, _, rfl, _, _, rfl, rfl, a, ns, k + 4, 10, rfl, s13.seq ha, by omega, by decide, fun r H4 hr4 s4 => ?_⟩
          have s14 := s13.trans s4
          have hr4' : r < wdsL.length := by
            have : wdsL.length = 10 := rfl
            omega
          refine ⟨l, _, _, V.str (wS wdsL[r]), rfl, rfl, .inl (.inl (s4 _ _ (s3 _ _ e2))), atI_nat (by rw [List.getElem?_map, List.getElem?_eq_getElem hr4']; rfl), ?_⟩
          refine ⟨_, rfl, _, rfl, _, rfl, _, _, rfl, rfl, .inl ⟨by decide, by decide⟩, _, _, rfl, rfl, _, rfl, _, rfl, _, _, rfl, rfl, a, ns, 3 * k + 29, kn, ks, d', (by show [V.ref a, V.int (3 * k + 29), V.ref kn, V.int (((d' + 1 : Nat) : Int) - 1)] = _; rw [ed]), s14.seq ha, by omega, s14 _ _ hkn, hd', by omega, fun v2 H5 x2 s5 i2 p2 w2 => ?_⟩
          refine ⟨(by show (3 : Nat) ≤ sizeLine; decide), fun t ht => ?_⟩
          refine q _ _ (.bin wdsL[r] x1 x2) ((s14.trans s5).trans (same_new ht)) ⟨t, v1, v2, rfl, upd_same, i1.mono ((Tups.of_same s4).trans ((Tups.of_same s5).trans (.new ht))), i2.mono (.new ht)⟩ ?_ ⟨w1, w2⟩
          show 1 + max (dpE x1) (dpE x2) ≤ d' + 1
          omega
end
end Sr
end
section
set_option Elab.async false
set_option linter.all false
set_option maxRecDepth 100000
set_option maxHeartbeats 4000000
/-! walk: _law_counted -/
namespace Sr
open PySem PySem.Spec PyProof.Rows L2 SrM SrK
section
variable {P : Program} {w : World} {K : PySem.W.Frag} {mg : Str → Option Value} {base : Heap} {C : Addr}
def mostL : List Int := [0, 1, 3, 6, 20]
theorem mostL_in : ∀ v ∈ mostL, 0 ≤ v ∧ v ≤ 20 := by decide
def goalL : List Int := [-2, 1, 3, 5]
theorem goalL_in : ∀ v ∈ goalL, inW v := by decide
abbrev N_law_counted : List Str := ["_law_script", "_law_at", "_law_known", "_law_body", "_law_deep", "_law_most", "_law_name", "_law_goal", "_law_more"]
theorem sc_law_counted : FnScope N_law_counted ["_law_script", "_law_at", "_law_known", "_law_body", "_law_deep"] (defScope s_law_counted) := ⟨rfl, rfl, rfl, by decide +kernel, rfl, by decide +kernel, by decide +kernel⟩
def spLCount (K : PySem.W.Frag) : Sp := fun vs H Q _ => ∃ (a : Addr) (ns : List Int) (k : Int) (kn : Addr) (ks : List Nm) (ba : Addr) (vb : List V) (b : List Dd) (d : Nat), vs = [.ref a, .int k, .ref kn, .ref ba, .int (d : Int)] ∧ SqL K H a (ns.map V.int) ∧ 0 ≤ k ∧ KnAt H kn ks ∧ ks ≠ [] ∧ H ba = some (.tup vb) ∧ IsDs H vb b ∧ b.length ≤ 3 ∧
  ∀ v H' e m b', Same H H' → IsDd H' v (.whl e m b') → dpE e ≤ 3 → wfE (fun x => x ∈ ks) e → 0 ≤ m → m ≤ 20 →
    (b' = b ∨ ∃ x n, x ∈ ks ∧ inW n ∧ b' = b ++ [.set x (.bin .add (.name x) (.num n))]) → Q v H'
theorem ok_law_counted (T : Tx K mg) (h_law_pick : Has P w K mg base 2 "_law_pick" ["_law_script", "_law_k", "_law_many"] (spPick K)) (h_law_sum : Has P w K mg base (3 + 3) "_law_sum" ["_law_script", "_law_at", "_law_known", "_law_deep"] (spLSum K 3)) (G : FnG K mg "_law_counted" s_law_counted) : Has P w K mg base 7 "_law_counted" ["_law_script", "_law_at", "_law_known", "_law_body", "_law_deep"] (spLCount K) := by
  refine has_of (N := N_law_counted) G sc_law_counted (fun _ _ _ _ _ _ us hl => match us, hl with | [_, _, _, _, _], _ => rfl) (fun vs H Q E h => ?_) (fun f cdv A outer s0 H vs Q E hr h => ?_)
  · obtain ⟨_, _, _, _, _, _, _, _, _, rfl, _⟩ := h
    rfl
  · obtain ⟨a, ns, k, kn, ks, ba, vb, b, d, rfl, ha, hk, hkn, hne, hba, hbs, hbl, q⟩ := h
    refine ⟨_, (pss_cons (ps_set (i := 5) sc_law_counted.nd rfl (.inl rfl) (pe_ix ix_list (pe_lst (pa_cons pe_int (pa_cons pe_int (pa3 pe_int pe_int pe_int)))) (pe_callH h_law_pick hr (by decide) (pa3 (pv 0) (pv 1) pe_int)) (fun _ _ => rfl)))
      (Evl.pss_cut (ps_if (pt_cmpR op_lt (pv 4) pe_int (nomark _))
      (pss_one (ps_set (i := 5) sc_law_counted.nd rfl (.inl rfl) (pe_op op_modN (pv 5) pe_int)))
      pss_nil)
      (pss_cons (ps_if (pt_cmpR op_eq (pe_callH h_law_pick hr (by decide) (pa3 (pv 0) (pe_op op_add (pv 1) pe_int) pe_int)) pe_int (nomark _))
      (pss_one (ps_ret (pe_tup (pa_cons pe_str (pa3 (pe_callH h_law_sum hr (by decide) (pa_cons (pv 0) (pa3 (pe_op op_add (pv 1) pe_int) (pv 2) pe_int))) (pv 5) (pv 3))))))
      pss_nil)
      (pss_cons (ps_set (i := 6) sc_law_counted.nd rfl (.inl rfl) (pt2 pe_str (pe_ix ix_list (pv 2) (pe_callH h_law_pick hr (by decide) (pa3 (pv 0) (pe_op op_add (pv 1) pe_int) (pe_callB call_len_seq (by rfl) T.len (by decide +kernel) (pa1 (pv 2))))) (fun _ _ => rfl))))
      (pss_cons (ps_set (i := 7) sc_law_counted.nd rfl (.inl rfl) (pt2 pe_str (pe_ix ix_list (pe_lst (pa_cons (pe_un un_neg pe_int) (pa3 pe_int pe_int pe_int))) (pe_callH h_law_pick hr (by decide) (pa3 (pv 0) (pe_op op_add (pv 1) pe_int) pe_int)) (fun _ _ => rfl))))
      (pss_cons (ps_set (i := 8) sc_law_counted.nd rfl (.inl rfl) (pe_tup (pa3 pe_str (ixc (pv 6)) (pe_tup (pa3 pe_str (pv 6) (pt2 pe_str (pe_op op_add pe_int (pe_callH h_law_pick hr (by decide) (pa3 (pv 0) (pe_op op_add (pv 1) pe_int) pe_int)))))))))
      (pss_one (ps_ret (pe_tup (pa_cons pe_str (pa3 (pe_tup (pa3 pe_str (pv 6) (pv 7))) (pv 5) (pe_op op_catA (pv 3) (pe_tup (pa1 (pv 8))))))))))))))), ?_⟩
    refine ⟨by decide, fun l hl => ⟨_, rfl, _, rfl, a, ns, k, 5, rfl, (same_new hl).seq ha, hk, by decide, fun r H1 hr1 s1 => ?_⟩⟩
    have hr1' : r < mostL.length := by
      have : mostL.length = 5 := rfl
      omega
    refine ⟨l, _, _, V.int mostL[r], rfl, rfl, .inl (.inl (s1 _ _ upd_same)), atI_nat (by rw [show [V.int 0, V.int 1, V.int 3, V.int 6, V.int 20] = mostL.map V.int from rfl, List.getElem?_map, List.getElem?_eq_getElem hr1']; rfl), ?_⟩
    have s1 := (same_new hl).trans s1
    have hm0 := mostL_in _ (List.getElem_mem hr1')
    generalize mostL[r] = m0 at hm0 ⊢
    refine ⟨fun σ H' => ∃ m : Int, σ = [some (.ref a), some (.int k), some (.ref kn), some (.ref ba), some (.int d), some (.int m), none, none, none] ∧ H' = H1 ∧ 0 ≤ m ∧ m ≤ 20, ?_, ?_⟩
    · refine ⟨_, rfl, _, _, rfl, rfl, _, rfl, ifC (fun c => ?_) fun c => ?_⟩
      · refine ⟨_, rfl, _, _, rfl, rfl, (by show (4 : Int) ≠ 0; decide), _, rfl, rfl, ?_, ?_⟩
        · exact Int.fmod_nonneg_of_pos m0 (by decide)
        · have := Int.fmod_lt_of_pos m0 (show (0 : Int) < 4 by decide)
          omega
      · exact ⟨m0, rfl, rfl, hm0⟩
    · rintro σ H' ⟨m, rfl, rfl, m1, m2⟩
      refine ⟨_, rfl, _, rfl, _, _, rfl, rfl, a, ns, k + 1, 4, rfl, s1.seq ha, by omega, by decide, fun r1 H2 _ s2 => ?_⟩
      have s12 := s1.trans s2
      refine ⟨rfl, _, rfl, ifC (fun c => ?_) fun c => ?_⟩
      · refine ⟨_, rfl, _, rfl, _, _, rfl, rfl, _, rfl, a, ns, k + 2, kn, ks, 2, rfl, s12.seq ha, by omega, s12 _ _ hkn, by decide, by decide, fun v1 H3 x1 s3 i1 p1 w1 => ?_⟩
        refine ⟨_, rfl, _, rfl, (by show (4 : Nat) ≤ sizeLine; decide), fun t ht => ?_⟩
        have s13 := (s12.trans s3).trans (same_new (o := .tup [.str "while", v1, .int m, .ref ba]) ht)
        exact q _ _ x1 m b s13 ⟨t, v1, ba, vb, rfl, upd_same, i1.mono (.new ht), s13 _ _ hba, hbs.mono (.of_same s13)⟩ (by omega) w1 m1 m2 (.inl rfl)
      · have hkl : 0 < ks.length := List.length_pos_iff.mpr hne
        refine ⟨_, rfl, _, rfl, _, rfl, _, _, rfl, rfl, _, rfl, kn, _, rfl, .inl (.inl (.inl (s12 _ _ hkn))), a, ns, k + 3, _, rfl, s12.seq ha, by omega, by rw [List.length_map, List.length_map]; omega, fun r2 H3 b2 s3 => ?_⟩
        have b2' : r2 < ks.length := by rw [List.length_map, List.length_map] at b2; omega
        have s13 := s12.trans s3
        have hx : ks[r2] ∈ ks := List.getElem_mem _
        have ex : ((ks.map nS).map V.str)[r2]? = some (V.str (nS ks[r2])) := by rw [List.getElem?_map, List.getElem?_map, List.getElem?_eq_getElem b2']; rfl
        generalize ks[r2] = x at hx ex
        refine ⟨kn, _, _, V.str (nS x), rfl, rfl, .inl (.inl (s13 _ _ hkn)), atI_nat ex, (by show (2 : Nat) ≤ sizeLine; decide), fun tN hN => ?_⟩
        have sN : Same H (upd H3 tN (.tup [.str "name", .str (nS x)])) := s13.trans (same_new hN)
        have eN : (upd H3 tN (.tup [.str "name", .str (nS x)])) tN = some (.tup [.str "name", .str (nS x)]) := upd_same
        generalize upd H3 tN (.tup [.str "name", .str (nS x)]) = H4 at sN eN ⊢
        refine ⟨_, rfl, by decide, fun lg hlg => ⟨_, rfl, _, rfl, _, _, rfl, rfl, a, ns, k + 4, 4, rfl, (sN.trans (same_new (o := .lst _) hlg)).seq ha, by omega, by decide, fun r3 H5 b3 s5 => ?_⟩⟩
        have b3' : r3 < goalL.length := by
          have : goalL.length = 4 := rfl
          omega
        have s45 : Same H4 H5 := Same.trans (same_new hlg) s5
        refine ⟨lg, _, _, V.int goalL[r3], rfl, rfl, .inl (.inl (s5 _ _ upd_same)), atI_nat (by rw [show [V.int (-2), V.int 1, V.int 3, V.int 5] = goalL.map V.int from rfl, List.getElem?_map, List.getElem?_eq_getElem b3']; rfl), (by show (2 : Nat) ≤ sizeLine; decide), fun tG hG => ?_⟩
        have hg := goalL_in _ (List.getElem_mem b3')
        generalize goalL[r3] = gl at hg
        have s46 : Same H4 (upd H5 tG (.tup [.str "num", .int gl])) := s45.trans (same_new hG)
        have eG : (upd H5 tG (.tup [.str "num", .int gl])) tG = some (.tup [.str "num", .int gl]) := upd_same
        generalize upd H5 tG (.tup [.str "num", .int gl]) = H6 at s46 eG ⊢
        have s16 := sN.trans s46
        have eN6 := s46 _ _ eN
        refine ⟨_, rfl, _, _, _, _, rfl, rfl, sq_of eN6, at1, _, rfl, _, rfl, _, rfl, _, _, rfl, rfl, a, ns, k + 5, 3, rfl, s16.seq ha, by omega, by decide, fun r4 H7 b4 s7 => ?_⟩
        have hkv : inW (1 + (r4 : Int)) := by unfold inW; omega
        refine ⟨_, _, rfl, rfl, (by show (2 : Nat) ≤ sizeLine; decide), fun tK hK => ?_⟩
        have sK : Same H6 (upd H7 tK (.tup [.str "num", .int (1 + (r4 : Int))])) := s7.trans (same_new hK)
        have eK : (upd H7 tK (.tup [.str "num", .int (1 + (r4 : Int))])) tK = some (.tup [.str "num", .int (1 + (r4 : Int))]) := upd_same
        generalize upd H7 tK (.tup [.str "num", .int (1 + (r4 : Int))]) = H8 at sK eK ⊢
        refine ⟨(by show (3 : Nat) ≤ sizeLine; decide), fun tA hA => ?_⟩
        have sA : Same H8 (upd H8 tA (.tup [.str "add", .ref tN, .ref tK])) := same_new hA
        have eA : (upd H8 tA (.tup [.str "add", .ref tN, .ref tK])) tA = some (.tup [.str "add", .ref tN, .ref tK]) := upd_same
        generalize upd H8 tA (.tup [.str "add", .ref tN, .ref tK]) = H9 at sA eA ⊢
        refine ⟨(by show (3 : Nat) ≤ sizeLine; decide), fun tS hS => ?_⟩
        have sS : Same H9 (upd H9 tS (.tup [.str "set", .str (nS x), .ref tA])) := same_new hS
        have eS : (upd H9 tS (.tup [.str "set", .str (nS x), .ref tA])) tS = some (.tup [.str "set", .str (nS x), .ref tA]) := upd_same
        generalize upd H9 tS (.tup [.str "set", .str (nS x), .ref tA]) = Ha at sS eS ⊢
        refine ⟨_, rfl, _, rfl, (by show (3 : Nat) ≤ sizeLine; decide), fun tL hL => ?_⟩
        have sL : Same Ha (upd Ha tL (.tup [.str "less", .ref tN, .ref tG])) := same_new hL
        have eL : (upd Ha tL (.tup [.str "less", .ref tN, .ref tG])) tL = some (.tup [.str "less", .ref tN, .ref tG]) := upd_same
        generalize upd Ha tL (.tup [.str "less", .ref tN, .ref tG]) = Hb at sL eL ⊢
        refine ⟨_, rfl, _, rfl, _, rfl, (by show (1 : Nat) ≤ sizeLine; decide), fun t1 h1 => ?_⟩
        have s1' : Same Hb (upd Hb t1 (.tup [.ref tS])) := same_new h1
        have e1 : (upd Hb t1 (.tup [.ref tS])) t1 = some (.tup [.ref tS]) := upd_same
        generalize upd Hb t1 (.tup [.ref tS]) = Hc at s1' e1 ⊢
        have tKc : Same H6 Hc := (((sK.trans sA).trans sS).trans sL).trans s1'
        have sAll : Same H Hc := s16.trans tKc
        have iN : IsEx Hc (.ref tN) (.name x) := ⟨tN, rfl, tKc _ _ eN6⟩
        have iG : IsEx Hc (.ref tG) (.num gl) := ⟨tG, rfl, tKc _ _ eG⟩
        have iL : IsEx Hc (.ref tL) (.bin .less (.name x) (.num gl)) := ⟨tL, _, _, rfl, s1' _ _ eL, iN, iG⟩
        have iS : IsDs Hc [.ref tS] [.set x (.bin .add (.name x) (.num (1 + (r4 : Int))))] := ⟨⟨tS, _, rfl, s1' _ _ (sL _ _ eS), ⟨tA, _, _, rfl, s1' _ _ (sL _ _ (sS _ _ eA)), iN, ⟨tK, rfl, s1' _ _ (sL _ _ (sS _ _ (sA _ _ eK)))⟩⟩⟩, trivial⟩
        have hbl' : vb.length = b.length := hbs.length
        have hbs' := hbs.mono (.of_same sAll)
        have fin : ∀ (tB : Addr) H' (vs : List V), Same Hc H' → H' tB = some (.tup vs) → IsDs H' vs (b ++ [.set x (.bin .add (.name x) (.num (1 + (r4 : Int))))]) → ∀ t, H' t = none → Q (.ref t) (upd H' t (.tup [.str "while", .ref tL, .int m, .ref tB])) := fun tB H' vs sc hB hD t ht =>
          q _ _ (.bin .less (.name x) (.num gl)) m (b ++ [.set x (.bin .add (.name x) (.num (1 + (r4 : Int))))]) ((sAll.trans sc).trans (same_new ht)) ⟨t, _, tB, vs, rfl, upd_same, iL.mono ((Tups.of_same sc).trans (.new ht)), same_new ht _ _ hB, hD.mono (.new ht)⟩ (by show 1 + max 1 1 ≤ 3; decide) ⟨hx, hg⟩ m1 m2 (.inr ⟨x, _, hx, hkv, rfl⟩)
        refine ⟨ba, t1, vb, [.ref tS], rfl, rfl, sq_of (sAll _ _ hba), sq_of e1, Nat.le_of_lt (small_line (by rw [hbl']; show b.length + 1 ≤ _; omega)), fun hv => ?_, fun _ hv => (nomatch hv), fun hv _ tB hB => ?_⟩
        · refine ⟨(by show (4 : Nat) ≤ sizeLine; decide), fun t ht => ?_⟩
          have hb0 : b = [] := by
            cases b with
            | nil => rfl
            | cons y z => rw [hv] at hbl'; cases hbl'
          exact fin t1 Hc [.ref tS] (.refl _) e1 (by rw [hb0]; exact iS) t ht
        · refine ⟨(by show (4 : Nat) ≤ sizeLine; decide), fun t ht => ?_⟩
          exact fin tB _ (vb ++ [.ref tS]) (same_new hB) upd_same ((hbs'.append iS).mono (.new hB)) t ht
end
end Sr
end
section
set_option Elab.async false
set_option linter.all false
set_option maxRecDepth 100000
set_option maxHeartbeats 4000000
/-! walk: _law_block -/
namespace Sr
open PySem PySem.Spec PyProof.Rows L2 SrM SrK
theorem wfE_mono {K K' : Nm → Prop} (h : ∀ x, K x → K' x) : ∀ {e : Ex}, wfE K e → wfE K' e
  | .num _, q => q
  | .name x, q => h x q
  | .bin _ l r, q => ⟨wfE_mono h q.1, wfE_mono h q.2⟩
mutual
theorem afD_mono {K K' : Nm → Prop} (h : ∀ x, K x → K' x) : ∀ (d : Dd) (x : Nm), afD d K x → afD d K' x
  | .set y e, x, q => by
    rw [afD] at q ⊢
    exact q.imp (h x) id
  | .ife e f g, x, q => by
    rw [afD] at q ⊢
    exact ⟨afB_mono h f x q.1, afB_mono h g x q.2⟩
  | .whl e m b, x, q => by
    rw [afD] at q ⊢
    exact h x q
theorem afB_mono {K K' : Nm → Prop} (h : ∀ x, K x → K' x) : ∀ (ds : List Dd) (x : Nm), afB ds K x → afB ds K' x
  | [], x, q => by
    rw [afB] at q ⊢
    exact h x q
  | d :: ds, x, q => by
    rw [afB] at q ⊢
    exact afB_mono (fun y => afD_mono h d y) ds x q
end
mutual
theorem wfD_mono {K K' : Nm → Prop} (h : ∀ x, K x → K' x) : ∀ (d : Dd), wfD d K → wfD d K'
  | .set y e, q => by
    rw [wfD] at q ⊢
    exact wfE_mono h q
  | .ife e f g, q => by
    rw [wfD] at q ⊢
    exact ⟨wfE_mono h q.1, wfB_mono h f q.2.1, wfB_mono h g q.2.2⟩
  | .whl e m b, q => by
    rw [wfD] at q ⊢
    exact ⟨wfE_mono h q.1, q.2.1, q.2.2.1, wfB_mono h b q.2.2.2⟩
theorem wfB_mono {K K' : Nm → Prop} (h : ∀ x, K x → K' x) : ∀ (ds : List Dd), wfB ds K → wfB ds K'
  | [], _ => by rw [wfB]; trivial
  | d :: ds, q => by
    rw [wfB] at q ⊢
    exact ⟨wfD_mono h d q.1, wfB_mono (fun y => afD_mono h d y) ds q.2⟩
end
theorem afB_append : ∀ (ds : List Dd) (es : List Dd) (K : Nm → Prop), afB (ds ++ es) K = afB es (afB ds K)
  | [], es, K => by rw [List.nil_append, afB]
  | d :: ds, es, K => by rw [List.cons_append, afB, afB_append, afB]
theorem wfB_append : ∀ (ds : List Dd) (es : List Dd) (K : Nm → Prop), wfB (ds ++ es) K ↔ wfB ds K ∧ wfB es (afB ds K)
  | [], es, K => by
    rw [List.nil_append, afB, wfB]
    exact ⟨fun h => ⟨trivial, h⟩, fun h => h.2⟩
  | d :: ds, es, K => by
    rw [List.cons_append, wfB, wfB_append, wfB, afB, and_assoc]
mutual
theorem afD_ge {K : Nm → Prop} : ∀ (d : Dd) (x : Nm), K x → afD d K x
  | .set y e, x, q => by
    rw [afD]
    exact .inl q
  | .ife e f g, x, q => by
    rw [afD]
    exact ⟨afB_ge f x q, afB_ge g x q⟩
  | .whl e m b, x, q => by
    rw [afD]
    exact q
theorem afB_ge {K : Nm → Prop} : ∀ (ds : List Dd) (x : Nm), K x → afB ds K x
  | [], x, q => by
    rw [afB]
    exact q
  | d :: ds, x, q => by
    rw [afB]
    exact afB_ge ds x (afD_ge d x q)
end
theorem none_of {H H' : Hp} {p : Addr} (s : Same H H') (h : H' p = none) : H p = none := by
  cases e : H p with
  | none => rfl
  | some o => rw [s _ _ e] at h; cases h
theorem eqV_nn (x y : Nm) : eqV (V.str (nS y)) (V.str (nS x)) = decide (x = y) := by
  cases x <;> cases y <;> decide +kernel
theorem inV_nms (x : Nm) : ∀ ks : List Nm, inV (V.str (nS x)) ((ks.map nS).map V.str) = decide (x ∈ ks)
  | [] => rfl
  | y :: ks => by
    have ih := inV_nms x ks
    unfold inV at ih ⊢
    rw [List.map_cons, List.map_cons, List.any_cons, ih, eqV_nn, Bool.eq_iff_iff]
    simp only [Bool.or_eq_true, decide_eq_true_eq, List.mem_cons]
theorem flat_nms : ∀ ks : List Nm, ((ks.map nS).map V.str).all flatV = true
  | [] => rfl
  | y :: ks => by
    rw [List.map_cons, List.map_cons, List.all_cons, flat_nms ks]
    rfl
theorem nodup_sub_len : ∀ (l m : List Nm), l.Nodup → (∀ x ∈ l, x ∈ m) → l.length ≤ m.length
  | [], _, _, _ => Nat.zero_le _
  | x :: l, m, h, s => by
    have hx := s x (List.mem_cons_self ..)
    have ih := nodup_sub_len l (m.erase x) (List.nodup_cons.mp h).2 fun y hy => (List.mem_erase_of_ne (by
      intro e
      subst e
      exact (List.nodup_cons.mp h).1 hy)).mpr (s y (List.mem_cons_of_mem _ hy))
    rw [List.length_erase_of_mem hx] at ih
    have : 0 < m.length := List.length_pos_of_mem hx
    rw [List.length_cons]
    omega
theorem nodup_len4 (ks : List Nm) (h : ks.Nodup) : ks.length ≤ 4 :=
  nodup_sub_len ks [.a, .b, .c, .d] h fun x _ => by cases x <;> simp
def namesL : List Nm := [.a, .b, .c, .d]
section
variable {P : Program} {w : World} {K : PySem.W.Frag} {mg : Str → Option Value} {base : Heap} {C : Addr}
abbrev N_law_block : List Str := ["_law_script", "_law_at", "_law_known", "_law_deep", "_law_deeds", "_law_k", "_law_base", "_law_way", "_law_name", "_law_first", "_law_mine", "_law_second", "_law_yours", "_law_body", "_law_one"]
theorem sc_law_block : FnScope N_law_block ["_law_script", "_law_at", "_law_known", "_law_deep"] (defScope s_law_block) := ⟨rfl, rfl, rfl, by decide +kernel, rfl, by decide +kernel, by decide +kernel⟩
def spLBlock (K : PySem.W.Frag) (n : Nat) : Sp := fun vs H Q _ => ∃ (a : Addr) (ns : List Int) (k : Int) (kn : Addr) (ks : List Nm) (d : Nat), vs = [.ref a, .int k, .ref kn, .int (d : Int)] ∧ SqL K H a (ns.map V.int) ∧ 0 ≤ k ∧ KnAt H kn ks ∧ ks.Nodup ∧ 1 ≤ d ∧ d ≤ n ∧ d ≤ 3 ∧
  ∀ t bt kn' H' (vb : List V) (b : List Dd) (ks' : List Nm), Same H H' → H' t = some (.tup [.ref bt, .ref kn']) → H' bt = some (.tup vb) → IsDs H' vb b → b.length ≤ d → limB (d - 1) b → wfB b (fun x => x ∈ ks) → KnAt H' kn' ks' → (kn' = kn ∨ H kn' = none) → ks'.Nodup → (∀ x ∈ ks', afB b (fun x => x ∈ ks) x) → Q (.ref t) H'
theorem ok_law_block (T : Tx K mg) (h_law_pick : Has P w K mg base 2 "_law_pick" ["_law_script", "_law_k", "_law_many"] (spPick K)) (h_law_sum : Has P w K mg base (3 + 3) "_law_sum" ["_law_script", "_law_at", "_law_known", "_law_deep"] (spLSum K 3))
    (h_law_counted : Has P w K mg base 7 "_law_counted" ["_law_script", "_law_at", "_law_known", "_law_body", "_law_deep"] (spLCount K)) (G : FnG K mg "_law_block" s_law_block) : ∀ n, Has P w K mg base (7 + n) "_law_block" ["_law_script", "_law_at", "_law_known", "_law_deep"] (spLBlock K n)
  | 0 => has_of (k := 6) (N := N_law_block) G sc_law_block (fun _ _ _ _ _ _ us hl => match us, hl with | [_, _, _, _], _ => rfl) (fun vs H Q E h => by obtain ⟨_, _, _, _, _, _, rfl, _⟩ := h; rfl) (fun f cdv A outer s0 H vs Q E hr h => by
    obtain ⟨_, _, _, _, _, _, rfl, _, _, _, _, h1, h2, _⟩ := h
    omega)
  | n + 1 => by
    have h_law_block := ok_law_block T h_law_pick h_law_sum h_law_counted G n
    refine has_of (k := 7 + n) (N := N_law_block) G sc_law_block (fun _ _ _ _ _ _ us hl => match us, hl with | [_, _, _, _], _ => rfl) (fun vs H Q E h => ?_) (fun f cdv A outer s0 H vs Q E hr h => ?_)
    · obtain ⟨_, _, _, _, _, _, rfl, _⟩ := h
      rfl
    · obtain ⟨a, ns, k, kn, ks, d, rfl, ha, hk, hkn, hnd, d1, dn, d3, q⟩ := h
      refine ⟨_, (pss_cons (ps_set (i := 4) sc_law_block.nd rfl (.inl rfl) (pe_lst pa_nil))
      (pss_cons (ps_for PassesOwn.never rfl (pi_range1 (by rfl) T.range (pa1 (pe_op op_add pe_int (pe_callH h_law_pick hr (by omega) (pa3 (pv 0) (pv 1) (pv 3)))))) (pg_name (i := 5) sc_law_block.nd rfl (.inl rfl))
      (pss_cons (ps_set (i := 6) sc_law_block.nd rfl (.inl rfl) (pe_op op_add (pe_op op_mul pe_int (pv 1)) (pe_op op_mul pe_int (pe_op op_add (pv 5) pe_int))))
      (pss_cons (ps_set (i := 7) sc_law_block.nd rfl (.inl rfl) (pe_callH h_law_pick hr (by omega) (pa3 (pv 0) (pv 6) pe_int)))
      (pss_one (ps_if (PW.pt (pw_or (pt_cmpR op_lt (pv 7) pe_int (nomark _)) (pw_or (pt_cmpR op_eq (pv 3) pe_int (nomark _)) (pw_or1 (pt_cmpR (op_eqD (hu64 hr)) (pv 2) (pe_lst pa_nil) (nomark _))))))
      (pss_cons (ps_set (i := 8) sc_law_block.nd rfl (.inl rfl) (pe_ix ix_list (pe_lst (pa_cons pe_str (pa3 pe_str pe_str pe_str))) (pe_callH h_law_pick hr (by omega) (pa3 (pv 0) (pe_op op_add (pv 6) pe_int) pe_int)) (fun _ _ => rfl)))
      (pss_cons (ps_expr (pe_bm PySem.F.plainAttrs_list PySem.F.slot_list_append PySem.F.type_list_append mt_append (pv 4) (pa1 (pe_tup (pa3 pe_str (pv 8) (pe_callH h_law_sum hr (by omega) (pa_cons (pv 0) (pa3 (pe_op op_add (pv 6) pe_int) (pv 2) pe_int))))))))
      (pss_one (ps_set (i := 2) sc_law_block.nd rfl (.inr rfl) (pe_op op_cat (pv 2) (pe_lc (own := [("_law_one", 14)]) rfl sc_law_block.nd (pi_list (pe_lst (pa1 (pv 8)))) (blkOk_by (N := N_law_block) (sc := defScope s_law_block) (by decide +kernel)) (fun _ _ _ _ _ => (pg_name (i := 14) sc_law_block.nd rfl (.inl rfl))) (fun _ _ _ _ _ => (pts_one (pt_cmpR (op_notInSK K) (pv 14) (pv 2) (by rfl)))) (fun _ _ _ _ _ => (pv 14))))))))
      (pss_one (ps_if (pt_cmpR op_lt (pv 7) pe_int (nomark _))
      (pss_cons (ps_asg (pe_callH h_law_block hr (by omega) (pa_cons (pv 0) (pa3 (pe_op op_add (pv 6) pe_int) (pv 2) (pe_op op_sub (pv 3) pe_int)))) (pg_tup (by rfl) (pgs_cons (pg_name (i := 9) sc_law_block.nd rfl (.inl rfl)) (pgs_cons (pg_name (i := 10) sc_law_block.nd rfl (.inl rfl)) pgs_nil))))
      (pss_cons (ps_asg (pe_callH h_law_block hr (by omega) (pa_cons (pv 0) (pa3 (pe_op op_add (pv 6) pe_int) (pv 2) (pe_op op_sub (pv 3) pe_int)))) (pg_tup (by rfl) (pgs_cons (pg_name (i := 11) sc_law_block.nd rfl (.inl rfl)) (pgs_cons (pg_name (i := 12) sc_law_block.nd rfl (.inr rfl)) pgs_nil))))
      (pss_cons (ps_expr (pe_bm PySem.F.plainAttrs_list PySem.F.slot_list_append PySem.F.type_list_append mt_append (pv 4) (pa1 (pe_tup (pa_cons pe_str (pa3 (pe_callH h_law_sum hr (by omega) (pa_cons (pv 0) (pa3 (pe_op op_add (pv 6) pe_int) (pv 2) pe_int))) (pv 9) (pv 11)))))))
      (pss_one (ps_set (i := 2) sc_law_block.nd rfl (.inr rfl) (pe_lc (own := [("_law_one", 14)]) rfl sc_law_block.nd (pi_list (pv 10)) (blkOk_by (N := N_law_block) (sc := defScope s_law_block) (by decide +kernel)) (fun _ _ _ _ _ => (pg_name (i := 14) sc_law_block.nd rfl (.inl rfl))) (fun _ _ _ _ _ => (pts_one (pt_cmpR (op_inSK K) (pv 14) (pv 12) (by rfl)))) (fun _ _ _ _ _ => (pv 14))))))))
      (pss_cons (ps_set (i := 13) sc_law_block.nd rfl (.inl rfl) (ixc (pe_callH h_law_block hr (by omega) (pa_cons (pv 0) (pa3 (pe_op op_add (pv 6) pe_int) (pv 2) (pe_op op_sub (pv 3) pe_int))))))
      (pss_one (ps_expr (pe_bm PySem.F.plainAttrs_list PySem.F.slot_list_append PySem.F.type_list_append mt_append (pv 4) (pa1 (pe_callH h_law_counted hr (by omega) (pa_cons (pv 0) (pa_cons (pe_op op_add (pv 6) pe_int) (pa3 (pv 2) (pv 13) (pv 3)))))))))))))))))
      (pss_one (ps_ret (pt2 (pe_callTy call_tuple_of (by rfl) T.tuple (by decide +kernel) (pa1 (pv 4))) (pv 2)))))), ?_⟩
      refine ⟨Nat.zero_le _, fun D hD => ?_⟩
      have s1 : Same H (upd H D (.lst [])) := same_new hD
      have e1 : (upd H D (.lst [])) D = some (.lst []) := upd_same
      generalize upd H D (.lst []) = H1 at s1 e1 ⊢
      refine ⟨_, rfl, _, rfl, _, rfl, a, ns, k, (d : Int), rfl, s1.seq ha, hk, by omega, fun r H2 hr2 s2 => ?_⟩
      have s12 := s1.trans s2
      refine ⟨_, _, rfl, rfl, _, rfl, by omega, by omega, ?_⟩
      refine for_range (lo := 0) (fun i σ H' => ∃ (knc : Addr) (ksc : List Nm) (acc : List V) (b : List Dd) (y5 y6 y7 y8 y9 y10 y11 y12 y13 y14 : Option V),
        σ = [some (.ref a), some (.int k), some (.ref knc), some (.int d), some (.ref D), y5, y6, y7, y8, y9, y10, y11, y12, y13, y14] ∧ Same H H' ∧ H' D = some (.lst acc) ∧ IsDs H' acc b ∧ b.length = i ∧ (∀ z ∈ b, limD (d - 1) z) ∧ wfB b (fun x => x ∈ ks) ∧ KnAt H' knc ksc ∧ (knc = kn ∨ H knc = none) ∧ knc ≠ D ∧ ksc.Nodup ∧ ∀ x ∈ ksc, afB b (fun x => x ∈ ks) x) ?_ ?_ ?_
      · exact ⟨kn, ks, [], [], _, _, _, _, _, _, _, _, _, _, rfl, s12, s2 _ _ e1, trivial, rfl, fun _ z => (nomatch z), by rw [wfB]; trivial, s12 _ _ hkn, .inl rfl, ne_of_none hkn hD, hnd, fun x hx => by rw [afB]; exact hx⟩
      · rintro i σ H3 hi ⟨knc, ksc, acc, b, y5, y6, y7, y8, y9, y10, y11, y12, y13, y14, rfl, s3, eD, hb, hbl, hlim, hwf, hkc, hnew, nkD, hnc, haf⟩
        refine ⟨_, rfl, _, _, rfl, rfl, .inl ⟨by decide, by decide⟩, _, rfl, _, _, rfl, rfl, _, _, rfl, rfl, .inl ⟨by decide, by decide⟩, _, _, rfl, rfl, ?_⟩
        have hbase : (0 : Int) ≤ 7 * k + 101 * (0 + (i : Int) + 1) := by omega
        show gName 6 (V.int (7 * k + 101 * (0 + (i : Int) + 1))) _ H3 _
        generalize 7 * k + 101 * (0 + (i : Int) + 1) = bs at hbase ⊢
        refine ⟨_, rfl, _, rfl, a, ns, bs, 7, rfl, s3.seq ha, hbase, by decide, fun way H4 _ s4 => ?_⟩
        have s34 := s3.trans s4
        have hal : acc.length = b.length := hb.length
        have hbi : b.length < d := by omega
        -- what a deed put on the list leaves
        have fin : ∀ (v : V) (dd : Dd) H', Same H3 H' → IsDd H' v dd → limD (d - 1) dd → wfD dd (fun x => x ∈ ksc) →
            H' D = some (.lst acc) ∧ acc.length < sizeLine ∧ Same H (upd H' D (.lst (acc ++ [v]))) ∧ IsDs (upd H' D (.lst (acc ++ [v]))) (acc ++ [v]) (b ++ [dd]) ∧ (b ++ [dd]).length = i + 1 ∧ (∀ z ∈ b ++ [dd], limD (d - 1) z) ∧ wfB (b ++ [dd]) (fun x => x ∈ ks) := fun v dd H' s hdd hl hw => by
          have e' := s _ _ eD
          have td : Tups H' (upd H' D (.lst (acc ++ [v]))) := .put fun xs e => by rw [e'] at e; cases e
          refine ⟨e', small_line (by omega), same_put (s3.trans s) hD, IsDs.append ((hb.mono (.of_same s)).mono td) ⟨hdd.mono td, trivial⟩, by rw [List.length_append, List.length_singleton, hbl], fun z hz => ?_, ?_⟩
          · rcases List.mem_append.mp hz with h | h
            · exact hlim z h
            · rw [List.mem_singleton.mp h]
              exact hl
          · rw [wfB_append]
            refine ⟨hwf, ?_⟩
            rw [wfB, wfB]
            exact ⟨wfD_mono haf dd hw, trivial⟩
        refine ⟨_, rfl, _, _, rfl, rfl, _, rfl, ifC (fun c1 => ?_) fun c1 => ?_⟩
        · skip
          refine ⟨by decide, fun l8 hl8 => ⟨_, rfl, _, rfl, _, _, rfl, rfl, a, ns, bs + 1, 4, rfl, ((s3.trans (s4)).trans (same_new (o := .lst _) hl8)).seq ha, by omega, by decide, fun r5 H5 b5 s5 => ?_⟩⟩
          have b5' : r5 < namesL.length := by
            have : namesL.length = 4 := rfl
            omega
          refine ⟨l8, _, _, V.str (nS namesL[r5]), rfl, rfl, .inl (.inl (s5 _ _ upd_same)), atI_nat (by rw [show [V.str "a", V.str "b", V.str "c", V.str "dd"] = namesL.map (fun x => V.str (nS x)) from rfl, List.getElem?_map, List.getElem?_eq_getElem b5']; rfl), ?_⟩
          generalize namesL[r5] = x
          have sX5 : Same H3 H5 := (s4).trans (Same.trans (same_new hl8) s5)
          refine ⟨_, rfl, .inl ⟨rfl, _, .inl (.inl (sX5 _ _ eD))⟩, _, rfl, _, rfl, _, rfl, _, _, rfl, rfl, _, rfl, a, ns, bs + 2, knc, ksc, 3, rfl, (s3.trans sX5).seq ha, by omega, sX5 _ _ hkc, by decide, by decide, fun v1 H6 x1 s6 i1 p1 w1 => ⟨(by show (3 : Nat) ≤ sizeLine; decide), fun t ht => ?_⟩⟩
          have s36 : Same H3 (upd H6 t (.tup [.str "set", .str (nS x), v1])) := (sX5.trans s6).trans (same_new ht)
          have it : IsDd (upd H6 t (.tup [.str "set", .str (nS x), v1])) (.ref t) (.set x x1) := ⟨t, v1, rfl, upd_same, i1.mono (.new ht)⟩
          generalize upd H6 t (.tup [.str "set", .str (nS x), v1]) = H7 at s36 it ⊢
          obtain ⟨f1, f2, f3, f4, f5, f6, f7⟩ := fin (.ref t) (.set x x1) H7 s36 it (by cases d - 1 <;> exact p1) (by rw [wfD]; exact w1)
          refine ⟨D, acc, .ref t, rfl, rfl, f1, f2, ?_⟩
          have kc7 : KnAt (upd H7 D (.lst (acc ++ [.ref t]))) knc ksc := by
            unfold KnAt
            rw [upd_ne nkD]
            exact s36 _ _ hkc
          have eD8 : (upd H7 D (.lst (acc ++ [.ref t]))) D = some (.lst (acc ++ [.ref t])) := upd_same
          generalize upd H7 D (.lst (acc ++ [.ref t])) = H8 at f3 f4 kc7 eD8 ⊢
          refine ⟨_, rfl, _, rfl, one_line, fun l9 hl9 => ?_⟩
          have s9 : Same H8 (upd H8 l9 (.lst [V.str (nS x)])) := same_new hl9
          have e9 : (upd H8 l9 (.lst [V.str (nS x)])) l9 = some (.lst [V.str (nS x)]) := upd_same
          generalize upd H8 l9 (.lst [V.str (nS x)]) = H9 at s9 e9 ⊢
          refine ⟨l9, rfl, ⟨_, .inl (.inl e9)⟩, fun DL hDL => lc_list (K := K) (a := l9) (xs := [V.str (nS x)]) (fun j H' => Same H9 H' ∧ ∃ ms : List Nm, H' DL = some (.lst ((ms.map nS).map V.str)) ∧ ms.length ≤ j ∧ ∀ y ∈ ms, y = x ∧ y ∉ ksc) ⟨same_new hDL, [], upd_same, Nat.le_refl _, fun _ z => (nomatch z)⟩ (fun i H' _ p => .inl (.inl (p.1 _ _ e9))) ?_ ?_⟩
          · rintro j y Hc hj ⟨sc, ms, em, lm, hm⟩
            obtain rfl : j = 0 := by
              cases j with
              | zero => rfl
              | succ j => cases hj
            injection hj with hj
            subst hj
            have hm0 : ms = [] := List.length_eq_zero_iff.mp (by omega)
            subst hm0
            refine ⟨rfl, _, rfl, _, rfl, knc, _, rfl, .inl (.inl (.inl (sc _ _ (s9 _ _ kc7)))), rfl, flat_nms _, _, rfl, ?_⟩
            rw [inV_nms]
            refine ifC (fun c => ?_) fun c => ?_
            · have c' : x ∉ ksc := fun h => by rw [decide_eq_true h] at c; cases c
              exact ⟨_, rfl, _, em, one_line, same_put sc hDL, [x], upd_same, Nat.le_refl _, fun y hy => by rw [List.mem_singleton.mp hy]; exact ⟨rfl, c'⟩⟩
            · exact ⟨sc, [], em, Nat.zero_le _, fun _ z => (nomatch z)⟩
          · rintro Hc ⟨sc, ms, em, lm, hm⟩
            have len4 := nodup_len4 _ hnc
            have lm' : ms.length ≤ 1 := lm
            refine ⟨knc, DL, _, _, rfl, rfl, sc _ _ (s9 _ _ kc7), em, Nat.le_of_lt (small_line (by simp only [List.length_map]; omega)), fun D2 hD2 => ?_⟩
            have sf : Same H8 (upd Hc D2 (.lst (((ksc.map nS).map V.str) ++ ((ms.map nS).map V.str)))) := (s9.trans sc).trans (same_new hD2)
            have eD9 := (s9.trans sc) _ _ eD8
            refine ⟨D2, ksc ++ ms, acc ++ [.ref t], b ++ [.set x x1], _, _, _, _, _, _, _, _, _, _, rfl, f3.trans sf, sf _ _ eD8, f4.mono (.of_same sf), f5, f6, f7, ?_, .inr (none_of (f3.trans (s9.trans sc)) hD2), (ne_of_none eD9 hD2).symm, ?_, ?_⟩
            · unfold KnAt
              rw [upd_same, List.map_append, List.map_append]
            · rw [List.nodup_append]
              refine ⟨hnc, ?_, fun y hy z hz e => (hm z hz).2 (e ▸ hy)⟩
              match ms, lm' with
              | [], _ => exact .nil
              | [_], _ => exact List.nodup_cons.mpr ⟨fun z => (nomatch z), .nil⟩
            · intro y hy
              rw [afB_append, afB, afB, afD]
              rcases List.mem_append.mp hy with h | h
              · exact .inl (haf y h)
              · exact .inr (hm y h).1
        · refine ⟨_, rfl, rfl, _, rfl, ifC (fun c2 => ?_) fun c2 => ?_⟩
          · skip
            refine ⟨by decide, fun l8 hl8 => ⟨_, rfl, _, rfl, _, _, rfl, rfl, a, ns, bs + 1, 4, rfl, ((s3.trans (s4)).trans (same_new (o := .lst _) hl8)).seq ha, by omega, by decide, fun r5 H5 b5 s5 => ?_⟩⟩
            have b5' : r5 < namesL.length := by
              have : namesL.length = 4 := rfl
              omega
            refine ⟨l8, _, _, V.str (nS namesL[r5]), rfl, rfl, .inl (.inl (s5 _ _ upd_same)), atI_nat (by rw [show [V.str "a", V.str "b", V.str "c", V.str "dd"] = namesL.map (fun x => V.str (nS x)) from rfl, List.getElem?_map, List.getElem?_eq_getElem b5']; rfl), ?_⟩
            generalize namesL[r5] = x
            have sX5 : Same H3 H5 := (s4).trans (Same.trans (same_new hl8) s5)
            refine ⟨_, rfl, .inl ⟨rfl, _, .inl (.inl (sX5 _ _ eD))⟩, _, rfl, _, rfl, _, rfl, _, _, rfl, rfl, _, rfl, a, ns, bs + 2, knc, ksc, 3, rfl, (s3.trans sX5).seq ha, by omega, sX5 _ _ hkc, by decide, by decide, fun v1 H6 x1 s6 i1 p1 w1 => ⟨(by show (3 : Nat) ≤ sizeLine; decide), fun t ht => ?_⟩⟩
            have s36 : Same H3 (upd H6 t (.tup [.str "set", .str (nS x), v1])) := (sX5.trans s6).trans (same_new ht)
            have it : IsDd (upd H6 t (.tup [.str "set", .str (nS x), v1])) (.ref t) (.set x x1) := ⟨t, v1, rfl, upd_same, i1.mono (.new ht)⟩
            generalize upd H6 t (.tup [.str "set", .str (nS x), v1]) = H7 at s36 it ⊢
            obtain ⟨f1, f2, f3, f4, f5, f6, f7⟩ := fin (.ref t) (.set x x1) H7 s36 it (by cases d - 1 <;> exact p1) (by rw [wfD]; exact w1)
            refine ⟨D, acc, .ref t, rfl, rfl, f1, f2, ?_⟩
            have kc7 : KnAt (upd H7 D (.lst (acc ++ [.ref t]))) knc ksc := by
              unfold KnAt
              rw [upd_ne nkD]
              exact s36 _ _ hkc
            have eD8 : (upd H7 D (.lst (acc ++ [.ref t]))) D = some (.lst (acc ++ [.ref t])) := upd_same
            generalize upd H7 D (.lst (acc ++ [.ref t])) = H8 at f3 f4 kc7 eD8 ⊢
            refine ⟨_, rfl, _, rfl, one_line, fun l9 hl9 => ?_⟩
            have s9 : Same H8 (upd H8 l9 (.lst [V.str (nS x)])) := same_new hl9
            have e9 : (upd H8 l9 (.lst [V.str (nS x)])) l9 = some (.lst [V.str (nS x)]) := upd_same
            generalize upd H8 l9 (.lst [V.str (nS x)]) = H9 at s9 e9 ⊢
            refine ⟨l9, rfl, ⟨_, .inl (.inl e9)⟩, fun DL hDL => lc_list (K := K) (a := l9) (xs := [V.str (nS x)]) (fun j H' => Same H9 H' ∧ ∃ ms : List Nm, H' DL = some (.lst ((ms.map nS).map V.str)) ∧ ms.length ≤ j ∧ ∀ y ∈ ms, y = x ∧ y ∉ ksc) ⟨same_new hDL, [], upd_same, Nat.le_refl _, fun _ z => (nomatch z)⟩ (fun i H' _ p => .inl (.inl (p.1 _ _ e9))) ?_ ?_⟩
            · rintro j y Hc hj ⟨sc, ms, em, lm, hm⟩
              obtain rfl : j = 0 := by
                cases j with
                | zero => rfl
                | succ j => cases hj
              injection hj with hj
              subst hj
              have hm0 : ms = [] := List.length_eq_zero_iff.mp (by omega)
              subst hm0
              refine ⟨rfl, _, rfl, _, rfl, knc, _, rfl, .inl (.inl (.inl (sc _ _ (s9 _ _ kc7)))), rfl, flat_nms _, _, rfl, ?_⟩
              rw [inV_nms]
              refine ifC (fun c => ?_) fun c => ?_
              · have c' : x ∉ ksc := fun h => by rw [decide_eq_true h] at c; cases c
                exact ⟨_, rfl, _, em, one_line, same_put sc hDL, [x], upd_same, Nat.le_refl _, fun y hy => by rw [List.mem_singleton.mp hy]; exact ⟨rfl, c'⟩⟩
              · exact ⟨sc, [], em, Nat.zero_le _, fun _ z => (nomatch z)⟩
            · rintro Hc ⟨sc, ms, em, lm, hm⟩
              have len4 := nodup_len4 _ hnc
              have lm' : ms.length ≤ 1 := lm
              refine ⟨knc, DL, _, _, rfl, rfl, sc _ _ (s9 _ _ kc7), em, Nat.le_of_lt (small_line (by simp only [List.length_map]; omega)), fun D2 hD2 => ?_⟩
              have sf : Same H8 (upd Hc D2 (.lst (((ksc.map nS).map V.str) ++ ((ms.map nS).map V.str)))) := (s9.trans sc).trans (same_new hD2)
              have eD9 := (s9.trans sc) _ _ eD8
              refine ⟨D2, ksc ++ ms, acc ++ [.ref t], b ++ [.set x x1], _, _, _, _, _, _, _, _, _, _, rfl, f3.trans sf, sf _ _ eD8, f4.mono (.of_same sf), f5, f6, f7, ?_, .inr (none_of (f3.trans (s9.trans sc)) hD2), (ne_of_none eD9 hD2).symm, ?_, ?_⟩
              · unfold KnAt
                rw [upd_same, List.map_append, List.map_append]
              · rw [List.nodup_append]
                refine ⟨hnc, ?_, fun y hy z hz e => (hm z hz).2 (e ▸ hy)⟩
                match ms, lm' with
                | [], _ => exact .nil
                | [_], _ => exact List.nodup_cons.mpr ⟨fun z => (nomatch z), .nil⟩
              · intro y hy
                rw [afB_append, afB, afB, afD]
                rcases List.mem_append.mp hy with h | h
                · exact .inl (haf y h)
                · exact .inr (hm y h).1
          · refine ⟨_, rfl, Nat.zero_le _, fun le hle => ?_⟩
            have s5 : Same H4 (upd H4 le (.lst [])) := same_new hle
            have e5 : (upd H4 le (.lst [])) le = some (.lst []) := upd_same
            generalize upd H4 le (.lst []) = H5 at s5 e5 ⊢
            have s45 := s4.trans s5
            refine ⟨_, _, .lst (.inl (.inl (s45 _ _ hkc))) (dpAll_strs _), .lst (.inl (.inl e5)) .nil, shaped_nms _, shaped_nil, _, rfl, ?_⟩
            rw [eqv_nil_n]
            refine ifC (fun c3 => ?_) fun c3 => ?_
            · skip
              refine ⟨by decide, fun l8 hl8 => ⟨_, rfl, _, rfl, _, _, rfl, rfl, a, ns, bs + 1, 4, rfl, ((s3.trans (s45)).trans (same_new (o := .lst _) hl8)).seq ha, by omega, by decide, fun r5 H5 b5 s5 => ?_⟩⟩
              have b5' : r5 < namesL.length := by
                have : namesL.length = 4 := rfl
                omega
              refine ⟨l8, _, _, V.str (nS namesL[r5]), rfl, rfl, .inl (.inl (s5 _ _ upd_same)), atI_nat (by rw [show [V.str "a", V.str "b", V.str "c", V.str "dd"] = namesL.map (fun x => V.str (nS x)) from rfl, List.getElem?_map, List.getElem?_eq_getElem b5']; rfl), ?_⟩
              generalize namesL[r5] = x
              have sX5 : Same H3 H5 := (s45).trans (Same.trans (same_new hl8) s5)
              refine ⟨_, rfl, .inl ⟨rfl, _, .inl (.inl (sX5 _ _ eD))⟩, _, rfl, _, rfl, _, rfl, _, _, rfl, rfl, _, rfl, a, ns, bs + 2, knc, ksc, 3, rfl, (s3.trans sX5).seq ha, by omega, sX5 _ _ hkc, by decide, by decide, fun v1 H6 x1 s6 i1 p1 w1 => ⟨(by show (3 : Nat) ≤ sizeLine; decide), fun t ht => ?_⟩⟩
              have s36 : Same H3 (upd H6 t (.tup [.str "set", .str (nS x), v1])) := (sX5.trans s6).trans (same_new ht)
              have it : IsDd (upd H6 t (.tup [.str "set", .str (nS x), v1])) (.ref t) (.set x x1) := ⟨t, v1, rfl, upd_same, i1.mono (.new ht)⟩
              generalize upd H6 t (.tup [.str "set", .str (nS x), v1]) = H7 at s36 it ⊢
              obtain ⟨f1, f2, f3, f4, f5, f6, f7⟩ := fin (.ref t) (.set x x1) H7 s36 it (by cases d - 1 <;> exact p1) (by rw [wfD]; exact w1)
              refine ⟨D, acc, .ref t, rfl, rfl, f1, f2, ?_⟩
              have kc7 : KnAt (upd H7 D (.lst (acc ++ [.ref t]))) knc ksc := by
                unfold KnAt
                rw [upd_ne nkD]
                exact s36 _ _ hkc
              have eD8 : (upd H7 D (.lst (acc ++ [.ref t]))) D = some (.lst (acc ++ [.ref t])) := upd_same
              generalize upd H7 D (.lst (acc ++ [.ref t])) = H8 at f3 f4 kc7 eD8 ⊢
              refine ⟨_, rfl, _, rfl, one_line, fun l9 hl9 => ?_⟩
              have s9 : Same H8 (upd H8 l9 (.lst [V.str (nS x)])) := same_new hl9
              have e9 : (upd H8 l9 (.lst [V.str (nS x)])) l9 = some (.lst [V.str (nS x)]) := upd_same
              generalize upd H8 l9 (.lst [V.str (nS x)]) = H9 at s9 e9 ⊢
              refine ⟨l9, rfl, ⟨_, .inl (.inl e9)⟩, fun DL hDL => lc_list (K := K) (a := l9) (xs := [V.str (nS x)]) (fun j H' => Same H9 H' ∧ ∃ ms : List Nm, H' DL = some (.lst ((ms.map nS).map V.str)) ∧ ms.length ≤ j ∧ ∀ y ∈ ms, y = x ∧ y ∉ ksc) ⟨same_new hDL, [], upd_same, Nat.le_refl _, fun _ z => (nomatch z)⟩ (fun i H' _ p => .inl (.inl (p.1 _ _ e9))) ?_ ?_⟩
              · rintro j y Hc hj ⟨sc, ms, em, lm, hm⟩
                obtain rfl : j = 0 := by
                  cases j with
                  | zero => rfl
                  | succ j => cases hj
                injection hj with hj
                subst hj
                have hm0 : ms = [] := List.length_eq_zero_iff.mp (by omega)
                subst hm0
                refine ⟨rfl, _, rfl, _, rfl, knc, _, rfl, .inl (.inl (.inl (sc _ _ (s9 _ _ kc7)))), rfl, flat_nms _, _, rfl, ?_⟩
                rw [inV_nms]
                refine ifC (fun c => ?_) fun c => ?_
                · have c' : x ∉ ksc := fun h => by rw [decide_eq_true h] at c; cases c
                  exact ⟨_, rfl, _, em, one_line, same_put sc hDL, [x], upd_same, Nat.le_refl _, fun y hy => by rw [List.mem_singleton.mp hy]; exact ⟨rfl, c'⟩⟩
                · exact ⟨sc, [], em, Nat.zero_le _, fun _ z => (nomatch z)⟩
              · rintro Hc ⟨sc, ms, em, lm, hm⟩
                have len4 := nodup_len4 _ hnc
                have lm' : ms.length ≤ 1 := lm
                refine ⟨knc, DL, _, _, rfl, rfl, sc _ _ (s9 _ _ kc7), em, Nat.le_of_lt (small_line (by simp only [List.length_map]; omega)), fun D2 hD2 => ?_⟩
                have sf : Same H8 (upd Hc D2 (.lst (((ksc.map nS).map V.str) ++ ((ms.map nS).map V.str)))) := (s9.trans sc).trans (same_new hD2)
                have eD9 := (s9.trans sc) _ _ eD8
                refine ⟨D2, ksc ++ ms, acc ++ [.ref t], b ++ [.set x x1], _, _, _, _, _, _, _, _, _, _, rfl, f3.trans sf, sf _ _ eD8, f4.mono (.of_same sf), f5, f6, f7, ?_, .inr (none_of (f3.trans (s9.trans sc)) hD2), (ne_of_none eD9 hD2).symm, ?_, ?_⟩
                · unfold KnAt
                  rw [upd_same, List.map_append, List.map_append]
                · rw [List.nodup_append]
                  refine ⟨hnc, ?_, fun y hy z hz e => (hm z hz).2 (e ▸ hy)⟩
                  match ms, lm' with
                  | [], _ => exact .nil
                  | [_], _ => exact List.nodup_cons.mpr ⟨fun z => (nomatch z), .nil⟩
                · intro y hy
                  rw [afB_append, afB, afB, afD]
                  rcases List.mem_append.mp hy with h | h
                  · exact .inl (haf y h)
                  · exact .inr (hm y h).1
            · have c2' := of_decide_eq_false c2
              have hkne : ksc ≠ [] := fun z => by rw [z] at c3; cases c3
              obtain ⟨d', rfl⟩ : ∃ d', d = d' + 1 := ⟨d - 1, by omega⟩
              have hd' : 1 ≤ d' := by
                cases d' with
                | zero => exact absurd rfl c2'
                | succ z => omega
              have ed : ((d' + 1 : Nat) : Int) - 1 = (d' : Int) := by omega
              have e3 : d' + 1 - 1 = d' := by omega
              rw [e3] at fin hlim
              rw [e3]
              have ha5 := (s3.trans s45).seq ha
              have hk5 : KnAt H5 knc ksc := s45 _ _ hkc
              refine ⟨_, rfl, _, _, rfl, rfl, _, rfl, ifC (fun c4 => ?_) fun c4 => ?_⟩
              · refine ⟨_, rfl, _, rfl, _, _, rfl, rfl, _, rfl, _, rfl, _, _, rfl, rfl, a, ns, bs + 17, knc, ksc, d', (by show [V.ref a, V.int (bs + 17), V.ref knc, V.int (((d' + 1 : Nat) : Int) - 1)] = _; rw [ed]), ha5, by omega, hk5, hnc, hd', by omega, by omega, fun t1 bt1 kn1 H6 vb1 b1 ks1 s6 g1 g2 g3 g4 g5 g6 g7 g8 g9 g10 => ?_⟩
                refine ⟨t1, _, rfl, sq_of g1, rfl, _, _, rfl, _, _, rfl, rfl, _, rfl, _, rfl, _, _, rfl, rfl, _, rfl, _, rfl, _, _, rfl, rfl, a, ns, bs + 33, knc, ksc, d', (by show [V.ref a, V.int (bs + 33), V.ref knc, V.int (((d' + 1 : Nat) : Int) - 1)] = _; rw [ed]), s6.seq ha5, by omega, s6 _ _ hk5, hnc, hd', by omega, by omega, fun t2 bt2 kn2 H7 vb2 b2 ks2 s7 k1 k2 k3 k4 k5 k6 k7 k8 k9 k10 => ?_⟩
                refine ⟨t2, _, rfl, sq_of k1, rfl, _, _, rfl, _, _, rfl, rfl, ?_⟩
                have s57 := s6.trans s7
                have s37 := s45.trans s57
                refine ⟨_, rfl, .inl ⟨rfl, _, .inl (.inl (s37 _ _ eD))⟩, _, rfl, _, rfl, _, _, rfl, rfl, _, rfl, a, ns, bs + 2, knc, ksc, 2, rfl, s57.seq ha5, by omega, s57 _ _ hk5, by decide, by decide, fun v1 H8 x1 s8 i1 p1 w1 => ?_⟩
                refine ⟨_, rfl, _, rfl, (by show (4 : Nat) ≤ sizeLine; decide), fun t ht => ?_⟩
                have s39 : Same H3 (upd H8 t (.tup [.str "if", v1, .ref bt1, .ref bt2])) := (s37.trans s8).trans (same_new ht)
                have s79 : Same H7 (upd H8 t (.tup [.str "if", v1, .ref bt1, .ref bt2])) := s8.trans (same_new ht)
                have s69 := s7.trans s79
                have it : IsDd (upd H8 t (.tup [.str "if", v1, .ref bt1, .ref bt2])) (.ref t) (.ife x1 b1 b2) := ⟨t, v1, bt1, bt2, vb1, vb2, rfl, upd_same, i1.mono (.new ht), s69 _ _ g2, g3.mono (.of_same s69), s79 _ _ k2, k3.mono (.of_same s79)⟩
                generalize upd H8 t (.tup [.str "if", v1, .ref bt1, .ref bt2]) = H9 at s39 s79 s69 it ⊢
                have hl : limD d' (.ife x1 b1 b2) := by
                  cases d' with
                  | zero => omega
                  | succ e => exact ⟨by omega, g5, k5⟩
                obtain ⟨f1, f2, f3, f4, f5, f6, f7⟩ := fin (.ref t) (.ife x1 b1 b2) H9 s39 it hl (by rw [wfD]; exact ⟨w1, g6, k6⟩)
                refine ⟨D, acc, .ref t, rfl, rfl, f1, f2, ?_⟩
                have eD5 : H5 D = some (.lst acc) := s45 _ _ eD
                have n1 : kn1 ≠ D := by
                  rcases g8 with h | h
                  · rw [h]; exact nkD
                  · exact (ne_of_none eD5 h).symm
                have n2 : kn2 ≠ D := by
                  rcases k8 with h | h
                  · rw [h]; exact nkD
                  · exact (ne_of_none (s6 _ _ eD5) h).symm
                have q1 : KnAt (upd H9 D (.lst (acc ++ [.ref t]))) kn1 ks1 := by
                  unfold KnAt
                  rw [upd_ne n1]
                  exact s69 _ _ g7
                have q2 : KnAt (upd H9 D (.lst (acc ++ [.ref t]))) kn2 ks2 := by
                  unfold KnAt
                  rw [upd_ne n2]
                  exact s79 _ _ k7
                have eDa : (upd H9 D (.lst (acc ++ [.ref t]))) D = some (.lst (acc ++ [.ref t])) := upd_same
                generalize upd H9 D (.lst (acc ++ [.ref t])) = Ha at f3 f4 q1 q2 eDa ⊢
                refine ⟨_, rfl, kn1, rfl, ⟨_, .inl (.inl q1)⟩, fun DL hDL => lc_list (K := K) (a := kn1) (xs := (ks1.map nS).map V.str) (fun j H' => Same Ha H' ∧ ∃ ms : List Nm, H' DL = some (.lst ((ms.map nS).map V.str)) ∧ ms = (ks1.take j).filter (fun y => decide (y ∈ ks2))) ⟨same_new hDL, [], upd_same, rfl⟩ (fun i H' _ p => .inl (.inl (p.1 _ _ q1))) ?_ ?_⟩
                · rintro j y Hc hj ⟨sc, ms, em, rfl⟩
                  rw [List.getElem?_map, List.getElem?_map] at hj
                  cases er : ks1[j]? with
                  | none => rw [er] at hj; cases hj
                  | some z =>
                    rw [er] at hj
                    injection hj with hj
                    subst hj
                    have et : (ks1.take (j + 1)).filter (fun y => decide (y ∈ ks2)) = (ks1.take j).filter (fun y => decide (y ∈ ks2)) ++ [z].filter (fun y => decide (y ∈ ks2)) := by
                      rw [List.take_add_one, er, List.filter_append]
                      rfl
                    have hlen : ((ks1.take j).filter (fun y => decide (y ∈ ks2))).length ≤ 4 := Nat.le_trans (List.length_filter_le _ _) (Nat.le_trans (by rw [List.length_take]; omega) (nodup_len4 _ g9))
                    refine ⟨rfl, _, rfl, _, rfl, kn2, _, rfl, .inl (.inl (.inl (sc _ _ q2))), rfl, flat_nms _, _, rfl, ?_⟩
                    show if inV (V.str (nS z)) ((ks2.map nS).map V.str) = true then _ else _
                    rw [inV_nms]
                    refine ifC (fun c => ?_) fun c => ?_
                    · refine ⟨_, rfl, _, em, small_line (by simp only [List.length_map]; omega), same_put sc hDL, _, ?_, et.symm⟩
                      rw [upd_same, show [z].filter (fun y => decide (y ∈ ks2)) = [z] by simp only [List.filter, c], List.map_append, List.map_append]
                      rfl
                    · refine ⟨sc, _, em, ?_⟩
                      rw [et, show [z].filter (fun y => decide (y ∈ ks2)) = [] by simp only [List.filter, c], List.append_nil]
                · rintro Hc ⟨sc, ms, em, em2⟩
                  rw [List.length_map, List.length_map, List.take_length] at em2
                  subst em2
                  refine ⟨DL, (ks1.filter fun y => decide (y ∈ ks2)), acc ++ [.ref t], b ++ [.ife x1 b1 b2], _, _, _, _, _, _, _, _, _, _, rfl, f3.trans sc, sc _ _ eDa, f4.mono (.of_same sc), f5, f6, f7, em, .inr (none_of f3 hDL), (ne_of_none eDa hDL).symm, g9.filter _, ?_⟩
                  intro y hy
                  rw [List.mem_filter, decide_eq_true_eq] at hy
                  rw [afB_append, afB, afB, afD]
                  exact ⟨afB_mono haf b1 y (g10 y hy.1), afB_mono haf b2 y (k10 y hy.2)⟩
              · refine ⟨_, rfl, _, rfl, _, _, rfl, rfl, _, rfl, _, rfl, _, _, rfl, rfl, a, ns, bs + 51, knc, ksc, d', (by show [V.ref a, V.int (bs + 51), V.ref knc, V.int (((d' + 1 : Nat) : Int) - 1)] = _; rw [ed]), ha5, by omega, hk5, hnc, hd', by omega, by omega, fun t1 bt1 kn1 H6 vb1 b1 ks1 s6 g1 g2 g3 g4 g5 g6 g7 g8 g9 g10 => ?_⟩
                refine ⟨_, _, _, _, rfl, rfl, sq_of g1, at0, ?_⟩
                have s36 := s45.trans s6
                refine ⟨_, rfl, .inl ⟨rfl, _, .inl (.inl (s36 _ _ eD))⟩, _, rfl, _, rfl, _, _, rfl, rfl, _, rfl, _, rfl, _, rfl, a, ns, bs + 2, knc, ksc, bt1, vb1, b1, d' + 1, rfl, s6.seq ha5, by omega, s6 _ _ hk5, hkne, g2, g3, by omega, fun v H7 e m b' s7 iv pe we m1 m2 hb' => ?_⟩
                have s37 := s36.trans s7
                have hl : limD d' (.whl e m b') := by
                  cases d' with
                  | zero => omega
                  | succ u =>
                    refine ⟨pe, m1, m2, ?_⟩
                    rcases hb' with rfl | ⟨x, nn, hx, hn, rfl⟩
                    · exact g5
                    · refine ⟨by rw [List.length_append, List.length_singleton]; omega, fun z hz => ?_⟩
                      rcases List.mem_append.mp hz with h | h
                      · exact g5.2 z h
                      · rw [List.mem_singleton.mp h]
                        cases u <;> exact (by show 1 + max 1 1 ≤ 3; decide)
                have hw : wfD (.whl e m b') (fun x => x ∈ ksc) := by
                  rw [wfD]
                  refine ⟨we, m1, m2, ?_⟩
                  rcases hb' with rfl | ⟨x, nn, hx, hn, rfl⟩
                  · exact g6
                  · rw [wfB_append, wfB, wfB, wfD]
                    exact ⟨g6, ⟨afB_ge b1 x hx, hn⟩, trivial⟩
                obtain ⟨f1, f2, f3, f4, f5, f6, f7⟩ := fin v (.whl e m b') H7 s37 iv hl hw
                refine ⟨D, acc, v, rfl, rfl, f1, f2, ?_⟩
                refine ⟨knc, ksc, acc ++ [v], b ++ [.whl e m b'], _, _, _, _, _, _, _, _, _, _, rfl, f3, upd_same, f4, f5, f6, f7, by unfold KnAt; rw [upd_ne nkD]; exact s37 _ _ hkc, hnew, nkD, hnc, ?_⟩
                intro y hy
                rw [afB_append, afB, afB, afD]
                exact haf y hy
      · rintro σ H3 ⟨knc, ksc, acc, b, y5, y6, y7, y8, y9, y10, y11, y12, y13, y14, rfl, s3, eD, hb, hbl, hlim, hwf, hkc, hnew, nkD, hnc, haf⟩
        have hbs : b.length ≤ d := by omega
        have hal : acc.length = b.length := hb.length
        have fin : ∀ (bt : Addr) H4, Same H3 H4 → H4 bt = some (.tup acc) → ∀ t, H4 t = none → Q (.ref t) (upd H4 t (.tup [.ref bt, .ref knc])) := fun bt H4 s4 h4 t ht =>
          have s34 : Same H3 (upd H4 t (.tup [.ref bt, .ref knc])) := s4.trans (same_new ht)
          q t bt knc _ acc b ksc (s3.trans s34) upd_same (same_new ht _ _ h4) (hb.mono (.of_same s34)) hbs ⟨by omega, hlim⟩ hwf (s34 _ _ hkc) hnew hnc haf
        refine ⟨_, rfl, D, acc, rfl, .inl ⟨.inl (.inl eD), fun bt hbt => ?_⟩⟩
        exact ⟨_, rfl, two, fun t ht => fin bt _ (same_new hbt) upd_same t ht⟩
end
end Sr
end
section
set_option Elab.async false
set_option linter.all false
set_option maxRecDepth 100000
set_option maxHeartbeats 4000000
/-! walk: _law_program -/
namespace Sr
open PySem PySem.Spec PyProof.Rows L2 SrM SrK
section
variable {P : Program} {w : World} {K : PySem.W.Frag} {mg : Str → Option Value} {base : Heap} {C : Addr}
abbrev N_law_program : List Str := ["_law_script", "_law_at", "_law_ins", "_law_k", "_law_low", "_law_row"]
theorem sc_law_program : FnScope N_law_program ["_law_script", "_law_at"] (defScope s_law_program) := ⟨rfl, rfl, rfl, by decide +kernel, rfl, by decide +kernel, by decide +kernel⟩
def spLProg (K : PySem.W.Frag) : Sp := fun vs H Q _ => ∃ (a : Addr) (ns : List Int) (k : Int), vs = [.ref a, .int k] ∧ SqL K H a (ns.map V.int) ∧ 0 ≤ k ∧ ∀ v H' ins ds, Same H H' → PgAt H' v ins ds → PgOk ins ds → Q v H'
theorem ok_law_program (T : Tx K mg) (h_law_pick : Has P w K mg base 2 "_law_pick" ["_law_script", "_law_k", "_law_many"] (spPick K))
    (h_law_block : Has P w K mg base (7 + 3) "_law_block" ["_law_script", "_law_at", "_law_known", "_law_deep"] (spLBlock K 3)) (G : FnG K mg "_law_program" s_law_program) : Has P w K mg base 11 "_law_program" ["_law_script", "_law_at"] (spLProg K) := by
  refine has_of (N := N_law_program) G sc_law_program (fun _ _ _ _ _ _ us hl => match us, hl with | [_, _], _ => rfl) (fun vs H Q E h => ?_) (fun f cdv A outer s0 H vs Q E hr h => ?_)
  · obtain ⟨_, _, _, rfl, _⟩ := h
    rfl
  · obtain ⟨a, ns, k, rfl, ha, hk, q⟩ := h
    refine ⟨_, (pss_cons (ps_set (i := 2) sc_law_program.nd rfl (.inl rfl) (pe_lst pa_nil))
      (pss_cons (ps_for PassesOwn.never rfl (pi_range1 (by rfl) T.range (pa1 (pe_callH h_law_pick hr (by decide) (pa3 (pv 0) (pv 1) pe_int)))) (pg_name (i := 3) sc_law_program.nd rfl (.inl rfl))
      (pss_cons (ps_set (i := 4) sc_law_program.nd rfl (.inl rfl) (pe_op op_sub (pe_callH h_law_pick hr (by decide) (pa3 (pv 0) (pe_op op_add (pe_op op_add (pv 1) pe_int) (pe_op op_mul pe_int (pv 3))) pe_int)) pe_int))
      (pss_one (ps_expr (pe_bm PySem.F.plainAttrs_list PySem.F.slot_list_append PySem.F.type_list_append mt_append (pv 2) (pa1 (pe_tup (pa3 (pe_ix ix_list (pe_lst (pa2 pe_str pe_str)) (pv 3) (fun _ _ => rfl)) (pv 4) (pe_op op_add (pv 4) (pe_callH h_law_pick hr (by decide) (pa3 (pv 0) (pe_op op_add (pe_op op_add (pv 1) pe_int) (pe_op op_mul pe_int (pv 3))) pe_int)))))))))))
      (pss_one (ps_ret (pt2 (pe_callTy call_tuple_of (by rfl) T.tuple (by decide +kernel) (pa1 (pv 2))) (ixc (pe_callH h_law_block hr (by decide) (pa_cons (pv 0) (pa3 (pe_op op_add (pv 1) pe_int) (pe_lc (own := [("_law_row", 5)]) rfl sc_law_program.nd (pi_list (pv 2)) (blkOk_by (N := N_law_program) (sc := defScope s_law_program) (by decide +kernel)) (fun _ _ _ _ _ => (pg_name (i := 5) sc_law_program.nd rfl (.inl rfl))) (fun _ _ _ _ _ => pts_nil) (fun _ _ _ _ _ => (ixk K (pv 5)))) pe_int))))))))), ?_⟩
    refine ⟨Nat.zero_le _, fun D hD => ?_⟩
    have s1 : Same H (upd H D (.lst [])) := same_new hD
    have e1 : (upd H D (.lst [])) D = some (.lst []) := upd_same
    generalize upd H D (.lst []) = H1 at s1 e1 ⊢
    refine ⟨_, rfl, _, rfl, a, ns, k, 3, rfl, s1.seq ha, hk, by decide, fun r H2 hr2 s2 => ?_⟩
    have s12 := s1.trans s2
    refine ⟨_, rfl, by omega, by omega, ?_⟩
    refine for_range (lo := 0) (fun i σ H' => ∃ (rs : List Addr) (ins : List (Nm × Sg)) (y3 y4 : Option V), σ = [some (.ref a), some (.int k), some (.ref D), y3, y4, none] ∧ Same H H' ∧ H' D = some (.lst (rs.map V.ref)) ∧ RowsIn H' rs ins ∧ ins.map (·.1) = [Nm.a, .b].take i ∧ ∀ z ∈ ins, -6 ≤ z.2.1 ∧ z.2.1 ≤ 6 ∧ z.2.1 ≤ z.2.2 ∧ z.2.2 ≤ z.2.1 + 2) ?_ ?_ ?_
    · exact ⟨[], [], _, _, rfl, s12, s2 _ _ e1, .nil, rfl, fun _ z => (nomatch z)⟩
    · rintro i σ H3 hi ⟨rs, ins, y3, y4, rfl, s3, eD, hR, hN, hB⟩
      have hi' : i < 2 := by omega
      have hil : ins.length = i := by
        have := congrArg List.length hN
        rw [List.length_map, List.length_take] at this
        rw [this]
        show min i 2 = i
        omega
      have hrl : rs.length = i := by rw [← hil]; exact hR.length
      refine ⟨_, rfl, _, rfl, _, _, rfl, rfl, _, rfl, _, _, rfl, rfl, .inl ⟨by decide, by decide⟩, _, _, rfl, rfl, a, ns, k + 1 + 2 * (0 + (i : Int)), 13, rfl, s3.seq ha, by omega, by decide, fun r1 H4 hr4 s4 => ?_⟩
      have s34 := s3.trans s4
      refine ⟨_, _, rfl, rfl, ?_⟩
      refine ⟨_, rfl, .inl ⟨rfl, _, .inl (.inl (s4 _ _ eD))⟩, ?_⟩
      obtain ⟨x, hx⟩ : ∃ x, [Nm.a, .b][i]? = some x := ⟨_, List.getElem?_eq_getElem (show i < [Nm.a, .b].length from hi')⟩
      refine ⟨by decide, fun l hl => ⟨_, rfl, l, _, _, V.str (nS x), rfl, rfl, .inl (.inl upd_same), ?_, ?_⟩⟩
      · rw [show (0 : Int) + (i : Int) = (i : Int) by omega]
        exact atI_nat (by rw [show [V.str "a", V.str "b"] = [Nm.a, .b].map (fun x => V.str (nS x)) from rfl, List.getElem?_map, hx]; rfl)
      have s5 : Same H4 (upd H4 l (.lst [V.str "a", V.str "b"])) := same_new hl
      refine ⟨_, rfl, _, rfl, _, rfl, _, rfl, _, _, rfl, rfl, _, rfl, _, _, rfl, rfl, .inl ⟨by decide, by decide⟩, _, _, rfl, rfl, a, ns, k + 2 + 2 * (0 + (i : Int)), 3, rfl, (s34.trans s5).seq ha, by omega, by decide, fun r5 H6 hr5 s6 => ⟨_, _, rfl, rfl, (by show (3 : Nat) ≤ sizeLine; decide), fun t ht => ?_⟩⟩
      have s47 : Same H3 (upd H6 t (.tup [.str (nS x), .int ((r1 : Int) - 6), .int ((r1 : Int) - 6 + (r5 : Int))])) := ((s4.trans s5).trans s6).trans (same_new ht)
      have et : (upd H6 t (.tup [.str (nS x), .int ((r1 : Int) - 6), .int ((r1 : Int) - 6 + (r5 : Int))])) t = some (.tup [.str (nS x), .int ((r1 : Int) - 6), .int ((r1 : Int) - 6 + (r5 : Int))]) := upd_same
      have eD7 := s47 _ _ eD
      have td : Tups (upd H6 t (.tup [.str (nS x), .int ((r1 : Int) - 6), .int ((r1 : Int) - 6 + (r5 : Int))])) (upd (upd H6 t (.tup [.str (nS x), .int ((r1 : Int) - 6), .int ((r1 : Int) - 6 + (r5 : Int))])) D (.lst (rs.map V.ref ++ [.ref t]))) := .put fun xs e => by rw [eD7] at e; cases e
      refine ⟨D, rs.map V.ref, .ref t, rfl, rfl, eD7, small_line (by rw [List.length_map]; omega), rs ++ [t], ins ++ [(x, ((r1 : Int) - 6, (r1 : Int) - 6 + (r5 : Int)))], _, _, rfl, same_put (s3.trans s47) hD, by rw [upd_same, List.map_append]; rfl, ?_, ?_, ?_⟩
      · exact Paired.snoc (Paired.mono (fun _ _ e => td _ _ (s47 _ _ e)) hR) (td _ _ et)
      · rw [List.map_append, hN, List.take_add_one, hx]
        rfl
      · intro z hz
        rcases List.mem_append.mp hz with hz | hz
        · exact hB z hz
        · rw [List.mem_singleton.mp hz]
          simp only
          omega
    · rintro σ H3 ⟨rs, ins, y3, y4, rfl, s3, eD, hR, hN, hB⟩
      have hnd : (ins.map (·.1)).Nodup := by
        rw [hN]
        exact List.Nodup.sublist (List.take_sublist _ _) (by decide)
      have hil : ins.length ≤ 2 := by
        have := congrArg List.length hN
        rw [List.length_map, List.length_take] at this
        have h2 : [Nm.a, Nm.b].length = 2 := rfl
        omega
      have hrl : rs.length = ins.length := hR.length
      refine ⟨_, rfl, D, _, rfl, .inl ⟨.inl (.inl eD), fun l hl => ?_⟩⟩
      have s4 : Same H3 (upd H3 l (.tup (rs.map V.ref))) := same_new hl
      have el : (upd H3 l (.tup (rs.map V.ref))) l = some (.tup (rs.map V.ref)) := upd_same
      generalize upd H3 l (.tup (rs.map V.ref)) = H4 at s4 el ⊢
      have eD4 := s4 _ _ eD
      have hR4 : RowsIn H4 rs ins := Paired.mono (fun _ _ e => s4 _ _ e) hR
      refine ⟨_, rfl, _, rfl, _, _, rfl, rfl, _, rfl, D, rfl, ⟨_, .inl (.inl eD4)⟩, fun Dl hDl => lc_list (K := K) (a := D) (xs := rs.map V.ref) (fun j H' => Same H4 H' ∧ H' Dl = some (.lst ((((ins.map (·.1)).take j).map nS).map V.str))) ⟨same_new hDl, upd_same⟩ (fun j H' _ p => .inl (.inl (p.1 _ _ eD4))) ?_ ?_⟩
      · rintro j y H5 hj ⟨s5, e5⟩
        rw [List.getElem?_map] at hj
        cases er : rs[j]? with
        | none => rw [er] at hj; cases hj
        | some r =>
          rw [er] at hj
          injection hj with hj
          subst hj
          obtain ⟨z, ez, hz⟩ := paired_get hR4 er
          have hj' : j < ins.length := (List.getElem?_eq_some_iff.mp ez).1
          refine ⟨rfl, _, rfl, _, _, _, _, rfl, rfl, sq_of (s5 _ _ hz), at0, _, e5, small_line (by simp only [List.length_map, List.length_take]; omega), same_put s5 hDl, ?_⟩
          rw [upd_same, List.take_add_one, List.getElem?_map, ez]
          simp only [Option.map_some, Option.toList_some, List.map_append, List.map_cons, List.map_nil]
      · rintro H5 ⟨s5, e5⟩
        rw [show (rs.map V.ref).length = (ins.map (·.1)).length by rw [List.length_map, List.length_map, hrl], List.take_length] at e5
        have e5' : KnAt H5 Dl (ins.map (·.1)) := e5
        refine ⟨a, ns, k + 9, Dl, ins.map (·.1), 3, rfl, ((s3.trans s4).trans s5).seq ha, by omega, e5', hnd, by decide, by decide, by decide, fun t bt kn' H6 vb b ks' s6 et ebt hIs hlen hlim hwf _ _ _ _ => ?_⟩
        refine ⟨_, _, _, _, rfl, rfl, sq_of et, at0, two, fun u hu => ?_⟩
        have s7 : Same H6 (upd H6 u (.tup [.ref l, .ref bt])) := same_new hu
        have s67 := s6.trans s7
        refine q _ _ ins b (((s3.trans s4).trans s5).trans s67) ⟨u, l, bt, vb, rfl, upd_same, ⟨rs, s67 _ _ (s5 _ _ el), Paired.mono (fun _ _ e => s67 _ _ (s5 _ _ e)) hR4⟩, s7 _ _ ebt, hIs.mono (.of_same s7)⟩ ⟨hnd, fun z hz => ?_, hil, fun z hz => (hB z hz).2.2.2, hlim, hwf⟩
        have := hB z hz
        unfold Wi
        omega
end
end Sr
end
section
set_option Elab.async false
set_option linter.all false
set_option maxRecDepth 100000
set_option maxHeartbeats 4000000
/-! walks: other_name, sum_by, block_by, exchanged -/
namespace Sr
open PySem PySem.Spec PyProof.Rows L2 SrM SrK
section
variable {P : Program} {w : World} {K : PySem.W.Frag} {mg : Str → Option Value} {base : Heap} {C : Addr}
abbrev N_other_name : List Str := ["name", "one", "other"]
theorem sc_other_name : FnScope N_other_name ["name", "one", "other"] (defScope s_other_name) := ⟨rfl, rfl, rfl, by decide +kernel, rfl, by decide +kernel, by decide +kernel⟩
def spOther : Sp := fun vs H Q _ => ∃ x : Nm, vs = [.str (nS x), .str "a", .str "dd"] ∧ Q (.str (nS (exN x))) H
theorem ok_other_name (G : FnG K mg "other_name" s_other_name) : Has P w K mg base 1 "other_name" ["name", "one", "other"] spOther := by
  refine has_of (N := N_other_name) G sc_other_name (fun _ _ _ _ _ _ us hl => match us, hl with | [_, _, _], _ => rfl) (fun vs H Q E h => ?_) (fun f cdv A outer s0 H vs Q E hr h => ?_)
  · obtain ⟨_, rfl, _⟩ := h
    rfl
  · obtain ⟨x, rfl, q⟩ := h
    refine ⟨_, (pss_cons (ps_if (pt_cmpR op_eq (pv 0) (pv 1) (nomark _))
      (pss_one (ps_ret (pv 2)))
      pss_nil)
      (pss_one (ps_ret (pe_ifExp (pt_cmpR op_eq (pv 0) (pv 2) (nomark _)) (pv 1) (pv 0))))), ?_⟩
    refine ⟨_, rfl, _, rfl, rfl, _, rfl, ?_⟩
    cases x with
    | a => exact ifT (by decide +kernel) ⟨_, rfl, q⟩
    | b => exact ifF (by decide +kernel) ⟨_, rfl, _, rfl, rfl, _, rfl, ifF (by decide +kernel) ⟨_, rfl, q⟩⟩
    | c => exact ifF (by decide +kernel) ⟨_, rfl, _, rfl, rfl, _, rfl, ifF (by decide +kernel) ⟨_, rfl, q⟩⟩
    | d => exact ifF (by decide +kernel) ⟨_, rfl, _, rfl, rfl, _, rfl, ifT (by decide +kernel) ⟨_, rfl, q⟩⟩
abbrev N_sum_by : List Str := ["expr", "one", "other"]
theorem sc_sum_by : FnScope N_sum_by ["expr", "one", "other"] (defScope s_sum_by) := ⟨rfl, rfl, rfl, by decide +kernel, rfl, by decide +kernel, by decide +kernel⟩
def spSumBy (n : Nat) : Sp := fun vs H Q _ => ∃ (v : V) (e : Ex), vs = [v, .str "a", .str "dd"] ∧ IsEx H v e ∧ dpE e ≤ n ∧ ∀ v' H', Same H H' → IsEx H' v' (exE e) → Q v' H'
theorem three : 3 ≤ sizeLine := by decide
theorem ok_sum_by (h_other_name : Has P w K mg base 1 "other_name" ["name", "one", "other"] spOther) (G : FnG K mg "sum_by" s_sum_by) : ∀ n, Has P w K mg base (2 + n) "sum_by" ["expr", "one", "other"] (spSumBy n)
  | 0 => has_of (k := 1) (N := N_sum_by) G sc_sum_by (fun _ _ _ _ _ _ us hl => match us, hl with | [_, _, _], _ => rfl) (fun vs H Q E h => by obtain ⟨_, _, rfl, _⟩ := h; rfl) (fun f cdv A outer s0 H vs Q E hr h => by
    obtain ⟨_, e, rfl, _, hd, _⟩ := h
    have := dpE_pos e
    omega)
  | n + 1 => by
    have h_sum_by := ok_sum_by h_other_name G n
    refine has_of (k := 2 + n) (N := N_sum_by) G sc_sum_by (fun _ _ _ _ _ _ us hl => match us, hl with | [_, _, _], _ => rfl) (fun vs H Q E h => ?_) (fun f cdv A outer s0 H vs Q E hr h => ?_)
    · obtain ⟨_, _, rfl, _⟩ := h
      rfl
    · obtain ⟨v, e, rfl, he, hd, q⟩ := h
      refine ⟨_, (pss_cons (ps_if (pt_cmpR op_eq (ixc (pv 0)) pe_str (nomark _))
      (pss_one (ps_ret (pv 0)))
      pss_nil)
      (pss_cons (ps_if (pt_cmpR op_eq (ixc (pv 0)) pe_str (nomark _))
      (pss_one (ps_ret (pt2 pe_str (pe_callH h_other_name hr (by omega) (pa3 (ixc (pv 0)) (pv 1) (pv 2))))))
      pss_nil)
      (pss_one (ps_ret (pe_tup (pa3 (ixc (pv 0)) (pe_callH h_sum_by hr (by omega) (pa3 (ixc (pv 0)) (pv 1) (pv 2))) (pe_callH h_sum_by hr (by omega) (pa3 (ixc (pv 0)) (pv 1) (pv 2))))))))), ?_⟩
      cases e with
      | num m =>
        have he' := he
        obtain ⟨a, rfl, ha⟩ := he
        exact ⟨_, rfl, _, _, _, _, rfl, rfl, sq_of ha, at0, rfl, _, rfl, ifT (by decide +kernel) ⟨_, rfl, q _ H (.refl H) he'⟩⟩
      | name y =>
        obtain ⟨a, rfl, ha⟩ := he
        refine ⟨_, rfl, _, _, _, _, rfl, rfl, sq_of ha, at0, rfl, _, rfl, ifF (by decide +kernel) ⟨_, rfl, _, _, _, _, rfl, rfl, sq_of ha, at0, rfl, _, rfl, ifT (by decide +kernel) ?_⟩⟩
        refine ⟨_, rfl, _, _, _, _, rfl, rfl, sq_of ha, at1, _, rfl, _, rfl, y, rfl, two, fun t ht => ?_⟩
        exact q _ _ (same_new ht) ⟨t, rfl, upd_same⟩
      | bin u l r =>
        obtain ⟨a, vl, vr, rfl, ha, hl, hrr⟩ := he
        have hd : 1 + max (dpE l) (dpE r) ≤ n + 1 := hd
        refine ⟨_, rfl, _, _, _, _, rfl, rfl, sq_of ha, at0, rfl, _, rfl, ifF (by cases u <;> decide +kernel) ⟨_, rfl, _, _, _, _, rfl, rfl, sq_of ha, at0, rfl, _, rfl, ifF (by cases u <;> decide +kernel) ?_⟩⟩
        refine ⟨_, rfl, _, _, _, _, rfl, rfl, sq_of ha, at0, _, rfl, _, _, _, _, rfl, rfl, sq_of ha, at1, _, rfl, _, rfl, vl, l, rfl, hl, by omega, fun v1 H1 s1 h1 => ?_⟩
        refine ⟨_, rfl, _, _, _, _, rfl, rfl, sq_of (s1 _ _ ha), at2, _, rfl, _, rfl, vr, r, rfl, hrr.mono (.of_same s1), by omega, fun v2 H2 s2 h2 => ⟨three, fun t ht => ?_⟩⟩
        have s3 := (s1.trans s2).trans (same_new (o := HO.tup [.str (wS u), v1, v2]) ht)
        exact q _ _ s3 ⟨t, v1, v2, rfl, upd_same, (h1.mono (.of_same s2)).mono (.new ht), h2.mono (.new ht)⟩
abbrev N_block_by : List Str := ["block", "one", "other", "made", "deed", "first", "second"]
theorem sc_block_by : FnScope N_block_by ["block", "one", "other"] (defScope s_block_by) := ⟨rfl, rfl, rfl, by decide +kernel, rfl, by decide +kernel, by decide +kernel⟩
def spBlockBy (n : Nat) : Sp := fun vs H Q _ => ∃ (v : V) (ds : List Dd), vs = [v, .str "a", .str "dd"] ∧ IsBl H v ds ∧ limX n ds ∧ ∀ v' H', Same H H' → IsBl H' v' (exB ds) → Q v' H'
theorem exB_cons (d : Dd) (ds : List Dd) : exB (d :: ds) = exD d :: exB ds := by rw [exB]
theorem exB_take {ds : List Dd} {i : Nat} {d : Dd} (h : ds[i]? = some d) : exB (ds.take (i + 1)) = exB (ds.take i) ++ [exD d] := by
  induction ds generalizing i with
  | nil => cases h
  | cons c r ih =>
    cases i with
    | zero =>
      have e : c = d := by simpa using h
      subst e
      simp only [List.take_succ_cons, List.take_zero, exB_cons]
      rw [exB]
      rfl
    | succ i =>
      rw [List.take_succ_cons, List.take_succ_cons, exB_cons, exB_cons, ih (by simpa using h)]
      rfl
theorem ok_block_by (T : Tx K mg) (h_other_name : Has P w K mg base 1 "other_name" ["name", "one", "other"] spOther) (h_sum_by : Has P w K mg base 5 "sum_by" ["expr", "one", "other"] (spSumBy 3)) (G : FnG K mg "block_by" s_block_by) : ∀ n, Has P w K mg base (6 + n) "block_by" ["block", "one", "other"] (spBlockBy n)
  | 0 => has_of (k := 5) (N := N_block_by) G sc_block_by (fun _ _ _ _ _ _ us hl => match us, hl with | [_, _, _], _ => rfl) (fun vs H Q E h => by obtain ⟨_, _, rfl, _⟩ := h; rfl) (fun f cdv A outer s0 H vs Q E hr h => by
    obtain ⟨_, _, rfl, _, hd, _⟩ := h
    exact hd.elim)
  | n + 1 => by
    have h_block_by := ok_block_by T h_other_name h_sum_by G n
    refine has_of (k := 6 + n) (N := N_block_by) G sc_block_by (fun _ _ _ _ _ _ us hl => match us, hl with | [_, _, _], _ => rfl) (fun vs H Q E h => ?_) (fun f cdv A outer s0 H vs Q E hr h => ?_)
    · obtain ⟨_, _, rfl, _⟩ := h
      rfl
    · obtain ⟨v, ds, rfl, ⟨ab, vb, rfl, hbl, hds⟩, hlim, q⟩ := h
      refine ⟨_, (pss_cons (ps_set (i := 3) sc_block_by.nd rfl (.inl rfl) (pe_lst pa_nil))
      (pss_cons (ps_for PassesOwn.never rfl (pi_tup (pv 0)) (pg_name (i := 4) sc_block_by.nd rfl (.inl rfl))
      (pss_one (ps_if (pt_cmpR op_eq (ixc (pv 4)) pe_str (nomark _))
      (pss_one (ps_expr (pe_bm PySem.F.plainAttrs_list PySem.F.slot_list_append PySem.F.type_list_append mt_append (pv 3) (pa1 (pe_tup (pa3 pe_str (pe_callH h_other_name hr (by omega) (pa3 (ixc (pv 4)) (pv 1) (pv 2))) (pe_callH h_sum_by hr (by omega) (pa3 (ixc (pv 4)) (pv 1) (pv 2)))))))))
      (pss_one (ps_if (pt_cmpR op_eq (ixc (pv 4)) pe_str (nomark _))
      (pss_cons (ps_par (i := 5) (j := 6) rfl sc_block_by.nd rfl rfl (by decide) rfl rfl (pa2 (pe_callH h_block_by hr (by omega) (pa3 (ixc (pv 4)) (pv 1) (pv 2))) (pe_callH h_block_by hr (by omega) (pa3 (ixc (pv 4)) (pv 1) (pv 2)))) (by rfl))
      (pss_one (ps_expr (pe_bm PySem.F.plainAttrs_list PySem.F.slot_list_append PySem.F.type_list_append mt_append (pv 3) (pa1 (pe_tup (pa_cons pe_str (pa3 (pe_callH h_sum_by hr (by omega) (pa3 (ixc (pv 4)) (pv 1) (pv 2))) (pv 5) (pv 6)))))))))
      (pss_one (ps_expr (pe_bm PySem.F.plainAttrs_list PySem.F.slot_list_append PySem.F.type_list_append mt_append (pv 3) (pa1 (pe_tup (pa_cons pe_str (pa3 (pe_callH h_sum_by hr (by omega) (pa3 (ixc (pv 4)) (pv 1) (pv 2))) (ixc (pv 4)) (pe_callH h_block_by hr (by omega) (pa3 (ixc (pv 4)) (pv 1) (pv 2)))))))))))))))
      (pss_one (ps_ret (pe_callTy call_tuple_of (by rfl) T.tuple (by decide +kernel) (pa1 (pv 3))))))), ?_⟩
      have hlim : limB n ds := hlim
      have hlen : vb.length = ds.length := hds.length
      have hl4 := hlim.1
      refine ⟨Nat.zero_le _, fun l hl => ?_⟩
      refine ⟨_, rfl, ab, rfl, ⟨_, sq_of (same_new hl _ _ hbl)⟩, for_tup (K := K) (a := ab) (xs := vb) (fun i σ H' => ∃ y4 y5 y6 us, σ = [some (.ref ab), some (.str "a"), some (.str "dd"), some (.ref l), y4, y5, y6] ∧ Same H H' ∧ H' l = some (.lst us) ∧ IsDs H' us (exB (ds.take i)))
        ⟨none, none, none, [], rfl, same_new hl, upd_same, by rw [List.take_zero, exB]; trivial⟩ (fun i σ H' _ ⟨_, _, _, _, _, s, _⟩ => sq_of (s _ _ hbl)) ?_ ?_⟩
      · rintro i x σ H' hi ⟨y4, y5, y6, us, rfl, s1, g1, g2⟩
        obtain ⟨d, ed, hdd⟩ := hds.get hi
        have hi' : i < ds.length := (List.getElem?_eq_some_iff.mp ed).1
        have hul : us.length ≤ 1000 := by have := g2.length; rw [this, exB_length, List.length_take]; omega
        have hdd := hdd.mono (.of_same s1)
        -- the new deed is put behind
        have fin : ∀ H3 t xs, Same H' H3 → H3 t = some (.tup xs) → IsDd H3 (.ref t) (exD d) → ∃ l' acc y, V.ref l = .ref l' ∧ [V.ref t] = [y] ∧ H3 l' = some (.lst acc) ∧ acc.length < sizeLine ∧ (∀ z4 z5 z6, ∃ y4 y5 y6 us', [some (V.ref ab), some (.str "a"), some (.str "dd"), some (.ref l), z4, z5, z6] = [some (V.ref ab), some (.str "a"), some (.str "dd"), some (.ref l), y4, y5, y6] ∧ Same H (upd H3 l' (.lst (acc ++ [y]))) ∧ (upd H3 l' (.lst (acc ++ [y]))) l = some (.lst us') ∧ IsDs (upd H3 l' (.lst (acc ++ [y]))) us' (exB (ds.take (i + 1)))) := fun H3 t xs s3 et hd3 => by
          have g1' := s3 _ _ g1
          have td : Tups H3 (upd H3 l (.lst (us ++ [.ref t]))) := .put fun xs e => by rw [g1'] at e; cases e
          refine ⟨l, us, .ref t, rfl, rfl, g1', small_line hul, fun z4 z5 z6 => ⟨z4, z5, z6, us ++ [.ref t], rfl, same_put (s1.trans s3) hl, upd_same, ?_⟩⟩
          rw [exB_take ed]
          exact IsDs.append (g2.mono ((Tups.of_same s3).trans td)) ⟨hd3.mono td, trivial⟩
        cases d with
        | set y e =>
          obtain ⟨a, ve, rfl, ha, he⟩ := hdd
          have hd3 := limD_set (hlim.2 _ (List.mem_of_getElem? ed))
          refine ⟨_, rfl, _, _, _, _, rfl, rfl, sq_of ha, at0, rfl, _, rfl, ifT (by decide +kernel) ?_⟩
          refine ⟨_, rfl, .inl ⟨rfl, _, .inl (.inl g1)⟩, _, rfl, _, _, _, _, rfl, rfl, sq_of ha, at1, _, rfl, _, rfl, y, rfl, ?_⟩
          refine ⟨_, rfl, _, _, _, _, rfl, rfl, sq_of ha, at2, _, rfl, _, rfl, ve, e, rfl, he, hd3, fun v1 H1 s1' h1 => ⟨three, fun t ht => ?_⟩⟩
          obtain ⟨l', acc, y', e1, e2, e3, e4, e5⟩ := fin _ t _ (s1'.trans (same_new ht)) upd_same (by rw [exD]; exact ⟨t, v1, rfl, upd_same, h1.mono (.new ht)⟩)
          exact ⟨l', acc, y', e1, e2, e3, e4, e5 _ _ _⟩
        | ife e f g =>
          obtain ⟨a, ve, af, ag, vff, vg, rfl, ha, he, hbf, hdf, hbg, hdg⟩ := hdd
          obtain ⟨hd3, lf, lg⟩ := limD_ife (hlim.2 _ (List.mem_of_getElem? ed))
          refine ⟨_, rfl, _, _, _, _, rfl, rfl, sq_of ha, at0, rfl, _, rfl, ifF (by decide +kernel) ?_⟩
          refine ⟨_, rfl, _, _, _, _, rfl, rfl, sq_of ha, at0, rfl, _, rfl, ifT (by decide +kernel) ?_⟩
          refine ⟨_, rfl, _, _, _, _, rfl, rfl, sq_of ha, at2, _, rfl, _, rfl, _, f, rfl, ⟨af, vff, rfl, hbf, hdf⟩, lf, fun v1 H1 s1' h1 => ?_⟩
          refine ⟨_, rfl, _, _, _, _, rfl, rfl, sq_of (s1' _ _ ha), at3, _, rfl, _, rfl, _, g, rfl, ⟨ag, vg, rfl, s1' _ _ hbg, hdg.mono (.of_same s1')⟩, lg, fun v2 H2 s2 h2 => ?_⟩
          have s12 := s1'.trans s2
          refine ⟨v1, v2, rfl, ?_⟩
          refine ⟨_, rfl, .inl ⟨rfl, _, .inl (.inl (s12 _ _ g1))⟩, _, rfl, _, _, _, _, rfl, rfl, sq_of (s12 _ _ ha), at1, _, rfl, _, rfl, ve, e, rfl, he.mono (.of_same s12), hd3, fun v3 H3 s3 h3 => ?_⟩
          refine ⟨_, rfl, _, rfl, by show 4 ≤ sizeLine; decide, fun t ht => ?_⟩
          obtain ⟨a1, u1, rfl, e1, i1⟩ := (h1.mono (.of_same (s2.trans s3))).mono (Tups.new (o := HO.tup [.str "if", v3, v1, v2]) ht)
          obtain ⟨a2, u2, rfl, e2, i2⟩ := (h2.mono (.of_same s3)).mono (Tups.new (o := HO.tup [.str "if", v3, .ref a1, v2]) ht)
          obtain ⟨l', acc, y', e1', e2', e3, e4, e5⟩ := fin _ t _ ((s12.trans s3).trans (same_new ht)) upd_same (by rw [exD]; exact ⟨t, v3, a1, a2, u1, u2, rfl, upd_same, h3.mono (.new ht), e1, i1, e2, i2⟩)
          exact ⟨l', acc, y', e1', e2', e3, e4, e5 _ _ _⟩
        | whl e m b =>
          obtain ⟨a, ve, ab2, vb2, rfl, ha, he, hbb, hbs⟩ := hdd
          obtain ⟨hd3, m0, m20, hlx⟩ := limD_whl (hlim.2 _ (List.mem_of_getElem? ed))
          refine ⟨_, rfl, _, _, _, _, rfl, rfl, sq_of ha, at0, rfl, _, rfl, ifF (by decide +kernel) ?_⟩
          refine ⟨_, rfl, _, _, _, _, rfl, rfl, sq_of ha, at0, rfl, _, rfl, ifF (by decide +kernel) ?_⟩
          refine ⟨_, rfl, .inl ⟨rfl, _, .inl (.inl g1)⟩, _, rfl, _, _, _, _, rfl, rfl, sq_of ha, at1, _, rfl, _, rfl, ve, e, rfl, he, hd3, fun v3 H3 s3 h3 => ?_⟩
          refine ⟨_, rfl, _, _, _, _, rfl, rfl, sq_of (s3 _ _ ha), at2, _, rfl, _, _, _, _, rfl, rfl, sq_of (s3 _ _ ha), at3, _, rfl, _, rfl, _, b, rfl, ⟨ab2, vb2, rfl, s3 _ _ hbb, hbs.mono (.of_same s3)⟩, hlx, fun v4 H4 s4 h4 => ⟨by show 4 ≤ sizeLine; decide, fun t ht => ?_⟩⟩
          obtain ⟨a1, u1, rfl, e1, i1⟩ := h4.mono (Tups.new (o := HO.tup [.str "while", v3, .int m, v4]) ht)
          obtain ⟨l', acc, y', e1', e2', e3, e4, e5⟩ := fin _ t _ ((s3.trans s4).trans (same_new ht)) upd_same (by rw [exD]; exact ⟨t, v3, a1, u1, rfl, upd_same, (h3.mono (.of_same s4)).mono (.new ht), e1, i1⟩)
          exact ⟨l', acc, y', e1', e2', e3, e4, e5 _ _ _⟩
      · rintro σ H' ⟨y4, y5, y6, us, rfl, s1, g1, g2⟩
        rw [hlen, List.take_length] at g2
        refine ⟨_, rfl, l, us, rfl, .inl ⟨.inl (.inl g1), fun u hu => ?_⟩⟩
        exact q (.ref u) _ (s1.trans (same_new hu)) ⟨u, us, rfl, upd_same, g2.mono (.new hu)⟩
end
end Sr
end
section
set_option Elab.async false
set_option linter.all false
set_option maxRecDepth 100000
set_option maxHeartbeats 4000000
/-! walks: exchanged, deeds_of, names_in -/
namespace Sr
open PySem PySem.Spec PyProof.Rows L2 SrM SrK
section
variable {P : Program} {w : World} {K : PySem.W.Frag} {mg : Str → Option Value} {base : Heap} {C : Addr}
/-! ### exchanged -/
abbrev N_exchanged : List Str := ["program", "one", "other", "ins", "name", "low", "high"]
theorem sc_exchanged : FnScope N_exchanged ["program", "one", "other"] (defScope s_exchanged) := ⟨rfl, rfl, rfl, by decide +kernel, rfl, by decide +kernel, by decide +kernel⟩
def exR (r : Nm × Sg) : Nm × Sg := (exN r.1, r.2)
def spExch : Sp := fun vs H Q _ => ∃ (x : V) (ins : List (Nm × Sg)) (ds : List Dd), vs = [x, .str "a", .str "dd"] ∧ PgAt H x ins ds ∧ limB 2 ds ∧ ins.length ≤ 2 ∧ ∀ v H' ins', Same H H' → ins'.Perm (ins.map exR) → PgAt H' v ins' (exB ds) → Q v H'
/-- a row as data -/
def encRo (H : Hp) : V → PyData
  | .ref a => match H a with
    | some (.tup [.str z, .int i, .int j]) => .tuple [.str z, .int i, .int j]
    | _ => .none
  | _ => .none
theorem encRo_at {H : Hp} {a : Addr} {z : Str} {i j : Int} (h : H a = some (.tup [.str z, .int i, .int j])) : encRo H (.ref a) = .tuple [.str z, .int i, .int j] := by
  unfold encRo
  simp only [h]
theorem rows_mem {H : Hp} {rs : List Addr} {rows : List (Nm × Sg)} (h : RowsIn H rs rows) : ∀ x ∈ rs.map V.ref, ∃ (a : Addr) (r : Nm × Sg), x = .ref a ∧ H a = some (.tup [.str (nS r.1), .int r.2.1, .int r.2.2]) := fun x hx => by
  obtain ⟨a, ha, rfl⟩ := List.mem_map.mp hx
  obtain ⟨r, _, e⟩ := paired_mem h a ha
  exact ⟨a, r, rfl, e⟩
theorem ok_exchanged (T : Tx K mg) (h_other_name : Has P w K mg base 1 "other_name" ["name", "one", "other"] spOther) (h_block_by : Has P w K mg base 9 "block_by" ["block", "one", "other"] (spBlockBy 3)) (G : FnG K mg "exchanged" s_exchanged) : Has P w K mg base 10 "exchanged" ["program", "one", "other"] spExch := by
  refine has_of (N := N_exchanged) G sc_exchanged (fun _ _ _ _ _ _ us hl => match us, hl with | [_, _, _], _ => rfl) (fun vs H Q E h => ?_) (fun f cdv A outer s0 H vs Q E hr h => ?_)
  · obtain ⟨_, _, _, rfl, _⟩ := h
    rfl
  · obtain ⟨x, ins, ds, rfl, ⟨ap, a, b, vb, rfl, hp, ⟨rs, ha, hrs⟩, hb, hds⟩, hlim, hfew, q⟩ := h
    refine ⟨_, (pss_cons (ps_set (i := 3) sc_exchanged.nd rfl (.inl rfl) (pe_callB (cr_sortedA (hu66 hr)) (by rfl) T.sorted (by decide +kernel) (pa1 (pe_lc (own := [("name", 4), ("low", 5), ("high", 6)]) rfl sc_exchanged.nd (pi_tup (ixc (pv 0))) (blkOk_by (N := N_exchanged) (sc := defScope s_exchanged) (by decide +kernel)) (fun _ _ _ _ _ => (tupK K (n := 3) (by rfl) (pgs_cons (pg_name (i := 4) sc_exchanged.nd rfl (.inl rfl)) (pgs_cons (pg_name (i := 5) sc_exchanged.nd rfl (.inl rfl)) (pgs_cons (pg_name (i := 6) sc_exchanged.nd rfl (.inl rfl)) pgs_nil))))) (fun _ _ _ _ _ => pts_nil) (fun _ _ _ _ _ => (pe_tup (pa3 (pe_callH h_other_name hr (by decide) (pa3 (pv 4) (pv 1) (pv 2))) (pv 5) (pv 6))))))))
      (pss_one (ps_ret (pt2 (pe_callTy call_tuple_of (by rfl) T.tuple (by decide +kernel) (pa1 (pv 3))) (pe_callH h_block_by hr (by decide) (pa3 (ixc (pv 0)) (pv 1) (pv 2))))))), ?_⟩
    have hlen : rs.length = ins.length := hrs.length
    refine ⟨_, rfl, _, _, _, _, rfl, rfl, sq_of hp, at0, a, rfl, ⟨_, sq_of ha⟩, fun Dl hD => lc_tup (K := K) (a := a) (xs := rs.map V.ref) (fun i H2 => Same H H2 ∧ ∃ us : List Addr, H2 Dl = some (.lst (us.map V.ref)) ∧ RowsIn H2 us ((ins.take i).map exR)) ⟨same_new hD, [], upd_same, .nil⟩ (fun i H2 _ p => sq_of (p.1 _ _ ha)) ?_ ?_⟩
    · rintro i y H2 hi ⟨s2, us, g1, g2⟩
      rw [List.getElem?_map] at hi
      cases er : rs[i]? with
      | none => rw [er] at hi; cases hi
      | some r =>
        rw [er] at hi
        injection hi with hi
        subst hi
        obtain ⟨row, e1, e2⟩ := paired_get hrs er
        obtain ⟨z, s⟩ := row
        have e2 : H r = some (.tup [.str (nS z), .int s.1, .int s.2]) := e2
        have e3 := s2 _ _ e2
        have hi' : i < ins.length := (List.getElem?_eq_some_iff.mp e1).1
        refine ⟨r, _, rfl, sq_of e3, rfl, _, _, rfl, _, _, rfl, _, _, rfl, rfl, rfl, ?_⟩
        refine ⟨_, rfl, _, rfl, _, rfl, z, rfl, _, rfl, _, rfl, three, fun t ht => ?_⟩
        have s3 : Same H2 (upd H2 t (.tup [.str (nS (exN z)), .int s.1, .int s.2])) := same_new ht
        have et : (upd H2 t (.tup [.str (nS (exN z)), .int s.1, .int s.2])) t = some (.tup [.str (nS (exN z)), .int s.1, .int s.2]) := upd_same
        generalize upd H2 t (.tup [.str (nS (exN z)), .int s.1, .int s.2]) = H3 at s3 et
        have g1' := s3 _ _ g1
        have hul : us.length ≤ i := by have := g2.length; rw [this, List.length_map, List.length_take]; omega
        have td : Tups H3 (upd H3 Dl (.lst (us.map V.ref ++ [.ref t]))) := .put fun xs e => by rw [g1'] at e; cases e
        refine ⟨_, g1', small_line (by rw [List.length_map]; omega), same_put (s2.trans s3) hD, us ++ [t], by rw [upd_same, List.map_append]; rfl, ?_⟩
        rw [List.take_add_one, e1, List.map_append]
        exact Paired.snoc (Paired.mono (fun _ _ e => td _ _ (s3 _ _ e)) g2) (td _ _ et)
    · rintro H2 ⟨s2, us, g1, g2⟩
      rw [show (rs.map V.ref).length = ins.length by rw [List.length_map, hlen], List.take_length] at g2
      have mem := rows_mem g2
      refine ⟨Dl, us.map V.ref, encRo H2, rfl, .inl (.inl g1), fun x hx => ?_, fun d hd d' hd' => ?_, .inl fun d hd => ?_, fun S hS => ?_⟩
      · obtain ⟨c, r, rfl, e⟩ := mem x hx
        rw [encRo_at e]
        refine ⟨.tup (sq_of e) (.cons (.str _) (.cons (.int _) (.cons (.int _) .nil))), ?_⟩
        simp [PyData.depth, PyData.depthAll]
      · obtain ⟨x, hx, rfl⟩ := List.mem_map.mp hd
        obtain ⟨x', hx', rfl⟩ := List.mem_map.mp hd'
        obtain ⟨c, r, rfl, e⟩ := mem x hx
        obtain ⟨c', r', rfl, e'⟩ := mem x' hx'
        rw [encRo_at e, encRo_at e']
        simp [PySem.W.alike, PySem.W.alikeAll]
      · obtain ⟨x, hx, rfl⟩ := List.mem_map.mp hd
        obtain ⟨c, r, rfl, e⟩ := mem x hx
        rw [encRo_at e]
        exact ⟨_, _, rfl⟩
      · -- the rows in some order
        obtain ⟨z1, z2, z3⟩ := paired_zip g2
        have pm : (srt (encRo H2) (us.map V.ref)).Perm (us.map V.ref) := List.mergeSort_perm _ _
        have ez : (us.zip (ins.map exR)).map (fun z => V.ref z.1) = us.map V.ref := by
          conv => rhs; rw [← z1]
          rw [List.map_map]
          rfl
        obtain ⟨L, hL, eL⟩ := perm_lift (fun z : Addr × (Nm × Sg) => V.ref z.1) pm (us.zip (ins.map exR)) ez
        have hP : RowsIn H2 (L.map Prod.fst) (L.map Prod.snd) := paired_of_list (F := fun (r : Addr) (x : Nm × Sg) => H2 r = some (.tup [.str (nS x.1), .int x.2.1, .int x.2.2])) L fun z hz => z3 z (hL.mem_iff.mp hz)
        have eS : srt (encRo H2) (us.map V.ref) = (L.map Prod.fst).map V.ref := by rw [← eL, List.map_map]; rfl
        have pI : (L.map Prod.snd).Perm (ins.map exR) := by rw [← z2]; exact hL.map _
        rw [eS]
        have s3 : Same H2 (upd H2 S (.lst ((L.map Prod.fst).map V.ref))) := same_new hS
        refine ⟨_, rfl, S, _, rfl, .inl ⟨.inl (.inl upd_same), fun u hu => ?_⟩⟩
        have s4 := s3.trans (same_new (o := HO.tup ((L.map Prod.fst).map V.ref)) hu)
        have eu : (upd (upd H2 S (.lst ((L.map Prod.fst).map V.ref))) u (.tup ((L.map Prod.fst).map V.ref))) u = some (.tup ((L.map Prod.fst).map V.ref)) := upd_same
        generalize upd (upd H2 S (.lst ((L.map Prod.fst).map V.ref))) u (.tup ((L.map Prod.fst).map V.ref)) = H4 at s4 eu
        have sH := s2.trans s4
        refine ⟨_, rfl, _, _, _, _, rfl, rfl, sq_of (sH _ _ hp), at1, _, rfl, _, rfl, _, ds, rfl, ⟨b, vb, rfl, sH _ _ hb, hds.mono (.of_same sH)⟩, hlim, fun v5 H5 s5 h5 => ⟨two, fun t ht => ?_⟩⟩
        obtain ⟨b5, vb5, rfl, e5, i5⟩ := h5.mono (Tups.new (o := HO.tup [.ref u, v5]) ht)
        have s6 := s5.trans (same_new (o := HO.tup [.ref u, .ref b5]) ht)
        exact q (.ref t) _ (L.map Prod.snd) (sH.trans s6) pI ⟨t, u, b5, vb5, rfl, upd_same, ⟨_, s6 _ _ eu, Paired.mono (fun _ _ e => s6 _ _ (s4 _ _ e)) hP⟩, e5, i5⟩
theorem exR_fst (ins : List (Nm × Sg)) : (ins.map exR).map (·.1) = (ins.map (·.1)).map exN := by rw [List.map_map, List.map_map]; rfl
theorem exN_inj {x y : Nm} (h : exN x = exN y) : x = y := by rw [← exN_exN x, h, exN_exN]
/-- the program with names exchanged is well formed -/
theorem PgOk.ex {ins ins' : List (Nm × Sg)} {ds : List Dd} (h : PgOk ins ds) (p : ins'.Perm (ins.map exR)) : PgOk ins' (exB ds) := by
  have pf : (ins'.map (·.1)).Perm ((ins.map (·.1)).map exN) := by
    have := p.map (·.1)
    rw [exR_fst] at this
    exact this
  have hm : ∀ r ∈ ins', ∃ r0 ∈ ins, r = exR r0 := fun r hr => by
    obtain ⟨r0, h0, e⟩ := List.mem_map.mp (p.mem_iff.mp hr)
    exact ⟨r0, h0, e.symm⟩
  refine ⟨?_, fun r hr => ?_, ?_, fun r hr => ?_, limB_ex h.lim, ?_⟩
  · refine pf.nodup_iff.mpr (List.pairwise_map.mpr (h.nd.imp fun {a b} ne e => ne (exN_inj e)))
  · obtain ⟨r0, h0, rfl⟩ := hm r hr
    exact h.wi r0 h0
  · rw [p.length_eq, List.length_map]
    exact h.few
  · obtain ⟨r0, h0, rfl⟩ := hm r hr
    exact h.thin r0 h0
  · have := wfB_ex ds _ h.wf
    have eK : exK (fun x => x ∈ ins.map (·.1)) = fun x => x ∈ ins'.map (·.1) := funext fun x => propext ⟨fun hx => by
      have hx : exN x ∈ ins.map (·.1) := hx
      exact pf.mem_iff.mpr (List.mem_map.mpr ⟨exN x, hx, exN_exN x⟩), fun hx => by
      obtain ⟨y, hy, e⟩ := List.mem_map.mp (pf.mem_iff.mp hx)
      show exN x ∈ ins.map (·.1)
      rw [← e, exN_exN]
      exact hy⟩
    rw [← eK]
    exact this
end
end Sr
end
section
set_option Elab.async false
set_option linter.all false
set_option maxRecDepth 100000
set_option maxHeartbeats 4000000
/-! walks: deeds_of, names_in -/
namespace Sr
open PySem PySem.Spec PyProof.Rows L2 SrM SrK
def DdIn (H : Hp) : List Addr → List Dd → Prop := Paired fun r d => ∃ b v, H r = some (.tup [.ref b, v]) ∧ IsDd H v d
theorem DdIn.mono {H H' : Hp} {ps : List Addr} {L : List Dd} (h : DdIn H ps L) (t : Tups H H') : DdIn H' ps L := Paired.mono (fun _ _ ⟨b, v, h1, h2⟩ => ⟨b, v, t _ _ h1, h2.mono t⟩) h
theorem nB_drop {ds : List Dd} {i : Nat} {d : Dd} (h : ds[i]? = some d) : nB (ds.drop i) = nD d + nB (ds.drop (i + 1)) := by
  rw [drop_get h, nB]
section
variable {P : Program} {w : World} {K : PySem.W.Frag} {mg : Str → Option Value} {base : Heap} {C : Addr}
abbrev N_deeds_of : List Str := ["block", "path", "made", "number", "deed", "here"]
theorem sc_deeds_of : FnScope N_deeds_of ["block", "path"] (defScope s_deeds_of) := ⟨rfl, rfl, rfl, by decide +kernel, rfl, by decide +kernel, by decide +kernel⟩
def spDeeds (n : Nat) : Sp := fun vs H Q _ => ∃ (vd : V) (ds : List Dd) (vp : V) (p : Path), vs = [vd, vp] ∧ IsBl H vd ds ∧ limX n ds ∧ IsPa H vp p ∧ p.length + 2 * n + 6 ≤ 1000 ∧ nB ds ≤ 300 ∧ ∀ D H' ps L, Same H H' → H D = none → H' D = some (.lst (ps.map V.ref)) → DdIn H' ps L → L.length = nB ds → Q (.ref D) H'
theorem ok_deeds_of (T : Tx K mg) (G : FnG K mg "deeds_of" s_deeds_of) : ∀ n, Has P w K mg base (1 + n) "deeds_of" ["block", "path"] (spDeeds n)
  | 0 => has_of (k := 0) (N := N_deeds_of) G sc_deeds_of (fun _ _ _ _ _ _ us hl => match us, hl with | [_, _], _ => rfl) (fun vs H Q E h => by obtain ⟨_, _, _, _, rfl, _⟩ := h; rfl) (fun f cdv A outer s0 H vs Q E hr h => by
    obtain ⟨_, _, _, _, rfl, _, hd, _⟩ := h
    exact hd.elim)
  | n + 1 => by
    have h_deeds_of := ok_deeds_of T G n
    refine has_of (k := 1 + n) (N := N_deeds_of) G sc_deeds_of (fun _ _ _ _ _ _ us hl => match us, hl with | [_, _], _ => rfl) (fun vs H Q E h => ?_) (fun f cdv A outer s0 H vs Q E hr h => ?_)
    · obtain ⟨_, _, _, _, rfl, _⟩ := h
      rfl
    · obtain ⟨vd, ds, vp, p, rfl, ⟨ab, vb, rfl, hbl, hds⟩, hlim, hp, hpl, hk, q⟩ := h
      refine ⟨_, (pss_cons (ps_set (i := 2) sc_deeds_of.nd rfl (.inl rfl) (pe_lst pa_nil))
      (pss_cons (ps_for PassesOwn.never rfl (pi_enumT (by rfl) T.enumerate (pa1 (pv 0))) (pg_tup (by rfl) (pgs_cons (pg_name (i := 3) sc_deeds_of.nd rfl (.inl rfl)) (pgs_cons (pg_name (i := 4) sc_deeds_of.nd rfl (.inl rfl)) pgs_nil)))
      (pss_cons (ps_set (i := 5) sc_deeds_of.nd rfl (.inl rfl) (pe_op op_path (pv 1) (pe_tup (pa1 (pv 3)))))
      (pss_cons (ps_expr (pe_bm PySem.F.plainAttrs_list PySem.F.slot_list_append PySem.F.type_list_append mt_append (pv 2) (pa1 (pt2 (pv 5) (pv 4)))))
      (pss_one (ps_if (pt_cmpR op_eq (ixc (pv 4)) pe_str (nomark _))
      (pss_one (ps_expr (pe_bm PySem.F.plainAttrs_list PySem.F.slot_list_extend PySem.F.type_list_extend mt_extend (pv 2) (pa1 (pe_op op_cat (pe_callH h_deeds_of hr (by omega) (pa2 (ixc (pv 4)) (pe_op op_path (pv 5) (pe_tup (pa1 pe_int))))) (pe_callH h_deeds_of hr (by omega) (pa2 (ixc (pv 4)) (pe_op op_path (pv 5) (pe_tup (pa1 pe_int))))))))))
      (pss_one (ps_if (pt_cmpR op_eq (ixc (pv 4)) pe_str (nomark _))
      (pss_one (ps_expr (pe_bm PySem.F.plainAttrs_list PySem.F.slot_list_extend PySem.F.type_list_extend mt_extend (pv 2) (pa1 (pe_callH h_deeds_of hr (by omega) (pa2 (ixc (pv 4)) (pe_op op_path (pv 5) (pe_tup (pa1 pe_int)))))))))
      pss_nil)))))))
      (pss_one (ps_ret (pv 2))))), ?_⟩
      have hlim : limB n ds := hlim
      have hlen : vb.length = ds.length := hds.length
      refine ⟨Nat.zero_le _, fun l hl => ?_⟩
      refine ⟨_, rfl, ab, vb, rfl, sq_of (same_new hl _ _ hbl), for_it walk_enumT (fun i σ H' => ∃ y3 y4 y5 ps L, σ = [some (.ref ab), some vp, some (.ref l), y3, y4, y5] ∧ Same H H' ∧ H' l = some (.lst (ps.map V.ref)) ∧ DdIn H' ps L ∧ L.length + nB (ds.drop i) = nB ds)
        ⟨none, none, none, [], [], rfl, same_new hl, upd_same, .nil, by simp⟩ (fun i σ H' _ ⟨_, _, _, _, _, _, s, _⟩ => sq_of (s _ _ hbl)) ?_ ?_⟩
      · rintro i x σ H' H2 hi ⟨y3, y4, y5, ps, L, rfl, s1, g1, g2, g3⟩ ⟨t, x1, x2, rfl, ht, rfl, ex1, ex2⟩
        injection ex1 with ex1
        subst ex1
        obtain ⟨d, ed, hdd⟩ := hds.get ex2
        rw [nB_drop ed] at g3
        have s2 := s1.trans (same_new (o := HO.tup [.int (i : Nat), x2]) ht)
        have et : upd H' t (.tup [.int (i : Nat), x2]) t = some (.tup [.int (i : Nat), x2]) := upd_same
        have g1 := same_new (o := HO.tup [.int (i : Nat), x2]) ht _ _ g1
        have g2 := g2.mono (Tups.new (o := HO.tup [.int (i : Nat), x2]) ht)
        generalize upd H' t (.tup [.int (i : Nat), x2]) = H2 at s2 et g1 g2
        have hpsl : ps.length = L.length := g2.length
        refine ⟨t, _, rfl, sq_of et, rfl, _, _, rfl, _, _, rfl, rfl, ?_⟩
        refine ⟨_, rfl, _, rfl, one_line, fun t3 ht3 => ⟨p, (i : Nat), t3, (hp.mono (.of_same s2)).mono (.new ht3), rfl, upd_same, by omega, fun vh H3 s3 hh => ?_⟩⟩
        have s3 := (same_new ht3).trans s3
        have s4 := s2.trans s3
        have g1 := s3 _ _ g1
        have g2 := g2.mono (.of_same s3)
        have hdd := hdd.mono (.of_same s4)
        have hhl : (p ++ [((i : Nat) : Int)]).length = p.length + 1 := by rw [List.length_append, List.length_singleton]
        -- made.append((here, deed))
        obtain ⟨pah, rfl, hpah⟩ := id hh
        refine ⟨_, rfl, .inl ⟨rfl, _, .inl (.inl g1)⟩, _, rfl, _, rfl, two, fun u hu => ?_⟩
        have s5 : Same H3 (upd H3 u (.tup [.ref pah, x2])) := same_new hu
        have eu : (upd H3 u (.tup [.ref pah, x2])) u = some (.tup [.ref pah, x2]) := upd_same
        generalize upd H3 u (.tup [.ref pah, x2]) = H5 at s5 eu
        have g15 := s5 _ _ g1
        refine ⟨l, _, _, rfl, rfl, g15, small_line (by rw [List.length_map]; omega), ?_⟩
        have td : Tups H5 (upd H5 l (.lst (ps.map V.ref ++ [.ref u]))) := .put fun xs e => by rw [g15] at e; cases e
        have t8 : Tups H3 (upd H5 l (.lst (ps.map V.ref ++ [.ref u]))) := (Tups.of_same s5).trans td
        have s8 : Same H (upd H5 l (.lst (ps.map V.ref ++ [.ref u]))) := same_put (s4.trans s5) hl
        have g8 : (upd H5 l (.lst (ps.map V.ref ++ [.ref u]))) l = some (.lst ((ps ++ [u]).map V.ref)) := by rw [upd_same, List.map_append]; rfl
        have h8 : DdIn (upd H5 l (.lst (ps.map V.ref ++ [.ref u]))) (ps ++ [u]) (L ++ [d]) := Paired.snoc (DdIn.mono g2 t8) ⟨pah, x2, td _ _ eu, hdd.mono t8⟩
        generalize upd H5 l (.lst (ps.map V.ref ++ [.ref u])) = H8 at t8 s8 g8 h8
        have m8 : (ps ++ [u]).length = (L ++ [d]).length := h8.length
        have lLd : (L ++ [d]).length = L.length + 1 := by rw [List.length_append, List.length_singleton]
        have hh8 := hh.mono t8
        cases d with
        | set y e =>
          obtain ⟨a, ve, rfl, ha, he⟩ := hdd.mono t8
          have g3 : L.length + (1 + nB (ds.drop (i + 1))) = nB ds := g3
          refine ⟨_, rfl, _, _, _, _, rfl, rfl, sq_of ha, at0, rfl, _, rfl, ifF (by decide +kernel) ?_⟩
          refine ⟨_, rfl, _, _, _, _, rfl, rfl, sq_of ha, at0, rfl, _, rfl, ifF (by decide +kernel) ?_⟩
          exact ⟨_, _, _, ps ++ [u], L ++ [Dd.set y e], rfl, s8, g8, h8, by omega⟩
        | ife e f g =>
          obtain ⟨a, ve, af, ag, vff, vg, rfl, ha, he, hbf, hdf, hbg, hdg⟩ := hdd.mono t8
          obtain ⟨hd3, lf, lg⟩ := limD_ife (hlim.2 _ (List.mem_of_getElem? ed))
          have g3 : L.length + (1 + (nB f + nB g) + nB (ds.drop (i + 1))) = nB ds := g3
          refine ⟨_, rfl, _, _, _, _, rfl, rfl, sq_of ha, at0, rfl, _, rfl, ifT (by decide +kernel) ?_⟩
          refine ⟨_, rfl, .inl ⟨rfl, _, .inl (.inl g8)⟩, ?_⟩
          refine ⟨_, rfl, _, _, _, _, rfl, rfl, sq_of ha, at2, _, rfl, one_line, fun t9 ht9 => ⟨p ++ [((i : Nat) : Int)], 1, t9, hh8.mono (.new ht9), rfl, upd_same, by omega, fun v10 H10 s10 hp10 => ?_⟩⟩
          have s10 := (same_new ht9).trans s10
          refine ⟨_, f, v10, p ++ [((i : Nat) : Int)] ++ [1], rfl, ⟨af, vff, rfl, s10 _ _ hbf, hdf.mono (.of_same s10)⟩, lf, hp10, by rw [List.length_append, List.length_singleton]; omega, by omega, fun D11 H11 ps11 L11 s11 nD11 e11 h11 n11 => ?_⟩
          have s11 := s10.trans s11
          refine ⟨_, rfl, _, _, _, _, rfl, rfl, sq_of (s11 _ _ ha), at3, _, rfl, one_line, fun t12 ht12 => ⟨p ++ [((i : Nat) : Int)], 2, t12, (hh8.mono (.of_same s11)).mono (.new ht12), rfl, upd_same, by omega, fun v13 H13 s13 hp13 => ?_⟩⟩
          have s13 := (same_new ht12).trans s13
          have s1113 := s11.trans s13
          refine ⟨_, g, v13, p ++ [((i : Nat) : Int)] ++ [2], rfl, ⟨ag, vg, rfl, s1113 _ _ hbg, hdg.mono (.of_same s1113)⟩, lg, hp13, by rw [List.length_append, List.length_singleton]; omega, by omega, fun D14 H14 ps14 L14 s14 nD14 e14 h14 n14 => ?_⟩
          have s1314 := s13.trans s14
          have m11 : ps11.length = L11.length := h11.length
          have m14 : ps14.length = L14.length := h14.length
          refine ⟨D11, D14, _, _, rfl, rfl, s1314 _ _ e11, e14, by rw [List.length_map, List.length_map]; exact Nat.le_of_lt (big_line (by omega)), fun D15 hD15 => ?_⟩
          have s15 : Same H14 (upd H14 D15 (.lst (ps11.map V.ref ++ ps14.map V.ref))) := same_new hD15
          have e15 : (upd H14 D15 (.lst (ps11.map V.ref ++ ps14.map V.ref))) D15 = some (.lst (ps11.map V.ref ++ ps14.map V.ref)) := upd_same
          generalize upd H14 D15 (.lst (ps11.map V.ref ++ ps14.map V.ref)) = H15 at s15 e15
          have s815 := s11.trans (s1314.trans s15)
          have g15 := s815 _ _ g8
          have td2 : Tups H15 (upd H15 l (.lst ((ps ++ [u]).map V.ref ++ (ps11.map V.ref ++ ps14.map V.ref)))) := .put fun xs e => by rw [g15] at e; cases e
          refine ⟨l, D15, _, _, rfl, rfl, g15, e15, by rw [List.length_append, List.length_map, List.length_map, List.length_map]; exact Nat.le_of_lt (big_line (by omega)), ?_⟩
          exact ⟨_, _, _, ps ++ [u] ++ (ps11 ++ ps14), L ++ [Dd.ife e f g] ++ (L11 ++ L14), rfl, same_put (s8.trans s815) hl, by rw [upd_same]; simp only [List.map_append], paired_app (h8.mono ((Tups.of_same s815).trans td2)) (paired_app (h11.mono ((Tups.of_same (s1314.trans s15)).trans td2)) (h14.mono ((Tups.of_same s15).trans td2))), by have := lLd; simp only [List.length_append] at this ⊢; omega⟩
        | whl e m b =>
          obtain ⟨a, ve, ab2, vb2, rfl, ha, he, hbb, hbs⟩ := hdd.mono t8
          obtain ⟨hd3, m0, m20, hlx⟩ := limD_whl (hlim.2 _ (List.mem_of_getElem? ed))
          have g3 : L.length + (1 + nB b + nB (ds.drop (i + 1))) = nB ds := g3
          refine ⟨_, rfl, _, _, _, _, rfl, rfl, sq_of ha, at0, rfl, _, rfl, ifF (by decide +kernel) ?_⟩
          refine ⟨_, rfl, _, _, _, _, rfl, rfl, sq_of ha, at0, rfl, _, rfl, ifT (by decide +kernel) ?_⟩
          refine ⟨_, rfl, .inl ⟨rfl, _, .inl (.inl g8)⟩, ?_⟩
          refine ⟨_, rfl, _, _, _, _, rfl, rfl, sq_of ha, at3, _, rfl, one_line, fun t9 ht9 => ⟨p ++ [((i : Nat) : Int)], 1, t9, hh8.mono (.new ht9), rfl, upd_same, by omega, fun v10 H10 s10 hp10 => ?_⟩⟩
          have s10 := (same_new ht9).trans s10
          refine ⟨_, b, v10, p ++ [((i : Nat) : Int)] ++ [1], rfl, ⟨ab2, vb2, rfl, s10 _ _ hbb, hbs.mono (.of_same s10)⟩, hlx, hp10, by rw [List.length_append, List.length_singleton]; omega, by omega, fun D11 H11 ps11 L11 s11 nD11 e11 h11 n11 => ?_⟩
          have s11 := s10.trans s11
          have m11 : ps11.length = L11.length := h11.length
          have g15 := s11 _ _ g8
          have td2 : Tups H11 (upd H11 l (.lst ((ps ++ [u]).map V.ref ++ ps11.map V.ref))) := .put fun xs e => by rw [g15] at e; cases e
          refine ⟨l, D11, _, _, rfl, rfl, g15, e11, by rw [List.length_map, List.length_map]; exact Nat.le_of_lt (big_line (by omega)), ?_⟩
          exact ⟨_, _, _, ps ++ [u] ++ ps11, L ++ [Dd.whl e m b] ++ L11, rfl, same_put (s8.trans s11) hl, by rw [upd_same]; simp only [List.map_append], paired_app (h8.mono ((Tups.of_same s11).trans td2)) (h11.mono td2), by have := lLd; simp only [List.length_append] at this ⊢; omega⟩
      · rintro σ H' ⟨y3, y4, y5, ps, L, rfl, s1, g1, g2, g3⟩
        rw [hlen, List.drop_length, show nB [] = 0 by rw [nB]] at g3
        exact ⟨_, rfl, q l H' ps L s1 hl g1 g2 (by omega)⟩
abbrev N_names_in : List Str := ["program", "made", "name", "low", "high", "path", "deed"]
theorem sc_names_in : FnScope N_names_in ["program"] (defScope s_names_in) := ⟨rfl, rfl, rfl, by decide +kernel, rfl, by decide +kernel, by decide +kernel⟩
def spNames : Sp := fun vs H Q _ => ∃ (x : V) (ins : List (Nm × Sg)) (ds : List Dd), vs = [x] ∧ PgAt H x ins ds ∧ limB 2 ds ∧ ins.length ≤ 2 ∧ ∀ D H' (ms : List Nm), Same H H' → H' D = some (.lst ((ms.map nS).map V.str)) → Q (.ref D) H'
theorem ok_names_in (T : Tx K mg) (h_deeds_of : Has P w K mg base 4 "deeds_of" ["block", "path"] (spDeeds 3)) (G : FnG K mg "names_in" s_names_in) : Has P w K mg base 5 "names_in" ["program"] spNames := by
  refine has_of (N := N_names_in) G sc_names_in (fun _ _ _ _ _ _ us hl => match us, hl with | [_], _ => rfl) (fun vs H Q E h => ?_) (fun f cdv A outer s0 H vs Q E hr h => ?_)
  · obtain ⟨_, _, _, rfl, _⟩ := h
    rfl
  · obtain ⟨x, ins, ds, rfl, ⟨ap, a, b, vb, rfl, hp, ⟨rs, ha, hrs⟩, hb, hds⟩, hlim, hfew, q⟩ := h
    refine ⟨_, (pss_cons (ps_setLc (i := 1) (own := [("name", 2), ("low", 3), ("high", 4)]) rfl sc_names_in.nd rfl rfl (sw_true rfl rfl rfl (by decide +kernel)) (pi_tup (ixc (pv 0))) (blkOk_by (N := N_names_in) (sc := defScope s_names_in) (by decide +kernel)) (fun _ _ _ _ _ => (tupK K (n := 3) (by rfl) (pgs_cons (pg_name (i := 2) sc_names_in.nd rfl (.inl rfl)) (pgs_cons (pg_name (i := 3) sc_names_in.nd rfl (.inl rfl)) (pgs_cons (pg_name (i := 4) sc_names_in.nd rfl (.inl rfl)) pgs_nil))))) (fun _ _ _ _ _ => pts_nil) (fun _ _ _ _ _ => (pv 2)))
      (pss_one (ps_ret (pe_callB (cr_sortTx rfl (hu66 hr)) (by rfl) T.sorted (by decide +kernel) (pa1 (pe_callTy (cr_setTx rfl) (by rfl) T.set (by decide +kernel) (pa1 (pe_op op_cat (pv 1) (pe_lc (own := [("path", 5), ("deed", 6)]) rfl sc_names_in.nd (pi_list (pe_callH h_deeds_of hr (by decide) (pa2 (ixc (pv 0)) (pe_tup pa_nil)))) (blkOk_by (N := N_names_in) (sc := defScope s_names_in) (by decide +kernel)) (fun _ _ _ _ _ => (tupK K (n := 2) (by rfl) (pgs_cons (pg_name (i := 5) sc_names_in.nd rfl (.inl rfl)) (pgs_cons (pg_name (i := 6) sc_names_in.nd rfl (.inl rfl)) pgs_nil)))) (fun _ _ _ _ _ => (pts_one (pt_cmpR op_eq (ixk K (pv 6)) pe_str (nomark _)))) (fun _ _ _ _ _ => (ixk K (pv 6)))))))))))), ?_⟩
    have hlen : rs.length = ins.length := hrs.length
    refine ⟨_, rfl, _, _, _, _, rfl, rfl, sq_of hp, at0, a, rfl, ⟨_, sq_of ha⟩, fun Dl hD => lc_tup (K := K) (a := a) (xs := rs.map V.ref) (fun i H2 => Same H H2 ∧ H2 Dl = some (.lst ((((ins.take i).map (·.1)).map nS).map V.str))) ⟨same_new hD, upd_same⟩ (fun i H2 _ p => sq_of (p.1 _ _ ha)) ?_ ?_⟩
    · rintro i y H2 hi ⟨s2, g1⟩
      rw [List.getElem?_map] at hi
      cases er : rs[i]? with
      | none => rw [er] at hi; cases hi
      | some r =>
        rw [er] at hi
        injection hi with hi
        subst hi
        obtain ⟨row, e1, e2⟩ := paired_get hrs er
        obtain ⟨z, s⟩ := row
        have e2 : H r = some (.tup [.str (nS z), .int s.1, .int s.2]) := e2
        have e3 := s2 _ _ e2
        refine ⟨r, _, rfl, sq_of e3, rfl, _, _, rfl, _, _, rfl, _, _, rfl, rfl, rfl, ?_⟩
        refine ⟨_, rfl, _, g1, small_line (by simp only [List.length_map, List.length_take]; omega), same_put s2 hD, ?_⟩
        rw [upd_same, List.take_add_one, e1, List.map_append, List.map_append, List.map_append]
        rfl
    · rintro H2 ⟨s2, g1⟩
      rw [show (rs.map V.ref).length = ins.length by rw [List.length_map, hlen], List.take_length] at g1
      refine ⟨_, rfl, ?_⟩
      refine ⟨_, rfl, _, _, _, _, rfl, rfl, sq_of (s2 _ _ hp), at1, Nat.zero_le _, fun t ht => ?_⟩
      have s3 : Same H2 (upd H2 t (.tup [])) := same_new ht
      have s23 := s2.trans s3
      refine ⟨_, ds, _, [], rfl, ⟨b, vb, rfl, s23 _ _ hb, hds.mono (.of_same s23)⟩, hlim, isPa_nil upd_same, by decide, deeds_few hlim, fun D4 H4 ps L s4 nD4 e4 h4 n4 => ?_⟩
      have s24 := s3.trans s4
      have m4 : ps.length = L.length := h4.length
      have hnf := deeds_few hlim
      refine ⟨D4, rfl, ⟨_, .inl (.inl e4)⟩, fun D5 hD5 => lc_list (K := K) (a := D4) (xs := ps.map V.ref) (fun i H5 => Same H4 H5 ∧ ∃ ms : List Nm, H5 D5 = some (.lst ((ms.map nS).map V.str)) ∧ ms.length ≤ i) ⟨same_new hD5, [], upd_same, Nat.le_refl _⟩ (fun i H5 _ p => .inl (.inl (p.1 _ _ e4))) ?_ ?_⟩
      · rintro i y H5 hi ⟨s5, ms, g5, g6⟩
        rw [List.getElem?_map] at hi
        cases er : ps[i]? with
        | none => rw [er] at hi; cases hi
        | some r =>
          rw [er] at hi
          injection hi with hi
          subst hi
          obtain ⟨d, e1, bb, v, h1, h2⟩ := paired_get h4 er
          have hi' : i < ps.length := (List.getElem?_eq_some_iff.mp er).1
          refine ⟨r, _, rfl, sq_of (s5 _ _ h1), rfl, _, _, rfl, _, _, rfl, rfl, rfl, ?_⟩
          have h2 := h2.mono (.of_same s5)
          cases d with
          | set y e =>
            obtain ⟨a2, ve, rfl, ha2, he⟩ := h2
            refine ⟨_, rfl, _, _, _, _, rfl, rfl, sq_of ha2, at0, rfl, _, rfl, ifT (by decide +kernel) ?_⟩
            refine ⟨_, rfl, _, _, _, _, rfl, rfl, sq_of ha2, at1, _, g5, small_line (by simp only [List.length_map]; omega), same_put s5 hD5, ms ++ [y], by rw [upd_same, List.map_append, List.map_append]; rfl, by rw [List.length_append, List.length_singleton]; omega⟩
          | ife e f g =>
            obtain ⟨a2, ve, af, ag, vff, vg, rfl, ha2, _⟩ := h2
            exact ⟨_, rfl, _, _, _, _, rfl, rfl, sq_of ha2, at0, rfl, _, rfl, ifF (by decide +kernel) ⟨s5, ms, g5, by omega⟩⟩
          | whl e m b =>
            obtain ⟨a2, ve, ab2, vb2, rfl, ha2, _⟩ := h2
            exact ⟨_, rfl, _, _, _, _, rfl, rfl, sq_of ha2, at0, rfl, _, rfl, ifF (by decide +kernel) ⟨s5, ms, g5, by omega⟩⟩
      · rintro H5 ⟨s5, ms, g5, g6⟩
        rw [List.length_map] at g6
        have s45 := s24.trans s5
        refine ⟨Dl, D5, _, _, rfl, rfl, s45 _ _ g1, g5, Nat.le_of_lt (small_line (by simp only [List.length_map]; omega)), fun D6 hD6 => ?_⟩
        have ec : (((ins.map (·.1)).map nS).map V.str) ++ ((ms.map nS).map V.str) = ((ins.map (·.1) ++ ms).map nS).map V.str := by simp only [List.map_append]
        rw [ec]
        refine ⟨D6, (ins.map (·.1) ++ ms).map nS, rfl, .inl (.inl upd_same), by simp only [List.length_map, List.length_append]; omega, fun S ys hS ynd ymem => ?_⟩
        have hyl : ys.length < 1000 := by
          have h1 : ∀ y ∈ ys, y ∈ (ins.map (·.1) ++ ms).map nS := fun y hy => (ymem y).mp hy
          have h2 := str_len ys _ ynd h1
          simp only [List.length_map, List.length_append] at h2
          omega
        refine ⟨S, ys, rfl, upd_same, hyl, fun zs D7 pm pw hD7 => ?_⟩
        -- every text is a name
        obtain ⟨ns, rfl⟩ : ∃ ns : List Nm, zs = ns.map nS := by
          refine all_nm zs fun z hz => ?_
          obtain ⟨m, _, e⟩ := List.mem_map.mp ((ymem z).mp (pm.mem_iff.mp hz))
          exact ⟨m, e.symm⟩
        exact q D7 _ ns ((s2.trans s45).trans ((same_new hD6).trans ((same_new hS).trans (same_new hD7)))) upd_same
where
  all_nm : ∀ zs : List Str, (∀ z ∈ zs, ∃ m : Nm, z = nS m) → ∃ ns : List Nm, zs = ns.map nS := by
    intro zs
    induction zs with
    | nil => intro _; exact ⟨[], rfl⟩
    | cons z r ih =>
      intro h
      obtain ⟨m, rfl⟩ := h z (by simp)
      obtain ⟨ns, rfl⟩ := ih fun y hy => h y (by simp [hy])
      exact ⟨m :: ns, rfl⟩
  str_len : ∀ (l m : List Str), l.Nodup → (∀ x ∈ l, x ∈ m) → l.length ≤ m.length := by
    intro l
    induction l with
    | nil => intro m _ _; exact Nat.zero_le _
    | cons x r ih =>
      intro m nd hm
      have nd' := List.nodup_cons.mp nd
      have hx : x ∈ m := hm x (by simp)
      have := ih (m.erase x) nd'.2 fun y hy => (List.mem_erase_of_ne (fun z => nd'.1 (by rw [← z]; exact hy))).mpr (hm y (by simp [hy]))
      rw [List.length_erase_of_mem hx] at this
      have h0 : 0 < m.length := List.length_pos_of_mem hx
      rw [List.length_cons]
      omega
end
end Sr
end
section
set_option Elab.async false
set_option linter.all false
set_option maxRecDepth 100000
set_option maxHeartbeats 4000000
/-! for the law: names exchanged in runs; rows of a trace as data -/
namespace Sr
open PySem PySem.Spec PyProof.Rows L2 SrM SrK
/-- the worths of the program with names exchanged -/
def exW (ins ins' : List (Nm × Sg)) (ws : List Int) : List Int := ins'.map fun r => ((envOf (ins.map (·.1)) ws) (exN r.1)).getD 0
theorem ex_env {ins ins' : List (Nm × Sg)} {ds : List Dd} {ws : List Int} (h : PgOk ins ds) (hf : Fits ins ws) (p : ins'.Perm (ins.map exR)) : ∀ r ∈ ins', ∃ v, envOf (ins.map (·.1)) ws (exN r.1) = some v ∧ has r.2 v := fun r hr => by
  obtain ⟨r0, h0, rfl⟩ := List.mem_map.mp (p.mem_iff.mp hr)
  obtain ⟨x, s⟩ := r0
  show ∃ v, envOf (ins.map (·.1)) ws (exN (exN x)) = some v ∧ has s v
  rw [exN_exN]
  exact sat_ins hf h.nd x s (bkOf_mem h.nd h0)
theorem ex_names {ins ins' : List (Nm × Sg)} (p : ins'.Perm (ins.map exR)) (x : Nm) : x ∈ ins'.map (·.1) ↔ exN x ∈ ins.map (·.1) := by
  have pf : (ins'.map (·.1)).Perm ((ins.map (·.1)).map exN) := by
    have := p.map (·.1)
    rw [exR_fst] at this
    exact this
  rw [pf.mem_iff]
  constructor
  · intro h
    obtain ⟨y, hy, e⟩ := List.mem_map.mp h
    rw [← e, exN_exN]
    exact hy
  · intro h
    exact List.mem_map.mpr ⟨exN x, h, exN_exN x⟩
theorem envOf_none {ns : List Nm} {ws : List Int} {x : Nm} (h : x ∉ ns) : envOf ns ws x = none := by
  cases e : envOf ns ws x with
  | none => rfl
  | some v =>
    have h1 : ((ns.zip ws).lookup x).isSome = true := by
      show (envOf ns ws x).isSome = true
      rw [e]
      rfl
    have h2 := lookup_some h1
    obtain ⟨z, hz, ez⟩ := List.mem_map.mp h2
    exact absurd (by rw [← ez]; exact (List.of_mem_zip hz).1) h
theorem ex_worths {ins ins' : List (Nm × Sg)} {ds : List Dd} {ws : List Int} (h : PgOk ins ds) (hf : Fits ins ws) (p : ins'.Perm (ins.map exR)) : Fits ins' (exW ins ins' ws) ∧ envOf (ins'.map (·.1)) (exW ins ins' ws) = exV (envOf (ins.map (·.1)) ws) := by
  have he := ex_env h hf p
  refine ⟨⟨by unfold exW; rw [List.length_map], fun i r v e1 e2 => ?_⟩, funext fun x => ?_⟩
  · unfold exW at e2
    rw [List.getElem?_map, e1] at e2
    obtain ⟨u, e3, e4⟩ := he r (List.mem_of_getElem? e1)
    injection e2 with e2
    have e2 : ((envOf (ins.map (·.1)) ws) (exN r.1)).getD 0 = v := e2
    rw [e3] at e2
    have e2 : u = v := e2
    rw [← e2]
    exact e4
  · show _ = envOf (ins.map (·.1)) ws (exN x)
    by_cases hx : x ∈ ins'.map (·.1)
    · obtain ⟨r, hr, rfl⟩ := List.mem_map.mp hx
      obtain ⟨u, e3, e4⟩ := he r hr
      rw [e3]
      unfold envOf exW
      rw [List.zip_map']
      refine lookup_mem ?_ (List.mem_map.mpr ⟨r, hr, ?_⟩)
      · rw [List.map_map]
        exact (h.ex p).nd
      · show (r.1, ((envOf (ins.map (·.1)) ws) (exN r.1)).getD 0) = (r.1, u)
        rw [e3]
        rfl
    · rw [envOf_none hx, envOf_none (fun z => hx ((ex_names p x).mpr z))]
theorem rnP_ex {ins ins' : List (Nm × Sg)} {ds : List Dd} {ws : List Int} (h : PgOk ins ds) (hf : Fits ins ws) (p : ins'.Perm (ins.map exR)) : rnP ins' (exB ds) (exW ins ins' ws) = (rnP ins ds ws).ex := by
  unfold rnP
  rw [(ex_worths h hf p).2]
  exact rnB_ex ds 0 [] ⟨envOf (ins.map (·.1)) ws, [], none⟩
/-! ### rows as data -/
def encRw (z : Path × Int) : PyData := .tuple [encT z.1, .int z.2]
theorem lay_rws : ∀ rows : List (Path × Int), PyData.canLayAll0 (rows.map encRw) = true
  | [] => rfl
  | z :: rows => by
    show ((PyData.canLay0 (encT z.1) && true) && PyData.canLayAll0 (rows.map encRw)) = true
    rw [lay_rws rows, show PyData.canLay0 (encT z.1) = true from lay_ints z.1]
    rfl
theorem depth_rws : ∀ rows : List (Path × Int), PyData.depthAll (rows.map encRw) ≤ 61
  | [] => by simp [PyData.depthAll]
  | z :: rows => by
    have := depth_rws rows
    have h2 := depth_encT z.1
    rw [List.map_cons, PyData.depthAll]
    have h1 : (encRw z).depth ≤ 61 := by
      simp only [encRw, PyData.depth, PyData.depthAll]
      omega
    omega
theorem shaped_rws (rows : List (Path × Int)) : SeqAt.shaped (.list (rows.map encRw)) = true := by
  unfold SeqAt.shaped
  have h2 : PyData.depth (.list (rows.map encRw)) ≤ 64 := by
    have := depth_rws rows
    simp only [PyData.depth]
    omega
  rw [show (PyData.list (rows.map encRw)).canLay0 = true from lay_rws rows, decide_eq_true h2]
  rfl
theorem dpAll_rws {K : PySem.W.Frag} {H : Hp} : ∀ {ps : List Addr} {rows : List (Path × Int)}, SeenIn H ps rows → DpAll K H (ps.map V.ref) (rows.map encRw)
  | [], [], _ => .nil
  | _ :: _, _ :: _, .cons ⟨_, h1, h2⟩ t => .cons (.tup (sq_of h1) (.cons (dp_path (sq_of h2)) (.cons (.int _) .nil))) (dpAll_rws t)
theorem eqv_rws (rows : List (Path × Int)) : PyData.eqv (.list (rows.map encRw)) (.list (rows.map encRw)) = true := SeqAt.eqv_refl _ (lay_rws rows)
theorem eqv_two (i j : Int) : PyData.eqv (.tuple [.int i, .int j]) (.tuple [.int i, .int j]) = true := SeqAt.eqv_refl _ rfl
theorem shaped_two (i j : Int) : SeqAt.shaped (.tuple [.int i, .int j]) = true := by
  unfold SeqAt.shaped
  rw [show (PyData.tuple [.int i, .int j]).canLay0 = true from rfl, decide_eq_true (by simp [PyData.depth, PyData.depthAll])]
  rfl
theorem dp_two {K : PySem.W.Frag} {H : Hp} {t : Addr} {i j : Int} (h : H t = some (.tup [.int i, .int j])) : Dp K H (.ref t) (.tuple [.int i, .int j]) := .tup (sq_of h) (.cons (.int _) (.cons (.int _) .nil))
theorem eqv_end (s : RS) : PyData.eqv (endD s) (endD s) = true := SeqAt.eqv_refl _ (by
  have := shaped_end s
  unfold SeqAt.shaped at this
  exact (Bool.and_eq_true_iff.mp this).1)
/-- all but what was not there stands -/
theorem same_but {H0 H H' : Hp} {tr : Addr} (s : Same H0 H) (n : H0 tr = none) (k : ∀ b o, H b = some o → b ≠ tr → H' b = some o) : Same H0 H' := fun b o e => k b o (s _ _ e) (ne_of_none e n)
/-! ### data stand -/
theorem sqT_same {K : PySem.W.Frag} {H H' : Hp} {a : Addr} {xs : List V} (s : Same H H') (h : SqT K H a xs) : SqT K H' a xs := h.imp (fun h => rd_same h s) id
mutual
theorem dp_same {K : PySem.W.Frag} {H H' : Hp} (s : Same H H') : ∀ {v : V} {d : PyData}, Dp K H v d → Dp K H' v d
  | _, _, .non => .non
  | _, _, .bl b => .bl b
  | _, _, .int i => .int i
  | _, _, .str x => .str x
  | _, _, .lst h t => .lst (s.seq h) (dpAll_same s t)
  | _, _, .tup h t => .tup (sqT_same s h) (dpAll_same s t)
theorem dpAll_same {K : PySem.W.Frag} {H H' : Hp} (s : Same H H') : ∀ {vs : List V} {ds : List PyData}, DpAll K H vs ds → DpAll K H' vs ds
  | _, _, .nil => .nil
  | _, _, .cons h t => .cons (dp_same s h) (dpAll_same s t)
end
theorem any_path' (qs : List Path) (p : Path) : ((qs.map encT).any fun z => PyData.eqv z (encT p)) = decide (p ∈ qs) := by
  have h := ok_unseen.any_path (qs := qs) (p := p)
  rw [← Bool.not_not ((qs.map encT).any fun z => PyData.eqv z (encT p)), h]
  by_cases c : p ∈ qs <;> simp [c]
end Sr
end
section
set_option Elab.async false
set_option linter.all false
set_option maxRecDepth 100000
set_option maxHeartbeats 16000000
set_option pp.maxSteps 4000
/-! walk: law -/
namespace Sr
open PySem PySem.Spec PyProof.Rows L2 SrM SrK RZ
section
variable {P : Program} {w : World} {K : PySem.W.Frag} {mg : Str → Option Value} {base : Heap} {C : Addr}
theorem fnok_of {x : Str} {st : Stmt} {N ps : List Str} {k : Nat} {sp : Sp} {f : Addr} {fd : FuncData} (F : FunD K x x (defArgs st) (defBody st) (defScope st) [] [] f fd) (S : FnScope N ps (defScope st)) (len : ∀ vs H Q E, sp vs H Q E → vs.length = ps.length)
    (hbody : ∀ (cdv : Value) (A : Around) (outer : List Env) (s : Shared) (H : Hp) (vs : List V) (Q : VK) (E : XK), Room k (A.deeper (envOfC x (defScope st) s.heap.objs.size f cdv)) → sp vs H Q E →
      ∃ t, PSs (cxOf CX0 P w K mg base N x (defScope st) f cdv A outer s H E).nox (defBody st) t ∧ t { nx := fun _ H' => Q .non H', rt := Q } (start N vs) H) : FnOk P w K mg base CX0 (k + 1) f fd ps sp :=
  F.ok S len fun cdv A outer s H vs Q E hr h => let ⟨t, h1, h2⟩ := hbody cdv A outer s H vs Q E hr h; ⟨t, h1.nox, h2⟩
theorem fsts_of {R : Path × V → Path × Sg → Prop} : ∀ {L : List (Path × V)} {zs : List (Path × Sg)}, Paired (fun (u : Path × V) (z : Path × Sg) => u.1 = z.1 ∧ R u z) L zs → L.map (·.1) = zs.map (·.1)
  | [], [], _ => rfl
  | _ :: _, _ :: _, .cons h t => by rw [List.map_cons, List.map_cons, h.1, fsts_of t]
abbrev N_law : List Str := ["_law_script", "_law_program_here", "_law_path", "_law_book", "_law_other", "_law_unseen", "_law_left", "_law_worths", "_law_trace", "_law_rows", "_law_worth", "_law_names", "_law_turned", "_law_more", "_law_missed", "_law_low", "_law_high", "_law_expr", "_law_k", "_law_row", "_law_name"]
theorem sc_law : FnScope N_law ["_law_script"] (defScope s_law) := ⟨rfl, rfl, rfl, by decide +kernel, rfl, by decide +kernel, by decide +kernel⟩
def spLaw (K : PySem.W.Frag) : Sp := fun vs H Q _ => ∃ (a : Addr) (ns : List Int), vs = [.ref a] ∧ SqL K H a (ns.map V.int) ∧ ∀ H', Q (.bl true) H'
theorem TrAt.put {H : Hp} {C tr sl : Addr} {x : V} {wa : Addr} {ps : List Addr} {rows : List (Path × Int)} {n : Nat} (h : TrAt H C tr sl x wa ps rows n) {D : Addr} {o u : HO} (e : H D = some o) (ho : ∀ xs, o ≠ .tup xs) (n1 : tr ≠ D) (n2 : sl ≠ D) : TrAt (upd H D u) C tr sl x wa ps rows n := by
  obtain ⟨dx, h1, h2, h3⟩ := h
  exact ⟨dx, by rw [upd_ne n1]; exact h1, by rw [upd_ne n2]; exact h2, h3.mono (.put fun xs q => ho xs (by rw [e] at q; injection q))⟩
theorem swap_get (z : Nm) : (valV (mergeK [] [(nK .a, V.str "dd"), (nK .d, V.str "a")]) (nK z)).getD (.str (nS z)) = .str (nS (exN z)) := by
  cases z <;> first | rfl | decide +kernel
/-- before each turn of the law's loop -/
def LawI (a : Addr) (x : V) (bd : Addr) (oth : V) (ins : List (Nm × Sg)) (ds : List Dd) (H11 : Hp) (wl : List (List Int)) (σ : L2.St) (H' : Hp) : Prop :=
  ∃ (y2 y7 y8 y9 y10 y11 y12 y13 : Option V) (U : Addr) (left : Nat) (us : List Addr) (qs : List Path), σ = [some (.ref a), some x, y2, some (.ref bd), some oth, some (.ref U), some (.int (left : Int)), y7, y8, y9, y10, y11, y12, y13, none, none, none, none, none, none, none] ∧
    Same H11 H' ∧ H' U = some (.lst (us.map V.ref)) ∧ PasIn H' us qs ∧ us.length ≤ 1000000 ∧ (left = 0 → ∀ ws ∈ wl, ∀ p ∈ qs, ∀ v, (p, v) ∉ (rnP ins ds ws).seen)
theorem ok_law (T : Tx K mg) (Tc : TraceC K C) (h_law_program : Has P w K mg base 11 "_law_program" ["_law_script", "_law_at"] (spLProg K)) (h_shown : Has P w K mg base 29 "shown" ["program", "paper"] spShown) (h_paper_for : Has P w K mg base 28 "paper_for" ["program"] spPaper)
    (h_exchanged : Has P w K mg base 10 "exchanged" ["program", "one", "other"] spExch) (h_spots : Has P w K mg base 9 "spots" ["program"] spSpotsP) (h_all_worths : Has P w K mg base 1 "all_worths" ["program"] spAll) (h_Trace : MkC P w K mg base 18 "Trace" C ["self", "program", "worths"] (spTrInit C))
    (m_go : HasM P w K mg base 1 C "go" ["self"] (spGo C)) (m_passed : HasM P w K mg base 1 C "passed" ["self"] (spPassed C)) (m_outcome : HasM P w K mg base 18 C "outcome" ["self"] (spOutcome K C)) (m_unseen : HasM P w K mg base 10 C "unseen" ["self"] (spUnseen C))
    (h_run : Has P w K mg base 17 "run" ["program", "worths"] (spRun K)) (h_exact : Has P w K mg base 18 "exact" ["program"] spExact) (h_names_in : Has P w K mg base 5 "names_in" ["program"] spNames) (h_used_at : Has P w K mg base 10 "used_at" ["program", "name"] spUsed)
    {f : Addr} {fd : FuncData} (F : FunD K "law" "law" (defArgs s_law) (defBody s_law) (defScope s_law) [] [] f fd) : FnOk P w K mg base CX0 31 f fd ["_law_script"] (spLaw K) := by
  refine fnok_of (k := 30) (N := N_law) F sc_law (fun vs H Q E h => ?_) (fun cdv A outer s0 H vs Q E hr h => ?_)
  · obtain ⟨_, _, rfl, _⟩ := h
    rfl
  · obtain ⟨a, ns, rfl, ha, q⟩ := h
    refine ⟨_, (pss_cons (ps_set (i := 1) sc_law.nd rfl (.inr rfl) (pe_callH h_law_program hr (by decide) (pa2 (pv 0) pe_int)))
      (pss_cons (ps_set (i := 3) sc_law.nd rfl (.inl rfl) (pe_callTy (call_dictPT rfl (hu66 hr)) (by rfl) T.dict (by decide +kernel) (pa1 (pe_lc (own := [("_law_path", 2), ("_law_low", 15), ("_law_high", 16)]) rfl sc_law.nd (pi_list (pe_callH h_shown hr (by decide) (pa2 (pv 1) (pe_callH h_paper_for hr (by decide) (pa1 (pv 1)))))) (blkOk_by (N := N_law) (sc := defScope s_law) (by decide +kernel)) (fun _ _ _ _ _ => (tupK K (n := 3) (by rfl) (pgs_cons (pg_name (i := 2) sc_law.nd rfl (.inl rfl)) (pgs_cons (pg_name (i := 15) sc_law.nd rfl (.inl rfl)) (pgs_cons (pg_name (i := 16) sc_law.nd rfl (.inl rfl)) pgs_nil))))) (fun _ _ _ _ _ => pts_nil) (fun _ _ _ _ _ => (pt2 (pv 2) (pt2 (pv 15) (pv 16))))))))
      (pss_cons (ps_asg (pe_tup (pa3 (pe_callH h_exchanged hr (by decide) (pa3 (pv 1) pe_str pe_str)) (pe_lc (own := [("_law_path", 2), ("_law_expr", 17)]) rfl sc_law.nd (pi_list (pe_callH h_spots hr (by decide) (pa1 (pv 1)))) (blkOk_by (N := N_law) (sc := defScope s_law) (by decide +kernel)) (fun _ _ _ _ _ => (tupK K (n := 2) (by rfl) (pgs_cons (pg_name (i := 2) sc_law.nd rfl (.inl rfl)) (pgs_cons (pg_name (i := 17) sc_law.nd rfl (.inl rfl)) pgs_nil)))) (fun _ _ _ _ _ => pts_nil) (fun _ _ _ _ _ => (pv 2))) pe_int)) (pg_tup (by rfl) (pgs_cons (pg_name (i := 4) sc_law.nd rfl (.inr rfl)) (pgs_cons (pg_name (i := 5) sc_law.nd rfl (.inr rfl)) (pgs_cons (pg_name (i := 6) sc_law.nd rfl (.inl rfl)) pgs_nil)))))
      (Evl.pss_cut (ps_for PassesOwn.never rfl (pi_list (pe_slice sl_list (pe_callH h_all_worths hr (by decide) (pa1 (pv 1))) po_none (po_some pe_int))) (pg_name (i := 7) sc_law.nd rfl (.inl rfl))
      (pss_cons (ps_set (i := 8) sc_law.nd rfl (.inr rfl) (pe_makeH h_Trace hr (by decide) (pa2 (pv 1) (pv 7))))
      (Evl.pss_cut (ps_setLc (i := 9) (own := [("_law_k", 18)]) rfl sc_law.nd rfl rfl (sw_true rfl rfl rfl (by decide +kernel)) (pi_range1 (by rfl) T.range (pa1 (pe_callB (call_min2 rfl) (by rfl) T.min (by decide +kernel) (pa2 pe_int (ixc (pe_meth0H m_passed Tc.cl hr (by decide) (pv 8))))))) (blkOk_by (N := N_law) (sc := defScope s_law) (by decide +kernel)) (fun _ _ _ _ _ => (pg_name (i := 18) sc_law.nd rfl (.inl rfl))) (fun _ _ _ _ _ => pts_nil) (fun _ _ _ _ _ => (pe_meth0H m_go Tc.cl hr (by decide) (pv 8))))
      (Evl.pss_cut (ps_for PassesOwn.never rfl (pi_list (pv 9)) (pg_tup (by rfl) (pgs_cons (pg_name (i := 2) sc_law.nd rfl (.inl rfl)) (pgs_cons (pg_name (i := 10) sc_law.nd rfl (.inl rfl)) pgs_nil)))
      (pss_one (ps_if (PW.pt (pw_or (pt_cmp (pc_dnotin (hu1 hr) (pv 2) (pv 3))) (pw_or1 (pt_not (pt_chain op_le op_le (ixc (pe_dget (hu1 hr) (pv 3) (pv 2) (fun _ _ => rfl))) (pv 10) (ixc (pe_dget (hu1 hr) (pv 3) (pv 2) (fun _ _ => rfl))))))))
      (pss_one (ps_ret pe_bl))
      pss_nil)))
      (pss_cons (ps_setLc (i := 11) (own := [("_law_row", 19)]) rfl sc_law.nd rfl rfl (sw_true rfl rfl rfl (by decide +kernel)) (pi_tup (ixc (pv 1))) (blkOk_by (N := N_law) (sc := defScope s_law) (by decide +kernel)) (fun _ _ _ _ _ => (pg_name (i := 19) sc_law.nd rfl (.inl rfl))) (fun _ _ _ _ _ => pts_nil) (fun _ _ _ _ _ => (ixk K (pv 19))))
      (pss_cons (ps_set (i := 12) sc_law.nd rfl (.inr rfl) (pe_callTy (call_dictP rfl) (by rfl) T.dict (by decide +kernel) (pa1 (pe_lc (own := [("_law_name", 20), ("_law_worth", 10)]) rfl sc_law.nd (pi_zipM (by rfl) T.zip (pa2 (pv 11) (pv 7))) (blkOk_by (N := N_law) (sc := defScope s_law) (by decide +kernel)) (fun _ _ _ _ _ => (tupK K (n := 2) (by rfl) (pgs_cons (pg_name (i := 20) sc_law.nd rfl (.inl rfl)) (pgs_cons (pg_name (i := 10) sc_law.nd rfl (.inl rfl)) pgs_nil)))) (fun _ _ _ _ _ => pts_nil) (fun _ _ _ _ _ => (pt2 (pe_dget2 (hu1 hr) (pe_disp (pps_cons pe_str pe_str (pps_cons pe_str pe_str pps_nil)) (by rfl) (by rfl) (fun z => by cases z) (by decide)) (pv 20) (pv 20) ⟨rfl, rfl, rfl, rfl⟩) (pv 10)))))))
      (Evl.pss_cut (ps_set (i := 13) sc_law.nd rfl (.inr rfl) (pe_makeH h_Trace hr (by decide) (pa2 (pv 4) (pe_callTy call_tuple_of (by rfl) T.tuple (by decide +kernel) (pa1 (pe_lc (own := [("_law_row", 19)]) rfl sc_law.nd (pi_tup (ixc (pv 4))) (blkOk_by (N := N_law) (sc := defScope s_law) (by decide +kernel)) (fun _ _ _ _ _ => (pg_name (i := 19) sc_law.nd rfl (.inl rfl))) (fun _ _ _ _ _ => pts_nil) (fun _ _ _ _ _ => (pe_dget (hu1 hr) (pv 12) (ixk K (pv 19)) (fun _ _ => rfl)))))))))
      (Evl.pss_cut (ps_if (PW.pt (pw_or (pt_cmpR (op_neD (hu64 hr)) (pe_lc (own := [("_law_k", 18)]) rfl sc_law.nd (pi_range1 (by rfl) T.range (pa1 (pe_callB call_len_seq (by rfl) T.len (by decide +kernel) (pa1 (pv 9))))) (blkOk_by (N := N_law) (sc := defScope s_law) (by decide +kernel)) (fun _ _ _ _ _ => (pg_name (i := 18) sc_law.nd rfl (.inl rfl))) (fun _ _ _ _ _ => pts_nil) (fun _ _ _ _ _ => (pe_meth0H m_go Tc.cl hr (by decide) (pv 13)))) (pv 9) (nomark _)) (pw_or1 (pt_cmpR (op_neD (hu64 hr)) (pe_meth0H m_passed Tc.cl hr (by decide) (pv 13)) (pe_meth0H m_passed Tc.cl hr (by decide) (pv 8)) (nomark _)))))
      (pss_one (ps_ret pe_bl))
      pss_nil)
      (Evl.pss_cut (ps_if (PW.pt (pw_or (pt_cmpR (op_neD (hu64 hr)) (pe_meth0H m_outcome Tc.cl hr (by decide) (pv 8)) (pe_callH h_run hr (by decide) (pa2 (pv 1) (pv 7))) (nomark _)) (pw_or1 (pt_cmpR op_ne (pe_cmpR op_eq (ixc (pe_meth0H m_outcome Tc.cl hr (by decide) (pv 8))) pe_str (nomark _)) (pe_cmpR op_eq (ixc (pe_meth0H m_outcome Tc.cl hr (by decide) (pv 13))) pe_str (nomark _)) (nomark _)))))
      (pss_one (ps_ret pe_bl))
      pss_nil)
      (pss_one (ps_asg (pt2 (pe_lc (own := [("_law_path", 2)]) rfl sc_law.nd (pi_list (pv 5)) (blkOk_by (N := N_law) (sc := defScope s_law) (by decide +kernel)) (fun _ _ _ _ _ => (pg_name (i := 2) sc_law.nd rfl (.inl rfl))) (fun _ _ _ _ _ => (pts_one (pt_cmpR (op_inK K (hu65 hr)) (pv 2) (pe_meth0H m_unseen Tc.cl hr (by decide) (pv 8)) (by rfl)))) (fun _ _ _ _ _ => (pv 2))) (pe_op op_add (pv 6) (ixc (pe_meth0H m_passed Tc.cl hr (by decide) (pv 8))))) (pg_tup (by rfl) (pgs_cons (pg_name (i := 5) sc_law.nd rfl (.inr rfl)) (pgs_cons (pg_name (i := 6) sc_law.nd rfl (.inl rfl)) pgs_nil))))))))))))))
      (Evl.pss_cut (ps_setLc (i := 14) (own := [("_law_path", 2), ("_law_low", 15), ("_law_high", 16)]) rfl sc_law.nd rfl rfl (sw_true rfl rfl rfl (by decide +kernel)) (pi_list (pe_callH h_exact hr (by decide) (pa1 (pv 1)))) (blkOk_by (N := N_law) (sc := defScope s_law) (by decide +kernel)) (fun _ _ _ _ _ => (tupK K (n := 3) (by rfl) (pgs_cons (pg_name (i := 2) sc_law.nd rfl (.inl rfl)) (pgs_cons (pg_name (i := 15) sc_law.nd rfl (.inl rfl)) (pgs_cons (pg_name (i := 16) sc_law.nd rfl (.inl rfl)) pgs_nil))))) (fun _ _ _ _ _ => (pts_one (pt_cmpR (op_inK K (hu65 hr)) (pv 2) (pv 5) (by rfl)))) (fun _ _ _ _ _ => (pv 2)))
      (Evl.pss_cut (ps_if (PW.pt (pw_and (pt_cmpR op_le (pe_callB call_len_seq (by rfl) T.len (by decide +kernel) (pa1 (pe_callH h_all_worths hr (by decide) (pa1 (pv 1))))) pe_int (nomark _)) (pw_and (pt_cmpR (op_neD (hu64 hr)) (pv 14) (pe_lst pa_nil) (nomark _)) (pw_and1 (pt_cmpR op_eq (pv 6) pe_int (nomark _))))))
      (pss_one (ps_ret pe_bl))
      pss_nil)
      (pss_one (ps_ret (pe_cmpR (op_eqD (hu64 hr)) (pe_lc (own := [("_law_name", 20)]) rfl sc_law.nd (pi_list (pe_callH h_names_in hr (by decide) (pa1 (pv 4)))) (blkOk_by (N := N_law) (sc := defScope s_law) (by decide +kernel)) (fun _ _ _ _ _ => (pg_name (i := 20) sc_law.nd rfl (.inl rfl))) (fun _ _ _ _ _ => (pts_one (pt_cmpR op_gt (pe_callB (call_len_seqK K) (by rfl) T.len (by decide +kernel) (pa1 (pe_callH h_used_at hr (by decide) (pa2 (pv 4) (pv 20))))) (pe_callB (call_len_seqK K) (by rfl) T.len (by decide +kernel) (pa1 (pe_callH h_spots hr (by decide) (pa1 (pv 1))))) (nomark _)))) (fun _ _ _ _ _ => (pv 20))) (pe_lst pa_nil) (nomark _)))))))))), ?_⟩
    refine ⟨_, rfl, a, ns, 0, rfl, ha, by decide, fun x H1 ins ds s1 hP1 hok => ?_⟩
    refine ⟨_, rfl, _, rfl, x, ins, ds, rfl, hP1, hok, fun v2 H2 l k2 hpp hpo => ?_⟩
    have hP2 : PgAt H2 x ins ds := hP1.mono k2.tups
    refine ⟨x, v2, ins, ds, l, rfl, hP2, hok, hpp, hpo, fun D H3 rs zs k3 eD hrs hnd hmem => ?_⟩
    have hP3 : PgAt H3 x ins ds := hP2.mono k3.tups
    have hzl : zs.length ≤ 1000000 := by
      have e2 := ok_paper_for.sub_len (zs.map (·.1)) ((ntsOf ins ds).map (·.1)) hnd fun q hq => by
        obtain ⟨z, hz, ez⟩ := List.mem_map.mp hq
        exact List.mem_map.mpr ⟨z, (hmem z).mp hz, ez⟩
      rw [List.length_map, List.length_map] at e2
      have e3 : (ntsOf ins ds).length ≤ 1000000 := notes_few hok.lim 0 [] (bkOf ins)
      omega
    have hrl : rs.length = zs.length := hrs.length
    refine ⟨D, rfl, ⟨_, .inl (.inl eD)⟩, fun Dl hD => lc_list (K := K) (a := D) (xs := rs.map V.ref) (fun i H' => Same H3 H' ∧ ∃ (L : List (Path × V)) (ps : List Addr), H' Dl = some (.lst (ps.map V.ref)) ∧ PpsAt H' ps L ∧ ps.length ≤ i ∧ Paired (fun (u : Path × V) (z : Path × Sg) => u.1 = z.1 ∧ IsSt K H' u.2 z.2) L (zs.take i)) ⟨same_new hD, [], [], upd_same, .nil, Nat.le_refl _, .nil⟩ (fun i H' _ p => .inl (.inl (p.1 _ _ eD))) ?_ ?_⟩
    · rintro i x' H4 hi ⟨s4, L, ps, g1, g2, g3, g4⟩
      rw [List.getElem?_map] at hi
      cases er : rs[i]? with
      | none => rw [er] at hi; cases hi
      | some r =>
        rw [er] at hi
        injection hi with hi
        subst hi
        obtain ⟨z, e1, b, h1, h2⟩ := paired_get hrs er
        have hi' : i < zs.length := (List.getElem?_eq_some_iff.mp e1).1
        refine ⟨r, _, rfl, sq_of (s4 _ _ h1), rfl, _, _, rfl, _, _, rfl, _, _, rfl, rfl, rfl, ?_⟩
        refine ⟨_, rfl, _, rfl, _, rfl, two, fun t ht => ⟨two, fun u hu => ?_⟩⟩
        have s5 : Same H4 (upd (upd H4 t (.tup [.int z.2.1, .int z.2.2])) u (.tup [.ref b, .ref t])) := (same_new ht).trans (same_new hu)
        have et : (upd (upd H4 t (.tup [.int z.2.1, .int z.2.2])) u (.tup [.ref b, .ref t])) t = some (.tup [.int z.2.1, .int z.2.2]) := same_new hu _ _ upd_same
        have eu : (upd (upd H4 t (.tup [.int z.2.1, .int z.2.2])) u (.tup [.ref b, .ref t])) u = some (.tup [.ref b, .ref t]) := upd_same
        generalize upd (upd H4 t (.tup [.int z.2.1, .int z.2.2])) u (.tup [.ref b, .ref t]) = H5 at s5 et eu ⊢
        have g1' := s5 _ _ g1
        have td : Tups H5 (upd H5 Dl (.lst (ps.map V.ref ++ [.ref u]))) := .put fun xs e => by rw [g1'] at e; cases e
        refine ⟨_, g1', big_line (by rw [List.length_map]; omega), same_put (s4.trans s5) hD, L ++ [(z.1, .ref t)], ps ++ [u], by rw [upd_same, List.map_append]; rfl, ?_, by rw [List.length_append, List.length_singleton]; omega, ?_⟩
        · exact Paired.snoc (PpsAt.mono g2 ((Tups.of_same s5).trans td)) ⟨b, td _ _ (s5 _ _ (s4 _ _ h2)), td _ _ eu⟩
        · rw [List.take_add_one, e1]
          exact Paired.snoc (Paired.mono (fun _ _ ⟨e, hb⟩ => ⟨e, hb.mono ((Tups.of_same s5).trans td)⟩) g4) ⟨rfl, t, rfl, .inl (td _ _ et)⟩
    rintro H4 ⟨s4, L, ps, g1, g2, g3, g4⟩
    rw [show (rs.map V.ref).length = zs.length by rw [List.length_map, hrl], List.take_length] at g4
    refine ⟨Dl, ps, _, rfl, .inl (.inl g1), PpsAt.sq g2, fun bd hbd => ?_⟩
    have eL : L.map (·.1) = zs.map (·.1) := fsts_of (R := fun u z => IsSt K H4 u.2 z.2) g4
    have hbk : PAt (IsSt K (upd H4 bd (.dT (mergeT [] (L.map fun p => (pK p.1, p.2)))))) (mergeT [] (L.map fun p => (pK p.1, p.2))) (fun q => zs.lookup q) := by
      refine pAt_list (fun u hu => ?_) fun q hq => ?_
      · obtain ⟨z, hz, e, hb⟩ := paired_mem g4 u hu
        exact ⟨z.2, by rw [e]; exact plook_mem hnd hz, hb.mono (.new hbd)⟩
      · rw [eL]
        cases e : zs.lookup q with
        | none => rw [e] at hq; cases hq
        | some s => exact List.mem_map.mpr ⟨(q, s), plook_of e, rfl⟩
    have s5 : Same H4 (upd H4 bd (.dT (mergeT [] (L.map fun p => (pK p.1, p.2))))) := same_new hbd
    have ebd : (upd H4 bd (.dT (mergeT [] (L.map fun p => (pK p.1, p.2))))) bd = some (.dT (mergeT [] (L.map fun p => (pK p.1, p.2)))) := upd_same
    generalize upd H4 bd (.dT (mergeT [] (L.map fun p => (pK p.1, p.2)))) = H5 at s5 ebd hbk ⊢
    generalize mergeT [] (L.map fun p => (pK p.1, p.2)) = mkv at ebd hbk
    have hP5 : PgAt H5 x ins ds := hP3.mono (.of_same (s4.trans s5))
    obtain ⟨bf, hbf⟩ : ∃ bf : Path → Option Sg, bf = fun q => zs.lookup q := ⟨_, rfl⟩
    rw [← hbf] at hbk
    have hB : ∀ q s, (q, s) ∈ ntsOf ins ds → bf q = some s := fun q s h => by
      rw [hbf]
      exact plook_mem hnd ((hmem _).mpr h)
    clear hbf
    refine ⟨_, rfl, x, ins, ds, rfl, hP5, hok.lim, hok.few, fun oth H6 ins' s6 hperm hPo => ?_⟩
    have hP6 : PgAt H6 x ins ds := hP5.mono (.of_same s6)
    have hko : PgOk ins' (exB ds) := hok.ex hperm
    refine ⟨_, rfl, x, ins, ds, rfl, hP6, hok.lim, fun D7 H7 sp Ls s7 _ e7 hL nL => ?_⟩
    have hkb := kB_few hok.lim
    have hspl : sp.length = Ls.length := hL.length
    refine ⟨D7, rfl, ⟨_, .inl (.inl e7)⟩, fun U hU => lc_list (K := K) (a := D7) (xs := sp.map V.ref) (fun i H' => Same H7 H' ∧ ∃ us qs, H' U = some (.lst (us.map V.ref)) ∧ PasIn H' us qs ∧ us.length ≤ i) ⟨same_new hU, [], [], upd_same, .nil, Nat.le_refl _⟩ (fun i H' _ p => .inl (.inl (p.1 _ _ e7))) ?_ ?_⟩
    · rintro i y H8 hi ⟨s8, us, qs, g1, g2, g3⟩
      rw [List.getElem?_map] at hi
      cases er : sp[i]? with
      | none => rw [er] at hi; cases hi
      | some r =>
        rw [er] at hi
        injection hi with hi
        subst hi
        obtain ⟨z, e1, b, v, h5, h6, _, _⟩ := paired_get hL er
        have hi' : i < sp.length := (List.getElem?_eq_some_iff.mp er).1
        have td : Tups H8 (upd H8 U (.lst (us.map V.ref ++ [.ref b]))) := .put fun xs e => by rw [g1] at e; cases e
        refine ⟨r, _, rfl, sq_of (s8 _ _ h5), rfl, _, _, rfl, _, _, rfl, rfl, rfl, _, rfl, _, g1, big_line (by rw [List.length_map]; omega), same_put s8 hU, us ++ [b], qs ++ [z.1], by rw [upd_same, List.map_append]; rfl, Paired.snoc (PasIn.mono g2 td) (td _ _ (s8 _ _ h6)), by rw [List.length_append, List.length_singleton]; omega⟩
    rintro H8 ⟨s8, us0, qs0, eU0, hqs0, hul0⟩
    rw [List.length_map] at hul0
    refine ⟨(by show (3 : Nat) ≤ sizeLine; decide), fun t9 ht9 => ?_⟩
    refine ⟨t9, _, rfl, sq_of upd_same, rfl, _, _, rfl, _, _, rfl, _, _, rfl, rfl, ?_⟩
    have s9 : Same H8 (upd H8 t9 (.tup [oth, .ref U, .int 0])) := same_new ht9
    have s59 := ((s6.trans s7).trans s8).trans s9
    have hP9 := hP5.mono (.of_same s59)
    have hPo9 := hPo.mono (.of_same ((s7.trans s8).trans s9))
    have ebd9 := s59 _ _ ebd
    have hbk9 := hbk.mono fun v s (e : IsSt K H5 v s) => e.mono (.of_same s59)
    have eU9 := s9 _ _ eU0
    have hqs9 := hqs0.mono (.of_same s9)
    generalize upd H8 t9 (.tup [oth, .ref U, .int 0]) = H9 at s9 s59 hP9 hPo9 ebd9 hbk9 eU9 hqs9 ⊢
    refine ⟨LawI a x bd oth ins ds H9 ((allW ins).take 4), ?_, fun σ' H' hI => ?_⟩
    rotate_left
    · obtain ⟨y2, y7, y8, y9, y10, y11, y12, y13, U, left, us, qs, rfl, s12, eU, hqs, hul, hun⟩ := hI
      have hP12 := hP9.mono (.of_same s12)
      refine ⟨fun σ2 H2 => ∃ (M : Addr) (ms : List Addr) (qs3 : List Path), σ2 = [some (.ref a), some x, y2, some (.ref bd), some oth, some (.ref U), some (.int (left : Int)), y7, y8, y9, y10, y11, y12, y13, some (.ref M), none, none, none, none, none, none] ∧ Same H9 H2 ∧ H2 M = some (.lst (ms.map V.ref)) ∧ PasIn H2 ms qs3 ∧ ∀ p ∈ qs3, p ∈ qs ∧ SeenAll ins ds p, ?_, ?_⟩
      · refine ⟨_, rfl, x, ins, ds, rfl, hP12, hok, fun D13 H13 rs2 zs2 s13 e13 hrs2 hl2 hsa => ?_⟩
        have eU13 := s13 _ _ eU
        have hqs13 : PasIn H13 us qs := hqs.mono (.of_same s13)
        refine ⟨D13, rfl, ⟨_, .inl (.inl e13)⟩, fun M hM => lc_list (K := K) (a := D13) (xs := rs2.map V.ref) (fun j H' => Same H13 H' ∧ ∃ ms qs3, H' M = some (.lst (ms.map V.ref)) ∧ PasIn H' ms qs3 ∧ ms.length ≤ j ∧ ∀ p ∈ qs3, p ∈ qs ∧ SeenAll ins ds p) ⟨same_new hM, [], [], upd_same, .nil, Nat.le_refl _, fun p hp => (nomatch hp)⟩ (fun j H' _ p => .inl (.inl (p.1 _ _ e13))) ?_ ?_⟩
        · rintro j y H14 hj ⟨s14, ms, qs3, g1, g2, g3, g4⟩
          rw [List.getElem?_map] at hj
          cases er : rs2[j]? with
          | none => rw [er] at hj; cases hj
          | some r =>
            rw [er] at hj
            injection hj with hj
            subst hj
            obtain ⟨z, ez, b, h1, h2⟩ := paired_get hrs2 er
            have hj' : j < rs2.length := (List.getElem?_eq_some_iff.mp er).1
            refine ⟨r, _, rfl, sq_of (s14 _ _ h1), rfl, _, _, rfl, _, _, rfl, _, _, rfl, rfl, rfl, ?_⟩
            refine ⟨_, rfl, _, rfl, encT z.1, _, dp_path (sq_of (s14 _ _ h2)), .lst (.inl (.inl (s14 _ _ eU13))) (dpAll_pas (hqs13.mono (.of_same s14))), shaped_path _, shaped_pas _, _, rfl, ?_⟩
            rw [any_path']
            refine ifC (fun cc => ?_) fun cc => ⟨s14, ms, qs3, g1, g2, by omega, g4⟩
            have cc : z.1 ∈ qs := of_decide_eq_true cc
            have td : Tups H14 (upd H14 M (.lst (ms.map V.ref ++ [.ref b]))) := .put fun xs e => by rw [g1] at e; cases e
            refine ⟨_, rfl, _, g1, big_line (by rw [List.length_map]; omega), same_put s14 hM, ms ++ [b], qs3 ++ [z.1], by rw [upd_same, List.map_append]; rfl, Paired.snoc (PasIn.mono g2 td) (td _ _ (s14 _ _ h2)), by rw [List.length_append, List.length_singleton]; omega, fun p hp => ?_⟩
            rcases List.mem_append.mp hp with hp | hp
            · exact g4 p hp
            · rw [List.mem_singleton.mp hp]
              exact ⟨cc, hsa z (List.mem_of_getElem? ez)⟩
        · rintro H14 ⟨s14, ms, qs3, g1, g2, g3, g4⟩
          exact ⟨M, ms, qs3, rfl, (s12.trans s13).trans s14, g1, g2, g4⟩
      rintro σ2 H13 ⟨M, ms, qs3, rfl, s13, eM, hms, hmq⟩
      refine ⟨fun σ2 H2 => σ2 = [some (.ref a), some x, y2, some (.ref bd), some oth, some (.ref U), some (.int (left : Int)), y7, y8, y9, y10, y11, y12, y13, some (.ref M), none, none, none, none, none, none] ∧ Same H9 H2, ?_, ?_⟩
      · refine ⟨_, rfl, x, ins, ds, rfl, hP9.mono (.of_same s13), hok, fun D14 H14 bs4 s14 e14 hbs4 _ => ⟨D14, _, rfl, .inl (.inl (.inl e14)), _, _, rfl, rfl, _, rfl, ifC (fun c => ?_) fun c => ifF rfl ⟨rfl, s13.trans s14⟩⟩⟩
        have c : ((bs4.map V.ref).length : Int) ≤ 4 := of_decide_eq_true c
        have hwl4 : (allW ins).length ≤ 4 := by
          have := hbs4.length
          rw [List.length_map] at c
          omega
        refine ⟨_, rfl, Nat.zero_le _, fun l4 hl4 => ?_⟩
        have s15 : Same H14 (upd H14 l4 (.lst [])) := same_new hl4
        have e15 : (upd H14 l4 (.lst [])) l4 = some (.lst []) := upd_same
        generalize upd H14 l4 (.lst []) = H15 at s15 e15 ⊢
        have s1415 := s14.trans s15
        refine ⟨_, _, .lst (.inl (.inl (s1415 _ _ eM))) (dpAll_pas (hms.mono (.of_same s1415))), .lst (.inl (.inl e15)) .nil, shaped_pas _, shaped_nil, _, rfl, ifC (fun c2 => ?_) fun c2 => ifF rfl ⟨rfl, s13.trans s1415⟩⟩
        refine ⟨_, rfl, rfl, _, rfl, ifF (decide_eq_false fun h0 => ?_) ⟨rfl, s13.trans s1415⟩⟩
        have h0 : left = 0 := by
          injection h0 with h0
          omega
        cases hq3 : qs3 with
        | nil =>
          rw [hq3] at c2
          cases c2
        | cons p r =>
          obtain ⟨h1, ws, hw, v, hv⟩ := hmq p (by rw [hq3]; exact List.mem_cons_self)
          exact hun h0 ws (by rw [List.take_of_length_le hwl4]; exact hw) p h1 v hv
      rintro σ2 H14 ⟨rfl, s14⟩
      have hPo14 : PgAt H14 oth ins' (exB ds) := hPo9.mono (.of_same s14)
      refine ⟨_, rfl, oth, ins', exB ds, rfl, hPo14, hko.lim, hko.few, fun D15 H15 ms2 s15 e15 => ?_⟩
      refine ⟨D15, rfl, ⟨_, .inl (.inl e15)⟩, fun DE hDE => lc_list (K := K) (a := D15) (xs := (ms2.map nS).map V.str) (fun j H' => Same H15 H' ∧ H' DE = some (.lst [])) ⟨same_new hDE, upd_same⟩ (fun j H' _ p => .inl (.inl (p.1 _ _ e15))) ?_ ?_⟩
      · rintro j y H16 hj ⟨s16, e16⟩
        rw [List.getElem?_map, List.getElem?_map] at hj
        cases er : ms2[j]? with
        | none => rw [er] at hj; cases hj
        | some z =>
          rw [er] at hj
          injection hj with hj
          have hj : V.str (nS z) = y := hj
          subst hj
          have s1416 := s15.trans s16
          refine ⟨rfl, _, rfl, _, rfl, oth, z, ins', exB ds, rfl, hPo14.mono (.of_same s1416), hko.lim, fun D17 H17 xs s17 e17 hx => ⟨D17, _, rfl, .inl (.inl (.inl e17)), _, rfl, x, ins, ds, rfl, hP9.mono (.of_same ((s14.trans s1416).trans s17)), hok.lim, fun D18 H18 sp Ls s18 _ e18 hL nL => ⟨D18, _, rfl, .inl (.inl (.inl e18)), _, _, rfl, rfl, _, rfl, ifF (decide_eq_false ?_) ⟨(s16.trans s17).trans s18, s18 _ _ (s17 _ _ e16)⟩⟩⟩⟩
          have h1 := hL.length
          rw [kB_ex] at hx
          rw [List.length_map]
          omega
      · rintro H16 ⟨s16, e16⟩
        refine ⟨Nat.zero_le _, fun l4 hl4 => ?_⟩
        refine ⟨.list [], .list [], .lst (.inl (.inl (same_new hl4 _ _ e16))) .nil, .lst (.inl (.inl upd_same)) .nil, shaped_nil, shaped_nil, ?_⟩
        exact q _
    refine ⟨_, rfl, x, ins, ds, rfl, hP9, hok, fun D10 H10 bs s10 e10 hbs hl9 => ?_⟩
    refine ⟨_, rfl, D10, _, rfl, .inl (.inl e10), fun c hc => ?_⟩
    rw [show cutV (bs.map V.ref) none (some 4) = (bs.take 4).map V.ref from ok_unseen.cutRef bs 4]
    have s11 : Same H10 (upd H10 c (.lst ((bs.take 4).map V.ref))) := same_new hc
    have e11 : (upd H10 c (.lst ((bs.take 4).map V.ref))) c = some (.lst ((bs.take 4).map V.ref)) := upd_same
    generalize upd H10 c (.lst ((bs.take 4).map V.ref)) = H11 at s11 e11 ⊢
    have s911 := s10.trans s11
    have hbs11 : PasIn H11 (bs.take 4) ((allW ins).take 4) := ok_unseen.paired_take 4 (hbs.mono (.of_same s11))
    have hP11 := hP9.mono (.of_same s911)
    have hPo11 := hPo9.mono (.of_same s911)
    have ebd11 := s911 _ _ ebd9
    have hbk11 := hbk9.mono fun v s (e : IsSt K H9 v s) => e.mono (.of_same s911)
    have eU11 := s911 _ _ eU9
    have hqs11 := hqs9.mono (.of_same s911)
    have hbl : (bs.take 4).length = ((allW ins).take 4).length := hbs11.length
    refine ⟨c, rfl, ⟨_, .inl (.inl e11)⟩, for_list (K := K) (a := c) (xs := (bs.take 4).map V.ref) (fun i => LawI a x bd oth ins ds H11 (((allW ins).take 4).take i))
      ⟨_, _, _, _, _, _, _, _, U, 0, us0, qs0, rfl, fun _ _ e => e, eU11, hqs11, by omega, fun _ ws hw => (nomatch hw)⟩ (fun i σ H' _ ⟨_, _, _, _, _, _, _, _, _, _, _, _, _, s, _⟩ => .inl (.inl (s _ _ e11))) ?_ ?_⟩
    · rintro i y σ H12 hi ⟨y2, y7, y8, y9, y10, y11, y12, y13, U, left, us, qs, rfl, s12, eU, hqs, hul, hun⟩
      rw [List.getElem?_map] at hi
      cases eb : (bs.take 4)[i]? with
      | none => rw [eb] at hi; cases hi
      | some b =>
        rw [eb] at hi
        injection hi with hi
        subst hi
        obtain ⟨ws, ew, hwb⟩ := paired_get hbs11 eb
        have hwm : ws ∈ allW ins := List.mem_of_mem_take (List.mem_of_getElem? ew)
        have hf := allW_fits hwm
        have hP12 := hP11.mono (.of_same s12)
        have hwb12 : H12 b = some (.tup (ws.map V.int)) := s12 _ _ hwb
        refine ⟨_, rfl, _, rfl, fun tr dx htr hdx ne => ?_⟩
        have sA : Same H12 (upd (upd H12 dx (.own tr)) tr (.ins C dx [])) := (same_new hdx).trans (same_new (by rw [upd_ne ne.symm]; exact htr))
        refine ⟨tr, dx, x, b, ins, ds, ws, rfl, upd_same, hP12.mono (.of_same sA), hok, sA _ _ hwb12, hf, fun sl ps H13 _ k13 hT => ⟨rfl, ?_⟩⟩
        have s13 : Same H12 H13 := fun b' o e => k13 b' o (sA _ _ e) (ne_of_none e htr)
        have hsf : (rnP ins ds ws).seen.length ≤ 1000000 := seen_few hok
        have hpl : ps.length = (rnP ins ds ws).seen.length := by obtain ⟨_, _, _, h3⟩ := id hT; exact h3.length
        obtain ⟨dxt, hti, _, _⟩ := id hT
        obtain ⟨n, hn⟩ : ∃ n, n = min 60 (rnP ins ds ws).seen.length := ⟨_, rfl⟩
        have n60 : n ≤ 60 := by omega
        refine ⟨fun σ' H' => ∃ R, σ' = [some (.ref a), some x, y2, some (.ref bd), some oth, some (.ref U), some (.int (left : Int)), some (.ref b), some (.ref tr), some (.ref R), y10, y11, y12, y13, none, none, none, none, none, none, none] ∧ Same H12 H' ∧ TrAt H' C tr sl x b ps (rnP ins ds ws).seen n ∧ H' R = some (.lst ((ps.take n).map V.ref)), ?_, ?_⟩
        · refine ⟨_, rfl, tr, dxt, _, rfl, hti, rfl, tr, sl, x, b, ps, _, 0, rfl, hT, Nat.zero_le _, fun t H14 s14 e14 => ?_⟩
          have hm : (if (((rnP ins ds ws).seen.length - 0 : Nat) : Int) < 60 then (((rnP ins ds ws).seen.length - 0 : Nat) : Int) else 60) = (n : Int) := by rw [min_if, hn]; omega
          refine ⟨_, _, _, _, rfl, rfl, sq_of e14, at1, _, _, rfl, (n : Int), congrArg (fun z => [V.int z]) hm, by omega, by omega, fun DR hDR => ?_⟩
          have nDt : tr ≠ DR := ne_of_none (s14 _ _ hti) hDR
          have nDs : sl ≠ DR := by obtain ⟨_, _, hts, _⟩ := id hT; exact ne_of_none (s14 _ _ hts) hDR
          refine lc_range (lo := 0) (fun j H' => Same H12 H' ∧ TrAt H' C tr sl x b ps (rnP ins ds ws).seen j ∧ H' DR = some (.lst ((ps.take j).map V.ref))) ⟨(s13.trans s14).trans (same_new hDR), (hT.same s14).same (same_new hDR), upd_same⟩ ?_ ?_
          · rintro j H15 hj ⟨s15, hT15, e15⟩
            have hj' : j < ps.length := by omega
            obtain ⟨dx5, hti5, _, _⟩ := id hT15
            have er : ps[j]? = some ps[j] := List.getElem?_eq_getElem hj'
            have hH12tr : H12 tr = none := htr
            refine ⟨rfl, _, rfl, tr, dx5, _, rfl, hti5, rfl, tr, sl, x, b, ps, _, j, ps[j], rfl, hT15, er, fun H16 k16 hT16 => ?_⟩
            have e16 := k16 _ _ e15 (Ne.symm nDt)
            refine ⟨_, e16, big_line (by rw [List.length_map, List.length_take]; omega), same_put (same_but s15 hH12tr k16) (none_of (s13.trans s14) hDR), hT16.put e16 (by intro xs z; cases z) nDt nDs, ?_⟩
            rw [upd_same, List.take_add_one, er, List.map_append]
            rfl
          · rintro H15 ⟨s15, hT15, e15⟩
            rw [Int.toNat_natCast] at hT15 e15
            exact ⟨DR, rfl, s15, hT15, e15⟩
        rintro σ' H15 ⟨R, rfl, s15, hT15, eR⟩
        have hP15 := hP12.mono (.of_same s15)
        have s1115 := s12.trans s15
        have hwb15 := s15 _ _ hwb12
        have ebd15 := s1115 _ _ ebd11
        have hbk15 := hbk11.mono fun v s (e : IsSt K H11 v s) => e.mono (.of_same s1115)
        have hsn : SeenIn H15 (ps.take n) ((rnP ins ds ws).seen.take n) := by obtain ⟨_, _, _, h3⟩ := id hT15; exact ok_unseen.paired_take n h3
        refine ⟨fun σ' H' => ∃ z2 z10, σ' = [some (.ref a), some x, z2, some (.ref bd), some oth, some (.ref U), some (.int (left : Int)), some (.ref b), some (.ref tr), some (.ref R), z10, y11, y12, y13, none, none, none, none, none, none, none] ∧ H15 = H', ?_, ?_⟩
        · refine ⟨_, rfl, R, rfl, ⟨_, .inl (.inl eR)⟩, for_list (K := K) (a := R) (xs := (ps.take n).map V.ref) (fun j σ H' => ∃ z2 z10, σ = [some (.ref a), some x, z2, some (.ref bd), some oth, some (.ref U), some (.int (left : Int)), some (.ref b), some (.ref tr), some (.ref R), z10, y11, y12, y13, none, none, none, none, none, none, none] ∧ H15 = H') ⟨_, _, rfl, rfl⟩ (fun j σ H' _ ⟨_, _, _, e⟩ => by rw [← e]; exact .inl (.inl eR)) ?_ ?_⟩
          · rintro j y σ H16 hj ⟨z2, z10, rfl, e16⟩
            subst e16
            rw [List.getElem?_map] at hj
            cases er : (ps.take n)[j]? with
            | none => rw [er] at hj; cases hj
            | some r =>
              rw [er] at hj
              injection hj with hj
              subst hj
              obtain ⟨⟨rq, rv⟩, e1, pq, e2, e3⟩ := paired_get hsn er
              have e2 : H15 r = some (.tup [.ref pq, .int rv]) := e2
              have e3 : H15 pq = some (.tup (rq.map V.int)) := e3
              obtain ⟨st, hst, hhas⟩ := row_note hok hf (List.mem_of_mem_take (List.mem_of_getElem? e1))
              obtain ⟨sv, ev, hsv⟩ := hbk15.so rq st (hB rq st hst)
              obtain ⟨sa, rfl, hsa⟩ := id hsv
              have hget : DGet H15 bd (.ref pq) (valV mkv (pK rq)) := DGet.t (k := pK rq) ebd15 (by rw [pK_kV]; exact e3)
              rw [ev] at hget
              refine ⟨r, _, rfl, sq_of e2, rfl, _, _, rfl, _, _, rfl, rfl, ?_⟩
              refine ⟨_, rfl, _, rfl, bd, _, rfl, hget, _, rfl, ifF rfl ?_⟩
              refine ⟨_, rfl, _, rfl, bd, _, rfl, hget, _, _, _, _, rfl, rfl, hsa.sq, at0, _, rfl, _, _, rfl, rfl, _, rfl, ifT (decide_eq_true hhas.1) ⟨_, rfl, _, rfl, bd, _, rfl, hget, _, _, _, _, rfl, rfl, hsa.sq, at1, _, _, rfl, rfl, _, rfl, ifF (by rw [decide_eq_true hhas.2]; rfl) ⟨_, _, rfl, rfl⟩⟩⟩
          · exact fun σ H' h => h
        rintro σ' H16 ⟨z2, z10, rfl, e16⟩
        subst e16
        obtain ⟨pa, ia, ba, vb, ex, hp1, ⟨rsi, hp2, hri⟩, _, _⟩ := id hP15
        have hrsl : rsi.length = ins.length := hri.length
        have hfew := hok.few
        refine ⟨_, rfl, _, _, _, _, ex, rfl, sq_of hp1, at0, ia, rfl, ⟨_, sq_of hp2⟩, fun DN hDN => lc_tup (K := K) (a := ia) (xs := rsi.map V.ref) (fun j H' => Same H15 H' ∧ H' DN = some (.lst ((((ins.map (·.1)).take j).map nS).map V.str))) ⟨same_new hDN, upd_same⟩ (fun j H' _ p => sq_of (p.1 _ _ hp2)) ?_ ?_⟩
        · rintro j y H17 hj ⟨s17, e17⟩
          rw [List.getElem?_map] at hj
          cases er : rsi[j]? with
          | none => rw [er] at hj; cases hj
          | some r =>
            rw [er] at hj
            injection hj with hj
            subst hj
            obtain ⟨z, ez, hz⟩ := paired_get hri er
            have hj' : j < ins.length := (List.getElem?_eq_some_iff.mp ez).1
            refine ⟨rfl, _, rfl, _, _, _, _, rfl, rfl, sq_of (s17 _ _ hz), at0, _, e17, small_line (by simp only [List.length_map, List.length_take]; omega), same_put s17 hDN, ?_⟩
            rw [upd_same, List.take_add_one, List.getElem?_map, ez]
            simp only [Option.map_some, Option.toList_some, List.map_append, List.map_cons, List.map_nil]
        rintro H17 ⟨s17, e17⟩
        rw [show (rsi.map V.ref).length = (ins.map (·.1)).length by rw [List.length_map, List.length_map, hrsl], List.take_length] at e17
        have hwb17 := s17 _ _ hwb15
        have hwl : ws.length = ins.length := hf.1
        have hlw : (((ins.map (·.1)).map nS).map V.str).length = (ws.map V.int).length := by simp only [List.length_map]; omega
        refine ⟨_, rfl, _, rfl, DN, b, _, _, rfl, .inl (.inl e17), sq_of hwb17, fun DD hDD => ?_⟩
        refine lc_it (walk_zipM hlw) (fun i H' => Same H17 H' ∧ ∃ qs : List Addr, H' DD = some (.lst (qs.map V.ref)) ∧ PrsAt H' qs ((((ins.map (·.1)).zip ws).map fun z => (exN z.1, V.int z.2)).take i)) ⟨same_new hDD, [], upd_same, .nil⟩ (fun i H' _ p => ⟨.inl (.inl (p.1 _ _ e17)), sq_of (p.1 _ _ hwb17)⟩) ?_ ?_
        · rintro j y H18 H19 hj ⟨s18, qs', g2, g3⟩ ⟨t, x1, x2, rfl, ht, rfl, ex1, ex2⟩
          simp only [List.getElem?_map] at ex1 ex2
          cases ew' : ws[j]? with
          | none => rw [ew'] at ex2; cases ex2
          | some v =>
            rw [ew'] at ex2
            injection ex2 with ex2
            subst ex2
            cases er : ins[j]? with
            | none => rw [er] at ex1; cases ex1
            | some row =>
              obtain ⟨z, st⟩ := row
              rw [er] at ex1
              injection ex1 with ex1
              have ex1 : V.str (nS z) = x1 := ex1
              subst ex1
              have s3 : Same H18 (upd H18 t (.tup [.str (nS z), .int v])) := same_new ht
              have et : (upd H18 t (.tup [.str (nS z), .int v])) t = some (.tup [.str (nS z), .int v]) := upd_same
              generalize upd H18 t (.tup [.str (nS z), .int v]) = H19 at s3 et ⊢
              refine ⟨t, _, rfl, sq_of et, rfl, _, _, rfl, _, _, rfl, rfl, rfl, ?_⟩
              refine fun p hp => ⟨upd_same, [(nK .a, .str "dd"), (nK .d, .str "a")], rfl, by decide, p, rfl, .inl ⟨_, .inl upd_same⟩, _, rfl, _, rfl, _, DGet.k (k := nK z) upd_same, ?_⟩
              rw [swap_get z]
              refine ⟨_, rfl, two, fun u hu => ?_⟩
              rw [upd_upd] at hu ⊢
              have s4 : Same H19 (upd (upd H19 p (.dK (mergeK [] [(nK .a, .str "dd"), (nK .d, .str "a")]))) u (.tup [.str (nS (exN z)), .int v])) := (same_new hp).trans (same_new hu)
              have eu : (upd (upd H19 p (.dK (mergeK [] [(nK .a, .str "dd"), (nK .d, .str "a")]))) u (.tup [.str (nS (exN z)), .int v])) u = some (.tup [.str (nS (exN z)), .int v]) := upd_same
              generalize upd (upd H19 p (.dK (mergeK [] [(nK .a, .str "dd"), (nK .d, .str "a")]))) u (.tup [.str (nS (exN z)), .int v]) = H20 at s4 eu ⊢
              have g2' := s4 _ _ (s3 _ _ g2)
              have hpl' : qs'.length ≤ j := by have := g3.length; rw [this, List.length_take]; omega
              have hj' : j < ins.length := (List.getElem?_eq_some_iff.mp er).1
              have hz : (((ins.map (·.1)).zip ws).map fun z => (exN z.1, V.int z.2))[j]? = some (exN z, V.int v) := by
                rw [List.getElem?_map, show ((ins.map (·.1)).zip ws)[j]? = some (z, v) from List.getElem?_zip_eq_some.mpr ⟨by rw [List.getElem?_map, er]; rfl, ew'⟩]
                rfl
              have td : Tups H20 (upd H20 DD (.lst (qs'.map V.ref ++ [.ref u]))) := .put fun xs z => by rw [g2'] at z; cases z
              refine ⟨_, g2', small_line (by rw [List.length_map]; omega), same_put ((s18.trans s3).trans s4) hDD, qs' ++ [u], by rw [upd_same, List.map_append]; rfl, ?_⟩
              rw [List.take_add_one, hz]
              exact Paired.snoc (PrsAt.mono g3 (((Tups.of_same s3).trans (.of_same s4)).trans td)) (td _ _ eu)
        rintro H18 ⟨s18, qs', g2, g3⟩
        have hzl' : (((ins.map (·.1)).zip ws).map fun z => (exN z.1, V.int z.2)).length = ins.length := by rw [List.length_map, List.length_zip, List.length_map]; omega
        rw [show (((ins.map (·.1)).map nS).map V.str).length = (((ins.map (·.1)).zip ws).map fun z => (exN z.1, V.int z.2)).length by rw [hzl']; simp only [List.length_map], List.take_length] at g3
        refine ⟨DD, qs', _, rfl, .inl (.inl g2), PrsAt.sq g3, fun d hd => ?_⟩
        have hfz : ((ins.map (·.1)).zip ws).map (·.1) = ins.map (·.1) := List.map_fst_zip (by rw [List.length_map]; omega)
        have hturn : DAt (fun v n => v = .int n) (mergeK [] ((((ins.map (·.1)).zip ws).map fun z => (exN z.1, V.int z.2)).map fun p => (nK p.1, p.2))) (exV (envOf (ins.map (·.1)) ws)) := by
          refine dAt_list (fun l hl => ?_) fun y hy => ?_
          · obtain ⟨⟨y, v⟩, hyv, rfl⟩ := List.mem_map.mp hl
            refine ⟨v, ?_, rfl⟩
            show envOf (ins.map (·.1)) ws (exN (exN y)) = some v
            rw [exN_exN]
            exact lookup_mem (by rw [hfz]; exact hok.nd) hyv
          · have h1 := lookup_some (show (((ins.map (·.1)).zip ws).lookup (exN y)).isSome = true from hy)
            obtain ⟨z, hz, ez⟩ := List.mem_map.mp h1
            rw [List.map_map]
            exact List.mem_map.mpr ⟨z, hz, by show exN z.1 = y; rw [ez, exN_exN]⟩
        have s19 : Same H18 (upd H18 d (.dK (mergeK [] ((((ins.map (·.1)).zip ws).map fun z => (exN z.1, V.int z.2)).map fun p => (nK p.1, p.2))))) := same_new hd
        have ed : (upd H18 d (.dK (mergeK [] ((((ins.map (·.1)).zip ws).map fun z => (exN z.1, V.int z.2)).map fun p => (nK p.1, p.2))))) d = some (.dK (mergeK [] ((((ins.map (·.1)).zip ws).map fun z => (exN z.1, V.int z.2)).map fun p => (nK p.1, p.2)))) := upd_same
        generalize upd H18 d (.dK (mergeK [] ((((ins.map (·.1)).zip ws).map fun z => (exN z.1, V.int z.2)).map fun p => (nK p.1, p.2)))) = H19 at s19 ed ⊢
        generalize mergeK [] ((((ins.map (·.1)).zip ws).map fun z => (exN z.1, V.int z.2)).map fun p => (nK p.1, p.2)) = tkv at ed hturn
        have s1519 : Same H15 H19 := (s17.trans s18).trans s19
        have hPo19 : PgAt H19 oth ins' (exB ds) := hPo11.mono (.of_same (s1115.trans s1519))
        obtain ⟨hfx, _⟩ := ex_worths hok hf hperm
        refine ⟨fun σ' H' => ∃ (mo sl2 wa2 : Addr) (ps2 : List Addr), σ' = [some (.ref a), some x, z2, some (.ref bd), some oth, some (.ref U), some (.int (left : Int)), some (.ref b), some (.ref tr), some (.ref R), z10, some (.ref DN), some (.ref d), some (.ref mo), none, none, none, none, none, none, none] ∧ Same H15 H' ∧ H15 mo = none ∧ TrAt H' C mo sl2 oth wa2 ps2 (rnP ins' (exB ds) (exW ins ins' ws)).seen 0 ∧ H' wa2 = some (.tup ((exW ins ins' ws).map V.int)), ?_, ?_⟩
        · obtain ⟨pb, ib, bb, vb2, exo, hq1, ⟨rso, hq2, hro⟩, _, _⟩ := id hPo19
          have hrol : rso.length = ins'.length := hro.length
          have hxl : (exW ins ins' ws).length = ins'.length := hfx.1
          refine ⟨_, rfl, _, rfl, _, _, _, _, exo, rfl, sq_of hq1, at0, ib, rfl, ⟨_, sq_of hq2⟩, fun DW hDW => lc_tup (K := K) (a := ib) (xs := rso.map V.ref) (fun j H' => Same H19 H' ∧ H' DW = some (.lst (((exW ins ins' ws).take j).map V.int))) ⟨same_new hDW, upd_same⟩ (fun j H' _ p => sq_of (p.1 _ _ hq2)) ?_ ?_⟩
          · rintro j y H20 hj ⟨s20, e20⟩
            rw [List.getElem?_map] at hj
            cases er : rso[j]? with
            | none => rw [er] at hj; cases hj
            | some r =>
              rw [er] at hj
              injection hj with hj
              subst hj
              obtain ⟨⟨z, st⟩, ez, hz⟩ := paired_get hro er
              have hz : H19 r = some (.tup [.str (nS z), .int st.1, .int st.2]) := hz
              have hj' : j < ins'.length := (List.getElem?_eq_some_iff.mp ez).1
              obtain ⟨v, ev, _⟩ := ex_env hok hf hperm _ (List.mem_of_getElem? ez)
              have ev : exV (envOf (ins.map (·.1)) ws) z = some v := ev
              obtain ⟨vv, evv, rfl⟩ := hturn.so z v ev
              have hget : DGet H20 d (.str (nS z)) (valV tkv (nK z)) := DGet.k (k := nK z) (s20 _ _ ed)
              rw [evv] at hget
              have hfe := hko.few
              refine ⟨rfl, _, rfl, _, rfl, _, _, _, _, rfl, rfl, sq_of (s20 _ _ hz), at0, _, _, rfl, hget, _, e20, small_line (by simp only [List.length_map, List.length_take]; omega), same_put s20 hDW, ?_⟩
              have hxj : (exW ins ins' ws)[j]? = some v := by
                unfold exW
                rw [List.getElem?_map, ez]
                show some ((exV (envOf (ins.map (·.1)) ws) z).getD 0) = some v
                rw [ev]
                rfl
              rw [upd_same, List.take_add_one, hxj]
              simp only [Option.toList_some, List.map_append, List.map_cons, List.map_nil]
          · rintro H20 ⟨s20, e20⟩
            rw [show (rso.map V.ref).length = (exW ins ins' ws).length by rw [List.length_map, hrol, hxl], List.take_length] at e20
            refine ⟨DW, _, rfl, .inl ⟨.inl (.inl e20), fun wa2 hwa2 => ?_⟩⟩
            intro mo dx2 hmo hdx2 ne2
            have sB : Same H20 (upd (upd (upd H20 wa2 (.tup ((exW ins ins' ws).map V.int))) dx2 (.own mo)) mo (.ins C dx2 [])) := ((same_new hwa2).trans (same_new hdx2)).trans (same_new (by rw [upd_ne ne2.symm]; exact hmo))
            have ewa2 : (upd (upd (upd H20 wa2 (.tup ((exW ins ins' ws).map V.int))) dx2 (.own mo)) mo (.ins C dx2 [])) wa2 = some (.tup ((exW ins ins' ws).map V.int)) := ((same_new hdx2).trans (same_new (by rw [upd_ne ne2.symm]; exact hmo))) _ _ upd_same
            have nmo : H20 mo = none := none_of (same_new hwa2) hmo
            refine ⟨mo, dx2, oth, wa2, ins', exB ds, exW ins ins' ws, rfl, upd_same, hPo19.mono (.of_same (s20.trans sB)), hko, ewa2, hfx, fun sl2 ps2 H21 _ k21 hM => ⟨rfl, mo, sl2, wa2, ps2, rfl, fun b' o e => k21 b' o (sB _ _ (s20 _ _ (s1519 _ _ e))) (ne_of_none (s20 _ _ (s1519 _ _ e)) nmo), none_of (s1519.trans s20) nmo, hM, k21 _ _ ewa2 (ne_of_none upd_same hmo)⟩⟩
        rintro σ' H20 ⟨mo, sl2, wa2, ps2, rfl, s20, nmo, hM, ewa2⟩
        rw [show (rnP ins' (exB ds) (exW ins ins' ws)).seen = (rnP ins ds ws).seen by rw [rnP_ex hok hf hperm]; rfl] at hM
        have hpl2 : ps2.length = (rnP ins ds ws).seen.length := by obtain ⟨_, _, _, h3⟩ := id hM; exact h3.length
        have hnl : n ≤ (rnP ins ds ws).seen.length := by omega
        refine ⟨fun σ' H' => σ' = [some (.ref a), some x, z2, some (.ref bd), some oth, some (.ref U), some (.int (left : Int)), some (.ref b), some (.ref tr), some (.ref R), z10, some (.ref DN), some (.ref d), some (.ref mo), none, none, none, none, none, none, none] ∧ Same H15 H' ∧ TrAt H' C mo sl2 oth wa2 ps2 (rnP ins ds ws).seen n ∧ H' wa2 = some (.tup ((exW ins ins' ws).map V.int)), ?_, ?_⟩
        · have hlen : ((ps.take n).map V.ref).length = n := by rw [List.length_map, List.length_take]; omega
          refine ⟨_, rfl, R, _, rfl, .inl (.inl (.inl (s20 _ _ eR))), (n : Int), by rw [hlen], by omega, by omega, fun DG hDG => ?_⟩
          obtain ⟨dxm, hmi, hms, _⟩ := id hM
          have nGm : mo ≠ DG := ne_of_none hmi hDG
          have nGs : sl2 ≠ DG := ne_of_none hms hDG
          have nwm : wa2 ≠ mo := ne_of ewa2 hmi (by intro z; cases z)
          refine lc_range (lo := 0) (fun j H' => Same H15 H' ∧ TrAt H' C mo sl2 oth wa2 ps2 (rnP ins ds ws).seen j ∧ H' DG = some (.lst ((ps2.take j).map V.ref)) ∧ H' wa2 = some (.tup ((exW ins ins' ws).map V.int))) ⟨s20.trans (same_new hDG), hM.same (same_new hDG), upd_same, same_new hDG _ _ ewa2⟩ ?_ ?_
          · rintro j H21 hj ⟨s21, hM21, e21, w21⟩
            have hj' : j < ps2.length := by omega
            obtain ⟨dx5, hmi5, _, _⟩ := id hM21
            have er : ps2[j]? = some ps2[j] := List.getElem?_eq_getElem hj'
            refine ⟨rfl, _, rfl, mo, dx5, _, rfl, hmi5, rfl, mo, sl2, oth, wa2, ps2, _, j, ps2[j], rfl, hM21, er, fun H22 k22 hM22 => ?_⟩
            have e22 := k22 _ _ e21 (Ne.symm nGm)
            have w22 := k22 _ _ w21 nwm
            refine ⟨_, e22, big_line (by rw [List.length_map, List.length_take]; omega), same_put (same_but s21 nmo k22) (none_of s20 hDG), hM22.put e22 (by intro xs z; cases z) nGm nGs, ?_, ?_⟩
            · rw [upd_same, List.take_add_one, er, List.map_append]
              rfl
            · rw [upd_ne (ne_of w22 e22 (by intro z; cases z))]
              exact w22
          · rintro H21 ⟨s21, hM21, e21, w21⟩
            rw [Int.toNat_natCast] at hM21 e21
            have hs1 : SeenIn H21 (ps2.take n) ((rnP ins ds ws).seen.take n) := by obtain ⟨_, _, _, h3⟩ := id hM21; exact ok_unseen.paired_take n h3
            have hs2 : SeenIn H21 (ps.take n) ((rnP ins ds ws).seen.take n) := hsn.mono (.of_same s21)
            refine ⟨_, rfl, _, _, .lst (.inl (.inl e21)) (dpAll_rws hs1), .lst (.inl (.inl (s21 _ _ eR))) (dpAll_rws hs2), shaped_rws _, shaped_rws _, _, rfl, ifF (by rw [eqv_rws]; rfl) ?_⟩
            obtain ⟨dxm1, hmi1, _, _⟩ := id hM21
            refine ⟨_, rfl, mo, dxm1, _, rfl, hmi1, rfl, mo, sl2, oth, wa2, ps2, _, n, rfl, hM21, hnl, fun t1 H22 s22 et1 => ?_⟩
            have hT22 := hT15.same (s21.trans s22)
            obtain ⟨dxt2, hti2, _, _⟩ := id hT22
            refine ⟨_, rfl, tr, dxt2, _, rfl, hti2, rfl, tr, sl, x, b, ps, _, n, rfl, hT22, hnl, fun t2 H23 s23 et2 => ?_⟩
            refine ⟨_, _, dp_two (s23 _ _ et1), dp_two et2, shaped_two _ _, shaped_two _ _, _, rfl, ifF (by rw [eqv_two]; rfl) ?_⟩
            exact ⟨rfl, (s21.trans s22).trans s23, hM21.same (s22.trans s23), s23 _ _ (s22 _ _ w21)⟩
        rintro σ' H21 ⟨rfl, s21, hM21, w21⟩
        have hP21 := hP15.mono (.of_same s21)
        have hPo21 : PgAt H21 oth ins' (exB ds) := hPo11.mono (.of_same (s1115.trans s21))
        have hT21 := hT15.same s21
        have hwb21 := s21 _ _ hwb15
        refine ⟨fun σ' H' => σ' = [some (.ref a), some x, z2, some (.ref bd), some oth, some (.ref U), some (.int (left : Int)), some (.ref b), some (.ref tr), some (.ref R), z10, some (.ref DN), some (.ref d), some (.ref mo), none, none, none, none, none, none, none] ∧ Same H15 H', ?_, ?_⟩
        · obtain ⟨dxt2, hti2, _, _⟩ := id hT21
          refine ⟨_, rfl, tr, dxt2, _, rfl, hti2, rfl, tr, sl, x, b, ps, _, n, ins, ds, ws, rfl, hT21, hP21, hok, hwb21, hf, fun v1 H22 s22 he1 => ?_⟩
          refine ⟨_, rfl, _, rfl, x, b, ins, ds, ws, rfl, hP21.mono (.of_same s22), hok, s22 _ _ hwb21, hf, fun v2 H23 s23 he2 => ?_⟩
          obtain ⟨_, _, _, _, hd1⟩ := he1
          obtain ⟨_, _, _, _, hd2⟩ := he2
          refine ⟨_, _, dp_same s23 hd1, hd2, shaped_end _, shaped_end _, _, rfl, ifF (by rw [eqv_end]; rfl) ?_⟩
          have s2123 := s22.trans s23
          have hT23 := hT21.same s2123
          obtain ⟨dxt3, hti3, _, _⟩ := id hT23
          refine ⟨_, rfl, tr, dxt3, _, rfl, hti3, rfl, tr, sl, x, b, ps, _, n, ins, ds, ws, rfl, hT23, hP21.mono (.of_same s2123), hok, s2123 _ _ hwb21, hf, fun v3 H24 s24 he3 => ?_⟩
          obtain ⟨a3, xs3, rfl, e3, _⟩ := he3
          refine ⟨_, _, _, _, rfl, rfl, sq_of e3, at0, rfl, ?_⟩
          have s2124 := s2123.trans s24
          have hM24 := hM21.same s2124
          obtain ⟨dxm1, hmi1, _, _⟩ := id hM24
          refine ⟨_, rfl, mo, dxm1, _, rfl, hmi1, rfl, mo, sl2, oth, wa2, ps2, _, n, ins', exB ds, exW ins ins' ws, rfl, hM24, hPo21.mono (.of_same s2124), hko, s2124 _ _ w21, hfx, fun v4 H25 s25 he4 => ?_⟩
          obtain ⟨a4, xs4, rfl, e4, _⟩ := he4
          refine ⟨_, _, _, _, rfl, rfl, sq_of e4, at0, rfl, rfl, ?_⟩
          have hft : (rnP ins' (exB ds) (exW ins ins' ws)).fault = (rnP ins ds ws).fault := by rw [rnP_ex hok hf hperm]; rfl
          rw [hft]
          refine ⟨_, rfl, ifF (by simp) ?_⟩
          exact ⟨rfl, s21.trans (s2124.trans s25)⟩
        rintro σ' H22 ⟨rfl, s22⟩
        have hP22 := hP15.mono (.of_same s22)
        have hT22 := hT15.same s22
        have sU := s15.trans s22
        have eU22 := sU _ _ eU
        have hqs22 : PasIn H22 us qs := hqs.mono (.of_same sU)
        have hql : us.length = qs.length := hqs.length
        refine ⟨_, rfl, U, rfl, ⟨_, .inl (.inl eU22)⟩, fun U2 hU2 => lc_list (K := K) (a := U) (xs := us.map V.ref) (fun j H' => Same H22 H' ∧ ∃ us2 qs2, H' U2 = some (.lst (us2.map V.ref)) ∧ PasIn H' us2 qs2 ∧ us2.length ≤ j ∧ ∀ p ∈ qs2, p ∈ qs ∧ ∀ v, (p, v) ∉ (rnP ins ds ws).seen.take n) ⟨same_new hU2, [], [], upd_same, .nil, Nat.le_refl _, fun p hp => (nomatch hp)⟩ (fun j H' _ p => .inl (.inl (p.1 _ _ eU22))) ?_ ?_⟩
        · rintro j y H23 hj ⟨s23, us2, qs2, g1, g2, g3, g4⟩
          rw [List.getElem?_map] at hj
          cases er : us[j]? with
          | none => rw [er] at hj; cases hj
          | some r =>
            rw [er] at hj
            injection hj with hj
            subst hj
            obtain ⟨p', ep, hp'⟩ := paired_get hqs22 er
            have hp' : H22 r = some (.tup (p'.map V.int)) := hp'
            have hj' : j < us.length := (List.getElem?_eq_some_iff.mp er).1
            have hT23 := hT22.same s23
            obtain ⟨dxt3, hti3, _, _⟩ := id hT23
            refine ⟨rfl, _, rfl, _, rfl, tr, dxt3, _, rfl, hti3, rfl, tr, sl, x, b, ps, _, n, ins, ds, rfl, hT23, hsf, hP22.mono (.of_same s23), hok.lim, fun DU H24 bsU qsU s24 eDU hbsU hlU hnot => ⟨encT p', _, dp_path (sq_of (s24 _ _ (s23 _ _ hp'))), .lst (.inl (.inl eDU)) (dpAll_pas hbsU), shaped_path _, shaped_pas _, _, rfl, ?_⟩⟩
            rw [any_path']
            have g1' := s24 _ _ g1
            refine ifC (fun cc => ?_) fun cc => ⟨s23.trans s24, us2, qs2, g1', g2.mono (.of_same s24), by omega, g4⟩
            have cc : p' ∈ qsU := of_decide_eq_true cc
            have td : Tups H24 (upd H24 U2 (.lst (us2.map V.ref ++ [.ref r]))) := .put fun xs e => by rw [g1'] at e; cases e
            refine ⟨_, rfl, _, g1', big_line (by rw [List.length_map]; omega), same_put (s23.trans s24) hU2, us2 ++ [r], qs2 ++ [p'], by rw [upd_same, List.map_append]; rfl, Paired.snoc (PasIn.mono g2 ((Tups.of_same s24).trans td)) (td _ _ (s24 _ _ (s23 _ _ hp'))), by rw [List.length_append, List.length_singleton]; omega, fun p hp => ?_⟩
            rcases List.mem_append.mp hp with hp | hp
            · exact g4 p hp
            · rw [List.mem_singleton.mp hp]
              exact ⟨List.mem_of_getElem? ep, hnot p' cc⟩
        rintro H23 ⟨s23, us2, qs2, g1, g2, g3, g4⟩
        rw [List.length_map] at g3
        have hT23 := hT22.same s23
        obtain ⟨dxt3, hti3, _, _⟩ := id hT23
        refine ⟨_, rfl, _, rfl, tr, dxt3, _, rfl, hti3, rfl, tr, sl, x, b, ps, _, n, rfl, hT23, hnl, fun t H24 s24 et => ⟨_, _, _, _, rfl, rfl, sq_of et, at1, _, _, rfl, rfl, two, fun tt htt => ?_⟩⟩
        refine ⟨tt, _, rfl, sq_of upd_same, rfl, _, _, rfl, _, _, rfl, rfl, ?_⟩
        have sE := (s23.trans s24).trans (same_new htt (o := .tup [.ref U2, .int ((left : Int) + (((rnP ins ds ws).seen.length - n : Nat) : Int))]))
        refine ⟨_, _, _, _, _, _, _, _, U2, left + ((rnP ins ds ws).seen.length - n), us2, qs2, rfl, s12.trans (sU.trans sE), (s24.trans (same_new htt)) _ _ g1, g2.mono (.of_same (s24.trans (same_new htt))), by omega, fun hl ws' hw' p hp v => ?_⟩
        have l0 : left = 0 := by omega
        have ln : (rnP ins ds ws).seen.length ≤ n := by omega
        rw [List.take_add_one, ew] at hw'
        rcases List.mem_append.mp hw' with hw' | hw'
        · exact hun l0 ws' hw' p (g4 p hp).1 v
        · have hw' : ws' = ws := List.mem_singleton.mp hw'
          rw [hw']
          have := (g4 p hp).2 v
          rw [List.take_of_length_le ln] at this
          exact this
    · rintro σ H12 ⟨y2, y7, y8, y9, y10, y11, y12, y13, U, left, us, qs, rfl, s12, eU, hqs, hul, hun⟩
      refine ⟨y2, y7, y8, y9, y10, y11, y12, y13, U, left, us, qs, rfl, s911.trans s12, eU, hqs, hul, ?_⟩
      rw [List.length_map, hbl, List.take_length] at hun
      exact hun
end
end Sr
end
section
set_option Elab.async false
set_option linter.all false
set_option maxRecDepth 100000
set_option maxHeartbeats 4000000
/-! the join: the head's facts to the promises; printed by gen_end.py -/
namespace Sr
open PySem PySem.Spec PyProof.Rows L2 SrM SrK
section
variable {P : Program} {w : World} {K : PySem.W.Frag} {h : Heap} {mg : Str → Option Value}
theorem fnG_of {x : Str} {st : Stmt} (X : K.In h) (G : h.Ns mainGlobals mg) (d : He.SaysD fa fn K) (i j : Nat) (h1 : fn[i]? = some ⟨(x, none), x, x, defArgs st, defBody st, defScope st, [], []⟩) (h2 : fa[j]? = some (.glo x)) : FnG K mg x st := by
  obtain ⟨fd, F⟩ := d.def_ i h1
  exact ⟨_, fd, F, He.glo_ok X G (d.fact j h2)⟩
theorem fnM_of {c m q : Str} {st : Stmt} (d : He.SaysD fa fn K) (i j : Nat) (h1 : fn[i]? = some ⟨(c, some m), m, q, defArgs st, defBody st, defScope st, [], []⟩) (h2 : fa[j]? = some (.meth c m)) : FnM K (He.ga K c) m q st := by
  obtain ⟨fd, F⟩ := d.def_ i h1
  exact ⟨_, fd, F, He.meth_ok (d.fact j h2)⟩
theorem mk_of {c q : Str} {st : Stmt} (d : He.SaysD fa fn K) (i j : Nat) (h1 : fn[i]? = some ⟨(c, some "__init__"), "__init__", q, defArgs st, defBody st, defScope st, [], []⟩) (h2 : fa[j]? = some (.mkr c)) : ∃ f fd, FunD K "__init__" q (defArgs st) (defBody st) (defScope st) [] [] f fd ∧ Mk K (He.ga K c) f := by
  obtain ⟨fd, F⟩ := d.def_ i h1
  exact ⟨_, fd, F, He.mkr_ok (d.fact j h2)⟩
theorem join (X : K.In h) (G : h.Ns mainGlobals mg) (c : He.SaysX fa fn [] [] ex w h K) {f : Addr} {fd : FuncData} (Fl : FunD K "law" "law" (defArgs s_law) (defBody s_law) (defScope s_law) [] [] f fd) (base : Heap) : FnOk P w K mg base CX0 31 f fd ["_law_script"] (spLaw K) := by
  have d : He.SaysD fa fn K := c.t.d
  have T : Tx K mg := ⟨He.free_ok X G (d.fact 54 rfl), He.free_ok X G (d.fact 55 rfl), He.free_ok X G (d.fact 56 rfl), He.free_ok X G (d.fact 57 rfl), He.free_ok X G (d.fact 58 rfl), He.free_ok X G (d.fact 59 rfl), He.free_ok X G (d.fact 60 rfl), He.free_ok X G (d.fact 61 rfl), He.free_ok X G (d.fact 62 rfl), He.free_ok X G (d.fact 63 rfl), He.free_ok X G (d.fact 64 rfl), He.free_ok X G (d.fact 65 rfl), He.free_ok X G (d.fact 66 rfl), He.free_ok X G (d.fact 67 rfl), He.free_ok X G (d.fact 68 rfl), He.free_ok X G (d.fact 69 rfl), He.int_ok X G (d.fact 70 rfl), He.int_ok X G (d.fact 71 rfl), He.int_ok X G (d.fact 72 rfl), He.str_ok X G (d.fact 73 rfl), ⟨_, (He.glo_ok X G (d.fact 74 rfl)), fun H => He.tupB_ok c.more H⟩⟩
  have Rc : RunC K (He.ga K "Run") := ⟨He.cls_ok (d.fact 75 rfl), He.noat_ok (d.fact 77 rfl), He.noat_ok (d.fact 78 rfl), He.noat_ok (d.fact 79 rfl), He.noat_ok (d.fact 80 rfl)⟩
  have Tc : TraceC K (He.ga K "Trace") := ⟨He.cls_ok (d.fact 88 rfl), He.noat_ok (d.fact 90 rfl), He.noat_ok (d.fact 91 rfl), He.noat_ok (d.fact 92 rfl), He.noat_ok (d.fact 93 rfl)⟩
  have Wc : WalkC K (He.ga K "Walk") := ⟨He.cls_ok (d.fact 98 rfl), He.noat_ok (d.fact 100 rfl), He.noat_ok (d.fact 101 rfl), He.noat_ok (d.fact 102 rfl)⟩
  have Wf : WalkC K (He.ga K "Finder") := ⟨He.cls_ok (d.fact 109 rfl), He.noat_ok (d.fact 111 rfl), He.noat_ok (d.fact 112 rfl), He.noat_ok (d.fact 113 rfl)⟩
  have h_reckoned := ok_reckoned (P := P) (w := w) (mg := mg) (base := base) T (fnG_of X G d 6 6 rfl rfl)
  have h_joined := ok_joined (P := P) (w := w) (mg := mg) (base := base) T (fnG_of X G d 31 18 rfl rfl)
  have h_met := ok_met (P := P) (w := w) (mg := mg) (base := base) T (fnG_of X G d 32 19 rfl rfl)
  have h_is_within := ok_is_within (P := P) (w := w) (mg := mg) (base := base) h_joined (fnG_of X G d 33 20 rfl rfl)
  have h_without_worth := ok_without_worth (P := P) (w := w) (mg := mg) (base := base) (fnG_of X G d 44 31 rfl rfl)
  have h_by_ends := ok_by_ends (P := P) (w := w) (mg := mg) (base := base) T h_reckoned (fnG_of X G d 34 21 rfl rfl)
  have h_asked := ok_asked (P := P) (w := w) (mg := mg) (base := base) T h_met (fnG_of X G d 36 23 rfl rfl)
  have h_divided := ok_divided (P := P) (w := w) (mg := mg) (base := base) T h_joined h_met h_by_ends (fnG_of X G d 35 22 rfl rfl)
  have h_stretch_of := ok_stretch_of (P := P) (w := w) (mg := mg) (base := base) T h_divided h_asked h_by_ends (fnG_of X G d 37 24 rfl rfl)
  have h_reckoned_from := ok_reckoned_from (P := P) (w := w) (mg := mg) (base := base) T h_met h_stretch_of (fnG_of X G d 43 30 rfl rfl) 3
  have h_kept_to := ok_kept_to (P := P) (w := w) (mg := mg) (base := base) T h_met (fnG_of X G d 45 32 rfl rfl)
  have h_unlike_to := ok_unlike_to (P := P) (w := w) (mg := mg) (base := base) T h_without_worth h_kept_to (fnG_of X G d 46 33 rfl rfl)
  have h_behind := ok_behind (P := P) (w := w) (mg := mg) (base := base) T h_reckoned_from h_kept_to h_unlike_to (fnG_of X G d 47 34 rfl rfl)
  have h_joined_books := ok_joined_books (P := P) (w := w) (mg := mg) (base := base) T h_joined (fnG_of X G d 41 28 rfl rfl)
  have h_is_book_within := ok_is_book_within (P := P) (w := w) (mg := mg) (base := base) T h_is_within (fnG_of X G d 42 29 rfl rfl)
  have h_widened := ok_widened (P := P) (w := w) (mg := mg) (base := base) T (fnG_of X G d 57 35 rfl rfl)
  have h_is_whole := ok_is_whole (P := P) (w := w) (mg := mg) (base := base) T (fnG_of X G d 0 0 rfl rfl)
  have h_is_between := ok_is_between (P := P) (w := w) (mg := mg) (base := base) h_is_whole (fnG_of X G d 1 1 rfl rfl)
  have h_is_name := ok_is_name (P := P) (w := w) (mg := mg) (base := base) T (fnG_of X G d 2 2 rfl rfl)
  have h_is_shelf := ok_is_shelf (P := P) (w := w) (mg := mg) (base := base) T h_is_whole h_is_name (fnG_of X G d 38 25 rfl rfl)
  have h_book_of := ok_book_of (P := P) (w := w) (mg := mg) (base := base) T (fnG_of X G d 39 26 rfl rfl)
  have h_ins_book := ok_ins_book (P := P) (w := w) (mg := mg) (base := base) T (fnG_of X G d 58 36 rfl rfl)
  have h_shelf_of := ok_shelf_of (P := P) (w := w) (mg := mg) (base := base) T (fnG_of X G d 40 27 rfl rfl)
  have m_refuse := ok_refuse (P := P) (w := w) (mg := mg) (base := base) Rc (fnM_of d 8 81 rfl rfl)
  have m_by_zero := ok_by_zero (P := P) (w := w) (mg := mg) (base := base) Rc m_refuse (fnM_of d 10 83 rfl rfl)
  have m_note := ok_note (P := P) (w := w) (mg := mg) (base := base) T Rc m_refuse (fnM_of d 11 84 rfl rfl)
  have m_worth := ok_worth (P := P) (w := w) (mg := mg) (base := base) T Rc h_reckoned m_note m_by_zero (fnM_of d 9 82 rfl rfl) 3
  have m_rblock := ok_runs (P := P) (w := w) (mg := mg) (base := base) T Rc m_refuse m_worth (fnM_of d 14 87 rfl rfl) (fnM_of d 13 86 rfl rfl) (fnM_of d 12 85 rfl rfl) 3
  have h_Run := ok_run_init (P := P) (w := w) (mg := mg) (base := base) Rc (mk_of d 7 76 rfl rfl) (He.glo_ok X G (d.fact 50 rfl))
  have h_first_book := ok_first_book (P := P) (w := w) (mg := mg) (base := base) T h_is_between (fnG_of X G d 15 7 rfl rfl)
  have h_end_of := ok_end_of (P := P) (w := w) (mg := mg) (base := base) T Rc (fnG_of X G d 16 8 rfl rfl)
  have h_run := ok_run (P := P) (w := w) (mg := mg) (base := base) T Rc h_Run h_first_book h_end_of m_rblock (fnG_of X G d 17 9 rfl rfl)
  have h_traced := ok_traced (P := P) (w := w) (mg := mg) (base := base) T Rc h_Run h_first_book m_rblock (fnG_of X G d 18 10 rfl rfl)
  have m_wstretch := ok_stretch (P := P) (w := w) (mg := mg) (base := base) T Wc h_stretch_of h_met (fnM_of d 49 103 rfl rfl) 3
  have m_wblock := ok_walks (P := P) (w := w) (mg := mg) (base := base) (fi := false) T Wc m_wstretch h_behind h_met h_joined_books (fnM_of d 52 106 rfl rfl) (fnM_of d 53 107 rfl rfl) (fnM_of d 51 105 rfl rfl) (fnM_of d 50 104 rfl rfl) (fun n mr => ok_wrounds T Wc n h_is_book_within (fnM_of d 54 108 rfl rfl) mr) 3
  have m_fstretch := ok_stretch (P := P) (w := w) (mg := mg) (base := base) T Wf h_stretch_of h_met (fnM_of d 73 114 rfl rfl) 3
  have m_fblock := ok_walks (P := P) (w := w) (mg := mg) (base := base) (fi := true) T Wf m_fstretch h_behind h_met h_joined_books (fnM_of d 76 117 rfl rfl) (fnM_of d 77 118 rfl rfl) (fnM_of d 75 116 rfl rfl) (fnM_of d 74 115 rfl rfl) (fun n mr => ok_frounds T Wf n h_widened (ok_next_head T Wf n h_joined_books mr (fnM_of d 56 120 rfl rfl)) mr (fnM_of d 55 119 rfl rfl)) 3
  have h_Finder := ok_walk_init (P := P) (w := w) (mg := mg) (base := base) Wf (mk_of d 72 110 rfl rfl) (He.glo_ok X G (d.fact 53 rfl))
  have h_Walk := ok_walk_init (P := P) (w := w) (mg := mg) (base := base) Wc (mk_of d 48 99 rfl rfl) (He.glo_ok X G (d.fact 52 rfl))
  have h_paper_for := ok_paper_for (P := P) (w := w) (mg := mg) (base := base) T Wf h_Finder h_ins_book h_shelf_of m_fblock (fnG_of X G d 59 37 rfl rfl)
  have h_are_heads := ok_are_heads (P := P) (w := w) (mg := mg) (base := base) T h_is_shelf (fnG_of X G d 60 38 rfl rfl)
  have h_walked := ok_walked (P := P) (w := w) (mg := mg) (base := base) T Wc h_Walk h_ins_book h_book_of h_are_heads m_wblock (fnG_of X G d 61 39 rfl rfl)
  have h_shown := ok_shown (P := P) (w := w) (mg := mg) (base := base) T Wc h_walked (fnG_of X G d 62 40 rfl rfl)
  have h_sums_of := ok_sums_of (P := P) (w := w) (mg := mg) (base := base) (fnG_of X G d 3 3 rfl rfl) 3
  have h_spots_in := ok_spots_in (P := P) (w := w) (mg := mg) (base := base) T h_sums_of (fnG_of X G d 4 4 rfl rfl) 3
  have h_spots := ok_spots (P := P) (w := w) (mg := mg) (base := base) h_spots_in (fnG_of X G d 5 5 rfl rfl)
  have h_used_at := ok_used_at (P := P) (w := w) (mg := mg) (base := base) h_spots (fnG_of X G d 26 13 rfl rfl)
  have h_other_name := ok_other_name (P := P) (w := w) (mg := mg) (base := base) (fnG_of X G d 27 14 rfl rfl)
  have h_sum_by := ok_sum_by (P := P) (w := w) (mg := mg) (base := base) h_other_name (fnG_of X G d 28 15 rfl rfl) 3
  have h_block_by := ok_block_by (P := P) (w := w) (mg := mg) (base := base) T h_other_name h_sum_by (fnG_of X G d 29 16 rfl rfl) 3
  have h_exchanged := ok_exchanged (P := P) (w := w) (mg := mg) (base := base) T h_other_name h_block_by (fnG_of X G d 30 17 rfl rfl)
  have h_deeds_of := ok_deeds_of (P := P) (w := w) (mg := mg) (base := base) T (fnG_of X G d 24 11 rfl rfl) 3
  have h_names_in := ok_names_in (P := P) (w := w) (mg := mg) (base := base) T h_deeds_of (fnG_of X G d 25 12 rfl rfl)
  have h_Trace := ok_trace_init (P := P) (w := w) (mg := mg) (base := base) Tc h_traced (mk_of d 19 89 rfl rfl) (He.glo_ok X G (d.fact 51 rfl))
  have m_go := ok_go (P := P) (w := w) (mg := mg) (base := base) T Tc (fnM_of d 20 94 rfl rfl)
  have m_passed := ok_passed (P := P) (w := w) (mg := mg) (base := base) T Tc (fnM_of d 21 95 rfl rfl)
  have m_outcome := ok_outcome (P := P) (w := w) (mg := mg) (base := base) Tc h_run (fnM_of d 23 97 rfl rfl)
  have m_unseen := ok_unseen (P := P) (w := w) (mg := mg) (base := base) T Tc h_spots (fnM_of d 22 96 rfl rfl)
  have h_all_worths := ok_all_worths (P := P) (w := w) (mg := mg) (base := base) T (fnG_of X G d 63 41 rfl rfl)
  have h_exact := ok_exact (P := P) (w := w) (mg := mg) (base := base) T h_all_worths h_traced h_joined (fnG_of X G d 64 42 rfl rfl)
  have h_law_cell := ok_law_cell (P := P) (w := w) (mg := mg) (base := base) T (fnG_of X G d 65 43 rfl rfl)
  have h_law_pick := ok_law_pick (P := P) (w := w) (mg := mg) (base := base) h_law_cell (fnG_of X G d 66 44 rfl rfl)
  have h_law_sum := ok_law_sum (P := P) (w := w) (mg := mg) (base := base) T h_law_pick (fnG_of X G d 67 45 rfl rfl) 3
  have h_law_counted := ok_law_counted (P := P) (w := w) (mg := mg) (base := base) T h_law_pick h_law_sum (fnG_of X G d 68 46 rfl rfl)
  have h_law_block := ok_law_block (P := P) (w := w) (mg := mg) (base := base) T h_law_pick h_law_sum h_law_counted (fnG_of X G d 69 47 rfl rfl) 3
  have h_law_program := ok_law_program (P := P) (w := w) (mg := mg) (base := base) T h_law_pick h_law_block (fnG_of X G d 70 48 rfl rfl)
  exact ok_law T Tc h_law_program h_shown h_paper_for h_exchanged h_spots h_all_worths h_Trace m_go m_passed m_outcome m_unseen h_run h_exact h_names_in h_used_at Fl
end
theorem facts {P : Program} {w : World} {K : PySem.W.Frag} {h : Heap} {mg : Str → Option Value} {f : Addr} (X : K.In h) (G : h.Ns mainGlobals mg) (hfa : mg ("law" : Str) = some (.ref f)) (c : He.SaysX fa fn [] [] ex w h K) :
    ∃ fd : FuncData, (∀ (s : Shared) (v : Value), BindsTo s fd ⟨[v], []⟩ [("_law_script", v)]) ∧ ∀ base : Heap, K.In base → base.Ns mainGlobals mg → FnOk P w K mg base CX0 31 f fd ["_law_script"] (spLaw K) := by
  have d : He.SaysD fa fn K := c.t.d
  obtain ⟨fd, F⟩ := d.def_ 71 (d := d_law) rfl
  have e := hfa.symm.trans (He.glo_ok X G (d.fact 49 rfl))
  cases e
  have b := FunD.bindsA (ps := ["_law_script"]) F fun _ _ _ _ _ _ us hl => match us, hl with | [_], _ => rfl
  exact ⟨fd, fun s v => b s [v] rfl, fun base _ _ => join X G c F base⟩
end Sr
end
set_option Elab.async false
set_option linter.all false
set_option maxRecDepth 100000
set_option maxHeartbeats 0
open PySem PySem.W PySem.Calls PyProof.Rows
theorem PySem.Challenge.cw_smallrooms_k83_whole_traces_and_stretche_holds : PySem.Challenge.rw_smallrooms_k83_whole_traces_and_stretche.Holds := by
  w_on; o_law
  refine HandSHeadRun.head_any (r := Sr.R) (q := view Sr.R.prog [73]) (H := Sr.hk) (ob := Sr.ob) (M := 30000) (loose := Sr.loose) (d := HandSHeadRun.topDef Sr.R.prog 73) (kwd := []) Sr.ob_eq
    (by kernel_rfl) (fun s => by kernel_rfl) Sr.run (by kernel_rfl) (by kernel_rfl) (by kernel_rfl) (by rfl) (by first | assumption | decide +kernel) (by decide +kernel) ⟨rfl, rfl, rfl, rfl, rfl, by decide +kernel⟩ ?hw ?hc
  case hw => w_witness2
  case hc =>
    refine L2.walk_ofE (l := PySem.Challenge.rw_smallrooms_k83_whole_traces_and_stretche) (n := 63) (k := 31) (x := "_law_script") (CX := L2.CX0) rfl (by decide) (by kernel_rfl) ⟨rfl, by decide, by decide⟩ ?F (fun _ _ _ _ z => z)
    intro w mg fa h Y G hmg0
    obtain ⟨K, KX, c⟩ := Y
    have hmg : mg ("law" : PySem.Str) = some (.ref fa) := by
      have e : (HandSHeadRun.topDef Sr.R.prog 73).name = ("law" : PySem.Str) := by kernel_rfl
      rw [← e]
      exact hmg0
    obtain ⟨fd, hb, hF⟩ := Sr.facts (P := (PySem.Challenge.rw_smallrooms_k83_whole_traces_and_stretche).prog) (w := w) KX G hmg c
    exact ⟨K, fd, Sr.spLaw K, KX, hb, fun H a ns hl _ hS => ⟨a, ns, rfl, hS, fun _ => rfl⟩, hF⟩
