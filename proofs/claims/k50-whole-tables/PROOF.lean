import PyProof.Rows.All
import Wide.All
import OpenK.AllK
import Wide.FinOn
import HandS.Defaults
import HandS.Words
import HandS.Steps
import HandS.Head0
import HandS.Head1
import HandS.Head2
import HandS.HeadEnd
import HandS.HeadHook1
import HandS.HeadHook2
import HandS.HeadHook3
import HandS.HeadHook4
import HandS.HeadWalk
import PySem.Challenge.RW_flatrounds_k50_whole_tables_known_by_han
import HandS.ForMost
import HandS.Walk
import HandS.Nested
import HandS.Codes
import HandS.Strs
import HandS.TupAny
import HandS.TupMul
import HandS.Zip
import HandS.DictComp
import HandS.IsInst
import HandS.Conv
import HandS.Zip0
import HandS.IterVal
import PyProof.ZipIter
import PyProof.EnumMake
import PyProof.Rows.SetFrom
import PyProof.TupleOfGen
import KE.KDictList
import KE.KDictZip
set_option Elab.async false
set_option linter.all false
set_option maxRecDepth 100000
set_option maxHeartbeats 0
noncomputable section
namespace Z
open PySem PySem.Spec PyProof.Rows L2
def topS (i : Nat) : Stmt := PySem.Challenge.pw_flatrounds_k50_whole_tables_known_by_han.main.body.getD i (.Pass ⟨0, 0, 0, 0⟩)
def hd0 : He.DefD := ⟨("is_integer", none), "is_integer", "is_integer", defArgs (topS 6), defBody (topS 6), defScope (topS 6), [], []⟩
def hd1 : He.DefD := ⟨("is_number", none), "is_number", "is_number", defArgs (topS 7), defBody (topS 7), defScope (topS 7), [], []⟩
def hd2 : He.DefD := ⟨("is_name", none), "is_name", "is_name", defArgs (topS 8), defBody (topS 8), defScope (topS 8), [], []⟩
def hd3 : He.DefD := ⟨("are_names", none), "are_names", "are_names", defArgs (topS 9), defBody (topS 9), defScope (topS 9), [], []⟩
def hd4 : He.DefD := ⟨("are_numbers", none), "are_numbers", "are_numbers", defArgs (topS 10), defBody (topS 10), defScope (topS 10), [], []⟩
def hd5 : He.DefD := ⟨("common_divisor", none), "common_divisor", "common_divisor", defArgs (topS 11), defBody (topS 11), defScope (topS 11), [], []⟩
def hd6 : He.DefD := ⟨("common_multiple", none), "common_multiple", "common_multiple", defArgs (topS 12), defBody (topS 12), defScope (topS 12), [], []⟩
def hd7 : He.DefD := ⟨("divided_up", none), "divided_up", "divided_up", defArgs (topS 13), defBody (topS 13), defScope (topS 13), [], []⟩
def hd8 : He.DefD := ⟨("is_deed", none), "is_deed", "is_deed", defArgs (topS 16), defBody (topS 16), defScope (topS 16), [], []⟩
def hd9 : He.DefD := ⟨("is_round", none), "is_round", "is_round", defArgs (topS 17), defBody (topS 17), defScope (topS 17), [], []⟩
def hd10 : He.DefD := ⟨("wrong_place", none), "wrong_place", "wrong_place", defArgs (topS 18), defBody (topS 18), defScope (topS 18), [], []⟩
def hd11 : He.DefD := ⟨("size_of", none), "size_of", "size_of", defArgs (topS 19), defBody (topS 19), defScope (topS 19), [], []⟩
def hd12 : He.DefD := ⟨("deeds_in", none), "deeds_in", "deeds_in", defArgs (topS 21), defBody (topS 21), defScope (topS 21), [], []⟩
def hd13 : He.DefD := ⟨("names_of", none), "names_of", "names_of", defArgs (topS 22), defBody (topS 22), defScope (topS 22), [], []⟩
def hd14 : He.DefD := ⟨("names", none), "names", "names", defArgs (topS 23), defBody (topS 23), defScope (topS 23), [], []⟩
def hd15 : He.DefD := ⟨("raw_push", none), "raw_push", "raw_push", defArgs (topS 25), defBody (topS 25), defScope (topS 25), [], []⟩
def hd16 : He.DefD := ⟨("source_number", none), "source_number", "source_number", defArgs (topS 26), defBody (topS 26), defScope (topS 26), [], []⟩
def hd17 : He.DefD := ⟨("raw_pushed", none), "raw_pushed", "raw_pushed", defArgs (topS 27), defBody (topS 27), defScope (topS 27), [], []⟩
def hd18 : He.DefD := ⟨("raw_after", none), "raw_after", "raw_after", defArgs (topS 28), defBody (topS 28), defScope (topS 28), [], []⟩
def hd19 : He.DefD := ⟨("raw_way", none), "raw_way", "raw_way", defArgs (topS 29), defBody (topS 29), defScope (topS 29), [], []⟩
def hd20 : He.DefD := ⟨("raw_gain", none), "raw_gain", "raw_gain", defArgs (topS 30), defBody (topS 30), defScope (topS 30), [], []⟩
def hd21 : He.DefD := ⟨("raw_tail", none), "raw_tail", "raw_tail", defArgs (topS 31), defBody (topS 31), defScope (topS 31), [], []⟩
def hd22 : He.DefD := ⟨("raw_turn", none), "raw_turn", "raw_turn", defArgs (topS 32), defBody (topS 32), defScope (topS 32), [], []⟩
def hd23 : He.DefD := ⟨("are_bounds", none), "are_bounds", "are_bounds", defArgs (topS 38), defBody (topS 38), defScope (topS 38), [], []⟩
def hd24 : He.DefD := ⟨("are_measures", none), "are_measures", "are_measures", defArgs (topS 39), defBody (topS 39), defScope (topS 39), [], []⟩
def hd25 : He.DefD := ⟨("many_cells", none), "many_cells", "many_cells", defArgs (topS 40), defBody (topS 40), defScope (topS 40), [], []⟩
def hd26 : He.DefD := ⟨("cells_of", none), "cells_of", "cells_of", defArgs (topS 41), defBody (topS 41), defScope (topS 41), [], []⟩
def hd27 : He.DefD := ⟨("is_great", none), "is_great", "is_great", defArgs (topS 42), defBody (topS 42), defScope (topS 42), [], []⟩
def hd28 : He.DefD := ⟨("is_form", none), "is_form", "is_form", defArgs (topS 43), defBody (topS 43), defScope (topS 43), [], []⟩
def hd29 : He.DefD := ⟨("is_row", none), "is_row", "is_row", defArgs (topS 44), defBody (topS 44), defScope (topS 44), [], []⟩
def hd30 : He.DefD := ⟨("raw_cell", none), "raw_cell", "raw_cell", defArgs (topS 47), defBody (topS 47), defScope (topS 47), [], []⟩
def hd31 : He.DefD := ⟨("place_of", none), "place_of", "place_of", defArgs (topS 48), defBody (topS 48), defScope (topS 48), [], []⟩
def hd32 : He.DefD := ⟨("raw_row", none), "raw_row", "raw_row", defArgs (topS 49), defBody (topS 49), defScope (topS 49), [], []⟩
def hd33 : He.DefD := ⟨("form_value", none), "form_value", "form_value", defArgs (topS 50), defBody (topS 50), defScope (topS 50), [], []⟩
def hd34 : He.DefD := ⟨("raw_value", none), "raw_value", "raw_value", defArgs (topS 51), defBody (topS 51), defScope (topS 51), [], []⟩
def hd35 : He.DefD := ⟨("raised", none), "raised", "raised", defArgs (topS 52), defBody (topS 52), defScope (topS 52), [], []⟩
def hd36 : He.DefD := ⟨("row_by", none), "row_by", "row_by", defArgs (topS 53), defBody (topS 53), defScope (topS 53), [], []⟩
def hd37 : He.DefD := ⟨("made_by", none), "made_by", "made_by", defArgs (topS 54), defBody (topS 54), defScope (topS 54), [], []⟩
def hd38 : He.DefD := ⟨("checked", none), "checked", "checked", defArgs (topS 55), defBody (topS 55), defScope (topS 55), [], []⟩
def hd39 : He.DefD := ⟨("raw_stretched", none), "raw_stretched", "raw_stretched", defArgs (topS 56), defBody (topS 56), defScope (topS 56), [], []⟩
def hd40 : He.DefD := ⟨("line_of", none), "line_of", "line_of", defArgs (topS 57), defBody (topS 57), defScope (topS 57), [], []⟩
def hd41 : He.DefD := ⟨("side_inputs", none), "side_inputs", "side_inputs", defArgs (topS 58), defBody (topS 58), defScope (topS 58), [], []⟩
def hd42 : He.DefD := ⟨("goes_evenly", none), "goes_evenly", "goes_evenly", defArgs (topS 59), defBody (topS 59), defScope (topS 59), [], []⟩
def hd43 : He.DefD := ⟨("is_enough", none), "is_enough", "is_enough", defArgs (topS 60), defBody (topS 60), defScope (topS 60), [], []⟩
def hd44 : He.DefD := ⟨("least_of", none), "least_of", "least_of", defArgs (topS 61), defBody (topS 61), defScope (topS 61), [], []⟩
def hd45 : He.DefD := ⟨("raw_least", none), "raw_least", "raw_least", defArgs (topS 62), defBody (topS 62), defScope (topS 62), [], []⟩
def hd46 : He.DefD := ⟨("first_table", none), "first_table", "first_table", defArgs (topS 64), defBody (topS 64), defScope (topS 64), [], []⟩
def hd47 : He.DefD := ⟨("form_pushed", none), "form_pushed", "form_pushed", defArgs (topS 65), defBody (topS 65), defScope (topS 65), [], []⟩
def hd48 : He.DefD := ⟨("row_pushed", none), "row_pushed", "row_pushed", defArgs (topS 66), defBody (topS 66), defScope (topS 66), [], []⟩
def hd49 : He.DefD := ⟨("finer", none), "finer", "finer", defArgs (topS 67), defBody (topS 67), defScope (topS 67), [], []⟩
def hd50 : He.DefD := ⟨("rounds_done", none), "rounds_done", "rounds_done", defArgs (topS 68), defBody (topS 68), defScope (topS 68), [], []⟩
def hd51 : He.DefD := ⟨("table_behind", none), "table_behind", "table_behind", defArgs (topS 69), defBody (topS 69), defScope (topS 69), [], []⟩
def hd52 : He.DefD := ⟨("ahead_tables", none), "ahead_tables", "ahead_tables", defArgs (topS 70), defBody (topS 70), defScope (topS 70), [], []⟩
def hd53 : He.DefD := ⟨("with_results", none), "with_results", "with_results", defArgs (topS 71), defBody (topS 71), defScope (topS 71), [], []⟩
def hd54 : He.DefD := ⟨("raw_table", none), "raw_table", "raw_table", defArgs (topS 72), defBody (topS 72), defScope (topS 72), [], []⟩
def hd55 : He.DefD := ⟨("table_of", none), "table_of", "table_of", defArgs (topS 73), defBody (topS 73), defScope (topS 73), [], []⟩
def hd56 : He.DefD := ⟨("_law_hand", none), "_law_hand", "_law_hand", defArgs (topS 75), defBody (topS 75), defScope (topS 75), [], []⟩
def hd57 : He.DefD := ⟨("_law_draw", none), "_law_draw", "_law_draw", defArgs (topS 76), defBody (topS 76), defScope (topS 76), [], []⟩
def hd58 : He.DefD := ⟨("_law_is", none), "_law_is", "_law_is", defArgs (topS 77), defBody (topS 77), defScope (topS 77), [], []⟩
def hd59 : He.DefD := ⟨("_law_is_told", none), "_law_is_told", "_law_is_told", defArgs (topS 78), defBody (topS 78), defScope (topS 78), [], []⟩
def hd60 : He.DefD := ⟨("_law_wheel_right", none), "_law_wheel_right", "_law_wheel_right", defArgs (topS 79), defBody (topS 79), defScope (topS 79), [], []⟩
def hd61 : He.DefD := ⟨("_law_chain_right", none), "_law_chain_right", "_law_chain_right", defArgs (topS 80), defBody (topS 80), defScope (topS 80), [], []⟩
def hd62 : He.DefD := ⟨("_law_sums_right", none), "_law_sums_right", "_law_sums_right", defArgs (topS 81), defBody (topS 81), defScope (topS 81), [], []⟩
def hd63 : He.DefD := ⟨("_law_tests_right", none), "_law_tests_right", "_law_tests_right", defArgs (topS 82), defBody (topS 82), defScope (topS 82), [], []⟩
def hd64 : He.DefD := ⟨("law", none), "law", "law", defArgs (topS 83), defBody (topS 83), defScope (topS 83), [], []⟩
def hd65 : He.DefD := ⟨("RawTable", some "__init__"), "__init__", "RawTable.__init__", defArgs (inClass (topS 46) 0), defBody (inClass (topS 46) 0), defScope (inClass (topS 46) 0), [], []⟩
def hd66 : He.DefD := ⟨("Program", some "__init__"), "__init__", "Program.__init__", defArgs (inClass (topS 20) 0), defBody (inClass (topS 20) 0), defScope (inClass (topS 20) 0), [], []⟩
def hd67 : He.DefD := ⟨("Repeated", some "__init__"), "__init__", "Repeated.__init__", defArgs (inClass (topS 33) 0), defBody (inClass (topS 33) 0), defScope (inClass (topS 33) 0), [], []⟩
def hd68 : He.DefD := ⟨("RawTable", some "keep"), "keep", "Table.keep", defArgs (inClass (topS 45) 1), defBody (inClass (topS 45) 1), defScope (inClass (topS 45) 1), [], []⟩
def hd69 : He.DefD := ⟨("Repeated", some "grown"), "grown", "Repeated.grown", defArgs (inClass (topS 33) 1), defBody (inClass (topS 33) 1), defScope (inClass (topS 33) 1), [], []⟩
def hd70 : He.DefD := ⟨("Repeated", some "power"), "power", "Repeated.power", defArgs (inClass (topS 33) 2), defBody (inClass (topS 33) 2), defScope (inClass (topS 33) 2), [], []⟩
def hd71 : He.DefD := ⟨("Repeated", some "behind"), "behind", "Repeated.behind", defArgs (inClass (topS 33) 3), defBody (inClass (topS 33) 3), defScope (inClass (topS 33) 3), [], []⟩
def hfn0 : List He.DefD := [hd0, hd1, hd2, hd3, hd4, hd5, hd6, hd7, hd8, hd9, hd10, hd11, hd12, hd13, hd14, hd15, hd16, hd17, hd18, hd19, hd20, hd21, hd22, hd23, hd24, hd25, hd26, hd27, hd28, hd29]
def hfn1 : List He.DefD := [hd30, hd31, hd32, hd33, hd34, hd35, hd36, hd37, hd38, hd39, hd40, hd41, hd42, hd43, hd44, hd45, hd46, hd47, hd48, hd49, hd50, hd51, hd52, hd53, hd54, hd55, hd56, hd57, hd58, hd59]
def hfn2 : List He.DefD := [hd60, hd61, hd62, hd63, hd64, hd65, hd66, hd67, hd68, hd69, hd70, hd71]
def hfn : List He.DefD := hfn0 ++ hfn1 ++ hfn2
def hfa0 : List He.Fa := [.free "isinstance", .free "len", .free "all", .free "sum", .free "max", .free "abs", .free "int", .free "tuple", .free "list", .free "str", .free "dict", .free "bool", .free "set", .free "sorted", .free "zip", .free "enumerate", .free "range", .free "super", .int "MOST_STATEMENTS" 5000, .int "MOST_CELLS" 1000, .glo "is_integer", .glo "is_number", .glo "is_name", .glo "are_names", .glo "are_numbers", .glo "common_divisor", .glo "common_multiple", .glo "divided_up", .glo "is_deed", .glo "is_round"]
def hfa1 : List He.Fa := [.glo "wrong_place", .glo "size_of", .glo "deeds_in", .glo "names_of", .glo "names", .glo "raw_push", .glo "source_number", .glo "raw_pushed", .glo "raw_after", .glo "raw_way", .glo "raw_gain", .glo "raw_tail", .glo "raw_turn", .glo "are_bounds", .glo "are_measures", .glo "many_cells", .glo "cells_of", .glo "is_great", .glo "is_form", .glo "is_row", .glo "raw_cell", .glo "place_of", .glo "raw_row", .glo "form_value", .glo "raw_value", .glo "raised", .glo "row_by", .glo "made_by", .glo "checked", .glo "raw_stretched"]
def hfa2 : List He.Fa := [.glo "line_of", .glo "side_inputs", .glo "goes_evenly", .glo "is_enough", .glo "least_of", .glo "raw_least", .glo "first_table", .glo "form_pushed", .glo "row_pushed", .glo "finer", .glo "rounds_done", .glo "table_behind", .glo "ahead_tables", .glo "with_results", .glo "raw_table", .glo "table_of", .glo "_law_hand", .glo "_law_draw", .glo "_law_is", .glo "_law_is_told", .glo "_law_wheel_right", .glo "_law_chain_right", .glo "_law_sums_right", .glo "_law_tests_right", .glo "law", .cls "Program", .noat "Program" "given", .noat "Program" "told", .noat "Program" "block", .cls "RawTable"]
def hfa3 : List He.Fa := [.noat "RawTable" "bounds", .noat "RawTable" "measures", .noat "RawTable" "rows", .cls "Repeated", .noat "Repeated" "push", .noat "Repeated" "tail", .noat "Repeated" "turn", .noat "Repeated" "growth", .noat "Repeated" "powers", .mkr "RawTable", .glo "RawTable", .mkr "Program", .glo "Program", .mkr "Repeated", .glo "Repeated", .meth "RawTable" "keep", .meth "Repeated" "grown", .meth "Repeated" "power", .meth "Repeated" "behind"]
def hfa : List He.Fa := hfa0 ++ hfa1 ++ hfa2 ++ hfa3
def loose0 : List Str := ["RoundError", "BadProgram", "TooMany", "BadTable", "is_integer", "is_number", "is_name", "are_names", "are_numbers", "common_divisor", "common_multiple", "divided_up", "MOST_STATEMENTS", "is_deed", "is_round", "wrong_place", "size_of", "Program", "deeds_in", "names_of", "names", "raw_push", "source_number", "raw_pushed", "raw_after", "raw_way", "raw_gain", "raw_tail", "raw_turn", "Repeated"]
def loose1 : List Str := ["MOST_CELLS", "MOST_FORMS", "MOST_NUMBERS", "are_bounds", "are_measures", "many_cells", "cells_of", "is_great", "is_form", "is_row", "Table", "RawTable", "raw_cell", "place_of", "raw_row", "form_value", "raw_value", "raised", "row_by", "made_by", "checked", "raw_stretched", "line_of", "side_inputs", "goes_evenly", "is_enough", "least_of", "raw_least", "first_table", "form_pushed"]
def loose2 : List Str := ["row_pushed", "finer", "rounds_done", "table_behind", "ahead_tables", "with_results", "raw_table", "table_of", "_law_hand", "_law_draw", "_law_is", "_law_is_told", "_law_wheel_right", "_law_chain_right", "_law_sums_right", "_law_tests_right"]
def loose : List Str := loose0 ++ loose1 ++ loose2
def htf : List He.Defn := [("raw_stretched", none), ("rounds_done", none)]
def hex (K : PySem.W.Frag) : Bool := !decide ((He.cT K ("raw_stretched", none)).2 = (He.cT K ("rounds_done", none)).2)
abbrev RR : PySem.W.OpenRow := PySem.W.OpenLaw.row PySem.Challenge.rw_flatrounds_k50_whole_tables_known_by_han
abbrev hk : PySem.W.Hook := He.hookX 4 hfa hfn [] htf hex
def hob (s : PySem.W.SharedT) : He.AlX := He.obsX 4 hfa hfn [] htf hex (HandSHeadRun.getT s)
theorem hob_eq (s : PySem.W.SharedT) : hob s = hk.obs s.abs := He.obsX_eq (HandSHeadRun.getT_eq s)
theorem hrun (w : World) : HandSHeadRun.RunEq RR (PySem.W.view RR.prog [83]) hk hob 20000 loose w := by
  intro os
  kernel_rfl
end Z

namespace Z
open PySem

inductive D where
  | non | bl (b : Bool) | int (i : Int) | str (s : Str)
  | tup (ds : List D) | lst (ds : List D) | dct (ks : List Str) (ds : List D)
  /-- a tuple of which it is known that it has no dict -/
  | ptup (ds : List D)
  | ins (c : Nat) (fn : List Str) (ds : List D) | ref (a : Nat)

def ob {α β : Type} (m : Option α) (f : α → Option β) : Option β := @Option.rec α (fun _ => Option β) none f m
def o2 {α β γ : Type} (f : α → β → Option γ) (m : Option α) (n : Option β) : Option γ := @Option.rec α (fun _ => Option γ) none (fun x => @Option.rec β (fun _ => Option γ) none (fun y => f x y) n) m
def oif {α : Type} (m : Option Bool) (x y : Option α) : Option α := @Option.rec Bool (fun _ => Option α) none (fun b => @Bool.rec (fun _ => Option α) y x b) m
theorem ob_some {α β : Type} {m : Option α} {f : α → Option β} {b : β} (h : ob m f = some b) : ∃ a, m = some a ∧ f a = some b := by
  cases m with
  | none => cases h
  | some a => exact ⟨a, rfl, h⟩
theorem o2_some {α β γ : Type} {f : α → β → Option γ} {m : Option α} {n : Option β} {c : γ} (h : o2 f m n = some c) : ∃ a b, m = some a ∧ n = some b ∧ f a b = some c := by
  obtain ⟨a, ha, h⟩ := ob_some h
  obtain ⟨b, hb, h⟩ := ob_some h
  exact ⟨a, b, ha, hb, h⟩
theorem oif_some {α : Type} {m : Option Bool} {x y : Option α} {a : α} (h : oif m x y = some a) : ∃ b, m = some b ∧ (b = true → x = some a) ∧ (b = false → y = some a) := by
  cases m with
  | none => cases h
  | some b =>
    refine ⟨b, rfl, fun e => ?_, fun e => ?_⟩
    · subst e; exact h
    · subst e; exact h
def ock {α : Type} (b : Bool) (x : Option α) : Option α := @Bool.rec (fun _ => Option α) none x b
theorem ock_some {α : Type} {b : Bool} {x : Option α} {a : α} (h : ock b x = some a) : b = true ∧ x = some a := by
  cases b with
  | true => exact ⟨rfl, h⟩
  | false => cases h

def mapO {α β : Type} (f : α → Option β) (l : List α) : Option (List β) := @List.rec α (fun _ => Option (List β)) (some []) (fun x _ ih => @Option.rec β (fun _ => Option (List β)) none (fun y => @Option.rec (List β) (fun _ => Option (List β)) none (fun ys => some (y :: ys)) ih) (f x)) l
def foldO {α β : Type} (f : α → β → Option α) (a : α) (l : List β) : Option α := @List.rec β (fun _ => α → Option α) (fun a => some a) (fun x _ ih a => @Option.rec α (fun _ => Option α) none ih (f a x)) l a
def whileO {α : Type} (c : α → Option Bool) (f : α → Option α) : Nat → α → Option α
  | 0, _ => none
  | n + 1, a => match c a with
    | none => none
    | some false => some a
    | some true => ob (f a) fun a' => whileO c f n a'
/-- the place of the index i in n items -/
def ixP (n : Nat) (i : Int) : Option Nat := if 0 ≤ i then (if i < n then some i.toNat else none) else if -(n : Int) ≤ i then some (i + n).toNat else none
def nthR {α : Type} (xs : List α) (k : Nat) : Option α := @List.rec α (fun _ => Nat → Option α) (fun _ => none) (fun x _ ih n => @Nat.rec (fun _ => Option α) (some x) (fun m _ => ih m) n) xs k
theorem nthR_eq {α : Type} : ∀ (xs : List α) (k : Nat), nthR xs k = xs[k]?
  | [], k => by simp [nthR]
  | x :: xs, 0 => rfl
  | x :: xs, k + 1 => by
    rw [List.getElem?_cons_succ, ← nthR_eq xs k]
    rfl
def getO {α : Type} (xs : List α) (i : Int) : Option α := @Int.rec (fun _ => Option α) (fun k => nthR xs k) (fun k => ob (ixP xs.length (.negSucc k)) fun j => nthR xs j) i
theorem getO_eq {α : Type} {xs : List α} {i : Int} {d : α} (h : getO xs i = some d) : ob (ixP xs.length i) (fun j => xs[j]?) = some d := by
  cases i with
  | ofNat k =>
    have h : nthR xs k = some d := h
    rw [nthR_eq] at h
    have hk := (List.getElem?_eq_some_iff.mp h).1
    have e : ixP xs.length (Int.ofNat k) = some k := by
      unfold ixP
      simp only [Int.ofNat_eq_natCast]
      rw [if_pos (Int.natCast_nonneg k), if_pos (show ((k : Nat) : Int) < ((xs.length : Nat) : Int) by omega)]
      rfl
    rw [e]
    exact h
  | negSucc k =>
    obtain ⟨j, e1, e2⟩ := ob_some (show ob (ixP xs.length (.negSucc k)) (fun j => nthR xs j) = some d from h)
    rw [nthR_eq] at e2
    rw [e1]
    exact e2
def iltB (i j : Int) : Bool := @Int.rec (fun _ => Bool) (fun a => @Int.rec (fun _ => Bool) (fun b => Nat.blt a b) (fun _ => false) j) (fun a => @Int.rec (fun _ => Bool) (fun _ => true) (fun b => Nat.blt b a) j) i
def ileB (i j : Int) : Bool := @Int.rec (fun _ => Bool) (fun a => @Int.rec (fun _ => Bool) (fun b => Nat.ble a b) (fun _ => false) j) (fun a => @Int.rec (fun _ => Bool) (fun _ => true) (fun b => Nat.ble b a) j) i
theorem iltB_eq (i j : Int) : iltB i j = decide (i < j) := by
  rw [Bool.eq_iff_iff, decide_eq_true_iff]
  cases i with
  | ofNat a => cases j with
    | ofNat b =>
      show Nat.blt a b = true ↔ _
      rw [Nat.blt_eq]
      simp only [Int.ofNat_eq_natCast]
      omega
    | negSucc b => exact ⟨fun h => (by cases h), fun h => (by simp only [Int.ofNat_eq_natCast, Int.negSucc_eq] at h; omega)⟩
  | negSucc a => cases j with
    | ofNat b => exact ⟨fun _ => (by simp only [Int.ofNat_eq_natCast, Int.negSucc_eq]; omega), fun _ => rfl⟩
    | negSucc b =>
      show Nat.blt b a = true ↔ _
      rw [Nat.blt_eq]
      simp only [Int.negSucc_eq]
      omega
theorem ileB_eq (i j : Int) : ileB i j = decide (i ≤ j) := by
  rw [Bool.eq_iff_iff, decide_eq_true_iff]
  cases i with
  | ofNat a => cases j with
    | ofNat b =>
      show Nat.ble a b = true ↔ _
      rw [Nat.ble_eq]
      simp only [Int.ofNat_eq_natCast]
      omega
    | negSucc b => exact ⟨fun h => (by cases h), fun h => (by simp only [Int.ofNat_eq_natCast, Int.negSucc_eq] at h; omega)⟩
  | negSucc a => cases j with
    | ofNat b => exact ⟨fun _ => (by simp only [Int.ofNat_eq_natCast, Int.negSucc_eq]; omega), fun _ => rfl⟩
    | negSucc b =>
      show Nat.ble b a = true ↔ _
      rw [Nat.ble_eq]
      simp only [Int.negSucc_eq]
      omega
/-- a slice's end -/
def sx (n d : Nat) : Option Int → Nat
  | none => d
  | some i => if i < 0 then (i + n).toNat else min i.toNat n
def cutO {α : Type} (xs : List α) (lo hi : Option Int) : List α := (xs.drop (sx xs.length 0 lo)).take (sx xs.length xs.length hi - sx xs.length 0 lo)

def lookZ {α : Type} : List Str → List α → Str → Option α
  | k :: ks, x :: xs, j => match decide (k = j) with
    | true => some x
    | false => lookZ ks xs j
  | _, _, _ => none
/-- in its place, or at the end -/
def putZ {α : Type} : List Str → List α → Str → α → List α
  | k :: ks, x :: xs, j, y => match decide (k = j) with
    | true => y :: xs
    | false => x :: putZ ks xs j y
  | _, xs, _, y => xs ++ [y]
def keyZ (ks : List Str) (j : Str) : List Str := match ks.any fun k => decide (k = j) with
  | true => ks
  | false => ks ++ [j]

def big64 : Int := 18446744073709551616
def mulOk (i j : Int) : Bool := (iltB (-18446744073709551616) i && iltB i 18446744073709551616) || (iltB (-18446744073709551616) j && iltB j 18446744073709551616)
def small : Nat := 100000
def dadd : D → D → Option D
  | .int i, .int j => some (.int (i + j))
  | .tup a, .tup b => ock (Nat.ble (a.length + b.length) small) (some (.tup (a ++ b)))
  | .lst a, .lst b => ock (Nat.ble (a.length + b.length) small) (some (.lst (a ++ b)))
  | _, _ => none
def dsub : D → D → Option D
  | .int i, .int j => some (.int (i - j))
  | _, _ => none
/-- a tuple times a number -/
def repD (ds : List D) : Nat → List D
  | 0 => []
  | n + 1 => ds ++ repD ds n
def dmul : D → D → Option D
  | .int i, .int j => ock (mulOk i j) (some (.int (i * j)))
  | .tup ds, .int k => ock (!ds.isEmpty && decide (0 ≤ k) && decide (k ≤ 1000) && Nat.ble ds.length 1000) (some (.tup (repD ds k.toNat)))
  | _, _ => none
def dfdiv : D → D → Option D
  | .int i, .int j => ock (decide (j ≠ 0) && Nat.blt j.natAbs 1073741824) (some (.int (i.fdiv j)))
  | _, _ => none
def dmod : D → D → Option D
  | .int i, .int j => ock (decide (j ≠ 0)) (some (.int (i.fmod j)))
  | _, _ => none
def dpow : D → D → Option D
  | .int i, .int j => ock (decide (0 ≤ j) && decide (j ≤ 1000000) && Nat.blt i.natAbs 18446744073709551616) (some (.int (i ^ j.toNat)))
  | _, _ => none
def dneg : D → Option D
  | .int i => some (.int (-i))
  | _ => none

mutual
def deqB : D → D → Option Bool
  | .int i, .int j => some (decide (i = j))
  | .str i, .str j => some (decide (i = j))
  | .bl i, .bl j => some (i == j)
  | .tup a, .tup b => deqL a b
  | _, _ => none
def deqL : List D → List D → Option Bool
  | [], [] => some true
  | x :: xs, y :: ys => ob (deqB x y) fun p => ob (deqL xs ys) fun q => some (p && q)
  | [], _ :: _ => none
  | _ :: _, [] => none
end
/-- scalars alone -/
def deqS : D → D → Option Bool
  | .int i, .int j => some (decide (i = j))
  | .str i, .str j => some (decide (i = j))
  | .bl i, .bl j => some (i == j)
  | _, _ => none
def obl (m : Option Bool) : Option D := ob m fun b => some (.bl b)
def asB : D → Option Bool
  | .bl b => some b
  | _ => none
def dlt : D → D → Option Bool
  | .int i, .int j => some (iltB i j)
  | _, _ => none
def dle : D → D → Option Bool
  | .int i, .int j => some (ileB i j)
  | .str i, .str j => some (!decide (j.cps.toList < i.cps.toList))
  | _, _ => none
/-- numbers, tuples of such, at most so deep -/
def shB : Nat → D → Bool
  | _, .int _ => true
  | n + 1, .tup ds => ds.all (shB n)
  | _, _ => false
def deqD (x y : D) : Option D := match deqS x y with
  | some b => some (.bl b)
  | none => ock (shB 3 x && shB 3 y) (obl (deqB x y))
def dneD (x y : D) : Option D := ob (deqS x y) fun b => some (.bl (!b))
def dltD (x y : D) : Option D := obl (dlt x y)
def dleD (x y : D) : Option D := obl (dle x y)
def dgtD (x y : D) : Option D := obl (dlt y x)
def dgeD (x y : D) : Option D := match x, y with
  | .int i, .int j => some (.bl (ileB j i))
  | _, _ => none
def dtest (m : Option D) : Option Bool := ob m asB
def dnotV (d : D) : Option D := ob (asB d) fun b => some (.bl (!b))
/-- a < b < c -/
def dchain (f f' : D → D → Option D) (ma mb mc : Option D) : Option D := ob ma fun a => ob mb fun b => ob (dtest (f a b)) fun p => match p with
  | true => ob mc fun c => f' b c
  | false => some (.bl false)
def dtupD (ds : List D) : Option D := ock (Nat.ble ds.length small) (some (.tup ds))
def dlstD (ds : List D) : Option D := ock (Nat.ble ds.length small) (some (.lst ds))
def d1 (f : D → Option D) (ds : List D) : Option D := match ds with
  | [d] => f d
  | _ => none
def d2 (f : D → D → Option D) (ds : List D) : Option D := match ds with
  | [d, e] => f d e
  | _ => none
def lCons (m : Option D) (ms : Option (List D)) : Option (List D) := @Option.rec D (fun _ => Option (List D)) none (fun d => @Option.rec (List D) (fun _ => Option (List D)) none (fun ds => some (d :: ds)) ms) m
theorem lCons_some {m : Option D} {ms : Option (List D)} {xs : List D} (h : lCons m ms = some xs) : ∃ d ds, m = some d ∧ ms = some ds ∧ xs = d :: ds := by
  cases m with
  | none => cases h
  | some d => cases ms with
    | none => cases h
    | some ds => cases h; exact ⟨d, ds, rfl, rfl, rfl⟩
def isNonD : D → Bool
  | .non => true
  | _ => false
def dinT : D → D → Option Bool
  | .str s, .tup ds => ob (mapO (fun d => match d with | .str z => some z | _ => none) ds) fun zs => some (zs.any fun z => decide (z = s))
  | _, _ => none
def dinD : D → D → Option Bool
  | .str s, .dct ks _ => some (ks.any fun k => decide (k = s))
  | _, _ => none

def dix : D → D → Option D
  | .tup ds, .int i => getO ds i
  | .lst ds, .int i => getO ds i
  | .dct ks ds, .str s => lookZ ks ds s
  | _, _ => none
def dslice (d : D) (lo hi : Option Int) : Option D := match d with
  | .tup ds => some (.tup (cutO ds lo hi))
  | .lst ds => some (.lst (cutO ds lo hi))
  | _ => none
def asI : D → Option Int
  | .int i => some i
  | _ => none
def dfld (c : Nat) (f : Str) (d : D) : Option D := match d with
  | .ins c' fn ds => ock (Nat.beq c' c) (lookZ fn ds f)
  | _ => none
def dlen : D → Option D
  | .tup ds => some (.int ds.length)
  | .lst ds => some (.int ds.length)
  | .str s => ock (Nat.ble s.length small) (some (.int s.length))
  | _ => none
def asBs : List D → Option (List Bool) := mapO asB
def asIs : List D → Option (List Int) := mapO asI
def asS : D → Option Str
  | .str s => some s
  | _ => none
def dall : D → Option D
  | .lst ds => ob (asBs ds) fun bs => some (.bl (bs.all id))
  | _ => none
def dsum : D → Option D
  | .lst ds => ob (asIs ds) fun ns => some (.int ns.sum)
  | _ => none
def maxI : Int → List Int → Int
  | m, [] => m
  | m, x :: r => maxI (if m < x then x else m) r
def dmax : D → Option D
  | .lst ds => ob (asIs ds) fun ns => match ns with
    | [] => none
    | x :: r => some (.int (maxI x r))
  | _ => none
def dmax2 : D → D → Option D
  | .int i, .int j => some (.int (if j > i then j else i))
  | _, _ => none
def dabs : D → Option D
  | .int i => some (.int (if i < 0 then -i else i))
  | _ => none
def dint : D → Option D
  | .int i => some (.int i)
  | .bl k => some (.int (if k then 1 else 0))
  | _ => none
def dtuple : D → Option D
  | .lst ds => some (.tup ds)
  | .tup ds => some (.tup ds)
  | .dct ks _ => some (.tup (ks.map .str))
  | _ => none
def dlist : D → Option D
  | .lst ds => some (.lst ds)
  | .tup ds => some (.lst ds)
  | _ => none
def dindex : D → D → Option D
  | .ptup ds, .str s => ob (mapO asS ds) fun zs => ob (zs.findIdx? fun z => decide (z = s)) fun j => some (.int j)
  | _, _ => none
/-- what a for walks -/
def ditems : D → Option (List D)
  | .tup ds => some ds
  | .ptup ds => some ds
  | .lst ds => some ds
  | _ => none
def dkeys : D → Option (List D)
  | .dct ks _ => some (ks.map .str)
  | _ => none
def dsigns : D → Option (List D)
  | .str s => some (s.cps.toList.map fun c => .str ⟨#[c]⟩)
  | _ => none
def upTo (lo : Int) : Nat → List D
  | 0 => []
  | n + 1 => .int lo :: upTo (lo + 1) n
def rng62 (i : Int) : Bool := ileB (-4611686018427387904) i && iltB i 4611686018427387904
def drange1 : D → Option (List D)
  | .int j => ock (rng62 j) (some (upTo 0 j.toNat))
  | _ => none
def drange2 : D → D → Option (List D)
  | .int i, .int j => ock (rng62 i && rng62 j) (some (upTo i (j - i).toNat))
  | _, _ => none
/-- i, i - 1, .. above 0 -/
def downTo : Nat → List D
  | 0 => []
  | n + 1 => .int ((n : Int) + 1) :: downTo n
/-- range(i, 0, -1) -/
def drangeD : D → Option (List D)
  | .int i => ock (rng62 i) (some (downTo i.toNat))
  | _ => none
def zip2 : List D → List D → List D
  | x :: xs, y :: ys => .tup [x, y] :: zip2 xs ys
  | _, _ => []
def zip3 : List D → List D → List D → List D
  | x :: xs, y :: ys, z :: zs => .tup [x, y, z] :: zip3 xs ys zs
  | _, _, _ => []
def enumZ (i : Int) : List D → List D
  | [] => []
  | x :: r => .tup [.int i, x] :: enumZ (i + 1) r
/-- a tuple taken apart -/
def unT : D → Option (List D)
  | .tup ds => some ds
  | _ => none
/-- kinds -/
def isT : D → Bool
  | .tup _ => true
  | _ => false
def isL : D → Bool
  | .lst _ => true
  | _ => false
def isD : D → Bool
  | .dct _ _ => true
  | _ => false
def isS : D → Bool
  | .str _ => true
  | _ => false
def isBl : D → Bool
  | .bl _ => true
  | _ => false
def isTk : D → Option Bool
  | .tup _ => some true
  | .ptup _ => some true
  | .lst _ => some false
  | .int _ => some false
  | .str _ => some false
  | .bl _ => some false
  | .dct _ _ => some false
  | .non => some false
  | _ => none
def isSk : D → Option Bool
  | .str _ => some true
  | .tup _ => some false
  | .ptup _ => some false
  | .lst _ => some false
  | .int _ => some false
  | .bl _ => some false
  | .dct _ _ => some false
  | .non => some false
  | _ => none
def o3 {α β γ δ : Type} (f : α → β → γ → Option δ) (m : Option α) (n : Option β) (k : Option γ) : Option δ := ob m fun x => ob n fun y => ob k fun z => f x y z
def asP (d : D) : Option (Option Int) := ob (asI d) fun i => some (some i)
def dslD (ma : Option D) (ml mh : Option (Option Int)) : Option D := ob ma fun d => ob ml fun lo => ob mh fun hi => dslice d lo hi
def dixS (x y : D) : Option D := match x with | .dct _ _ => none | _ => dix x y
def ddget (x y : D) : Option D := match x with | .dct _ _ => dix x y | _ => none
def dinTD (x y : D) : Option D := match x, y with
  | .str s, .tup ds => ob (mapO asS ds) fun zs => some (.bl (zs.any fun z => decide (z = s)))
  | _, _ => none
def dtupS : D → Option D
  | .lst ds => some (.tup ds)
  | .tup ds => some (.tup ds)
  | _ => none
def dputD (kd : List Str × List D) (k : Str) (v : D) : List Str × List D := (keyZ kd.1 k, putZ kd.1 kd.2 k v)
def dcO (un : D → Option (List D)) (n : Nat) (fk fv : List D → Option D) (ds : List D) : Option D :=
  ob (foldO (fun kd d => ob (un d) fun xs => ock (Nat.beq xs.length n) (ob (fk xs) fun k => ob (asS k) fun s => ob (fv xs) fun v => ock (Nat.blt kd.2.length small) (some (dputD kd s v)))) (([], []) : List Str × List D) ds) fun kd => some (.dct kd.1 kd.2)
def inO (un : D → Option (List D)) (n : Nat) (f : List D → Option D) (d : D) : Option D := ob (un d) fun xs => ock (Nat.beq xs.length n) (f xs)
def lc2O (un : D → Option (List D)) (n : Nat) (mi1 : List D → Option (List D)) (un1 : D → Option (List D)) (n1 : Nat) (f : List D → List D → Option D) (ds : List D) : Option D :=
  ob (mapO (fun d => ob (un d) fun xs => ock (Nat.beq xs.length n) (ob (mi1 xs) (mapO (inO un1 n1 (f xs))))) ds) fun rss => ock (Nat.ble rss.flatten.length small) (some (.lst rss.flatten))
def forS {α : Type} (un : D → Option (List D)) (n : Nat) (f : α → List D → Option α) (st : α) (d : D) : Option α := ob (un d) fun xs => ock (Nat.beq xs.length n) (f st xs)
def forO {α : Type} (un : D → Option (List D)) (n : Nat) (f : α → List D → Option α) (st0 : α) (ds : List D) : Option α := foldO (forS un n f) st0 ds
def lcO (un : D → Option (List D)) (n : Nat) (f : List D → Option D) (ds : List D) : Option D := ob (mapO (fun d => ob (un d) fun xs => ock (Nat.beq xs.length n) (f xs)) ds) fun rs => ock (Nat.ble rs.length small) (some (.lst rs))
def un1 (d : D) : Option (List D) := some [d]
def ckL (n : Nat) (ds : List D) : Option (List D) := ock (Nat.beq ds.length n) (some ds)
def unO (n : Nat) (m : Option D) : Option (List D) := ob m fun d => ob (unT d) fun ds => ock (Nat.beq ds.length n) (some ds)
def dtupK : D → Option D
  | .dct ks _ => some (.tup (ks.map .str))
  | _ => none
def dlenOwn : D → Option D
  | .dct ks _ => some (.int ks.length)
  | _ => none
def dixOwnL (c k : D) : Option D := match c, k with
  | .lst ds, .int i => getO ds i
  | _, _ => none
def dixOwnK (c k : D) : Option D := match c, k with
  | .dct ks ds, .str s => lookZ ks ds s
  | _, _ => none
def downNot (c k : D) : Option D := match c, k with
  | .dct ks _, .str s => some (.bl (!ks.any fun j => decide (j = s)))
  | _, _ => none
def dapp (c d : D) : Option D := match c with
  | .lst ds => ock (Nat.blt ds.length small) (some (.lst (ds ++ [d])))
  | _ => none
def dext (c d : D) : Option D := match c, d with
  | .lst ds, .tup es => ock (Nat.ble (ds.length + es.length) small) (some (.lst (ds ++ es)))
  | _, _ => none
def dputO (c : D) (mv mk : Option D) : Option D := ob mv fun v => ob mk fun k => match c, k with
  | .dct ks ds, .str s => ock (Nat.blt ds.length small) (some (.dct (keyZ ks s) (putZ ks ds s v)))
  | _, _ => none
def denum : D → Option (List D)
  | .tup ds => some (enumZ 0 ds)
  | _ => none
def ditemsT : D → Option (List D)
  | .tup ds => some ds
  | .ptup ds => some ds
  | _ => none
def dzip2 (x y : D) : Option (List D) := o2 (fun a b => some (zip2 a b)) (ditemsT x) (ditems y)
def dzip3 (x y z : D) : Option (List D) := o3 (fun a b c => some (zip3 a b c)) (ditemsT x) (ditemsT y) (ditemsT z)
def nodupS : List Str → List Str
  | [] => []
  | k :: r => match r.any fun j => decide (j = k) with
    | true => nodupS r
    | false => k :: nodupS r
def dlenset : D → Option D
  | .tup ds => ob (mapO asS ds) fun zs => ock (Nat.beq (nodupS zs).length zs.length && Nat.ble zs.length 60) (some (.int zs.length))
  | _ => none
def leN : List Nat → List Nat → Bool
  | [], _ => true
  | _ :: _, [] => false
  | a :: r, b :: s => match Nat.blt a b with
    | true => true
    | false => match Nat.beq a b with
      | true => leN r s
      | false => false
def insS (k : Str) : List Str → List Str
  | [] => [k]
  | j :: r => match leN k.cps.toList j.cps.toList with
    | true => k :: j :: r
    | false => j :: insS k r
def sortS : List Str → List Str
  | [] => []
  | k :: r => insS k (sortS r)
def ltN : List Nat → List Nat → Bool
  | [], [] => false
  | [], _ :: _ => true
  | _ :: _, [] => false
  | a :: r, b :: t => Nat.blt a b || (Nat.beq a b && ltN r t)
def risS : List Str → Bool
  | [] => true
  | x :: r => (r.all fun y => !ltN y.cps.toList x.cps.toList) && risS r
def dsorted : D → Option D
  | .dct ks _ => ock (risS (sortS ks) && (sortS ks).isPerm ks && Nat.blt ks.length 64) (some (.lst ((sortS ks).map .str)))
  | _ => none
def dtupP : D → Option D
  | .lst ds => some (.ptup ds)
  | _ => none
def zipkv : List D → List D → Option (List Str × List D)
  | .str k :: r, v :: s => ob (zipkv r s) fun q => some (k :: q.1, v :: q.2)
  | [], [] => some ([], [])
  | _, _ => none
def ddictzip (x y : D) : Option D := o2 (fun a b => ob (zipkv a b) fun q => ock (Nat.ble q.2.length small && Nat.beq (nodupS q.1).length q.1.length) (some (.dct q.1 q.2))) (ditemsT x) (ditemsT y)
def mkRawTable (as : List D) : Option D := match as with
  | [b, m, r] => some (.ins 1 [("bounds" : Str), ("measures" : Str), ("rows" : Str)] [b, m, r])
  | _ => none
end Z

namespace Z
open PySem PySem.Spec PyProof.Rows L2 NdefX LamX

/-- the fixed part: written part, classes by number, tables of code objects -/
structure Gm where
  K : PySem.W.Frag
  cl : Nat → Addr
  T : List NTab

def kvz (ks : List Str) (vs : List V) : List (Key × V) := match ks, vs with
  | k :: ks, v :: vs => (Sum.inr k, v) :: kvz ks vs
  | _, _ => []

/-- the names of methods that the data's own objects never shadow -/
def METHS : List Str := [("grown" : Str), ("power" : Str), ("behind" : Str)]
/-- what is known of an object's fields -/
structure FsOk (fn : List Str) (vs : List V) (fs : List (Str × V)) : Prop where
  get : ∀ f u, lookZ fn vs f = some u → fs.lookup f = some u
  no : ∀ f, f ∈ METHS → fs.lookup f = none
mutual
/-- the value v stands for the datum d; nothing of it lies in O but tuples -/
def Is (g : Gm) (O : Addr → Prop) (H : Hp) : D → V → Prop
  | .non, v => v = .non
  | .bl b, v => v = .bl b
  | .int i, v => v = .int i
  | .str s, v => v = .str s
  | .ref a, v => v = .ref a
  | .tup ds, v => ∃ a vs, v = .ref a ∧ H a = some (.tup vs) ∧ vs.length ≤ sizeLine ∧ IsL g O H ds vs
  | .ptup ds, v => ∃ a o vs, v = .ref a ∧ H a = some (.frz o (.tup vs)) ∧ o.dict = none ∧ vs.length ≤ sizeLine ∧ IsL g O H ds vs
  | .lst ds, v => ∃ a vs, v = .ref a ∧ ¬ O a ∧ H a = some (.lst vs) ∧ vs.length ≤ sizeLine ∧ IsL g O H ds vs
  | .dct ks ds, v => ∃ a vs, v = .ref a ∧ ¬ O a ∧ Rd H a (.dK (kvz ks vs)) ∧ ks.length = vs.length ∧ vs.length ≤ sizeLine ∧ IsL g O H ds vs
  | .ins c fn ds, v => ∃ a dx fs vs, v = .ref a ∧ ¬ O a ∧ H a = some (.ins (g.cl c) dx fs) ∧ IsL g O H ds vs ∧ fn.length = vs.length ∧ FsOk fn vs fs
def IsL (g : Gm) (O : Addr → Prop) (H : Hp) : List D → List V → Prop
  | [], vs => vs = []
  | d :: ds, vs => ∃ v r, vs = v :: r ∧ Is g O H d v ∧ IsL g O H ds r
end

/-- all that may be leant on is kept: what is no table, and not in O unless it is a tuple -/
def Rob (o : HO) : Prop := (∃ xs, o = .tup xs) ∨ ∃ ob xs, o = .frz ob (.tup xs)
def Kp (O : Addr → Prop) (H H' : Hp) : Prop := ∀ b o, H b = some o → (∀ ps, o ≠ .tbl ps) → (¬ O b ∨ Rob o) → H' b = some o
theorem Kp.refl {O : Addr → Prop} {H : Hp} : Kp O H H := fun _ _ h _ _ => h
theorem Kp.trans {O : Addr → Prop} {H H1 H2 : Hp} (a : Kp O H H1) (b : Kp O H1 H2) : Kp O H H2 := fun c o h n q => b c o (a c o h n q) n q
theorem Kp.anti {O O' : Addr → Prop} {H H1 : Hp} (a : Kp O H H1) (h : ∀ b, O b → O' b) : Kp O' H H1 := fun c o e n q => a c o e n (q.imp (fun z y => z (h c y)) id)

section
variable {g : Gm} {O O' : Addr → Prop} {H H' : Hp}
mutual
theorem Is.kp (k : Kp O H H') : ∀ (d : D) (v : V), Is g O H d v → Is g O H' d v
  | .non, v, h => h
  | .bl b, v, h => h
  | .int i, v, h => h
  | .str s, v, h => h
  | .ref a, v, h => h
  | .tup ds, v, h => by
    obtain ⟨a, vs, e, q, z, r⟩ := h
    exact ⟨a, vs, e, k a _ q (fun _ z => by cases z) (.inr (.inl ⟨_, rfl⟩)), z, IsL.kp k ds vs r⟩
  | .ptup ds, v, h => by
    obtain ⟨a, o, vs, e, q, n, z, r⟩ := h
    exact ⟨a, o, vs, e, k a _ q (fun _ z => by cases z) (.inr (.inr ⟨_, _, rfl⟩)), n, z, IsL.kp k ds vs r⟩
  | .lst ds, v, h => by
    obtain ⟨a, vs, e, n, q, z, r⟩ := h
    exact ⟨a, vs, e, n, k a _ q (fun _ z => by cases z) (.inl n), z, IsL.kp k ds vs r⟩
  | .dct ks ds, v, h => by
    obtain ⟨a, vs, e, n, q, l, z, r⟩ := h
    refine ⟨a, vs, e, n, ?_, l, z, IsL.kp k ds vs r⟩
    rcases q with q | ⟨ob, q⟩
    · exact .inl (k a _ q (fun _ z => by cases z) (.inl n))
    · exact .inr ⟨ob, k a _ q (fun _ z => by cases z) (.inl n)⟩
  | .ins c fn ds, v, h => by
    obtain ⟨a, dx, fs, vs, e, n, q, r, l, f⟩ := h
    exact ⟨a, dx, fs, vs, e, n, k a _ q (fun _ z => by cases z) (.inl n), IsL.kp k ds vs r, l, f⟩
theorem IsL.kp (k : Kp O H H') : ∀ (ds : List D) (vs : List V), IsL g O H ds vs → IsL g O H' ds vs
  | [], vs, h => h
  | d :: ds, vs, h => by
    obtain ⟨v, r, e, a, b⟩ := h
    exact ⟨v, r, e, Is.kp k d v a, IsL.kp k ds r b⟩
end
mutual
/-- fewer things are hidden -/
theorem Is.anti (h : ∀ b, O' b → O b) : ∀ (d : D) (v : V), Is g O H d v → Is g O' H d v
  | .non, v, h => h
  | .bl b, v, h => h
  | .int i, v, h => h
  | .str s, v, h => h
  | .ref a, v, h => h
  | .tup ds, v, q => by
    obtain ⟨a, vs, e, q, z, r⟩ := q
    exact ⟨a, vs, e, q, z, IsL.anti h ds vs r⟩
  | .ptup ds, v, q => by
    obtain ⟨a, o, vs, e, q, n, z, r⟩ := q
    exact ⟨a, o, vs, e, q, n, z, IsL.anti h ds vs r⟩
  | .lst ds, v, q => by
    obtain ⟨a, vs, e, n, q, z, r⟩ := q
    exact ⟨a, vs, e, fun y => n (h a y), q, z, IsL.anti h ds vs r⟩
  | .dct ks ds, v, q => by
    obtain ⟨a, vs, e, n, q, l, z, r⟩ := q
    exact ⟨a, vs, e, fun y => n (h a y), q, l, z, IsL.anti h ds vs r⟩
  | .ins c fn ds, v, q => by
    obtain ⟨a, dx, fs, vs, e, n, q, r, l, f⟩ := q
    exact ⟨a, dx, fs, vs, e, fun y => n (h a y), q, IsL.anti h ds vs r, l, f⟩
theorem IsL.anti (h : ∀ b, O' b → O b) : ∀ (ds : List D) (vs : List V), IsL g O H ds vs → IsL g O' H ds vs
  | [], vs, q => q
  | d :: ds, vs, q => by
    obtain ⟨v, r, e, a, b⟩ := q
    exact ⟨v, r, e, Is.anti h d v a, IsL.anti h ds r b⟩
end
mutual
/-- one more is hidden, of which nothing is known -/
theorem Is.hide (h : ∀ b, O' b → O b ∨ H b = none) : ∀ (d : D) (v : V), Is g O H d v → Is g O' H d v
  | .non, v, h => h
  | .bl b, v, h => h
  | .int i, v, h => h
  | .str s, v, h => h
  | .ref a, v, h => h
  | .tup ds, v, q => by
    obtain ⟨a, vs, e, q, z, r⟩ := q
    exact ⟨a, vs, e, q, z, IsL.hide h ds vs r⟩
  | .ptup ds, v, q => by
    obtain ⟨a, o, vs, e, q, n, z, r⟩ := q
    exact ⟨a, o, vs, e, q, n, z, IsL.hide h ds vs r⟩
  | .lst ds, v, q => by
    obtain ⟨a, vs, e, n, q, z, r⟩ := q
    exact ⟨a, vs, e, fun y => (h a y).elim n (fun w => by rw [w] at q; cases q), q, z, IsL.hide h ds vs r⟩
  | .dct ks ds, v, q => by
    obtain ⟨a, vs, e, n, q, l, z, r⟩ := q
    refine ⟨a, vs, e, fun y => (h a y).elim n (fun w => ?_), q, l, z, IsL.hide h ds vs r⟩
    rcases q with q | ⟨_, q⟩ <;> (rw [w] at q; cases q)
  | .ins c fn ds, v, q => by
    obtain ⟨a, dx, fs, vs, e, n, q, r, l, f⟩ := q
    exact ⟨a, dx, fs, vs, e, fun y => (h a y).elim n (fun w => by rw [w] at q; cases q), q, IsL.hide h ds vs r, l, f⟩
theorem IsL.hide (h : ∀ b, O' b → O b ∨ H b = none) : ∀ (ds : List D) (vs : List V), IsL g O H ds vs → IsL g O' H ds vs
  | [], vs, q => q
  | d :: ds, vs, q => by
    obtain ⟨v, r, e, a, b⟩ := q
    exact ⟨v, r, e, Is.hide h d v a, IsL.hide h ds r b⟩
end
theorem IsL.length : ∀ {ds : List D} {vs : List V}, IsL g O H ds vs → ds.length = vs.length
  | [], vs, h => by rw [show vs = [] from h]; rfl
  | d :: ds, vs, h => by
    obtain ⟨v, r, e, _, b⟩ := h
    rw [e, List.length_cons, List.length_cons, IsL.length b]
theorem IsL.get : ∀ {ds : List D} {vs : List V} {i : Nat} {d : D}, IsL g O H ds vs → ds[i]? = some d → ∃ v, vs[i]? = some v ∧ Is g O H d v
  | [], vs, i, d, _, e => by simp at e
  | c :: ds, vs, 0, d, h, e => by
    obtain ⟨v, r, e2, a, _⟩ := h
    simp at e; subst e
    exact ⟨v, by rw [e2]; rfl, a⟩
  | c :: ds, vs, i + 1, d, h, e => by
    obtain ⟨v, r, e2, _, b⟩ := h
    obtain ⟨w, h1, h2⟩ := IsL.get (i := i) b (by simpa using e)
    exact ⟨w, by rw [e2]; simpa using h1, h2⟩
theorem IsL.append : ∀ {ds es : List D} {vs ws : List V}, IsL g O H ds vs → IsL g O H es ws → IsL g O H (ds ++ es) (vs ++ ws)
  | [], es, vs, ws, h, k => by rw [show vs = [] from h]; exact k
  | d :: ds, es, vs, ws, h, k => by
    obtain ⟨v, r, e, a, b⟩ := h
    exact ⟨v, r ++ ws, by rw [e]; rfl, a, IsL.append b k⟩
theorem IsL.one {d : D} {v : V} (h : Is g O H d v) : IsL g O H [d] [v] := ⟨v, [], rfl, h, rfl⟩
theorem IsL.take : ∀ {ds : List D} {vs : List V} (n : Nat), IsL g O H ds vs → IsL g O H (ds.take n) (vs.take n)
  | [], vs, n, h => by rw [show vs = [] from h]; simp [IsL]
  | d :: ds, vs, 0, h => by simp [IsL]
  | d :: ds, vs, n + 1, h => by
    obtain ⟨v, r, e, a, b⟩ := h
    rw [e]
    exact ⟨v, r.take n, rfl, a, IsL.take n b⟩
theorem IsL.drop : ∀ {ds : List D} {vs : List V} (n : Nat), IsL g O H ds vs → IsL g O H (ds.drop n) (vs.drop n)
  | [], vs, n, h => by rw [show vs = [] from h]; simp [IsL]
  | d :: ds, vs, 0, h => h
  | d :: ds, vs, n + 1, h => by
    obtain ⟨v, r, e, a, b⟩ := h
    rw [e]
    exact IsL.drop n b
end

/-- heaps that follow one another where nothing that was tracked changes -/
structure R0 (g : Gm) (H H' : Hp) : Prop where
  keep : ∀ b o, H b = some o → (∀ ps, o ≠ .tbl ps) → H' b = some o
  free : ∀ b, H' b = none → H b = none
  tabs : TabsN g.T H → TabsN g.T H'
  tb : ∀ b ps, H b = some (.tbl ps) → ∃ qs, H' b = some (.tbl qs)
/-- .. and where what is in L may change while J holds -/
structure Rl (g : Gm) where
  L : Addr → Prop
  J : Hp → Prop
  /-- what no frame hides -/
  A : Hp → Addr → Prop
  hJ : ∀ H H', R0 g H H' → J H → J H'
  hL : ∀ H b, J H → L b → H b ≠ none
  hU : ∀ H p xs ys, H p = some (.lst xs) → ¬ L p → J H → J (upd H p (.lst ys))
  hA : ∀ H H', R0 g H H' → J H → ∀ b, A H' b → A H b
  hUA : ∀ H p xs ys, H p = some (.lst xs) → ¬ L p → J H → ∀ b, A (upd H p (.lst ys)) b → A H b
  hN : ∀ H b, J H → A H b → ∀ xs, H b ≠ some (.lst xs)
def r0 (g : Gm) : Rl g := ⟨fun _ => False, fun _ => True, fun _ _ => False, fun _ _ _ h => h, fun _ _ _ h => h.elim, fun _ _ _ _ _ _ h => h, fun _ _ _ _ _ h => h, fun _ _ _ _ _ _ _ _ h => h, fun _ _ _ h => h.elim⟩
structure R (g : Gm) (r : Rl g) (H H' : Hp) : Prop where
  keep : Kp r.L H H'
  free : ∀ b, H' b = none → H b = none
  tabs : TabsN g.T H → TabsN g.T H'
  J : r.J H → r.J H'
  A : r.J H → ∀ b, r.A H' b → r.A H b ∨ H b = none
  tb : ∀ b ps, H b = some (.tbl ps) → ∃ qs, H' b = some (.tbl qs)
section
variable {g : Gm} {r : Rl g} {H H1 H2 : Hp}
theorem R0.refl : R0 g H H := ⟨fun _ _ h _ => h, fun _ h => h, fun h => h, fun _ ps h => ⟨ps, h⟩⟩
theorem R0.trans (a : R0 g H H1) (b : R0 g H1 H2) : R0 g H H2 := ⟨fun c o h n => b.keep c o (a.keep c o h n) n, fun c h => a.free c (b.free c h), fun h => b.tabs (a.tabs h), fun c ps h => by obtain ⟨qs, h1⟩ := a.tb c ps h; exact b.tb c qs h1⟩
theorem R.refl : R g r H H := ⟨Kp.refl, fun _ h => h, fun h => h, fun h => h, fun _ _ h => .inl h, fun _ ps h => ⟨ps, h⟩⟩
theorem R.trans (a : R g r H H1) (b : R g r H1 H2) : R g r H H2 := ⟨a.keep.trans b.keep, fun c h => a.free c (b.free c h), fun h => b.tabs (a.tabs h), fun h => b.J (a.J h), fun j c h => (b.A (a.J j) c h).elim (a.A j c) fun z => .inr (a.free c z), fun c ps h => by obtain ⟨qs, h1⟩ := a.tb c ps h; exact b.tb c qs h1⟩
theorem R.of0 (a : R0 g H H1) : R g r H H1 := ⟨fun c o h n _ => a.keep c o h n, a.free, a.tabs, r.hJ _ _ a, fun j b h => .inl (r.hA _ _ a j b h), a.tb⟩
theorem R.to0 (a : R g (r0 g) H H1) : R0 g H H1 := ⟨fun c o h n => a.keep c o h n (.inl fun z => z), a.free, a.tabs, a.tb⟩
theorem R0.new {p : Addr} {o : HO} (h : H p = none) (n : ∀ ps, o ≠ .tbl ps) : R0 g H (upd H p o) :=
  ⟨fun b u e _ => by rw [upd_ne (ne_of_none e h)]; exact e, fun b e => upd_none e, fun t => t.ext fun b u e => by rw [upd_ne (ne_of_none e h)]; exact e, fun b ps e => ⟨ps, by rw [upd_ne (ne_of_none e h)]; exact e⟩⟩
theorem R.new {p : Addr} {o : HO} (h : H p = none) (n : ∀ ps, o ≠ .tbl ps) : R g r H (upd H p o) := R.of0 (R0.new h n)
theorem R.kp {O : Addr → Prop} (a : R g r H H1) (h : ∀ b, r.L b → O b) : Kp O H H1 := a.keep.anti h
theorem TabN.upd {P : Addr} {nm : Nat → Nat → Str} {p : Addr} {o u : HO} (t : TabN H P nm) (h : H p = some o) (n : ∀ ps, o ≠ .tbl ps) (m : ∀ φ, o ≠ .ext φ) : TabN (upd H p u) P nm := by
  obtain ⟨ps, h1, h2, h3⟩ := t
  refine ⟨ps, ?_, h2, fun pos cv hc => ?_⟩
  · rw [upd_ne]
    · exact h1
    · intro e; subst e; rw [h] at h1; exact n _ (Option.some.inj h1)
  · obtain ⟨c, e1, e2⟩ := h3 pos cv hc
    refine ⟨c, e1, ?_⟩
    rw [upd_ne]
    · exact e2
    · intro e; subst e; rw [h] at e2; exact m _ (Option.some.inj e2)
theorem tabs_upd {T : List NTab} {p : Addr} {o u : HO} (t : TabsN T H) (h : H p = some o) (n : ∀ ps, o ≠ .tbl ps) (m : ∀ φ, o ≠ .ext φ) : TabsN T (upd H p u) := fun q hq => TabN.upd (t q hq) h n m
/-- an object that H does not know is a list that changes -/
theorem R.mut {p : Addr} {xs ys : List V} (a : R g r H H1) (h : H p = none) (e : H1 p = some (.lst xs)) (hL : ¬ r.L p) : R g r H (upd H1 p (.lst ys)) where
  keep := fun b o q n k => by rw [upd_ne (ne_of_none q h)]; exact a.keep b o q n k
  free := fun b q => a.free b (upd_none q)
  tabs := fun t => tabs_upd (a.tabs t) e (fun _ z => by cases z) fun _ z => by cases z
  J := fun j => r.hU _ _ _ _ e hL (a.J j)
  A := fun j b q => a.A j b (r.hUA _ _ _ _ e hL (a.J j) b q)
  tb := fun b ps q => by rw [upd_ne (ne_of_none q h)]; exact a.tb b ps q
theorem R0.mut {p : Addr} {o u : HO} (a : R0 g H H1) (h : H p = none) (e : H1 p = some o) (n : ∀ ps, o ≠ .tbl ps) (m : ∀ φ, o ≠ .ext φ) : R0 g H (upd H1 p u) where
  keep := fun b o q n => by rw [upd_ne (ne_of_none q h)]; exact a.keep b o q n
  free := fun b q => a.free b (upd_none q)
  tabs := fun t => tabs_upd (a.tabs t) e n m
  tb := fun b ps q => by rw [upd_ne (ne_of_none q h)]; exact a.tb b ps q
end

abbrev Cn := D
def CnIs (g : Gm) (O : Addr → Prop) (H : Hp) (p : Addr) : D → Prop
  | .lst ds => ∃ vs, H p = some (.lst vs) ∧ vs.length ≤ sizeLine ∧ IsL g O H ds vs
  | .dct ks ds => ∃ vs, H p = some (.dK (kvz ks vs)) ∧ ks.Nodup ∧ ks.length = vs.length ∧ vs.length ≤ sizeLine ∧ IsL g O H ds vs
  | _ => False
theorem CnIs.mv {g : Gm} {O O' : Addr → Prop} {H H' : Hp} {p : Addr} {c : D} (hp : ∀ o, H p = some o → (∀ ps, o ≠ .tbl ps) → H' p = some o) (hi : ∀ ds vs, IsL g O H ds vs → IsL g O' H' ds vs) (h : CnIs g O H p c) : CnIs g O' H' p c := by
  cases c with
  | lst ds =>
    obtain ⟨vs, e, z, q⟩ := h
    exact ⟨vs, hp _ e (fun _ z => by cases z), z, hi _ _ q⟩
  | dct ks ds =>
    obtain ⟨vs, e, nd, l, z, q⟩ := h
    exact ⟨vs, hp _ e (fun _ z => by cases z), nd, l, z, hi _ _ q⟩
  | _ => exact h.elim
abbrev Rho := List (Option D)
abbrev Om := Option (Nat × Cn)
structure Env (g : Gm) (r : Rl g) (O : Addr → Prop) (σ : L2.St) (H : Hp) (ρ : Rho) (ω : Om) : Prop where
  len : σ.length = ρ.length
  at_ : ∀ (i : Nat) (d : D), ρ[i]? = some (some d) → ∃ v, σ[i]? = some (some v) ∧ Is g O H d v
  sub : ∀ b, r.L b → O b
  hid : ∀ b, O b → H b ≠ none
  out : ∀ b, r.A H b → ¬ O b
  tabs : TabsN g.T H
  J : r.J H
  own : ∀ i c, ω = some (i, c) → ∃ p, σ[i]? = some (some (.ref p)) ∧ O p ∧ ¬ r.L p ∧ CnIs g O H p c
section
variable {g : Gm} {r : Rl g} {O : Addr → Prop} {σ : L2.St} {H H' : Hp} {ρ : Rho} {ω : Om}
theorem CnIs.go {p : Addr} {c : Cn} (k : R g r H H') (hs : ∀ b, r.L b → O b) (hp : ¬ r.L p) (h : CnIs g O H p c) : CnIs g O H' p c :=
  h.mv (fun o e n => k.keep p _ e n (.inl hp)) fun _ _ q => IsL.kp (k.kp hs) _ _ q
theorem Env.go (E : Env g r O σ H ρ ω) (k : R g r H H') : Env g r O σ H' ρ ω :=
  ⟨E.len, fun i d e => by obtain ⟨v, h1, h2⟩ := E.at_ i d e; exact ⟨v, h1, Is.kp (k.kp E.sub) d v h2⟩, E.sub, fun b o z => E.hid b o (k.free b z), fun b a o => (k.A E.J b a).elim (fun z => E.out b z o) (E.hid b o), k.tabs E.tabs, k.J E.J,
    fun i c e => by obtain ⟨p, h1, h2, h3, h4⟩ := E.own i c e; exact ⟨p, h1, h2, h3, h4.go k E.sub h3⟩⟩
theorem Env.set {i : Nat} {d : D} {v : V} (E : Env g r O σ H ρ ω) (h : Is g O H d v) (hi : ∀ c, ω ≠ some (i, c)) : Env g r O (σ.set i (some v)) H (ρ.set i (some d)) ω := by
  refine ⟨by rw [List.length_set, List.length_set, E.len], fun j e q => ?_, E.sub, E.hid, E.out, E.tabs, E.J, fun j c q => ?_⟩
  · by_cases hj : i = j
    · subst hj
      have hl : i < ρ.length := by
        have := (List.getElem?_eq_some_iff.mp q).1
        rw [List.length_set] at this
        exact this
      rw [List.getElem?_set_self hl] at q
      have e2 : d = e := Option.some.inj (Option.some.inj q)
      subst e2
      exact ⟨v, List.getElem?_set_self (by rw [E.len]; exact hl), h⟩
    · rw [List.getElem?_set_ne hj] at q
      obtain ⟨w, h1, h2⟩ := E.at_ j e q
      exact ⟨w, by rw [List.getElem?_set_ne hj]; exact h1, h2⟩
  · obtain ⟨p, h1, h2⟩ := E.own j c q
    have hj : i ≠ j := fun z => hi c (by rw [q, z])
    exact ⟨p, by rw [List.getElem?_set_ne hj]; exact h1, h2⟩
/-- less is known of the names -/
theorem Env.less {ρ' : Rho} (E : Env g r O σ H ρ ω) (hl : ρ'.length = ρ.length) (h : ∀ (i : Nat) (d : D), ρ'[i]? = some (some d) → ρ[i]? = some (some d)) : Env g r O σ H ρ' ω :=
  ⟨by rw [hl]; exact E.len, fun i d e => E.at_ i d (h i d e), E.sub, E.hid, E.out, E.tabs, E.J, E.own⟩
end

section
variable (g : Gm) (r : Rl g)
def EvO (te : TE) (ρ : Rho) (ω : Om) (m : Option D) : Prop := ∀ d, m = some d → ∀ O σ H, Env g r O σ H ρ ω → ∀ Q : VK, (∀ v H', R g r H H' → Is g O H' d v → Q v H') → te σ H Q
def EvT (tt : TT) (ρ : Rho) (ω : Om) (m : Option Bool) : Prop := ∀ b, m = some b → ∀ O σ H, Env g r O σ H ρ ω → ∀ Q : Bool → Hp → Prop, (∀ H', R g r H H' → Q b H') → tt σ H Q
def EvA (ta : TA) (ρ : Rho) (ω : Om) (m : Option (List D)) : Prop := ∀ ds, m = some ds → ∀ O σ H, Env g r O σ H ρ ω → ∀ Q : List V → Hp → Prop, (∀ vs H', R g r H H' → IsL g O H' ds vs → Q vs H') → ta σ H Q
def EvP (tp : TO) (ρ : Rho) (ω : Om) (m : Option (Option Int)) : Prop := ∀ o, m = some o → ∀ O σ H, Env g r O σ H ρ ω → ∀ Q : Option Int → Hp → Prop, (∀ H', R g r H H' → Q o H') → tp σ H Q
end
/-- on values, from a heap on -/
def RvO (g : Gm) (r : Rl g) (rr : R2) (f : D → D → Option D) : Prop := ∀ x y d, f x y = some d → ∀ (O : Addr → Prop) (H : Hp), (∀ b, r.L b → O b) → (∀ b, O b → H b ≠ none) → ∀ v u, Is g O H x v → Is g O H y u → ∀ Q : VK, (∀ w H', R g r H H' → Is g O H' d w → Q w H') → rr v u H Q
section
variable {g : Gm} {r : Rl g} {ρ : Rho} {ω : Om} {ta tb tc te : TE} {ma mb mc : Option D}
theorem ev_var {i : Nat} {d : D} (h : ρ[i]? = some (some d)) : EvO g r (tVar i) ρ ω (some d) := fun _ e O σ H E Q q => by
  cases e
  obtain ⟨v, h1, h2⟩ := E.at_ i d h
  exact ⟨v, h1, q v H R.refl h2⟩
theorem ev_int {i : Int} : EvO g r (tC (.int i)) ρ ω (some (.int i)) := fun _ e O σ H E Q q => by cases e; exact q _ H R.refl rfl
theorem ev_str {i : Str} : EvO g r (tC (.str i)) ρ ω (some (.str i)) := fun _ e O σ H E Q q => by cases e; exact q _ H R.refl rfl
theorem ev_bl {i : Bool} : EvO g r (tC (.bl i)) ρ ω (some (.bl i)) := fun _ e O σ H E Q q => by cases e; exact q _ H R.refl rfl
theorem ev_non : EvO g r (tC .non) ρ ω (some .non) := fun _ e O σ H E Q q => by cases e; exact q _ H R.refl rfl
theorem ev_op {rr : R2} {f : D → D → Option D} (hr : RvO g r rr f) (ha : EvO g r ta ρ ω ma) (hb : EvO g r tb ρ ω mb) : EvO g r (tOp rr ta tb) ρ ω (o2 f ma mb) := fun d e O σ H E Q q => by
  obtain ⟨x, y, e1, e2, e3⟩ := o2_some e
  refine ha x e1 O σ H E _ fun v H1 k1 i1 => ?_
  refine hb y e2 O σ H1 (E.go k1) _ fun u H2 k2 i2 => ?_
  exact hr x y d e3 O H2 E.sub (E.go (k1.trans k2)).hid v u (Is.kp (k2.kp E.sub) _ _ i1) i2 Q fun w H3 k3 i3 => q w H3 ((k1.trans k2).trans k3) i3
end
end Z

namespace Z
open PySem PySem.Spec PyProof.Rows L2 NdefX LamX
section
variable {g : Gm} {r : Rl g} {ρ : Rho} {ω : Om} {ta tb tc te : TE} {ma mb mc m : Option D} {t u : TT} {mt mu : Option Bool}

def rAddD (K : PySem.W.Frag) : R2 := fun x y H Q => (rI0 (fun i j => .int (i + j)) x y H Q ∨ rCatA K x y H Q) ∨ rCat x y H Q
theorem op_addD {X : Cx} : OpR X (binaryOp .Add) (rAddD X.K) := (OpR.or op_add op_catA).or op_cat
theorem small_le {n : Nat} (h : Nat.ble n small = true) : n ≤ sizeLine := Nat.le_trans (Nat.le_of_ble_eq_true h) (by decide)
theorem IsL.nil_iff {O : Addr → Prop} {H : Hp} {ds : List D} {vs : List V} (h : IsL g O H ds vs) : vs = [] ↔ ds = [] := by
  have e := h.length
  constructor
  · intro z; rw [z] at e; exact List.eq_nil_of_length_eq_zero e
  · intro z; rw [z] at e; exact List.eq_nil_of_length_eq_zero e.symm
theorem rv_add : RvO g r (rAddD g.K) dadd := fun x y d e O H hs hO v u hx hy Q q => by
  cases x with
  | int i =>
    cases y with
    | int j =>
      cases e
      exact .inl (.inl ⟨i, j, hx, hy, q _ H R.refl rfl⟩)
    | _ => cases e
  | tup a =>
    cases y with
    | tup b =>
      obtain ⟨c, e⟩ := ock_some e
      cases e
      obtain ⟨p, vs, rfl, hp, z1, i1⟩ := hx
      obtain ⟨p', vs', rfl, hp', z2, i2⟩ := hy
      have hl : vs.length + vs'.length ≤ sizeLine := by rw [← i1.length, ← i2.length]; exact small_le c
      have hl2 : (vs ++ vs').length ≤ sizeLine := by rw [List.length_append]; exact hl
      refine .inl (.inr ⟨p, p', vs, vs', rfl, rfl, SqT.of hp, SqT.of hp', hl, fun z => ?_, fun z1 z2 => ?_, fun z1 z2 w hw => ?_⟩)
      · have z' := i1.nil_iff.mp z
        subst z'
        exact q _ H R.refl ⟨p', vs', rfl, hp', z2, i2⟩
      · have z' := i2.nil_iff.mp z2
        subst z'
        rw [List.append_nil] at q
        exact q _ H R.refl ⟨p, vs, rfl, hp, ‹_›, i1⟩
      · have k : R g r H (upd H w (.tup (vs ++ vs'))) := R.new hw fun _ z => by cases z
        exact q _ _ k ⟨w, vs ++ vs', rfl, upd_same, hl2, IsL.kp (k.kp hs) _ _ (i1.append i2)⟩
    | _ => cases e
  | lst a =>
    cases y with
    | lst b =>
      obtain ⟨c, e⟩ := ock_some e
      cases e
      obtain ⟨p, vs, rfl, n1, hp, z1, i1⟩ := hx
      obtain ⟨p', vs', rfl, n2, hp', z2, i2⟩ := hy
      have hl : vs.length + vs'.length ≤ sizeLine := by rw [← i1.length, ← i2.length]; exact small_le c
      refine .inr ⟨p, p', vs, vs', rfl, rfl, hp, hp', hl, fun w hw => ?_⟩
      have k : R g r H (upd H w (.lst (vs ++ vs'))) := R.new hw fun _ z => by cases z
      exact q _ _ k ⟨w, vs ++ vs', rfl, fun z => hO w z hw, upd_same, by rw [List.length_append]; exact hl, IsL.kp (k.kp hs) _ _ (i1.append i2)⟩
    | _ => cases e
  | _ => cases y <;> cases e
theorem rv_I0 {f : Int → Int → Int} {F : D → D → Option D} (h : ∀ x y d, F x y = some d → ∃ i j, x = .int i ∧ y = .int j ∧ d = .int (f i j)) : RvO g r (rI0 fun i j => .int (f i j)) F := fun x y d e O H hs hO v u hx hy Q q => by
  obtain ⟨i, j, rfl, rfl, rfl⟩ := h x y d e
  exact ⟨i, j, hx, hy, q _ H R.refl rfl⟩
theorem rv_B0 {f : Int → Int → Bool} {F : D → D → Option D} (h : ∀ x y d, F x y = some d → ∃ i j, x = .int i ∧ y = .int j ∧ d = .bl (f i j)) : RvO g r (rI0 fun i j => .bl (f i j)) F := fun x y d e O H hs hO v u hx hy Q q => by
  obtain ⟨i, j, rfl, rfl, rfl⟩ := h x y d e
  exact ⟨i, j, hx, hy, q _ H R.refl rfl⟩
theorem rv_I {C : Int → Int → Prop} {f : Int → Int → Int} {F : D → D → Option D} (h : ∀ x y d, F x y = some d → ∃ i j, x = .int i ∧ y = .int j ∧ d = .int (f i j) ∧ C i j) : RvO g r (rI C fun i j => .int (f i j)) F := fun x y d e O H hs hO v u hx hy Q q => by
  obtain ⟨i, j, rfl, rfl, rfl, c⟩ := h x y d e
  exact ⟨i, j, hx, hy, c, q _ H R.refl rfl⟩
theorem rv_sub : RvO g r (rI0 fun i j => .int (i - j)) dsub := rv_I0 fun x y d e => by
  cases x <;> cases y <;> first | (cases e; exact ⟨_, _, rfl, rfl, rfl⟩) | cases e
theorem rv_fdiv : RvO g r (rI CDivN fun i j => .int (i.fdiv j)) dfdiv := rv_I fun x y d e => by
  cases x with
  | int i => cases y with
    | int j =>
      obtain ⟨c, e⟩ := ock_some e
      cases e
      rw [Bool.and_eq_true] at c
      exact ⟨i, j, rfl, rfl, rfl, of_decide_eq_true c.1, by have := c.2; rw [Nat.blt_eq] at this; exact this⟩
    | _ => cases e
  | _ => cases y <;> cases e
theorem rv_mod : RvO g r (rI (fun _ j => j ≠ 0) fun i j => .int (i.fmod j)) dmod := rv_I fun x y d e => by
  cases x with
  | int i => cases y with
    | int j =>
      obtain ⟨c, e⟩ := ock_some e
      cases e
      exact ⟨i, j, rfl, rfl, rfl, of_decide_eq_true c⟩
    | _ => cases e
  | _ => cases y <;> cases e
theorem rv_pow : RvO g r (rI CPow fun i j => .int (i ^ j.toNat)) dpow := rv_I fun x y d e => by
  cases x with
  | int i => cases y with
    | int j =>
      obtain ⟨c, e⟩ := ock_some e
      cases e
      rw [Bool.and_eq_true, Bool.and_eq_true] at c
      exact ⟨i, j, rfl, rfl, rfl, of_decide_eq_true c.1.1, of_decide_eq_true c.1.2, by have := c.2; rw [Nat.blt_eq] at this; exact this⟩
    | _ => cases e
  | _ => cases y <;> cases e
theorem mulOk_ok {i j : Int} (h : mulOk i j = true) : CMul i j := by
  unfold mulOk at h
  rw [Bool.or_eq_true, Bool.and_eq_true, Bool.and_eq_true, iltB_eq, iltB_eq, iltB_eq, iltB_eq] at h
  rcases h with ⟨a, b⟩ | ⟨a, b⟩
  · exact .inl ⟨by have := of_decide_eq_true a; omega, by have := of_decide_eq_true b; omega⟩
  · exact .inr ⟨by have := of_decide_eq_true a; omega, by have := of_decide_eq_true b; omega⟩
theorem ev_neg (ha : EvO g r ta ρ ω ma) : EvO g r (tUn (rU fun i => .int (-i)) ta) ρ ω (ob ma dneg) := fun d e O σ H E Q q => by
  obtain ⟨x, e1, e2⟩ := ob_some e
  cases x with
  | int i =>
    cases e2
    exact ha _ e1 O σ H E _ fun v H1 k1 i1 => ⟨i, i1, q _ H1 k1 rfl⟩
  | _ => cases e2

theorem obl_some {m : Option Bool} {d : D} (h : obl m = some d) : ∃ b, m = some b ∧ d = .bl b := by
  obtain ⟨b, h1, h2⟩ := ob_some h
  exact ⟨b, h1, by cases h2; rfl⟩
theorem rv_lt : RvO g r (rI0 fun i j => .bl (decide (i < j))) dltD := rv_B0 fun x y d e => by
  obtain ⟨b, e1, rfl⟩ := obl_some e
  cases x <;> cases y <;> first | (cases e1; exact ⟨_, _, rfl, rfl, by rw [iltB_eq]⟩) | cases e1
theorem rv_gt : RvO g r (rI0 fun i j => .bl (decide (j < i))) dgtD := rv_B0 fun x y d e => by
  obtain ⟨b, e1, rfl⟩ := obl_some e
  cases x <;> cases y <;> first | (cases e1; exact ⟨_, _, rfl, rfl, by rw [iltB_eq]⟩) | cases e1
theorem rv_ge : RvO g r (rI0 fun i j => .bl (decide (j ≤ i))) dgeD := rv_B0 fun x y d e => by
  cases x <;> cases y <;> first | (cases e; exact ⟨_, _, rfl, rfl, by rw [ileB_eq]⟩) | cases e
def rLeD : R2 := fun x y H Q => rI0 (fun i j => .bl (decide (i ≤ j))) x y H Q ∨ ∃ i j, x = .str i ∧ y = .str j ∧ Q (.bl (!decide (j.cps.toList < i.cps.toList))) H
theorem op_leD {X : Cx} : OpR X (compareOp .LtE) rLeD := OpR.or op_le op_le_str
theorem rv_le : RvO g r rLeD dleD := fun x y d e O H hs hO v u hx hy Q q => by
  obtain ⟨b, e1, rfl⟩ := obl_some e
  cases x with
  | int i => cases y with
    | int j => cases e1; exact .inl ⟨i, j, hx, hy, q _ H R.refl (by rw [ileB_eq]; rfl)⟩
    | _ => cases e1
  | str i => cases y with
    | str j => cases e1; exact .inr ⟨i, j, hx, hy, q _ H R.refl rfl⟩
    | _ => cases e1
  | _ => cases y <;> cases e1
theorem deqS_ok {x y : D} {b : Bool} (e : deqS x y = some b) {O : Addr → Prop} {H : Hp} {v u : V} (hx : Is g O H x v) (hy : Is g O H y u) : scal v u = true ∧ decide (v = u) = b := by
  cases x with
  | int i => cases y with
    | int j =>
      cases e
      rw [show v = .int i from hx, show u = .int j from hy]
      exact ⟨rfl, by simp⟩
    | _ => cases e
  | str i => cases y with
    | str j =>
      cases e
      rw [show v = .str i from hx, show u = .str j from hy]
      exact ⟨rfl, by simp⟩
    | _ => cases e
  | bl i => cases y with
    | bl j =>
      cases e
      rw [show v = .bl i from hx, show u = .bl j from hy]
      refine ⟨rfl, ?_⟩
      cases i <;> cases j <;> rfl
    | _ => cases e
  | _ => cases y <;> cases e
theorem rv_ne : RvO g r rNe dneD := fun x y d e O H hs hO v u hx hy Q q => by
  obtain ⟨b, e1, e2⟩ := ob_some e
  cases e2
  obtain ⟨h1, h2⟩ := deqS_ok e1 hx hy
  exact ⟨h1, by rw [h2]; exact q _ H R.refl rfl⟩
/-- the datum as the library has it -/
def toPy : D → PyData
  | .bl b => .bool b
  | .int i => .int i
  | .str s => .str s
  | .tup ds => .tuple (toPys ds)
  | _ => .none
where toPys : List D → List PyData
  | [] => []
  | d :: ds => toPy d :: toPys ds
theorem shB_ok : ∀ (n : Nat) (d : D), shB n d = true → (toPy d).canLay0 = true ∧ (toPy d).depth ≤ n := by
  have key : ∀ (n : Nat), (∀ d : D, shB n d = true → (toPy d).canLay0 = true ∧ (toPy d).depth ≤ n) → ∀ ds : List D, ds.all (shB n) = true → PyData.canLayAll0 (toPy.toPys ds) = true ∧ PyData.depthAll (toPy.toPys ds) ≤ n := by
    intro n ih ds
    induction ds with
    | nil => intro _; exact ⟨rfl, Nat.zero_le _⟩
    | cons d ds ihd =>
      intro h
      rw [List.all_cons, Bool.and_eq_true] at h
      obtain ⟨a1, a2⟩ := ih d h.1
      obtain ⟨b1, b2⟩ := ihd h.2
      refine ⟨?_, ?_⟩
      · show ((toPy d).canLay0 && PyData.canLayAll0 (toPy.toPys ds)) = true
        rw [a1, b1] <;> rfl
      · show max (toPy d).depth (PyData.depthAll (toPy.toPys ds)) ≤ n
        omega
  intro n
  induction n with
  | zero =>
    intro d h
    cases d with
    | int i => exact ⟨rfl, Nat.le_refl _⟩
    | _ => cases h
  | succ n ih =>
    intro d h
    cases d with
    | int i => exact ⟨rfl, Nat.zero_le _⟩
    | tup ds =>
      obtain ⟨a, b⟩ := key n ih ds h
      exact ⟨a, Nat.succ_le_succ b⟩
    | _ => cases h
theorem shaped_of {d : D} (h : shB 3 d = true) : SeqAt.shaped (toPy d) = true := by
  obtain ⟨a, b⟩ := shB_ok 3 d h
  unfold SeqAt.shaped
  rw [a, Bool.true_and]
  exact decide_eq_true (by omega)
mutual
theorem deqB_ok (K : PySem.W.Frag) {O : Addr → Prop} {H : Hp} (hK : g.K = K) : ∀ (x y : D) (b : Bool), deqB x y = some b → ∀ v u, Is g O H x v → Is g O H y u → Dp K H v (toPy x) ∧ Dp K H u (toPy y) ∧ PyData.eqv (toPy x) (toPy y) = b
  | .int i, .int j, b, e, v, u, hx, hy => by
    cases e
    rw [show v = .int i from hx, show u = .int j from hy]
    exact ⟨.int i, .int j, by show (i == j) = _; rw [Bool.beq_eq_decide_eq]⟩
  | .str i, .str j, b, e, v, u, hx, hy => by
    cases e
    rw [show v = .str i from hx, show u = .str j from hy]
    refine ⟨.str i, .str j, ?_⟩
    show (i == j) = _
    by_cases z : i = j
    · subst z; simp
    · rw [decide_eq_false z]; exact beq_eq_false_iff_ne.mpr z
  | .bl i, .bl j, b, e, v, u, hx, hy => by
    cases e
    rw [show v = .bl i from hx, show u = .bl j from hy]
    exact ⟨.bl i, .bl j, rfl⟩
  | .tup xs, .tup ys, b, e, v, u, hx, hy => by
    obtain ⟨p, vs, rfl, hp, z1, i1⟩ := hx
    obtain ⟨p', vs', rfl, hp', z2, i2⟩ := hy
    obtain ⟨h1, h2, h3⟩ := deqL_ok K hK xs ys b e vs vs' i1 i2
    exact ⟨.tup (SqT.of hp) h1, .tup (SqT.of hp') h2, h3⟩
  | .int _, .non, _, e, _, _, _, _ | .int _, .bl _, _, e, _, _, _, _ | .int _, .str _, _, e, _, _, _, _ | .int _, .tup _, _, e, _, _, _, _ | .int _, .lst _, _, e, _, _, _, _ | .int _, .ptup _, _, e, _, _, _, _ | .int _, .dct _ _, _, e, _, _, _, _ | .int _, .ins _ _ _, _, e, _, _, _, _ | .int _, .ref _, _, e, _, _, _, _ => nomatch e
  | .str _, .non, _, e, _, _, _, _ | .str _, .bl _, _, e, _, _, _, _ | .str _, .int _, _, e, _, _, _, _ | .str _, .tup _, _, e, _, _, _, _ | .str _, .lst _, _, e, _, _, _, _ | .str _, .ptup _, _, e, _, _, _, _ | .str _, .dct _ _, _, e, _, _, _, _ | .str _, .ins _ _ _, _, e, _, _, _, _ | .str _, .ref _, _, e, _, _, _, _ => nomatch e
  | .bl _, .non, _, e, _, _, _, _ | .bl _, .int _, _, e, _, _, _, _ | .bl _, .str _, _, e, _, _, _, _ | .bl _, .tup _, _, e, _, _, _, _ | .bl _, .lst _, _, e, _, _, _, _ | .bl _, .ptup _, _, e, _, _, _, _ | .bl _, .dct _ _, _, e, _, _, _, _ | .bl _, .ins _ _ _, _, e, _, _, _, _ | .bl _, .ref _, _, e, _, _, _, _ => nomatch e
  | .tup _, .non, _, e, _, _, _, _ | .tup _, .int _, _, e, _, _, _, _ | .tup _, .str _, _, e, _, _, _, _ | .tup _, .bl _, _, e, _, _, _, _ | .tup _, .lst _, _, e, _, _, _, _ | .tup _, .ptup _, _, e, _, _, _, _ | .tup _, .dct _ _, _, e, _, _, _, _ | .tup _, .ins _ _ _, _, e, _, _, _, _ | .tup _, .ref _, _, e, _, _, _, _ => nomatch e
  | .non, _, _, e, _, _, _, _ | .lst _, _, _, e, _, _, _, _ | .ptup _, _, _, e, _, _, _, _ | .dct _ _, _, _, e, _, _, _, _ | .ins _ _ _, _, _, e, _, _, _, _ | .ref _, _, _, e, _, _, _, _ => nomatch e
theorem deqL_ok (K : PySem.W.Frag) {O : Addr → Prop} {H : Hp} (hK : g.K = K) : ∀ (xs ys : List D) (b : Bool), deqL xs ys = some b → ∀ vs us, IsL g O H xs vs → IsL g O H ys us → DpAll K H vs (toPy.toPys xs) ∧ DpAll K H us (toPy.toPys ys) ∧ PyData.eqvAll (toPy.toPys xs) (toPy.toPys ys) = b
  | [], [], b, e, vs, us, hx, hy => by
    cases e
    rw [show vs = [] from hx, show us = [] from hy]
    exact ⟨.nil, .nil, rfl⟩
  | x :: xs, y :: ys, b, e, vs, us, hx, hy => by
    obtain ⟨p, e1, e⟩ := ob_some e
    obtain ⟨q, e2, e⟩ := ob_some e
    cases e
    obtain ⟨v, vs', rfl, i1, i2⟩ := hx
    obtain ⟨u, us', rfl, j1, j2⟩ := hy
    obtain ⟨a1, a2, a3⟩ := deqB_ok K hK x y p e1 v u i1 j1
    obtain ⟨b1, b2, b3⟩ := deqL_ok K hK xs ys q e2 vs' us' i2 j2
    refine ⟨.cons a1 b1, .cons a2 b2, ?_⟩
    show (PyData.eqv (toPy x) (toPy y) && PyData.eqvAll (toPy.toPys xs) (toPy.toPys ys)) = (p && q)
    rw [a3, b3]
  | [], y :: ys, b, e, vs, us, hx, hy => nomatch e
  | x :: xs, [], b, e, vs, us, hx, hy => nomatch e
end
def rEqA (K : PySem.W.Frag) : R2 := fun x y H Q => rEq x y H Q ∨ rEqD K x y H Q
theorem op_eqA {X : Cx} (hu : X.A.units + 64 < cLine) : OpR X (compareOp .Eq) (rEqA X.K) := op_eq.or (op_eqD hu)
theorem rv_eq : RvO g r (rEqA g.K) deqD := fun x y d e O H hs hO v u hx hy Q q => by
  unfold deqD at e
  cases c : deqS x y with
  | some b =>
    rw [c] at e
    cases e
    obtain ⟨h1, h2⟩ := deqS_ok c hx hy
    exact .inl ⟨h1, by rw [h2]; exact q _ H R.refl rfl⟩
  | none =>
    rw [c] at e
    obtain ⟨s, e⟩ := ock_some e
    obtain ⟨b, e1, rfl⟩ := obl_some e
    rw [Bool.and_eq_true] at s
    obtain ⟨a1, a2, a3⟩ := deqB_ok g.K rfl x y b e1 v u hx hy
    exact .inr ⟨_, _, a1, a2, shaped_of s.1, shaped_of s.2, by rw [a3]; exact q _ H R.refl rfl⟩
end
end Z

namespace Z
open PySem PySem.Spec PyProof.Rows L2 NdefX LamX
section
variable {g : Gm} {r : Rl g} {ρ : Rho} {ω : Om} {ta tb tc te : TE} {ma mb mc m : Option D} {t u : TT} {mt mu : Option Bool}

theorem asB_some {d : D} {b : Bool} (h : asB d = some b) : d = .bl b := by cases d <;> cases h; rfl
theorem asI_some {d : D} {b : Int} (h : asI d = some b) : d = .int b := by cases d <;> cases h; rfl
theorem asS_some {d : D} {b : Str} (h : asS d = some b) : d = .str b := by cases d <;> cases h; rfl
theorem et_B (h : EvO g r te ρ ω m) : EvT g r (tB te) ρ ω (dtest m) := fun b e O σ H E Q q => by
  obtain ⟨d, e1, e2⟩ := ob_some e
  obtain rfl := asB_some e2
  exact h _ e1 O σ H E _ fun v H1 k1 i1 => ⟨b, i1, q H1 k1⟩
theorem et_and (h1 : EvT g r t ρ ω mt) (h2 : EvT g r u ρ ω mu) : EvT g r (tAnd t u) ρ ω (oif mt mu (some false)) := fun b e O σ H E Q q => by
  obtain ⟨k, e1, et, ef⟩ := oif_some e
  refine h1 k e1 O σ H E _ fun H1 k1 => ?_
  cases k with
  | true => exact h2 b (et rfl) O σ H1 (E.go k1) Q fun H2 k2 => q H2 (k1.trans k2)
  | false => cases ef rfl; exact q H1 k1
theorem et_or (h1 : EvT g r t ρ ω mt) (h2 : EvT g r u ρ ω mu) : EvT g r (tOr t u) ρ ω (oif mt (some true) mu) := fun b e O σ H E Q q => by
  obtain ⟨k, e1, et, ef⟩ := oif_some e
  refine h1 k e1 O σ H E _ fun H1 k1 => ?_
  cases k with
  | false => exact h2 b (ef rfl) O σ H1 (E.go k1) Q fun H2 k2 => q H2 (k1.trans k2)
  | true => cases et rfl; exact q H1 k1
theorem et_not (h1 : EvT g r t ρ ω mt) : EvT g r (tNot t) ρ ω (ob mt fun b => some (!b)) := fun b e O σ H E Q q => by
  obtain ⟨k, e1, e2⟩ := ob_some e
  cases e2
  exact h1 k e1 O σ H E _ fun H1 k1 => q H1 k1
theorem ev_and (h1 : EvO g r ta ρ ω ma) (h2 : EvO g r tb ρ ω mb) : EvO g r (tAndV ta tb) ρ ω (oif (dtest ma) mb (some (.bl false))) := fun d e O σ H E Q q => by
  obtain ⟨k, e1, et, ef⟩ := oif_some e
  obtain ⟨x, e1, e2⟩ := ob_some e1
  obtain rfl := asB_some e2
  refine h1 _ e1 O σ H E _ fun v H1 k1 i1 => ⟨k, i1, ?_⟩
  cases k with
  | true => exact h2 d (et rfl) O σ H1 (E.go k1) Q fun v H2 k2 => q v H2 (k1.trans k2)
  | false => cases ef rfl; exact q _ H1 k1 rfl
theorem ev_or (h1 : EvO g r ta ρ ω ma) (h2 : EvO g r tb ρ ω mb) : EvO g r (tOrV ta tb) ρ ω (oif (dtest ma) (some (.bl true)) mb) := fun d e O σ H E Q q => by
  obtain ⟨k, e1, et, ef⟩ := oif_some e
  obtain ⟨x, e1, e2⟩ := ob_some e1
  obtain rfl := asB_some e2
  refine h1 _ e1 O σ H E _ fun v H1 k1 i1 => ⟨k, i1, ?_⟩
  cases k with
  | false => exact h2 d (ef rfl) O σ H1 (E.go k1) Q fun v H2 k2 => q v H2 (k1.trans k2)
  | true => cases et rfl; exact q _ H1 k1 rfl
theorem ev_not (h1 : EvO g r ta ρ ω ma) : EvO g r (tNotV ta) ρ ω (ob ma dnotV) := fun d e O σ H E Q q => by
  obtain ⟨x, e1, e2⟩ := ob_some e
  cases x with
  | bl k =>
    cases e2
    exact h1 _ e1 O σ H E _ fun v H1 k1 i1 => ⟨k, i1, q _ H1 k1 rfl⟩
  | _ => cases e2
theorem ev_if (h : EvT g r t ρ ω mt) (h1 : EvO g r ta ρ ω ma) (h2 : EvO g r tb ρ ω mb) : EvO g r (tIf t ta tb) ρ ω (oif mt ma mb) := fun d e O σ H E Q q => by
  obtain ⟨k, e1, et, ef⟩ := oif_some e
  refine h k e1 O σ H E _ fun H1 k1 => ?_
  cases k with
  | true => exact h1 d (et rfl) O σ H1 (E.go k1) Q fun v H2 k2 => q v H2 (k1.trans k2)
  | false => exact h2 d (ef rfl) O σ H1 (E.go k1) Q fun v H2 k2 => q v H2 (k1.trans k2)
theorem isNon_ok {O : Addr → Prop} {H : Hp} {d : D} {v : V} (h : Is g O H d v) : decide (v = .non) = isNonD d := by
  cases d with
  | non => rw [show v = .non from h]; rfl
  | bl b => rw [show v = .bl b from h]; rfl
  | int b => rw [show v = .int b from h]; rfl
  | str b => rw [show v = .str b from h]; rfl
  | ref b => rw [show v = .ref b from h]; rfl
  | tup b => obtain ⟨a, vs, e, _⟩ := h; rw [e]; rfl
  | ptup b => obtain ⟨a, o, vs, e, _⟩ := h; rw [e]; rfl
  | lst b => obtain ⟨a, vs, e, _⟩ := h; rw [e]; rfl
  | dct b c => obtain ⟨a, vs, e, _⟩ := h; rw [e]; rfl
  | ins c fn ds => obtain ⟨a, dx, fs, vs, e, _⟩ := h; rw [e]; rfl
theorem ev_isN (h : EvO g r ta ρ ω ma) : EvO g r (tIsN ta) ρ ω (ob ma fun d => some (.bl (isNonD d))) := fun d e O σ H E Q q => by
  obtain ⟨x, e1, e2⟩ := ob_some e
  cases e2
  refine h x e1 O σ H E _ fun v H1 k1 i1 => ?_
  rw [isNon_ok i1]
  exact q _ H1 k1 rfl
theorem ev_notN (h : EvO g r ta ρ ω ma) : EvO g r (tNotN ta) ρ ω (ob ma fun d => some (.bl (!isNonD d))) := fun d e O σ H E Q q => by
  obtain ⟨x, e1, e2⟩ := ob_some e
  cases e2
  refine h x e1 O σ H E _ fun v H1 k1 i1 => ?_
  rw [isNon_ok i1]
  exact q _ H1 k1 rfl
theorem ev_chain {rr rr' : R2} {f f' : D → D → Option D} (hr : RvO g r rr f) (hr' : RvO g r rr' f') (ha : EvO g r ta ρ ω ma) (hb : EvO g r tb ρ ω mb) (hc : EvO g r tc ρ ω mc) : EvO g r (tChain rr rr' ta tb tc) ρ ω (dchain f f' ma mb mc) := fun d e O σ H E Q q => by
  obtain ⟨x, e1, e⟩ := ob_some e
  obtain ⟨y, e2, e⟩ := ob_some e
  obtain ⟨p, e3, e⟩ := ob_some e
  obtain ⟨z, e3, e4⟩ := ob_some e3
  refine ha x e1 O σ H E _ fun v H1 k1 i1 => ?_
  refine hb y e2 O σ H1 (E.go k1) _ fun u H2 k2 i2 => ?_
  have k12 := k1.trans k2
  refine hr x y z e3 O H2 E.sub (E.go k12).hid v u (Is.kp (k2.kp E.sub) _ _ i1) i2 _ fun w H3 k3 i3 => ?_
  have k13 := k12.trans k3
  obtain rfl := asB_some e4
  refine ⟨p, i3, ?_⟩
  cases p with
  | true =>
    obtain ⟨c, e5, e6⟩ := ob_some (show (ob mc fun c => f' y c) = some d from e)
    refine hc c e5 O σ H3 (E.go k13) _ fun w' H4 k4 i4 => ?_
    exact hr' y c d e6 O H4 E.sub (E.go (k13.trans k4)).hid u w' (Is.kp ((k3.trans k4).kp E.sub) _ _ i2) i4 Q fun w2 H5 k5 i5 => q w2 H5 ((k13.trans k4).trans k5) i5
  | false =>
    cases (show some (D.bl false) = some d from e)
    exact q _ H3 k13 rfl

structure FldOk (g : Gm) (c : Nat) (f : Str) : Prop where
  cl : Cls g.K (g.cl c)
  no : NoAttr g.K (g.cl c) f
theorem lookZ_len {α : Type} : ∀ {ks : List Str} {xs : List α} {j : Str} {x : α}, lookZ ks xs j = some x → x ∈ xs
  | [], _, _, _, h => by cases h
  | _ :: _, [], _, _, h => by cases h
  | k :: ks, y :: xs, j, x, h => by
    unfold lookZ at h
    cases e : decide (k = j) with
    | true => rw [e] at h; cases h; exact List.mem_cons_self
    | false => rw [e] at h; exact List.mem_cons_of_mem _ (lookZ_len h)
theorem look_is {O : Addr → Prop} {H : Hp} : ∀ {ks : List Str} {ds : List D} {vs : List V} {j : Str} {d : D}, IsL g O H ds vs → lookZ ks ds j = some d → ∃ v, lookZ ks vs j = some v ∧ Is g O H d v
  | [], _, _, _, _, _, h => by cases h
  | _ :: _, [], _, _, _, _, h => by cases h
  | k :: ks, x :: ds, vs, j, d, i, h => by
    obtain ⟨v, r, rfl, i1, i2⟩ := i
    unfold lookZ at h ⊢
    cases e : decide (k = j) with
    | true => rw [e] at h; cases h; exact ⟨v, rfl, i1⟩
    | false => rw [e] at h; exact look_is i2 h
theorem ev_fld {c : Nat} {f : Str} (F : FldOk g c f) (h : EvO g r ta ρ ω ma) : EvO g r (tFld g.K ta f) ρ ω (ob ma (dfld c f)) := fun d e O σ H E Q q => by
  obtain ⟨x, e1, e2⟩ := ob_some e
  cases x with
  | ins c' fn ds =>
    obtain ⟨ec, e3⟩ := ock_some (show ock (Nat.beq c' c) (lookZ fn ds f) = some d from e2)
    have ec : c' = c := Nat.eq_of_beq_eq_true ec
    subst ec
    refine h _ e1 O σ H E _ fun v H1 k1 i1 => ?_
    obtain ⟨a, dx, fs, vs, rfl, n, ha, iv, l, hf⟩ := i1
    obtain ⟨v, hv, i2⟩ := look_is iv e3
    exact ⟨a, _, dx, fs, v, rfl, ha, F.cl, F.no, hf.get f v hv, q v H1 k1 i2⟩
  | _ => cases e2
theorem getO_at {O : Addr → Prop} {H : Hp} {ds : List D} {vs : List V} {i : Int} {d : D} (h : IsL g O H ds vs) (e : getO ds i = some d) : ∃ v, atI vs i = some v ∧ Is g O H d v := by
  obtain ⟨j, e1, e2⟩ := ob_some (getO_eq e)
  obtain ⟨v, h1, h2⟩ := h.get e2
  refine ⟨v, ?_, h2⟩
  unfold atI
  have : ixN vs.length i = some j := by rw [← h.length]; exact e1
  rw [this]
  exact h1
theorem rv_ix : RvO g r (rIx g.K) (fun x y => match x with | .dct _ _ => none | _ => dix x y) := fun x y d e O H hs hO v u hx hy Q q => by
  cases x with
  | tup ds => cases y with
    | int i =>
      obtain ⟨a, vs, rfl, ha, _, iv⟩ := hx
      obtain ⟨w, h1, h2⟩ := getO_at iv e
      exact .inr (.inl ⟨a, vs, i, w, rfl, hy, SqT.of ha, h1, q w H R.refl h2⟩)
    | _ => cases e
  | lst ds => cases y with
    | int i =>
      obtain ⟨a, vs, rfl, _, ha, _, iv⟩ := hx
      obtain ⟨w, h1, h2⟩ := getO_at iv e
      exact .inl ⟨a, vs, i, w, rfl, hy, SqL.of ha, h1, q w H R.refl h2⟩
    | _ => cases e
  | _ => cases y <;> cases e
theorem ev_ix (ha : EvO g r ta ρ ω ma) (hb : EvO g r tb ρ ω mb) : EvO g r (tOp (rIx g.K) ta tb) ρ ω (o2 dixS ma mb) := ev_op rv_ix ha hb
theorem valV_kvz : ∀ {ks : List Str} {vs : List V} {j : Str}, valV (kvz ks vs) (Sum.inr j : Key) = lookZ ks vs j
  | [], _, _ => rfl
  | _ :: _, [], _ => rfl
  | k :: ks, v :: vs, j => by
    unfold lookZ
    by_cases e : k = j
    · rw [decide_eq_true e]
      exact valV_pos (p := ((Sum.inr k : Key), v)) (by rw [e])
    · rw [decide_eq_false e]
      exact (valV_neg (p := ((Sum.inr k : Key), v)) (fun z => e (Sum.inr.inj z))).trans valV_kvz
theorem dget_of {O : Addr → Prop} {H : Hp} {a : Addr} {ks : List Str} {vs : List V} (h : Rd H a (.dK (kvz ks vs))) (j : Str) : DGet H a (.str j) (lookZ ks vs j) := .inl ⟨_, Sum.inr j, h, rfl, valV_kvz.symm⟩
theorem ev_dget (ha : EvO g r ta ρ ω ma) (hb : EvO g r tb ρ ω mb) : EvO g r (tDGet ta tb) ρ ω (o2 ddget ma mb) := fun d e O σ H E Q q => by
  obtain ⟨x, y, e1, e2, e3⟩ := o2_some e
  refine ha x e1 O σ H E _ fun v H1 k1 i1 => ?_
  refine hb y e2 O σ H1 (E.go k1) _ fun u H2 k2 i2 => ?_
  cases x with
  | dct ks ds => cases y with
    | str j =>
      obtain ⟨a, vs, rfl, n, ha, l, _, iv⟩ := Is.kp (k2.kp E.sub) _ _ i1
      obtain ⟨w, h1, h2⟩ := look_is iv e3
      have hg : DGet H2 a (.str j) (some w) := by rw [← h1]; exact dget_of (O := O) ha j
      rw [show u = .str j from i2]
      exact ⟨a, w, rfl, hg, q w H2 (k1.trans k2) h2⟩
    | _ => cases e3
  | _ => cases e3
theorem any_look {α : Type} {ks : List Str} {xs : List α} {j : Str} : ks.length = xs.length → (lookZ ks xs j).isSome = ks.any fun k => decide (k = j) := by
  induction ks generalizing xs with
  | nil => intro _; cases xs <;> rfl
  | cons k ks ih =>
    intro l
    cases xs with
    | nil => cases l
    | cons x xs =>
      rw [List.any_cons]
      unfold lookZ
      cases e : decide (k = j) with
      | true => rfl
      | false => rw [Bool.false_or]; exact ih (by simpa using l)
/-- y not in d, d the frame's own dict -/
theorem ev_dnotinOwn {i : Nat} {c : D} (hb : EvO g r tb ρ (some (i, c)) mb) : EvO g r (tDNotIn tb (tVar i)) ρ (some (i, c)) (ob mb (downNot c)) := fun d e O σ H E Q q => by
  obtain ⟨y, e1, e2⟩ := ob_some e
  cases c with
  | dct ks ds =>
    cases y with
    | str j =>
      cases e2
      refine hb _ e1 O σ H E _ fun u H2 k2 i2 => ?_
      have E2 := E.go k2
      obtain ⟨p, h1, h2, h3, vs, h4, nd, l, z, iv⟩ := E2.own _ _ rfl
      refine ⟨_, h1, p, lookZ ks vs j, rfl, ?_, ?_⟩
      · rw [show u = .str j from i2]; exact dget_of (O := O) (.inl h4) j
      · rw [any_look l]; exact q _ H2 k2 rfl
    | _ => cases e2
  | _ => cases e2
/-- d[y], d the frame's own dict -/
theorem ev_dgetOwn {i : Nat} {c : D} (hb : EvO g r tb ρ (some (i, c)) mb) : EvO g r (tDGet (tVar i) tb) ρ (some (i, c)) (ob mb (dixOwnK c)) := fun d e O σ H E Q q => by
  obtain ⟨y, e1, e2⟩ := ob_some e
  cases c with
  | dct ks ds =>
    cases y with
    | str j =>
      obtain ⟨p, h1, h2, h3, h4⟩ := E.own _ _ rfl
      refine ⟨_, h1, ?_⟩
      refine hb _ e1 O σ H E _ fun u H2 k2 i2 => ?_
      have E2 := E.go k2
      obtain ⟨vs, h4, nd, l, z, iv⟩ := CnIs.go k2 E.sub h3 h4
      obtain ⟨w, h5, h6⟩ := look_is iv e2
      refine ⟨p, w, rfl, ?_, q w H2 k2 h6⟩
      rw [show u = .str j from i2, ← h5]
      exact dget_of (O := O) (.inl h4) j
    | _ => cases e2
  | _ => cases e2
/-- len(d), d the frame's own dict -/
def rLenDk : List V → Hp → VK → Prop := fun xs H Q => ∃ a kvs, xs = [V.ref a] ∧ H a = some (.dK kvs) ∧ Q (.int kvs.length) H
theorem call_lenDk {X : Cx} : CallR X (.builtin "len") rLenDk := call_lenD
theorem kvz_len : ∀ {ks : List Str} {vs : List V}, ks.length = vs.length → (kvz ks vs).length = ks.length
  | [], _, _ => rfl
  | _ :: _, [], h => by cases h
  | k :: ks, v :: vs, h => by
    show (kvz ks vs).length + 1 = ks.length + 1
    rw [kvz_len (by simpa using h)]
theorem ev_lenOwn {i : Nat} {c : D} : EvO g r (tCB rLenDk (tCons (tVar i) tNil)) ρ (some (i, c)) (dlenOwn c) := fun d e O σ H E Q q => by
  cases c with
  | dct ks ds =>
    cases e
    obtain ⟨p, h1, h2, h3, vs, h4, nd, l, z, iv⟩ := E.own _ _ rfl
    refine ⟨_, h1, p, _, rfl, h4, ?_⟩
    rw [kvz_len l]
    exact q _ H R.refl rfl
  | _ => cases e
/-- xs[-1] ..: an item of the frame's own list -/
theorem ev_ixOwn {i : Nat} {c : D} (hb : EvO g r tb ρ (some (i, c)) mb) : EvO g r (tOp (rIx g.K) (tVar i) tb) ρ (some (i, c)) (ob mb (dixOwnL c)) := fun d e O σ H E Q q => by
  obtain ⟨y, e1, e2⟩ := ob_some e
  cases c with
  | lst ds =>
    cases y with
    | int j =>
      obtain ⟨p, h1, h2, h3, h4⟩ := E.own _ _ rfl
      refine ⟨_, h1, ?_⟩
      refine hb _ e1 O σ H E _ fun u H2 k2 i2 => ?_
      obtain ⟨vs, h4, z, iv⟩ := CnIs.go k2 E.sub h3 h4
      obtain ⟨w, h5, h6⟩ := getO_at iv e2
      exact .inl ⟨p, vs, j, w, rfl, i2, SqL.of h4, h5, q w H2 k2 h6⟩
    | _ => cases e2
  | _ => cases e2

theorem ep_none : EvP g r tNoPart ρ ω (some none) := fun o e O σ H E Q q => by cases e; exact q H R.refl
theorem ep_some (h : EvO g r te ρ ω m) : EvP g r (tPart te) ρ ω (ob m asP) := fun o e O σ H E Q q => by
  obtain ⟨d, e1, e⟩ := ob_some e
  cases d with
  | int i =>
    cases e
    exact h _ e1 O σ H E _ fun v H1 k1 i1 => ⟨i, i1, q H1 k1⟩
  | _ => cases e
def rSlD (K : PySem.W.Frag) : V → Option Int → Option Int → Hp → VK → Prop := fun x lo hi H Q => rSlA K x lo hi H Q ∨ rSlL K x lo hi H Q
theorem sl_D {X : Cx} : SlR X (rSlD X.K) := sl_tupA.or sl_list
theorem sx_eq (n d : Nat) (o : Option Int) : sx n d o = HT.sIx n d o := by
  cases o with
  | none => rfl
  | some i => rfl
theorem cut_is {O : Addr → Prop} {H : Hp} {ds : List D} {vs : List V} (h : IsL g O H ds vs) (lo hi : Option Int) : IsL g O H (cutO ds lo hi) (cutV vs lo hi) := by
  unfold cutO cutV
  rw [h.length, sx_eq, sx_eq]
  exact (h.drop _).take _
theorem cut_whole {α : Type} {xs : List α} {lo hi : Option Int} (h1 : sx xs.length 0 lo = 0) (h2 : sx xs.length xs.length hi = xs.length) : cutO xs lo hi = xs := by
  unfold cutO
  rw [h1, h2, List.drop_zero, Nat.sub_zero, List.take_length]
theorem ev_sl {tl th : TO} {ml mh : Option (Option Int)} (h : EvO g r te ρ ω m) (hl : EvP g r tl ρ ω ml) (hh : EvP g r th ρ ω mh) : EvO g r (tSl (rSlD g.K) te tl th) ρ ω (dslD m ml mh) := fun d e O σ H E Q q => by
  obtain ⟨x, e1, e⟩ := ob_some e
  obtain ⟨lo, e2, e⟩ := ob_some e
  obtain ⟨hi, e3, e⟩ := ob_some e
  refine h x e1 O σ H E _ fun v H1 k1 i1 => ?_
  refine hl lo e2 O σ H1 (E.go k1) _ fun H2 k2 => ?_
  have k12 := k1.trans k2
  refine hh hi e3 O σ H2 (E.go k12) _ fun H3 k3 => ?_
  have k13 := k12.trans k3
  have i3 := Is.kp ((k2.trans k3).kp E.sub) _ _ i1
  cases x with
  | tup ds =>
    cases e
    obtain ⟨a, vs, rfl, ha, z, iv⟩ := i3
    refine .inl ⟨a, vs, rfl, SqT.of ha, fun w => ?_, fun w p hp => ?_⟩
    · have e4 : cutO ds lo hi = ds := cut_whole (by rw [iv.length, sx_eq]; exact w.1) (by rw [iv.length, sx_eq]; exact w.2)
      refine q _ H3 k13 ?_
      rw [e4]
      exact ⟨a, vs, rfl, ha, z, iv⟩
    · have k : R g r H3 (upd H3 p (.tup (cutV vs lo hi))) := R.new hp fun _ z => by cases z
      exact q _ _ (k13.trans k) ⟨p, _, rfl, upd_same, Nat.le_trans (cutV_length _ _ _) z, IsL.kp (k.kp E.sub) _ _ (cut_is iv lo hi)⟩
  | lst ds =>
    cases e
    obtain ⟨a, vs, rfl, n, ha, z, iv⟩ := i3
    refine .inr ⟨a, vs, rfl, SqL.of ha, fun p hp => ?_⟩
    have k : R g r H3 (upd H3 p (.lst (cutV vs lo hi))) := R.new hp fun _ z => by cases z
    exact q _ _ (k13.trans k) ⟨p, _, rfl, fun z => (E.go k13).hid p z hp, upd_same, Nat.le_trans (cutV_length _ _ _) z, IsL.kp (k.kp E.sub) _ _ (cut_is iv lo hi)⟩
  | _ => cases e

variable {tr : TA} {ms : Option (List D)}
theorem ea_nil : EvA g r tNil ρ ω (some []) := fun ds e O σ H E Q q => by cases e; exact q [] H R.refl rfl
theorem ea_cons (h : EvO g r te ρ ω m) (hr : EvA g r tr ρ ω ms) : EvA g r (tCons te tr) ρ ω (lCons m ms) := fun ds e O σ H E Q q => by
  obtain ⟨d, e1, e⟩ := ob_some e
  obtain ⟨es, e2, e⟩ := ob_some e
  cases e
  refine h d e1 O σ H E _ fun v H1 k1 i1 => ?_
  refine hr es e2 O σ H1 (E.go k1) _ fun vs H2 k2 i2 => ?_
  exact q _ H2 (k1.trans k2) ⟨v, vs, rfl, Is.kp (k2.kp E.sub) _ _ i1, i2⟩
theorem ev_tup (h : EvA g r tr ρ ω ms) : EvO g r (tTup tr) ρ ω (ob ms dtupD) := fun d e O σ H E Q q => by
  obtain ⟨ds, e1, e⟩ := ob_some e
  obtain ⟨c, e⟩ := ock_some e
  cases e
  refine h ds e1 O σ H E _ fun vs H1 k1 i1 => ?_
  have hl : vs.length ≤ sizeLine := by rw [← i1.length]; exact small_le c
  refine ⟨hl, fun p hp => ?_⟩
  have k : R g r H1 (upd H1 p (.tup vs)) := R.new hp fun _ z => by cases z
  exact q _ _ (k1.trans k) ⟨p, vs, rfl, upd_same, hl, IsL.kp (k.kp E.sub) _ _ i1⟩
theorem ev_lst (h : EvA g r tr ρ ω ms) : EvO g r (tLst tr) ρ ω (ob ms dlstD) := fun d e O σ H E Q q => by
  obtain ⟨ds, e1, e⟩ := ob_some e
  obtain ⟨c, e⟩ := ock_some e
  cases e
  refine h ds e1 O σ H E _ fun vs H1 k1 i1 => ?_
  have hl : vs.length ≤ sizeLine := by rw [← i1.length]; exact small_le c
  refine ⟨hl, fun p hp => ?_⟩
  have k : R g r H1 (upd H1 p (.lst vs)) := R.new hp fun _ z => by cases z
  exact q _ _ (k1.trans k) ⟨p, vs, rfl, fun z => (E.go k1).hid p z hp, upd_same, hl, IsL.kp (k.kp E.sub) _ _ i1⟩

def RcO (g : Gm) (r : Rl g) (rr : List V → Hp → VK → Prop) (f : List D → Option D) : Prop := ∀ ds d, f ds = some d → ∀ (O : Addr → Prop) (H : Hp), (∀ b, r.L b → O b) → (∀ b, O b → H b ≠ none) → ∀ vs, IsL g O H ds vs → ∀ Q : VK, (∀ w H', R g r H H' → Is g O H' d w → Q w H') → rr vs H Q
theorem ev_cb {rr : List V → Hp → VK → Prop} {f : List D → Option D} (hr : RcO g r rr f) (h : EvA g r tr ρ ω ms) : EvO g r (tCB rr tr) ρ ω (ob ms f) := fun d e O σ H E Q q => by
  obtain ⟨ds, e1, e⟩ := ob_some e
  refine h ds e1 O σ H E _ fun vs H1 k1 i1 => ?_
  exact hr ds d e O H1 E.sub (E.go k1).hid vs i1 Q fun w H2 k2 i2 => q w H2 (k1.trans k2) i2
theorem rc_1 {rr : List V → Hp → VK → Prop} {f : D → Option D} (h : ∀ x d, f x = some d → ∀ (O : Addr → Prop) (H : Hp), (∀ b, r.L b → O b) → (∀ b, O b → H b ≠ none) → ∀ v, Is g O H x v → ∀ Q : VK, (∀ w H', R g r H H' → Is g O H' d w → Q w H') → rr [v] H Q) : RcO g r rr (d1 f) := fun ds d e O H hs hO vs i Q q => by
  cases ds with
  | nil => cases e
  | cons x ds => cases ds with
    | nil =>
      obtain ⟨v, r', rfl, i1, i2⟩ := i
      rw [show r' = [] from i2]
      exact h x d e O H hs hO v i1 Q q
    | cons y ds => cases e
theorem rc_2 {rr : List V → Hp → VK → Prop} {f : D → D → Option D} (h : ∀ x y d, f x y = some d → ∀ (O : Addr → Prop) (H : Hp), (∀ b, r.L b → O b) → (∀ b, O b → H b ≠ none) → ∀ v u, Is g O H x v → Is g O H y u → ∀ Q : VK, (∀ w H', R g r H H' → Is g O H' d w → Q w H') → rr [v, u] H Q) : RcO g r rr (d2 f) := fun ds d e O H hs hO vs i Q q => by
  cases ds with
  | nil => cases e
  | cons x ds => cases ds with
    | nil => cases e
    | cons y ds => cases ds with
      | nil =>
        obtain ⟨v, r', rfl, i1, u, r2, rfl, i2, i3⟩ := i
        rw [show r2 = [] from i3]
        exact h x y d e O H hs hO v u i1 i2 Q q
      | cons z ds => cases e
/-- len of a list, a tuple, a text -/
def rLenS : PySem.W.Frag → List V → Hp → VK → Prop := fun K xs H Q => ∃ x n, xs = [x] ∧ LenV K x H n ∧ Q (.int n) H
theorem call_lenS {X : Cx} : CallR X (.builtin "len") (rLenS X.K) := call_len
theorem rc_len : RcO g r (rLenS g.K) (d1 dlen) := rc_1 fun x d e O H hs hO v i Q q => by
  cases x with
  | tup ds =>
    cases e
    obtain ⟨a, vs, rfl, ha, _, iv⟩ := i
    exact ⟨_, ds.length, rfl, .inr ⟨vs, SqT.of ha, iv.length⟩, q _ H R.refl rfl⟩
  | lst ds =>
    cases e
    obtain ⟨a, vs, rfl, _, ha, _, iv⟩ := i
    exact ⟨_, ds.length, rfl, .inl ⟨vs, SqL.of ha, iv.length⟩, q _ H R.refl rfl⟩
  | str s =>
    obtain ⟨c, e⟩ := ock_some e
    cases e
    rw [show v = .str s from i]
    exact ⟨_, s.length, rfl, ⟨small_le c, rfl⟩, q _ H R.refl rfl⟩
  | _ => cases e
theorem asBs_is {O : Addr → Prop} {H : Hp} : ∀ {ds : List D} {vs : List V} {bs : List Bool}, IsL g O H ds vs → asBs ds = some bs → vs = bs.map V.bl
  | [], vs, bs, i, e => by cases e; exact i
  | d :: ds, vs, bs, i, e => by
    obtain ⟨b, e1, e⟩ := ob_some e
    obtain ⟨cs, e2, e⟩ := ob_some e
    cases e
    obtain ⟨v, r', rfl, i1, i2⟩ := i
    obtain rfl := asB_some e1
    rw [show v = .bl b from i1, asBs_is i2 e2] <;> rfl
theorem asIs_is {O : Addr → Prop} {H : Hp} : ∀ {ds : List D} {vs : List V} {bs : List Int}, IsL g O H ds vs → asIs ds = some bs → vs = bs.map V.int
  | [], vs, bs, i, e => by cases e; exact i
  | d :: ds, vs, bs, i, e => by
    obtain ⟨b, e1, e⟩ := ob_some e
    obtain ⟨cs, e2, e⟩ := ob_some e
    cases e
    obtain ⟨v, r', rfl, i1, i2⟩ := i
    obtain rfl := asI_some e1
    rw [show v = .int b from i1, asIs_is i2 e2] <;> rfl
theorem asSs_is {O : Addr → Prop} {H : Hp} : ∀ {ds : List D} {vs : List V} {bs : List Str}, IsL g O H ds vs → mapO asS ds = some bs → vs = bs.map V.str
  | [], vs, bs, i, e => by cases e; exact i
  | d :: ds, vs, bs, i, e => by
    obtain ⟨b, e1, e⟩ := ob_some e
    obtain ⟨cs, e2, e⟩ := ob_some e
    cases e
    obtain ⟨v, r', rfl, i1, i2⟩ := i
    obtain rfl := asS_some e1
    rw [show v = .str b from i1, asSs_is i2 e2] <;> rfl
theorem rc_all : RcO g r (rAll g.K) (d1 dall) := rc_1 fun x d e O H hs hO v i Q q => by
  cases x with
  | lst ds =>
    obtain ⟨bs, e1, e⟩ := ob_some e
    cases e
    obtain ⟨a, vs, rfl, _, ha, _, iv⟩ := i
    exact ⟨a, bs, rfl, by rw [← asBs_is iv e1]; exact SqL.of ha, q _ H R.refl rfl⟩
  | _ => cases e
theorem rc_sum : RcO g r (rSum g.K) (d1 dsum) := rc_1 fun x d e O H hs hO v i Q q => by
  cases x with
  | lst ds =>
    obtain ⟨bs, e1, e⟩ := ob_some e
    cases e
    obtain ⟨a, vs, rfl, _, ha, _, iv⟩ := i
    exact ⟨a, bs, rfl, by rw [← asIs_is iv e1]; exact SqL.of ha, q _ H R.refl rfl⟩
  | _ => cases e
theorem maxI_mem : ∀ (r : List Int) (m : Int), maxI m r ∈ m :: r ∧ ∀ y ∈ m :: r, y ≤ maxI m r
  | [], m => ⟨List.mem_singleton.mpr rfl, fun y h => by rw [List.mem_singleton.mp h]; exact Int.le_refl _⟩
  | x :: r, m => by
    obtain ⟨h1, h2⟩ := maxI_mem r (if m < x then x else m)
    have e : maxI m (x :: r) = maxI (if m < x then x else m) r := rfl
    rw [e]
    refine ⟨?_, fun y hy => ?_⟩
    · rcases List.mem_cons.mp h1 with h | h
      · rw [h]
        split
        · exact List.mem_cons_of_mem _ List.mem_cons_self
        · exact List.mem_cons_self
      · exact List.mem_cons_of_mem _ (List.mem_cons_of_mem _ h)
    · have h3 := h2 _ List.mem_cons_self
      rcases List.mem_cons.mp hy with h | h
      · rw [h]
        split at h3 <;> rename_i hc <;> first | omega | (split <;> omega)
      · rcases List.mem_cons.mp h with h | h
        · rw [h]
          split at h3 <;> rename_i hc <;> first | omega | (split <;> omega)
        · exact h2 y (List.mem_cons_of_mem _ h)
theorem rc_max : RcO g r (rMax g.K) (d1 dmax) := rc_1 fun x d e O H hs hO v i Q q => by
  cases x with
  | lst ds =>
    obtain ⟨bs, e1, e⟩ := ob_some e
    obtain ⟨a, vs, rfl, _, ha, _, iv⟩ := i
    cases bs with
    | nil => cases e
    | cons n ns =>
      cases e
      refine ⟨a, n :: ns, rfl, by rw [← asIs_is iv e1]; exact SqL.of ha, Nat.succ_pos _, fun m hm hle => ?_⟩
      obtain ⟨h1, h2⟩ := maxI_mem ns n
      have : m = maxI n ns := Int.le_antisymm (h2 m hm) (hle _ h1)
      rw [this]
      exact q _ H R.refl rfl
  | _ => cases e
def rMax2 : List V → Hp → VK → Prop := fun xs H Q => ∃ i j, xs = [.int i, .int j] ∧ Q (.int (if j > i then j else i)) H
theorem call_max2' {X : Cx} (hc : X.calm = true) : CallR X (.builtin "max") rMax2 := call_max2 hc
theorem rc_max2 : RcO g r rMax2 (d2 dmax2) := rc_2 fun x y d e O H hs hO v u i j Q q => by
  cases x with
  | int a => cases y with
    | int b => cases e; exact ⟨a, b, by rw [show v = .int a from i, show u = .int b from j], q _ H R.refl rfl⟩
    | _ => cases e
  | _ => cases y <;> cases e
def rAbs : List V → Hp → VK → Prop := fun xs H Q => ∃ i, xs = [.int i] ∧ Q (.int (if i < 0 then -i else i)) H
theorem call_abs' {X : Cx} : CallR X (.builtin "abs") rAbs := call_abs
theorem rc_abs : RcO g r rAbs (d1 dabs) := rc_1 fun x d e O H hs hO v i Q q => by
  cases x with
  | int a => cases e; exact ⟨a, by rw [show v = .int a from i], q _ H R.refl rfl⟩
  | _ => cases e
def rInt1 : List V → Hp → VK → Prop := fun xs H Q => (∃ i, xs = [.int i] ∧ Q (.int i) H) ∨ ∃ k, xs = [.bl k] ∧ Q (.int (if k then 1 else 0)) H
theorem call_int' {X : Cx} : CallR X (.type "int") rInt1 := call_int1
theorem rc_int : RcO g r rInt1 (d1 dint) := rc_1 fun x d e O H hs hO v i Q q => by
  cases x with
  | int a => cases e; exact .inl ⟨a, by rw [show v = .int a from i], q _ H R.refl rfl⟩
  | bl a => cases e; exact .inr ⟨a, by rw [show v = .bl a from i], q _ H R.refl rfl⟩
  | _ => cases e
def rTuple (K : PySem.W.Frag) : List V → Hp → VK → Prop := fun xs H Q => ∃ p ys, xs = [.ref p] ∧ ((SqL K H p ys ∧ ∀ l, H l = none → Q (.ref l) (upd H l (.tup ys))) ∨ (SqT K H p ys ∧ Q (.ref p) H))
theorem call_tuple' {X : Cx} : CallR X (.type "tuple") (rTuple X.K) := call_tuple_of
theorem rc_tuple : RcO g r (rTuple g.K) (d1 dtupS) := rc_1 fun x d e O H hs hO v i Q q => by
  cases x with
  | lst ds =>
    cases e
    obtain ⟨a, vs, rfl, _, ha, z, iv⟩ := i
    refine ⟨a, vs, rfl, .inl ⟨SqL.of ha, fun p hp => ?_⟩⟩
    have k : R g r H (upd H p (.tup vs)) := R.new hp fun _ z => by cases z
    exact q _ _ k ⟨p, vs, rfl, upd_same, z, IsL.kp (k.kp hs) _ _ iv⟩
  | tup ds =>
    cases e
    obtain ⟨a, vs, rfl, ha, z, iv⟩ := i
    exact ⟨a, vs, rfl, .inr ⟨SqT.of ha, q _ H R.refl ⟨a, vs, rfl, ha, z, iv⟩⟩⟩
  | _ => cases e
def rListS (K : PySem.W.Frag) : List V → Hp → VK → Prop := fun xs H Q => ∃ p ys, xs = [.ref p] ∧ (SqL K H p ys ∨ SqT K H p ys) ∧ ∀ l, H l = none → Q (.ref l) (upd H l (.lst ys))
theorem call_list' {X : Cx} : CallR X (.type "list") (rListS X.K) := call_list_of
theorem rc_list : RcO g r (rListS g.K) (d1 dlist) := rc_1 fun x d e O H hs hO v i Q q => by
  cases x with
  | lst ds =>
    cases e
    obtain ⟨a, vs, rfl, _, ha, z, iv⟩ := i
    refine ⟨a, vs, rfl, .inl (SqL.of ha), fun p hp => ?_⟩
    have k : R g r H (upd H p (.lst vs)) := R.new hp fun _ z => by cases z
    exact q _ _ k ⟨p, vs, rfl, fun z => hO p z hp, upd_same, z, IsL.kp (k.kp hs) _ _ iv⟩
  | tup ds =>
    cases e
    obtain ⟨a, vs, rfl, ha, z, iv⟩ := i
    refine ⟨a, vs, rfl, .inr (SqT.of ha), fun p hp => ?_⟩
    have k : R g r H (upd H p (.lst vs)) := R.new hp fun _ z => by cases z
    exact q _ _ k ⟨p, vs, rfl, fun z => hO p z hp, upd_same, z, IsL.kp (k.kp hs) _ _ iv⟩
  | _ => cases e
/-- x in a written tuple of texts -/
theorem inV_str (s : Str) (zs : List Str) : inV (.str s) (zs.map V.str) = zs.any fun z => decide (z = s) := by
  unfold inV
  rw [List.any_map]
  congr 1
theorem all_flat_str : ∀ zs : List Str, (zs.map V.str).all flatV = true
  | [] => rfl
  | z :: zs => by rw [List.map_cons, List.all_cons, all_flat_str zs] <;> rfl
theorem rv_inT : RvO g r (rIn g.K false) dinTD := fun x y d e O H hs hO v u hx hy Q q => by
  cases x with
  | str s => cases y with
    | tup ds =>
      obtain ⟨zs, e1, e⟩ := ob_some e
      cases e
      obtain ⟨a, vs, rfl, ha, _, iv⟩ := hy
      have ev := asSs_is iv e1
      subst ev
      rw [show v = .str s from hx]
      refine ⟨a, _, rfl, .inr (SqT.of ha), rfl, all_flat_str _, ?_⟩
      show Q (.bl (inV (.str s) (zs.map V.str))) H
      rw [inV_str]
      exact q _ H R.refl rfl
    | _ => cases e
  | _ => cases y <;> cases e
/-- isinstance(x, T) of a built-in type -/
def kindD : D → Option String
  | .bl _ => some "bool"
  | .int _ => some "int"
  | .str _ => some "str"
  | .tup _ => some "tuple"
  | .ptup _ => some "tuple"
  | .lst _ => some "list"
  | .dct _ _ => some "dict"
  | .non => some "NoneType"
  | _ => none
theorem kind_ty {O : Addr → Prop} {H : Hp} {d : D} {v : V} {k : String} (h : kindD d = some k) (i : Is g O H d v) : TyX g.K H v (.type k) := by
  cases d with
  | non => cases h; rw [show v = .non from i]; exact .base .non
  | bl b => cases h; rw [show v = .bl b from i]; exact .base (.bl b)
  | int b => cases h; rw [show v = .int b from i]; exact .base (.int b)
  | str b => cases h; rw [show v = .str b from i]; exact .base (.str b)
  | tup b => cases h; obtain ⟨a, vs, rfl, ha, _⟩ := i; exact .base (.tup ha)
  | ptup b => cases h; obtain ⟨a, o, vs, rfl, ha, _⟩ := i; exact .fTuple ha
  | lst b => cases h; obtain ⟨a, vs, rfl, _, ha, _⟩ := i; exact .base (.lst ha)
  | dct b c =>
    cases h
    obtain ⟨a, vs, rfl, _, ha, _⟩ := i
    rcases ha with ha | ⟨o, ha⟩
    · exact .base (.dK ha)
    · exact .fDict ha
  | _ => cases h
theorem ev_isinst {T : String} {mT : D → Option Bool} (hT : ∀ d b, mT d = some b → ∃ k, kindD d = some k ∧ kitB k T = some b) (h : EvO g r te ρ ω m) : EvO g r (tCB (rIsi g.K) (tCons te (tCons (tC (.ty T)) tNil))) ρ ω (ob m fun d => obl (mT d)) := fun d e O σ H E Q q => by
  obtain ⟨x, e1, e⟩ := ob_some e
  obtain ⟨b, e2, rfl⟩ := obl_some e
  obtain ⟨k, hk, hb⟩ := hT x b e2
  refine h x e1 O σ H E _ fun v H1 k1 i1 => ?_
  exact ⟨v, .ty T, .type k, .type T, b, rfl, .ty T, kind_ty hk i1, kit_ty hb, q _ H1 k1 rfl⟩

/-- what a def promises: where its mirror tells d, it gives a value for d and changes nothing -/
def spD (g : Gm) (f : List D → Option D) : Sp := fun vs H Q _ => ∃ ds d O, (∀ b, O b → H b ≠ none) ∧ TabsN g.T H ∧ IsL g O H ds vs ∧ f ds = some d ∧ ∀ v H', R0 g H H' → Is g O H' d v → Q v H'
theorem ev_call {f : List D → Option D} {E0 : XK} (h : EvA g r tr ρ ω ms) : EvO g r (tCall (spD g f) [] E0 tr) ρ ω (ob ms f) := fun d e O σ H E Q q => by
  obtain ⟨ds, e1, e⟩ := ob_some e
  refine h ds e1 O σ H E _ fun vs H1 k1 i1 => ?_
  have E1 := E.go k1
  show spD g f (vs ++ []) H1 Q E0
  rw [List.append_nil]
  exact ⟨ds, d, O, E1.hid, E1.tabs, i1, e, fun v H2 k2 i2 => q v H2 (k1.trans (R.of0 k2)) i2⟩
end
end Z

namespace Z
open PySem PySem.Spec PyProof.Rows L2 NdefX LamX

/-- the frame and what it owns, since the entry H0; O0: what the caller hides -/
structure SEnv (g : Gm) (r : Rl g) (H0 : Hp) (O0 O : Addr → Prop) (σ : L2.St) (H : Hp) (ρ : Rho) (ω : Om) : Prop where
  env : Env g r O σ H ρ ω
  r : R g r H0 H
  up : ∀ b, O0 b → O b
  fr : ∀ i c b, ω = some (i, c) → σ[i]? = some (some (.ref b)) → H0 b = none ∧ ¬ O0 b
section
variable (g : Gm) (r : Rl g)
/-- a statement that goes on: its state is told by a -/
def RdN {α : Type} (ts : TS) (ρ : Rho) (ω : Om) (m : Option α) (Pr : α → Rho) (Po : α → Om) : Prop :=
  ∀ a, m = some a → ∀ H0 O0 O σ H D, SEnv g r H0 O0 O σ H ρ ω → (∀ σ' H', SEnv g r H0 O0 O σ' H' (Pr a) (Po a) → Kp O H H' → D.nx σ' H') → ts D σ H
/-- a block that returns -/
def RdB (ts : TS) (ρ : Rho) (ω : Om) (m : Option D) : Prop :=
  ∀ d, m = some d → ∀ H0 O0 O σ H D, SEnv g r H0 O0 O σ H ρ ω → (∀ v H', R g r H0 H' → Is g O0 H' d v → D.rt v H') → ts D σ H
end
section
variable {g : Gm} {r : Rl g} {H0 H H' : Hp} {O0 O : Addr → Prop} {σ : L2.St} {ρ : Rho} {ω : Om}
theorem SEnv.go (E : SEnv g r H0 O0 O σ H ρ ω) (k : R g r H H') : SEnv g r H0 O0 O σ H' ρ ω := ⟨E.env.go k, E.r.trans k, E.up, E.fr⟩
theorem SEnv.set {i : Nat} {d : D} {v : V} (E : SEnv g r H0 O0 O σ H ρ ω) (h : Is g O H d v) (hi : ∀ c, ω ≠ some (i, c)) : SEnv g r H0 O0 O (σ.set i (some v)) H (ρ.set i (some d)) ω := by
  have key : ∀ j c b, ω = some (j, c) → (σ.set i (some v))[j]? = some (some (.ref b)) → σ[j]? = some (some (.ref b)) := fun j c b e q => by
    have hj : i ≠ j := fun z => hi c (by rw [e, z])
    rw [List.getElem?_set_ne hj] at q
    exact q
  exact ⟨E.env.set h hi, E.r, E.up, fun j c b e q => E.fr j c b e (key j c b e q)⟩
theorem SEnv.less {ρ' : Rho} (E : SEnv g r H0 O0 O σ H ρ ω) (hl : ρ'.length = ρ.length) (h : ∀ (i : Nat) (d : D), ρ'[i]? = some (some d) → ρ[i]? = some (some d)) : SEnv g r H0 O0 O σ H ρ' ω :=
  ⟨E.env.less hl h, E.r, E.up, E.fr⟩
/-- a return's value is the caller's -/
theorem SEnv.ret {d : D} {v : V} (E : SEnv g r H0 O0 O σ H ρ ω) (h : Is g O H d v) : Is g O0 H d v := Is.anti E.up d v h
variable {α β : Type} {ta tb te : TE} {t u ts : TS} {tt : TT} {mt : Option Bool} {m ma : Option D} {Pr : α → Rho} {Po : α → Om}
def noOm : α → Om := fun _ => none

theorem rb_seq {ma : Option α} {k : α → Option D} (h1 : RdN g r t ρ ω ma Pr Po) (h2 : ∀ a, RdB g r u (Pr a) (Po a) (k a)) : RdB g r (tSeq t u) ρ ω (ob ma k) := fun d e H0 O0 O σ H D E q => by
  obtain ⟨a, e1, e2⟩ := ob_some e
  exact h1 a e1 H0 O0 O σ H _ E fun σ' H' E' _ => h2 a d e2 H0 O0 O σ' H' D E' q
theorem rb_ret (h : EvO g r te ρ ω m) : RdB g r (tRet te) ρ ω m := fun d e H0 O0 O σ H D E q =>
  h d e O σ H E.env _ fun v H' k i => q v H' (E.r.trans k) ((E.go k).ret i)
theorem rb_none {ts : TS} : RdB g r ts ρ ω none := fun d e => by cases e
theorem rn_none {ts : TS} : RdN (α := α) g r ts ρ ω none Pr Po := fun d e => by cases e
theorem rb_if {m1 m2 : Option D} (h : EvT g r tt ρ ω mt) (h1 : RdB g r t ρ ω m1) (h2 : RdB g r u ρ ω m2) : RdB g r (tIfS tt t u) ρ ω (oif mt m1 m2) := fun d e H0 O0 O σ H D E q => by
  obtain ⟨k, e1, et, ef⟩ := oif_some e
  refine h k e1 O σ H E.env _ fun H1 k1 => ?_
  cases k with
  | true => exact h1 d (et rfl) H0 O0 O σ H1 D (E.go k1) q
  | false => exact h2 d (ef rfl) H0 O0 O σ H1 D (E.go k1) q
/-- if c: .. return; the rest -/
theorem rb_ifseq {m1 m2 : Option D} (h : EvT g r tt ρ ω mt) (h1 : RdB g r t ρ ω m1) (h2 : RdB g r u ρ ω m2) : RdB g r (tSeq (tIfS tt t tNext) u) ρ ω (oif mt m1 m2) := fun d e H0 O0 O σ H D E q => by
  obtain ⟨k, e1, et, ef⟩ := oif_some e
  show tt σ H _
  refine h k e1 O σ H E.env _ fun H1 k1 => ?_
  cases k with
  | true => exact h1 d (et rfl) H0 O0 O σ H1 _ (E.go k1) q
  | false => exact h2 d (ef rfl) H0 O0 O σ H1 D (E.go k1) q
theorem rn_seq {ma : Option α} {k : α → Option β} {Pr' : β → Rho} {Po' : β → Om} (h1 : RdN g r t ρ ω ma Pr Po) (h2 : ∀ a, RdN g r u (Pr a) (Po a) (k a) Pr' Po') : RdN g r (tSeq t u) ρ ω (ob ma k) Pr' Po' := fun d e H0 O0 O σ H D E q => by
  obtain ⟨a, e1, e2⟩ := ob_some e
  exact h1 a e1 H0 O0 O σ H _ E fun σ' H' E' s => h2 a d e2 H0 O0 O σ' H' D E' fun σ2 H2 E2 s2 => q σ2 H2 E2 (s.trans s2)
theorem rn_set {i : Nat} (h : EvO g r te ρ ω m) (hi : ∀ c, ω ≠ some (i, c)) : RdN g r (tAsg te (gName i)) ρ ω m (fun d => ρ.set i (some d)) (fun _ => ω) := fun d e H0 O0 O σ H D E q =>
  h d e O σ H E.env _ fun v H' k i => q _ _ ((E.go k).set i hi) (k.kp E.env.sub)
theorem rn_if {m1 m2 : Option α} (h : EvT g r tt ρ ω mt) (h1 : RdN g r t ρ ω m1 Pr Po) (h2 : RdN g r u ρ ω m2 Pr Po) : RdN g r (tIfS tt t u) ρ ω (oif mt m1 m2) Pr Po := fun d e H0 O0 O σ H D E q => by
  obtain ⟨k, e1, et, ef⟩ := oif_some e
  refine h k e1 O σ H E.env _ fun H1 k1 => ?_
  have s1 := k1.kp E.env.sub
  cases k with
  | true => exact h1 d (et rfl) H0 O0 O σ H1 D (E.go k1) fun σ2 H2 E2 s2 => q σ2 H2 E2 (s1.trans s2)
  | false => exact h2 d (ef rfl) H0 O0 O σ H1 D (E.go k1) fun σ2 H2 E2 s2 => q σ2 H2 E2 (s1.trans s2)
theorem rho_set_same {ρ : Rho} {i : Nat} {d : D} (h : ρ[i]? = some (some d)) : ρ.set i (some d) = ρ := by
  apply List.ext_getElem?
  intro j
  by_cases hj : i = j
  · subst hj
    rw [h, List.getElem?_set_self (List.getElem?_eq_some_iff.mp h).1]
  · rw [List.getElem?_set_ne hj]
/-- nothing, where the state is told by the slot i -/
theorem rn_keep {i : Nat} {d : D} (h : ρ[i]? = some (some d)) : RdN g r tNext ρ ω (some d) (fun d => ρ.set i (some d)) (fun _ => ω) := fun e q H0 O0 O σ H D E k => by
  cases q
  refine k σ H ?_ Kp.refl
  show SEnv g r H0 O0 O σ H (List.set ρ i (some d)) ω
  rw [rho_set_same h]
  exact E
theorem rn_next {a : α} (hp : Pr a = ρ) (ho : Po a = ω) : RdN g r tNext ρ ω (some a) Pr Po := fun e q H0 O0 O σ H D E k => by
  cases q
  exact k σ H (by rw [hp, ho]; exact E) Kp.refl
/-- what is known afterwards, told otherwise -/
theorem rn_as {β : Type} {m : Option α} {f : α → β} {Pr' : β → Rho} {Po' : β → Om} (h : RdN g r ts ρ ω m Pr Po) (hl : ∀ a, (Pr' (f a)).length = (Pr a).length) (hs : ∀ a (i : Nat) (d : D), (Pr' (f a))[i]? = some (some d) → (Pr a)[i]? = some (some d)) (ho : ∀ a, Po' (f a) = Po a) :
    RdN g r ts ρ ω (ob m fun a => some (f a)) Pr' Po' := fun b e H0 O0 O σ H D E q => by
  obtain ⟨a, e1, e2⟩ := ob_some e
  cases e2
  exact h a e1 H0 O0 O σ H D E fun σ' H' E' s => q σ' H' (by rw [ho]; exact E'.less (hl a) (hs a)) s
theorem rb_less {ρ' : Rho} (h : RdB g r ts ρ' ω m) (hl : ρ'.length = ρ.length) (hs : ∀ (i : Nat) (d : D), ρ'[i]? = some (some d) → ρ[i]? = some (some d)) : RdB g r ts ρ ω m := fun d e H0 O0 O σ H D E q => h d e H0 O0 O σ H D (E.less hl hs) q
theorem rn_drop (h : EvO g r te ρ ω m) : RdN g r (tDrop te) ρ ω m (fun _ => ρ) (fun _ => ω) := fun d e H0 O0 O σ H D E q =>
  h d e O σ H E.env _ fun v H' k i => q _ _ (E.go k) (k.kp E.env.sub)
end

/-- from the heap H1 on: the items ds, one a turn -/
def WkO (g : Gm) (O : Addr → Prop) (H1 : Hp) (ds : List D) (J : It) : Prop :=
  Walk J ds.length (fun H => Kp O H1 H) (fun i Ha x Hb => R0 g Ha Hb ∧ ∃ d, ds[i]? = some d ∧ ∀ O' : Addr → Prop, (∀ b, O b → O' b) → (∀ b, O' b → O b ∨ H1 b = none) → Is g O' Hb d x)
def ItAt (g : Gm) (r : Rl g) (wi : TI) (O : Addr → Prop) (σ : L2.St) (H : Hp) (ds : List D) : Prop := ∀ Rk : It → Hp → Prop, (∀ J H', R g r H H' → WkO g O H' ds J → Rk J H') → wi σ H Rk
def ItO (g : Gm) (r : Rl g) (wi : TI) (ρ : Rho) (ω : Om) (m : Option (List D)) : Prop := ∀ ds, m = some ds → ∀ O σ H, Env g r O σ H ρ ω → ItAt g r wi O σ H ds
section
variable {g : Gm} {r : Rl g} {O : Addr → Prop} {H1 : Hp} {ρ : Rho} {ω : Om} {te : TE} {m : Option D}
theorem wk_tup {a : Addr} {vs : List V} {ds : List D} (ha : H1 a = some (.tup vs)) (i : IsL g O H1 ds vs) : WkO g O H1 ds (Itt g.K a) := by
  have w := walk_tup (K := g.K) (a := a) (xs := vs)
  rw [← i.length] at w
  refine w.mono (fun H h => SqT.of (h a _ ha (fun _ z => by cases z) (.inr (.inl ⟨_, rfl⟩)))) fun j H x H' hj h y => ?_
  obtain ⟨rfl, e⟩ := y
  obtain ⟨d, hd⟩ : ∃ d, ds[j]? = some d := ⟨ds[j], by simp [hj]⟩
  obtain ⟨v, h1, h2⟩ := i.get hd
  rw [e] at h1
  cases h1
  exact ⟨R0.refl, d, hd, fun O' o1 o2 => Is.kp (h.anti o1) _ _ (Is.hide o2 _ _ h2)⟩
theorem wk_ptup {a : Addr} {o : Obj} {vs : List V} {ds : List D} (ha : H1 a = some (.frz o (.tup vs))) (i : IsL g O H1 ds vs) : WkO g O H1 ds (Itt g.K a) := by
  have w := walk_tup (K := g.K) (a := a) (xs := vs)
  rw [← i.length] at w
  refine w.mono (fun H h => .inl (.inr ⟨o, h a _ ha (fun _ z => by cases z) (.inr (.inr ⟨_, _, rfl⟩))⟩)) fun j H x H' hj h y => ?_
  obtain ⟨rfl, e⟩ := y
  obtain ⟨d, hd⟩ : ∃ d, ds[j]? = some d := ⟨ds[j], by simp [hj]⟩
  obtain ⟨v, h1, h2⟩ := i.get hd
  rw [e] at h1
  cases h1
  exact ⟨R0.refl, d, hd, fun O' o1 o2 => Is.kp (h.anti o1) _ _ (Is.hide o2 _ _ h2)⟩
theorem wk_lst {a : Addr} {vs : List V} {ds : List D} (n : ¬ O a) (ha : H1 a = some (.lst vs)) (i : IsL g O H1 ds vs) : WkO g O H1 ds (Itl g.K a) := by
  have w := walk_list (K := g.K) (a := a) (xs := vs)
  rw [← i.length] at w
  refine w.mono (fun H h => SqL.of (h a _ ha (fun _ z => by cases z) (.inl n))) fun j H x H' hj h y => ?_
  obtain ⟨rfl, e⟩ := y
  obtain ⟨d, hd⟩ : ∃ d, ds[j]? = some d := ⟨ds[j], by simp [hj]⟩
  obtain ⟨v, h1, h2⟩ := i.get hd
  rw [e] at h1
  cases h1
  exact ⟨R0.refl, d, hd, fun O' o1 o2 => Is.kp (h.anti o1) _ _ (Is.hide o2 _ _ h2)⟩
/-- a list or a tuple -/
def iSeq (K : PySem.W.Frag) (te : TE) : TI := fun σ H R => iList K te σ H R ∨ iTup K te σ H R
theorem pi_or {X : Cx} {tg e : Expr} {w w' : TI} (h : PI X tg e w) (h' : PI X tg e w') : PI X tg e (fun σ H R => w σ H R ∨ w' σ H R) :=
  ⟨fun pins s σ H R I q => q.elim (h.run pins s σ H R I) (h'.run pins s σ H R I)⟩
theorem pi_seq {X : Cx} {tg e : Expr} {te : TE} (h : PE X e te) : PI X tg e (iSeq X.K te) := pi_or (pi_list h) (pi_tup h)
theorem it_seq (h : EvO g r te ρ ω m) : ItO g r (iSeq g.K te) ρ ω (ob m ditems) := fun ds e O σ H E Rk q => by
  obtain ⟨d, e1, e2⟩ := ob_some e
  cases d with
  | tup xs =>
    cases e2
    refine .inr (h _ e1 O σ H E _ fun v H1 k1 i1 => ?_)
    obtain ⟨a, vs, rfl, ha, _, iv⟩ := i1
    exact ⟨a, rfl, ⟨vs, SqT.of ha⟩, q _ H1 k1 (wk_tup ha iv)⟩
  | ptup xs =>
    cases e2
    refine .inr (h _ e1 O σ H E _ fun v H1 k1 i1 => ?_)
    obtain ⟨a, o, vs, rfl, ha, _, _, iv⟩ := i1
    exact ⟨a, rfl, ⟨vs, .inl (.inr ⟨o, ha⟩)⟩, q _ H1 k1 (wk_ptup ha iv)⟩
  | lst xs =>
    cases e2
    refine .inl (h _ e1 O σ H E _ fun v H1 k1 i1 => ?_)
    obtain ⟨a, vs, rfl, n, ha, _, iv⟩ := i1
    exact ⟨a, rfl, ⟨vs, SqL.of ha⟩, q _ H1 k1 (wk_lst n ha iv)⟩
  | _ => cases e2
/-- ranges -/
theorem upTo_get : ∀ (n : Nat) (lo : Int) (i : Nat), i < n → (upTo lo n)[i]? = some (.int (lo + i))
  | 0, _, _, h => by cases h
  | n + 1, lo, 0, _ => by show some (D.int lo) = _; simp
  | n + 1, lo, i + 1, h => by
    show (upTo (lo + 1) n)[i]? = _
    rw [upTo_get n (lo + 1) i (by omega)]
    congr 2
    omega
theorem upTo_len : ∀ (n : Nat) (lo : Int), (upTo lo n).length = n
  | 0, _ => rfl
  | n + 1, lo => by show (upTo (lo + 1) n).length + 1 = n + 1; rw [upTo_len n]
theorem wk_up {lo : Int} {n : Nat} : WkO g O H1 (upTo lo n) (Itr lo n) := by
  have w := walk_range (lo := lo) (n := n)
  unfold WkO
  rw [upTo_len]
  refine w.mono (fun _ _ => True.intro) fun j H x H' hj h y => ?_
  obtain ⟨rfl, rfl⟩ := y
  exact ⟨R0.refl, _, upTo_get n lo j hj, fun _ _ _ => rfl⟩
theorem rng62_ok {i : Int} (h : rng62 i = true) : -(2 ^ 62) ≤ i ∧ i < 2 ^ 62 := by
  unfold rng62 at h
  rw [Bool.and_eq_true, ileB_eq, iltB_eq] at h
  have h1 := of_decide_eq_true h.1
  have h2 := of_decide_eq_true h.2
  omega
theorem it_range1 (h : EvO g r te ρ ω m) : ItO g r (iRng1 (tCons te tNil)) ρ ω (ob m drange1) := fun ds e O σ H E Rk q => by
  obtain ⟨d, e1, e2⟩ := ob_some e
  cases d with
  | int j =>
    obtain ⟨c, e2⟩ := ock_some e2
    cases e2
    obtain ⟨c1, c2⟩ := rng62_ok c
    exact h _ e1 O σ H E _ fun v H1 k1 i1 => ⟨j, by rw [show v = .int j from i1], c1, c2, q _ H1 k1 wk_up⟩
  | _ => cases e2
theorem it_range2 {te2 : TE} {m2 : Option D} (h : EvO g r te ρ ω m) (h2 : EvO g r te2 ρ ω m2) : ItO g r (iRng2 (tCons te (tCons te2 tNil))) ρ ω (o2 drange2 m m2) := fun ds e O σ H E Rk q => by
  obtain ⟨d, d', e1, e2, e3⟩ := o2_some e
  cases d with
  | int i => cases d' with
    | int j =>
      obtain ⟨c, e3⟩ := ock_some e3
      cases e3
      rw [Bool.and_eq_true] at c
      obtain ⟨c1, c2⟩ := rng62_ok c.1
      obtain ⟨c3, c4⟩ := rng62_ok c.2
      refine h _ e1 O σ H E _ fun v H1 k1 i1 => ?_
      refine h2 _ e2 O σ H1 (E.go k1) _ fun u H2 k2 i2 => ?_
      exact ⟨i, j, by rw [show v = .int i from i1, show u = .int j from i2], ⟨c1, c2, c3, c4⟩, q _ H2 (k1.trans k2) wk_up⟩
    | _ => cases e3
  | _ => cases d' <;> cases e3
theorem downTo_get : ∀ (n : Nat) (i : Nat), i < n → (downTo n)[i]? = some (.int ((n : Int) + (i : Nat) * (-1)))
  | 0, _, h => by cases h
  | n + 1, 0, _ => by show some (D.int ((n : Int) + 1)) = _; simp
  | n + 1, i + 1, h => by
    show (downTo n)[i]? = _
    rw [downTo_get n i (by omega)]
    congr 2
    omega
theorem downTo_len : ∀ n : Nat, (downTo n).length = n
  | 0 => rfl
  | n + 1 => by show (downTo n).length + 1 = n + 1; rw [downTo_len n]
theorem wk_down {n : Nat} {lo : Int} (h : lo.toNat = n) (h0 : 0 ≤ lo ∨ n = 0) : WkO g O H1 (downTo n) (Itc lo (-1) n) := by
  have w := walk_rangeC (lo := lo) (c := -1) (n := n)
  unfold WkO
  rw [downTo_len]
  refine w.mono (fun _ _ => True.intro) fun j H x H' hj h' y => ?_
  obtain ⟨rfl, rfl⟩ := y
  refine ⟨R0.refl, _, downTo_get n j hj, fun _ _ _ => ?_⟩
  have : lo = (n : Int) := by omega
  rw [this]
  rfl
end
end Z

namespace Z
open PySem PySem.Spec PyProof.Rows L2 NdefX LamX
section
variable {g : Gm} {r : Rl g} {H0 H H' : Hp} {O0 O : Addr → Prop} {σ : L2.St} {ρ : Rho} {ω : Om}
theorem it_range3 {te te2 : TE} {m : Option D} (h : EvO g r te ρ ω m) (h2 : EvO g r te2 ρ ω (some (.int (-1)))) : ItO g r (iRng3 (tCons te (tCons (tC (.int 0)) (tCons te2 tNil)))) ρ ω (ob m drangeD) := fun ds e O σ H E Rk q => by
  obtain ⟨d, e1, e2⟩ := ob_some e
  cases d with
  | int i =>
    obtain ⟨c, e2⟩ := ock_some e2
    cases e2
    obtain ⟨c1, c2⟩ := rng62_ok c
    refine h _ e1 O σ H E _ fun v H1 k1 i1 => ?_
    show te2 σ H1 _
    refine h2 _ rfl O σ H1 (E.go k1) _ fun u H2 k2 i2 => ?_
    have rg := RgC.neg (i := i) (j := 0) c1 c2 (by omega) (by omega)
    rw [Int.sub_zero] at rg
    refine ⟨i, 0, -1, i.toNat, by rw [show v = .int i from i1, show u = .int (-1) from i2], rg, q _ H2 (k1.trans k2) (wk_down rfl ?_)⟩
    omega
  | _ => cases e2

def setM {α : Type} : List (Option α) → List Nat → List α → List (Option α)
  | σ, j :: js, v :: vs => setM (σ.set j (some v)) js vs
  | σ, _, _ => σ
theorem Env.setM : ∀ {js : List Nat} {ds : List D} {vs : List V} {σ : L2.St} {ρ : Rho}, Env g r O σ H ρ ω → IsL g O H ds vs → (∀ j ∈ js, ∀ c, ω ≠ some (j, c)) → Env g r O (Z.setM σ js vs) H (Z.setM ρ js ds) ω
  | [], _, _, _, _, E, _, _ => by unfold Z.setM; exact E
  | _ :: _, [], _, _, _, E, i, _ => by rw [show _ = ([] : List V) from i]; unfold Z.setM; exact E
  | j :: js, d :: ds, vs, σ, ρ, E, i, h => by
    obtain ⟨v, r', rfl, i1, i2⟩ := i
    have q := Env.setM (js := js) (σ := σ.set j (some v)) (ρ := ρ.set j (some d)) (E.set i1 (h j List.mem_cons_self)) i2 fun k hk => h k (List.mem_cons_of_mem _ hk)
    exact q
theorem SEnv.setM : ∀ {js : List Nat} {ds : List D} {vs : List V} {σ : L2.St} {ρ : Rho}, SEnv g r H0 O0 O σ H ρ ω → IsL g O H ds vs → (∀ j ∈ js, ∀ c, ω ≠ some (j, c)) → SEnv g r H0 O0 O (Z.setM σ js vs) H (Z.setM ρ js ds) ω
  | [], _, _, _, _, E, _, _ => by unfold Z.setM; exact E
  | _ :: _, [], _, _, _, E, i, _ => by rw [show _ = ([] : List V) from i]; unfold Z.setM; exact E
  | j :: js, d :: ds, vs, σ, ρ, E, i, h => by
    obtain ⟨v, r', rfl, i1, i2⟩ := i
    have q := SEnv.setM (js := js) (σ := σ.set j (some v)) (ρ := ρ.set j (some d)) (E.set i1 (h j List.mem_cons_self)) i2 fun k hk => h k (List.mem_cons_of_mem _ hk)
    exact q
theorem setM_len {α : Type} : ∀ (js : List Nat) (xs : List α) (σ : List (Option α)), (setM σ js xs).length = σ.length
  | [], _, _ => by unfold setM; rfl
  | _ :: _, [], _ => by unfold setM; rfl
  | j :: js, x :: xs, σ => by
    show (setM (σ.set j (some x)) js xs).length = _
    rw [setM_len, List.length_set]
def TgO (g : Gm) (tg : TG) (un : D → Option (List D)) (js : List Nat) : Prop := ∀ d ds, un d = some ds → ds.length = js.length → ∀ O H v σ (Q : L2.St → Hp → Prop), Is g O H d v → (∀ vs, IsL g O H ds vs → Q (setM σ js vs) H) → tg v σ H Q
theorem tg_name {j : Nat} : TgO g (gName j) un1 [j] := fun d ds e l O H v σ Q i q => by
  cases e
  exact q [v] (IsL.one i)
theorem tg_names : ∀ {js : List Nat} {tgs : TGs}, (∀ (vs : List V) (σ : L2.St) (H : Hp) (Q : L2.St → Hp → Prop), vs.length = js.length → Q (setM σ js vs) H → tgs vs σ H Q) → TgO g (gTup g.K js.length tgs) unT js := fun {js tgs} h d ds e l O H v σ Q i q => by
  cases d with
  | tup xs =>
    cases e
    obtain ⟨a, vs, rfl, ha, _, iv⟩ := i
    have hl : vs.length = js.length := by rw [← iv.length]; exact l
    exact ⟨a, vs, rfl, SqT.of ha, hl, h vs σ H Q hl (q vs iv)⟩
  | _ => cases e
theorem tg_2 {i j : Nat} : TgO g (gTup g.K 2 (gCons (gName i) (gCons (gName j) gNil))) unT [i, j] := tg_names fun vs σ H Q hl q => by
  match vs, hl with
  | [a, b], _ => exact ⟨a, [b], rfl, b, [], rfl, rfl, q⟩
theorem tg_3 {i j k : Nat} : TgO g (gTup g.K 3 (gCons (gName i) (gCons (gName j) (gCons (gName k) gNil)))) unT [i, j, k] := tg_names fun vs σ H Q hl q => by
  match vs, hl with
  | [a, b, c], _ => exact ⟨a, [b, c], rfl, b, [c], rfl, c, [], rfl, rfl, q⟩
/-- a, b = e -/
theorem rn_un {te : TE} {m : Option D} {tg : TG} {un : D → Option (List D)} {js : List Nat} (h : EvO g r te ρ ω m) (ht : TgO g tg un js) (hj : ∀ j ∈ js, ∀ c, ω ≠ some (j, c)) : RdN g r (tAsg te tg) ρ ω (ob m fun d => ob (un d) fun ds => ock (Nat.beq ds.length js.length) (some ds)) (fun ds => setM ρ js ds) (fun _ => ω) := fun ds e H0 O0 O σ H D E q => by
  obtain ⟨d, e1, e⟩ := ob_some e
  obtain ⟨ds', e2, e⟩ := ob_some e
  obtain ⟨c, e⟩ := ock_some e
  cases e
  refine h d e1 O σ H E.env _ fun v H1 k1 i1 => ?_
  refine ht d ds e2 (Nat.eq_of_beq_eq_true c) O H1 v σ _ i1 fun vs iv => ?_
  exact q _ _ ((E.go k1).setM iv hj) (k1.kp E.env.sub)
/-- a, b = e, e' of two plain local names -/
theorem rn_par {ta : TA} {ms : Option (List D)} {i j : Nat} (h : EvA g r ta ρ ω ms) (hi : ∀ c, ω ≠ some (i, c)) (hj : ∀ c, ω ≠ some (j, c)) : RdN g r (tPar i j ta) ρ ω (ob ms fun ds => ock (Nat.beq ds.length 2) (some ds)) (fun ds => setM ρ [i, j] ds) (fun _ => ω) := fun ds e H0 O0 O σ H D E q => by
  obtain ⟨ds', e1, e⟩ := ob_some e
  obtain ⟨c, e⟩ := ock_some e
  cases e
  refine h ds e1 O σ H E.env _ fun vs H1 k1 i1 => ?_
  have hl : vs.length = 2 := by rw [← i1.length]; exact Nat.eq_of_beq_eq_true c
  match vs, hl with
  | [v, w], _ =>
    refine ⟨v, w, rfl, ?_⟩
    refine q _ _ ((E.go k1).setM (js := [i, j]) i1 fun k hk => ?_) (k1.kp E.env.sub)
    rcases List.mem_cons.mp hk with e | hk
    · subst e; exact hi
    · rw [List.mem_singleton.mp hk]; exact hj

variable {α : Type} {wi : TI} {tg : TG} {un : D → Option (List D)} {js : List Nat} {ts : TS} {mi : Option (List D)} {Pr : α → Rho} {Po : α → Om}
theorem for_at {f : α → List D → Option α} {st0 a : α} {ds : List D} {D : Ends} (E : SEnv g r H0 O0 O σ H ρ ω) (hi : ItAt g r wi O σ H ds) (ht : TgO g tg un js) (hl : (Pr st0).length = ρ.length) (h0 : ∀ (i : Nat) (d : Z.D), (Pr st0)[i]? = some (some d) → ρ[i]? = some (some d)) (ho : Po st0 = ω)
    (hj : ∀ st, ∀ j ∈ js, ∀ c, Po st ≠ some (j, c)) (hb : ∀ st ds, RdN g r ts (setM (Pr st) js ds) (Po st) (f st ds) Pr Po) (e2 : forO un js.length f st0 ds = some a)
    (q : ∀ σ' H', SEnv g r H0 O0 O σ' H' (Pr a) (Po a) → Kp O H H' → D.nx σ' H') : tFor wi tg ts D σ H := by
  show wi σ H _
  refine hi _ fun J H1 k1 wk => ?_
  have kp1 := k1.kp E.env.sub
  refine for_it wk (fun i σ' H' => ∃ st, SEnv g r H0 O0 O σ' H' (Pr st) (Po st) ∧ Kp O H1 H' ∧ foldO (forS un js.length f) st (ds.drop i) = some a)
    ⟨st0, by rw [ho]; exact (E.go k1).less hl h0, Kp.refl, e2⟩ (fun i σ' H' _ ⟨_, _, k, _⟩ => k) ?_ ?_
  · rintro i x σ' Ha Hb hi ⟨st, E', kp, ef⟩ ⟨r01, d, hd, id⟩
    have hdr : ds.drop i = d :: ds.drop (i + 1) := by
      have h1 := List.getElem?_eq_some_iff.mp hd
      rw [← h1.2]
      exact List.drop_eq_getElem_cons h1.1
    rw [hdr] at ef
    obtain ⟨st', e3, e4⟩ := ob_some ef
    obtain ⟨xs, e5, e6⟩ := ob_some e3
    obtain ⟨c, e6⟩ := ock_some e6
    have E2 := E'.go (R.of0 r01)
    refine ht d xs e5 (Nat.eq_of_beq_eq_true c) O Hb x σ' _ (id O (fun _ h => h) fun _ h => .inl h) fun vs iv => ?_
    have kb := (R.of0 (r := r) r01).kp E'.env.sub
    refine hb st xs st' e6 H0 O0 O _ Hb _ (E2.setM iv (hj st)) fun σ2 H2 E3 k2 => ?_
    exact ⟨st', E3, (kp.trans kb).trans k2, e4⟩
  · rintro σ' H' ⟨st, E', kp, ef⟩
    rw [List.drop_length] at ef
    cases ef
    exact q σ' H' E' (kp1.trans kp)
theorem rn_for {f : α → List D → Option α} {st0 : α} (hi : ItO g r wi ρ ω mi) (ht : TgO g tg un js) (hl : (Pr st0).length = ρ.length) (h0 : ∀ (i : Nat) (d : D), (Pr st0)[i]? = some (some d) → ρ[i]? = some (some d)) (ho : Po st0 = ω)
    (hj : ∀ st, ∀ j ∈ js, ∀ c, Po st ≠ some (j, c)) (hb : ∀ st ds, RdN g r ts (setM (Pr st) js ds) (Po st) (f st ds) Pr Po) :
    RdN g r (tFor wi tg ts) ρ ω (ob mi fun ds => forO un js.length f st0 ds) Pr Po := fun a e H0 O0 O σ H D E q => by
  obtain ⟨ds, e1, e2⟩ := ob_some e
  exact for_at E (hi ds e1 O σ H E.env) ht hl h0 ho hj hb e2 q

theorem rn_while {tt : TT} {c : α → Option Bool} {f : α → Option α} {st0 : α} {n : Nat} (hl : (Pr st0).length = ρ.length) (h0 : ∀ (i : Nat) (d : D), (Pr st0)[i]? = some (some d) → ρ[i]? = some (some d)) (ho : Po st0 = ω)
    (hc : ∀ st, EvT g r tt (Pr st) (Po st) (c st)) (hb : ∀ st, RdN g r ts (Pr st) (Po st) (f st) Pr Po) : RdN g r (tWhile tt ts) ρ ω (whileO c f n st0) Pr Po := fun a e H0 O0 O σ H D E q => by
  refine ⟨fun m σ' H' => ∃ st, SEnv g r H0 O0 O σ' H' (Pr st) (Po st) ∧ Kp O H H' ∧ whileO c f m st = some a, ⟨n, st0, by rw [ho]; exact E.less hl h0, Kp.refl, e⟩, ?_⟩
  rintro m σ' H' ⟨st, E', kp, ef⟩
  cases m with
  | zero => cases ef
  | succ m =>
    unfold whileO at ef
    cases ec : c st with
    | none => rw [ec] at ef; cases ef
    | some b =>
      rw [ec] at ef
      refine hc st b ec O σ' H' E'.env _ fun H1 k1 => ?_
      have s1 := k1.kp E'.env.sub
      cases b with
      | true =>
        obtain ⟨st', e1, e2⟩ := ob_some (show ob (f st) (fun a' => whileO c f m a') = some a from ef)
        refine ⟨fun σ2 H2 => ∃ st', SEnv g r H0 O0 O σ2 H2 (Pr st') (Po st') ∧ Kp O H H2 ∧ whileO c f m st' = some a, fun σ2 H2 h => ⟨m, Nat.lt_succ_self m, h⟩, ?_⟩
        exact hb st st' e1 H0 O0 O σ' H1 _ (E'.go k1) fun σ2 H2 E2 k2 => ⟨st', E2, (kp.trans s1).trans k2, e2⟩
      | false =>
        cases (show some st = some a from ef)
        exact q σ' H1 (E'.go k1) (kp.trans s1)

def wipeR (ρ : Rho) : List Nat → Rho
  | [] => ρ
  | i :: vs => (wipeR ρ vs).set i none
theorem wipeR_len (ρ : Rho) : ∀ vs : List Nat, (wipeR ρ vs).length = ρ.length
  | [] => rfl
  | v :: vs => by unfold wipeR; rw [List.length_set, wipeR_len ρ vs]
theorem wipeR_some {ρ : Rho} {i : Nat} {d : D} : ∀ {vs : List Nat}, (wipeR ρ vs)[i]? = some (some d) → ρ[i]? = some (some d) ∧ i ∉ vs
  | [], h => ⟨h, by simp⟩
  | v :: vs, h => by
    unfold wipeR at h
    by_cases hi : v = i
    · subst hi
      by_cases hv : v < (wipeR ρ vs).length
      · rw [List.getElem?_set_self hv] at h; cases h
      · rw [List.getElem?_eq_none (by simpa using hv)] at h; cases h
    · rw [List.getElem?_set_ne hi] at h
      obtain ⟨h1, h2⟩ := wipeR_some h
      exact ⟨h1, by simp only [List.mem_cons, not_or]; exact ⟨fun e => hi e.symm, h2⟩⟩
theorem wipe_at {σ : L2.St} {i : Nat} : ∀ {vs : List Nat}, i ∉ vs → (wipe σ vs)[i]? = σ[i]?
  | [], _ => rfl
  | v :: vs, h => by
    simp only [List.mem_cons, not_or] at h
    unfold wipe
    rw [List.getElem?_set_ne (fun e => h.1 e.symm)]
    exact wipe_at h.2
theorem Env.wipe (E : Env g r O σ H ρ ω) {vs : List Nat} (h : ∀ j ∈ vs, ∀ c, ω ≠ some (j, c)) : Env g r O (L2.wipe σ vs) H (wipeR ρ vs) ω :=
  ⟨by rw [wipe_length, wipeR_len, E.len], fun i d e => by
    obtain ⟨e1, e2⟩ := wipeR_some e
    obtain ⟨v, h1, h2⟩ := E.at_ i d e1
    exact ⟨v, by rw [wipe_at e2]; exact h1, h2⟩, E.sub, E.hid, E.out, E.tabs, E.J, fun i c e => by
    obtain ⟨p, h1, h2⟩ := E.own i c e
    exact ⟨p, by rw [wipe_at (fun hm => h i hm c e)]; exact h1, h2⟩⟩
theorem set_none_some {σ : L2.St} {j : Nat} {x : Option V} : (σ.set j x).set j none = σ.set j none := by simp
theorem wipe_set {σ : L2.St} {j : Nat} {x : Option V} : ∀ {vs : List Nat}, j ∈ vs → L2.wipe (σ.set j x) vs = L2.wipe σ vs
  | [], h => by cases h
  | v :: vs, h => by
    unfold L2.wipe
    by_cases hv : j ∈ vs
    · rw [wipe_set hv]
    · have e : j = v := (List.mem_cons.mp h).elim id fun z => absurd z hv
      subst e
      have key : ∀ (us : List Nat), j ∉ us → L2.wipe (σ.set j x) us = (L2.wipe σ us).set j x := by
        intro us
        induction us with
        | nil => intro _; rfl
        | cons u us ih =>
          intro hu
          simp only [List.mem_cons, not_or] at hu
          unfold L2.wipe
          rw [ih hu.2, List.set_comm _ _ (fun e => hu.1 e)]
      rw [key vs hv, List.set_set]
theorem wipe_idem {σ : L2.St} : ∀ {us vs : List Nat}, (∀ u ∈ us, u ∈ vs) → L2.wipe (L2.wipe σ us) vs = L2.wipe σ vs
  | [], _, _ => rfl
  | u :: us, vs, h => by
    show L2.wipe ((L2.wipe σ us).set u none) vs = _
    rw [wipe_set (h u List.mem_cons_self)]
    exact wipe_idem fun w hw => h w (List.mem_cons_of_mem _ hw)
theorem wipe_setM {vs : List Nat} : ∀ {js : List Nat} {xs : List V} {σ : L2.St}, (∀ j ∈ js, j ∈ vs) → L2.wipe (Z.setM σ js xs) vs = L2.wipe σ vs
  | [], _, _, _ => by unfold Z.setM; rfl
  | _ :: _, [], _, _ => by unfold Z.setM; rfl
  | j :: js, x :: xs, σ, h => by
    have q := wipe_setM (vs := vs) (js := js) (xs := xs) (σ := σ.set j (some x)) fun k hk => h k (List.mem_cons_of_mem _ hk)
    refine Eq.trans q ?_
    exact wipe_set (h j List.mem_cons_self)
/-- the new list that is being filled is hidden -/
theorem Env.dl {Dl : Addr} {H1 : Hp} {acc : List V} (E : Env g r O σ H1 ρ ω) (hD : H1 Dl = none) (k : R g r H1 H) (e : H Dl = some (.lst acc)) : Env g r (fun b => O b ∨ b = Dl) σ H ρ ω := by
  have nO : ∀ b, (O b ∨ b = Dl) → O b ∨ H1 b = none := fun b h => h.imp id fun z => by rw [z]; exact hD
  have kp : Kp (fun b => O b ∨ b = Dl) H1 H := (k.kp E.sub).anti fun b h => .inl h
  refine ⟨E.len, fun i d q => ?_, fun b h => .inl (E.sub b h), fun b h => ?_, fun b a h => ?_, k.tabs E.tabs, k.J E.J, fun i c q => ?_⟩
  · obtain ⟨v, h1, h2⟩ := E.at_ i d q
    exact ⟨v, h1, Is.kp kp _ _ (Is.hide nO _ _ h2)⟩
  · rcases h with h | h
    · exact fun z => E.hid b h (k.free b z)
    · rw [h, e]; exact fun z => by cases z
  · rcases h with h | h
    · exact (k.A E.J b a).elim (fun z => E.out b z h) (E.hid b h)
    · rw [h] at a; exact r.hN _ _ (k.J E.J) a _ e
  · obtain ⟨p, h1, h2, h3, h4⟩ := E.own i c q
    refine ⟨p, h1, .inl h2, h3, ?_⟩
    exact h4.mv (fun o e1 n => k.keep p _ e1 n (.inl h3)) fun _ _ iv => IsL.kp kp _ _ (IsL.hide nO _ _ iv)
theorem mapO_take {β γ : Type} {f : β → Option γ} : ∀ {ds : List β} {rs : List γ}, mapO f ds = some rs → ds.length = rs.length ∧ ∀ (i : Nat) (d : β), ds[i]? = some d → ∃ y, rs[i]? = some y ∧ f d = some y
  | [], rs, h => by cases h; exact ⟨rfl, fun i d e => by simp at e⟩
  | d :: ds, rs, h => by
    obtain ⟨y, e1, h⟩ := ob_some h
    obtain ⟨ys, e2, h⟩ := ob_some h
    cases h
    obtain ⟨l, q⟩ := mapO_take e2
    refine ⟨by rw [List.length_cons, List.length_cons, l], fun i d' e => ?_⟩
    cases i with
    | zero => simp at e; subst e; exact ⟨y, rfl, e1⟩
    | succ i => obtain ⟨z, h1, h2⟩ := q i d' (by simpa using e); exact ⟨z, by simpa using h1, h2⟩
theorem lc_at {te : TE} {vs : List Nat} {f : List D → Option D} {ds : List D} {d : D} (E : Env g r O σ H ρ ω) (hi : ItAt g r wi O σ H ds) (ht : TgO g tg un js) (hjs : ∀ j ∈ js, j ∈ vs) (hv : ∀ j ∈ vs, ∀ c, ω ≠ some (j, c))
    (hb : ∀ ds, EvO g r te (setM (wipeR ρ vs) js ds) ω (f ds)) (e2 : lcO un js.length f ds = some d) (Q : VK) (q : ∀ v H', R g r H H' → Is g O H' d v → Q v H') : tLc wi tg tYes te vs σ H Q := by
  obtain ⟨rs, e3, e4⟩ := ob_some e2
  obtain ⟨c, e4⟩ := ock_some e4
  cases e4
  obtain ⟨hlen, hget⟩ := mapO_take e3
  have hsm : rs.length ≤ 100000 := Nat.le_of_ble_eq_true c
  refine hi _ fun J H1 k1 wk => fun Dl hD => ?_
  have E1 := E.go k1
  have hLD : ¬ r.L Dl := fun z => r.hL H1 Dl E1.J z hD
  have nO : ¬ O Dl := fun z => E1.hid Dl z hD
  refine lc_it wk (fun i H' => R g r H1 H' ∧ ∃ acc, H' Dl = some (.lst acc) ∧ IsL g (fun b => O b ∨ b = Dl) H' (rs.take i) acc)
    ⟨R.new hD (fun _ z => by cases z), [], upd_same, rfl⟩ (fun i H' _ h => h.1.kp E1.sub) ?_ ?_
  · rintro i x Ha Hb hi ⟨ka, acc, ea, ia⟩ ⟨r01, d, hd, id⟩
    obtain ⟨y, hy, ey⟩ := hget i d hd
    obtain ⟨xs, e5, e6⟩ := ob_some ey
    obtain ⟨c6, e6⟩ := ock_some e6
    have kb : R g r H1 Hb := ka.trans (R.of0 r01)
    have eb : Hb Dl = some (.lst acc) := r01.keep _ _ ea fun _ z => by cases z
    refine ht d xs e5 (Nat.eq_of_beq_eq_true c6) (fun b => O b ∨ b = Dl) Hb x _ _ (id _ (fun _ h => .inl h) fun b h => h.imp (fun z => z) fun z => by rw [z]; exact hD) fun us iu => ⟨wipe_setM hjs |>.trans (wipe_idem fun _ h => h), ?_⟩
    dsimp only [tYes]
    rw [if_pos rfl]
    have E2 : Env g r (fun b => O b ∨ b = Dl) (Z.setM (L2.wipe σ vs) js us) Hb (Z.setM (wipeR ρ vs) js xs) ω := by
      exact Env.setM ((E1.dl hD kb eb).wipe hv) iu fun j hj => hv j (hjs j hj)
    refine hb xs y e6 _ _ Hb E2 _ fun v H4 k4 i4 => ?_
    have e4 : H4 Dl = some (.lst acc) := k4.keep _ _ eb (fun _ z => by cases z) (.inl hLD)
    have hacc : acc.length = i := by
      rw [← ia.length, List.length_take]
      have : i < ds.length := hi
      omega
    refine ⟨acc, e4, ?_, ?_⟩
    · rw [hacc, sizeLine_eq]
      have : i < ds.length := hi
      omega
    · have k14 := kb.trans k4
      refine ⟨k14.mut hD e4 hLD, acc ++ [v], upd_same, ?_⟩
      have hr : rs.take (i + 1) = rs.take i ++ [y] := by
        rw [List.take_add_one, hy] <;> rfl
      rw [hr]
      have kpD : Kp (fun b => O b ∨ b = Dl) H4 (upd H4 Dl (.lst (acc ++ [v]))) := fun b o e n z => by
        rw [upd_ne]
        · exact e
        · intro h
          subst h
          rw [e4] at e
          cases e
          rcases z with z | ⟨_, z⟩ | ⟨_, _, z⟩
          · exact z (.inr rfl)
          · cases z
          · cases z
      refine IsL.append (IsL.kp kpD _ _ (IsL.kp ((R.of0 r01 |>.trans k4).kp fun b h => .inl (E.sub b h)) _ _ ia)) (IsL.one (Is.kp kpD _ _ i4))
  · rintro Hn ⟨kn, acc, en, inn⟩
    rw [hlen, List.take_length] at inn
    exact q _ Hn (k1.trans kn) ⟨Dl, acc, rfl, nO, en, by rw [← inn.length, sizeLine_eq]; omega, IsL.anti (fun b h => .inl h) _ _ inn⟩
theorem ev_lc {te : TE} {vs : List Nat} {f : List D → Option D} (hi : ItO g r wi ρ ω mi) (ht : TgO g tg un js) (hjs : ∀ j ∈ js, j ∈ vs) (hv : ∀ j ∈ vs, ∀ c, ω ≠ some (j, c))
    (hb : ∀ ds, EvO g r te (setM (wipeR ρ vs) js ds) ω (f ds)) : EvO g r (tLc wi tg tYes te vs) ρ ω (ob mi (lcO un js.length f)) := fun d e O σ H E Q q => by
  obtain ⟨ds, e1, e2⟩ := ob_some e
  exact lc_at E (hi ds e1 O σ H E) ht hjs hv hb e2 Q q
end
end Z

namespace Z
open PySem PySem.Spec PyProof.Rows L2 NdefX LamX
section
variable {g : Gm} {r : Rl g} {H0 H H' : Hp} {O0 O : Addr → Prop} {σ : L2.St} {ρ : Rho} {ω : Om}
variable {wi : TI} {tg : TG} {un : D → Option (List D)} {js : List Nat} {mi : Option (List D)}

/-- a walk by turns, an invariant of the turn and the heap -/
theorem walk_by {J : It} {n : Nat} {G : Hp → Prop} {Y : Nat → Hp → V → Hp → Prop} (w : Walk J n G Y) {H : Hp} {Fin : Hp → Prop} {Step : V → Hp → (Hp → Prop) → Prop} (Pv : Nat → Hp → Prop) (h0 : Pv 0 H) (hG : ∀ i H, i ≤ n → Pv i H → G H)
    (hs : ∀ i x H H', i < n → Pv i H → Y i H x H' → Step x H' (Pv (i + 1))) (hd : ∀ H, Pv n H → Fin H) :
    ∃ W : Nat → Nat → Hp → Prop, (∃ m, W 0 m H) ∧ ∀ i m H, W i m H → (J.stop i H ∧ Fin H) ∨ (J.go i H ∧ ∃ Nx : Hp → Prop, (∀ H', Nx H' → ∃ m', m' < m ∧ W (i + 1) m' H') ∧ ∀ x H', J.yld i H x H' → Step x H' Nx) := by
  refine ⟨fun i m H => m = n - i ∧ i ≤ n ∧ Pv i H, ⟨n, by simp, Nat.zero_le _, h0⟩, ?_⟩
  rintro i m H ⟨rfl, hi, p⟩
  have q := hG i H hi p
  by_cases hlt : i < n
  · exact .inr ⟨w.goes i H hlt q, Pv (i + 1), fun H' p' => ⟨n - (i + 1), by omega, rfl, hlt, p'⟩, fun x H' y => hs i x H H' hlt p (w.yields i H x H' hlt q y)⟩
  · have e : i = n := by omega
    subst e
    exact .inl ⟨w.stops H q, hd H p⟩
theorem take_succ_get {α : Type} {l : List α} {i : Nat} {y : α} (h : l[i]? = some y) : l.take (i + 1) = l.take i ++ [y] := by
  rw [List.take_add_one, h] <;> rfl
theorem ev_lc2 {te : TE} {vs vs1 : List Nat} {wi1 : TI} {tg1 : TG} {un1 : D → Option (List D)} {js1 : List Nat} {mi1 : List D → Option (List D)} {f : List D → List D → Option D}
    (hi : ItO g r wi ρ ω mi) (ht : TgO g tg un js) (hjs : ∀ j ∈ js, j ∈ vs) (hv : ∀ j ∈ vs, ∀ c, ω ≠ some (j, c))
    (hi1 : ∀ xs, ItO g r wi1 (setM (wipeR ρ vs) js xs) ω (mi1 xs)) (ht1 : TgO g tg1 un1 js1) (hjs1 : ∀ j ∈ js1, j ∈ vs1) (hv1 : ∀ j ∈ vs1, ∀ c, ω ≠ some (j, c))
    (hb : ∀ xs ys, EvO g r te (setM (wipeR (setM (wipeR ρ vs) js xs) vs1) js1 ys) ω (f xs ys)) :
    EvO g r (tLc2 wi tg tYes wi1 tg1 tYes te vs vs1) ρ ω (ob mi (lc2O un js.length mi1 un1 js1.length f)) := fun d e O σ H E Q q => by
  obtain ⟨ds, e1, e2⟩ := ob_some e
  obtain ⟨rss, e3, e4⟩ := ob_some e2
  obtain ⟨c, e4⟩ := ock_some e4
  cases e4
  obtain ⟨hlen, hget⟩ := mapO_take e3
  have hsm : rss.flatten.length ≤ 100000 := Nat.le_of_ble_eq_true c
  refine hi ds e1 O σ H E _ fun J H1 k1 wk => fun Dl hD => ?_
  have E1 := E.go k1
  have hLD : ¬ r.L Dl := fun z => r.hL H1 Dl E1.J z hD
  have nO : ¬ O Dl := fun z => E1.hid Dl z hD
  refine walk_by wk (fun i H' => R g r H1 H' ∧ ∃ acc, H' Dl = some (.lst acc) ∧ IsL g (fun b => O b ∨ b = Dl) H' (rss.take i).flatten acc)
    ⟨R.new hD (fun _ z => by cases z), [], upd_same, rfl⟩ (fun i H' _ h => h.1.kp E1.sub) ?_ ?_
  · rintro i x Ha Hb hi ⟨ka, acc, ea, ia⟩ ⟨r01, d, hd, id⟩
    obtain ⟨rs, hy, ey⟩ := hget i d hd
    obtain ⟨xs, e5, e6⟩ := ob_some ey
    obtain ⟨c6, e6⟩ := ock_some e6
    obtain ⟨es, e7, e8⟩ := ob_some e6
    have kb : R g r H1 Hb := ka.trans (R.of0 r01)
    have eb : Hb Dl = some (.lst acc) := r01.keep _ _ ea fun _ z => by cases z
    refine ht d xs e5 (Nat.eq_of_beq_eq_true c6) (fun b => O b ∨ b = Dl) Hb x _ _ (id _ (fun _ h => .inl h) fun b h => h.imp (fun z => z) fun z => by rw [z]; exact hD) fun us iu => ⟨wipe_setM hjs |>.trans (wipe_idem fun _ h => h), ?_⟩
    dsimp only [tYes]
    rw [if_pos rfl]
    have E2 : Env g r (fun b => O b ∨ b = Dl) (Z.setM (L2.wipe σ vs) js us) Hb (Z.setM (wipeR ρ vs) js xs) ω := Env.setM ((E1.dl hD kb eb).wipe hv) iu fun j hj => hv j (hjs j hj)
    refine hi1 xs es e7 _ _ Hb E2 _ fun J1 H4 k4 wk1 => ?_
    have k14 := kb.trans k4
    have e4 : H4 Dl = some (.lst acc) := k4.keep _ _ eb (fun _ z => by cases z) (.inl hLD)
    have ia4 : IsL g (fun b => O b ∨ b = Dl) H4 (rss.take i).flatten acc := IsL.kp ((R.of0 r01 |>.trans k4).kp fun b h => .inl (E.sub b h)) _ _ ia
    have E4 := E2.go k4
    obtain ⟨hlen1, hget1⟩ := mapO_take e8
    have hflat : (rss.take i).flatten.length + rs.length ≤ 100000 := by
      have h1 : (rss.take (i + 1)).flatten.length ≤ rss.flatten.length := by
        conv => rhs; rw [← List.take_append_drop (i + 1) rss, List.flatten_append, List.length_append]
        omega
      rw [take_succ_get hy, List.flatten_append, List.length_append] at h1
      simp only [List.flatten_cons, List.flatten_nil, List.append_nil] at h1
      omega
    refine walk_by wk1 (fun j H' => R g r H1 H' ∧ Kp (fun b => O b ∨ b = Dl) H4 H' ∧ ∃ acc, H' Dl = some (.lst acc) ∧ IsL g (fun b => O b ∨ b = Dl) H' ((rss.take i).flatten ++ rs.take j) acc)
      ⟨k14, Kp.refl, acc, e4, by rw [List.take_zero, List.append_nil]; exact ia4⟩ (fun j H' _ h => h.2.1) ?_ ?_
    · rintro j y Hc Hd hj ⟨kc, kpc, acc2, ec, ic⟩ ⟨r02, d2, hd2, id2⟩
      obtain ⟨w, hw, ew⟩ := hget1 j d2 hd2
      obtain ⟨ys, e9, e10⟩ := ob_some ew
      obtain ⟨c10, e10⟩ := ock_some e10
      have kd : R g r H1 Hd := kc.trans (R.of0 r02)
      have ed : Hd Dl = some (.lst acc2) := r02.keep _ _ ec fun _ z => by cases z
      have kpd : Kp (fun b => O b ∨ b = Dl) H4 Hd := kpc.trans ((R.of0 (r := r) r02).kp fun b h => .inl (E.sub b h))
      refine ht1 d2 ys e9 (Nat.eq_of_beq_eq_true c10) (fun b => O b ∨ b = Dl) Hd y _ _ (id2 _ (fun _ h => h) fun b h => .inl h) fun us2 iu2 => ⟨wipe_setM hjs1 |>.trans (wipe_idem fun _ h => h), ?_⟩
      dsimp only [tYes]
      rw [if_pos rfl]
      have E5 : Env g r (fun b => O b ∨ b = Dl) (Z.setM (L2.wipe σ vs) js us) Hd (Z.setM (wipeR ρ vs) js xs) ω := by
        have E5' := (E1.dl hD kd ed).wipe hv
        have iu' : IsL g (fun b => O b ∨ b = Dl) Hd xs us := IsL.kp ((k4.kp (fun b h => .inl (E.sub b h))).trans kpd) _ _ iu
        exact Env.setM E5' iu' fun j hj => hv j (hjs j hj)
      have E6 := Env.setM (E5.wipe hv1) iu2 fun j hj => hv1 j (hjs1 j hj)
      refine hb xs ys w e10 _ _ Hd E6 _ fun v H7 k7 i7 => ?_
      have e7' : H7 Dl = some (.lst acc2) := k7.keep _ _ ed (fun _ z => by cases z) (.inl hLD)
      have hacc : acc2.length ≤ (rss.take i).flatten.length + j := by
        rw [← ic.length, List.length_append, List.length_take]
        omega
      have hjr : j < rs.length := by
        have : j < es.length := hj
        omega
      refine ⟨acc2, e7', by rw [sizeLine_eq]; omega, ?_⟩
      have k17 := kd.trans k7
      have kpD : Kp (fun b => O b ∨ b = Dl) H7 (upd H7 Dl (.lst (acc2 ++ [v]))) := fun b o e n z => by
        rw [upd_ne]
        · exact e
        · intro h
          subst h
          rw [e7'] at e
          cases e
          rcases z with z | ⟨_, z⟩ | ⟨_, _, z⟩
          · exact z (.inr rfl)
          · cases z
          · cases z
      have kp7 : Kp (fun b => O b ∨ b = Dl) Hc H7 := ((R.of0 r02).trans k7).kp fun b h => .inl (E.sub b h)
      refine ⟨k17.mut hD e7' hLD, (kpc.trans kp7).trans kpD, acc2 ++ [v], upd_same, ?_⟩
      rw [take_succ_get hw, ← List.append_assoc]
      exact IsL.append (IsL.kp kpD _ _ (IsL.kp kp7 _ _ ic)) (IsL.one (Is.kp kpD _ _ i7))
    · rintro Hc ⟨kc, kpc, acc2, ec, ic⟩
      refine ⟨kc, acc2, ec, ?_⟩
      rw [take_succ_get hy, List.flatten_append]
      simp only [List.flatten_cons, List.flatten_nil, List.append_nil]
      rw [hlen1, List.take_length] at ic
      exact ic
  · rintro Hn ⟨kn, acc, en, inn⟩
    rw [hlen, List.take_length] at inn
    exact q _ Hn (k1.trans kn) ⟨Dl, acc, rfl, nO, en, by rw [← inn.length, sizeLine_eq]; omega, IsL.anti (fun b h => .inl h) _ _ inn⟩

theorem any_kvz : ∀ {ks : List Str} {vs : List V} {j : Str}, ks.length = vs.length → ((kvz ks vs).any fun kv => decide (kv.1 = (Sum.inr j : Key))) = ks.any fun k => decide (k = j)
  | [], _, _, _ => rfl
  | _ :: _, [], _, h => by cases h
  | k :: ks, v :: vs, j, h => by
    show (decide ((Sum.inr k : Key) = Sum.inr j) || _) = (decide (k = j) || _)
    rw [key_rr]
    congr 1
    exact any_kvz (by simpa using h)
theorem map_none {j : Str} {v : V} : ∀ {kvs : List (Key × V)}, (kvs.any fun kv => decide (kv.1 = (Sum.inr j : Key))) = false → kvs.map (fun kv => if kv.1 = (Sum.inr j : Key) then (kv.1, v) else kv) = kvs
  | [], _ => rfl
  | p :: r, h => by
    rw [List.any_cons, Bool.or_eq_false_iff] at h
    rw [List.map_cons, if_neg (of_decide_eq_false h.1), map_none h.2]
theorem putK_kvz : ∀ {ks : List Str} {vs : List V} {j : Str} {v : V}, ks.Nodup → ks.length = vs.length → putK (kvz ks vs) (Sum.inr j : Key) v = kvz (keyZ ks j) (putZ ks vs j v) := by
  have app : ∀ (ks : List Str) (vs : List V) (j : Str) (v : V), ks.length = vs.length → (ks.any fun k => decide (k = j)) = false → kvz ks vs ++ [((Sum.inr j : Key), v)] = kvz (ks ++ [j]) (putZ ks vs j v) := by
    intro ks
    induction ks with
    | nil => intro vs j v h _; cases vs with | nil => rfl | cons _ _ => cases h
    | cons k ks ih =>
      intro vs j v h hn
      cases vs with
      | nil => cases h
      | cons w vs =>
        rw [List.any_cons, Bool.or_eq_false_iff] at hn
        have e : putZ (k :: ks) (w :: vs) j v = w :: putZ ks vs j v := by
          show (match decide (k = j) with | true => v :: vs | false => w :: putZ ks vs j v) = _
          rw [hn.1]
        rw [e]
        show (Sum.inr k, w) :: (kvz ks vs ++ [((Sum.inr j : Key), v)]) = (Sum.inr k, w) :: kvz (ks ++ [j]) (putZ ks vs j v)
        rw [ih vs j v (by simpa using h) hn.2]
  have rep : ∀ (ks : List Str) (vs : List V) (j : Str) (v : V), ks.Nodup → ks.length = vs.length → (ks.any fun k => decide (k = j)) = true → (kvz ks vs).map (fun kv => if kv.1 = (Sum.inr j : Key) then (kv.1, v) else kv) = kvz ks (putZ ks vs j v) := by
    intro ks
    induction ks with
    | nil => intro vs j v _ _ hn; cases hn
    | cons k ks ih =>
      intro vs j v nd h hn
      cases vs with
      | nil => cases h
      | cons w vs =>
        by_cases hk : k = j
        · subst hk
          have e : putZ (k :: ks) (w :: vs) k v = v :: vs := by
            show (match decide (k = k) with | true => v :: vs | false => w :: putZ ks vs k v) = _
            rw [decide_eq_true rfl]
          rw [e]
          show (if (Sum.inr k : Key) = Sum.inr k then ((Sum.inr k : Key), v) else _) :: List.map _ (kvz ks vs) = _
          rw [if_pos rfl, map_none]
          · rfl
          · rw [any_kvz (by simpa using h)]
            have hnot := (List.nodup_cons.mp nd).1
            rw [List.any_eq_false]
            intro x hx
            simp only [decide_eq_true_eq]
            exact fun z => hnot (z ▸ hx)
        · have e : putZ (k :: ks) (w :: vs) j v = w :: putZ ks vs j v := by
            show (match decide (k = j) with | true => v :: vs | false => w :: putZ ks vs j v) = _
            rw [decide_eq_false hk]
          rw [e]
          rw [List.any_cons, decide_eq_false hk, Bool.false_or] at hn
          show (if (Sum.inr k : Key) = Sum.inr j then ((Sum.inr k : Key), v) else _) :: List.map _ (kvz ks vs) = _
          rw [if_neg (fun z => hk (Sum.inr.inj z)), ih vs j v (List.nodup_cons.mp nd).2 (by simpa using h) hn]
          rfl
  intro ks vs j v nd h
  unfold putK keyZ
  rw [any_kvz h]
  cases hn : ks.any fun k => decide (k = j) with
  | true => rw [if_pos rfl]; exact rep ks vs j v nd h hn
  | false => rw [if_neg Bool.false_ne_true]; exact app ks vs j v h hn
theorem putZ_len {α : Type} : ∀ {ks : List Str} {xs : List α} {j : Str} {x : α}, ks.length = xs.length → (putZ ks xs j x).length = (keyZ ks j).length
  | [], xs, j, x, h => by cases xs with | nil => rfl | cons _ _ => cases h
  | _ :: _, [], _, _, h => by cases h
  | k :: ks, y :: xs, j, x, h => by
    have ih := putZ_len (ks := ks) (xs := xs) (j := j) (x := x) (by simpa using h)
    unfold putZ keyZ
    rw [List.any_cons]
    cases e : decide (k = j) with
    | true => rw [Bool.true_or]; show (x :: xs).length = (k :: ks).length; rw [h]; rfl
    | false =>
      rw [Bool.false_or]
      unfold keyZ at ih
      show (y :: putZ ks xs j x).length = _
      rw [List.length_cons, ih]
      cases hn : ks.any fun k => decide (k = j) <;> rfl
theorem keyZ_nd {ks : List Str} {j : Str} (h : ks.Nodup) : (keyZ ks j).Nodup := by
  unfold keyZ
  cases hn : ks.any fun k => decide (k = j) with
  | true => exact h
  | false =>
    show (ks ++ [j]).Nodup
    rw [List.nodup_append]
    refine ⟨h, by simp, fun a ha b hb z => ?_⟩
    rw [List.any_eq_false] at hn
    have := hn a ha
    simp only [decide_eq_true_eq] at this
    rw [List.mem_singleton.mp hb] at z
    exact this z
theorem putZ_is {O : Addr → Prop} : ∀ {ks : List Str} {ds : List D} {vs : List V} {j : Str} {d : D} {v : V}, IsL g O H ds vs → Is g O H d v → IsL g O H (putZ ks ds j d) (putZ ks vs j v)
  | [], ds, vs, j, d, v, i, k => by unfold putZ; exact i.append (IsL.one k)
  | k :: ks, [], vs, j, d, v, i, k' => by rw [show vs = [] from i]; exact IsL.one k'
  | k :: ks, x :: ds, vs, j, d, v, i, k' => by
    obtain ⟨w, r', rfl, i1, i2⟩ := i
    unfold putZ
    cases e : decide (k = j) with
    | true => exact ⟨v, r', rfl, k', i2⟩
    | false => exact ⟨w, _, rfl, i1, putZ_is i2 k'⟩
theorem dcN_at {tk tv : TE} {vs : List Nat} {fk fv : List D → Option D} {ds : List D} {d : D} (E : Env g (r0 g) O σ H ρ ω) (hi : ItAt g (r0 g) wi O σ H ds) (ht : TgO g tg un js) (hjs : ∀ j ∈ js, j ∈ vs) (hv : ∀ j ∈ vs, ∀ c, ω ≠ some (j, c))
    (hk : ∀ ds, EvO g (r0 g) tk (setM (wipeR ρ vs) js ds) ω (fk ds)) (hb : ∀ ds, EvO g (r0 g) tv (setM (wipeR ρ vs) js ds) ω (fv ds)) (e2 : dcO un js.length fk fv ds = some d) (Q : VK) (q : ∀ p H', R g (r0 g) H H' → H p = none → CnIs g (fun b => O b ∨ b = p) H' p d → Q (.ref p) H') : tDc wi tg tYes tk tv vs σ H Q := by
  obtain ⟨kd, e3, e4⟩ := ob_some e2
  cases e4
  refine hi _ fun J H1 k1 wk => fun Dl hD => ?_
  have E1 := E.go k1
  have nO : ¬ O Dl := fun z => E1.hid Dl z hD
  refine walk_by wk (fun i H' => R0 g H1 H' ∧ ∃ ka va acc, H' Dl = some (.dK (kvz ka acc)) ∧ ka.Nodup ∧ ka.length = acc.length ∧ acc.length ≤ sizeLine ∧ IsL g (fun b => O b ∨ b = Dl) H' va acc ∧
      foldO (fun kd d => ob (un d) fun xs => ock (Nat.beq xs.length js.length) (ob (fk xs) fun k => ob (asS k) fun s => ob (fv xs) fun v => ock (Nat.blt kd.2.length small) (some (dputD kd s v)))) ((ka, va) : List Str × List D) (ds.drop i) = some kd)
    ⟨R0.new hD (fun _ z => by cases z), [], [], [], upd_same, List.nodup_nil, rfl, Nat.zero_le _, rfl, e3⟩ (fun i H' _ h => (R.of0 (r := r0 g) h.1).kp E1.sub) ?_ ?_
  · rintro i x Ha Hb hi ⟨ka, ks, va, acc, ea, nd, l, z, ia, ef⟩ ⟨r01, d, hd, id⟩
    have hdr : ds.drop i = d :: ds.drop (i + 1) := by
      have h1 := List.getElem?_eq_some_iff.mp hd
      rw [← h1.2]
      exact List.drop_eq_getElem_cons h1.1
    rw [hdr] at ef
    obtain ⟨kd', e5, e6⟩ := ob_some ef
    obtain ⟨xs, e7, e5⟩ := ob_some e5
    obtain ⟨c7, e5⟩ := ock_some e5
    obtain ⟨k', e8, e5⟩ := ob_some e5
    obtain ⟨s, e9, e5⟩ := ob_some e5
    obtain ⟨v', e10, e5⟩ := ob_some e5
    obtain ⟨c11, e5⟩ := ock_some e5
    cases e5
    obtain rfl := asS_some e9
    have kb : R0 g H1 Hb := ka.trans r01
    have eb : Hb Dl = some (.dK (kvz ks acc)) := r01.keep _ _ ea fun _ z => by cases z
    refine ht d xs e7 (Nat.eq_of_beq_eq_true c7) (fun b => O b ∨ b = Dl) Hb x _ _ (id _ (fun _ h => .inl h) fun b h => h.imp (fun z => z) fun z => by rw [z]; exact hD) fun us iu => ⟨wipe_setM hjs |>.trans (wipe_idem fun _ h => h), ?_⟩
    dsimp only [tYes]
    rw [if_pos rfl]
    have nO2 : ∀ b, (O b ∨ b = Dl) → O b ∨ H1 b = none := fun b h => h.imp (fun z => z) fun z => by rw [z]; exact hD
    have kpO : Kp (fun b => O b ∨ b = Dl) H1 Hb := ((R.of0 (r := r0 g) kb).kp E.sub).anti fun b h => .inl h
    have E1' : Env g (r0 g) (fun b => O b ∨ b = Dl) σ Hb ρ ω := by
      refine ⟨E.len, fun i d q => ?_, fun b h => h.elim, fun b h => ?_, fun _ a => a.elim, kb.tabs E1.tabs, True.intro, fun i c q => ?_⟩
      · obtain ⟨v, h1, h2⟩ := E1.at_ i d q
        exact ⟨v, h1, Is.kp kpO _ _ (Is.hide nO2 _ _ h2)⟩
      · rcases h with h | h
        · exact fun z => E1.hid b h (kb.free b z)
        · rw [h, eb]; exact fun z => by cases z
      · obtain ⟨p, h1, h2, h3, h4⟩ := E1.own i c q
        refine ⟨p, h1, .inl h2, h3, ?_⟩
        exact h4.mv (fun o e1 n => kb.keep p _ e1 n) fun _ _ iv => IsL.kp kpO _ _ (IsL.hide nO2 _ _ iv)
    have E2 : Env g (r0 g) (fun b => O b ∨ b = Dl) (Z.setM (L2.wipe σ vs) js us) Hb (Z.setM (wipeR ρ vs) js xs) ω := Env.setM (E1'.wipe hv) iu fun j hj => hv j (hjs j hj)
    refine hk xs _ e8 _ _ Hb E2 _ fun y H4 k4 i4 => ?_
    refine hb xs _ e10 _ _ H4 (E2.go k4) _ fun w H5 k5 i5 => ?_
    have k45 := (k4.trans k5).to0
    have e5 : H5 Dl = some (.dK (kvz ks acc)) := k45.keep _ _ eb fun _ z => by cases z
    have hacc : acc.length < 100000 := by
      rw [← ia.length]
      have := c11
      rw [Nat.blt_eq] at this
      exact this
    refine ⟨_, Sum.inr s, i4, e5, ?_, ?_⟩
    · rw [kvz_len l, l, sizeLine_eq]; omega
    · have k15 := kb.trans k45
      have kpD : Kp (fun b => O b ∨ b = Dl) H5 (upd H5 Dl (.dK (putK (kvz ks acc) (Sum.inr s : Key) w))) := fun b o e n z => by
        rw [upd_ne]
        · exact e
        · intro h
          subst h
          rw [e5] at e
          cases e
          rcases z with z | ⟨_, z⟩ | ⟨_, _, z⟩
          · exact z (.inr rfl)
          · cases z
          · cases z
      refine ⟨k15.mut hD e5 (fun _ z => by cases z) (fun _ z => by cases z), keyZ ks s, putZ ks va s v', putZ ks acc s w, ?_, keyZ_nd nd, (putZ_len l).symm, ?_, ?_, e6⟩
      · rw [upd_same, putK_kvz nd l]
      · rw [putZ_len l]
        have : (keyZ ks s).length ≤ ks.length + 1 := by
          unfold keyZ
          cases hn : ks.any fun k => decide (k = s) with
          | true => show ks.length ≤ _; omega
          | false => show (ks ++ [s]).length ≤ _; rw [List.length_append]; exact Nat.le_refl _
        rw [sizeLine_eq]
        omega
      · refine putZ_is (IsL.kp kpD _ _ (IsL.kp ((R.of0 (r := r0 g) (r01.trans k45)).kp fun b h => h.elim) _ _ ia)) (Is.kp kpD _ _ i5)
  · rintro Hn ⟨kn, ks, va, acc, en, nd, l, z, inn, ef⟩
    rw [List.drop_length] at ef
    cases ef
    exact q Dl Hn (k1.trans (R.of0 kn)) (k1.free _ hD) ⟨acc, en, nd, l, z, inn⟩
theorem CnIs.imm {p : Addr} {d : D} (hp : ¬ O p) (h : CnIs g (fun b => O b ∨ b = p) H p d) : Is g O H d (.ref p) := by
  cases d with
  | lst ds => obtain ⟨vs, e, z, q⟩ := h; exact ⟨p, vs, rfl, hp, e, z, IsL.anti (fun b h => .inl h) _ _ q⟩
  | dct ks ds => obtain ⟨vs, e, nd, l, z, q⟩ := h; exact ⟨p, vs, rfl, hp, .inl e, l, z, IsL.anti (fun b h => .inl h) _ _ q⟩
  | _ => exact h.elim
theorem dc_at {tk tv : TE} {vs : List Nat} {fk fv : List D → Option D} {ds : List D} {d : D} (E : Env g (r0 g) O σ H ρ ω) (hi : ItAt g (r0 g) wi O σ H ds) (ht : TgO g tg un js) (hjs : ∀ j ∈ js, j ∈ vs) (hv : ∀ j ∈ vs, ∀ c, ω ≠ some (j, c))
    (hk : ∀ ds, EvO g (r0 g) tk (setM (wipeR ρ vs) js ds) ω (fk ds)) (hb : ∀ ds, EvO g (r0 g) tv (setM (wipeR ρ vs) js ds) ω (fv ds)) (e2 : dcO un js.length fk fv ds = some d) (Q : VK) (q : ∀ v H', R g (r0 g) H H' → Is g O H' d v → Q v H') : tDc wi tg tYes tk tv vs σ H Q :=
  dcN_at E hi ht hjs hv hk hb e2 Q fun p H' k n c => q _ H' k (c.imm fun z => E.hid p z n)
theorem ev_dc {tk tv : TE} {vs : List Nat} {fk fv : List D → Option D} (hi : ItO g (r0 g) wi ρ ω mi) (ht : TgO g tg un js) (hjs : ∀ j ∈ js, j ∈ vs) (hv : ∀ j ∈ vs, ∀ c, ω ≠ some (j, c))
    (hk : ∀ ds, EvO g (r0 g) tk (setM (wipeR ρ vs) js ds) ω (fk ds)) (hb : ∀ ds, EvO g (r0 g) tv (setM (wipeR ρ vs) js ds) ω (fv ds)) : EvO g (r0 g) (tDc wi tg tYes tk tv vs) ρ ω (ob mi (dcO un js.length fk fv)) := fun d e O σ H E Q q => by
  obtain ⟨ds, e1, e2⟩ := ob_some e
  exact dc_at E (hi ds e1 O σ H E) ht hjs hv hk hb e2 Q q

/-- the same but for dicts that are locked here or there -/
def Sim (H H' : Hp) : Prop := ∀ b, H' b = H b ∨ ∃ kvs, Rd H b (.dK kvs) ∧ Rd H' b (.dK kvs)
theorem Sim.symm (h : Sim H H') : Sim H' H := fun b => (h b).imp Eq.symm fun ⟨k, a, b⟩ => ⟨k, b, a⟩
theorem rd_inj {a : Addr} {k k' : List (Key × V)} (h : Rd H a (.dK k)) (h' : Rd H a (.dK k')) : k = k' := by
  rcases h with h | ⟨o, h⟩ <;> rcases h' with h' | ⟨o', h'⟩ <;> (rw [h] at h'; cases h'; try rfl)
mutual
theorem Is.sim (s : Sim H H') : ∀ (d : D) (v : V), Is g O H d v → Is g O H' d v
  | .non, v, h => h
  | .bl b, v, h => h
  | .int i, v, h => h
  | .str s, v, h => h
  | .ref a, v, h => h
  | .tup ds, v, h => by
    obtain ⟨a, vs, e, q, z, r⟩ := h
    refine ⟨a, vs, e, ?_, z, IsL.sim s ds vs r⟩
    rcases s a with h | ⟨k, h | ⟨_, h⟩, _⟩
    · rw [h]; exact q
    all_goals (rw [q] at h; cases h)
  | .ptup ds, v, h => by
    obtain ⟨a, o, vs, e, q, n, z, r⟩ := h
    refine ⟨a, o, vs, e, ?_, n, z, IsL.sim s ds vs r⟩
    rcases s a with h | ⟨k, h | ⟨_, h⟩, _⟩
    · rw [h]; exact q
    all_goals (rw [q] at h; cases h)
  | .lst ds, v, h => by
    obtain ⟨a, vs, e, n, q, z, r⟩ := h
    refine ⟨a, vs, e, n, ?_, z, IsL.sim s ds vs r⟩
    rcases s a with h | ⟨k, h | ⟨_, h⟩, _⟩
    · rw [h]; exact q
    all_goals (rw [q] at h; cases h)
  | .dct ks ds, v, h => by
    obtain ⟨a, vs, e, n, q, l, z, r⟩ := h
    refine ⟨a, vs, e, n, ?_, l, z, IsL.sim s ds vs r⟩
    rcases s a with h | ⟨k, h1, h2⟩
    · unfold Rd at q ⊢
      rw [h]
      exact q
    · rw [rd_inj q h1]; exact h2
  | .ins c fn ds, v, h => by
    obtain ⟨a, dx, fs, vs, e, n, q, r, l, f⟩ := h
    refine ⟨a, dx, fs, vs, e, n, ?_, IsL.sim s ds vs r, l, f⟩
    rcases s a with h | ⟨k, h | ⟨_, h⟩, _⟩
    · rw [h]; exact q
    all_goals (rw [q] at h; cases h)
theorem IsL.sim (s : Sim H H') : ∀ (ds : List D) (vs : List V), IsL g O H ds vs → IsL g O H' ds vs
  | [], vs, h => h
  | d :: ds, vs, h => by
    obtain ⟨v, r, e, a, b⟩ := h
    exact ⟨v, r, e, Is.sim s d v a, IsL.sim s ds r b⟩
end
theorem sim_lock {a : Addr} {kvs : List (Key × V)} (h : H a = some (.dK kvs)) (od : Obj) : Sim H (upd H a (.frz od (.dK kvs))) := fun b => by
  by_cases e : b = a
  · subst e; exact .inr ⟨kvs, .inl h, .inr ⟨od, upd_same⟩⟩
  · exact .inl (upd_ne e)
theorem sim_open {a : Addr} {kvs : List (Key × V)} {od : Obj} (h : H a = some (.frz od (.dK kvs))) : Sim H (upd H a (.dK kvs)) := fun b => by
  by_cases e : b = a
  · subst e; exact .inr ⟨kvs, .inr ⟨od, h⟩, .inl upd_same⟩
  · exact .inl (upd_ne e)
theorem CnIs.sim {p : Addr} {c : Cn} (s : Sim H H') (hp : H' p = H p) (h : CnIs g O H p c) : CnIs g O H' p c := h.mv (fun o e _ => by rw [hp]; exact e) fun _ _ q => IsL.sim s _ _ q
theorem Env.lock {a : Addr} {u : HO} (E : Env g (r0 g) O σ H ρ ω) (s : Sim H (upd H a u)) (na : ¬ O a) (ht : TabsN g.T (upd H a u)) : Env g (r0 g) O σ (upd H a u) ρ ω :=
  ⟨E.len, fun i d e => by obtain ⟨v, h1, h2⟩ := E.at_ i d e; exact ⟨v, h1, Is.sim s _ _ h2⟩, fun b h => h.elim, fun b h z => by
      by_cases e : b = a
      · subst e; exact na h
      · rw [upd_ne e] at z; exact E.hid b h z, fun _ a => a.elim, ht, True.intro, fun i c e => by
      obtain ⟨p, h1, h2, h3, h4⟩ := E.own i c e
      exact ⟨p, h1, h2, h3, h4.sim s (upd_ne fun z => na (z ▸ h2))⟩⟩
theorem R0.open {a : Addr} {kvs : List (Key × V)} {od : Obj} (h : H a = some (.dK kvs)) (k : R0 g (upd H a (.frz od (.dK kvs))) H') : R0 g H (upd H' a (.dK kvs)) where
  keep := fun b o e n => by
    by_cases z : b = a
    · subst z; rw [upd_same, ← h]; exact e
    · rw [upd_ne z]; exact k.keep b o (by rw [upd_ne z]; exact e) n
  free := fun b e => by
    have e1 := upd_none e
    have e2 := k.free b e1
    exact upd_none e2
  tabs := fun t => by
    have h1 : TabsN g.T (upd H a (.frz od (.dK kvs))) := tabs_upd t h (fun _ z => by cases z) fun _ z => by cases z
    exact tabs_upd (k.tabs h1) (k.keep a _ upd_same fun _ z => by cases z) (fun _ z => by cases z) fun _ z => by cases z
  tb := fun b ps e => by
    have z : b ≠ a := fun z => by subst z; rw [h] at e; cases e
    rw [upd_ne z]
    exact k.tb b ps (by rw [upd_ne z]; exact e)
theorem keys_get : ∀ {ks : List Str} {vs : List V} {i : Nat} {k : Key} {v : V}, ks.length = vs.length → (kvz ks vs)[i]? = some (k, v) → ∃ j, ks[i]? = some j ∧ k = Sum.inr j
  | [], _, i, _, _, _, e => by simp [kvz] at e
  | _ :: _, [], _, _, _, h, _ => by cases h
  | j :: ks, w :: vs, 0, k, v, h, e => by
    have e : some ((Sum.inr j : Key), w) = some (k, v) := e
    cases e
    exact ⟨j, rfl, rfl⟩
  | j :: ks, w :: vs, i + 1, k, v, h, e => keys_get (i := i) (by simpa using h) e
theorem wk_keys {a : Addr} {o : Obj} {ks : List Str} {vs : List V} (n : ¬ O a) (ha : H a = some (.frz o (.dK (kvz ks vs)))) (l : ks.length = vs.length) : WkO g O H (ks.map .str) (Itk a o (kvz ks vs)) := by
  have w := walk_keys (d := a) (o := o) (kvs := kvz ks vs)
  unfold WkO
  rw [List.length_map, ← kvz_len l]
  refine w.mono (fun H1 h => h a _ ha (fun _ z => by cases z) (.inl n)) fun j H1 x H2 hj h y => ?_
  obtain ⟨rfl, k, v, e1, rfl⟩ := y
  obtain ⟨s, h1, rfl⟩ := keys_get l e1
  exact ⟨R0.refl, .str s, by rw [List.getElem?_map, h1]; rfl, fun _ _ _ => rfl⟩
theorem it_keys {i : Nat} {a : Addr} {o : Obj} {ks : List Str} {vs : List V} (hσ : σ[i]? = some (some (.ref a))) (n : ¬ O a) (ha : H a = some (.frz o (.dK (kvz ks vs)))) (l : ks.length = vs.length) : ItAt g (r0 g) (iKeys (tVar i)) O σ H (ks.map .str) := fun Rk q =>
  ⟨_, hσ, a, o, rfl, .inl ⟨_, ha, q _ H R.refl (wk_keys n ha l)⟩⟩
/-- with the dict locked, or where it is locked already -/
def tLk (t : TE) : TE := fun σ H Q => tLockE t σ H Q ∨ t σ H Q
theorem pe_lk {X : Cx} {e : Expr} {t : TE} (h : PE X e t) : PE X e (tLk t) := ⟨fun pins s σ H Q I hw => hw.elim ((pe_lock h).run pins s σ H Q I) (h.run pins s σ H Q I)⟩
theorem ev_lk {i : Nat} {t : TE} {f : List D → Option D} {ks : List Str} {kd : List D} (hi : ρ[i]? = some (some (.dct ks kd)))
    (h : ∀ (O : Addr → Prop) (σ : L2.St) (H : Hp) (d : D), Env g (r0 g) O σ H ρ ω → ItAt g (r0 g) (iKeys (tVar i)) O σ H (ks.map .str) → f (ks.map .str) = some d → ∀ Q : VK, (∀ v H', R g (r0 g) H H' → Is g O H' d v → Q v H') → t σ H Q) :
    EvO g (r0 g) (tLk t) ρ ω (f (ks.map .str)) := fun d e O σ H E Q q => by
  obtain ⟨v, hv, a, vs, rfl, na, rd, l, z, iv⟩ := E.at_ i _ hi
  rcases rd with ha | ⟨o, ha⟩
  · refine .inl ⟨a, _, ha, True.intro, fun od => ?_⟩
    have tb : TabsN g.T (upd H a (.frz od (.dK (kvz ks vs)))) := tabs_upd E.tabs ha (fun _ z => by cases z) fun _ z => by cases z
    refine h O σ _ d (E.lock (sim_lock ha od) na tb) (it_keys hv na upd_same l) e _ fun w H' k iw => ?_
    have ka := k.to0.keep a _ upd_same fun _ z => by cases z
    exact ⟨ka, q w _ (R.of0 (R0.open ha k.to0)) (Is.sim (sim_open ka) _ _ iw)⟩
  · exact .inr (h O σ H d E (it_keys hv na ha l) e Q q)
/-- a for over a dict -/
def tLkS (t : TS) : TS := fun D σ H => tLock t D σ H ∨ t D σ H
theorem ps_lk {X : Cx} {st : Stmt} {t : TS} (h : PS X st t) : PS X st (tLkS t) := ⟨fun pins s σ H D I hw => hw.elim ((ps_lock h).run pins s σ H D I) (h.run pins s σ H D I)⟩
theorem rn_lk {α : Type} {i : Nat} {tg : TG} {un : D → Option (List D)} {js : List Nat} {ts : TS} {f : α → List D → Option α} {st0 : α} {Pr : α → Rho} {Po : α → Om} {ks : List Str} {kd : List D} (hi : ρ[i]? = some (some (.dct ks kd)))
    (ht : TgO g tg un js) (hl : (Pr st0).length = ρ.length) (h0 : ∀ (i : Nat) (d : D), (Pr st0)[i]? = some (some d) → ρ[i]? = some (some d)) (ho : Po st0 = ω)
    (hj : ∀ st, ∀ j ∈ js, ∀ c, Po st ≠ some (j, c)) (hb : ∀ st ds, RdN g (r0 g) ts (setM (Pr st) js ds) (Po st) (f st ds) Pr Po) :
    RdN g (r0 g) (tLkS (tFor (iKeys (tVar i)) tg ts)) ρ ω (forO un js.length f st0 (ks.map .str)) Pr Po := fun a e H0 O0 O σ H D E q => by
  obtain ⟨v, hv, d, vs, rfl, na, rd, l, z, iv⟩ := E.env.at_ i _ hi
  rcases rd with ha | ⟨o, ha⟩
  · refine .inl ⟨d, _, ha, True.intro, fun od => ?_⟩
    have tb : TabsN g.T (upd H d (.frz od (.dK (kvz ks vs)))) := tabs_upd E.env.tabs ha (fun _ z => by cases z) fun _ z => by cases z
    have E1 := E.env.lock (sim_lock ha od) na tb
    -- the entry's heap with the dict locked there, too
    have hH0 : ∀ o, H0 d = some o → o = .dK (kvz ks vs) := fun o e0 => by
      by_cases hb : ∃ ps, o = .tbl ps
      · obtain ⟨ps, rfl⟩ := hb
        obtain ⟨qs, h1⟩ := E.r.tb d ps e0
        rw [ha] at h1
        cases h1
      · have := E.r.to0.keep d _ e0 (fun ps z => hb ⟨ps, z⟩)
        rw [ha] at this
        exact (Option.some.inj this).symm
    let F0 : Hp := fun b => if b = d then (if H0 d = none then none else some (.frz od (.dK (kvz ks vs)))) else H0 b
    have f0d : F0 d = if H0 d = none then none else some (.frz od (.dK (kvz ks vs))) := if_pos rfl
    have f0n : ∀ b, b ≠ d → F0 b = H0 b := fun b hb => if_neg hb
    have f0none : ∀ b, F0 b = none ↔ H0 b = none := fun b => by
      by_cases hb : b = d
      · subst hb
        rw [f0d]
        by_cases hn : H0 b = none
        · rw [if_pos hn]; exact ⟨fun _ => hn, fun _ => rfl⟩
        · rw [if_neg hn]; exact ⟨fun z => (by cases z), fun z => absurd z hn⟩
      · rw [f0n b hb]
    have kR : R0 g F0 (upd H d (.frz od (.dK (kvz ks vs)))) := by
      refine ⟨fun b o e n => ?_, fun b e => ?_, fun _ => tb, fun b ps e => ?_⟩
      · by_cases hb : b = d
        · subst hb
          rw [f0d] at e
          by_cases hn : H0 b = none
          · rw [if_pos hn] at e; cases e
          · rw [if_neg hn] at e; rw [upd_same]; exact e
        · rw [f0n b hb] at e
          rw [upd_ne hb]
          exact E.r.to0.keep b o e n
      · exact (f0none b).mpr (E.r.free b (upd_none e))
      · by_cases hb : b = d
        · subst hb
          rw [f0d] at e
          by_cases hn : H0 b = none
          · rw [if_pos hn] at e; cases e
          · rw [if_neg hn] at e; cases e
        · rw [f0n b hb] at e
          rw [upd_ne hb]
          exact E.r.tb b ps e
    have E2 : SEnv g (r0 g) F0 O0 O σ (upd H d (.frz od (.dK (kvz ks vs)))) ρ ω := ⟨E1, R.of0 kR, E.up, fun i c b e q => ⟨(f0none b).mpr (E.fr i c b e q).1, (E.fr i c b e q).2⟩⟩
    refine for_at E2 (it_keys hv na upd_same l) ht hl h0 ho hj hb e fun σ' H' E3 kp3 => ?_
    have ka : H' d = some (.frz od (.dK (kvz ks vs))) := kp3 d _ upd_same (fun _ z => by cases z) (.inl na)
    refine ⟨ka, ?_⟩
    have s := sim_open ka
    have tb' : TabsN g.T (upd H' d (.dK (kvz ks vs))) := tabs_upd E3.env.tabs ka (fun _ z => by cases z) fun _ z => by cases z
    refine q σ' _ ⟨E3.env.lock s na tb', R.of0 ⟨fun b o e n => ?_, fun b e => ?_, fun _ => tb', fun b ps e => ?_⟩, E3.up, fun i c b e q => ⟨(f0none b).mp (E3.fr i c b e q).1, (E3.fr i c b e q).2⟩⟩ fun b o e n z => ?_
    · by_cases hb : b = d
      · subst hb; rw [upd_same, hH0 o e]
      · rw [upd_ne hb]; exact E3.r.to0.keep b o (by rw [f0n b hb]; exact e) n
    · exact (f0none b).mp (E3.r.free b (upd_none e))
    · have hb : b ≠ d := fun z => by subst z; have := hH0 _ e; cases this
      rw [upd_ne hb]
      exact E3.r.tb b ps (by rw [f0n b hb]; exact e)
    · by_cases hb : b = d
      · subst hb; rw [upd_same, ← ha]; exact e
      · rw [upd_ne hb]; exact kp3 b o (by rw [upd_ne hb]; exact e) n z
  · exact .inr (for_at E (it_keys hv na ha l) ht hl h0 ho hj hb e q)
end
end Z

namespace Z
open PySem PySem.Spec PyProof.Rows L2 NdefX LamX
section
variable {g : Gm} {r : Rl g} {H0 H H' : Hp} {O0 O : Addr → Prop} {σ : L2.St} {ρ : Rho} {ω : Om}
theorem ev_none {te : TE} : EvO g r te ρ ω none := fun d e => by cases e
theorem it_none {wi : TI} : ItO g r wi ρ ω none := fun d e => by cases e
theorem et_none {te : TT} : EvT g r te ρ ω none := fun d e => by cases e
def EvN (g : Gm) (r : Rl g) (te : TE) (ρ : Rho) (m : Option D) : Prop := ∀ c, m = some c → ∀ O σ H, Env g r O σ H ρ none → ∀ Q : VK, (∀ p H', R g r H H' → H p = none → ¬ r.A H' p → CnIs g (fun b => O b ∨ b = p) H' p c → Q (.ref p) H') → te σ H Q
theorem hideP {p : Addr} {ds : List D} {vs : List V} (h : H p = none) (i : IsL g O H ds vs) : IsL g (fun b => O b ∨ b = p) H ds vs := IsL.hide (fun b h' => h'.imp id fun z => by rw [z]; exact h) _ _ i
theorem en_lst {tr : TA} {ms : Option (List D)} (h : EvA g r tr ρ none ms) : EvN g r (tLst tr) ρ (ob ms dlstD) := fun d e O σ H E Q q => by
  obtain ⟨ds, e1, e⟩ := ob_some e
  obtain ⟨c, e⟩ := ock_some e
  cases e
  refine h ds e1 O σ H E _ fun vs H1 k1 i1 => ?_
  have hl : vs.length ≤ sizeLine := by rw [← i1.length]; exact small_le c
  refine ⟨hl, fun p hp => ?_⟩
  have k : R g r H1 (upd H1 p (.lst vs)) := R.new hp fun _ z => by cases z
  have E1 := (E.go k1).go k
  exact q p _ (k1.trans k) (k1.free _ hp) (fun z => r.hN _ _ E1.J z vs upd_same) ⟨vs, upd_same, hl, IsL.kp (k.kp fun b h => .inl (E.sub b h)) _ _ (hideP hp i1)⟩
theorem en_dnew : EvN g (r0 g) tDNewK ρ (some (.dct [] [])) := fun d e O σ H E Q q => by
  cases e
  intro p hp
  exact q p _ (R.new hp fun _ z => by cases z) hp (fun z => z) ⟨[], upd_same, List.nodup_nil, rfl, Nat.zero_le _, rfl⟩
theorem en_dc {wi : TI} {tg : TG} {un : D → Option (List D)} {js : List Nat} {mi : Option (List D)} {tk tv : TE} {vs : List Nat} {fk fv : List D → Option D} (hi : ItO g (r0 g) wi ρ none mi) (ht : TgO g tg un js) (hjs : ∀ j ∈ js, j ∈ vs)
    (hk : ∀ ds, EvO g (r0 g) tk (setM (wipeR ρ vs) js ds) none (fk ds)) (hb : ∀ ds, EvO g (r0 g) tv (setM (wipeR ρ vs) js ds) none (fv ds)) : EvN g (r0 g) (tDc wi tg tYes tk tv vs) ρ (ob mi (dcO un js.length fk fv)) := fun d e O σ H E Q q => by
  obtain ⟨ds, e1, e2⟩ := ob_some e
  exact dcN_at E (hi ds e1 O σ H E) ht hjs (fun j _ c z => by cases z) hk hb e2 Q fun p H' k n c => q p H' k n (fun z => z) c
theorem CnIs.ne {p : Addr} {c : D} (h : CnIs g O H p c) : H p ≠ none := by
  cases c with
  | lst ds => obtain ⟨vs, e, _⟩ := h; rw [e]; exact fun z => by cases z
  | dct ks ds => obtain ⟨vs, e, _⟩ := h; rw [e]; exact fun z => by cases z
  | _ => exact h.elim
theorem Env.own1 {p : Addr} {i : Nat} {c : D} (E : Env g r O σ H ρ none) (hi : i < ρ.length) (k : R g r H H') (hp : H p = none) (hA : ¬ r.A H' p) (hc : CnIs g (fun b => O b ∨ b = p) H' p c) : Env g r (fun b => O b ∨ b = p) (σ.set i (some (.ref p))) H' (ρ.set i none) (some (i, c)) := by
  have kp : Kp (fun b => O b ∨ b = p) H H' := (k.kp E.sub).anti fun b h => .inl h
  have nO : ∀ b, (O b ∨ b = p) → O b ∨ H b = none := fun b h => h.imp id fun z => by rw [z]; exact hp
  refine ⟨by rw [List.length_set, List.length_set, E.len], fun j d q => ?_, fun b h => .inl (E.sub b h), fun b h => ?_, fun b a h => ?_, k.tabs E.tabs, k.J E.J, fun j d q => ?_⟩
  · have hj : i ≠ j := fun z => by subst z; rw [List.getElem?_set_self hi] at q; cases q
    rw [List.getElem?_set_ne hj] at q
    obtain ⟨v, h1, h2⟩ := E.at_ j d q
    exact ⟨v, by rw [List.getElem?_set_ne hj]; exact h1, Is.kp kp _ _ (Is.hide nO _ _ h2)⟩
  · rcases h with h | h
    · exact fun z => E.hid b h (k.free b z)
    · rw [h]; exact hc.ne
  · rcases h with h | h
    · exact (k.A E.J b a).elim (fun z => E.out b z h) (E.hid b h)
    · rw [h] at a; exact hA a
  · cases q
    exact ⟨p, List.getElem?_set_self (by rw [E.len]; exact hi), .inr rfl, fun z => r.hL _ _ E.J z hp, hc⟩
theorem rb_own {te : TE} {u : TS} {m : Option D} {i : Nat} {k : D → Option D} (h : EvN g r te ρ m) (hi' : Nat.blt i ρ.length = true) (hu : ∀ c, RdB g r u (ρ.set i none) (some (i, c)) (k c)) : RdB g r (tSeq (tAsg te (gName i)) u) ρ none (ob m k) := fun d e H0 O0 O σ H D E q => by
  have hi : i < ρ.length := by rw [Nat.blt_eq] at hi'; exact hi'
  obtain ⟨c, e1, e2⟩ := ob_some e
  refine h c e1 O σ H E.env _ fun p H' k1 hp hA hc => ?_
  refine hu c d e2 H0 O0 (fun b => O b ∨ b = p) _ H' D ⟨E.env.own1 hi k1 hp hA hc, E.r.trans k1, fun b h => .inl (E.up b h), fun j c' b e3 e4 => ?_⟩ q
  cases e3
  rw [List.getElem?_set_self (by rw [E.env.len]; exact hi)] at e4
  cases e4
  exact ⟨E.r.free _ hp, fun z => E.env.hid _ (E.up _ z) hp⟩
theorem Env.imm {i : Nat} {c : D} (E : Env g r O σ H ρ (some (i, c))) (hi : i < ρ.length) : ∃ p, σ[i]? = some (some (.ref p)) ∧ O p ∧ Env g r (fun b => O b ∧ b ≠ p) σ H (ρ.set i (some c)) none := by
  obtain ⟨p, h1, h2, h3, h4⟩ := E.own i c rfl
  have an : ∀ b, (O b ∧ b ≠ p) → O b := fun b h => h.1
  refine ⟨p, h1, h2, by rw [List.length_set, E.len], fun j d q => ?_, fun b h => ⟨E.sub b h, fun z => h3 (z ▸ h)⟩, fun b h => E.hid b h.1, fun b a h => E.out b a h.1, E.tabs, E.J, fun j c' z => by cases z⟩
  by_cases hj : i = j
  · subst hj
    rw [List.getElem?_set_self hi] at q
    cases q
    refine ⟨_, h1, ?_⟩
    cases c with
    | lst ds => obtain ⟨vs, e, z, iv⟩ := h4; exact ⟨p, vs, rfl, fun z => z.2 rfl, e, z, IsL.anti an _ _ iv⟩
    | dct ks ds => obtain ⟨vs, e, nd, l, z, iv⟩ := h4; exact ⟨p, vs, rfl, fun z => z.2 rfl, .inl e, l, z, IsL.anti an _ _ iv⟩
    | _ => exact h4.elim
  · rw [List.getElem?_set_ne hj] at q
    obtain ⟨v, h1, h2⟩ := E.at_ j d q
    exact ⟨v, h1, Is.anti an _ _ h2⟩
theorem rb_freeze {u : TS} {m : Option D} {i : Nat} {c : D} (hi' : Nat.blt i ρ.length = true) (hu : RdB g r u (ρ.set i (some c)) none m) : RdB g r u ρ (some (i, c)) m := fun d e H0 O0 O σ H D E q => by
  have hi : i < ρ.length := by rw [Nat.blt_eq] at hi'; exact hi'
  obtain ⟨p, h1, h2, E1⟩ := E.env.imm hi
  refine hu d e H0 O0 _ σ H D ⟨E1, E.r, fun b h => ⟨E.up b h, fun z => (E.fr i c p rfl h1).2 (z ▸ h)⟩, fun j c' b e3 => by cases e3⟩ q
theorem Env.put {i : Nat} {c c' : D} {p : Addr} {o u : HO} (E : Env g r O σ H ρ (some (i, c))) (hσ : σ[i]? = some (some (.ref p))) (hO : O p) (e : H p = some o) (ho : ¬ Rob o) (k : R g r H0 (upd H p u)) (hJ : r.J (upd H p u)) (hA : ∀ b, r.A (upd H p u) b → r.A H b) (ht : TabsN g.T (upd H p u)) (hL : ¬ r.L p) (hc : Kp O H (upd H p u) → CnIs g O (upd H p u) p c') : Env g r O σ (upd H p u) ρ (some (i, c')) ∧ Kp O H (upd H p u) := by
  have kp : Kp O H (upd H p u) := fun b o' e' n z => by
    rw [upd_ne]
    · exact e'
    · intro h
      subst h
      rw [e] at e'
      cases e'
      rcases z with z | z
      · exact z hO
      · exact ho z
  refine ⟨⟨E.len, fun j d q => ?_, E.sub, fun b h z => E.hid b h (upd_none z), fun b a => E.out b (hA b a), ht, hJ, fun j d q => ?_⟩, kp⟩
  · obtain ⟨v, h1, h2⟩ := E.at_ j d q
    exact ⟨v, h1, Is.kp kp _ _ h2⟩
  · cases q
    exact ⟨p, hσ, hO, hL, hc kp⟩
theorem notRobL {xs : List V} : ¬ Rob (.lst xs) := fun h => by
  rcases h with ⟨_, z⟩ | ⟨_, _, z⟩ <;> cases z
theorem notRobD {xs : List (Key × V)} : ¬ Rob (.dK xs) := fun h => by
  rcases h with ⟨_, z⟩ | ⟨_, _, z⟩ <;> cases z
theorem SEnv.putL {i : Nat} {c c' : D} {p : Addr} {xs ys : List V} (E : SEnv g r H0 O0 O σ H ρ (some (i, c))) (hσ : σ[i]? = some (some (.ref p))) (hO : O p) (hL : ¬ r.L p) (e : H p = some (.lst xs)) (hc : Kp O H (upd H p (.lst ys)) → CnIs g O (upd H p (.lst ys)) p c') : SEnv g r H0 O0 O σ (upd H p (.lst ys)) ρ (some (i, c')) ∧ Kp O H (upd H p (.lst ys)) := by
  obtain ⟨n0, n1⟩ := E.fr i c p rfl hσ
  have k : R g r H0 (upd H p (.lst ys)) := R.mut E.r n0 e hL
  obtain ⟨E1, kp⟩ := E.env.put hσ hO e notRobL k (r.hU _ _ _ _ e hL E.env.J) (r.hUA _ _ _ _ e hL E.env.J) (tabs_upd E.env.tabs e (fun _ z => by cases z) fun _ z => by cases z) hL hc
  exact ⟨⟨E1, k, E.up, fun j d b q h => by cases q; exact E.fr i c b rfl h⟩, kp⟩
theorem SEnv.putD {i : Nat} {c c' : D} {p : Addr} {xs ys : List (Key × V)} (E : SEnv g (r0 g) H0 O0 O σ H ρ (some (i, c))) (hσ : σ[i]? = some (some (.ref p))) (hO : O p) (e : H p = some (.dK xs)) (hc : Kp O H (upd H p (.dK ys)) → CnIs g O (upd H p (.dK ys)) p c') : SEnv g (r0 g) H0 O0 O σ (upd H p (.dK ys)) ρ (some (i, c')) ∧ Kp O H (upd H p (.dK ys)) := by
  obtain ⟨n0, n1⟩ := E.fr i c p rfl hσ
  have k : R g (r0 g) H0 (upd H p (.dK ys)) := R.of0 (R0.mut E.r.to0 n0 e (fun _ z => by cases z) fun _ z => by cases z)
  obtain ⟨E1, kp⟩ := E.env.put hσ hO e notRobD k True.intro (fun _ h => h) (tabs_upd E.env.tabs e (fun _ z => by cases z) fun _ z => by cases z) (fun z => z) hc
  exact ⟨⟨E1, k, E.up, fun j d b q h => by cases q; exact E.fr i c b rfl h⟩, kp⟩
theorem rn_app {te : TE} {m : Option D} {i : Nat} {c : D} (h : EvO g r te ρ (some (i, c)) m) : RdN g r (tDrop (tBM g.K "list" rAppend (tVar i) (tCons te tNil))) ρ (some (i, c)) (ob m (dapp c)) (fun _ => ρ) (fun c' => some (i, c')) := fun c' e H0 O0 O σ H D E q => by
  obtain ⟨d, e1, e2⟩ := ob_some e
  cases c with
  | lst ds =>
    obtain ⟨cc, e2⟩ := ock_some e2
    cases e2
    obtain ⟨p, h1, h2, h3, vs, h4, z, iv⟩ := E.env.own i _ rfl
    refine ⟨_, h1, .inl ⟨rfl, vs, SqL.of h4⟩, ?_⟩
    refine h d e1 O σ H E.env _ fun v H1 k1 i1 => ?_
    have E1 := E.go k1
    obtain ⟨vs', h4, z, iv⟩ := CnIs.go (c := .lst ds) k1 E.env.sub h3 ⟨vs, h4, z, iv⟩
    have hl : vs'.length < sizeLine := by
      rw [← iv.length]
      have := cc
      rw [Nat.blt_eq] at this
      exact Nat.lt_of_lt_of_le this (by decide)
    refine ⟨p, vs', v, rfl, rfl, h4, hl, ?_⟩
    obtain ⟨E2, kp⟩ := E1.putL h1 h2 h3 h4 (c' := .lst (ds ++ [d])) fun kp => ⟨_, upd_same, by rw [List.length_append]; exact hl, (IsL.kp kp _ _ iv).append (IsL.one (Is.kp kp _ _ i1))⟩
    exact q _ _ E2 ((k1.kp E.env.sub).trans kp)
  | _ => cases e2
theorem rn_dput {ty tv : TE} {mk mv : Option D} {i : Nat} {c : D} (hv : EvO g (r0 g) tv ρ (some (i, c)) mv) (hk : EvO g (r0 g) ty ρ (some (i, c)) mk) : RdN g (r0 g) (sDPut (tVar i) ty tv) ρ (some (i, c)) (dputO c mv mk) (fun _ => ρ) (fun c' => some (i, c')) := fun c' e H0 O0 O σ H D E q => by
  obtain ⟨d, e1, e⟩ := ob_some e
  obtain ⟨s, e2, e⟩ := ob_some e
  cases c with
  | dct ks ds =>
    cases s with
    | str s =>
      obtain ⟨cc, e⟩ := ock_some e
      cases e
      refine hv d e1 O σ H E.env _ fun v H1 k1 i1 => ?_
      have E1 := E.go k1
      obtain ⟨p, h1, h2, h3, h4⟩ := E1.env.own i _ rfl
      refine ⟨_, h1, ?_⟩
      refine hk _ e2 O σ H1 E1.env _ fun y H2 k2 i2 => ?_
      have E2 := E1.go k2
      obtain ⟨vs, h5, nd, l, z, iv⟩ := CnIs.go (c := .dct ks ds) k2 E.env.sub h3 h4
      have hl : vs.length < 100000 := by
        rw [← iv.length]
        have := cc
        rw [Nat.blt_eq] at this
        exact this
      refine ⟨p, _, rfl, .inl ⟨kvz ks vs, Sum.inr s, h5, i2, by rw [kvz_len l, l, sizeLine_eq]; omega, rfl⟩, ?_⟩
      have hsz : (putZ ks vs s v).length ≤ sizeLine := by
        rw [putZ_len l]
        have : (keyZ ks s).length ≤ ks.length + 1 := by
          unfold keyZ
          cases hn : ks.any fun k => decide (k = s) with
          | true => show ks.length ≤ _; omega
          | false => show (ks ++ [s]).length ≤ _; rw [List.length_append]; exact Nat.le_refl _
        rw [sizeLine_eq]
        omega
      obtain ⟨E3, kp⟩ := E2.putD h1 h2 h5 (ys := putK (kvz ks vs) (Sum.inr s) v) (c' := .dct (keyZ ks s) (putZ ks ds s d)) fun kp => ⟨putZ ks vs s v, by rw [upd_same, putK_kvz nd l], keyZ_nd nd, (putZ_len l).symm, hsz, putZ_is (IsL.kp kp _ _ iv) (Is.kp kp _ _ (Is.kp (k2.kp E.env.sub) _ _ i1))⟩
      exact q _ _ E3 (((k1.trans k2).kp E.env.sub).trans kp)
    | _ => cases e
  | _ => cases e
theorem ev_lcK {i : Nat} {tg : TG} {un : D → Option (List D)} {js vs : List Nat} {te : TE} {f : List D → Option D} {d : D} (hi : ρ[i]? = some (some d)) (ht : TgO g tg un js) (hjs : ∀ j ∈ js, j ∈ vs) (hv : ∀ j ∈ vs, ∀ c, ω ≠ some (j, c))
    (hb : ∀ ds, EvO g (r0 g) te (setM (wipeR ρ vs) js ds) ω (f ds)) : EvO g (r0 g) (tLk (tLc (iKeys (tVar i)) tg tYes te vs)) ρ ω (ob (dkeys d) (lcO un js.length f)) := by
  cases d with
  | dct ks kd => exact ev_lk (f := lcO un js.length f) hi fun O σ H d E hit e Q q => lc_at E hit ht hjs hv hb e Q q
  | _ => exact ev_none
theorem ev_dcK {i : Nat} {tg : TG} {un : D → Option (List D)} {js vs : List Nat} {tk tv : TE} {fk fv : List D → Option D} {d : D} (hi : ρ[i]? = some (some d)) (ht : TgO g tg un js) (hjs : ∀ j ∈ js, j ∈ vs) (hv : ∀ j ∈ vs, ∀ c, ω ≠ some (j, c))
    (hk : ∀ ds, EvO g (r0 g) tk (setM (wipeR ρ vs) js ds) ω (fk ds)) (hb : ∀ ds, EvO g (r0 g) tv (setM (wipeR ρ vs) js ds) ω (fv ds)) : EvO g (r0 g) (tLk (tDc (iKeys (tVar i)) tg tYes tk tv vs)) ρ ω (ob (dkeys d) (dcO un js.length fk fv)) := by
  cases d with
  | dct ks kd => exact ev_lk (f := dcO un js.length fk fv) hi fun O σ H d E hit e Q q => dc_at E hit ht hjs hv hk hb e Q q
  | _ => exact ev_none
theorem rn_forK {α : Type} {i : Nat} {tg : TG} {un : D → Option (List D)} {js : List Nat} {ts : TS} {f : α → List D → Option α} {st0 : α} {Pr : α → Rho} {Po : α → Om} {d : D} (hi : ρ[i]? = some (some d))
    (ht : TgO g tg un js) (hl : (Pr st0).length = ρ.length) (h0 : ∀ (i : Nat) (d : D), (Pr st0)[i]? = some (some d) → ρ[i]? = some (some d)) (ho : Po st0 = ω)
    (hj : ∀ st, ∀ j ∈ js, ∀ c, Po st ≠ some (j, c)) (hb : ∀ st ds, RdN g (r0 g) ts (setM (Pr st) js ds) (Po st) (f st ds) Pr Po) :
    RdN g (r0 g) (tLkS (tFor (iKeys (tVar i)) tg ts)) ρ ω (ob (dkeys d) fun ds => forO un js.length f st0 ds) Pr Po := by
  cases d with
  | dct ks kd => exact rn_lk hi ht hl h0 ho hj hb
  | _ => exact rn_none
def leR : Rho → Rho → Prop
  | [], [] => True
  | none :: r, _ :: s => leR r s
  | some d :: r, x :: s => x = some d ∧ leR r s
  | _, _ => False
theorem leR_ok : ∀ {r s : Rho}, leR r s → r.length = s.length ∧ ∀ (i : Nat) (d : D), r[i]? = some (some d) → s[i]? = some (some d)
  | [], [], _ => ⟨rfl, fun i d h => by simp at h⟩
  | none :: r, x :: s, h => by
    obtain ⟨a, b⟩ := leR_ok (show leR r s from h)
    refine ⟨by rw [List.length_cons, List.length_cons, a], fun i d e => ?_⟩
    cases i with
    | zero => simp at e
    | succ i => simpa using b i d (by simpa using e)
  | some d :: r, x :: s, h => by
    obtain ⟨h1, h2⟩ := (show x = some d ∧ leR r s from h)
    obtain ⟨a, b⟩ := leR_ok h2
    refine ⟨by rw [List.length_cons, List.length_cons, a], fun i e q => ?_⟩
    cases i with
    | zero => simp at q; subst q; simp [h1]
    | succ i => simpa using b i e (by simpa using q)
  | [], _ :: _, h => h.elim
  | none :: _, [], h => h.elim
  | some _ :: _, [], h => h.elim
theorem rn_end {α : Type} {Pr : α → Rho} {Po : α → Om} {a : α} (hp : leR (Pr a) ρ) (ho : Po a = ω) : RdN g r tNext ρ ω (some a) Pr Po := fun e q H0 O0 O σ H D E k => by
  cases q
  obtain ⟨h1, h2⟩ := leR_ok hp
  exact k σ H (by rw [ho]; exact E.less h1 h2) Kp.refl
theorem rn_last {α β : Type} {ts : TS} {ma : Option α} {Pr : α → Rho} {Po : α → Om} {k : α → Option β} {Pr' : β → Rho} {Po' : β → Om} (h1 : RdN g r ts ρ ω ma Pr Po) (h2 : ∀ a, RdN g r tNext (Pr a) (Po a) (k a) Pr' Po') : RdN g r ts ρ ω (ob ma k) Pr' Po' := rn_seq h1 h2
/-- the state of a loop: its values by the slots js -/
def prS (ρ : Rho) (js : List Nat) (st : List D) : Rho := setM ρ js st
def poN (_ : List D) : Om := none
/-- .. with the frame's own container ahead -/
def prO (ρ : Rho) (js : List Nat) (st : List D) : Rho := setM ρ js st.tail
def poO (i : Nat) (st : List D) : Om := match st with
  | c :: _ => some (i, c)
  | [] => none
/-- the slots js hold these values -/
def eqS : Rho → List Nat → List D → Prop
  | ρ, j :: js, d :: st => ρ[j]? = some (some d) ∧ eqS ρ js st
  | _, _, _ => True
theorem eqS_ok {ρ : Rho} : ∀ {js : List Nat} {st : List D}, eqS ρ js st → setM ρ js st = ρ
  | [], _, _ => by unfold setM; rfl
  | _ :: _, [], _ => by unfold setM; rfl
  | j :: js, d :: st, h => by
    obtain ⟨h1, h2⟩ := (show ρ[j]? = some (some d) ∧ eqS ρ js st from h)
    show setM (ρ.set j (some d)) js st = ρ
    rw [rho_set_same h1]
    exact eqS_ok h2
end
end Z

namespace Z
open PySem PySem.Spec PyProof.Rows L2 NdefX LamX
def ar0 {α : Type} (f : Option α) (t0 : List D) : Option α := (@List.rec D (fun _ => Option α) (f) (fun _ _ _ => none) t0)
def ar1 {α : Type} (f : D → Option α) (t0 : List D) : Option α := (@List.rec D (fun _ => Option α) none (fun x0 t1 _ => (@List.rec D (fun _ => Option α) (f x0) (fun _ _ _ => none) t1)) t0)
def ar2 {α : Type} (f : D → D → Option α) (t0 : List D) : Option α := (@List.rec D (fun _ => Option α) none (fun x0 t1 _ => (@List.rec D (fun _ => Option α) none (fun x1 t2 _ => (@List.rec D (fun _ => Option α) (f x0 x1) (fun _ _ _ => none) t2)) t1)) t0)
def ar3 {α : Type} (f : D → D → D → Option α) (t0 : List D) : Option α := (@List.rec D (fun _ => Option α) none (fun x0 t1 _ => (@List.rec D (fun _ => Option α) none (fun x1 t2 _ => (@List.rec D (fun _ => Option α) none (fun x2 t3 _ => (@List.rec D (fun _ => Option α) (f x0 x1 x2) (fun _ _ _ => none) t3)) t2)) t1)) t0)
def ar4 {α : Type} (f : D → D → D → D → Option α) (t0 : List D) : Option α := (@List.rec D (fun _ => Option α) none (fun x0 t1 _ => (@List.rec D (fun _ => Option α) none (fun x1 t2 _ => (@List.rec D (fun _ => Option α) none (fun x2 t3 _ => (@List.rec D (fun _ => Option α) none (fun x3 t4 _ => (@List.rec D (fun _ => Option α) (f x0 x1 x2 x3) (fun _ _ _ => none) t4)) t3)) t2)) t1)) t0)
def ar5 {α : Type} (f : D → D → D → D → D → Option α) (t0 : List D) : Option α := (@List.rec D (fun _ => Option α) none (fun x0 t1 _ => (@List.rec D (fun _ => Option α) none (fun x1 t2 _ => (@List.rec D (fun _ => Option α) none (fun x2 t3 _ => (@List.rec D (fun _ => Option α) none (fun x3 t4 _ => (@List.rec D (fun _ => Option α) none (fun x4 t5 _ => (@List.rec D (fun _ => Option α) (f x0 x1 x2 x3 x4) (fun _ _ _ => none) t5)) t4)) t3)) t2)) t1)) t0)
def ar6 {α : Type} (f : D → D → D → D → D → D → Option α) (t0 : List D) : Option α := (@List.rec D (fun _ => Option α) none (fun x0 t1 _ => (@List.rec D (fun _ => Option α) none (fun x1 t2 _ => (@List.rec D (fun _ => Option α) none (fun x2 t3 _ => (@List.rec D (fun _ => Option α) none (fun x3 t4 _ => (@List.rec D (fun _ => Option α) none (fun x4 t5 _ => (@List.rec D (fun _ => Option α) none (fun x5 t6 _ => (@List.rec D (fun _ => Option α) (f x0 x1 x2 x3 x4 x5) (fun _ _ _ => none) t6)) t5)) t4)) t3)) t2)) t1)) t0)
section
variable {g : Gm} {r : Rl g} {H0 H H' : Hp} {O0 O : Addr → Prop} {σ : L2.St} {ρ : Rho} {ω : Om}
theorem rb_ar0 {u : TS} {A : List D → Rho} {B : List D → Om} {f : Option D} (h : RdB g r u (A []) (B []) (f)) : ∀ st, RdB g r u (A st) (B st) (ar0 f st)
  | [] => h
  | _ :: _ => rb_none
theorem rn_ar0 {β : Type} {u : TS} {A : List D → Rho} {B : List D → Om} {Pr : β → Rho} {Po : β → Om} {f : Option β} (h : RdN g r u (A []) (B []) (f) Pr Po) : ∀ st, RdN g r u (A st) (B st) (ar0 f st) Pr Po
  | [] => h
  | _ :: _ => rn_none
theorem ev_ar0 {u : TE} {A : List D → Rho} {f : Option D} (h : EvO g r u (A []) ω (f)) : ∀ st, EvO g r u (A st) ω (ar0 f st)
  | [] => h
  | _ :: _ => ev_none
theorem et_ar0 {u : TT} {A : List D → Rho} {B : List D → Om} {f : Option Bool} (h : EvT g r u (A []) (B []) (f)) : ∀ st, EvT g r u (A st) (B st) (ar0 f st)
  | [] => h
  | _ :: _ => et_none
theorem it_ar0 {u : TI} {A : List D → Rho} {f : Option (List D)} (h : ItO g r u (A []) ω (f)) : ∀ st, ItO g r u (A st) ω (ar0 f st)
  | [] => h
  | _ :: _ => it_none
theorem rb_ar1 {u : TS} {A : List D → Rho} {B : List D → Om} {f : D → Option D} (h : ∀ x0, RdB g r u (A [x0]) (B [x0]) (f x0)) : ∀ st, RdB g r u (A st) (B st) (ar1 f st)
  | [x0] => h x0
  | [] => rb_none
  | _ :: _ :: _ => rb_none
theorem rn_ar1 {β : Type} {u : TS} {A : List D → Rho} {B : List D → Om} {Pr : β → Rho} {Po : β → Om} {f : D → Option β} (h : ∀ x0, RdN g r u (A [x0]) (B [x0]) (f x0) Pr Po) : ∀ st, RdN g r u (A st) (B st) (ar1 f st) Pr Po
  | [x0] => h x0
  | [] => rn_none
  | _ :: _ :: _ => rn_none
theorem ev_ar1 {u : TE} {A : List D → Rho} {f : D → Option D} (h : ∀ x0, EvO g r u (A [x0]) ω (f x0)) : ∀ st, EvO g r u (A st) ω (ar1 f st)
  | [x0] => h x0
  | [] => ev_none
  | _ :: _ :: _ => ev_none
theorem et_ar1 {u : TT} {A : List D → Rho} {B : List D → Om} {f : D → Option Bool} (h : ∀ x0, EvT g r u (A [x0]) (B [x0]) (f x0)) : ∀ st, EvT g r u (A st) (B st) (ar1 f st)
  | [x0] => h x0
  | [] => et_none
  | _ :: _ :: _ => et_none
theorem it_ar1 {u : TI} {A : List D → Rho} {f : D → Option (List D)} (h : ∀ x0, ItO g r u (A [x0]) ω (f x0)) : ∀ st, ItO g r u (A st) ω (ar1 f st)
  | [x0] => h x0
  | [] => it_none
  | _ :: _ :: _ => it_none
theorem rb_ar2 {u : TS} {A : List D → Rho} {B : List D → Om} {f : D → D → Option D} (h : ∀ x0 x1, RdB g r u (A [x0, x1]) (B [x0, x1]) (f x0 x1)) : ∀ st, RdB g r u (A st) (B st) (ar2 f st)
  | [x0, x1] => h x0 x1
  | [] => rb_none
  | [_] => rb_none
  | _ :: _ :: _ :: _ => rb_none
theorem rn_ar2 {β : Type} {u : TS} {A : List D → Rho} {B : List D → Om} {Pr : β → Rho} {Po : β → Om} {f : D → D → Option β} (h : ∀ x0 x1, RdN g r u (A [x0, x1]) (B [x0, x1]) (f x0 x1) Pr Po) : ∀ st, RdN g r u (A st) (B st) (ar2 f st) Pr Po
  | [x0, x1] => h x0 x1
  | [] => rn_none
  | [_] => rn_none
  | _ :: _ :: _ :: _ => rn_none
theorem ev_ar2 {u : TE} {A : List D → Rho} {f : D → D → Option D} (h : ∀ x0 x1, EvO g r u (A [x0, x1]) ω (f x0 x1)) : ∀ st, EvO g r u (A st) ω (ar2 f st)
  | [x0, x1] => h x0 x1
  | [] => ev_none
  | [_] => ev_none
  | _ :: _ :: _ :: _ => ev_none
theorem et_ar2 {u : TT} {A : List D → Rho} {B : List D → Om} {f : D → D → Option Bool} (h : ∀ x0 x1, EvT g r u (A [x0, x1]) (B [x0, x1]) (f x0 x1)) : ∀ st, EvT g r u (A st) (B st) (ar2 f st)
  | [x0, x1] => h x0 x1
  | [] => et_none
  | [_] => et_none
  | _ :: _ :: _ :: _ => et_none
theorem it_ar2 {u : TI} {A : List D → Rho} {f : D → D → Option (List D)} (h : ∀ x0 x1, ItO g r u (A [x0, x1]) ω (f x0 x1)) : ∀ st, ItO g r u (A st) ω (ar2 f st)
  | [x0, x1] => h x0 x1
  | [] => it_none
  | [_] => it_none
  | _ :: _ :: _ :: _ => it_none
theorem rb_ar3 {u : TS} {A : List D → Rho} {B : List D → Om} {f : D → D → D → Option D} (h : ∀ x0 x1 x2, RdB g r u (A [x0, x1, x2]) (B [x0, x1, x2]) (f x0 x1 x2)) : ∀ st, RdB g r u (A st) (B st) (ar3 f st)
  | [x0, x1, x2] => h x0 x1 x2
  | [] => rb_none
  | [_] => rb_none
  | [_, _] => rb_none
  | _ :: _ :: _ :: _ :: _ => rb_none
theorem rn_ar3 {β : Type} {u : TS} {A : List D → Rho} {B : List D → Om} {Pr : β → Rho} {Po : β → Om} {f : D → D → D → Option β} (h : ∀ x0 x1 x2, RdN g r u (A [x0, x1, x2]) (B [x0, x1, x2]) (f x0 x1 x2) Pr Po) : ∀ st, RdN g r u (A st) (B st) (ar3 f st) Pr Po
  | [x0, x1, x2] => h x0 x1 x2
  | [] => rn_none
  | [_] => rn_none
  | [_, _] => rn_none
  | _ :: _ :: _ :: _ :: _ => rn_none
theorem ev_ar3 {u : TE} {A : List D → Rho} {f : D → D → D → Option D} (h : ∀ x0 x1 x2, EvO g r u (A [x0, x1, x2]) ω (f x0 x1 x2)) : ∀ st, EvO g r u (A st) ω (ar3 f st)
  | [x0, x1, x2] => h x0 x1 x2
  | [] => ev_none
  | [_] => ev_none
  | [_, _] => ev_none
  | _ :: _ :: _ :: _ :: _ => ev_none
theorem et_ar3 {u : TT} {A : List D → Rho} {B : List D → Om} {f : D → D → D → Option Bool} (h : ∀ x0 x1 x2, EvT g r u (A [x0, x1, x2]) (B [x0, x1, x2]) (f x0 x1 x2)) : ∀ st, EvT g r u (A st) (B st) (ar3 f st)
  | [x0, x1, x2] => h x0 x1 x2
  | [] => et_none
  | [_] => et_none
  | [_, _] => et_none
  | _ :: _ :: _ :: _ :: _ => et_none
theorem it_ar3 {u : TI} {A : List D → Rho} {f : D → D → D → Option (List D)} (h : ∀ x0 x1 x2, ItO g r u (A [x0, x1, x2]) ω (f x0 x1 x2)) : ∀ st, ItO g r u (A st) ω (ar3 f st)
  | [x0, x1, x2] => h x0 x1 x2
  | [] => it_none
  | [_] => it_none
  | [_, _] => it_none
  | _ :: _ :: _ :: _ :: _ => it_none
theorem rb_ar4 {u : TS} {A : List D → Rho} {B : List D → Om} {f : D → D → D → D → Option D} (h : ∀ x0 x1 x2 x3, RdB g r u (A [x0, x1, x2, x3]) (B [x0, x1, x2, x3]) (f x0 x1 x2 x3)) : ∀ st, RdB g r u (A st) (B st) (ar4 f st)
  | [x0, x1, x2, x3] => h x0 x1 x2 x3
  | [] => rb_none
  | [_] => rb_none
  | [_, _] => rb_none
  | [_, _, _] => rb_none
  | _ :: _ :: _ :: _ :: _ :: _ => rb_none
theorem rn_ar4 {β : Type} {u : TS} {A : List D → Rho} {B : List D → Om} {Pr : β → Rho} {Po : β → Om} {f : D → D → D → D → Option β} (h : ∀ x0 x1 x2 x3, RdN g r u (A [x0, x1, x2, x3]) (B [x0, x1, x2, x3]) (f x0 x1 x2 x3) Pr Po) : ∀ st, RdN g r u (A st) (B st) (ar4 f st) Pr Po
  | [x0, x1, x2, x3] => h x0 x1 x2 x3
  | [] => rn_none
  | [_] => rn_none
  | [_, _] => rn_none
  | [_, _, _] => rn_none
  | _ :: _ :: _ :: _ :: _ :: _ => rn_none
theorem ev_ar4 {u : TE} {A : List D → Rho} {f : D → D → D → D → Option D} (h : ∀ x0 x1 x2 x3, EvO g r u (A [x0, x1, x2, x3]) ω (f x0 x1 x2 x3)) : ∀ st, EvO g r u (A st) ω (ar4 f st)
  | [x0, x1, x2, x3] => h x0 x1 x2 x3
  | [] => ev_none
  | [_] => ev_none
  | [_, _] => ev_none
  | [_, _, _] => ev_none
  | _ :: _ :: _ :: _ :: _ :: _ => ev_none
theorem et_ar4 {u : TT} {A : List D → Rho} {B : List D → Om} {f : D → D → D → D → Option Bool} (h : ∀ x0 x1 x2 x3, EvT g r u (A [x0, x1, x2, x3]) (B [x0, x1, x2, x3]) (f x0 x1 x2 x3)) : ∀ st, EvT g r u (A st) (B st) (ar4 f st)
  | [x0, x1, x2, x3] => h x0 x1 x2 x3
  | [] => et_none
  | [_] => et_none
  | [_, _] => et_none
  | [_, _, _] => et_none
  | _ :: _ :: _ :: _ :: _ :: _ => et_none
theorem it_ar4 {u : TI} {A : List D → Rho} {f : D → D → D → D → Option (List D)} (h : ∀ x0 x1 x2 x3, ItO g r u (A [x0, x1, x2, x3]) ω (f x0 x1 x2 x3)) : ∀ st, ItO g r u (A st) ω (ar4 f st)
  | [x0, x1, x2, x3] => h x0 x1 x2 x3
  | [] => it_none
  | [_] => it_none
  | [_, _] => it_none
  | [_, _, _] => it_none
  | _ :: _ :: _ :: _ :: _ :: _ => it_none
theorem rb_ar5 {u : TS} {A : List D → Rho} {B : List D → Om} {f : D → D → D → D → D → Option D} (h : ∀ x0 x1 x2 x3 x4, RdB g r u (A [x0, x1, x2, x3, x4]) (B [x0, x1, x2, x3, x4]) (f x0 x1 x2 x3 x4)) : ∀ st, RdB g r u (A st) (B st) (ar5 f st)
  | [x0, x1, x2, x3, x4] => h x0 x1 x2 x3 x4
  | [] => rb_none
  | [_] => rb_none
  | [_, _] => rb_none
  | [_, _, _] => rb_none
  | [_, _, _, _] => rb_none
  | _ :: _ :: _ :: _ :: _ :: _ :: _ => rb_none
theorem rn_ar5 {β : Type} {u : TS} {A : List D → Rho} {B : List D → Om} {Pr : β → Rho} {Po : β → Om} {f : D → D → D → D → D → Option β} (h : ∀ x0 x1 x2 x3 x4, RdN g r u (A [x0, x1, x2, x3, x4]) (B [x0, x1, x2, x3, x4]) (f x0 x1 x2 x3 x4) Pr Po) : ∀ st, RdN g r u (A st) (B st) (ar5 f st) Pr Po
  | [x0, x1, x2, x3, x4] => h x0 x1 x2 x3 x4
  | [] => rn_none
  | [_] => rn_none
  | [_, _] => rn_none
  | [_, _, _] => rn_none
  | [_, _, _, _] => rn_none
  | _ :: _ :: _ :: _ :: _ :: _ :: _ => rn_none
theorem ev_ar5 {u : TE} {A : List D → Rho} {f : D → D → D → D → D → Option D} (h : ∀ x0 x1 x2 x3 x4, EvO g r u (A [x0, x1, x2, x3, x4]) ω (f x0 x1 x2 x3 x4)) : ∀ st, EvO g r u (A st) ω (ar5 f st)
  | [x0, x1, x2, x3, x4] => h x0 x1 x2 x3 x4
  | [] => ev_none
  | [_] => ev_none
  | [_, _] => ev_none
  | [_, _, _] => ev_none
  | [_, _, _, _] => ev_none
  | _ :: _ :: _ :: _ :: _ :: _ :: _ => ev_none
theorem et_ar5 {u : TT} {A : List D → Rho} {B : List D → Om} {f : D → D → D → D → D → Option Bool} (h : ∀ x0 x1 x2 x3 x4, EvT g r u (A [x0, x1, x2, x3, x4]) (B [x0, x1, x2, x3, x4]) (f x0 x1 x2 x3 x4)) : ∀ st, EvT g r u (A st) (B st) (ar5 f st)
  | [x0, x1, x2, x3, x4] => h x0 x1 x2 x3 x4
  | [] => et_none
  | [_] => et_none
  | [_, _] => et_none
  | [_, _, _] => et_none
  | [_, _, _, _] => et_none
  | _ :: _ :: _ :: _ :: _ :: _ :: _ => et_none
theorem it_ar5 {u : TI} {A : List D → Rho} {f : D → D → D → D → D → Option (List D)} (h : ∀ x0 x1 x2 x3 x4, ItO g r u (A [x0, x1, x2, x3, x4]) ω (f x0 x1 x2 x3 x4)) : ∀ st, ItO g r u (A st) ω (ar5 f st)
  | [x0, x1, x2, x3, x4] => h x0 x1 x2 x3 x4
  | [] => it_none
  | [_] => it_none
  | [_, _] => it_none
  | [_, _, _] => it_none
  | [_, _, _, _] => it_none
  | _ :: _ :: _ :: _ :: _ :: _ :: _ => it_none
theorem rb_ar6 {u : TS} {A : List D → Rho} {B : List D → Om} {f : D → D → D → D → D → D → Option D} (h : ∀ x0 x1 x2 x3 x4 x5, RdB g r u (A [x0, x1, x2, x3, x4, x5]) (B [x0, x1, x2, x3, x4, x5]) (f x0 x1 x2 x3 x4 x5)) : ∀ st, RdB g r u (A st) (B st) (ar6 f st)
  | [x0, x1, x2, x3, x4, x5] => h x0 x1 x2 x3 x4 x5
  | [] => rb_none
  | [_] => rb_none
  | [_, _] => rb_none
  | [_, _, _] => rb_none
  | [_, _, _, _] => rb_none
  | [_, _, _, _, _] => rb_none
  | _ :: _ :: _ :: _ :: _ :: _ :: _ :: _ => rb_none
theorem rn_ar6 {β : Type} {u : TS} {A : List D → Rho} {B : List D → Om} {Pr : β → Rho} {Po : β → Om} {f : D → D → D → D → D → D → Option β} (h : ∀ x0 x1 x2 x3 x4 x5, RdN g r u (A [x0, x1, x2, x3, x4, x5]) (B [x0, x1, x2, x3, x4, x5]) (f x0 x1 x2 x3 x4 x5) Pr Po) : ∀ st, RdN g r u (A st) (B st) (ar6 f st) Pr Po
  | [x0, x1, x2, x3, x4, x5] => h x0 x1 x2 x3 x4 x5
  | [] => rn_none
  | [_] => rn_none
  | [_, _] => rn_none
  | [_, _, _] => rn_none
  | [_, _, _, _] => rn_none
  | [_, _, _, _, _] => rn_none
  | _ :: _ :: _ :: _ :: _ :: _ :: _ :: _ => rn_none
theorem ev_ar6 {u : TE} {A : List D → Rho} {f : D → D → D → D → D → D → Option D} (h : ∀ x0 x1 x2 x3 x4 x5, EvO g r u (A [x0, x1, x2, x3, x4, x5]) ω (f x0 x1 x2 x3 x4 x5)) : ∀ st, EvO g r u (A st) ω (ar6 f st)
  | [x0, x1, x2, x3, x4, x5] => h x0 x1 x2 x3 x4 x5
  | [] => ev_none
  | [_] => ev_none
  | [_, _] => ev_none
  | [_, _, _] => ev_none
  | [_, _, _, _] => ev_none
  | [_, _, _, _, _] => ev_none
  | _ :: _ :: _ :: _ :: _ :: _ :: _ :: _ => ev_none
theorem et_ar6 {u : TT} {A : List D → Rho} {B : List D → Om} {f : D → D → D → D → D → D → Option Bool} (h : ∀ x0 x1 x2 x3 x4 x5, EvT g r u (A [x0, x1, x2, x3, x4, x5]) (B [x0, x1, x2, x3, x4, x5]) (f x0 x1 x2 x3 x4 x5)) : ∀ st, EvT g r u (A st) (B st) (ar6 f st)
  | [x0, x1, x2, x3, x4, x5] => h x0 x1 x2 x3 x4 x5
  | [] => et_none
  | [_] => et_none
  | [_, _] => et_none
  | [_, _, _] => et_none
  | [_, _, _, _] => et_none
  | [_, _, _, _, _] => et_none
  | _ :: _ :: _ :: _ :: _ :: _ :: _ :: _ => et_none
theorem it_ar6 {u : TI} {A : List D → Rho} {f : D → D → D → D → D → D → Option (List D)} (h : ∀ x0 x1 x2 x3 x4 x5, ItO g r u (A [x0, x1, x2, x3, x4, x5]) ω (f x0 x1 x2 x3 x4 x5)) : ∀ st, ItO g r u (A st) ω (ar6 f st)
  | [x0, x1, x2, x3, x4, x5] => h x0 x1 x2 x3 x4 x5
  | [] => it_none
  | [_] => it_none
  | [_, _] => it_none
  | [_, _, _] => it_none
  | [_, _, _, _] => it_none
  | [_, _, _, _, _] => it_none
  | _ :: _ :: _ :: _ :: _ :: _ :: _ :: _ => it_none
theorem hvN {vs : List Nat} : ∀ j ∈ vs, ∀ c, (none : Om) ≠ some (j, c) := fun _ _ _ z => by cases z
theorem hvO {i : Nat} {c : D} {vs : List Nat} (h : i ∉ vs) : ∀ j ∈ vs, ∀ c', (some (i, c) : Om) ≠ some (j, c') := fun j hj c' z => by cases z; exact h hj
theorem h1N {i : Nat} : ∀ c, (none : Om) ≠ some (i, c) := fun _ z => by cases z
theorem h1O {i j : Nat} {c : D} (h : i ≠ j) : ∀ c', (some (i, c) : Om) ≠ some (j, c') := fun c' z => by cases z; exact h rfl
theorem poO_ne {i : Nat} {st : List D} {js : List Nat} (h : i ∉ js) : ∀ j ∈ js, ∀ c, poO i st ≠ some (j, c) := fun j hj c z => by
  cases st with
  | nil => cases z
  | cons x st => cases z; exact h hj
variable {wi : TI} {tg : TG} {un : D → Option (List D)} {js js' : List Nat} {ts : TS} {mi : Option (List D)} {tt : TT} {t u : TS} {mt : Option Bool}
theorem rn_forS {f : List D → List D → Option (List D)} {st0 : List D} (hi : ItO g r wi ρ none mi) (ht : TgO g tg un js) (h0 : eqS ρ js' st0) (hb : ∀ st ds, RdN g r ts (setM (prS ρ js' st) js ds) none (f st ds) (prS ρ js') poN) :
    RdN g r (tFor wi tg ts) ρ none (ob mi fun ds => forO un js.length f st0 ds) (prS ρ js') poN :=
  rn_for hi ht (setM_len _ _ _) (fun i d h => by rw [prS, eqS_ok h0] at h; exact h) rfl (fun st => hvN) hb
theorem rn_forO {i : Nat} {c : D} {f : List D → List D → Option (List D)} {st0 : List D} (hi : ItO g r wi ρ (some (i, c)) mi) (ht : TgO g tg un js) (h0 : eqS ρ js' st0) (hj : i ∉ js) (hb : ∀ st ds, RdN g r ts (setM (prO ρ js' st) js ds) (poO i st) (f st ds) (prO ρ js') (poO i)) :
    RdN g r (tFor wi tg ts) ρ (some (i, c)) (ob mi fun ds => forO un js.length f (c :: st0) ds) (prO ρ js') (poO i) :=
  rn_for hi ht (setM_len _ _ _) (fun i d h => by rw [show prO ρ js' (c :: st0) = setM ρ js' st0 from rfl, eqS_ok h0] at h; exact h) rfl (fun st => poO_ne hj) hb
theorem rn_forKS {k : Nat} {d : D} {f : List D → List D → Option (List D)} {st0 : List D} (hk : ρ[k]? = some (some d)) (ht : TgO g tg un js) (h0 : eqS ρ js' st0) (hb : ∀ st ds, RdN g (r0 g) ts (setM (prS ρ js' st) js ds) none (f st ds) (prS ρ js') poN) :
    RdN g (r0 g) (tLkS (tFor (iKeys (tVar k)) tg ts)) ρ none (ob (dkeys d) fun ds => forO un js.length f st0 ds) (prS ρ js') poN :=
  rn_forK hk ht (setM_len _ _ _) (fun i d h => by rw [prS, eqS_ok h0] at h; exact h) rfl (fun st => hvN) hb
theorem rn_forKO {k i : Nat} {c d : D} {f : List D → List D → Option (List D)} {st0 : List D} (hk : ρ[k]? = some (some d)) (ht : TgO g tg un js) (h0 : eqS ρ js' st0) (hj : i ∉ js) (hb : ∀ st ds, RdN g (r0 g) ts (setM (prO ρ js' st) js ds) (poO i st) (f st ds) (prO ρ js') (poO i)) :
    RdN g (r0 g) (tLkS (tFor (iKeys (tVar k)) tg ts)) ρ (some (i, c)) (ob (dkeys d) fun ds => forO un js.length f (c :: st0) ds) (prO ρ js') (poO i) :=
  rn_forK hk ht (setM_len _ _ _) (fun i d h => by rw [show prO ρ js' (c :: st0) = setM ρ js' st0 from rfl, eqS_ok h0] at h; exact h) rfl (fun st => poO_ne hj) hb
theorem rn_whileS {cc : List D → Option Bool} {f : List D → Option (List D)} {st0 : List D} {n : Nat} (h0 : eqS ρ js' st0) (hc : ∀ st, EvT g r tt (prS ρ js' st) (poN st) (cc st)) (hb : ∀ st, RdN g r ts (prS ρ js' st) (poN st) (f st) (prS ρ js') poN) :
    RdN g r (tWhile tt ts) ρ none (whileO cc f n st0) (prS ρ js') poN := rn_while (setM_len _ _ _) (fun i d h => by rw [prS, eqS_ok h0] at h; exact h) rfl hc hb
theorem rn_whileO {i : Nat} {c : D} {cc : List D → Option Bool} {f : List D → Option (List D)} {st0 : List D} {n : Nat} (h0 : eqS ρ js' st0) (hc : ∀ st, EvT g r tt (prO ρ js' st) (poO i st) (cc st)) (hb : ∀ st, RdN g r ts (prO ρ js' st) (poO i st) (f st) (prO ρ js') (poO i)) :
    RdN g r (tWhile tt ts) ρ (some (i, c)) (whileO cc f n (c :: st0)) (prO ρ js') (poO i) := rn_while (setM_len _ _ _) (fun i d h => by rw [show prO ρ js' (c :: st0) = setM ρ js' st0 from rfl, eqS_ok h0] at h; exact h) rfl hc hb
theorem rn_ifS (js' : List Nat) {m1 m2 : Option (List D)} (h : EvT g r tt ρ none mt) (h1 : RdN g r t ρ none m1 (prS ρ js') poN) (h2 : RdN g r u ρ none m2 (prS ρ js') poN) : RdN g r (tIfS tt t u) ρ none (oif mt m1 m2) (prS ρ js') poN := rn_if h h1 h2
theorem rn_ifO (js' : List Nat) {i : Nat} {c : D} {m1 m2 : Option (List D)} (h : EvT g r tt ρ (some (i, c)) mt) (h1 : RdN g r t ρ (some (i, c)) m1 (prO ρ js') (poO i)) (h2 : RdN g r u ρ (some (i, c)) m2 (prO ρ js') (poO i)) : RdN g r (tIfS tt t u) ρ (some (i, c)) (oif mt m1 m2) (prO ρ js') (poO i) := rn_if h h1 h2
end
def arr01 {α : Type} (f : D → Option α) (st zs : List D) : Option α := ar0 (ar1 (f) zs) st
theorem rnF01 {g : Gm} {r : Rl g} {β : Type} {u : TS} {A : List D → Rho} {B : List D → Om} {js : List Nat} {Pr : β → Rho} {Po : β → Om} {f : D → Option β} (h : ∀ y0, RdN g r u (setM (A []) js [y0]) (B []) (f y0) Pr Po) : ∀ st ds, RdN g r u (setM (A st) js ds) (B st) (arr01 f st ds) Pr Po
  | [], [y0] => h y0
  | [], [] => rn_none
  | [], _ :: _ :: _ => rn_none
  | _ :: _, _ => rn_none
def arr02 {α : Type} (f : D → D → Option α) (st zs : List D) : Option α := ar0 (ar2 (f) zs) st
theorem rnF02 {g : Gm} {r : Rl g} {β : Type} {u : TS} {A : List D → Rho} {B : List D → Om} {js : List Nat} {Pr : β → Rho} {Po : β → Om} {f : D → D → Option β} (h : ∀ y0 y1, RdN g r u (setM (A []) js [y0, y1]) (B []) (f y0 y1) Pr Po) : ∀ st ds, RdN g r u (setM (A st) js ds) (B st) (arr02 f st ds) Pr Po
  | [], [y0, y1] => h y0 y1
  | [], [] => rn_none
  | [], [_] => rn_none
  | [], _ :: _ :: _ :: _ => rn_none
  | _ :: _, _ => rn_none
def arr03 {α : Type} (f : D → D → D → Option α) (st zs : List D) : Option α := ar0 (ar3 (f) zs) st
theorem rnF03 {g : Gm} {r : Rl g} {β : Type} {u : TS} {A : List D → Rho} {B : List D → Om} {js : List Nat} {Pr : β → Rho} {Po : β → Om} {f : D → D → D → Option β} (h : ∀ y0 y1 y2, RdN g r u (setM (A []) js [y0, y1, y2]) (B []) (f y0 y1 y2) Pr Po) : ∀ st ds, RdN g r u (setM (A st) js ds) (B st) (arr03 f st ds) Pr Po
  | [], [y0, y1, y2] => h y0 y1 y2
  | [], [] => rn_none
  | [], [_] => rn_none
  | [], [_, _] => rn_none
  | [], _ :: _ :: _ :: _ :: _ => rn_none
  | _ :: _, _ => rn_none
def arr11 {α : Type} (f : D → D → Option α) (st zs : List D) : Option α := ar1 (fun x0 => (ar1 (f x0) zs)) st
theorem rnF11 {g : Gm} {r : Rl g} {β : Type} {u : TS} {A : List D → Rho} {B : List D → Om} {js : List Nat} {Pr : β → Rho} {Po : β → Om} {f : D → D → Option β} (h : ∀ x0 y0, RdN g r u (setM (A [x0]) js [y0]) (B [x0]) (f x0 y0) Pr Po) : ∀ st ds, RdN g r u (setM (A st) js ds) (B st) (arr11 f st ds) Pr Po
  | [x0], [y0] => h x0 y0
  | [x0], [] => rn_none
  | [x0], _ :: _ :: _ => rn_none
  | [], _ => rn_none
  | _ :: _ :: _, _ => rn_none
theorem evF11 {g : Gm} {r : Rl g} {ω : Om} {u : TE} {A : List D → List D → Rho} {f : D → D → Option D} (h : ∀ x0 y0, EvO g r u (A [x0] [y0]) ω (f x0 y0)) : ∀ st ds, EvO g r u (A st ds) ω (arr11 f st ds)
  | [x0], [y0] => h x0 y0
  | [x0], [] => ev_none
  | [x0], _ :: _ :: _ => ev_none
  | [], _ => ev_none
  | _ :: _ :: _, _ => ev_none
def arr12 {α : Type} (f : D → D → D → Option α) (st zs : List D) : Option α := ar1 (fun x0 => (ar2 (f x0) zs)) st
theorem rnF12 {g : Gm} {r : Rl g} {β : Type} {u : TS} {A : List D → Rho} {B : List D → Om} {js : List Nat} {Pr : β → Rho} {Po : β → Om} {f : D → D → D → Option β} (h : ∀ x0 y0 y1, RdN g r u (setM (A [x0]) js [y0, y1]) (B [x0]) (f x0 y0 y1) Pr Po) : ∀ st ds, RdN g r u (setM (A st) js ds) (B st) (arr12 f st ds) Pr Po
  | [x0], [y0, y1] => h x0 y0 y1
  | [x0], [] => rn_none
  | [x0], [_] => rn_none
  | [x0], _ :: _ :: _ :: _ => rn_none
  | [], _ => rn_none
  | _ :: _ :: _, _ => rn_none
theorem evF12 {g : Gm} {r : Rl g} {ω : Om} {u : TE} {A : List D → List D → Rho} {f : D → D → D → Option D} (h : ∀ x0 y0 y1, EvO g r u (A [x0] [y0, y1]) ω (f x0 y0 y1)) : ∀ st ds, EvO g r u (A st ds) ω (arr12 f st ds)
  | [x0], [y0, y1] => h x0 y0 y1
  | [x0], [] => ev_none
  | [x0], [_] => ev_none
  | [x0], _ :: _ :: _ :: _ => ev_none
  | [], _ => ev_none
  | _ :: _ :: _, _ => ev_none
def arr13 {α : Type} (f : D → D → D → D → Option α) (st zs : List D) : Option α := ar1 (fun x0 => (ar3 (f x0) zs)) st
theorem rnF13 {g : Gm} {r : Rl g} {β : Type} {u : TS} {A : List D → Rho} {B : List D → Om} {js : List Nat} {Pr : β → Rho} {Po : β → Om} {f : D → D → D → D → Option β} (h : ∀ x0 y0 y1 y2, RdN g r u (setM (A [x0]) js [y0, y1, y2]) (B [x0]) (f x0 y0 y1 y2) Pr Po) : ∀ st ds, RdN g r u (setM (A st) js ds) (B st) (arr13 f st ds) Pr Po
  | [x0], [y0, y1, y2] => h x0 y0 y1 y2
  | [x0], [] => rn_none
  | [x0], [_] => rn_none
  | [x0], [_, _] => rn_none
  | [x0], _ :: _ :: _ :: _ :: _ => rn_none
  | [], _ => rn_none
  | _ :: _ :: _, _ => rn_none
theorem evF13 {g : Gm} {r : Rl g} {ω : Om} {u : TE} {A : List D → List D → Rho} {f : D → D → D → D → Option D} (h : ∀ x0 y0 y1 y2, EvO g r u (A [x0] [y0, y1, y2]) ω (f x0 y0 y1 y2)) : ∀ st ds, EvO g r u (A st ds) ω (arr13 f st ds)
  | [x0], [y0, y1, y2] => h x0 y0 y1 y2
  | [x0], [] => ev_none
  | [x0], [_] => ev_none
  | [x0], [_, _] => ev_none
  | [x0], _ :: _ :: _ :: _ :: _ => ev_none
  | [], _ => ev_none
  | _ :: _ :: _, _ => ev_none
def arr21 {α : Type} (f : D → D → D → Option α) (st zs : List D) : Option α := ar2 (fun x0 x1 => (ar1 (f x0 x1) zs)) st
theorem rnF21 {g : Gm} {r : Rl g} {β : Type} {u : TS} {A : List D → Rho} {B : List D → Om} {js : List Nat} {Pr : β → Rho} {Po : β → Om} {f : D → D → D → Option β} (h : ∀ x0 x1 y0, RdN g r u (setM (A [x0, x1]) js [y0]) (B [x0, x1]) (f x0 x1 y0) Pr Po) : ∀ st ds, RdN g r u (setM (A st) js ds) (B st) (arr21 f st ds) Pr Po
  | [x0, x1], [y0] => h x0 x1 y0
  | [x0, x1], [] => rn_none
  | [x0, x1], _ :: _ :: _ => rn_none
  | [], _ => rn_none
  | [_], _ => rn_none
  | _ :: _ :: _ :: _, _ => rn_none
theorem evF21 {g : Gm} {r : Rl g} {ω : Om} {u : TE} {A : List D → List D → Rho} {f : D → D → D → Option D} (h : ∀ x0 x1 y0, EvO g r u (A [x0, x1] [y0]) ω (f x0 x1 y0)) : ∀ st ds, EvO g r u (A st ds) ω (arr21 f st ds)
  | [x0, x1], [y0] => h x0 x1 y0
  | [x0, x1], [] => ev_none
  | [x0, x1], _ :: _ :: _ => ev_none
  | [], _ => ev_none
  | [_], _ => ev_none
  | _ :: _ :: _ :: _, _ => ev_none
def arr22 {α : Type} (f : D → D → D → D → Option α) (st zs : List D) : Option α := ar2 (fun x0 x1 => (ar2 (f x0 x1) zs)) st
theorem rnF22 {g : Gm} {r : Rl g} {β : Type} {u : TS} {A : List D → Rho} {B : List D → Om} {js : List Nat} {Pr : β → Rho} {Po : β → Om} {f : D → D → D → D → Option β} (h : ∀ x0 x1 y0 y1, RdN g r u (setM (A [x0, x1]) js [y0, y1]) (B [x0, x1]) (f x0 x1 y0 y1) Pr Po) : ∀ st ds, RdN g r u (setM (A st) js ds) (B st) (arr22 f st ds) Pr Po
  | [x0, x1], [y0, y1] => h x0 x1 y0 y1
  | [x0, x1], [] => rn_none
  | [x0, x1], [_] => rn_none
  | [x0, x1], _ :: _ :: _ :: _ => rn_none
  | [], _ => rn_none
  | [_], _ => rn_none
  | _ :: _ :: _ :: _, _ => rn_none
theorem evF22 {g : Gm} {r : Rl g} {ω : Om} {u : TE} {A : List D → List D → Rho} {f : D → D → D → D → Option D} (h : ∀ x0 x1 y0 y1, EvO g r u (A [x0, x1] [y0, y1]) ω (f x0 x1 y0 y1)) : ∀ st ds, EvO g r u (A st ds) ω (arr22 f st ds)
  | [x0, x1], [y0, y1] => h x0 x1 y0 y1
  | [x0, x1], [] => ev_none
  | [x0, x1], [_] => ev_none
  | [x0, x1], _ :: _ :: _ :: _ => ev_none
  | [], _ => ev_none
  | [_], _ => ev_none
  | _ :: _ :: _ :: _, _ => ev_none
def arr23 {α : Type} (f : D → D → D → D → D → Option α) (st zs : List D) : Option α := ar2 (fun x0 x1 => (ar3 (f x0 x1) zs)) st
theorem rnF23 {g : Gm} {r : Rl g} {β : Type} {u : TS} {A : List D → Rho} {B : List D → Om} {js : List Nat} {Pr : β → Rho} {Po : β → Om} {f : D → D → D → D → D → Option β} (h : ∀ x0 x1 y0 y1 y2, RdN g r u (setM (A [x0, x1]) js [y0, y1, y2]) (B [x0, x1]) (f x0 x1 y0 y1 y2) Pr Po) : ∀ st ds, RdN g r u (setM (A st) js ds) (B st) (arr23 f st ds) Pr Po
  | [x0, x1], [y0, y1, y2] => h x0 x1 y0 y1 y2
  | [x0, x1], [] => rn_none
  | [x0, x1], [_] => rn_none
  | [x0, x1], [_, _] => rn_none
  | [x0, x1], _ :: _ :: _ :: _ :: _ => rn_none
  | [], _ => rn_none
  | [_], _ => rn_none
  | _ :: _ :: _ :: _, _ => rn_none
theorem evF23 {g : Gm} {r : Rl g} {ω : Om} {u : TE} {A : List D → List D → Rho} {f : D → D → D → D → D → Option D} (h : ∀ x0 x1 y0 y1 y2, EvO g r u (A [x0, x1] [y0, y1, y2]) ω (f x0 x1 y0 y1 y2)) : ∀ st ds, EvO g r u (A st ds) ω (arr23 f st ds)
  | [x0, x1], [y0, y1, y2] => h x0 x1 y0 y1 y2
  | [x0, x1], [] => ev_none
  | [x0, x1], [_] => ev_none
  | [x0, x1], [_, _] => ev_none
  | [x0, x1], _ :: _ :: _ :: _ :: _ => ev_none
  | [], _ => ev_none
  | [_], _ => ev_none
  | _ :: _ :: _ :: _, _ => ev_none
def arr31 {α : Type} (f : D → D → D → D → Option α) (st zs : List D) : Option α := ar3 (fun x0 x1 x2 => (ar1 (f x0 x1 x2) zs)) st
theorem rnF31 {g : Gm} {r : Rl g} {β : Type} {u : TS} {A : List D → Rho} {B : List D → Om} {js : List Nat} {Pr : β → Rho} {Po : β → Om} {f : D → D → D → D → Option β} (h : ∀ x0 x1 x2 y0, RdN g r u (setM (A [x0, x1, x2]) js [y0]) (B [x0, x1, x2]) (f x0 x1 x2 y0) Pr Po) : ∀ st ds, RdN g r u (setM (A st) js ds) (B st) (arr31 f st ds) Pr Po
  | [x0, x1, x2], [y0] => h x0 x1 x2 y0
  | [x0, x1, x2], [] => rn_none
  | [x0, x1, x2], _ :: _ :: _ => rn_none
  | [], _ => rn_none
  | [_], _ => rn_none
  | [_, _], _ => rn_none
  | _ :: _ :: _ :: _ :: _, _ => rn_none
theorem evF31 {g : Gm} {r : Rl g} {ω : Om} {u : TE} {A : List D → List D → Rho} {f : D → D → D → D → Option D} (h : ∀ x0 x1 x2 y0, EvO g r u (A [x0, x1, x2] [y0]) ω (f x0 x1 x2 y0)) : ∀ st ds, EvO g r u (A st ds) ω (arr31 f st ds)
  | [x0, x1, x2], [y0] => h x0 x1 x2 y0
  | [x0, x1, x2], [] => ev_none
  | [x0, x1, x2], _ :: _ :: _ => ev_none
  | [], _ => ev_none
  | [_], _ => ev_none
  | [_, _], _ => ev_none
  | _ :: _ :: _ :: _ :: _, _ => ev_none
def arr32 {α : Type} (f : D → D → D → D → D → Option α) (st zs : List D) : Option α := ar3 (fun x0 x1 x2 => (ar2 (f x0 x1 x2) zs)) st
theorem rnF32 {g : Gm} {r : Rl g} {β : Type} {u : TS} {A : List D → Rho} {B : List D → Om} {js : List Nat} {Pr : β → Rho} {Po : β → Om} {f : D → D → D → D → D → Option β} (h : ∀ x0 x1 x2 y0 y1, RdN g r u (setM (A [x0, x1, x2]) js [y0, y1]) (B [x0, x1, x2]) (f x0 x1 x2 y0 y1) Pr Po) : ∀ st ds, RdN g r u (setM (A st) js ds) (B st) (arr32 f st ds) Pr Po
  | [x0, x1, x2], [y0, y1] => h x0 x1 x2 y0 y1
  | [x0, x1, x2], [] => rn_none
  | [x0, x1, x2], [_] => rn_none
  | [x0, x1, x2], _ :: _ :: _ :: _ => rn_none
  | [], _ => rn_none
  | [_], _ => rn_none
  | [_, _], _ => rn_none
  | _ :: _ :: _ :: _ :: _, _ => rn_none
theorem evF32 {g : Gm} {r : Rl g} {ω : Om} {u : TE} {A : List D → List D → Rho} {f : D → D → D → D → D → Option D} (h : ∀ x0 x1 x2 y0 y1, EvO g r u (A [x0, x1, x2] [y0, y1]) ω (f x0 x1 x2 y0 y1)) : ∀ st ds, EvO g r u (A st ds) ω (arr32 f st ds)
  | [x0, x1, x2], [y0, y1] => h x0 x1 x2 y0 y1
  | [x0, x1, x2], [] => ev_none
  | [x0, x1, x2], [_] => ev_none
  | [x0, x1, x2], _ :: _ :: _ :: _ => ev_none
  | [], _ => ev_none
  | [_], _ => ev_none
  | [_, _], _ => ev_none
  | _ :: _ :: _ :: _ :: _, _ => ev_none
def arr33 {α : Type} (f : D → D → D → D → D → D → Option α) (st zs : List D) : Option α := ar3 (fun x0 x1 x2 => (ar3 (f x0 x1 x2) zs)) st
theorem rnF33 {g : Gm} {r : Rl g} {β : Type} {u : TS} {A : List D → Rho} {B : List D → Om} {js : List Nat} {Pr : β → Rho} {Po : β → Om} {f : D → D → D → D → D → D → Option β} (h : ∀ x0 x1 x2 y0 y1 y2, RdN g r u (setM (A [x0, x1, x2]) js [y0, y1, y2]) (B [x0, x1, x2]) (f x0 x1 x2 y0 y1 y2) Pr Po) : ∀ st ds, RdN g r u (setM (A st) js ds) (B st) (arr33 f st ds) Pr Po
  | [x0, x1, x2], [y0, y1, y2] => h x0 x1 x2 y0 y1 y2
  | [x0, x1, x2], [] => rn_none
  | [x0, x1, x2], [_] => rn_none
  | [x0, x1, x2], [_, _] => rn_none
  | [x0, x1, x2], _ :: _ :: _ :: _ :: _ => rn_none
  | [], _ => rn_none
  | [_], _ => rn_none
  | [_, _], _ => rn_none
  | _ :: _ :: _ :: _ :: _, _ => rn_none
theorem evF33 {g : Gm} {r : Rl g} {ω : Om} {u : TE} {A : List D → List D → Rho} {f : D → D → D → D → D → D → Option D} (h : ∀ x0 x1 x2 y0 y1 y2, EvO g r u (A [x0, x1, x2] [y0, y1, y2]) ω (f x0 x1 x2 y0 y1 y2)) : ∀ st ds, EvO g r u (A st ds) ω (arr33 f st ds)
  | [x0, x1, x2], [y0, y1, y2] => h x0 x1 x2 y0 y1 y2
  | [x0, x1, x2], [] => ev_none
  | [x0, x1, x2], [_] => ev_none
  | [x0, x1, x2], [_, _] => ev_none
  | [x0, x1, x2], _ :: _ :: _ :: _ :: _ => ev_none
  | [], _ => ev_none
  | [_], _ => ev_none
  | [_, _], _ => ev_none
  | _ :: _ :: _ :: _ :: _, _ => ev_none
section
variable {g : Gm} {r : Rl g} {ρ : Rho} {ω : Om}
theorem atB (ρ' : Rho) {u : TS} {m : Option D} (h : RdB g r u ρ' ω m) (e : ρ' = ρ := by rfl) : RdB g r u ρ ω m := e ▸ h
theorem atN (ρ' : Rho) {α : Type} {u : TS} {m : Option α} {Pr : α → Rho} {Po : α → Om} (h : RdN g r u ρ' ω m Pr Po) (e : ρ' = ρ := by rfl) : RdN g r u ρ ω m Pr Po := e ▸ h
theorem atE (ρ' : Rho) {u : TE} {m : Option D} (h : EvO g r u ρ' ω m) (e : ρ' = ρ := by rfl) : EvO g r u ρ ω m := e ▸ h
theorem atT (ρ' : Rho) {u : TT} {m : Option Bool} (h : EvT g r u ρ' ω m) (e : ρ' = ρ := by rfl) : EvT g r u ρ ω m := e ▸ h
theorem atI (ρ' : Rho) {u : TI} {m : Option (List D)} (h : ItO g r u ρ' ω m) (e : ρ' = ρ := by rfl) : ItO g r u ρ ω m := e ▸ h
end
section
variable {P : Program} {w : World} {K : PySem.W.Frag} {mg : Str → Option Value} {base : Heap} {cl : Nat → Addr} {T : List NTab}
abbrev gm (K : PySem.W.Frag) (cl : Nat → Addr) (T : List NTab) : Gm := ⟨K, cl, T⟩
def rho0 (N : List Str) (ds : List D) : Rho := ds.map some ++ List.replicate (N.length - ds.length) none
theorem entryE {g : Gm} {O : Addr → Prop} {H : Hp} {N : List Str} {ds : List D} {vs : List V} (hO : ∀ b, O b → H b ≠ none) (hT : TabsN g.T H) (h : IsL g O H ds vs) : Env g (r0 g) O (L2.start N vs) H (rho0 N ds) none := by
  refine ⟨?_, fun i d e => ?_, fun b h => h.elim, hO, fun _ h => h.elim, hT, True.intro, fun i c z => by cases z⟩
  · unfold L2.start rho0
    rw [List.length_append, List.length_append, List.length_map, List.length_map, List.length_replicate, List.length_replicate, h.length]
  · unfold rho0 at e
    unfold L2.start
    by_cases hi : i < ds.length
    · rw [List.getElem?_append_left (by rw [List.length_map]; exact hi), List.getElem?_map] at e
      cases hd : ds[i]? with
      | none => rw [hd] at e; cases e
      | some d' =>
        rw [hd] at e
        cases e
        obtain ⟨v, h1, h2⟩ := h.get hd
        have hv : i < vs.length := by rw [← h.length]; exact hi
        exact ⟨v, by rw [List.getElem?_append_left (by rw [List.length_map]; exact hv), List.getElem?_map, h1]; rfl, h2⟩
    · rw [List.getElem?_append_right (by rw [List.length_map]; omega), List.length_map, List.getElem?_replicate] at e
      split at e <;> cases e
/-- a def that keeps its promise, by its name -/
structure Cal (P : Program) (w : World) (K : PySem.W.Frag) (mg : Str → Option Value) (base : Heap) (k : Nat) (x : Str) (sp : Sp) : Prop where
  ex : ∃ (f : Addr) (fd : FuncData) (ps : List Str), FnOk P w K mg base L2.CX0 k f fd ps sp ∧ mg x = some (.ref f) ∧ PySem.W.keepIn K (.ref f) = true ∧ Binds K fd ps []
theorem pe_cl {X : Cx} {k j : Nat} {x : Str} {sp : Sp} {e : Expr} {es : List Expr} {t : TA} {p pos : Pos} (c : Cal X.prog X.w X.K X.mg X.base k x sp) (hr : Room j X.A) (hk : k ≤ j) (hg : Gl X x) (ha : PA X (e :: es) t)
    (hdb : (x == ("__debug__" : Str)) = false := by decide) (he : starEach (e :: es) X.env = (false, eval e X.env) :: starEach es X.env := by rfl) (hpl : (backTo pos (starEach es X.env)).any (·.1) = false := by rfl) :
    PE X (.Call (.Name x p) (e :: es) [] pos) (tCall sp [] L2.E0 t) := by
  obtain ⟨f, fd, ps, F, hm, kp, b⟩ := c.ex
  exact pe_call F (hr.mono hk) hg hm kp b .nil L2.pass0 ha hdb he hpl
theorem calD {x : Str} {st : Stmt} {f : Addr} {fd : FuncData} {N ps : List Str} {k : Nat} {m : List D → Option D} (F : FunD K x x (defArgs st) (defBody st) (defScope st) [] [] f fd) (hm : mg x = some (.ref f)) (S : FnScope N ps (defScope st))
    (hb : Binds K fd ps []) (len : ∀ ds d, m ds = some d → ds.length = ps.length)
    (h : ∀ (cdv : Value) (A : Around) (outer : List PySem.Env) (s : Shared) (H : Hp) (E : XK), Room k (A.deeper (envOfC x (defScope st) s.heap.objs.size f cdv)) → ∃ t, PSs (cxOf L2.CX0 P w K mg base N x (defScope st) f cdv A outer s H E).nox (defBody st) t ∧ ∀ ds, RdB (gm K cl T) (r0 (gm K cl T)) t (rho0 N ds) none (m ds)) :
    Cal P w K mg base (k + 1) x (spD (gm K cl T) m) := by
  refine ⟨f, fd, ps, ?_, hm, F.kp, hb⟩
  refine F.ok S (fun vs H Q E hs => ?_) fun cdv A outer s H vs Q E hr hs => ?_
  · obtain ⟨ds, d, O, h1, h2, h3, h4, h5⟩ := hs
    rw [← h3.length]
    exact len ds d h4
  · obtain ⟨t, ht, hR⟩ := h cdv A outer s H E hr
    obtain ⟨ds, d, O, h1, h2, h3, h4, h5⟩ := hs
    refine ⟨t, PSs.nox ht, ?_⟩
    refine hR ds d h4 H O O _ H _ ⟨entryE h1 h2 h3, R.refl, fun _ h => h, fun i c b z => by cases z⟩ fun v H' k i => h5 v H' k.to0 i
theorem cal1 {x : Str} {st : Stmt} {f : Addr} {fd : FuncData} {N : List Str} {ps : List Str} {k : Nat} {m : D → Option D} (F : FunD K x x (defArgs st) (defBody st) (defScope st) [] [] f fd) (hm : mg x = some (.ref f)) (S : FnScope N ps (defScope st)) (hl : ps.length = 1)
    (hb : ∀ (kV doc pm : Value) (an : Option Addr) (cdv ct : Value) (us : List Value), us.length = ps.length → bindArgs (PySem.W.fnOf x x (defArgs st) (defBody st) (defScope st) .none kV doc pm an cdv ct) ⟨us, []⟩ = pure (ps.zip us))
    (h : ∀ (cdv : Value) (A : Around) (outer : List PySem.Env) (s : Shared) (H : Hp) (E : XK), Room k (A.deeper (envOfC x (defScope st) s.heap.objs.size f cdv)) → ∃ t, PSs (cxOf L2.CX0 P w K mg base N x (defScope st) f cdv A outer s H E).nox (defBody st) t ∧ ∀ x0, RdB (gm K cl T) (r0 (gm K cl T)) t (rho0 N [x0]) none (m x0)) :
    Cal P w K mg base (k + 1) x (spD (gm K cl T) (ar1 m)) :=
  calD F hm S (F.bindsN hb) (fun ds d e => by
      rw [hl]
      match ds, e with
      | [_y0], _ => rfl) fun cdv A outer s H E hr => by
    obtain ⟨t, h1, h2⟩ := h cdv A outer s H E hr
    exact ⟨t, h1, rb_ar1 h2⟩
theorem cal2 {x : Str} {st : Stmt} {f : Addr} {fd : FuncData} {N : List Str} {ps : List Str} {k : Nat} {m : D → D → Option D} (F : FunD K x x (defArgs st) (defBody st) (defScope st) [] [] f fd) (hm : mg x = some (.ref f)) (S : FnScope N ps (defScope st)) (hl : ps.length = 2)
    (hb : ∀ (kV doc pm : Value) (an : Option Addr) (cdv ct : Value) (us : List Value), us.length = ps.length → bindArgs (PySem.W.fnOf x x (defArgs st) (defBody st) (defScope st) .none kV doc pm an cdv ct) ⟨us, []⟩ = pure (ps.zip us))
    (h : ∀ (cdv : Value) (A : Around) (outer : List PySem.Env) (s : Shared) (H : Hp) (E : XK), Room k (A.deeper (envOfC x (defScope st) s.heap.objs.size f cdv)) → ∃ t, PSs (cxOf L2.CX0 P w K mg base N x (defScope st) f cdv A outer s H E).nox (defBody st) t ∧ ∀ x0 x1, RdB (gm K cl T) (r0 (gm K cl T)) t (rho0 N [x0, x1]) none (m x0 x1)) :
    Cal P w K mg base (k + 1) x (spD (gm K cl T) (ar2 m)) :=
  calD F hm S (F.bindsN hb) (fun ds d e => by
      rw [hl]
      match ds, e with
      | [_y0, _y1], _ => rfl) fun cdv A outer s H E hr => by
    obtain ⟨t, h1, h2⟩ := h cdv A outer s H E hr
    exact ⟨t, h1, rb_ar2 h2⟩
theorem cal3 {x : Str} {st : Stmt} {f : Addr} {fd : FuncData} {N : List Str} {ps : List Str} {k : Nat} {m : D → D → D → Option D} (F : FunD K x x (defArgs st) (defBody st) (defScope st) [] [] f fd) (hm : mg x = some (.ref f)) (S : FnScope N ps (defScope st)) (hl : ps.length = 3)
    (hb : ∀ (kV doc pm : Value) (an : Option Addr) (cdv ct : Value) (us : List Value), us.length = ps.length → bindArgs (PySem.W.fnOf x x (defArgs st) (defBody st) (defScope st) .none kV doc pm an cdv ct) ⟨us, []⟩ = pure (ps.zip us))
    (h : ∀ (cdv : Value) (A : Around) (outer : List PySem.Env) (s : Shared) (H : Hp) (E : XK), Room k (A.deeper (envOfC x (defScope st) s.heap.objs.size f cdv)) → ∃ t, PSs (cxOf L2.CX0 P w K mg base N x (defScope st) f cdv A outer s H E).nox (defBody st) t ∧ ∀ x0 x1 x2, RdB (gm K cl T) (r0 (gm K cl T)) t (rho0 N [x0, x1, x2]) none (m x0 x1 x2)) :
    Cal P w K mg base (k + 1) x (spD (gm K cl T) (ar3 m)) :=
  calD F hm S (F.bindsN hb) (fun ds d e => by
      rw [hl]
      match ds, e with
      | [_y0, _y1, _y2], _ => rfl) fun cdv A outer s H E hr => by
    obtain ⟨t, h1, h2⟩ := h cdv A outer s H E hr
    exact ⟨t, h1, rb_ar3 h2⟩
theorem cal4 {x : Str} {st : Stmt} {f : Addr} {fd : FuncData} {N : List Str} {ps : List Str} {k : Nat} {m : D → D → D → D → Option D} (F : FunD K x x (defArgs st) (defBody st) (defScope st) [] [] f fd) (hm : mg x = some (.ref f)) (S : FnScope N ps (defScope st)) (hl : ps.length = 4)
    (hb : ∀ (kV doc pm : Value) (an : Option Addr) (cdv ct : Value) (us : List Value), us.length = ps.length → bindArgs (PySem.W.fnOf x x (defArgs st) (defBody st) (defScope st) .none kV doc pm an cdv ct) ⟨us, []⟩ = pure (ps.zip us))
    (h : ∀ (cdv : Value) (A : Around) (outer : List PySem.Env) (s : Shared) (H : Hp) (E : XK), Room k (A.deeper (envOfC x (defScope st) s.heap.objs.size f cdv)) → ∃ t, PSs (cxOf L2.CX0 P w K mg base N x (defScope st) f cdv A outer s H E).nox (defBody st) t ∧ ∀ x0 x1 x2 x3, RdB (gm K cl T) (r0 (gm K cl T)) t (rho0 N [x0, x1, x2, x3]) none (m x0 x1 x2 x3)) :
    Cal P w K mg base (k + 1) x (spD (gm K cl T) (ar4 m)) :=
  calD F hm S (F.bindsN hb) (fun ds d e => by
      rw [hl]
      match ds, e with
      | [_y0, _y1, _y2, _y3], _ => rfl) fun cdv A outer s H E hr => by
    obtain ⟨t, h1, h2⟩ := h cdv A outer s H E hr
    exact ⟨t, h1, rb_ar4 h2⟩
theorem cal5 {x : Str} {st : Stmt} {f : Addr} {fd : FuncData} {N : List Str} {ps : List Str} {k : Nat} {m : D → D → D → D → D → Option D} (F : FunD K x x (defArgs st) (defBody st) (defScope st) [] [] f fd) (hm : mg x = some (.ref f)) (S : FnScope N ps (defScope st)) (hl : ps.length = 5)
    (hb : ∀ (kV doc pm : Value) (an : Option Addr) (cdv ct : Value) (us : List Value), us.length = ps.length → bindArgs (PySem.W.fnOf x x (defArgs st) (defBody st) (defScope st) .none kV doc pm an cdv ct) ⟨us, []⟩ = pure (ps.zip us))
    (h : ∀ (cdv : Value) (A : Around) (outer : List PySem.Env) (s : Shared) (H : Hp) (E : XK), Room k (A.deeper (envOfC x (defScope st) s.heap.objs.size f cdv)) → ∃ t, PSs (cxOf L2.CX0 P w K mg base N x (defScope st) f cdv A outer s H E).nox (defBody st) t ∧ ∀ x0 x1 x2 x3 x4, RdB (gm K cl T) (r0 (gm K cl T)) t (rho0 N [x0, x1, x2, x3, x4]) none (m x0 x1 x2 x3 x4)) :
    Cal P w K mg base (k + 1) x (spD (gm K cl T) (ar5 m)) :=
  calD F hm S (F.bindsN hb) (fun ds d e => by
      rw [hl]
      match ds, e with
      | [_y0, _y1, _y2, _y3, _y4], _ => rfl) fun cdv A outer s H E hr => by
    obtain ⟨t, h1, h2⟩ := h cdv A outer s H E hr
    exact ⟨t, h1, rb_ar5 h2⟩
end
end Z

namespace Z
open PySem PySem.Spec PyProof.Rows L2 NdefX LamX
abbrev FnP (K : PySem.W.Frag) (x qual : Str) (st : Stmt) (f : Addr) (fd : FuncData) : Prop := FunD K x qual (defArgs st) (defBody st) (defScope st) [] [] f fd
def Fn1 (K : PySem.W.Frag) (mg : Str → Option Value) (x : Str) (st : Stmt) : Prop := ∃ f fd, FnP K x x st f fd ∧ mg x = some (.ref f)
structure Fx (K : PySem.W.Frag) (mg : Str → Option Value) (cl : Nat → Addr) (T : List NTab) : Prop where
  n_isinstance : mg "isinstance" = none
  n_len : mg "len" = none
  n_all : mg "all" = none
  n_sum : mg "sum" = none
  n_max : mg "max" = none
  n_abs : mg "abs" = none
  n_int : mg "int" = none
  n_tuple : mg "tuple" = none
  n_list : mg "list" = none
  n_str : mg "str" = none
  n_dict : mg "dict" = none
  n_bool : mg "bool" = none
  n_set : mg "set" = none
  n_sorted : mg "sorted" = none
  n_zip : mg "zip" = none
  n_enumerate : mg "enumerate" = none
  n_range : mg "range" = none
  n_super : mg "super" = none
  g_MOST_STATEMENTS : ∃ t, mg "MOST_STATEMENTS" = some (.int 5000 t)
  g_MOST_CELLS : ∃ t, mg "MOST_CELLS" = some (.int 1000 t)
  f_is_integer : Fn1 K mg "is_integer" (topS 6)
  f_is_number : Fn1 K mg "is_number" (topS 7)
  f_is_name : Fn1 K mg "is_name" (topS 8)
  f_are_names : Fn1 K mg "are_names" (topS 9)
  f_are_numbers : Fn1 K mg "are_numbers" (topS 10)
  f_common_divisor : Fn1 K mg "common_divisor" (topS 11)
  f_common_multiple : Fn1 K mg "common_multiple" (topS 12)
  f_divided_up : Fn1 K mg "divided_up" (topS 13)
  f_is_deed : Fn1 K mg "is_deed" (topS 16)
  f_is_round : Fn1 K mg "is_round" (topS 17)
  f_wrong_place : Fn1 K mg "wrong_place" (topS 18)
  f_size_of : Fn1 K mg "size_of" (topS 19)
  f_deeds_in : Fn1 K mg "deeds_in" (topS 21)
  f_names_of : Fn1 K mg "names_of" (topS 22)
  f_names : Fn1 K mg "names" (topS 23)
  f_raw_push : Fn1 K mg "raw_push" (topS 25)
  f_source_number : Fn1 K mg "source_number" (topS 26)
  f_raw_pushed : Fn1 K mg "raw_pushed" (topS 27)
  f_raw_after : Fn1 K mg "raw_after" (topS 28)
  f_raw_way : Fn1 K mg "raw_way" (topS 29)
  f_raw_gain : Fn1 K mg "raw_gain" (topS 30)
  f_raw_tail : Fn1 K mg "raw_tail" (topS 31)
  f_raw_turn : Fn1 K mg "raw_turn" (topS 32)
  f_are_bounds : Fn1 K mg "are_bounds" (topS 38)
  f_are_measures : Fn1 K mg "are_measures" (topS 39)
  f_many_cells : Fn1 K mg "many_cells" (topS 40)
  f_cells_of : Fn1 K mg "cells_of" (topS 41)
  f_is_great : Fn1 K mg "is_great" (topS 42)
  f_is_form : Fn1 K mg "is_form" (topS 43)
  f_is_row : Fn1 K mg "is_row" (topS 44)
  f_raw_cell : Fn1 K mg "raw_cell" (topS 47)
  f_place_of : Fn1 K mg "place_of" (topS 48)
  f_raw_row : Fn1 K mg "raw_row" (topS 49)
  f_form_value : Fn1 K mg "form_value" (topS 50)
  f_raw_value : Fn1 K mg "raw_value" (topS 51)
  f_raised : Fn1 K mg "raised" (topS 52)
  f_row_by : Fn1 K mg "row_by" (topS 53)
  f_made_by : Fn1 K mg "made_by" (topS 54)
  f_checked : Fn1 K mg "checked" (topS 55)
  f_raw_stretched : Fn1 K mg "raw_stretched" (topS 56)
  f_line_of : Fn1 K mg "line_of" (topS 57)
  f_side_inputs : Fn1 K mg "side_inputs" (topS 58)
  f_goes_evenly : Fn1 K mg "goes_evenly" (topS 59)
  f_is_enough : Fn1 K mg "is_enough" (topS 60)
  f_least_of : Fn1 K mg "least_of" (topS 61)
  f_raw_least : Fn1 K mg "raw_least" (topS 62)
  f_first_table : Fn1 K mg "first_table" (topS 64)
  f_form_pushed : Fn1 K mg "form_pushed" (topS 65)
  f_row_pushed : Fn1 K mg "row_pushed" (topS 66)
  f_finer : Fn1 K mg "finer" (topS 67)
  f_rounds_done : Fn1 K mg "rounds_done" (topS 68)
  f_table_behind : Fn1 K mg "table_behind" (topS 69)
  f_ahead_tables : Fn1 K mg "ahead_tables" (topS 70)
  f_with_results : Fn1 K mg "with_results" (topS 71)
  f_raw_table : Fn1 K mg "raw_table" (topS 72)
  f_table_of : Fn1 K mg "table_of" (topS 73)
  f_law_hand : Fn1 K mg "_law_hand" (topS 75)
  f_law_draw : Fn1 K mg "_law_draw" (topS 76)
  f_law_is : Fn1 K mg "_law_is" (topS 77)
  f_law_is_told : Fn1 K mg "_law_is_told" (topS 78)
  f_law_wheel_right : Fn1 K mg "_law_wheel_right" (topS 79)
  f_law_chain_right : Fn1 K mg "_law_chain_right" (topS 80)
  f_law_sums_right : Fn1 K mg "_law_sums_right" (topS 81)
  f_law_tests_right : Fn1 K mg "_law_tests_right" (topS 82)
  f_law : Fn1 K mg "law" (topS 83)
  k_given : FldOk (gm K cl T) 0 "given"
  k_told : FldOk (gm K cl T) 0 "told"
  k_block : FldOk (gm K cl T) 0 "block"
  k_bounds : FldOk (gm K cl T) 1 "bounds"
  k_measures : FldOk (gm K cl T) 1 "measures"
  k_rows : FldOk (gm K cl T) 1 "rows"
  k_push : FldOk (gm K cl T) 2 "push"
  k_tail : FldOk (gm K cl T) 2 "tail"
  k_turn : FldOk (gm K cl T) 2 "turn"
  k_growth : FldOk (gm K cl T) 2 "growth"
  /-- the classes: a method by its name and its statement within the class -/
  mk_RawTable : ∃ f fd, FnP K "__init__" "RawTable.__init__" (inClass (topS 46) 0) f fd ∧ Mk K (cl 1) f ∧ mg "RawTable" = some (.ref (cl 1))
  m_keep : ∃ f fd, FnP K "keep" "Table.keep" (inClass (topS 45) 1) f fd ∧ Meth K (cl 1) "keep" f
  mk_Program : ∃ f fd, FnP K "__init__" "Program.__init__" (inClass (topS 20) 0) f fd ∧ Mk K (cl 0) f ∧ mg "Program" = some (.ref (cl 0))
  mk_Repeated : ∃ f fd, FnP K "__init__" "Repeated.__init__" (inClass (topS 33) 0) f fd ∧ Mk K (cl 2) f ∧ mg "Repeated" = some (.ref (cl 2))
  m_grown : ∃ f fd, FnP K "grown" "Repeated.grown" (inClass (topS 33) 1) f fd ∧ Meth K (cl 2) "grown" f
  m_power : ∃ f fd, FnP K "power" "Repeated.power" (inClass (topS 33) 2) f fd ∧ Meth K (cl 2) "power" f
  m_behind : ∃ f fd, FnP K "behind" "Repeated.behind" (inClass (topS 33) 3) f fd ∧ Meth K (cl 2) "behind" f
  k_powers : FldOk (gm K cl T) 2 "powers"
end Z

namespace Z
open PySem PySem.Spec PyProof.Rows L2 NdefX LamX
section
variable {X : Cx}
/-- name = {..: .. for ..} on one line, the name a local -/
theorem ps_setDc {i : Nat} {y : Str} {py : Pos} {kx vx tg iter : Expr} {ifs : List Expr} {scope : Scope} {own : List (Str × Nat)} {pos spos : Pos} {wi : TI} {g : TG} {tt : TT} {tk tv : TE} (hc : X.calm = true) (hN : X.N.Nodup) (hy : X.N[i]? = some y) (hyl : X.env.scope.names.lookup y = some .local)
    (hsw : swapsWith (.DictComp kx vx [⟨tg, iter, ifs, 0⟩] scope pos) (some (.Name y py)) spos.line X.env = pure true) (hi : PI X tg iter wi) (ok : BlkOk X.N X.env.scope scope own)
    (hg : ∀ (s : Shared) (H : Hp) (C : Addr) (cl : List (Str × Addr)) (fp : List Addr), PG (X.blk s H scope (compEnvC scope cl C X.env) fp) tg g) (ht : ∀ (s : Shared) (H : Hp) (C : Addr) (cl : List (Str × Addr)) (fp : List Addr), PTs (X.blk s H scope (compEnvC scope cl C X.env) fp) ifs tt)
    (hk : ∀ (s : Shared) (H : Hp) (C : Addr) (cl : List (Str × Addr)) (fp : List Addr), PE (X.blk s H scope (compEnvC scope cl C X.env) fp) kx tk)
    (he : ∀ (s : Shared) (H : Hp) (C : Addr) (cl : List (Str × Addr)) (fp : List Addr), PE (X.blk s H scope (compEnvC scope cl C X.env) fp) vx tv) (hs : ∀ x, foldedSetIterable iter X.env x = pure x := by intro _; rfl) :
    PS X (.Assign [.Name y py] (.DictComp kx vx [⟨tg, iter, ifs, 0⟩] scope pos) spos) (tAsg (tDc wi g tt tk tv (own.map (·.2))) (gName i)) := by
  refine ⟨fun pins s σ H D I h => ?_⟩
  rw [exec_Assign_Name_used _ _ _ _ hsw]
  refine wpAny_bind (wpAny_standAt (wpAny_bind ?_))
  show wpAny _ X.A (do let _ ← comprehension (.DictComp kx vx [⟨tg, iter, ifs, 0⟩] scope pos) scope X.env (firstIterPos [⟨tg, iter, ifs, 0⟩] pos) newDict false (eval iter X.env) (some (assign (.Name y py) X.env))) _ _ s
  have h : tDc wi g tt tk tv (own.map (·.2)) σ H (fun x H1 => gName i x σ H1 D.nx) := h
  refine wpAny_bind (thn (dc_core (Qf := fun _ s' => SP X pins D .next s') hc hN I hi ok hg ht hk he hs h fun L C s' m H' I' q hn f => ?_) fun _ s' hq => wpAny_pure (wpAny_pure hq))
  show wpAny _ _ (assign (.Name y py) X.env (.ref L)) _ _ _
  refine wpAny_assign_Name (store_ok2 (v := V.ref L) I' hN hy (.inl hyl) rfl (fun s2 I2 ⟨a, sb, ha⟩ => ?_) (.inr hyl))
  obtain ⟨f0, f1, f2, f3, f4, f5⟩ := f
  have haC : C ≠ a := by
    rcases ha with z | z
    · rw [z]; exact f1
    · exact fun e => f4 y a z e.symm
  refine ⟨m, hn.sameBut sb haC, fun h3 sb3 => ?_⟩
  exact ⟨_, H', I2.turned (t' := s2.toks) (fun b o hb e => (sb3.2 b hb).trans e) f0 f1 f3 f4 f5, q⟩
theorem sw_trueD {kx vx : Expr} {gs : List Comprehension} {scope : Scope} {pos py : Pos} {y : Str} {l : Nat} {env : PySem.Env} (hk : env.scope.kind = .function) (hy : env.scope.names.lookup y = some .local) (hl : (py.line == pos.line) = true)
    (ha : (scope.names.any fun (n, k) => n == y && (k == .local || k == .cell)) = false) : swapsWith (.DictComp kx vx gs scope pos) (some (.Name y py)) l env = pure true := by
  have ky : env.kindOf y = some .local := hy
  have hb : env.blockKind = .function := by unfold Env.blockKind; rw [hk]; rfl
  unfold swapsWith
  simp only [hb, ky, ha, Expr.pos, hl]
  rfl
theorem pe_gint {x : Str} {n : Int} {pos : Pos} (hg : Gl X x) (h : ∃ t, X.mg x = some (.int n t)) (hd : (x == ("__debug__" : Str)) = false := by decide) : PE X (.Name x pos) (tC (.int n)) := by
  obtain ⟨t, h⟩ := h
  exact pe_glob hg h ⟨t, rfl⟩ hd
theorem call_sum (hc : X.calm = true) : CallR X (.builtin "sum") (rSum X.K) := cr_sum hc
theorem call_max (hc : X.calm = true) : CallR X (.builtin "max") (rMax X.K) := cr_max hc
theorem call_all (hc : X.calm = true) : CallR X (.builtin "all") (rAll X.K) := cr_all hc
end
section
variable {g : Gm} {r : Rl g} {H0 H H' : Hp} {O0 O : Addr → Prop} {σ : L2.St} {ρ : Rho} {ω : Om}
theorem et_T {te : TE} {m : Option D} (h : EvO g r te ρ ω m) : EvT g r (tTest te) ρ ω (dtest m) := et_B h
theorem isTk_ok : ∀ (d : D) (b : Bool), isTk d = some b → ∃ k, kindD d = some k ∧ kitB k "tuple" = some b := fun d b h => by
  cases d <;> first | (cases h; exact ⟨_, rfl, by decide +kernel⟩) | cases h
theorem isSk_ok : ∀ (d : D) (b : Bool), isSk d = some b → ∃ k, kindD d = some k ∧ kitB k "str" = some b := fun d b h => by
  cases d <;> first | (cases h; exact ⟨_, rfl, by decide +kernel⟩) | cases h
/-- a text, sign by sign -/
theorem it_str {te : TE} {m : Option D} (h : EvO g r te ρ ω m) : ItO g r (iStr te) ρ ω (ob m dsigns) := fun ds e O σ H E Rk q => by
  obtain ⟨d, e1, e2⟩ := ob_some e
  cases d with
  | str s =>
    cases e2
    refine h _ e1 O σ H E _ fun v H1 k1 i1 => ⟨s, i1, q _ H1 k1 ?_⟩
    have w := walk_str (z := s)
    unfold WkO
    rw [List.length_map, Array.length_toList]
    refine w.mono (fun _ _ => True.intro) fun j H x H' hj h y => ?_
    obtain ⟨rfl, c, hc, rfl⟩ := y
    refine ⟨R0.refl, .str ⟨#[c]⟩, ?_, fun _ _ _ => rfl⟩
    rw [List.getElem?_map, Array.getElem?_toList, hc]
    rfl
  | _ => cases e2
end
end Z

namespace Z
open PySem PySem.Spec PyProof.Rows L2 NdefX LamX
theorem tuple_mul0 (l : Addr) (items : Array Value) (n : Nat) (dd : Option Addr) (sl : Array (Option Value)) (u : Tok) (h1 : items.isEmpty = false) :
    Meets (Builtin.«tuple.__mul__» ⟨[.ref l, .int 0 u], []⟩) (fun _ R s => s.heap.get? l = some { cls := .type "tuple", dict := dd, data := .seq items n, slots := sl } ∧
      R (.ok (.ret (Value.ref s.heap.objs.size))) { s with heap := s.heap.push { cls := Value.type "tuple", data := Data.seq #[] }, toks := s.toks }) :=
  .of_wp fun prog w A R s h => by
    obtain ⟨hp, g, d, tk, os⟩ := s
    obtain ⟨hl, h⟩ := h
    have f1 := AutoSeq1.idx_int
    wp_walk using wpAny_loadPart' hl
    repeat (first
      | (refine wpAny_ite_false (decide_eq_false (by rw [h1]; decide)) ?_; wp_walk using wpAny_loadPart' hl)
      | (refine wpAny_ite_true (decide_eq_true (by rw [h1]; decide)) ?_; wp_walk using wpAny_loadPart' hl))
    exact ⟨_, rfl, h⟩
theorem tuple_mul1 (l : Addr) (items : Array Value) (n : Nat) (dd : Option Addr) (sl : Array (Option Value)) (u : Tok) :
    Meets (Builtin.«tuple.__mul__» ⟨[.ref l, .int 1 u], []⟩) (fun _ R s => s.heap.get? l = some { cls := .type "tuple", dict := dd, data := .seq items n, slots := sl } ∧
      R (.ok (.ret (Value.ref l))) s) :=
  .of_wp fun prog w A R s h => by
    obtain ⟨hp, g, d, tk, os⟩ := s
    obtain ⟨hl, h⟩ := h
    have f1 := AutoSeq1.idx_int
    wp_walk using wpAny_loadPart' hl
    repeat (first
      | (refine wpAny_ite_true (decide_eq_true (by simp)) ?_; wp_walk using wpAny_loadPart' hl))
    exact ⟨_, rfl, h⟩
theorem list_extend_tup (l : Addr) (items : Array Value) (n : Nat) (b : Addr) (items2 : Array Value) (n2 : Nat) (dd : Option Addr) (sl : Array (Option Value)) (hs0 : ¬(!items.isEmpty && Builtin.List.listTooLong (items.size + items2.size)) = true) (hs1 : items.size ≤ sizeLine) (hs2 : items.size + items2.size ≤ sizeLine + 1 := by seq_fits) :
    Meets (Builtin.«list.extend» ⟨[.ref l, .ref b], []⟩) (fun _ R s => s.heap.get? l = some { cls := .type "list", dict := none, data := .seq items n, slots := #[] } ∧ s.heap.get? b = some { cls := .type "tuple", dict := dd, data := .seq items2 n2, slots := sl } ∧ R (.ok (.ret Value.none)) { s with heap := s.heap.update l (Obj.mapSeq fun x => x ++ items2), toks := s.toks }) :=
  .of_wp fun prog w A R s h => by
    obtain ⟨hp, g, d, tk, os⟩ := s; obtain ⟨hl, hb, h⟩ := h; have f1 := AutoSeq1.idx_int; have f2 := AutoSeq1.sub_tuple_tuple; have f3 := AutoSeq1.sub_list_list; have f4 := AutoSeq1.sub_tuple_list; have f5 := AutoSeq1.sub_list_tuple;
    have hz' : (items ++ items2).size ≤ sizeLine + 1 := by rw [Array.size_append]; exact hs2
    wp_walk using (wpAny_updateSeq hl rfl (hz := hs1) (_hz' := hz')), wpAny_loadPart' hl, wpAny_loadPart' hb; exact ⟨_, rfl, h⟩
section
variable {X : Cx}
def rRep01 (K : PySem.W.Frag) : R2 := fun x y H Q => ∃ l xs, x = .ref l ∧ SqT K H l xs ∧ xs ≠ [] ∧ ((y = .int 0 ∧ ∀ p, H p = none → Q (.ref p) (upd H p (.tup []))) ∨ (y = .int 1 ∧ Q (.ref l) H))
theorem op_rep01 : OpR X (binaryOp .Mult) (rRep01 X.K) := by
  intro pins s σ H x y v u Q I rx ry h
  obtain ⟨l, xs, rfl, hT, hne, h⟩ := h
  cases rx
  obtain ⟨its, r, ⟨⟨cls, dd, data, sl⟩, ho, hc, n, hd⟩, hs⟩ := I.tuple hT
  simp only at hc hd
  subst hc hd
  have hle : its.length = xs.length := r.length.symm
  have hn : its ≠ [] := fun e => hne (by
    rw [e] at hle
    exact List.eq_nil_of_length_eq_zero hle.symm)
  have hi : its.toArray.isEmpty = false := by
    cases its with
    | nil => exact absurd rfl hn
    | cons a b => rfl
  rcases h with ⟨rfl, q⟩ | ⟨rfl, q⟩
  · obtain ⟨t, rfl⟩ := ry
    refine wpAny_binaryOp_repeat_ref (T := "tuple") (U := "int") (by decide) ⟨_, ho, rfl⟩ (fun s' => typeIs_int s' 0 t) noFill_tuple_mul F.fills_int_mul F.slot_int_rmul repeat_tuple F.slot_int_index.lookup
      (call_meets F.slot_int_rmul (typeIs_int s 0 t) F.entry_int_rmul (F.args_int_rmul_2 _ _) (int_rmul_tuple 0 t l its.toArray n dd sl)
        ⟨ho, rfl, ⟨_, ho, rfl⟩, call_meets F.slot_tuple_mul ⟨_, ho, rfl⟩ F.entry_tuple_mul (F.args_tuple_mul_2 _ _) (tuple_mul0 l its.toArray n dd sl t hi) ⟨ho, ?_⟩⟩)
    refine ⟨.ref s.heap.objs.size, _, I.laid (t' := s.toks) (o := .tup []) (fun b ob q => Heap.get?_push_of_some _ q) (Nat.le_refl _) ?_, rfl, q _ (I.hok.fresh (Nat.le_refl _))⟩
    exact ⟨Nat.zero_le _, [], .nil, IsTup.new _ _⟩
  · obtain ⟨t, rfl⟩ := ry
    refine wpAny_binaryOp_repeat_ref (T := "tuple") (U := "int") (by decide) ⟨_, ho, rfl⟩ (fun s' => typeIs_int s' 1 t) noFill_tuple_mul F.fills_int_mul F.slot_int_rmul repeat_tuple F.slot_int_index.lookup
      (call_meets F.slot_int_rmul (typeIs_int s 1 t) F.entry_int_rmul (F.args_int_rmul_2 _ _) (int_rmul_tuple 1 t l its.toArray n dd sl)
        ⟨ho, rfl, ⟨_, ho, rfl⟩, call_meets F.slot_tuple_mul ⟨_, ho, rfl⟩ F.entry_tuple_mul (F.args_tuple_mul_2 _ _) (tuple_mul1 l its.toArray n dd sl t) ⟨ho, ?_⟩⟩)
    exact ⟨.ref l, H, I, rfl, q⟩
def rMulD (K : PySem.W.Frag) : R2 := fun x y H Q => (rI CMul (fun i j => .int (i * j)) x y H Q ∨ rRepT K x y H Q) ∨ rRep01 K x y H Q
theorem op_mulD : OpR X (binaryOp .Mult) (rMulD X.K) := (OpR.or op_mul op_repT).or op_rep01
def rExtendT (K : PySem.W.Frag) : V → List V → Hp → VK → Prop := fun x vs H Q => ∃ l b xs zs, x = .ref l ∧ vs = [.ref b] ∧ H l = some (.lst xs) ∧ SqT K H b zs ∧ xs.length + zs.length ≤ sizeLine ∧ Q .non (upd H l (.lst (xs ++ zs)))
theorem mt_extendT : MtM X "list.extend" (rExtendT X.K) := by
  intro pins s σ H x vs v us Q I rx rv h
  obtain ⟨l, b, xs, zs, rfl, rfl, hH, hB, hz, q⟩ := h
  cases rx
  obtain ⟨u, rfl, ru⟩ := rv.one
  cases ru
  obtain ⟨z, its, n, r, hl, e⟩ := I.lstM hH
  obtain ⟨its2, r2, ⟨⟨cls, dd, data, sl⟩, e2, hc, n2, hd⟩, hs⟩ := I.tuple hB
  simp only at hc hd
  subst hc hd
  have hl2 : its2.length = zs.length := r2.length.symm
  have hsz : its.toArray.size + its2.toArray.size ≤ sizeLine := by rw [List.size_toArray, List.size_toArray]; omega
  have hlong : ¬ (!its.toArray.isEmpty && Builtin.List.listTooLong (its.toArray.size + its2.toArray.size)) = true := by
    rw [notLongL hsz, Bool.and_false]
    exact Bool.false_ne_true
  refine call_meets F.slot_list_extend ⟨_, e, rfl⟩ F.entry_list_extend (F.args_list_extend_2 _ _)
    (list_extend_tup l its.toArray n b its2.toArray n2 dd sl hlong (by rw [List.size_toArray]; omega) (by omega)) ⟨e, e2, ?_⟩
  refine ⟨.non, _, I.lset (its' := its ++ its2) hH e (by simp) (r.append r2) ?_, rfl, q⟩
  rw [List.length_append]
  omega
end
section
variable {g : Gm} {r : Rl g} {H0 H H' : Hp} {O0 O : Addr → Prop} {σ : L2.St} {ρ : Rho} {ω : Om}
theorem repD_is : ∀ {n : Nat} {ds : List D} {vs : List V}, IsL g O H ds vs → IsL g O H (repD ds n) (List.replicate n vs).flatten
  | 0, _, _, _ => rfl
  | n + 1, ds, vs, h => by
    show IsL g O H (ds ++ repD ds n) _
    rw [List.replicate_succ, List.flatten_cons]
    exact h.append (repD_is h)
theorem rv_mul : RvO g r (rMulD g.K) dmul := fun x y d e O H hs hO v u hx hy Q q => by
  cases x with
  | int i =>
    cases y with
    | int j =>
      obtain ⟨c, e⟩ := ock_some e
      cases e
      exact .inl (.inl ⟨i, j, hx, hy, mulOk_ok c, q _ H R.refl rfl⟩)
    | _ => cases e
  | tup ds =>
    cases y with
    | int k =>
      obtain ⟨c, e⟩ := ock_some e
      cases e
      rw [Bool.and_eq_true, Bool.and_eq_true, Bool.and_eq_true] at c
      obtain ⟨⟨⟨c1, c2⟩, c3⟩, c4⟩ := c
      have c2 := of_decide_eq_true c2
      have c3 := of_decide_eq_true c3
      have c4 := Nat.le_of_ble_eq_true c4
      obtain ⟨p, vs, rfl, hp, z1, i1⟩ := hx
      have hl := i1.length
      have hne : vs ≠ [] := fun z => by
        rw [i1.nil_iff.mp z] at c1
        cases c1
      have hsz : (List.replicate k.toNat vs).flatten.length ≤ sizeLine := by
        rw [PyProof.Rows.lm_len_rep_flat, sizeLine_eq]
        have a1 : k.toNat * vs.length ≤ 1000 * 1000 := Nat.mul_le_mul (by omega) (by omega)
        omega
      by_cases h2 : 2 ≤ k
      · refine .inl (.inr ⟨p, k, vs, rfl, hy, SqT.of hp, hne, h2, c3, by omega, fun w hw => ?_⟩)
        have kk : R g r H (upd H w (.tup (List.replicate k.toNat vs).flatten)) := R.new hw fun _ z => by cases z
        exact q _ _ kk ⟨w, _, rfl, upd_same, hsz, IsL.kp (kk.kp hs) _ _ (repD_is i1)⟩
      · refine .inr ⟨p, vs, rfl, SqT.of hp, hne, ?_⟩
        by_cases h1 : k = 1
        · subst h1
          refine .inr ⟨hy, q _ H R.refl ⟨p, vs, rfl, hp, z1, ?_⟩⟩
          show IsL g O H (ds ++ []) vs
          rw [List.append_nil]
          exact i1
        · have h0 : k = 0 := by omega
          subst h0
          refine .inl ⟨hy, fun w hw => ?_⟩
          have kk : R g r H (upd H w (.tup [])) := R.new hw fun _ z => by cases z
          exact q _ _ kk ⟨w, [], rfl, upd_same, Nat.zero_le _, rfl⟩
    | _ => cases e
  | _ => cases y <;> cases e
theorem rn_ext {te : TE} {m : Option D} {i : Nat} {c : D} (h : EvO g r te ρ (some (i, c)) m) : RdN g r (tDrop (tBM g.K "list" (rExtendT g.K) (tVar i) (tCons te tNil))) ρ (some (i, c)) (ob m (dext c)) (fun _ => ρ) (fun c' => some (i, c')) := fun c' e H0 O0 O σ H D E q => by
  obtain ⟨d, e1, e2⟩ := ob_some e
  cases c with
  | lst ds =>
    cases d with
    | tup es =>
      obtain ⟨cc, e2⟩ := ock_some e2
      cases e2
      obtain ⟨p, h1, h2, h3, vs, h4, z, iv⟩ := E.env.own i _ rfl
      refine ⟨_, h1, .inl ⟨rfl, vs, SqL.of h4⟩, ?_⟩
      refine h _ e1 O σ H E.env _ fun v H1 k1 i1 => ?_
      have E1 := E.go k1
      obtain ⟨vs', h4, z, iv⟩ := CnIs.go (c := .lst ds) k1 E.env.sub h3 ⟨vs, h4, z, iv⟩
      obtain ⟨b, us, rfl, hb, z2, iu⟩ := i1
      have hl : vs'.length + us.length ≤ sizeLine := by
        rw [← iv.length, ← iu.length]
        exact small_le cc
      refine ⟨p, b, vs', us, rfl, rfl, h4, SqT.of hb, hl, ?_⟩
      obtain ⟨E2, kp⟩ := E1.putL h1 h2 h3 h4 (c' := .lst (ds ++ es)) fun kp => ⟨_, upd_same, by rw [List.length_append]; exact hl, (IsL.kp kp _ _ iv).append (IsL.kp kp _ _ iu)⟩
      exact q _ _ E2 ((k1.kp E.env.sub).trans kp)
    | _ => cases e2
  | _ => cases e2
end
end Z

namespace Z
open PySem PySem.Spec PyProof.Rows L2
open PySem.Sem (wp)
section
variable {prog : Program} {w : World} {A : Around} {E : Value → Shared → Prop} {s : Shared}
theorem updSeq_arr {T : Addr} {arr : Array Value} {x : Value} {k : Nat} {Q : Unit → Shared → Prop} (hT : s.heap.get? T = some { cls := .type "tuple", data := .seq arr })
    (h : ∀ h', h'.get? T = some { cls := .type "tuple", data := .seq (arr.setIfInBounds k x) } → Heap.SameBut T s.heap h' → Q () { s with heap := h' }) (hs : Nat.ble arr.size 10 = true := by rfl) :
    wpAny (model prog w) A (updateSeq T (·.setIfInBounds k x)) Q E s := by
  have hs := Nat.le_of_ble_eq_true hs
  refine wpAny_updateSeq hT rfl (hz := by rw [sizeLine_eq]; omega) (_hz' := by rw [Array.size_setIfInBounds, sizeLine_eq]; omega) (h _ ?_ (Heap.SameBut.update ..))
  rw [Heap.get?_update_self _ hT rfl]
  simp [Obj.mapSeq]
end
section
variable {prog : Program} {w : World} {A : Around} {E : Value → Shared → Prop} {s : Shared}
theorem zm_item {n : Nat} {l0 l1 : Nat} {k : Nat} {xs0 xs1 : Array Value} {a0 a1 : Value} {x0 x1 : Value} {Q : Value → Shared → Prop} (q0 : l0 < n) (q1 : l1 < n) (hz : IsZip s.heap (n + 4) (n + 2) (n + 3) .none) (hTI : s.heap.get? (n + 2) = some { cls := .type "tuple", data := .seq #[.ref n, .ref (n + 1)] }) (hTO : s.heap.get? (n + 3) = some { cls := .type "tuple", data := .seq #[a0, a1] }) (h0 : s.heap.IsTupleIter n l0 k) (h1 : s.heap.IsListIter (n + 1) l1 k) (m0 : s.heap.IsTuple l0 xs0) (m1 : s.heap.IsList l1 xs1) (e0 : xs0[k]? = some x0) (e1 : xs1[k]? = some x1)
    (hQ : ∀ h', IsZip h' (n + 4) (n + 2) (n + 3) (rawInt s.heap.objs.size) → h'.get? (n + 3) = some { cls := .type "tuple", data := .seq #[x0, x1] } → h'.IsTupleIter n l0 (k + 1) → h'.IsListIter (n + 1) l1 (k + 1) → h'.get? s.heap.objs.size = some { cls := .type "tuple", data := .seq #[x0, x1] } → h'.objs.size = s.heap.objs.size + 1 → (∀ c o, c ≠ (n + 4) → c ≠ (n + 3) → c ≠ n → c ≠ (n + 1) → s.heap.get? c = some o → h'.get? c = some o) → Q (.ref s.heap.objs.size) { s with heap := h' }) :
    wpAny (model prog w) A (Builtin.«zip.__next__» ⟨[.ref (n + 4)], []⟩) (fun fin s' => ∃ v, fin = .done (.ret v) ∧ Q v s') E s := by
  show wpAny _ _ (field (.ref (n + 4)) 2 >>= _) _ _ _
  refine wpAny_bind (wpAny_field hz rfl (x := .bool false) rfl ?_)
  show wpAny _ _ (field (.ref (n + 4)) 3 >>= _) _ _ _
  refine wpAny_bind (wpAny_field hz rfl (x := .ref (n + 2)) rfl ?_)
  refine wpAny_bind (wpAny_seqItems hTI rfl ?_)
  show wpAny _ _ (Builtin.SmallTypes.ownedTupleIsFree (.ref (n + 4)) >>= _) _ _ _
  refine wpAny_bind ?_
  unfold Builtin.SmallTypes.ownedTupleIsFree
  refine wpAny_bind (wpAny_field hz rfl (x := .none) rfl (wpAny_pure ?_))
  simp only [if_true]
  refine wpAny_bind (wpAny_rule ?_)
  refine wpAny_bind (wpAny_field hz rfl (x := .ref (n + 3)) rfl ?_)
  refine wpAny_bind (wpAny_setField_rec hz (by simp) fun g0 zz0 s0 => ?_)
  replace zz0 : IsZip g0 (n + 4) (n + 2) (n + 3) .ellipsis := zz0
  have t0 : g0.get? (n + 3) = some { cls := .type "tuple", data := .seq #[a0, a1] } := s0.extBut _ _ (by show @Ne Nat _ _; omega) hTO
  have i0_0 : g0.IsTupleIter n l0 k := h0.extBut s0.extBut (by show @Ne Nat _ _; omega)
  have m0_0 : g0.IsTuple l0 xs0 := m0.extBut s0.extBut (by show @Ne Nat _ _; omega)
  have i1_0 : g0.IsListIter (n + 1) l1 k := h1.extBut s0.extBut (by show @Ne Nat _ _; omega)
  have m1_0 : g0.IsList l1 xs1 := m1.extBut s0.extBut (by show @Ne Nat _ _; omega)
  have kp0 : ∀ c o, c ≠ (n + 4) → c ≠ (n + 3) → c ≠ n → c ≠ (n + 1) → s.heap.get? c = some o → g0.get? c = some o := fun c o c1 c2 d0 d1 x => s0.extBut _ _ c1 x
  refine wpAny_bind ?_
  simp only [List.zipIdx_cons, List.zipIdx_nil, List.forIn_cons, List.forIn_nil]
  refine wpAny_bind (wpAny_bind (wpAny_onRaise ?_))
  show wpAny _ _ (Builtin.SmallTypes.nextOf (.ref n) >>= _) _ _ _
  refine wpAny_bind (RZ.nextOf_tuple_item i0_0 m0_0 e0 fun g1 i0_1 s1 => wpAny_pure ?_)
  have zz1 : IsZip g1 (n + 4) (n + 2) (n + 3) .ellipsis := s1.extBut _ _ (by show @Ne Nat _ _; omega) zz0
  have m0_1 : g1.IsTuple l0 xs0 := m0_0.extBut s1.extBut (by show @Ne Nat _ _; omega)
  have i1_1 : g1.IsListIter (n + 1) l1 (k) := i1_0.extBut s1.extBut (by show @Ne Nat _ _; omega)
  have m1_1 : g1.IsList l1 xs1 := m1_0.extBut s1.extBut (by show @Ne Nat _ _; omega)
  have t1 : g1.get? (n + 3) = some { cls := .type "tuple", data := .seq #[a0, a1] } := s1.extBut _ _ (by show @Ne Nat _ _; omega) t0
  have kp1 : ∀ c o, c ≠ (n + 4) → c ≠ (n + 3) → c ≠ n → c ≠ (n + 1) → s.heap.get? c = some o → g1.get? c = some o := fun c o c1 c2 d0 d1 x => s1.extBut _ _ d0 (kp0 c o c1 c2 d0 d1 x)
  refine wpAny_bind (wpAny_seqItems t1 rfl ?_)
  refine wpAny_bind (updSeq_arr t1 fun g2 t2 s2 => ?_)
  replace t2 : g2.get? (n + 3) = some { cls := .type "tuple", data := .seq #[x0, a1] } := t2
  have zz2 : IsZip g2 (n + 4) (n + 2) (n + 3) .ellipsis := s2.extBut _ _ (by show @Ne Nat _ _; omega) zz1
  have i0_2 : g2.IsTupleIter n l0 (k + 1) := i0_1.extBut s2.extBut (by show @Ne Nat _ _; omega)
  have m0_2 : g2.IsTuple l0 xs0 := m0_1.extBut s2.extBut (by show @Ne Nat _ _; omega)
  have i1_2 : g2.IsListIter (n + 1) l1 (k) := i1_1.extBut s2.extBut (by show @Ne Nat _ _; omega)
  have m1_2 : g2.IsList l1 xs1 := m1_1.extBut s2.extBut (by show @Ne Nat _ _; omega)
  have kp2 : ∀ c o, c ≠ (n + 4) → c ≠ (n + 3) → c ≠ n → c ≠ (n + 1) → s.heap.get? c = some o → g2.get? c = some o := fun c o c1 c2 d0 d1 x => s2.extBut _ _ c2 (kp1 c o c1 c2 d0 d1 x)
  refine wpAny_bind (wpAny_letGo (wpAny_pure ?_))
  refine wpAny_bind (wpAny_bind (wpAny_onRaise ?_))
  show wpAny _ _ (Builtin.SmallTypes.nextOf (.ref (n + 1)) >>= _) _ _ _
  refine wpAny_bind (wpAny_nextOf_list_item i1_2 m1_2 e1 fun g3 i1_3 s3 => wpAny_pure ?_)
  have zz3 : IsZip g3 (n + 4) (n + 2) (n + 3) .ellipsis := s3.extBut _ _ (by show @Ne Nat _ _; omega) zz2
  have i0_3 : g3.IsTupleIter n l0 (k + 1) := i0_2.extBut s3.extBut (by show @Ne Nat _ _; omega)
  have m0_3 : g3.IsTuple l0 xs0 := m0_2.extBut s3.extBut (by show @Ne Nat _ _; omega)
  have m1_3 : g3.IsList l1 xs1 := m1_2.extBut s3.extBut (by show @Ne Nat _ _; omega)
  have t3 : g3.get? (n + 3) = some { cls := .type "tuple", data := .seq #[x0, a1] } := s3.extBut _ _ (by show @Ne Nat _ _; omega) t2
  have kp3 : ∀ c o, c ≠ (n + 4) → c ≠ (n + 3) → c ≠ n → c ≠ (n + 1) → s.heap.get? c = some o → g3.get? c = some o := fun c o c1 c2 d0 d1 x => s3.extBut _ _ d1 (kp2 c o c1 c2 d0 d1 x)
  refine wpAny_bind (wpAny_seqItems t3 rfl ?_)
  refine wpAny_bind (updSeq_arr t3 fun g4 t4 s4 => ?_)
  replace t4 : g4.get? (n + 3) = some { cls := .type "tuple", data := .seq #[x0, x1] } := t4
  have zz4 : IsZip g4 (n + 4) (n + 2) (n + 3) .ellipsis := s4.extBut _ _ (by show @Ne Nat _ _; omega) zz3
  have i0_4 : g4.IsTupleIter n l0 (k + 1) := i0_3.extBut s4.extBut (by show @Ne Nat _ _; omega)
  have m0_4 : g4.IsTuple l0 xs0 := m0_3.extBut s4.extBut (by show @Ne Nat _ _; omega)
  have i1_4 : g4.IsListIter (n + 1) l1 (k + 1) := i1_3.extBut s4.extBut (by show @Ne Nat _ _; omega)
  have m1_4 : g4.IsList l1 xs1 := m1_3.extBut s4.extBut (by show @Ne Nat _ _; omega)
  have kp4 : ∀ c o, c ≠ (n + 4) → c ≠ (n + 3) → c ≠ n → c ≠ (n + 1) → s.heap.get? c = some o → g4.get? c = some o := fun c o c1 c2 d0 d1 x => s4.extBut _ _ c2 (kp3 c o c1 c2 d0 d1 x)
  refine wpAny_bind (wpAny_letGo (wpAny_pure (wpAny_pure ?_)))
  refine wpAny_bind (wpAny_seqItems t4 rfl ?_)
  refine wpAny_bind (wpAny_newTuple ?_)
  have hsz : g4.objs.size = s.heap.objs.size := by rw [s4.1, s3.1, s2.1, s1.1, s0.1]
  have hzlt : ((n + 4) : Nat) < g4.objs.size := Heap.lt_size zz4
  show wpAny _ _ (Builtin.SmallTypes.ownedTupleHandOut (.ref (n + 4)) (.ref g4.objs.size) >>= _) _ _ _
  refine wpAny_bind ?_
  unfold Builtin.SmallTypes.ownedTupleHandOut
  have hz6 : IsZip (g4.push { cls := .type "tuple", data := .seq #[x0, x1] }) (n + 4) (n + 2) (n + 3) .ellipsis := Heap.get?_push_of_some _ zz4
  refine wpAny_bind (wpAny_setField_rec hz6 (by simp) fun h7 hz7 hs7 => ?_)
  replace hz7 : IsZip h7 (n + 4) (n + 2) (n + 3) (rawInt g4.objs.size) := hz7
  refine wpAny_setField_rec hz7 (by simp) fun h8 hz8 hs8 => ?_
  replace hz8 : IsZip h8 (n + 4) (n + 2) (n + 3) (rawInt g4.objs.size) := hz8
  have up : ∀ c o, c ≠ (n + 4) → g4.get? c = some o → h8.get? c = some o := fun c o c1 e => hs8.extBut _ _ c1 (hs7.extBut _ _ c1 (Heap.get?_push_of_some _ e))
  have hT8 : h8.get? g4.objs.size = some { cls := .type "tuple", data := .seq #[x0, x1] } := hs8.extBut _ _ (Nat.ne_of_gt hzlt) (hs7.extBut _ _ (Nat.ne_of_gt hzlt) (Heap.get?_push_size _ rfl))
  have hn8 : h8.objs.size = g4.objs.size + 1 := by rw [hs8.1, hs7.1, Heap.size_push]
  rw [hsz] at hz8 hT8 hn8
  refine wpAny_pure ⟨_, rfl, ?_⟩
  show Q (.ref g4.objs.size) _
  rw [hsz]
  exact hQ h8 hz8 (up _ _ (by show @Ne Nat _ _; omega) t4) (i0_4.at fun o e => up _ o (by show @Ne Nat _ _; omega) e) (i1_4.at fun o e => up _ o (by show @Ne Nat _ _; omega) e) hT8 hn8 fun c o c1 c2 d0 d1 x => up c o c1 (kp4 c o c1 c2 d0 d1 x)

theorem zm_end {n : Nat} {l0 l1 : Nat} {k : Nat} {xs0 xs1 : Array Value} {a0 a1 : Value} {Q : Fin → Shared → Prop} (hh : A.handled = none) (q0 : l0 < n) (q1 : l1 < n) (hz : IsZip s.heap (n + 4) (n + 2) (n + 3) .none) (hTI : s.heap.get? (n + 2) = some { cls := .type "tuple", data := .seq #[.ref n, .ref (n + 1)] }) (hTO : s.heap.get? (n + 3) = some { cls := .type "tuple", data := .seq #[a0, a1] }) (h0 : s.heap.IsTupleIter n l0 k) (h1 : s.heap.IsListIter (n + 1) l1 k) (m0 : s.heap.IsTuple l0 xs0) (m1 : s.heap.IsList l1 xs1) (hend : xs0[k]? = none ∨ xs1[k]? = none)
    (hE : ∀ h' e, (∀ c o, c ≠ (n + 4) → c ≠ (n + 3) → c ≠ n → c ≠ (n + 1) → s.heap.get? c = some o → h'.get? c = some o) → (∃ o, h'.get? e = some o ∧ o.cls = .type "StopIteration") → E (.ref e) { s with heap := h' }) :
    wpAny (model prog w) A (Builtin.«zip.__next__» ⟨[.ref (n + 4)], []⟩) Q E s := by
  show wpAny _ _ (field (.ref (n + 4)) 2 >>= _) _ _ _
  refine wpAny_bind (wpAny_field hz rfl (x := .bool false) rfl ?_)
  show wpAny _ _ (field (.ref (n + 4)) 3 >>= _) _ _ _
  refine wpAny_bind (wpAny_field hz rfl (x := .ref (n + 2)) rfl ?_)
  refine wpAny_bind (wpAny_seqItems hTI rfl ?_)
  show wpAny _ _ (Builtin.SmallTypes.ownedTupleIsFree (.ref (n + 4)) >>= _) _ _ _
  refine wpAny_bind ?_
  unfold Builtin.SmallTypes.ownedTupleIsFree
  refine wpAny_bind (wpAny_field hz rfl (x := .none) rfl (wpAny_pure ?_))
  simp only [if_true]
  refine wpAny_bind (wpAny_rule ?_)
  refine wpAny_bind (wpAny_field hz rfl (x := .ref (n + 3)) rfl ?_)
  refine wpAny_bind (wpAny_setField_rec hz (by simp) fun g0 zz0 s0 => ?_)
  replace zz0 : IsZip g0 (n + 4) (n + 2) (n + 3) .ellipsis := zz0
  have t0 : g0.get? (n + 3) = some { cls := .type "tuple", data := .seq #[a0, a1] } := s0.extBut _ _ (by show @Ne Nat _ _; omega) hTO
  have i0_0 : g0.IsTupleIter n l0 k := h0.extBut s0.extBut (by show @Ne Nat _ _; omega)
  have m0_0 : g0.IsTuple l0 xs0 := m0.extBut s0.extBut (by show @Ne Nat _ _; omega)
  have i1_0 : g0.IsListIter (n + 1) l1 k := h1.extBut s0.extBut (by show @Ne Nat _ _; omega)
  have m1_0 : g0.IsList l1 xs1 := m1.extBut s0.extBut (by show @Ne Nat _ _; omega)
  have kp0 : ∀ c o, c ≠ (n + 4) → c ≠ (n + 3) → c ≠ n → c ≠ (n + 1) → s.heap.get? c = some o → g0.get? c = some o := fun c o c1 c2 d0 d1 x => s0.extBut _ _ c1 x
  refine wpAny_bind ?_
  simp only [List.zipIdx_cons, List.zipIdx_nil, List.forIn_cons, List.forIn_nil]
  refine wpAny_bind (wpAny_bind (wpAny_onRaise ?_))
  show wpAny _ _ (Builtin.SmallTypes.nextOf (.ref n) >>= _) _ _ _
  cases e0 : xs0[k]? with
  | none =>
    refine wpAny_bind (RZ.nextOf_tuple_end hh i0_0 m0_0 e0 fun f1 e hs he => ?_)
    obtain ⟨oe, hoe, hce⟩ := he
    have hz2 : IsZip f1 (n + 4) (n + 2) (n + 3) .ellipsis := hs _ _ (by show @Ne Nat _ _; omega) zz0
    have hez : e ≠ (n + 4) := fun x => by subst x; rw [hz2] at hoe; cases hoe; simp at hce
    exact wpAny_setField_rec hz2 (by simp) fun f3 _ hs3 => hE f3 e (fun c o c1 c2 d0 d1 x => hs3.extBut _ _ c1 (hs _ _ d0 (kp0 c o c1 c2 d0 d1 x))) ⟨oe, hs3.extBut _ _ hez hoe, hce⟩
  | some x0 =>
    refine wpAny_bind (RZ.nextOf_tuple_item i0_0 m0_0 e0 fun g1 i0_1 s1 => wpAny_pure ?_)
    have zz1 : IsZip g1 (n + 4) (n + 2) (n + 3) .ellipsis := s1.extBut _ _ (by show @Ne Nat _ _; omega) zz0
    have m0_1 : g1.IsTuple l0 xs0 := m0_0.extBut s1.extBut (by show @Ne Nat _ _; omega)
    have i1_1 : g1.IsListIter (n + 1) l1 (k) := i1_0.extBut s1.extBut (by show @Ne Nat _ _; omega)
    have m1_1 : g1.IsList l1 xs1 := m1_0.extBut s1.extBut (by show @Ne Nat _ _; omega)
    have t1 : g1.get? (n + 3) = some { cls := .type "tuple", data := .seq #[a0, a1] } := s1.extBut _ _ (by show @Ne Nat _ _; omega) t0
    have kp1 : ∀ c o, c ≠ (n + 4) → c ≠ (n + 3) → c ≠ n → c ≠ (n + 1) → s.heap.get? c = some o → g1.get? c = some o := fun c o c1 c2 d0 d1 x => s1.extBut _ _ d0 (kp0 c o c1 c2 d0 d1 x)
    refine wpAny_bind (wpAny_seqItems t1 rfl ?_)
    refine wpAny_bind (updSeq_arr t1 fun g2 t2 s2 => ?_)
    replace t2 : g2.get? (n + 3) = some { cls := .type "tuple", data := .seq #[x0, a1] } := t2
    have zz2 : IsZip g2 (n + 4) (n + 2) (n + 3) .ellipsis := s2.extBut _ _ (by show @Ne Nat _ _; omega) zz1
    have i0_2 : g2.IsTupleIter n l0 (k + 1) := i0_1.extBut s2.extBut (by show @Ne Nat _ _; omega)
    have m0_2 : g2.IsTuple l0 xs0 := m0_1.extBut s2.extBut (by show @Ne Nat _ _; omega)
    have i1_2 : g2.IsListIter (n + 1) l1 (k) := i1_1.extBut s2.extBut (by show @Ne Nat _ _; omega)
    have m1_2 : g2.IsList l1 xs1 := m1_1.extBut s2.extBut (by show @Ne Nat _ _; omega)
    have kp2 : ∀ c o, c ≠ (n + 4) → c ≠ (n + 3) → c ≠ n → c ≠ (n + 1) → s.heap.get? c = some o → g2.get? c = some o := fun c o c1 c2 d0 d1 x => s2.extBut _ _ c2 (kp1 c o c1 c2 d0 d1 x)
    refine wpAny_bind (wpAny_letGo (wpAny_pure ?_))
    refine wpAny_bind (wpAny_bind (wpAny_onRaise ?_))
    show wpAny _ _ (Builtin.SmallTypes.nextOf (.ref (n + 1)) >>= _) _ _ _
    cases e1 : xs1[k]? with
    | none =>
      refine wpAny_bind (wpAny_nextOf_list_end hh i1_2 m1_2 e1 fun f1 e hs he => ?_)
      obtain ⟨oe, hoe, hce⟩ := he
      have hz2 : IsZip f1 (n + 4) (n + 2) (n + 3) .ellipsis := hs _ _ (by show @Ne Nat _ _; omega) zz2
      have hez : e ≠ (n + 4) := fun x => by subst x; rw [hz2] at hoe; cases hoe; simp at hce
      exact wpAny_setField_rec hz2 (by simp) fun f3 _ hs3 => hE f3 e (fun c o c1 c2 d0 d1 x => hs3.extBut _ _ c1 (hs _ _ d1 (kp2 c o c1 c2 d0 d1 x))) ⟨oe, hs3.extBut _ _ hez hoe, hce⟩
    | some x1 =>
      exfalso
      rcases hend with q | q
      · rw [e0] at q; cases q
      · rw [e1] at q; cases q

theorem py_zm_item {n : Nat} {l0 l1 : Nat} {k : Nat} {xs0 xs1 : Array Value} {a0 a1 : Value} {x0 x1 : Value} {Q : Option Value → Shared → Prop} (q0 : l0 < n) (q1 : l1 < n) (hz : IsZip s.heap (n + 4) (n + 2) (n + 3) .none) (hTI : s.heap.get? (n + 2) = some { cls := .type "tuple", data := .seq #[.ref n, .ref (n + 1)] }) (hTO : s.heap.get? (n + 3) = some { cls := .type "tuple", data := .seq #[a0, a1] }) (h0 : s.heap.IsTupleIter n l0 k) (h1 : s.heap.IsListIter (n + 1) l1 k) (m0 : s.heap.IsTuple l0 xs0) (m1 : s.heap.IsList l1 xs1) (e0 : xs0[k]? = some x0) (e1 : xs1[k]? = some x1)
    (hQ : ∀ h', IsZip h' (n + 4) (n + 2) (n + 3) (rawInt s.heap.objs.size) → h'.get? (n + 3) = some { cls := .type "tuple", data := .seq #[x0, x1] } → h'.IsTupleIter n l0 (k + 1) → h'.IsListIter (n + 1) l1 (k + 1) → h'.get? s.heap.objs.size = some { cls := .type "tuple", data := .seq #[x0, x1] } → h'.objs.size = s.heap.objs.size + 1 → (∀ c o, c ≠ (n + 4) → c ≠ (n + 3) → c ≠ n → c ≠ (n + 1) → s.heap.get? c = some o → h'.get? c = some o) → Q (some (.ref s.heap.objs.size)) { s with heap := h' }) :
    wpAny (model prog w) A (pyNext (.ref (n + 4))) Q E s := by
  have hT : s.TypeIs (.ref (n + 4)) "zip" := ⟨_, hz, rfl⟩
  unfold pyNext
  exact wpAny_bind (wpAny_attempt (wpAny_callSpecial?_slot (name := Str.ofString "__next__") hT F.slot_zip_next
    (wpAny_call_entry F.slot_zip_next hT F.entry_zip_next
      (zm_item q0 q1 hz hTI hTO h0 h1 m0 m1 e0 e1 fun h' a1 a2 b0 b1 a5 a6 a7 => wpAny_pure (hQ h' a1 a2 b0 b1 a5 a6 a7)) (F.args_zip_next_1 _))))
theorem py_zm_end {n : Nat} {l0 l1 : Nat} {k : Nat} {xs0 xs1 : Array Value} {a0 a1 : Value} {Q : Option Value → Shared → Prop} (hh : A.handled = none) (q0 : l0 < n) (q1 : l1 < n) (hz : IsZip s.heap (n + 4) (n + 2) (n + 3) .none) (hTI : s.heap.get? (n + 2) = some { cls := .type "tuple", data := .seq #[.ref n, .ref (n + 1)] }) (hTO : s.heap.get? (n + 3) = some { cls := .type "tuple", data := .seq #[a0, a1] }) (h0 : s.heap.IsTupleIter n l0 k) (h1 : s.heap.IsListIter (n + 1) l1 k) (m0 : s.heap.IsTuple l0 xs0) (m1 : s.heap.IsList l1 xs1) (hend : xs0[k]? = none ∨ xs1[k]? = none)
    (hQ : ∀ h', (∀ c o, c ≠ (n + 4) → c ≠ (n + 3) → c ≠ n → c ≠ (n + 1) → s.heap.get? c = some o → h'.get? c = some o) → Q none { s with heap := h' }) : wpAny (model prog w) A (pyNext (.ref (n + 4))) Q E s := by
  have hT : s.TypeIs (.ref (n + 4)) "zip" := ⟨_, hz, rfl⟩
  unfold pyNext
  refine wpAny_bind (wpAny_attempt (wpAny_callSpecial?_slot (name := Str.ofString "__next__") hT F.slot_zip_next
    (wpAny_call_entry F.slot_zip_next hT F.entry_zip_next (zm_end hh q0 q1 hz hTI hTO h0 h1 m0 m1 hend fun h' e hk he => ?_) (F.args_zip_next_1 _))))
  obtain ⟨o, ho, hc⟩ := he
  refine wpAny_bind (wpAny_isInstance (T := "StopIteration") (b := true) ⟨o, ho, hc⟩ isSubtype_stop ?_)
  exact wpAny_pure (hQ _ hk)
end
abbrev zmH1 (h : Heap) (l0 : Addr) : Heap := h.push { cls := .type "tuple_iterator", data := .fields #[.ref l0, .int 0 0] }
abbrev zmH2 (h : Heap) (l0 l1 : Addr) : Heap := (zmH1 h l0).push { cls := .type "list_iterator", data := .fields #[.ref l1, .int 0 0] }
abbrev zmH3 (h : Heap) (l0 l1 : Addr) : Heap := (zmH2 h l0 l1).push { cls := .type "tuple", data := .seq #[.ref h.objs.size, .ref (zmH1 h l0).objs.size] }
abbrev zmH4 (h : Heap) (l0 l1 : Addr) : Heap := (zmH3 h l0 l1).push { cls := .type "tuple", data := .seq #[.none, .none] }
abbrev zmH5 (h : Heap) (l0 l1 : Addr) : Heap := (zmH4 h l0 l1).push { cls := .type "zip", data := .fields #[.none, .bool false, .bool false, .ref (zmH2 h l0 l1).objs.size, .ref (zmH3 h l0 l1).objs.size] }
theorem meets_zm_new (l0 l1 : Addr) (xs0 xs1 : Array Value) :
    Meets (Builtin.«zip.__new__» ⟨[.type "zip", .ref l0, .ref l1], []⟩) (fun _ R s => s.heap.IsTuple l0 xs0 ∧ s.heap.IsList l1 xs1 ∧ R (.ok (.ret (.ref (zmH4 s.heap l0 l1).objs.size))) { s with heap := zmH5 s.heap l0 l1 }) :=
  .of_wp fun prog w A R s h => by
    obtain ⟨hp, g, d, tk, os⟩ := s; obtain ⟨hl0, hl1, h⟩ := h
    have hsub := sub_zip
    have hL0 : Heap.IsTuple (Shared.heap ⟨hp, g, d, tk, os⟩) l0 xs0 := hl0
    have hL1 : Heap.IsList (Shared.heap ⟨zmH1 hp l0, g, d, tk, os⟩) l1 xs1 := Heap.IsList.push (hl1) _
    wp_walk using wpAny_pyIter_tuple hL0, wpAny_pyIter_list hL1
    exact ⟨_, rfl, h⟩
theorem zm_typeCall (a0 a1 : Value) : checkTypeCall "zip" ⟨[a0, a1], []⟩ = pure () := by kernel_rfl
theorem zm_newCall (a0 a1 : Value) : checkBuiltinCall "zip.__new__" ⟨[.type "zip", a0, a1], []⟩ = pure () := by kernel_rfl
theorem zm_initArgs (o a0 a1 : Value) : argsOk "object.__init__" ⟨[o, a0, a1], []⟩ := by
  unfold argsOk; rw [signature?_of (id := "object.__init__") (n := ['_', '_', 't', 'i', 'n', 'i', '_', '_']) (o := ['t', 'c', 'e', 'j', 'b', 'o']) (by kernel_rfl) F.owner_object]; kernel_rfl
section
variable {prog : Program} {w : World} {A : Around} {E : Value → Shared → Prop} {s : Shared}
theorem call_zm {l0 l1 : Nat} {xs0 xs1 : Array Value} {Q : Value → Shared → Prop} (hl0 : s.heap.IsTuple l0 xs0) (hl1 : s.heap.IsList l1 xs1)
    (h : ∀ h', IsZip h' (s.heap.objs.size + 4) (s.heap.objs.size + 2) (s.heap.objs.size + 3) .none → h'.get? (s.heap.objs.size + 2) = some { cls := .type "tuple", data := .seq #[.ref s.heap.objs.size, .ref (s.heap.objs.size + 1)] } → h'.get? (s.heap.objs.size + 3) = some { cls := .type "tuple", data := .seq #[.none, .none] } → h'.IsTupleIter s.heap.objs.size l0 0 → h'.IsListIter (s.heap.objs.size + 1) l1 0 → h'.objs.size = s.heap.objs.size + 5 → (∀ c o, s.heap.get? c = some o → h'.get? c = some o) → Q (.ref (s.heap.objs.size + 4)) { s with heap := h' }) :
    wpAny (model prog w) A (call (.type "zip") [.ref l0, .ref l1]) Q E s := by
  refine callType_new F.called_zip (by decide) (zm_typeCall _ _) (zm_newCall _ _) (fun obj => zm_initArgs obj _ _) F.entry_zip_new
    (meets_zm_new l0 l1 xs0 xs1) ⟨hl0, hl1, ?_⟩
  have z1 : (zmH1 s.heap l0).objs.size = (s.heap.objs.size + 1) := by exact Heap.size_push ..
  have z2 : (zmH2 s.heap l0 l1).objs.size = (s.heap.objs.size + 2) := by rw [Heap.size_push, z1]
  have z3 : (zmH3 s.heap l0 l1).objs.size = (s.heap.objs.size + 3) := by rw [Heap.size_push, z2]
  have z4 : (zmH4 s.heap l0 l1).objs.size = (s.heap.objs.size + 4) := by rw [Heap.size_push, z3]
  have z5 : (zmH5 s.heap l0 l1).objs.size = (s.heap.objs.size + 5) := by rw [Heap.size_push, z4]
  have g4 : (zmH5 s.heap l0 l1).get? (zmH4 s.heap l0 l1).objs.size = some _ := Heap.get?_push_size _ rfl
  have g3 : (zmH5 s.heap l0 l1).get? (zmH3 s.heap l0 l1).objs.size = some _ := Heap.get?_push_of_some _ (Heap.get?_push_size _ rfl)
  have g2 : (zmH5 s.heap l0 l1).get? (zmH2 s.heap l0 l1).objs.size = some _ := Heap.get?_push_of_some _ (Heap.get?_push_of_some _ (Heap.get?_push_size _ rfl))
  have g1 : (zmH5 s.heap l0 l1).get? (zmH1 s.heap l0).objs.size = some _ := Heap.get?_push_of_some _ (Heap.get?_push_of_some _ (Heap.get?_push_of_some _ (Heap.get?_push_size _ rfl)))
  have g0 : (zmH5 s.heap l0 l1).get? s.heap.objs.size = some _ := Heap.get?_push_of_some _ (Heap.get?_push_of_some _ (Heap.get?_push_of_some _ (Heap.get?_push_of_some _ (Heap.get?_push_size _ rfl))))
  show _ ∧ _
  rw [z2, z3, z4] at g4
  rw [z3] at g3
  rw [z1, z2] at g2
  rw [z1] at g1
  rw [z4]
  exact ⟨⟨_, g4, rfl⟩, h _ g4 g2 g3 ⟨_, g0, rfl, rfl⟩ ⟨_, g1, rfl, rfl⟩ z5 fun c o x => Heap.get?_push_of_some _ (Heap.get?_push_of_some _ (Heap.get?_push_of_some _ (Heap.get?_push_of_some _ (Heap.get?_push_of_some _ (x)))))⟩
end
def Itzm (K : PySem.W.Frag) (l0 l1 : Addr) : It :=
  ⟨fun i H => ∃ (xs0 xs1 : List V) (x0 x1 : V), SqT K H l0 xs0 ∧ SqL K H l1 xs1 ∧ xs0[i]? = some x0 ∧ xs1[i]? = some x1,
    fun i H v H' => ∃ T x0 x1, v = .ref T ∧ H T = none ∧ H' = upd H T (.tup [x0, x1]) ∧ (∀ xs, SqT K H l0 xs → xs[i]? = some x0) ∧ (∀ xs, SqL K H l1 xs → xs[i]? = some x1),
    fun i H => ∃ xs0 xs1 : List V, SqT K H l0 xs0 ∧ SqL K H l1 xs1 ∧ (xs0.length ≤ i ∨ xs1.length ≤ i)⟩
theorem turn_zm {P : Program} {w : World} {K : PySem.W.Frag} {elts : List Expr} {kk : Nat} {tpos : Pos} {l0 l1 n : Nat} (q0 : l0 < n) (q1 : l1 < n) :
    Turn P w K (.Tuple elts kk tpos) (Itzm K l0 l1) [(n + 4), (n + 2), (n + 3), n, (n + 1)] (n + 4) (fun i h => IsZip h (n + 4) (n + 2) (n + 3) .none ∧ h.get? (n + 2) = some { cls := .type "tuple", data := .seq #[.ref n, .ref (n + 1)] } ∧ (∃ a0 a1, h.get? (n + 3) = some { cls := .type "tuple", data := .seq #[a0, a1] }) ∧ h.IsTupleIter n l0 i ∧ h.IsListIter (n + 1) l1 i) where
  mem := by simp
  obj := fun i h st c hc => by
    obtain ⟨hz, hTI, ⟨a0, a1, hTO⟩, ⟨o0, e0, _, d0⟩, ⟨o1, e1, _, d1⟩⟩ := st
    have e' : c = (n + 4) ∨ c = (n + 2) ∨ c = (n + 3) ∨ c = n ∨ c = (n + 1) := by simpa using hc
    rcases e' with q | q | q | q | q
    · rw [q]; exact ⟨_, hz, fun v q => nomatch q⟩
    · rw [q]; exact ⟨_, hTI, fun v q => nomatch q⟩
    · rw [q]; exact ⟨_, hTO, fun v q => nomatch q⟩
    · rw [q]; exact ⟨o0, e0, fun v q => by rw [d0] at q; cases q⟩
    · rw [q]; exact ⟨o1, e1, fun v q => by rw [d1] at q; cases q⟩
  keep := fun i h h' st k => by
    obtain ⟨hz, hTI, ⟨a0, a1, hTO⟩, h0, h1⟩ := st
    exact ⟨k (n + 4) (by simp) _ hz, k (n + 2) (by simp) _ hTI, ⟨a0, a1, k (n + 3) (by simp) _ hTO⟩, h0.at fun o q => k n (by simp) o q, h1.at fun o q => k (n + 1) (by simp) o q⟩
  item := by
    intro X hP hw hK hc i pins s σ H E I hf st hg
    subst hP hw hK
    obtain ⟨hz, hTI, ⟨a0, a1, hTO⟩, h0, h1⟩ := st
    obtain ⟨xs0, xs1, x0, x1, hq0, hq1, hx0, hx1⟩ := hg
    obtain ⟨its0, rv0, p0, _⟩ := I.tuple hq0
    obtain ⟨its1, rv1, p1, _⟩ := I.list hq1
    obtain ⟨u0, hu0, ru0⟩ := rv0.get hx0
    obtain ⟨u1, hu1, ru1⟩ := rv1.get hx1
    have hzl : (n + 4) < s.heap.objs.size := Heap.lt_size hz
    refine py_zm_item q0 q1 hz hTI hTO h0 h1 (show s.heap.IsTuple l0 its0.toArray from p0) (show s.heap.IsList l1 its1.toArray from p1.isList) (x0 := u0) (x1 := u1) (by simpa using hu0) (by simpa using hu1) fun h' z' TO' h0' h1' hT hsz hk => ?_
    refine ⟨_, rfl, wpAny_letOwnedTupleGo_zip (s := { s with heap := h' }) z' fun h'' z'' sb => ?_⟩
    have hT2 : h''.get? s.heap.objs.size = some { cls := .type "tuple", data := .seq #[u0, u1] } := (sb.2 _ (Nat.ne_of_gt hzl)).trans hT
    have new : ObjOk X.prog X.w (upd H s.heap.objs.size (.tup [x0, x1])) h'' s.heap.objs.size (.tup [x0, x1]) :=
      ⟨by show 2 ≤ sizeLine; decide, [u0, u1], .cons ru0 (.cons ru1 (.nil)), ⟨_, hT2, rfl, _, rfl⟩⟩
    have I1 : Inv X pins σ (upd H s.heap.objs.size (.tup [x0, x1])) { s with heap := h'' } :=
      I.turnedNew (t' := s.toks) (ch := [(n + 4), (n + 2), (n + 3), n, (n + 1)]) (fun c o hb q => (sb.2 c (fun q' => hb (by simp [q']))).trans (hk c o (fun q' => hb (by simp [q'])) (fun q' => hb (by simp [q'])) (fun q' => hb (by simp [q'])) (fun q' => hb (by simp [q'])) q)) hf (Nat.le_refl _) new
    refine ⟨.ref s.heap.objs.size, _, I1, rfl, ⟨_, x0, x1, rfl, I.hok.fresh (Nat.le_refl _), rfl, fun l hl => by rw [I.tuple_inj hl hq0]; exact hx0, fun l hl => by rw [I.list_inj hl hq1]; exact hx1⟩, ⟨z'', ?_, ⟨u0, u1, ?_⟩, ?_, ?_⟩, fun c hcm => ?_⟩
    · exact (sb.2 _ (by show @Ne Nat _ _; omega)).trans (hk _ _ (by show @Ne Nat _ _; omega) (by show @Ne Nat _ _; omega) (by show @Ne Nat _ _; omega) (by show @Ne Nat _ _; omega) hTI)
    · exact (sb.2 _ (by show @Ne Nat _ _; omega)).trans TO'
    · exact h0'.at fun o q => (sb.2 _ (by show @Ne Nat _ _; omega)).trans q
    · exact h1'.at fun o q => (sb.2 _ (by show @Ne Nat _ _; omega)).trans q
    · have hlt : c < s.heap.objs.size := by
        have e' : c = (n + 4) ∨ c = (n + 2) ∨ c = (n + 3) ∨ c = n ∨ c = (n + 1) := by simpa using hcm
        rcases e' with q | q | q | q | q
        · rw [q]; exact hzl
        · rw [q]; exact Heap.lt_size hTI
        · rw [q]; exact Heap.lt_size hTO
        · rw [q]; obtain ⟨_, e1, _⟩ := h0; exact Heap.lt_size e1
        · rw [q]; obtain ⟨_, e1, _⟩ := h1; exact Heap.lt_size e1
      rw [upd_ne (Nat.ne_of_lt hlt)]
      exact (hf c hcm).1
  done := by
    intro X hP hw hK hc i pins s σ H E I hf st hg
    subst hP hw hK
    obtain ⟨hz, hTI, ⟨a0, a1, hTO⟩, h0, h1⟩ := st
    obtain ⟨xs0, xs1, hq0, hq1, hend⟩ := hg
    obtain ⟨its0, rv0, p0, _⟩ := I.tuple hq0
    obtain ⟨its1, rv1, p1, _⟩ := I.list hq1
    have n0 := rv0.length
    have n1 := rv1.length
    have he : its0.toArray[i]? = none ∨ its1.toArray[i]? = none := by
      rcases hend with q | q
      · exact .inl (by simp; omega)
      · exact .inr (by simp; omega)
    exact py_zm_end (I.ok.hd hc) q0 q1 hz hTI hTO h0 h1 (show s.heap.IsTuple l0 its0.toArray from p0) (show s.heap.IsList l1 its1.toArray from p1.isList) he fun h' hk => ⟨rfl, I.turnedL (t' := s.toks) (ch := [(n + 4), (n + 2), (n + 3), n, (n + 1)]) (fun c o hb q =>
      hk c o (fun q' => hb (by simp [q'])) (fun q' => hb (by simp [q'])) (fun q' => hb (by simp [q'])) (fun q' => hb (by simp [q'])) q) hf⟩
  self := fun A i s Q E st h => wpAny_pyIter_zip st.1 h
section
variable {prog : Program} {w : World} {A : Around} {E : Value → Shared → Prop} {s : Shared}
theorem zt_item {n : Nat} {l0 l1 l2 : Nat} {k : Nat} {xs0 xs1 xs2 : Array Value} {a0 a1 a2 : Value} {x0 x1 x2 : Value} {Q : Value → Shared → Prop} (q0 : l0 < n) (q1 : l1 < n) (q2 : l2 < n) (hz : IsZip s.heap (n + 5) (n + 3) (n + 4) .none) (hTI : s.heap.get? (n + 3) = some { cls := .type "tuple", data := .seq #[.ref n, .ref (n + 1), .ref (n + 2)] }) (hTO : s.heap.get? (n + 4) = some { cls := .type "tuple", data := .seq #[a0, a1, a2] }) (h0 : s.heap.IsTupleIter n l0 k) (h1 : s.heap.IsTupleIter (n + 1) l1 k) (h2 : s.heap.IsTupleIter (n + 2) l2 k) (m0 : s.heap.IsTuple l0 xs0) (m1 : s.heap.IsTuple l1 xs1) (m2 : s.heap.IsTuple l2 xs2) (e0 : xs0[k]? = some x0) (e1 : xs1[k]? = some x1) (e2 : xs2[k]? = some x2)
    (hQ : ∀ h', IsZip h' (n + 5) (n + 3) (n + 4) (rawInt s.heap.objs.size) → h'.get? (n + 4) = some { cls := .type "tuple", data := .seq #[x0, x1, x2] } → h'.IsTupleIter n l0 (k + 1) → h'.IsTupleIter (n + 1) l1 (k + 1) → h'.IsTupleIter (n + 2) l2 (k + 1) → h'.get? s.heap.objs.size = some { cls := .type "tuple", data := .seq #[x0, x1, x2] } → h'.objs.size = s.heap.objs.size + 1 → (∀ c o, c ≠ (n + 5) → c ≠ (n + 4) → c ≠ n → c ≠ (n + 1) → c ≠ (n + 2) → s.heap.get? c = some o → h'.get? c = some o) → Q (.ref s.heap.objs.size) { s with heap := h' }) :
    wpAny (model prog w) A (Builtin.«zip.__next__» ⟨[.ref (n + 5)], []⟩) (fun fin s' => ∃ v, fin = .done (.ret v) ∧ Q v s') E s := by
  show wpAny _ _ (field (.ref (n + 5)) 2 >>= _) _ _ _
  refine wpAny_bind (wpAny_field hz rfl (x := .bool false) rfl ?_)
  show wpAny _ _ (field (.ref (n + 5)) 3 >>= _) _ _ _
  refine wpAny_bind (wpAny_field hz rfl (x := .ref (n + 3)) rfl ?_)
  refine wpAny_bind (wpAny_seqItems hTI rfl ?_)
  show wpAny _ _ (Builtin.SmallTypes.ownedTupleIsFree (.ref (n + 5)) >>= _) _ _ _
  refine wpAny_bind ?_
  unfold Builtin.SmallTypes.ownedTupleIsFree
  refine wpAny_bind (wpAny_field hz rfl (x := .none) rfl (wpAny_pure ?_))
  simp only [if_true]
  refine wpAny_bind (wpAny_rule ?_)
  refine wpAny_bind (wpAny_field hz rfl (x := .ref (n + 4)) rfl ?_)
  refine wpAny_bind (wpAny_setField_rec hz (by simp) fun g0 zz0 s0 => ?_)
  replace zz0 : IsZip g0 (n + 5) (n + 3) (n + 4) .ellipsis := zz0
  have t0 : g0.get? (n + 4) = some { cls := .type "tuple", data := .seq #[a0, a1, a2] } := s0.extBut _ _ (by show @Ne Nat _ _; omega) hTO
  have i0_0 : g0.IsTupleIter n l0 k := h0.extBut s0.extBut (by show @Ne Nat _ _; omega)
  have m0_0 : g0.IsTuple l0 xs0 := m0.extBut s0.extBut (by show @Ne Nat _ _; omega)
  have i1_0 : g0.IsTupleIter (n + 1) l1 k := h1.extBut s0.extBut (by show @Ne Nat _ _; omega)
  have m1_0 : g0.IsTuple l1 xs1 := m1.extBut s0.extBut (by show @Ne Nat _ _; omega)
  have i2_0 : g0.IsTupleIter (n + 2) l2 k := h2.extBut s0.extBut (by show @Ne Nat _ _; omega)
  have m2_0 : g0.IsTuple l2 xs2 := m2.extBut s0.extBut (by show @Ne Nat _ _; omega)
  have kp0 : ∀ c o, c ≠ (n + 5) → c ≠ (n + 4) → c ≠ n → c ≠ (n + 1) → c ≠ (n + 2) → s.heap.get? c = some o → g0.get? c = some o := fun c o c1 c2 d0 d1 d2 x => s0.extBut _ _ c1 x
  refine wpAny_bind ?_
  simp only [List.zipIdx_cons, List.zipIdx_nil, List.forIn_cons, List.forIn_nil]
  refine wpAny_bind (wpAny_bind (wpAny_onRaise ?_))
  show wpAny _ _ (Builtin.SmallTypes.nextOf (.ref n) >>= _) _ _ _
  refine wpAny_bind (RZ.nextOf_tuple_item i0_0 m0_0 e0 fun g1 i0_1 s1 => wpAny_pure ?_)
  have zz1 : IsZip g1 (n + 5) (n + 3) (n + 4) .ellipsis := s1.extBut _ _ (by show @Ne Nat _ _; omega) zz0
  have m0_1 : g1.IsTuple l0 xs0 := m0_0.extBut s1.extBut (by show @Ne Nat _ _; omega)
  have i1_1 : g1.IsTupleIter (n + 1) l1 (k) := i1_0.extBut s1.extBut (by show @Ne Nat _ _; omega)
  have m1_1 : g1.IsTuple l1 xs1 := m1_0.extBut s1.extBut (by show @Ne Nat _ _; omega)
  have i2_1 : g1.IsTupleIter (n + 2) l2 (k) := i2_0.extBut s1.extBut (by show @Ne Nat _ _; omega)
  have m2_1 : g1.IsTuple l2 xs2 := m2_0.extBut s1.extBut (by show @Ne Nat _ _; omega)
  have t1 : g1.get? (n + 4) = some { cls := .type "tuple", data := .seq #[a0, a1, a2] } := s1.extBut _ _ (by show @Ne Nat _ _; omega) t0
  have kp1 : ∀ c o, c ≠ (n + 5) → c ≠ (n + 4) → c ≠ n → c ≠ (n + 1) → c ≠ (n + 2) → s.heap.get? c = some o → g1.get? c = some o := fun c o c1 c2 d0 d1 d2 x => s1.extBut _ _ d0 (kp0 c o c1 c2 d0 d1 d2 x)
  refine wpAny_bind (wpAny_seqItems t1 rfl ?_)
  refine wpAny_bind (updSeq_arr t1 fun g2 t2 s2 => ?_)
  replace t2 : g2.get? (n + 4) = some { cls := .type "tuple", data := .seq #[x0, a1, a2] } := t2
  have zz2 : IsZip g2 (n + 5) (n + 3) (n + 4) .ellipsis := s2.extBut _ _ (by show @Ne Nat _ _; omega) zz1
  have i0_2 : g2.IsTupleIter n l0 (k + 1) := i0_1.extBut s2.extBut (by show @Ne Nat _ _; omega)
  have m0_2 : g2.IsTuple l0 xs0 := m0_1.extBut s2.extBut (by show @Ne Nat _ _; omega)
  have i1_2 : g2.IsTupleIter (n + 1) l1 (k) := i1_1.extBut s2.extBut (by show @Ne Nat _ _; omega)
  have m1_2 : g2.IsTuple l1 xs1 := m1_1.extBut s2.extBut (by show @Ne Nat _ _; omega)
  have i2_2 : g2.IsTupleIter (n + 2) l2 (k) := i2_1.extBut s2.extBut (by show @Ne Nat _ _; omega)
  have m2_2 : g2.IsTuple l2 xs2 := m2_1.extBut s2.extBut (by show @Ne Nat _ _; omega)
  have kp2 : ∀ c o, c ≠ (n + 5) → c ≠ (n + 4) → c ≠ n → c ≠ (n + 1) → c ≠ (n + 2) → s.heap.get? c = some o → g2.get? c = some o := fun c o c1 c2 d0 d1 d2 x => s2.extBut _ _ c2 (kp1 c o c1 c2 d0 d1 d2 x)
  refine wpAny_bind (wpAny_letGo (wpAny_pure ?_))
  refine wpAny_bind (wpAny_bind (wpAny_onRaise ?_))
  show wpAny _ _ (Builtin.SmallTypes.nextOf (.ref (n + 1)) >>= _) _ _ _
  refine wpAny_bind (RZ.nextOf_tuple_item i1_2 m1_2 e1 fun g3 i1_3 s3 => wpAny_pure ?_)
  have zz3 : IsZip g3 (n + 5) (n + 3) (n + 4) .ellipsis := s3.extBut _ _ (by show @Ne Nat _ _; omega) zz2
  have i0_3 : g3.IsTupleIter n l0 (k + 1) := i0_2.extBut s3.extBut (by show @Ne Nat _ _; omega)
  have m0_3 : g3.IsTuple l0 xs0 := m0_2.extBut s3.extBut (by show @Ne Nat _ _; omega)
  have m1_3 : g3.IsTuple l1 xs1 := m1_2.extBut s3.extBut (by show @Ne Nat _ _; omega)
  have i2_3 : g3.IsTupleIter (n + 2) l2 (k) := i2_2.extBut s3.extBut (by show @Ne Nat _ _; omega)
  have m2_3 : g3.IsTuple l2 xs2 := m2_2.extBut s3.extBut (by show @Ne Nat _ _; omega)
  have t3 : g3.get? (n + 4) = some { cls := .type "tuple", data := .seq #[x0, a1, a2] } := s3.extBut _ _ (by show @Ne Nat _ _; omega) t2
  have kp3 : ∀ c o, c ≠ (n + 5) → c ≠ (n + 4) → c ≠ n → c ≠ (n + 1) → c ≠ (n + 2) → s.heap.get? c = some o → g3.get? c = some o := fun c o c1 c2 d0 d1 d2 x => s3.extBut _ _ d1 (kp2 c o c1 c2 d0 d1 d2 x)
  refine wpAny_bind (wpAny_seqItems t3 rfl ?_)
  refine wpAny_bind (updSeq_arr t3 fun g4 t4 s4 => ?_)
  replace t4 : g4.get? (n + 4) = some { cls := .type "tuple", data := .seq #[x0, x1, a2] } := t4
  have zz4 : IsZip g4 (n + 5) (n + 3) (n + 4) .ellipsis := s4.extBut _ _ (by show @Ne Nat _ _; omega) zz3
  have i0_4 : g4.IsTupleIter n l0 (k + 1) := i0_3.extBut s4.extBut (by show @Ne Nat _ _; omega)
  have m0_4 : g4.IsTuple l0 xs0 := m0_3.extBut s4.extBut (by show @Ne Nat _ _; omega)
  have i1_4 : g4.IsTupleIter (n + 1) l1 (k + 1) := i1_3.extBut s4.extBut (by show @Ne Nat _ _; omega)
  have m1_4 : g4.IsTuple l1 xs1 := m1_3.extBut s4.extBut (by show @Ne Nat _ _; omega)
  have i2_4 : g4.IsTupleIter (n + 2) l2 (k) := i2_3.extBut s4.extBut (by show @Ne Nat _ _; omega)
  have m2_4 : g4.IsTuple l2 xs2 := m2_3.extBut s4.extBut (by show @Ne Nat _ _; omega)
  have kp4 : ∀ c o, c ≠ (n + 5) → c ≠ (n + 4) → c ≠ n → c ≠ (n + 1) → c ≠ (n + 2) → s.heap.get? c = some o → g4.get? c = some o := fun c o c1 c2 d0 d1 d2 x => s4.extBut _ _ c2 (kp3 c o c1 c2 d0 d1 d2 x)
  refine wpAny_bind (wpAny_letGo (wpAny_pure ?_))
  refine wpAny_bind (wpAny_bind (wpAny_onRaise ?_))
  show wpAny _ _ (Builtin.SmallTypes.nextOf (.ref (n + 2)) >>= _) _ _ _
  refine wpAny_bind (RZ.nextOf_tuple_item i2_4 m2_4 e2 fun g5 i2_5 s5 => wpAny_pure ?_)
  have zz5 : IsZip g5 (n + 5) (n + 3) (n + 4) .ellipsis := s5.extBut _ _ (by show @Ne Nat _ _; omega) zz4
  have i0_5 : g5.IsTupleIter n l0 (k + 1) := i0_4.extBut s5.extBut (by show @Ne Nat _ _; omega)
  have m0_5 : g5.IsTuple l0 xs0 := m0_4.extBut s5.extBut (by show @Ne Nat _ _; omega)
  have i1_5 : g5.IsTupleIter (n + 1) l1 (k + 1) := i1_4.extBut s5.extBut (by show @Ne Nat _ _; omega)
  have m1_5 : g5.IsTuple l1 xs1 := m1_4.extBut s5.extBut (by show @Ne Nat _ _; omega)
  have m2_5 : g5.IsTuple l2 xs2 := m2_4.extBut s5.extBut (by show @Ne Nat _ _; omega)
  have t5 : g5.get? (n + 4) = some { cls := .type "tuple", data := .seq #[x0, x1, a2] } := s5.extBut _ _ (by show @Ne Nat _ _; omega) t4
  have kp5 : ∀ c o, c ≠ (n + 5) → c ≠ (n + 4) → c ≠ n → c ≠ (n + 1) → c ≠ (n + 2) → s.heap.get? c = some o → g5.get? c = some o := fun c o c1 c2 d0 d1 d2 x => s5.extBut _ _ d2 (kp4 c o c1 c2 d0 d1 d2 x)
  refine wpAny_bind (wpAny_seqItems t5 rfl ?_)
  refine wpAny_bind (updSeq_arr t5 fun g6 t6 s6 => ?_)
  replace t6 : g6.get? (n + 4) = some { cls := .type "tuple", data := .seq #[x0, x1, x2] } := t6
  have zz6 : IsZip g6 (n + 5) (n + 3) (n + 4) .ellipsis := s6.extBut _ _ (by show @Ne Nat _ _; omega) zz5
  have i0_6 : g6.IsTupleIter n l0 (k + 1) := i0_5.extBut s6.extBut (by show @Ne Nat _ _; omega)
  have m0_6 : g6.IsTuple l0 xs0 := m0_5.extBut s6.extBut (by show @Ne Nat _ _; omega)
  have i1_6 : g6.IsTupleIter (n + 1) l1 (k + 1) := i1_5.extBut s6.extBut (by show @Ne Nat _ _; omega)
  have m1_6 : g6.IsTuple l1 xs1 := m1_5.extBut s6.extBut (by show @Ne Nat _ _; omega)
  have i2_6 : g6.IsTupleIter (n + 2) l2 (k + 1) := i2_5.extBut s6.extBut (by show @Ne Nat _ _; omega)
  have m2_6 : g6.IsTuple l2 xs2 := m2_5.extBut s6.extBut (by show @Ne Nat _ _; omega)
  have kp6 : ∀ c o, c ≠ (n + 5) → c ≠ (n + 4) → c ≠ n → c ≠ (n + 1) → c ≠ (n + 2) → s.heap.get? c = some o → g6.get? c = some o := fun c o c1 c2 d0 d1 d2 x => s6.extBut _ _ c2 (kp5 c o c1 c2 d0 d1 d2 x)
  refine wpAny_bind (wpAny_letGo (wpAny_pure (wpAny_pure ?_)))
  refine wpAny_bind (wpAny_seqItems t6 rfl ?_)
  refine wpAny_bind (wpAny_newTuple ?_)
  have hsz : g6.objs.size = s.heap.objs.size := by rw [s6.1, s5.1, s4.1, s3.1, s2.1, s1.1, s0.1]
  have hzlt : ((n + 5) : Nat) < g6.objs.size := Heap.lt_size zz6
  show wpAny _ _ (Builtin.SmallTypes.ownedTupleHandOut (.ref (n + 5)) (.ref g6.objs.size) >>= _) _ _ _
  refine wpAny_bind ?_
  unfold Builtin.SmallTypes.ownedTupleHandOut
  have hz6 : IsZip (g6.push { cls := .type "tuple", data := .seq #[x0, x1, x2] }) (n + 5) (n + 3) (n + 4) .ellipsis := Heap.get?_push_of_some _ zz6
  refine wpAny_bind (wpAny_setField_rec hz6 (by simp) fun h7 hz7 hs7 => ?_)
  replace hz7 : IsZip h7 (n + 5) (n + 3) (n + 4) (rawInt g6.objs.size) := hz7
  refine wpAny_setField_rec hz7 (by simp) fun h8 hz8 hs8 => ?_
  replace hz8 : IsZip h8 (n + 5) (n + 3) (n + 4) (rawInt g6.objs.size) := hz8
  have up : ∀ c o, c ≠ (n + 5) → g6.get? c = some o → h8.get? c = some o := fun c o c1 e => hs8.extBut _ _ c1 (hs7.extBut _ _ c1 (Heap.get?_push_of_some _ e))
  have hT8 : h8.get? g6.objs.size = some { cls := .type "tuple", data := .seq #[x0, x1, x2] } := hs8.extBut _ _ (Nat.ne_of_gt hzlt) (hs7.extBut _ _ (Nat.ne_of_gt hzlt) (Heap.get?_push_size _ rfl))
  have hn8 : h8.objs.size = g6.objs.size + 1 := by rw [hs8.1, hs7.1, Heap.size_push]
  rw [hsz] at hz8 hT8 hn8
  refine wpAny_pure ⟨_, rfl, ?_⟩
  show Q (.ref g6.objs.size) _
  rw [hsz]
  exact hQ h8 hz8 (up _ _ (by show @Ne Nat _ _; omega) t6) (i0_6.at fun o e => up _ o (by show @Ne Nat _ _; omega) e) (i1_6.at fun o e => up _ o (by show @Ne Nat _ _; omega) e) (i2_6.at fun o e => up _ o (by show @Ne Nat _ _; omega) e) hT8 hn8 fun c o c1 c2 d0 d1 d2 x => up c o c1 (kp6 c o c1 c2 d0 d1 d2 x)

theorem zt_end {n : Nat} {l0 l1 l2 : Nat} {k : Nat} {xs0 xs1 xs2 : Array Value} {a0 a1 a2 : Value} {Q : Fin → Shared → Prop} (hh : A.handled = none) (q0 : l0 < n) (q1 : l1 < n) (q2 : l2 < n) (hz : IsZip s.heap (n + 5) (n + 3) (n + 4) .none) (hTI : s.heap.get? (n + 3) = some { cls := .type "tuple", data := .seq #[.ref n, .ref (n + 1), .ref (n + 2)] }) (hTO : s.heap.get? (n + 4) = some { cls := .type "tuple", data := .seq #[a0, a1, a2] }) (h0 : s.heap.IsTupleIter n l0 k) (h1 : s.heap.IsTupleIter (n + 1) l1 k) (h2 : s.heap.IsTupleIter (n + 2) l2 k) (m0 : s.heap.IsTuple l0 xs0) (m1 : s.heap.IsTuple l1 xs1) (m2 : s.heap.IsTuple l2 xs2) (hend : xs0[k]? = none ∨ xs1[k]? = none ∨ xs2[k]? = none)
    (hE : ∀ h' e, (∀ c o, c ≠ (n + 5) → c ≠ (n + 4) → c ≠ n → c ≠ (n + 1) → c ≠ (n + 2) → s.heap.get? c = some o → h'.get? c = some o) → (∃ o, h'.get? e = some o ∧ o.cls = .type "StopIteration") → E (.ref e) { s with heap := h' }) :
    wpAny (model prog w) A (Builtin.«zip.__next__» ⟨[.ref (n + 5)], []⟩) Q E s := by
  show wpAny _ _ (field (.ref (n + 5)) 2 >>= _) _ _ _
  refine wpAny_bind (wpAny_field hz rfl (x := .bool false) rfl ?_)
  show wpAny _ _ (field (.ref (n + 5)) 3 >>= _) _ _ _
  refine wpAny_bind (wpAny_field hz rfl (x := .ref (n + 3)) rfl ?_)
  refine wpAny_bind (wpAny_seqItems hTI rfl ?_)
  show wpAny _ _ (Builtin.SmallTypes.ownedTupleIsFree (.ref (n + 5)) >>= _) _ _ _
  refine wpAny_bind ?_
  unfold Builtin.SmallTypes.ownedTupleIsFree
  refine wpAny_bind (wpAny_field hz rfl (x := .none) rfl (wpAny_pure ?_))
  simp only [if_true]
  refine wpAny_bind (wpAny_rule ?_)
  refine wpAny_bind (wpAny_field hz rfl (x := .ref (n + 4)) rfl ?_)
  refine wpAny_bind (wpAny_setField_rec hz (by simp) fun g0 zz0 s0 => ?_)
  replace zz0 : IsZip g0 (n + 5) (n + 3) (n + 4) .ellipsis := zz0
  have t0 : g0.get? (n + 4) = some { cls := .type "tuple", data := .seq #[a0, a1, a2] } := s0.extBut _ _ (by show @Ne Nat _ _; omega) hTO
  have i0_0 : g0.IsTupleIter n l0 k := h0.extBut s0.extBut (by show @Ne Nat _ _; omega)
  have m0_0 : g0.IsTuple l0 xs0 := m0.extBut s0.extBut (by show @Ne Nat _ _; omega)
  have i1_0 : g0.IsTupleIter (n + 1) l1 k := h1.extBut s0.extBut (by show @Ne Nat _ _; omega)
  have m1_0 : g0.IsTuple l1 xs1 := m1.extBut s0.extBut (by show @Ne Nat _ _; omega)
  have i2_0 : g0.IsTupleIter (n + 2) l2 k := h2.extBut s0.extBut (by show @Ne Nat _ _; omega)
  have m2_0 : g0.IsTuple l2 xs2 := m2.extBut s0.extBut (by show @Ne Nat _ _; omega)
  have kp0 : ∀ c o, c ≠ (n + 5) → c ≠ (n + 4) → c ≠ n → c ≠ (n + 1) → c ≠ (n + 2) → s.heap.get? c = some o → g0.get? c = some o := fun c o c1 c2 d0 d1 d2 x => s0.extBut _ _ c1 x
  refine wpAny_bind ?_
  simp only [List.zipIdx_cons, List.zipIdx_nil, List.forIn_cons, List.forIn_nil]
  refine wpAny_bind (wpAny_bind (wpAny_onRaise ?_))
  show wpAny _ _ (Builtin.SmallTypes.nextOf (.ref n) >>= _) _ _ _
  cases e0 : xs0[k]? with
  | none =>
    refine wpAny_bind (RZ.nextOf_tuple_end hh i0_0 m0_0 e0 fun f1 e hs he => ?_)
    obtain ⟨oe, hoe, hce⟩ := he
    have hz2 : IsZip f1 (n + 5) (n + 3) (n + 4) .ellipsis := hs _ _ (by show @Ne Nat _ _; omega) zz0
    have hez : e ≠ (n + 5) := fun x => by subst x; rw [hz2] at hoe; cases hoe; simp at hce
    exact wpAny_setField_rec hz2 (by simp) fun f3 _ hs3 => hE f3 e (fun c o c1 c2 d0 d1 d2 x => hs3.extBut _ _ c1 (hs _ _ d0 (kp0 c o c1 c2 d0 d1 d2 x))) ⟨oe, hs3.extBut _ _ hez hoe, hce⟩
  | some x0 =>
    refine wpAny_bind (RZ.nextOf_tuple_item i0_0 m0_0 e0 fun g1 i0_1 s1 => wpAny_pure ?_)
    have zz1 : IsZip g1 (n + 5) (n + 3) (n + 4) .ellipsis := s1.extBut _ _ (by show @Ne Nat _ _; omega) zz0
    have m0_1 : g1.IsTuple l0 xs0 := m0_0.extBut s1.extBut (by show @Ne Nat _ _; omega)
    have i1_1 : g1.IsTupleIter (n + 1) l1 (k) := i1_0.extBut s1.extBut (by show @Ne Nat _ _; omega)
    have m1_1 : g1.IsTuple l1 xs1 := m1_0.extBut s1.extBut (by show @Ne Nat _ _; omega)
    have i2_1 : g1.IsTupleIter (n + 2) l2 (k) := i2_0.extBut s1.extBut (by show @Ne Nat _ _; omega)
    have m2_1 : g1.IsTuple l2 xs2 := m2_0.extBut s1.extBut (by show @Ne Nat _ _; omega)
    have t1 : g1.get? (n + 4) = some { cls := .type "tuple", data := .seq #[a0, a1, a2] } := s1.extBut _ _ (by show @Ne Nat _ _; omega) t0
    have kp1 : ∀ c o, c ≠ (n + 5) → c ≠ (n + 4) → c ≠ n → c ≠ (n + 1) → c ≠ (n + 2) → s.heap.get? c = some o → g1.get? c = some o := fun c o c1 c2 d0 d1 d2 x => s1.extBut _ _ d0 (kp0 c o c1 c2 d0 d1 d2 x)
    refine wpAny_bind (wpAny_seqItems t1 rfl ?_)
    refine wpAny_bind (updSeq_arr t1 fun g2 t2 s2 => ?_)
    replace t2 : g2.get? (n + 4) = some { cls := .type "tuple", data := .seq #[x0, a1, a2] } := t2
    have zz2 : IsZip g2 (n + 5) (n + 3) (n + 4) .ellipsis := s2.extBut _ _ (by show @Ne Nat _ _; omega) zz1
    have i0_2 : g2.IsTupleIter n l0 (k + 1) := i0_1.extBut s2.extBut (by show @Ne Nat _ _; omega)
    have m0_2 : g2.IsTuple l0 xs0 := m0_1.extBut s2.extBut (by show @Ne Nat _ _; omega)
    have i1_2 : g2.IsTupleIter (n + 1) l1 (k) := i1_1.extBut s2.extBut (by show @Ne Nat _ _; omega)
    have m1_2 : g2.IsTuple l1 xs1 := m1_1.extBut s2.extBut (by show @Ne Nat _ _; omega)
    have i2_2 : g2.IsTupleIter (n + 2) l2 (k) := i2_1.extBut s2.extBut (by show @Ne Nat _ _; omega)
    have m2_2 : g2.IsTuple l2 xs2 := m2_1.extBut s2.extBut (by show @Ne Nat _ _; omega)
    have kp2 : ∀ c o, c ≠ (n + 5) → c ≠ (n + 4) → c ≠ n → c ≠ (n + 1) → c ≠ (n + 2) → s.heap.get? c = some o → g2.get? c = some o := fun c o c1 c2 d0 d1 d2 x => s2.extBut _ _ c2 (kp1 c o c1 c2 d0 d1 d2 x)
    refine wpAny_bind (wpAny_letGo (wpAny_pure ?_))
    refine wpAny_bind (wpAny_bind (wpAny_onRaise ?_))
    show wpAny _ _ (Builtin.SmallTypes.nextOf (.ref (n + 1)) >>= _) _ _ _
    cases e1 : xs1[k]? with
    | none =>
      refine wpAny_bind (RZ.nextOf_tuple_end hh i1_2 m1_2 e1 fun f1 e hs he => ?_)
      obtain ⟨oe, hoe, hce⟩ := he
      have hz2 : IsZip f1 (n + 5) (n + 3) (n + 4) .ellipsis := hs _ _ (by show @Ne Nat _ _; omega) zz2
      have hez : e ≠ (n + 5) := fun x => by subst x; rw [hz2] at hoe; cases hoe; simp at hce
      exact wpAny_setField_rec hz2 (by simp) fun f3 _ hs3 => hE f3 e (fun c o c1 c2 d0 d1 d2 x => hs3.extBut _ _ c1 (hs _ _ d1 (kp2 c o c1 c2 d0 d1 d2 x))) ⟨oe, hs3.extBut _ _ hez hoe, hce⟩
    | some x1 =>
      refine wpAny_bind (RZ.nextOf_tuple_item i1_2 m1_2 e1 fun g3 i1_3 s3 => wpAny_pure ?_)
      have zz3 : IsZip g3 (n + 5) (n + 3) (n + 4) .ellipsis := s3.extBut _ _ (by show @Ne Nat _ _; omega) zz2
      have i0_3 : g3.IsTupleIter n l0 (k + 1) := i0_2.extBut s3.extBut (by show @Ne Nat _ _; omega)
      have m0_3 : g3.IsTuple l0 xs0 := m0_2.extBut s3.extBut (by show @Ne Nat _ _; omega)
      have m1_3 : g3.IsTuple l1 xs1 := m1_2.extBut s3.extBut (by show @Ne Nat _ _; omega)
      have i2_3 : g3.IsTupleIter (n + 2) l2 (k) := i2_2.extBut s3.extBut (by show @Ne Nat _ _; omega)
      have m2_3 : g3.IsTuple l2 xs2 := m2_2.extBut s3.extBut (by show @Ne Nat _ _; omega)
      have t3 : g3.get? (n + 4) = some { cls := .type "tuple", data := .seq #[x0, a1, a2] } := s3.extBut _ _ (by show @Ne Nat _ _; omega) t2
      have kp3 : ∀ c o, c ≠ (n + 5) → c ≠ (n + 4) → c ≠ n → c ≠ (n + 1) → c ≠ (n + 2) → s.heap.get? c = some o → g3.get? c = some o := fun c o c1 c2 d0 d1 d2 x => s3.extBut _ _ d1 (kp2 c o c1 c2 d0 d1 d2 x)
      refine wpAny_bind (wpAny_seqItems t3 rfl ?_)
      refine wpAny_bind (updSeq_arr t3 fun g4 t4 s4 => ?_)
      replace t4 : g4.get? (n + 4) = some { cls := .type "tuple", data := .seq #[x0, x1, a2] } := t4
      have zz4 : IsZip g4 (n + 5) (n + 3) (n + 4) .ellipsis := s4.extBut _ _ (by show @Ne Nat _ _; omega) zz3
      have i0_4 : g4.IsTupleIter n l0 (k + 1) := i0_3.extBut s4.extBut (by show @Ne Nat _ _; omega)
      have m0_4 : g4.IsTuple l0 xs0 := m0_3.extBut s4.extBut (by show @Ne Nat _ _; omega)
      have i1_4 : g4.IsTupleIter (n + 1) l1 (k + 1) := i1_3.extBut s4.extBut (by show @Ne Nat _ _; omega)
      have m1_4 : g4.IsTuple l1 xs1 := m1_3.extBut s4.extBut (by show @Ne Nat _ _; omega)
      have i2_4 : g4.IsTupleIter (n + 2) l2 (k) := i2_3.extBut s4.extBut (by show @Ne Nat _ _; omega)
      have m2_4 : g4.IsTuple l2 xs2 := m2_3.extBut s4.extBut (by show @Ne Nat _ _; omega)
      have kp4 : ∀ c o, c ≠ (n + 5) → c ≠ (n + 4) → c ≠ n → c ≠ (n + 1) → c ≠ (n + 2) → s.heap.get? c = some o → g4.get? c = some o := fun c o c1 c2 d0 d1 d2 x => s4.extBut _ _ c2 (kp3 c o c1 c2 d0 d1 d2 x)
      refine wpAny_bind (wpAny_letGo (wpAny_pure ?_))
      refine wpAny_bind (wpAny_bind (wpAny_onRaise ?_))
      show wpAny _ _ (Builtin.SmallTypes.nextOf (.ref (n + 2)) >>= _) _ _ _
      cases e2 : xs2[k]? with
      | none =>
        refine wpAny_bind (RZ.nextOf_tuple_end hh i2_4 m2_4 e2 fun f1 e hs he => ?_)
        obtain ⟨oe, hoe, hce⟩ := he
        have hz2 : IsZip f1 (n + 5) (n + 3) (n + 4) .ellipsis := hs _ _ (by show @Ne Nat _ _; omega) zz4
        have hez : e ≠ (n + 5) := fun x => by subst x; rw [hz2] at hoe; cases hoe; simp at hce
        exact wpAny_setField_rec hz2 (by simp) fun f3 _ hs3 => hE f3 e (fun c o c1 c2 d0 d1 d2 x => hs3.extBut _ _ c1 (hs _ _ d2 (kp4 c o c1 c2 d0 d1 d2 x))) ⟨oe, hs3.extBut _ _ hez hoe, hce⟩
      | some x2 =>
        exfalso
        rcases hend with q | q | q
        · rw [e0] at q; cases q
        · rw [e1] at q; cases q
        · rw [e2] at q; cases q

theorem py_zt_item {n : Nat} {l0 l1 l2 : Nat} {k : Nat} {xs0 xs1 xs2 : Array Value} {a0 a1 a2 : Value} {x0 x1 x2 : Value} {Q : Option Value → Shared → Prop} (q0 : l0 < n) (q1 : l1 < n) (q2 : l2 < n) (hz : IsZip s.heap (n + 5) (n + 3) (n + 4) .none) (hTI : s.heap.get? (n + 3) = some { cls := .type "tuple", data := .seq #[.ref n, .ref (n + 1), .ref (n + 2)] }) (hTO : s.heap.get? (n + 4) = some { cls := .type "tuple", data := .seq #[a0, a1, a2] }) (h0 : s.heap.IsTupleIter n l0 k) (h1 : s.heap.IsTupleIter (n + 1) l1 k) (h2 : s.heap.IsTupleIter (n + 2) l2 k) (m0 : s.heap.IsTuple l0 xs0) (m1 : s.heap.IsTuple l1 xs1) (m2 : s.heap.IsTuple l2 xs2) (e0 : xs0[k]? = some x0) (e1 : xs1[k]? = some x1) (e2 : xs2[k]? = some x2)
    (hQ : ∀ h', IsZip h' (n + 5) (n + 3) (n + 4) (rawInt s.heap.objs.size) → h'.get? (n + 4) = some { cls := .type "tuple", data := .seq #[x0, x1, x2] } → h'.IsTupleIter n l0 (k + 1) → h'.IsTupleIter (n + 1) l1 (k + 1) → h'.IsTupleIter (n + 2) l2 (k + 1) → h'.get? s.heap.objs.size = some { cls := .type "tuple", data := .seq #[x0, x1, x2] } → h'.objs.size = s.heap.objs.size + 1 → (∀ c o, c ≠ (n + 5) → c ≠ (n + 4) → c ≠ n → c ≠ (n + 1) → c ≠ (n + 2) → s.heap.get? c = some o → h'.get? c = some o) → Q (some (.ref s.heap.objs.size)) { s with heap := h' }) :
    wpAny (model prog w) A (pyNext (.ref (n + 5))) Q E s := by
  have hT : s.TypeIs (.ref (n + 5)) "zip" := ⟨_, hz, rfl⟩
  unfold pyNext
  exact wpAny_bind (wpAny_attempt (wpAny_callSpecial?_slot (name := Str.ofString "__next__") hT F.slot_zip_next
    (wpAny_call_entry F.slot_zip_next hT F.entry_zip_next
      (zt_item q0 q1 q2 hz hTI hTO h0 h1 h2 m0 m1 m2 e0 e1 e2 fun h' a1 a2 b0 b1 b2 a5 a6 a7 => wpAny_pure (hQ h' a1 a2 b0 b1 b2 a5 a6 a7)) (F.args_zip_next_1 _))))
theorem py_zt_end {n : Nat} {l0 l1 l2 : Nat} {k : Nat} {xs0 xs1 xs2 : Array Value} {a0 a1 a2 : Value} {Q : Option Value → Shared → Prop} (hh : A.handled = none) (q0 : l0 < n) (q1 : l1 < n) (q2 : l2 < n) (hz : IsZip s.heap (n + 5) (n + 3) (n + 4) .none) (hTI : s.heap.get? (n + 3) = some { cls := .type "tuple", data := .seq #[.ref n, .ref (n + 1), .ref (n + 2)] }) (hTO : s.heap.get? (n + 4) = some { cls := .type "tuple", data := .seq #[a0, a1, a2] }) (h0 : s.heap.IsTupleIter n l0 k) (h1 : s.heap.IsTupleIter (n + 1) l1 k) (h2 : s.heap.IsTupleIter (n + 2) l2 k) (m0 : s.heap.IsTuple l0 xs0) (m1 : s.heap.IsTuple l1 xs1) (m2 : s.heap.IsTuple l2 xs2) (hend : xs0[k]? = none ∨ xs1[k]? = none ∨ xs2[k]? = none)
    (hQ : ∀ h', (∀ c o, c ≠ (n + 5) → c ≠ (n + 4) → c ≠ n → c ≠ (n + 1) → c ≠ (n + 2) → s.heap.get? c = some o → h'.get? c = some o) → Q none { s with heap := h' }) : wpAny (model prog w) A (pyNext (.ref (n + 5))) Q E s := by
  have hT : s.TypeIs (.ref (n + 5)) "zip" := ⟨_, hz, rfl⟩
  unfold pyNext
  refine wpAny_bind (wpAny_attempt (wpAny_callSpecial?_slot (name := Str.ofString "__next__") hT F.slot_zip_next
    (wpAny_call_entry F.slot_zip_next hT F.entry_zip_next (zt_end hh q0 q1 q2 hz hTI hTO h0 h1 h2 m0 m1 m2 hend fun h' e hk he => ?_) (F.args_zip_next_1 _))))
  obtain ⟨o, ho, hc⟩ := he
  refine wpAny_bind (wpAny_isInstance (T := "StopIteration") (b := true) ⟨o, ho, hc⟩ isSubtype_stop ?_)
  exact wpAny_pure (hQ _ hk)
end
abbrev ztH1 (h : Heap) (l0 : Addr) : Heap := h.push { cls := .type "tuple_iterator", data := .fields #[.ref l0, .int 0 0] }
abbrev ztH2 (h : Heap) (l0 l1 : Addr) : Heap := (ztH1 h l0).push { cls := .type "tuple_iterator", data := .fields #[.ref l1, .int 0 0] }
abbrev ztH3 (h : Heap) (l0 l1 l2 : Addr) : Heap := (ztH2 h l0 l1).push { cls := .type "tuple_iterator", data := .fields #[.ref l2, .int 0 0] }
abbrev ztH4 (h : Heap) (l0 l1 l2 : Addr) : Heap := (ztH3 h l0 l1 l2).push { cls := .type "tuple", data := .seq #[.ref h.objs.size, .ref (ztH1 h l0).objs.size, .ref (ztH2 h l0 l1).objs.size] }
abbrev ztH5 (h : Heap) (l0 l1 l2 : Addr) : Heap := (ztH4 h l0 l1 l2).push { cls := .type "tuple", data := .seq #[.none, .none, .none] }
abbrev ztH6 (h : Heap) (l0 l1 l2 : Addr) : Heap := (ztH5 h l0 l1 l2).push { cls := .type "zip", data := .fields #[.none, .bool false, .bool false, .ref (ztH3 h l0 l1 l2).objs.size, .ref (ztH4 h l0 l1 l2).objs.size] }
theorem meets_zt_new (l0 l1 l2 : Addr) (xs0 xs1 xs2 : Array Value) :
    Meets (Builtin.«zip.__new__» ⟨[.type "zip", .ref l0, .ref l1, .ref l2], []⟩) (fun _ R s => s.heap.IsTuple l0 xs0 ∧ s.heap.IsTuple l1 xs1 ∧ s.heap.IsTuple l2 xs2 ∧ R (.ok (.ret (.ref (ztH5 s.heap l0 l1 l2).objs.size))) { s with heap := ztH6 s.heap l0 l1 l2 }) :=
  .of_wp fun prog w A R s h => by
    obtain ⟨hp, g, d, tk, os⟩ := s; obtain ⟨hl0, hl1, hl2, h⟩ := h
    have hsub := sub_zip
    have hL0 : Heap.IsTuple (Shared.heap ⟨hp, g, d, tk, os⟩) l0 xs0 := hl0
    have hL1 : Heap.IsTuple (Shared.heap ⟨ztH1 hp l0, g, d, tk, os⟩) l1 xs1 := Heap.IsTuple.push (hl1) _
    have hL2 : Heap.IsTuple (Shared.heap ⟨ztH2 hp l0 l1, g, d, tk, os⟩) l2 xs2 := Heap.IsTuple.push (Heap.IsTuple.push (hl2) _) _
    wp_walk using wpAny_pyIter_tuple hL0, wpAny_pyIter_tuple hL1, wpAny_pyIter_tuple hL2
    exact ⟨_, rfl, h⟩
theorem zt_typeCall (a0 a1 a2 : Value) : checkTypeCall "zip" ⟨[a0, a1, a2], []⟩ = pure () := by kernel_rfl
theorem zt_newCall (a0 a1 a2 : Value) : checkBuiltinCall "zip.__new__" ⟨[.type "zip", a0, a1, a2], []⟩ = pure () := by kernel_rfl
theorem zt_initArgs (o a0 a1 a2 : Value) : argsOk "object.__init__" ⟨[o, a0, a1, a2], []⟩ := by
  unfold argsOk; rw [signature?_of (id := "object.__init__") (n := ['_', '_', 't', 'i', 'n', 'i', '_', '_']) (o := ['t', 'c', 'e', 'j', 'b', 'o']) (by kernel_rfl) F.owner_object]; kernel_rfl
section
variable {prog : Program} {w : World} {A : Around} {E : Value → Shared → Prop} {s : Shared}
theorem call_zt {l0 l1 l2 : Nat} {xs0 xs1 xs2 : Array Value} {Q : Value → Shared → Prop} (hl0 : s.heap.IsTuple l0 xs0) (hl1 : s.heap.IsTuple l1 xs1) (hl2 : s.heap.IsTuple l2 xs2)
    (h : ∀ h', IsZip h' (s.heap.objs.size + 5) (s.heap.objs.size + 3) (s.heap.objs.size + 4) .none → h'.get? (s.heap.objs.size + 3) = some { cls := .type "tuple", data := .seq #[.ref s.heap.objs.size, .ref (s.heap.objs.size + 1), .ref (s.heap.objs.size + 2)] } → h'.get? (s.heap.objs.size + 4) = some { cls := .type "tuple", data := .seq #[.none, .none, .none] } → h'.IsTupleIter s.heap.objs.size l0 0 → h'.IsTupleIter (s.heap.objs.size + 1) l1 0 → h'.IsTupleIter (s.heap.objs.size + 2) l2 0 → h'.objs.size = s.heap.objs.size + 6 → (∀ c o, s.heap.get? c = some o → h'.get? c = some o) → Q (.ref (s.heap.objs.size + 5)) { s with heap := h' }) :
    wpAny (model prog w) A (call (.type "zip") [.ref l0, .ref l1, .ref l2]) Q E s := by
  refine callType_new F.called_zip (by decide) (zt_typeCall _ _ _) (zt_newCall _ _ _) (fun obj => zt_initArgs obj _ _ _) F.entry_zip_new
    (meets_zt_new l0 l1 l2 xs0 xs1 xs2) ⟨hl0, hl1, hl2, ?_⟩
  have z1 : (ztH1 s.heap l0).objs.size = (s.heap.objs.size + 1) := by exact Heap.size_push ..
  have z2 : (ztH2 s.heap l0 l1).objs.size = (s.heap.objs.size + 2) := by rw [Heap.size_push, z1]
  have z3 : (ztH3 s.heap l0 l1 l2).objs.size = (s.heap.objs.size + 3) := by rw [Heap.size_push, z2]
  have z4 : (ztH4 s.heap l0 l1 l2).objs.size = (s.heap.objs.size + 4) := by rw [Heap.size_push, z3]
  have z5 : (ztH5 s.heap l0 l1 l2).objs.size = (s.heap.objs.size + 5) := by rw [Heap.size_push, z4]
  have z6 : (ztH6 s.heap l0 l1 l2).objs.size = (s.heap.objs.size + 6) := by rw [Heap.size_push, z5]
  have g5 : (ztH6 s.heap l0 l1 l2).get? (ztH5 s.heap l0 l1 l2).objs.size = some _ := Heap.get?_push_size _ rfl
  have g4 : (ztH6 s.heap l0 l1 l2).get? (ztH4 s.heap l0 l1 l2).objs.size = some _ := Heap.get?_push_of_some _ (Heap.get?_push_size _ rfl)
  have g3 : (ztH6 s.heap l0 l1 l2).get? (ztH3 s.heap l0 l1 l2).objs.size = some _ := Heap.get?_push_of_some _ (Heap.get?_push_of_some _ (Heap.get?_push_size _ rfl))
  have g2 : (ztH6 s.heap l0 l1 l2).get? (ztH2 s.heap l0 l1).objs.size = some _ := Heap.get?_push_of_some _ (Heap.get?_push_of_some _ (Heap.get?_push_of_some _ (Heap.get?_push_size _ rfl)))
  have g1 : (ztH6 s.heap l0 l1 l2).get? (ztH1 s.heap l0).objs.size = some _ := Heap.get?_push_of_some _ (Heap.get?_push_of_some _ (Heap.get?_push_of_some _ (Heap.get?_push_of_some _ (Heap.get?_push_size _ rfl))))
  have g0 : (ztH6 s.heap l0 l1 l2).get? s.heap.objs.size = some _ := Heap.get?_push_of_some _ (Heap.get?_push_of_some _ (Heap.get?_push_of_some _ (Heap.get?_push_of_some _ (Heap.get?_push_of_some _ (Heap.get?_push_size _ rfl)))))
  show _ ∧ _
  rw [z3, z4, z5] at g5
  rw [z4] at g4
  rw [z1, z2, z3] at g3
  rw [z1] at g1
  rw [z2] at g2
  rw [z5]
  exact ⟨⟨_, g5, rfl⟩, h _ g5 g3 g4 ⟨_, g0, rfl, rfl⟩ ⟨_, g1, rfl, rfl⟩ ⟨_, g2, rfl, rfl⟩ z6 fun c o x => Heap.get?_push_of_some _ (Heap.get?_push_of_some _ (Heap.get?_push_of_some _ (Heap.get?_push_of_some _ (Heap.get?_push_of_some _ (Heap.get?_push_of_some _ (x))))))⟩
end
def Itzt (K : PySem.W.Frag) (l0 l1 l2 : Addr) : It :=
  ⟨fun i H => ∃ (xs0 xs1 xs2 : List V) (x0 x1 x2 : V), SqT K H l0 xs0 ∧ SqT K H l1 xs1 ∧ SqT K H l2 xs2 ∧ xs0[i]? = some x0 ∧ xs1[i]? = some x1 ∧ xs2[i]? = some x2,
    fun i H v H' => ∃ T x0 x1 x2, v = .ref T ∧ H T = none ∧ H' = upd H T (.tup [x0, x1, x2]) ∧ (∀ xs, SqT K H l0 xs → xs[i]? = some x0) ∧ (∀ xs, SqT K H l1 xs → xs[i]? = some x1) ∧ (∀ xs, SqT K H l2 xs → xs[i]? = some x2),
    fun i H => ∃ xs0 xs1 xs2 : List V, SqT K H l0 xs0 ∧ SqT K H l1 xs1 ∧ SqT K H l2 xs2 ∧ (xs0.length ≤ i ∨ xs1.length ≤ i ∨ xs2.length ≤ i)⟩
theorem turn_zt {P : Program} {w : World} {K : PySem.W.Frag} {elts : List Expr} {kk : Nat} {tpos : Pos} {l0 l1 l2 n : Nat} (q0 : l0 < n) (q1 : l1 < n) (q2 : l2 < n) :
    Turn P w K (.Tuple elts kk tpos) (Itzt K l0 l1 l2) [(n + 5), (n + 3), (n + 4), n, (n + 1), (n + 2)] (n + 5) (fun i h => IsZip h (n + 5) (n + 3) (n + 4) .none ∧ h.get? (n + 3) = some { cls := .type "tuple", data := .seq #[.ref n, .ref (n + 1), .ref (n + 2)] } ∧ (∃ a0 a1 a2, h.get? (n + 4) = some { cls := .type "tuple", data := .seq #[a0, a1, a2] }) ∧ h.IsTupleIter n l0 i ∧ h.IsTupleIter (n + 1) l1 i ∧ h.IsTupleIter (n + 2) l2 i) where
  mem := by simp
  obj := fun i h st c hc => by
    obtain ⟨hz, hTI, ⟨a0, a1, a2, hTO⟩, ⟨o0, e0, _, d0⟩, ⟨o1, e1, _, d1⟩, ⟨o2, e2, _, d2⟩⟩ := st
    have e' : c = (n + 5) ∨ c = (n + 3) ∨ c = (n + 4) ∨ c = n ∨ c = (n + 1) ∨ c = (n + 2) := by simpa using hc
    rcases e' with q | q | q | q | q | q
    · rw [q]; exact ⟨_, hz, fun v q => nomatch q⟩
    · rw [q]; exact ⟨_, hTI, fun v q => nomatch q⟩
    · rw [q]; exact ⟨_, hTO, fun v q => nomatch q⟩
    · rw [q]; exact ⟨o0, e0, fun v q => by rw [d0] at q; cases q⟩
    · rw [q]; exact ⟨o1, e1, fun v q => by rw [d1] at q; cases q⟩
    · rw [q]; exact ⟨o2, e2, fun v q => by rw [d2] at q; cases q⟩
  keep := fun i h h' st k => by
    obtain ⟨hz, hTI, ⟨a0, a1, a2, hTO⟩, h0, h1, h2⟩ := st
    exact ⟨k (n + 5) (by simp) _ hz, k (n + 3) (by simp) _ hTI, ⟨a0, a1, a2, k (n + 4) (by simp) _ hTO⟩, h0.at fun o q => k n (by simp) o q, h1.at fun o q => k (n + 1) (by simp) o q, h2.at fun o q => k (n + 2) (by simp) o q⟩
  item := by
    intro X hP hw hK hc i pins s σ H E I hf st hg
    subst hP hw hK
    obtain ⟨hz, hTI, ⟨a0, a1, a2, hTO⟩, h0, h1, h2⟩ := st
    obtain ⟨xs0, xs1, xs2, x0, x1, x2, hq0, hq1, hq2, hx0, hx1, hx2⟩ := hg
    obtain ⟨its0, rv0, p0, _⟩ := I.tuple hq0
    obtain ⟨its1, rv1, p1, _⟩ := I.tuple hq1
    obtain ⟨its2, rv2, p2, _⟩ := I.tuple hq2
    obtain ⟨u0, hu0, ru0⟩ := rv0.get hx0
    obtain ⟨u1, hu1, ru1⟩ := rv1.get hx1
    obtain ⟨u2, hu2, ru2⟩ := rv2.get hx2
    have hzl : (n + 5) < s.heap.objs.size := Heap.lt_size hz
    refine py_zt_item q0 q1 q2 hz hTI hTO h0 h1 h2 (show s.heap.IsTuple l0 its0.toArray from p0) (show s.heap.IsTuple l1 its1.toArray from p1) (show s.heap.IsTuple l2 its2.toArray from p2) (x0 := u0) (x1 := u1) (x2 := u2) (by simpa using hu0) (by simpa using hu1) (by simpa using hu2) fun h' z' TO' h0' h1' h2' hT hsz hk => ?_
    refine ⟨_, rfl, wpAny_letOwnedTupleGo_zip (s := { s with heap := h' }) z' fun h'' z'' sb => ?_⟩
    have hT2 : h''.get? s.heap.objs.size = some { cls := .type "tuple", data := .seq #[u0, u1, u2] } := (sb.2 _ (Nat.ne_of_gt hzl)).trans hT
    have new : ObjOk X.prog X.w (upd H s.heap.objs.size (.tup [x0, x1, x2])) h'' s.heap.objs.size (.tup [x0, x1, x2]) :=
      ⟨by show 3 ≤ sizeLine; decide, [u0, u1, u2], .cons ru0 (.cons ru1 (.cons ru2 (.nil))), ⟨_, hT2, rfl, _, rfl⟩⟩
    have I1 : Inv X pins σ (upd H s.heap.objs.size (.tup [x0, x1, x2])) { s with heap := h'' } :=
      I.turnedNew (t' := s.toks) (ch := [(n + 5), (n + 3), (n + 4), n, (n + 1), (n + 2)]) (fun c o hb q => (sb.2 c (fun q' => hb (by simp [q']))).trans (hk c o (fun q' => hb (by simp [q'])) (fun q' => hb (by simp [q'])) (fun q' => hb (by simp [q'])) (fun q' => hb (by simp [q'])) (fun q' => hb (by simp [q'])) q)) hf (Nat.le_refl _) new
    refine ⟨.ref s.heap.objs.size, _, I1, rfl, ⟨_, x0, x1, x2, rfl, I.hok.fresh (Nat.le_refl _), rfl, fun l hl => by rw [I.tuple_inj hl hq0]; exact hx0, fun l hl => by rw [I.tuple_inj hl hq1]; exact hx1, fun l hl => by rw [I.tuple_inj hl hq2]; exact hx2⟩, ⟨z'', ?_, ⟨u0, u1, u2, ?_⟩, ?_, ?_, ?_⟩, fun c hcm => ?_⟩
    · exact (sb.2 _ (by show @Ne Nat _ _; omega)).trans (hk _ _ (by show @Ne Nat _ _; omega) (by show @Ne Nat _ _; omega) (by show @Ne Nat _ _; omega) (by show @Ne Nat _ _; omega) (by show @Ne Nat _ _; omega) hTI)
    · exact (sb.2 _ (by show @Ne Nat _ _; omega)).trans TO'
    · exact h0'.at fun o q => (sb.2 _ (by show @Ne Nat _ _; omega)).trans q
    · exact h1'.at fun o q => (sb.2 _ (by show @Ne Nat _ _; omega)).trans q
    · exact h2'.at fun o q => (sb.2 _ (by show @Ne Nat _ _; omega)).trans q
    · have hlt : c < s.heap.objs.size := by
        have e' : c = (n + 5) ∨ c = (n + 3) ∨ c = (n + 4) ∨ c = n ∨ c = (n + 1) ∨ c = (n + 2) := by simpa using hcm
        rcases e' with q | q | q | q | q | q
        · rw [q]; exact hzl
        · rw [q]; exact Heap.lt_size hTI
        · rw [q]; exact Heap.lt_size hTO
        · rw [q]; obtain ⟨_, e1, _⟩ := h0; exact Heap.lt_size e1
        · rw [q]; obtain ⟨_, e1, _⟩ := h1; exact Heap.lt_size e1
        · rw [q]; obtain ⟨_, e1, _⟩ := h2; exact Heap.lt_size e1
      rw [upd_ne (Nat.ne_of_lt hlt)]
      exact (hf c hcm).1
  done := by
    intro X hP hw hK hc i pins s σ H E I hf st hg
    subst hP hw hK
    obtain ⟨hz, hTI, ⟨a0, a1, a2, hTO⟩, h0, h1, h2⟩ := st
    obtain ⟨xs0, xs1, xs2, hq0, hq1, hq2, hend⟩ := hg
    obtain ⟨its0, rv0, p0, _⟩ := I.tuple hq0
    obtain ⟨its1, rv1, p1, _⟩ := I.tuple hq1
    obtain ⟨its2, rv2, p2, _⟩ := I.tuple hq2
    have n0 := rv0.length
    have n1 := rv1.length
    have n2 := rv2.length
    have he : its0.toArray[i]? = none ∨ its1.toArray[i]? = none ∨ its2.toArray[i]? = none := by
      rcases hend with q | q | q
      · exact .inl (by simp; omega)
      · exact .inr (.inl (by simp; omega))
      · exact .inr (.inr (by simp; omega))
    exact py_zt_end (I.ok.hd hc) q0 q1 q2 hz hTI hTO h0 h1 h2 (show s.heap.IsTuple l0 its0.toArray from p0) (show s.heap.IsTuple l1 its1.toArray from p1) (show s.heap.IsTuple l2 its2.toArray from p2) he fun h' hk => ⟨rfl, I.turnedL (t' := s.toks) (ch := [(n + 5), (n + 3), (n + 4), n, (n + 1), (n + 2)]) (fun c o hb q =>
      hk c o (fun q' => hb (by simp [q'])) (fun q' => hb (by simp [q'])) (fun q' => hb (by simp [q'])) (fun q' => hb (by simp [q'])) (fun q' => hb (by simp [q'])) q) hf⟩
  self := fun A i s Q E st h => wpAny_pyIter_zip st.1 h
end Z

namespace Z
open PySem PySem.Spec PyProof.Rows L2
open PySem.Sem (wp)
section
variable {prog : Program} {w : World} {A : Around} {E : Value → Shared → Prop} {s : Shared}
theorem enumT_next {e it l : Addr} {i : Nat} {items : Array Value} {x old : Value} {Q : Value → Shared → Prop}
    (he : IsEnum s.heap e it i old) (hit : s.heap.IsTupleIter it l i) (hl : s.heap.IsTuple l items) (hx : items[i]? = some x) (hne : e ≠ it)
    (hQ : ∀ h', IsEnumOut h' e it ((i : Int) + 1) x s.heap.objs.size → h'.IsTupleIter it l (i + 1) →
      h'.get? s.heap.objs.size = some { cls := .type "tuple", data := .seq #[.int i s.toks, x] } → h'.objs.size = s.heap.objs.size + 1 →
      (∀ b o, b ≠ e → b ≠ it → s.heap.get? b = some o → h'.get? b = some o) → Q (.ref s.heap.objs.size) { s with heap := h', toks := s.toks + 1 }) :
    wpAny (model prog w) A (Builtin.«enumerate.__next__» ⟨[.ref e], []⟩) (fun fin s' => ∃ v, fin = .done (.ret v) ∧ Q v s') E s := by
  obtain ⟨hp, g, d, tk, os⟩ := s
  show wpAny _ _ (field (.ref e) 2 >>= _) _ _ _
  refine wpAny_bind (wpAny_field he rfl (x := .ref it) rfl ?_)
  refine wpAny_bind (RZ.nextOf_tuple_item hit hl hx fun k1 it1 s1 => ?_)
  replace s1 : Heap.SameBut it hp k1 := s1
  have e1 : IsEnum k1 e it i old := (s1.2 e hne).trans he
  show wpAny _ _ (field (.ref e) 3 >>= _) _ _ ⟨k1, g, d, tk, os⟩
  refine wpAny_bind (wpAny_field e1 rfl (x := rawInt i) rfl ?_)
  show wpAny _ _ (field (.ref e) 4 >>= _) _ _ ⟨k1, g, d, tk, os⟩
  refine wpAny_bind (wpAny_field e1 rfl (x := .none) rfl ?_)
  show wpAny _ _ (mkInt i >>= _) _ _ ⟨k1, g, d, tk, os⟩
  refine wpAny_bind (wpAny_mkInt ?_)
  show wpAny _ _ (setField (.ref e) 3 (rawInt ((i : Int) + 1)) >>= _) _ _ ⟨k1, g, d, tk + 1, os⟩
  refine wpAny_bind (wpAny_setField_rec e1 (by simp) fun k2 e2 s2 => ?_)
  replace s2 : Heap.SameBut e k1 k2 := s2
  replace e2 : IsEnum k2 e it ((i : Int) + 1) old := e2
  show wpAny _ _ (setField (.ref e) 4 .none >>= _) _ _ ⟨k2, g, d, tk + 1, os⟩
  refine wpAny_bind (wpAny_setField_rec e2 (by simp) fun k3 e3 s3 => ?_)
  replace s3 : Heap.SameBut e k2 k3 := s3
  replace e3 : IsEnum k3 e it ((i : Int) + 1) old := e3
  show wpAny _ _ (newTuple [.int i tk, x] >>= _) _ _ ⟨k3, g, d, tk + 1, os⟩
  refine wpAny_bind (wpAny_newTuple ?_)
  have e4 : IsEnum (k3.push { cls := .type "tuple", data := .seq #[.int i tk, x] }) e it ((i : Int) + 1) old := Heap.get?_push_of_some _ e3
  generalize hh4 : k3.push { cls := .type "tuple", data := .seq #[.int i tk, x] } = k4 at e4
  have hsz : k3.objs.size = hp.objs.size := by rw [s3.1, s2.1, s1.1]
  have hel : e < hp.objs.size := Heap.lt_size he
  have t4 : k4.get? hp.objs.size = some { cls := .type "tuple", data := .seq #[.int i tk, x] } := by rw [← hh4, ← hsz]; exact Heap.get?_push_size _ rfl
  have z4 : k4.objs.size = hp.objs.size + 1 := by rw [← hh4, Heap.size_push, hsz]
  have kp4 : ∀ b o, b ≠ e → b ≠ it → hp.get? b = some o → k4.get? b = some o := fun b o hbe hbi hb => by
    rw [← hh4]; exact Heap.get?_push_of_some _ (s3.extBut b o hbe (s2.extBut b o hbe (s1.extBut b o hbi hb)))
  have it4 : k4.IsTupleIter it l (i + 1) := by
    rw [← hh4]; obtain ⟨o, ho, r⟩ := (it1.extBut s2.extBut (Ne.symm hne)).extBut s3.extBut (Ne.symm hne); exact ⟨o, Heap.get?_push_of_some _ ho, r⟩
  show wpAny _ _ (Builtin.SmallTypes.ownedTupleIsFree (.ref e) >>= _) _ _ ⟨k4, g, d, tk + 1, os⟩
  rw [hsz]
  clear hh4 e3 s3 e2 s2 e1 s1 it1 hsz k3 k2 k1
  refine wpAny_bind ?_
  · unfold Builtin.SmallTypes.ownedTupleIsFree
    refine wpAny_bind (wpAny_field e4 rfl (x := .none) rfl (wpAny_pure ?_))
    simp only [if_true]
    refine wpAny_bind (wpAny_rule ?_)
    refine wpAny_bind (wpAny_field e4 rfl (x := old) rfl ?_)
    refine wpAny_bind (wpAny_setField_rec e4 (by simp) fun k5 e5 s5 => ?_)
    replace s5 : Heap.SameBut e k4 k5 := s5
    replace e5 : IsEnum k5 e it ((i : Int) + 1) x := e5
    show wpAny _ _ (Builtin.SmallTypes.ownedTupleHandOut (.ref e) (.ref hp.objs.size) >>= _) _ _ ⟨k5, g, d, tk + 1, os⟩
    refine wpAny_bind ?_
    · unfold Builtin.SmallTypes.ownedTupleHandOut
      refine wpAny_bind (wpAny_setField_rec e5 (by simp) fun k6 e6 s6 => ?_)
      replace s6 : Heap.SameBut e k5 k6 := s6
      replace e6 : IsEnumOut k6 e it ((i : Int) + 1) x hp.objs.size := e6
      refine wpAny_setField_rec e6 (by simp) fun k7 e7 s7 => ?_
      replace s7 : Heap.SameBut e k6 k7 := s7
      replace e7 : IsEnumOut k7 e it ((i : Int) + 1) x hp.objs.size := e7
      refine wpAny_bind (wpAny_letGo (wpAny_pure ⟨_, rfl, hQ k7 e7 ?_ ?_ ?_ ?_⟩))
      · exact ((it4.extBut s5.extBut (Ne.symm hne)).extBut s6.extBut (Ne.symm hne)).extBut s7.extBut (Ne.symm hne)
      · exact s7.extBut _ _ (Nat.ne_of_gt hel) (s6.extBut _ _ (Nat.ne_of_gt hel) (s5.extBut _ _ (Nat.ne_of_gt hel) t4))
      · rw [s7.1, s6.1, s5.1, z4]
      · exact fun b o hbe hbi hb => s7.extBut b o hbe (s6.extBut b o hbe (s5.extBut b o hbe (kp4 b o hbe hbi hb)))
theorem py_enumT_item {e it l : Addr} {i : Nat} {items : Array Value} {x old : Value} {Q : Option Value → Shared → Prop}
    (he : IsEnum s.heap e it i old) (hit : s.heap.IsTupleIter it l i) (hl : s.heap.IsTuple l items) (hx : items[i]? = some x) (hne : e ≠ it)
    (hQ : ∀ h', IsEnumOut h' e it ((i : Int) + 1) x s.heap.objs.size → h'.IsTupleIter it l (i + 1) →
      h'.get? s.heap.objs.size = some { cls := .type "tuple", data := .seq #[.int i s.toks, x] } → h'.objs.size = s.heap.objs.size + 1 →
      (∀ b o, b ≠ e → b ≠ it → s.heap.get? b = some o → h'.get? b = some o) → Q (some (.ref s.heap.objs.size)) { s with heap := h', toks := s.toks + 1 }) :
    wpAny (model prog w) A (pyNext (.ref e)) Q E s := by
  have hT : s.TypeIs (.ref e) "enumerate" := ⟨_, he, rfl⟩
  unfold pyNext
  exact wpAny_bind (wpAny_attempt (wpAny_callSpecial?_slot (name := Str.ofString "__next__") hT F.slot_enumerate_next
    (wpAny_call_entry F.slot_enumerate_next hT F.entry_enumerate_next
      (enumT_next he hit hl hx hne fun h' a b c d k => wpAny_pure (hQ h' a b c d k)) (F.args_enumerate_next_1 _))))
theorem py_enumT_end {e it l : Addr} {i : Nat} {items : Array Value} {old : Value} {Q : Option Value → Shared → Prop} (hh : A.handled = none)
    (he : IsEnum s.heap e it i old) (hit : s.heap.IsTupleIter it l i) (hl : s.heap.IsTuple l items) (hx : items[i]? = none)
    (hQ : ∀ h', Heap.ExtBut it s.heap h' → Q none { s with heap := h' }) : wpAny (model prog w) A (pyNext (.ref e)) Q E s := by
  have hT : s.TypeIs (.ref e) "enumerate" := ⟨_, he, rfl⟩
  unfold pyNext
  refine wpAny_bind (wpAny_attempt (wpAny_callSpecial?_slot (name := Str.ofString "__next__") hT F.slot_enumerate_next
    (wpAny_call_entry F.slot_enumerate_next hT F.entry_enumerate_next ?_ (F.args_enumerate_next_1 _))))
  show wpAny _ _ (field (.ref e) 2 >>= _) _ _ _
  refine wpAny_bind (wpAny_field he rfl (x := .ref it) rfl ?_)
  refine wpAny_bind (RZ.nextOf_tuple_end hh hit hl hx fun h' x he' hx' => ?_)
  obtain ⟨o, ho, hc⟩ := hx'
  refine wpAny_bind (wpAny_isInstance (T := "StopIteration") (b := true) ⟨o, ho, hc⟩ isSubtype_stop ?_)
  exact wpAny_pure (hQ _ he')
end
theorem meets_enumT_new (l : Addr) (items : Array Value) :
    Meets (Builtin.«enumerate.__new__» ⟨[.type "enumerate", .ref l], []⟩) (fun _ R s => s.heap.IsTuple l items ∧
      R (.ok (.ret (.ref (s.heap.push { cls := .type "tuple_iterator", data := .fields #[.ref l, .int 0 0] }).objs.size)))
        { s with heap := (s.heap.push { cls := .type "tuple_iterator", data := .fields #[.ref l, .int 0 0] }).push { cls := .type "enumerate", data := .fields #[.none, .bool false, .ref s.heap.objs.size, rawInt 0, .none, .none] } }) :=
  .of_wp fun prog w A R s h => by
    obtain ⟨hp, g, d, tk, os⟩ := s; obtain ⟨hl, h⟩ := h
    have hsub := sub_enumerate
    have hL : Heap.IsTuple (Shared.heap ⟨hp, g, d, tk, os⟩) l items := hl
    wp_walk using wpAny_pyIter_tuple hL
    refine wpAny_stack_any fun st => wpAny_pure ?_
    split
    · rename_i c _ _ _ _ _
      cases (c == Value.type "enumerate")
      · wp_walk using wpAny_pyIter_tuple hL
        exact ⟨_, rfl, h⟩
      · wp_walk using wpAny_pyIter_tuple hL
        exact ⟨_, rfl, h⟩
    · wp_walk using wpAny_pyIter_tuple hL
      exact ⟨_, rfl, h⟩
section
variable {prog : Program} {w : World} {A : Around} {E : Value → Shared → Prop} {s : Shared}
theorem call_enumT {l : Addr} {items : Array Value} {Q : Value → Shared → Prop} (hL : s.heap.IsTuple l items)
    (h : ∀ h', IsEnum h' (s.heap.objs.size + 1) s.heap.objs.size 0 .none → h'.IsTupleIter s.heap.objs.size l 0 → h'.objs.size = s.heap.objs.size + 2 →
      (∀ b o, s.heap.get? b = some o → h'.get? b = some o) → Q (.ref (s.heap.objs.size + 1)) { s with heap := h' }) :
    wpAny (model prog w) A (call (.type "enumerate") [.ref l]) Q E s := by
  refine callType_new F.called_enumerate (by decide) (F.typeCall_enumerate_1 _) (F.newCall_enumerate_1 _) (fun obj => F.args_object_init_2 obj _) F.entry_enumerate_new
    (meets_enumT_new l items) ⟨hL, ?_⟩
  have hz : (s.heap.push { cls := .type "tuple_iterator", data := .fields #[.ref l, .int 0 0] }).objs.size = s.heap.objs.size + 1 := Heap.size_push ..
  show _ ∧ _
  rw [hz]
  have he : IsEnum ((s.heap.push { cls := .type "tuple_iterator", data := .fields #[.ref l, .int 0 0] }).push
      { cls := .type "enumerate", data := .fields #[.none, .bool false, .ref s.heap.objs.size, rawInt 0, .none, .none] }) (s.heap.objs.size + 1) s.heap.objs.size 0 .none := by
    have := Heap.get?_push_size (s.heap.push { cls := .type "tuple_iterator", data := .fields #[.ref l, .int 0 0] })
      (o := { cls := .type "enumerate", data := .fields #[.none, .bool false, .ref s.heap.objs.size, rawInt 0, .none, .none] }) rfl
    rw [hz] at this; exact this
  refine ⟨⟨_, he, rfl⟩, h _ he ⟨_, Heap.get?_push_of_some _ (Heap.get?_push_size _ rfl), rfl, rfl⟩ (by rw [Heap.size_push, hz]) fun b o x => Heap.get?_push_of_some _ (Heap.get?_push_of_some _ x)⟩
end
/-- the tuple at a as it stands at each turn, each item in a new pair -/
def IteT (K : PySem.W.Frag) (a : Addr) : It :=
  ⟨fun i H => ∃ (xs : List V) (x : V), SqT K H a xs ∧ xs[i]? = some x, fun i H v H' => ∃ T x, v = .ref T ∧ H T = none ∧ H' = upd H T (.tup [.int (i : Nat), x]) ∧ ∀ xs, SqT K H a xs → xs[i]? = some x, fun i H => ∃ xs : List V, SqT K H a xs ∧ xs.length ≤ i⟩
theorem turn_enumT {P : Program} {w : World} {K : PySem.W.Frag} {elts : List Expr} {kk : Nat} {tpos : Pos} (a e it : Addr) :
    Turn P w K (.Tuple elts kk tpos) (IteT K a) [e, it] e (fun i h => (∃ old, IsEnum h e it ((i : Nat) : Int) old) ∧ h.IsTupleIter it a i ∧ e ≠ it) where
  mem := by simp
  obj := fun i h st b hb => by
    obtain ⟨⟨old, he⟩, ⟨o, ho, hc, hd⟩, _⟩ := st
    have e' : b = e ∨ b = it := by simpa using hb
    rcases e' with z | z
    · rw [z]; exact ⟨_, he, fun v q => nomatch q⟩
    · rw [z]; exact ⟨o, ho, fun v q => by rw [hd] at q; cases q⟩
  keep := fun i h h' st k => let ⟨⟨old, he⟩, hi, hne⟩ := st; ⟨⟨old, k e (by simp) _ he⟩, hi.at fun o q => k it (by simp) o q, hne⟩
  item := by
    intro X hP hw hK hc i pins s σ H E I hf st hg
    subst hP hw hK
    obtain ⟨⟨old, he⟩, hit, hne⟩ := st
    obtain ⟨xs, x, hq, hx⟩ := hg
    obtain ⟨its, rv, p, hz⟩ := I.tuple hq
    obtain ⟨u, hu, ru⟩ := rv.get hx
    have hel : e < s.heap.objs.size := Heap.lt_size he
    have hil : it < s.heap.objs.size := by obtain ⟨_, q, _⟩ := hit; exact Heap.lt_size q
    refine py_enumT_item he hit (show s.heap.IsTuple a its.toArray from p) (x := u) (by simpa using hu) hne fun h' ho hit' hT hsz hk => ?_
    refine ⟨_, rfl, wpAny_letOwnedTupleGo_enum (s := { s with heap := h', toks := s.toks + 1 }) ho fun h'' he' sb => ?_⟩
    have hT2 : h''.get? s.heap.objs.size = some { cls := .type "tuple", data := .seq #[.int i s.toks, u] } := (sb.2 _ (Nat.ne_of_gt hel)).trans hT
    have new : ObjOk X.prog X.w (upd H s.heap.objs.size (.tup [.int (i : Nat), x])) h'' s.heap.objs.size (.tup [.int (i : Nat), x]) :=
      ⟨by show 2 ≤ sizeLine; decide, [.int i s.toks, u], .cons ⟨_, rfl⟩ (.cons ru .nil), ⟨_, hT2, rfl, _, rfl⟩⟩
    have I1 : Inv X pins σ (upd H s.heap.objs.size (.tup [.int (i : Nat), x])) { s with heap := h'', toks := s.toks + 1 } :=
      I.turnedNew (ch := [e, it]) (fun b ob hb q => (sb.2 b (fun z => hb (by simp [z]))).trans (hk b ob (fun z => hb (by simp [z])) (fun z => hb (by simp [z])) q)) hf (Nat.le_refl _) new
    refine ⟨.ref s.heap.objs.size, _, I1, rfl, ⟨_, x, rfl, I.hok.fresh (Nat.le_refl _), rfl, fun ys hy => by rw [I.tuple_inj hy hq]; exact hx⟩, ⟨⟨u, ?_⟩, hit'.at fun o q => (sb.2 it (Ne.symm hne)).trans q, hne⟩, fun b hb => ?_⟩
    · have e1 : ((i + 1 : Nat) : Int) = (i : Int) + 1 := by omega
      rw [e1]; exact he'
    · have hb' : b < s.heap.objs.size := by
        have e' : b = e ∨ b = it := by simpa using hb
        rcases e' with z | z
        · rw [z]; exact hel
        · rw [z]; exact hil
      rw [upd_ne (Nat.ne_of_lt hb')]
      exact (hf b hb).1
  done := by
    intro X hP hw hK hc i pins s σ H E I hf st hg
    subst hP hw hK
    obtain ⟨⟨old, he⟩, hit, hne⟩ := st
    obtain ⟨xs, hq, hx⟩ := hg
    obtain ⟨its, rv, p, hz⟩ := I.tuple hq
    obtain ⟨f0, f1, f2, f3, f4, f5⟩ := hf it (by simp)
    have hl := rv.length
    exact py_enumT_end (I.ok.hd hc) he hit (show s.heap.IsTuple a its.toArray from p) (by simp; omega) fun h' eb => ⟨rfl, I.turned (t' := s.toks) (fun b o hb q => eb b o hb q) f0 f1 f3 f4 f5⟩
  self := fun A i s Q E st h => let ⟨⟨_, he⟩, _⟩ := st; wpAny_pyIter_enum he h
def iEnumT (K : PySem.W.Frag) (ta : TA) : TI := fun σ H R => ta σ H fun vs H1 => ∃ a xs, vs = [.ref a] ∧ SqT K H1 a xs ∧ R (IteT K a) H1
theorem pi_enumT {X : Cx} {e : Expr} {ta : TA} {p pos tpos : Pos} {elts : List Expr} {kk : Nat} (hg : Gl X "enumerate") (hm : X.mg "enumerate" = none) (ha : PA X [e] ta) (hs : starEach [e] X.env = [(false, eval e X.env)] := by rfl) :
    PI X (.Tuple elts kk tpos) (.Call (.Name "enumerate" p) [e] [] pos) (iEnumT X.K ta) := by
  refine ⟨fun pins s σ H R I h => ?_⟩
  refine Call_ (ld_blt I hg hm boot_enumerate (PyProof.Rows.callWith_type1 (thn (ha.run pos pins s σ H _ I h) fun us s1 ⟨vs, H1, I1, r1, q1⟩ => ?_) hs rfl))
  obtain ⟨a, xs, ex, hq, q⟩ := q1
  subst ex
  cases r1 with
  | cons r rr =>
    cases rr
    cases r
    obtain ⟨its, rv, p', hz⟩ := I1.tuple hq
    refine call_enumT (show s1.heap.IsTuple a its.toArray from p') fun h' he hit hsz hk => wpAny_pyIter_enum he ?_
    have I2 : Inv X pins σ H1 { s1 with heap := h' } := I1.kept (t' := s1.toks) hk
    refine ⟨s1.heap.objs.size + 1, [s1.heap.objs.size + 1, s1.heap.objs.size], _, _, H1, rfl, I2, turn_enumT a (s1.heap.objs.size + 1) s1.heap.objs.size, ⟨⟨.none, he⟩, hit, Nat.succ_ne_self _⟩, fun b hb => ?_, q⟩
    have e' : b = s1.heap.objs.size + 1 ∨ b = s1.heap.objs.size := by simpa using hb
    have hle : s1.heap.objs.size ≤ b := by
      rcases e' with z | z
      · rw [z]; exact Nat.le_add_right _ _
      · rw [z]; exact Nat.le_refl _
    exact I1.fpOk hle (I1.hok.fresh hle)
end Z

namespace Z
open PySem PySem.Spec PyProof.Rows L2 NdefX LamX
def iZip2 (K : PySem.W.Frag) (ta : TA) : TI := fun σ H R => ta σ H fun vs H1 => ∃ a b xs ys, vs = [.ref a, .ref b] ∧ SqT K H1 a xs ∧ ((SqT K H1 b ys ∧ R (RZ.ItzT K a b) H1) ∨ (SqL K H1 b ys ∧ R (Itzm K a b) H1))
theorem pi_zip2 {X : Cx} {e e2 : Expr} {ta : TA} {p pos tpos : Pos} {elts : List Expr} {kk : Nat} (hg : Gl X "zip") (hm : X.mg "zip" = none) (ha : PA X [e, e2] ta)
    (hs : starEach [e, e2] X.env = (false, eval e X.env) :: starEach [e2] X.env := by rfl) (hpl : (backTo pos (starEach [e2] X.env)).any (·.1) = false := by rfl) :
    PI X (.Tuple elts kk tpos) (.Call (.Name "zip" p) [e, e2] [] pos) (iZip2 X.K ta) := by
  refine ⟨fun pins s σ H R I h => ?_⟩
  refine Call_ (ld_blt I hg hm PyProof.Rows.boot_zip (PyProof.Rows.callWith_type1 (thn (ha.run pos pins s σ H _ I h) fun us s1 ⟨vs, H1, I1, r1, q1⟩ => ?_) hs hpl))
  obtain ⟨a, b, xs, ys, ex, hqx, q1⟩ := q1
  subst ex
  cases r1 with
  | cons r rr =>
    cases rr with
    | cons r' rr =>
      cases rr
      cases r
      cases r'
      have fresh5 : ∀ c, c ∈ [s1.heap.objs.size + 4, s1.heap.objs.size + 2, s1.heap.objs.size + 3, s1.heap.objs.size, s1.heap.objs.size + 1] → FpOk X pins H1 c := fun c hcm => by
        have e' : c = s1.heap.objs.size + 4 ∨ c = s1.heap.objs.size + 2 ∨ c = s1.heap.objs.size + 3 ∨ c = s1.heap.objs.size ∨ c = s1.heap.objs.size + 1 := by simpa using hcm
        have hle : s1.heap.objs.size ≤ c := by
          rcases e' with z | z | z | z | z
          · rw [z]; exact Nat.le_add_right _ _
          · rw [z]; exact Nat.le_add_right _ _
          · rw [z]; exact Nat.le_add_right _ _
          · rw [z]; exact Nat.le_refl _
          · rw [z]; exact Nat.le_add_right _ _
        exact I1.fpOk hle (I1.hok.fresh hle)
      obtain ⟨its, rv, p1, _⟩ := I1.tuple hqx
      obtain ⟨o1, ho1, _⟩ := id p1
      rcases q1 with ⟨hqy, q⟩ | ⟨hqy, q⟩
      · obtain ⟨its2, rv2, p2, _⟩ := I1.tuple hqy
        obtain ⟨o2, ho2, _⟩ := id p2
        refine RZ.call_zipT (show s1.heap.IsTuple a its.toArray from p1) (show s1.heap.IsTuple b its2.toArray from p2) fun h' hz hTI hTO h1 h2 hsz hk => wpAny_pyIter_zip hz ?_
        have I2 : Inv X pins σ H1 { s1 with heap := h' } := I1.kept (t' := s1.toks) hk
        exact ⟨s1.heap.objs.size + 4, [s1.heap.objs.size + 4, s1.heap.objs.size + 2, s1.heap.objs.size + 3, s1.heap.objs.size, s1.heap.objs.size + 1], _, _, H1, rfl, I2, RZ.turn_zipT (PySem.W.ktu_apart s1.heap.objs.size a b (Heap.lt_size ho1) (Heap.lt_size ho2)), ⟨hz, hTI, ⟨_, _, hTO⟩, h1, h2⟩, fresh5, q⟩
      · obtain ⟨its2, rv2, p2, _⟩ := I1.list hqy
        refine call_zm (show s1.heap.IsTuple a its.toArray from p1) p2.isList fun h' hz hTI hTO h1 h2 hsz hk => wpAny_pyIter_zip hz ?_
        have I2 : Inv X pins σ H1 { s1 with heap := h' } := I1.kept (t' := s1.toks) hk
        exact ⟨s1.heap.objs.size + 4, [s1.heap.objs.size + 4, s1.heap.objs.size + 2, s1.heap.objs.size + 3, s1.heap.objs.size, s1.heap.objs.size + 1], _, _, H1, rfl, I2, turn_zm (Heap.lt_size ho1) p2.lt, ⟨hz, hTI, ⟨_, _, hTO⟩, h1, h2⟩, fresh5, q⟩
def iZip3 (K : PySem.W.Frag) (ta : TA) : TI := fun σ H R => ta σ H fun vs H1 => ∃ a b c xs ys zs, vs = [.ref a, .ref b, .ref c] ∧ SqT K H1 a xs ∧ SqT K H1 b ys ∧ SqT K H1 c zs ∧ R (Itzt K a b c) H1
theorem fresh6 {X : Cx} {pins : List (Addr × Obj)} {σ : L2.St} {H : Hp} {s : Shared} (I : Inv X pins σ H s) : ∀ c, c ∈ [s.heap.objs.size + 5, s.heap.objs.size + 3, s.heap.objs.size + 4, s.heap.objs.size, s.heap.objs.size + 1, s.heap.objs.size + 2] → FpOk X pins H c := fun c hcm => by
  have e' : c = s.heap.objs.size + 5 ∨ c = s.heap.objs.size + 3 ∨ c = s.heap.objs.size + 4 ∨ c = s.heap.objs.size ∨ c = s.heap.objs.size + 1 ∨ c = s.heap.objs.size + 2 := by simpa using hcm
  have hle : s.heap.objs.size ≤ c := by
    rcases e' with z | z | z | z | z | z
    · rw [z]; exact Nat.le_add_right _ _
    · rw [z]; exact Nat.le_add_right _ _
    · rw [z]; exact Nat.le_add_right _ _
    · rw [z]; exact Nat.le_refl _
    · rw [z]; exact Nat.le_add_right _ _
    · rw [z]; exact Nat.le_add_right _ _
  exact I.fpOk hle (I.hok.fresh hle)
theorem pi_zip3 {X : Cx} {e e2 e3 : Expr} {ta : TA} {p pos tpos : Pos} {elts : List Expr} {kk : Nat} (hg : Gl X "zip") (hm : X.mg "zip" = none) (ha : PA X [e, e2, e3] ta)
    (hs : starEach [e, e2, e3] X.env = (false, eval e X.env) :: starEach [e2, e3] X.env := by rfl) (hpl : (backTo pos (starEach [e2, e3] X.env)).any (·.1) = false := by rfl) :
    PI X (.Tuple elts kk tpos) (.Call (.Name "zip" p) [e, e2, e3] [] pos) (iZip3 X.K ta) := by
  refine ⟨fun pins s σ H R I h => ?_⟩
  refine Call_ (ld_blt I hg hm PyProof.Rows.boot_zip (PyProof.Rows.callWith_type1 (thn (ha.run pos pins s σ H _ I h) fun us s1 ⟨vs, H1, I1, r1, q1⟩ => ?_) hs hpl))
  obtain ⟨a, b, c, xs, ys, zs, ex, hqx, hqy, hqz, q⟩ := q1
  subst ex
  cases r1 with
  | cons r rr =>
    cases rr with
    | cons r' rr =>
      cases rr with
      | cons r'' rr =>
        cases rr
        cases r
        cases r'
        cases r''
        obtain ⟨its, rv, p1, _⟩ := I1.tuple hqx
        obtain ⟨its2, rv2, p2, _⟩ := I1.tuple hqy
        obtain ⟨its3, rv3, p3, _⟩ := I1.tuple hqz
        obtain ⟨o1, ho1, _⟩ := id p1
        obtain ⟨o2, ho2, _⟩ := id p2
        obtain ⟨o3, ho3, _⟩ := id p3
        refine call_zt (show s1.heap.IsTuple a its.toArray from p1) (show s1.heap.IsTuple b its2.toArray from p2) (show s1.heap.IsTuple c its3.toArray from p3) fun h' hz hTI hTO h1 h2 h3 hsz hk => wpAny_pyIter_zip hz ?_
        have I2 : Inv X pins σ H1 { s1 with heap := h' } := I1.kept (t' := s1.toks) hk
        exact ⟨s1.heap.objs.size + 5, [s1.heap.objs.size + 5, s1.heap.objs.size + 3, s1.heap.objs.size + 4, s1.heap.objs.size, s1.heap.objs.size + 1, s1.heap.objs.size + 2], _, _, H1, rfl, I2, turn_zt (Heap.lt_size ho1) (Heap.lt_size ho2) (Heap.lt_size ho3), ⟨hz, hTI, ⟨_, _, _, hTO⟩, h1, h2, h3⟩, fresh6 I1, q⟩
section
variable {g : Gm} {r : Rl g} {H0 H H1 H' : Hp} {O0 O : Addr → Prop} {σ : L2.St} {ρ : Rho} {ω : Om}
theorem srcT {d : D} {v : V} {ds : List D} (i : Is g O H1 d v) (e : ditemsT d = some ds) : ∃ a vs, v = .ref a ∧ (∀ H, Kp O H1 H → SqT g.K H a vs) ∧ IsL g O H1 ds vs := by
  cases d with
  | tup xs =>
    cases e
    obtain ⟨a, vs, rfl, ha, _, iv⟩ := i
    exact ⟨a, vs, rfl, fun H k => SqT.of (k a _ ha (fun _ z => by cases z) (.inr (.inl ⟨_, rfl⟩))), iv⟩
  | ptup xs =>
    cases e
    obtain ⟨a, o, vs, rfl, ha, _, _, iv⟩ := i
    exact ⟨a, vs, rfl, fun H k => .inl (.inr ⟨o, k a _ ha (fun _ z => by cases z) (.inr (.inr ⟨_, _, rfl⟩))⟩), iv⟩
  | _ => cases e
theorem srcTL {d : D} {v : V} {ds : List D} (i : Is g O H1 d v) (e : ditems d = some ds) : ∃ a vs, v = .ref a ∧ ((∀ H, Kp O H1 H → SqT g.K H a vs) ∨ (∀ H, Kp O H1 H → SqL g.K H a vs)) ∧ IsL g O H1 ds vs := by
  cases d with
  | lst xs =>
    cases e
    obtain ⟨a, vs, rfl, n, ha, _, iv⟩ := i
    exact ⟨a, vs, rfl, .inr fun H k => SqL.of (k a _ ha (fun _ z => by cases z) (.inl n)), iv⟩
  | tup xs => obtain ⟨a, vs, h1, h2, h3⟩ := srcT i (show ditemsT (.tup xs) = some ds from e); exact ⟨a, vs, h1, .inl h2, h3⟩
  | ptup xs => obtain ⟨a, vs, h1, h2, h3⟩ := srcT i (show ditemsT (.ptup xs) = some ds from e); exact ⟨a, vs, h1, .inl h2, h3⟩
  | _ => cases e
theorem zip2_len : ∀ {as bs : List D}, (zip2 as bs).length = min as.length bs.length
  | [], _ => by simp [zip2]
  | _ :: _, [] => by simp [zip2]
  | a :: as, b :: bs => by
    show (zip2 as bs).length + 1 = _
    rw [zip2_len, List.length_cons, List.length_cons]
    omega
theorem zip2_get : ∀ {as bs : List D} {i : Nat} {d : D}, (zip2 as bs)[i]? = some d → ∃ a b, as[i]? = some a ∧ bs[i]? = some b ∧ d = .tup [a, b]
  | [], _, i, d, h => by simp [zip2] at h
  | _ :: _, [], i, d, h => by simp [zip2] at h
  | a :: as, b :: bs, 0, d, h => by
    have h : some (D.tup [a, b]) = some d := h
    cases h
    exact ⟨a, b, rfl, rfl, rfl⟩
  | a :: as, b :: bs, i + 1, d, h => by
    obtain ⟨x, y, h1, h2, h3⟩ := zip2_get (as := as) (bs := bs) (i := i) h
    exact ⟨x, y, by simpa using h1, by simpa using h2, h3⟩
theorem zip3_len : ∀ {as bs cs : List D}, (zip3 as bs cs).length = min as.length (min bs.length cs.length)
  | [], _, _ => by simp [zip3]
  | _ :: _, [], _ => by simp [zip3]
  | _ :: _, _ :: _, [] => by simp [zip3]
  | a :: as, b :: bs, c :: cs => by
    show (zip3 as bs cs).length + 1 = _
    rw [zip3_len, List.length_cons, List.length_cons, List.length_cons]
    omega
theorem zip3_get : ∀ {as bs cs : List D} {i : Nat} {d : D}, (zip3 as bs cs)[i]? = some d → ∃ a b c, as[i]? = some a ∧ bs[i]? = some b ∧ cs[i]? = some c ∧ d = .tup [a, b, c]
  | [], _, _, i, d, h => by simp [zip3] at h
  | _ :: _, [], _, i, d, h => by simp [zip3] at h
  | _ :: _, _ :: _, [], i, d, h => by simp [zip3] at h
  | a :: as, b :: bs, c :: cs, 0, d, h => by
    have h : some (D.tup [a, b, c]) = some d := h
    cases h
    exact ⟨a, b, c, rfl, rfl, rfl, rfl⟩
  | a :: as, b :: bs, c :: cs, i + 1, d, h => by
    obtain ⟨x, y, z, h1, h2, h3, h4⟩ := zip3_get (as := as) (bs := bs) (cs := cs) (i := i) h
    exact ⟨x, y, z, by simpa using h1, by simpa using h2, by simpa using h3, h4⟩
theorem getV {ds : List D} {vs : List V} (i : IsL g O H ds vs) {j : Nat} (h : j < ds.length) : ∃ v, vs[j]? = some v := by
  obtain ⟨v, h1, _⟩ := i.get (show ds[j]? = some ds[j] by simp [h])
  exact ⟨v, h1⟩
theorem isW {O' : Addr → Prop} {Ha Hb : Hp} {d : D} {v : V} (i : Is g O H1 d v) (k : Kp O H1 Ha) (r0 : R0 g Ha Hb) (o1 : ∀ b, O b → O' b) (o2 : ∀ b, O' b → O b ∨ H1 b = none) : Is g O' Hb d v :=
  Is.kp (Kp.trans (k.anti o1) fun b o e n _ => r0.keep b o e n) _ _ (Is.hide o2 _ _ i)
theorem newPair {O' : Addr → Prop} {Ha : Hp} {T : Addr} {ds : List D} {vs : List V} (hT : Ha T = none) (hl : vs.length ≤ sizeLine) (i : IsL g O' (upd Ha T (.tup vs)) ds vs) : R0 g Ha (upd Ha T (.tup vs)) ∧ Is g O' (upd Ha T (.tup vs)) (.tup ds) (.ref T) :=
  ⟨R0.new hT fun _ z => (by cases z), T, vs, rfl, upd_same, hl, i⟩
theorem wk_zipT {a b : Addr} {xs ys : List V} {as bs : List D} (ha : ∀ H, Kp O H1 H → SqT g.K H a xs) (hb : ∀ H, Kp O H1 H → SqT g.K H b ys) (ia : IsL g O H1 as xs) (ib : IsL g O H1 bs ys) : WkO g O H1 (zip2 as bs) (RZ.ItzT g.K a b) := by
  have la := ia.length
  have lb := ib.length
  refine ⟨fun i H hi k => ?_, fun H k => ?_, fun i H x H' hi k y => ?_⟩
  · rw [zip2_len] at hi
    obtain ⟨x, hx⟩ := getV ia (j := i) (by omega)
    obtain ⟨y, hy⟩ := getV ib (j := i) (by omega)
    exact ⟨xs, ys, x, y, ha H k, hb H k, hx, hy⟩
  · refine ⟨xs, ys, ha H k, hb H k, ?_⟩
    rw [zip2_len]
    omega
  · obtain ⟨T, x', y', rfl, hT, rfl, f1, f2⟩ := y
    obtain ⟨d, hd⟩ : ∃ d, (zip2 as bs)[i]? = some d := ⟨_, List.getElem?_eq_getElem hi⟩
    obtain ⟨dx, dy, e1, e2, e3⟩ := zip2_get hd
    obtain ⟨u, h1, h2⟩ := ia.get e1
    obtain ⟨w, h3, h4⟩ := ib.get e2
    rw [f1 xs (ha H k)] at h1
    rw [f2 ys (hb H k)] at h3
    cases h1
    cases h3
    have r0 : R0 g H (upd H T (.tup [x', y'])) := R0.new hT fun _ z => (by cases z)
    refine ⟨r0, d, hd, fun O' o1 o2 => ?_⟩
    rw [e3]
    exact (newPair (g := g) (vs := [x', y']) (ds := [dx, dy]) hT (by show 2 ≤ sizeLine; decide) ⟨_, _, rfl, isW h2 k r0 o1 o2, _, _, rfl, isW h4 k r0 o1 o2, rfl⟩).2
theorem wk_zipm {a b : Addr} {xs ys : List V} {as bs : List D} (ha : ∀ H, Kp O H1 H → SqT g.K H a xs) (hb : ∀ H, Kp O H1 H → SqL g.K H b ys) (ia : IsL g O H1 as xs) (ib : IsL g O H1 bs ys) : WkO g O H1 (zip2 as bs) (Itzm g.K a b) := by
  have la := ia.length
  have lb := ib.length
  refine ⟨fun i H hi k => ?_, fun H k => ?_, fun i H x H' hi k y => ?_⟩
  · rw [zip2_len] at hi
    obtain ⟨x, hx⟩ := getV ia (j := i) (by omega)
    obtain ⟨y, hy⟩ := getV ib (j := i) (by omega)
    exact ⟨xs, ys, x, y, ha H k, hb H k, hx, hy⟩
  · refine ⟨xs, ys, ha H k, hb H k, ?_⟩
    rw [zip2_len]
    omega
  · obtain ⟨T, x', y', rfl, hT, rfl, f1, f2⟩ := y
    obtain ⟨d, hd⟩ : ∃ d, (zip2 as bs)[i]? = some d := ⟨_, List.getElem?_eq_getElem hi⟩
    obtain ⟨dx, dy, e1, e2, e3⟩ := zip2_get hd
    obtain ⟨u, h1, h2⟩ := ia.get e1
    obtain ⟨w, h3, h4⟩ := ib.get e2
    rw [f1 xs (ha H k)] at h1
    rw [f2 ys (hb H k)] at h3
    cases h1
    cases h3
    have r0 : R0 g H (upd H T (.tup [x', y'])) := R0.new hT fun _ z => (by cases z)
    refine ⟨r0, d, hd, fun O' o1 o2 => ?_⟩
    rw [e3]
    exact (newPair (g := g) (vs := [x', y']) (ds := [dx, dy]) hT (by show 2 ≤ sizeLine; decide) ⟨_, _, rfl, isW h2 k r0 o1 o2, _, _, rfl, isW h4 k r0 o1 o2, rfl⟩).2
theorem wk_zip3 {a b c : Addr} {xs ys zs : List V} {as bs cs : List D} (ha : ∀ H, Kp O H1 H → SqT g.K H a xs) (hb : ∀ H, Kp O H1 H → SqT g.K H b ys) (hc : ∀ H, Kp O H1 H → SqT g.K H c zs) (ia : IsL g O H1 as xs) (ib : IsL g O H1 bs ys) (ic : IsL g O H1 cs zs) : WkO g O H1 (zip3 as bs cs) (Itzt g.K a b c) := by
  have la := ia.length
  have lb := ib.length
  have lc := ic.length
  refine ⟨fun i H hi k => ?_, fun H k => ?_, fun i H x H' hi k y => ?_⟩
  · rw [zip3_len] at hi
    obtain ⟨x, hx⟩ := getV ia (j := i) (by omega)
    obtain ⟨y, hy⟩ := getV ib (j := i) (by omega)
    obtain ⟨z, hz⟩ := getV ic (j := i) (by omega)
    exact ⟨xs, ys, zs, x, y, z, ha H k, hb H k, hc H k, hx, hy, hz⟩
  · refine ⟨xs, ys, zs, ha H k, hb H k, hc H k, ?_⟩
    rw [zip3_len]
    omega
  · obtain ⟨T, x', y', z', rfl, hT, rfl, f1, f2, f3⟩ := y
    obtain ⟨d, hd⟩ : ∃ d, (zip3 as bs cs)[i]? = some d := ⟨_, List.getElem?_eq_getElem hi⟩
    obtain ⟨dx, dy, dz, e1, e2, e4, e3⟩ := zip3_get hd
    obtain ⟨u, h1, h2⟩ := ia.get e1
    obtain ⟨w, h3, h4⟩ := ib.get e2
    obtain ⟨w2, h5, h6⟩ := ic.get e4
    rw [f1 xs (ha H k)] at h1
    rw [f2 ys (hb H k)] at h3
    rw [f3 zs (hc H k)] at h5
    cases h1
    cases h3
    cases h5
    have r0 : R0 g H (upd H T (.tup [x', y', z'])) := R0.new hT fun _ z => (by cases z)
    refine ⟨r0, d, hd, fun O' o1 o2 => ?_⟩
    rw [e3]
    exact (newPair (g := g) (vs := [x', y', z']) (ds := [dx, dy, dz]) hT (by show 3 ≤ sizeLine; decide) ⟨_, _, rfl, isW h2 k r0 o1 o2, _, _, rfl, isW h4 k r0 o1 o2, _, _, rfl, isW h6 k r0 o1 o2, rfl⟩).2
theorem o3_some {α β γ δ : Type} {f : α → β → γ → Option δ} {m : Option α} {n : Option β} {k : Option γ} {c : δ} (h : o3 f m n k = some c) : ∃ a b d, m = some a ∧ n = some b ∧ k = some d ∧ f a b d = some c := by
  obtain ⟨a, h1, h⟩ := ob_some h
  obtain ⟨b, h2, h⟩ := ob_some h
  obtain ⟨d, h3, h⟩ := ob_some h
  exact ⟨a, b, d, h1, h2, h3, h⟩
variable {te te2 te3 : TE} {m m2 m3 : Option D}
theorem it_zip2 (h : EvO g r te ρ ω m) (h2 : EvO g r te2 ρ ω m2) : ItO g r (iZip2 g.K (tCons te (tCons te2 tNil))) ρ ω (o2 dzip2 m m2) := fun ds e O σ H E Rk q => by
  obtain ⟨d, d', e1, e2, e3⟩ := o2_some e
  obtain ⟨as, bs, f1, f2, f3⟩ := o2_some e3
  cases f3
  refine h d e1 O σ H E _ fun v H1 k1 i1 => ?_
  refine h2 d' e2 O σ H1 (E.go k1) _ fun u H2 k2 i2 => ?_
  obtain ⟨a, xs, rfl, ha, ia⟩ := srcT (Is.kp (k2.kp E.sub) _ _ i1) f1
  obtain ⟨b, ys, rfl, hb, ib⟩ := srcTL i2 f2
  refine ⟨a, b, xs, ys, rfl, ha _ Kp.refl, ?_⟩
  rcases hb with hb | hb
  · exact .inl ⟨hb _ Kp.refl, q _ H2 (k1.trans k2) (wk_zipT ha hb ia ib)⟩
  · exact .inr ⟨hb _ Kp.refl, q _ H2 (k1.trans k2) (wk_zipm ha hb ia ib)⟩
theorem it_zip3 (h : EvO g r te ρ ω m) (h2 : EvO g r te2 ρ ω m2) (h3 : EvO g r te3 ρ ω m3) : ItO g r (iZip3 g.K (tCons te (tCons te2 (tCons te3 tNil)))) ρ ω (o3 dzip3 m m2 m3) := fun ds e O σ H E Rk q => by
  obtain ⟨d, d', d'', e1, e2, e3, e4⟩ := o3_some e
  obtain ⟨as, bs, cs, f1, f2, f3, f4⟩ := o3_some e4
  cases f4
  refine h d e1 O σ H E _ fun v H1 k1 i1 => ?_
  refine h2 d' e2 O σ H1 (E.go k1) _ fun u H2 k2 i2 => ?_
  refine h3 d'' e3 O σ H2 ((E.go k1).go k2) _ fun w H3 k3 i3 => ?_
  obtain ⟨a, xs, rfl, ha, ia⟩ := srcT (Is.kp (k3.kp E.sub) _ _ (Is.kp (k2.kp E.sub) _ _ i1)) f1
  obtain ⟨b, ys, rfl, hb, ib⟩ := srcT (Is.kp (k3.kp E.sub) _ _ i2) f2
  obtain ⟨c, zs, rfl, hc, ic⟩ := srcT i3 f3
  exact ⟨a, b, c, xs, ys, zs, rfl, ha _ Kp.refl, hb _ Kp.refl, hc _ Kp.refl, q _ H3 ((k1.trans k2).trans k3) (wk_zip3 ha hb hc ia ib ic)⟩
theorem enumZ_len : ∀ {i : Int} {ds : List D}, (enumZ i ds).length = ds.length
  | _, [] => rfl
  | i, _ :: r => by show (enumZ (i + 1) r).length + 1 = _; rw [enumZ_len]; rfl
theorem enumZ_get : ∀ {ds : List D} {i : Int} {j : Nat} {d : D}, ds[j]? = some d → (enumZ i ds)[j]? = some (.tup [.int (i + j), d])
  | [], _, _, _, h => by simp at h
  | x :: r, i, 0, d, h => by
    simp at h
    subst h
    show some (D.tup [.int i, x]) = _
    simp
  | x :: r, i, j + 1, d, h => by
    have q := enumZ_get (ds := r) (i := i + 1) (j := j) (d := d) (by simpa using h)
    show (enumZ (i + 1) r)[j]? = _
    rw [q]
    congr 4
    omega
theorem wk_enum {a : Addr} {xs : List V} {as : List D} (ha : ∀ H, Kp O H1 H → SqT g.K H a xs) (ia : IsL g O H1 as xs) : WkO g O H1 (enumZ 0 as) (IteT g.K a) := by
  have la := ia.length
  refine ⟨fun i H hi k => ?_, fun H k => ?_, fun i H x H' hi k y => ?_⟩
  · rw [enumZ_len] at hi
    obtain ⟨x, hx⟩ := getV ia (j := i) hi
    exact ⟨xs, x, ha H k, hx⟩
  · refine ⟨xs, ha H k, ?_⟩
    rw [enumZ_len]
    omega
  · obtain ⟨T, x', rfl, hT, rfl, f1⟩ := y
    rw [enumZ_len] at hi
    have hd : as[i]? = some as[i] := by simp [hi]
    obtain ⟨u, h1, h2⟩ := ia.get hd
    rw [f1 xs (ha H k)] at h1
    cases h1
    have r0 : R0 g H (upd H T (.tup [.int (i : Nat), x'])) := R0.new hT fun _ z => (by cases z)
    refine ⟨r0, _, enumZ_get hd, fun O' o1 o2 => ?_⟩
    exact (newPair (g := g) (vs := [.int (i : Nat), x']) (ds := [.int (0 + (i : Nat)), as[i]]) hT (by show 2 ≤ sizeLine; decide) ⟨_, _, rfl, by rw [Int.zero_add]; exact (rfl : V.int (i : Nat) = V.int (i : Nat)), _, _, rfl, isW h2 k r0 o1 o2, rfl⟩).2
theorem it_enum (h : EvO g r te ρ ω m) : ItO g r (iEnumT g.K (tCons te tNil)) ρ ω (ob m denum) := fun ds e O σ H E Rk q => by
  obtain ⟨d, e1, e2⟩ := ob_some e
  cases d with
  | tup xs =>
    cases e2
    refine h _ e1 O σ H E _ fun v H1 k1 i1 => ?_
    obtain ⟨a, vs, rfl, ha, ia⟩ := srcT i1 rfl
    exact ⟨a, vs, rfl, ha _ Kp.refl, q _ H1 k1 (wk_enum ha ia)⟩
  | _ => cases e2
end
end Z

namespace Z
open PySem PySem.Spec PyProof.Rows L2
section
variable {prog : Program} {w : World} {A : Around} {R : Result → Shared → Prop} {I : Addr} {fp wr : List Addr} {G : Array GenState → Array GenState → Prop} {n : Nat} {P : Nat → Value → Prop} {St : Nat → Shared → Prop}
theorem any_take {xs : List Str} {i : Nat} (hi : i < xs.length) (k' : Str) : ((xs.take i).any (· == k') || decide (k' = xs.getD i Str.empty)) = (xs.take (i + 1)).any (· == k') := by
  have e : xs.take (i + 1) = xs.take i ++ [xs[i]] := by rw [List.take_succ_eq_append_getElem hi]
  rw [e, List.any_append]
  congr 1
  have eg : xs.getD i Str.empty = xs[i] := by rw [List.getD_eq_getElem?_getD, List.getElem?_eq_getElem hi]; rfl
  rw [eg]
  show _ = (xs[i] == k' || false)
  rw [Bool.or_false]
  by_cases h : k' = xs[i]
  · rw [decide_eq_true h, h]; exact (beq_self_eq_true _).symm
  · rw [decide_eq_false h]; exact (beq_eq_false_iff_ne.mpr fun z => h z.symm).symm
theorem any_take_new {xs : List Str} {i : Nat} (hi : i < xs.length) (nd : xs.Nodup) : (xs.take i).any (· == xs.getD i Str.empty) = false := by
  have eg : xs.getD i Str.empty = xs[i] := by rw [List.getD_eq_getElem?_getD, List.getElem?_eq_getElem hi]; rfl
  rw [eg, List.any_eq_false]
  intro y hy h
  have e := eq_of_beq h
  obtain ⟨j, hj, hy'⟩ := List.mem_iff_getElem.mp hy
  rw [List.length_take] at hj
  rw [List.getElem_take] at hy'
  have := (List.getElem_inj nd).mp (hy'.trans e)
  omega
theorem loopStrN (W : WalksS prog w A.in1 I fp wr G n P St) (S : Addr) (hSf : S ∉ fp) (xs : List Str) (hsz : xs.length = n) (nd : xs.Nodup) (hn1 : n ≤ 60)
    (hval : ∀ i v, P i v → ∃ t, v = .str (xs.getD i Str.empty) t) :
    ∀ (k i : Nat) (s : Shared), n - i = k → i ≤ n → St i s →
      s.heap.SetOf (PySem.strKind prog w) S (fun k' => (xs.take i).any (· == k')) i →
      (∀ s', Moved (S :: wr) G s s' → s'.heap.SetOf (PySem.strKind prog w) S (fun k' => (xs.take n).any (· == k')) n → R (.ok (.ret .none)) s') →
      codeAny (model prog w) A (.builtin "set.update.loop" ⟨[.ref S, .ref I], []⟩) R s := by
  have hSw : S ∉ wr := fun h => hSf (W.sub _ h)
  have hsub : ∀ b ∈ wr, b ∈ S :: wr := fun b hb => List.mem_cons_of_mem _ hb
  intro k
  induction k with
  | zero =>
    intro i s hk hi hst hS hR
    have hin : i = n := by omega
    subst hin
    refine codeAny_builtin PyProof.Rows.F.entry_set_update_loop ?_
    rw [Around.under_plainId PyProof.Rows.F.plain_set_update_loop _]
    show wpAny _ A.in1 (pyNext (.ref I) >>= _) _ _ s
    refine wpAny_bind (W.done s _ _ hst fun s' hm => ?_)
    show wpAny _ A.in1 (ret Value.none) _ _ s'
    exact wpAny_pure (hR s' (hm.mono hsub) (by
      obtain ⟨o, es, ep, t, ho, rest⟩ := hS
      exact ⟨o, es, ep, t, hm.heap S _ hSw ho, rest⟩))
  | succ k ih =>
    intro i s hk hi hst hS hR
    have hlt : i < n := by omega
    refine codeAny_builtin PyProof.Rows.F.entry_set_update_loop ?_
    rw [Around.under_plainId PyProof.Rows.F.plain_set_update_loop _]
    show wpAny _ A.in1 (pyNext (.ref I) >>= _) _ _ s
    refine wpAny_bind (W.item i s _ _ hlt hst fun v s' hP hst' hm => ?_)
    obtain ⟨t, rfl⟩ := hval i v hP
    have hS' : s'.heap.SetOf (PySem.strKind prog w) S (fun k' => (xs.take i).any (· == k')) i := by
      obtain ⟨o, es, ep, tb, ho, rest⟩ := hS
      exact ⟨o, es, ep, tb, hm.heap S _ hSw ho, rest⟩
    show wpAny _ A.in1 (holding [Value.str (xs.getD i Str.empty) t] (setAdd S (.str (xs.getD i Str.empty) t)) >>= _) _ _ s'
    refine wpAny_bind (wpAny_holding ?_)
    unfold setAdd
    refine wpAny_holding ?_
    refine wpAny_bind ((PySem.strKind prog w).pyHash (k := xs.getD i Str.empty) (strKind_is _ _ _ _) ?_)
    refine wpAny_setAddHashed_of (knd := PySem.strKind prog w) (s := { s' with toks := s'.toks + 1 }) (strKind_is _ _ _ _) rfl hS' (by unfold scanBound; omega) fun h' hsb hS2 => ?_
    have hSi : h'.SetOf (PySem.strKind prog w) S (fun k' => (xs.take (i + 1)).any (· == k')) (i + 1) :=
      PyProof.Rows.SetOf_congr hS2 (fun k' => any_take (by omega) k') (by rw [any_take_new (by omega) nd]; rfl)
    refine wpAny_pure ⟨plainId_quiet PyProof.Rows.F.plain_set_update_loop _, ih (i + 1) _ (by omega) hlt (W.frame _ s' _ _ hst' (Nat.le_succ _) fun b hb o e => ?_) hSi fun s'' hm'' hS'' => ?_⟩
    · rw [hsb.2 b (fun h : b = S => hSf (by rw [← h]; exact hb))]; exact e
    · refine hR s'' (Moved.trans W.gtrans ((hm.mono hsub).then_heap (Nat.le_succ _) fun b o hb e => ?_) hm'') hS''
      rw [hsb.2 b (fun h : b = S => hb (by rw [h]; exact List.mem_cons_self))]; exact e
end
section
variable {prog : Program} {w : World} {A : Around} {E : Value → Shared → Prop} {s : Shared}
theorem call_set_tupleN {l : Addr} {items : Array Value} {xs : List Str} {Q : Value → Shared → Prop}
    (hh : A.handled = none) (hl : s.heap.IsTuple l items) (hi : PyProof.Rows.StrsAre items.toList xs) (nd : xs.Nodup) (hn1 : xs.length ≤ 60)
    (h : ∀ (h' : Heap) (tk : Nat), h'.SetOf (PySem.strKind prog w) s.heap.objs.size (fun k' => (xs.take items.size).any (· == k')) items.size →
      (∀ b o, b < s.heap.objs.size → s.heap.get? b = some o → h'.get? b = some o) → Q (.ref s.heap.objs.size) { s with heap := h', toks := tk }) :
    wpAny (model prog w) A (call (.type "set") [.ref l]) Q E s := by
  obtain ⟨c, tl, hmro⟩ := PySem.F.called_set.mro
  have hmade := PySem.F.called_set.made
  have hsub := PySem.F.called_set.sub
  refine wpAny_call (codeAny_of_tree ?_)
  show wpAny _ _ (callAny (.type "set") _) _ _ _
  refine wpAny_pure ⟨Code.quiet_builtin _ (by decide +kernel), codeAny_builtin PySem.F.entry_type_call ?_⟩
  rw [Around.under_plain (weight_type_call_type "set" [.ref l] []) rfl]
  have h1 := PySem.F.called_set.notType
  have h2 := PySem.F.called_set.canCreate
  have hct := PySem.F.typeCall_set_1 (.ref l)
  repeat (any_goals (first | assumption | wp_step))

  refine codeAny_mono (code_set_new_1 (.ref l) (E := E) (Q₁ := fun obj s₁ => ∃ led : Bool, obj = .ref s.heap.objs.size ∧ s₁ = { s with heap := s.heap.push { cls := .type "set", dict := none, data := .set #[] 0 (.fresh 0 0 led) } }) fun led => ⟨led, rfl, rfl⟩) fun r s₁ hr => ?_
  cases r with
  | error e => exact hr
  | ok fl =>
    cases fl with
    | ret obj =>
      obtain ⟨led, rfl, rfl⟩ := hr
      have hS : (s.heap.push { cls := .type "set", dict := none, data := .set #[] 0 (.fresh 0 0 led) }).get? s.heap.objs.size = some { cls := .type "set", dict := none, data := .set #[] 0 (.fresh 0 0 led) } := Heap.get?_push_size _ rfl
      have hT : Shared.TypeIs { s with heap := s.heap.push { cls := .type "set", dict := none, data := .set #[] 0 (.fresh 0 0 led) } } (.ref s.heap.objs.size) "set" := ⟨_, hS, rfl⟩
      have hli := PySem.F.called_set.init.lookup
      have hbi := PySem.F.called_set.init.bind (.ref s.heap.objs.size)
      repeat (any_goals (first | assumption | wp_step))

      refine codeAny_mono (codeAny_call_builtin (R := wants (fun r s₂ => r = .none ∧ ∃ h' tk, s₂ = { s with heap := h', toks := tk } ∧
          h'.SetOf (PySem.strKind prog w) s.heap.objs.size (fun k' => (xs.take items.size).any (· == k')) items.size ∧
          (∀ b o, b < s.heap.objs.size → s.heap.get? b = some o → h'.get? b = some o)) E) PySem.F.called_set.init.plain PySem.F.entry_set_init (check_set_init_1 hT ?_)) fun r₂ s₂ hr₂ => ?_
      · obtain ⟨ol, hol, hcl, nl, hdl⟩ := hl
        obtain ⟨ocls, odict, odata, oslots⟩ := ol
        simp only at hcl hdl
        subst hcl; subst hdl
        have hol' : (s.heap.push { cls := .type "set", dict := none, data := .set #[] 0 (.fresh 0 0 led) }).get? l = some { cls := .type "tuple", dict := odict, data := .seq items nl, slots := oslots } := Heap.get?_push_of_some _ hol
        have hsls := PySem.F.sub_tuple_set
        have hslf := PySem.F.sub_tuple_frozenset
        have hne : (Value.type "tuple" == Value.type "dict") = false := by decide
        have hl1 : (s.heap.push { cls := .type "set", dict := none, data := .set #[] 0 (.fresh 0 0 led) }).IsTuple l items := ⟨_, hol', rfl, nl, rfl⟩
        unfold Builtin.«set.__init__» noKeywords Builtin.Frozenset.updateFrom
        generalize hPI : pyIter = PI
        wp_walk
        subst hPI

        refine wpAny_pyIter_tuple hl1 ?_
        refine wpAny_bind (wpAny_runValue ?_)
        have hlS : l < s.heap.objs.size := Heap.lt_size hol
        have hh3 : A.in1.in1.in1.handled = none := by simp [hh]
        have hneI : l ≠ (s.heap.push { cls := .type "set", dict := none, data := .set #[] 0 (.fresh 0 0 led) }).objs.size := by
          rw [Heap.size_push]; exact Nat.ne_of_lt (Nat.lt_succ_of_lt hlS)
        have hSf : s.heap.objs.size ∉ [(s.heap.push { cls := .type "set", dict := none, data := .set #[] 0 (.fresh 0 0 led) }).objs.size, l] := by
          rw [Heap.size_push]; simp only [List.mem_cons, List.mem_singleton, List.not_mem_nil, or_false, not_or]
          exact ⟨Nat.ne_of_lt (Nat.lt_succ_self _), Nat.ne_of_gt hlS⟩
        have hsz : xs.length = items.size := by rw [← StrsAre.len_eq hi, Array.length_toList]
        have hval : ∀ (i : Nat) (v : Value), items[i]? = some v → ∃ t, v = .str (xs.getD i Str.empty) t := fun i v hv => SS.strs_at hi i v (by rw [Array.getElem?_toList]; exact hv)
        refine loopStrN ((Walks.tuple hh3 _ l hneI items).toS) s.heap.objs.size
          hSf xs hsz nd (by rw [← hsz]; exact hn1) hval (items.size - 0) 0 _ (by omega) (Nat.zero_le _)
          ⟨⟨_, Heap.get?_push_size _ rfl, rfl, rfl⟩, (hl1.push _)⟩ ?hS0 ?hR
        case hS0 =>
          have hget : ((s.heap.push { cls := .type "set", dict := none, data := .set #[] 0 (.fresh 0 0 led) }).push { cls := .type "tuple_iterator", data := .fields #[.ref l, .int 0 0] }).get? s.heap.objs.size
              = some { cls := .type "set", dict := none, data := .set #[] 0 (.fresh 0 0 led) } := Heap.get?_push_of_some _ hS
          exact PyProof.Rows.SetOf_congr ((PyProof.Rows.setObjOf_fresh (knd := PySem.strKind prog w) led).setOf hget (by unfold scanBound; omega)) (fun _ => rfl) rfl
        case hR =>
          intro s' hm hS'
          obtain ⟨h', g', d', tk', os'⟩ := s'
          have eg : g' = s.gens := hm.gens
          have ed : d' = s.drawn := hm.drawn
          have eo : os' = s.os := hm.os
          subst eg; subst ed; subst eo
          show wpAny _ _ _ _ _ _
          refine wpAny_pure ?_
          show wpAny _ _ (ret Value.none) _ _ _
          refine wpAny_pure ⟨rfl, h', tk', rfl, hS', fun b o hb e => ?_⟩
          have hb1 : b ≠ s.heap.objs.size := Nat.ne_of_lt hb
          have hb2 : b ≠ (s.heap.push { cls := .type "set", dict := none, data := .set #[] 0 (.fresh 0 0 led) }).objs.size := by
            rw [Heap.size_push]; exact Nat.ne_of_lt (Nat.lt_succ_of_lt hb)
          exact hm.heap b o (by simp only [List.mem_cons, List.mem_singleton, List.not_mem_nil, or_false, not_or]; exact ⟨hb1, hb2⟩) (Heap.get?_push_of_some _ (Heap.get?_push_of_some _ e))

      · cases r₂ with
        | error e => exact hr₂
        | ok fl₂ =>
          cases fl₂ with
          | ret r =>
            obtain ⟨rfl, h', tk, rfl, hS', hk'⟩ := hr₂
            repeat (any_goals (first | assumption | wp_step))
            exact h _ _ hS' hk'
          | _ => exact hr₂.elim
    | _ => exact hr.elim
end
section
variable {X : Cx}
def tLenSetN (K : PySem.W.Frag) (ta : TE) : TE := fun σ H Q => ta σ H fun x H1 => ∃ l, ∃ xs : List Str, x = .ref l ∧ SqT K H1 l (xs.map V.str) ∧ xs.Nodup ∧ xs.length ≤ 60 ∧ Q (.int xs.length) H1
theorem pe_lenset {a : Expr} {ta : TE} {p p2 q pos : Pos} (hc : X.calm = true) (hg : Gl X "len") (hm : X.mg "len" = none) (hg2 : Gl X "set") (hm2 : X.mg "set" = none) (ha : PE X a ta)
    (na : starEach [a] X.env = (false, eval a X.env) :: starEach [] X.env := by rfl) : PE X (.Call (.Name "len" p) [.Call (.Name "set" p2) [a] [] q] [] pos) (tLenSetN X.K ta) := by
  refine ⟨fun pins s σ H Q I h => ?_⟩
  refine Call_ (ld_blt I hg hm boot_len ?_)
  refine PyProof.Rows.callWith_builtin1 (PyProof.Rows.args_cons ?_ rfl) rfl rfl
  refine Call_ (ld_blt I hg2 hm2 boot_set ?_)
  refine PyProof.Rows.callWith_type1 (PyProof.Rows.args_cons (thn (ha.run pins s σ H _ I h) fun v s1 ⟨x, H1, I1, r1, q1⟩ => PyProof.Rows.args_nil ?_) na) na rfl
  obtain ⟨l, xs, rfl, hq, nd, h1, q1⟩ := q1
  cases r1
  obtain ⟨its, r, pl, hz⟩ := I1.tuple hq
  refine call_set_tupleN (I1.ok.hd hc) pl (by simpa using strsAre_of r) nd h1 fun h' tk hS hk => ?_
  refine PyProof.Rows.args_nil ?_
  have hl : its.toArray.size = xs.length := by rw [List.size_toArray, ← r.length, List.length_map]
  rw [hl] at hS
  obtain ⟨o, es, ep, t, ho, hex, hd, _, _, _, hf, hn⟩ := hS
  have I2 : Inv X pins σ H1 { s1 with heap := h', toks := tk } := I1.kept fun b o e => hk b o (Heap.lt_size e) e
  refine call_len_set ho hex hd hf (by rw [hn] <;> omega) ⟨.int xs.length, H1, I2.tok _, ⟨_, by rw [hn]⟩, q1⟩
end
section
variable {g : Gm} {r : Rl g} {H0 H H' : Hp} {O0 O : Addr → Prop} {σ : L2.St} {ρ : Rho} {ω : Om}
theorem nodupS_le : ∀ {ks : List Str}, (nodupS ks).length = ks.length → ks.Nodup ∧ nodupS ks = ks := by
  have le : ∀ ks : List Str, (nodupS ks).length ≤ ks.length := by
    intro ks
    induction ks with
    | nil => exact Nat.le_refl _
    | cons k r ih =>
      unfold nodupS
      cases r.any fun j => decide (j = k) with
      | true => exact Nat.le_succ_of_le ih
      | false => exact Nat.succ_le_succ ih
  intro ks
  induction ks with
  | nil => intro _; exact ⟨List.nodup_nil, rfl⟩
  | cons k r ih =>
    intro h
    unfold nodupS at h ⊢
    cases e : r.any fun j => decide (j = k) with
    | true =>
      rw [e] at h
      have := le r
      have h : (nodupS r).length = r.length + 1 := h
      omega
    | false =>
      rw [e] at h
      have h : (nodupS r).length + 1 = r.length + 1 := h
      obtain ⟨a, b⟩ := ih (by omega)
      refine ⟨List.nodup_cons.mpr ⟨fun hm => ?_, a⟩, by rw [b]⟩
      rw [List.any_eq_false] at e
      have := e k hm
      simp at this
theorem ev_lenset {te : TE} {m : Option D} (h : EvO g r te ρ ω m) : EvO g r (tLenSetN g.K te) ρ ω (ob m dlenset) := fun d e O σ H E Q q => by
  obtain ⟨x, e1, e⟩ := ob_some e
  cases x with
  | tup ds =>
    obtain ⟨zs, e2, e⟩ := ob_some e
    obtain ⟨c, e⟩ := ock_some e
    cases e
    rw [Bool.and_eq_true] at c
    obtain ⟨nd, _⟩ := nodupS_le (Nat.eq_of_beq_eq_true c.1)
    refine h _ e1 O σ H E _ fun v H1 k1 i1 => ?_
    obtain ⟨a, vs, rfl, ha, _, iv⟩ := i1
    have ev := asSs_is iv e2
    subst ev
    exact ⟨a, zs, rfl, SqT.of ha, nd, Nat.le_of_ble_eq_true c.2, q _ H1 k1 rfl⟩
  | _ => cases e
end
end Z

namespace Z
open PySem PySem.Spec PyProof.Rows L2 NdefX LamX
open PySem.Sem (wp)
section
variable {prog : Program} {w : World} {A : Around} {E : Value → Shared → Prop} {s : Shared} {T : String} {r d : Addr} {n : Nat} {P : Nat → Value → Prop} {OK : Heap → Prop}
theorem collect_src {Q : List Value → Shared → Prop} (K : PySem.W.KdlSrc prog w T r d n P OK) (hh : A.handled = none) (hok : OK s.heap) (hn : n ≤ sizeLine)
    (hQ : ∀ (h' : Heap) (tk : Nat) (acc : Array Value), (∀ b o', s.heap.get? b = some o' → h'.get? b = some o') → ItemsOf P acc n → Q acc.toList { s with heap := h', toks := tk }) :
    wpAny (model prog w) A (collect (.ref r)) Q E s := by
  unfold collect
  refine wpAny_bind (wpAny_runValue (codeAny_builtin F.entry_proto_collect ?_))
  rw [Around.under_plainId F.plain_proto_collect _]
  show wpAny _ A.in1 (newList [] >>= fun l => again (.builtin "list.__iadd__" ⟨[l, .ref r], []⟩)) _ _ s
  refine wpAny_bind (wpAny_newObj_type ?_)
  refine wpAny_pure ⟨plainId_quiet F.plain_list_iadd _, codeAny_builtin F.entry_list_iadd ?_⟩
  rw [Around.under_plainId F.plain_list_iadd _]
  show wpAny _ A.in1 (Builtin.List.listExtendWith (.ref s.heap.objs.size) (.ref r) (.ref s.heap.objs.size)) _ _ _
  have hS : (s.heap.push { cls := .type "list", data := .seq ([] : List Value).toArray }).get? s.heap.objs.size = some { cls := .type "list", data := .seq #[] 0 } := Heap.get?_push_size _ rfl
  have hlt := K.there _ hok
  have fin' : ∀ (h' : Heap) (tk : Nat) (acc : Array Value) (c : Nat), (∀ b o, s.heap.get? b = some o → h'.get? b = some o) → h'.get? s.heap.objs.size = some { cls := .type "list", dict := none, data := .seq acc c, slots := #[] } → ItemsOf P acc n → wpAny (model prog w) A (match Value.ref s.heap.objs.size with
      | Value.ref a => do
        match (← load a).data with
          | Data.seq xs _ => pure xs.toList
          | _ => unsupported "internal:collect"
      | _ => unsupported "internal:collect") Q E { s with heap := h', toks := tk } := fun h' tk acc c hk hS' hacc => by
    show wpAny _ A (load s.heap.objs.size >>= _) _ _ _
    refine wpAny_bind (wpAny_load hS' ?_)
    exact wpAny_pure (hQ h' tk acc hk hacc)
  refine wpAny_mono (PySem.W.kdl_extend (A := A) (R := fun r s' => r = .ok (.ret (.ref s.heap.objs.size)) ∧ ∃ (h' : Heap) (tk : Nat) (acc : Array Value) (c : Nat), s' = { s with heap := h', toks := tk } ∧ (∀ b o, s.heap.get? b = some o → h'.get? b = some o) ∧ h'.get? s.heap.objs.size = some { cls := .type "list", dict := none, data := .seq acc c, slots := #[] } ∧ ItemsOf P acc n)
    (s := { s with heap := s.heap.push { cls := .type "list", data := .seq ([] : List Value).toArray } }) K hh (K.keep _ _ hok fun b _ o e => Heap.get?_push_of_some _ e) s.heap.objs.size (Nat.ne_of_gt hlt.1) (Nat.ne_of_gt hlt.2) _ 0 hS (fun (h' : Heap) tk acc' c' hk hS' hacc => ?_) hn) (fun fin s' h => ?_) (fun e s' h => ?_)
  · exact ⟨rfl, h', tk, acc', c', rfl, fun b o e => hk b o (Nat.ne_of_lt (Heap.lt_size e)) (Heap.get?_push_of_some _ e), hS', hacc⟩
  · cases fin with
    | done f =>
      obtain ⟨e, h', tk, acc, c, rfl, hk, hS', hacc⟩ := h
      cases e
      exact fin' h' tk acc c hk hS' hacc
    | again c' => exact ⟨h.1, codeAny_mono h.2 fun r s'' hr => by obtain ⟨rfl, h', tk, acc, c, rfl, hk, hS', hacc⟩ := hr; exact fin' h' tk acc c hk hS' hacc⟩
  · exact absurd h.1 (by simp)
theorem code_tuple_src {Q₁ : Value → Shared → Prop} (K : PySem.W.KdlSrc prog w T r d n P OK) (hh : A.handled = none) (hok : OK s.heap) (hn : n ≤ sizeLine)
    (h : ∀ (h' : Heap) (tk : Nat) (acc : Array Value), (∀ b o', s.heap.get? b = some o' → h'.get? b = some o') → ItemsOf P acc n → Q₁ (.ref h'.objs.size) { s with heap := h'.push { cls := .type "tuple", data := .seq acc }, toks := tk }) :
    codeAny (model prog w) A (.call (.builtin "tuple.__new__") ⟨[.type "tuple", .ref r], []⟩) (wants Q₁ E) s := by
  refine codeAny_of_tree ?_
  show wpAny _ A.in1 (do checkBuiltinCall "tuple.__new__" ⟨[.type "tuple", .ref r], []⟩; again (.builtin "tuple.__new__" ⟨[.type "tuple", .ref r], []⟩)) _ _ s
  refine wpAny_bind (wpAny_of_eq (F.newCall_tuple_1 _) (wpAny_pure ⟨plainId_quiet F.plain_tuple_new _, codeAny_builtin F.entry_tuple_new ?_⟩))
  rw [Around.under_plainId F.plain_tuple_new _]
  have hsub := sub_tuple_self
  have hinit := init_tuple_lookup
  have hmh := madeHere_tuple
  have hTI := K.type s hok
  have hnt := K.notTuple
  wp_walk using wpAny_typeOf hTI, collect_src K (by first | exact hh | simp [hh]) hok hn
  repeat (first
    | (refine wpAny_ite_false (by rw [hnt]; exact Bool.false_ne_true) ?_; wp_walk using wpAny_typeOf hTI, collect_src K (by first | exact hh | simp [hh]) hok hn))
  intro h' tk acc hk hacc
  show wpAny _ _ (Builtin.Tuple.tupleExact acc.toList.toArray >>= fun v => ret v) _ _ _
  unfold Builtin.Tuple.tupleExact
  refine wpAny_bind (wpAny_newObj_type ?_ (by show acc.toList.toArray.size ≤ sizeLine; simp only [Array.toArray_toList]; rw [hacc.1]; exact hn))
  refine wpAny_pure ?_
  have e : acc.toList.toArray = acc := by simp
  rw [e]
  exact h h' tk acc hk hacc
theorem call_tuple_src {Q : Value → Shared → Prop} (K : PySem.W.KdlSrc prog w T r d n P OK) (hh : A.handled = none) (hok : OK s.heap) (hn : n ≤ sizeLine)
    (hQ : ∀ (h' : Heap) (tk : Nat) (acc : Array Value), (∀ b o', s.heap.get? b = some o' → h'.get? b = some o') → ItemsOf P acc n → Q (.ref h'.objs.size) { s with heap := h'.push { cls := .type "tuple", data := .seq acc }, toks := tk }) :
    wpAny (model prog w) A (call (.type "tuple") [.ref r]) Q E s := by
  refine callType_codes (Q₁ := fun obj s₁ => s₁.TypeIs obj "tuple" ∧ Q obj s₁) F.called_tuple (F.typeCall_tuple_1 _) F.entry_object_init
    (code_tuple_src K (by first | exact hh | simp [hh]) hok hn fun h' tk acc hk hacc => ⟨⟨_, Heap.get?_push_size _ rfl, rfl⟩, hQ h' tk acc hk hacc⟩) fun obj s₁ h₁ => ?_
  exact ⟨h₁.1, F.args_object_init_2 obj _, object_init_meets F.called_tuple.init.lookup F.called_tuple.made (by decide) prog w A.in1 _ s₁ ⟨h₁.1, rfl, h₁.2⟩⟩
end
section
variable {X : Cx}
/-- tuple(d): its keys -/
def rTupD : List V → Hp → VK → Prop := fun xs H Q => ∃ (a : Addr) (kvs : List (Key × V)), xs = [.ref a] ∧ Rd H a (.dK kvs) ∧ ∀ p, H p = none → Q (.ref p) (upd H p (.tup (kvs.map fun kv => kV kv.1)))
theorem call_tupleD (hcalm : X.calm = true) : CallR X (.type "tuple") rTupD := by
  intro pins s σ H xs us Q I r q
  obtain ⟨a, kvs, ex, hd, q⟩ := q
  subst ex
  obtain ⟨u, eu, rx⟩ := vals1 r
  subst eu
  cases rx
  obtain ⟨z, lo, vs, rel, dd⟩ := dk_rd I.hok hd
  obtain ⟨ep, hat⟩ := dd.dictAt
  have ek : (kvs.map fun kv => kV kv.1) = vs.map fun p => kV p.1 := by
    have e := congrArg (List.map kV) rel.keys
    rw [List.map_map, List.map_map] at e
    exact e
  refine call_tuple_src (PySem.W.kdl_dict (knd := mixKind X.prog X.w) (kvs := vs) (ep := ep) lo) (I.ok.hd hcalm) hat (by rw [← rel.length]; exact z) fun h' tk acc hk hacc => ?_
  have hv : Vals (vs.map fun p => kV p.1) acc.toList := keys_at (by rw [Array.length_toList]; exact hacc.1) fun j v e => hacc.2 j v (by rw [← Array.getElem?_toList]; exact e)
  have I1 : Inv X pins σ H { s with heap := h', toks := tk } := I.kept hk
  have hnew : ObjOk X.prog X.w (upd H h'.objs.size (.tup (kvs.map fun kv => kV kv.1))) (h'.push { cls := .type "tuple", data := .seq acc }) h'.objs.size (.tup (kvs.map fun kv => kV kv.1)) :=
    ⟨by rw [List.length_map]; exact z, acc.toList, by rw [ek]; exact hv, by rw [Array.toArray_toList]; exact IsTup.new _ _⟩
  exact ⟨.ref h'.objs.size, _, I1.laid (t' := tk) (fun b o e => Heap.get?_push_of_some _ e) (Nat.le_refl _) hnew, rfl, q _ (I1.hok.fresh (Nat.le_refl _))⟩
/-- tuple(xs) of a list: a tuple without a dict -/
def rTupP (K : PySem.W.Frag) : List V → Hp → VK → Prop := fun xs H Q => ∃ p ys, xs = [.ref p] ∧ SqL K H p ys ∧ ∀ l (o : Obj), H l = none → o.dict = none → Q (.ref l) (upd H l (.frz o (.tup ys)))
theorem call_tupleP : CallR X (.type "tuple") (rTupP X.K) := by
  intro pins s σ H xs us Q I r h
  obtain ⟨p, ys, rfl, hq, q⟩ := h
  obtain ⟨u, rfl, rx⟩ := vals1 r
  cases rx
  obtain ⟨its, r', pl, hz⟩ := I.list hq
  have hlen := r'.length
  refine call_tuple_list pl.isList (fun h' kp => ?_) (by simp only [List.size_toArray] <;> omega)
  have I1 : Inv X pins σ H { s with heap := h' } := I.kept (t' := s.toks) kp
  have I2 : Inv X pins σ (upd H h'.objs.size (.frz { cls := .type "tuple", data := .seq its.toArray } (.tup ys))) { s with heap := h'.push { cls := .type "tuple", data := .seq its.toArray } } :=
    I1.laid (t' := s.toks) (fun b o e => Heap.get?_push_of_some _ e) (Nat.le_refl _) (show ObjOk X.prog X.w _ _ _ (.frz _ (.tup ys)) from ⟨Heap.get?_push_size _ rfl, hz, its, r', IsTup.new _ _⟩)
  exact ⟨.ref h'.objs.size, _, I2, rfl, q _ _ (I1.hok.fresh (Nat.le_refl _)) rfl⟩
/-- t.index(x), t a tuple that is known to have no dict -/
def tIndex (K : PySem.W.Frag) (to : TE) (ta : TA) : TE := fun σ H Q => to σ H fun x H1 => ∃ p o xs, x = .ref p ∧ H1 p = some (.frz o (.tup xs)) ∧ o.dict = none ∧ ta σ H1 fun vs H2 => ∃ (ys : List Str) (z : Str) (j : Nat), vs = [.str z] ∧ SqT K H2 p (ys.map V.str) ∧ ys[j]? = some z ∧ (∀ m, m < j → ys[m]? ≠ some z) ∧ Q (.int (j : Nat)) H2
theorem pe_index {o e : Expr} {to : TE} {ta : TA} {apos cpos : Pos} (ho : PE X o to) (ha : PA X [e] ta)
    (hbase : attributeBase o "index" X.env (eval o X.env) = eval o X.env := by rfl)
    (hfew : ((backTo cpos (starEach [e] X.env)).all (fun x => !x.1) && (backToKw cpos (keywordEach [] X.env)).all (fun x => x.1.isSome)
      && decide ([e].length + ([] : List Keyword).length + (if ([] : List Keyword).isEmpty then 0 else 1) < 30)) = true := by rfl)
    (hline : (apos.endLine == cpos.line) = true := by rfl) (hs : starEach [e] X.env = (false, eval e X.env) :: starEach [] X.env := by rfl) :
    PE X (.Call (.Attribute o "index" apos) [e] [] cpos) (tIndex X.K to ta) := by
  refine ⟨fun pins s σ H Q I h => ?_⟩
  refine wpAny_Call_method_late hbase hfew hline rfl (thn (ho.run pins s σ H _ I h) fun v s1 ⟨x, H1, I1, r1, p, ob, xs, ex, hp, hd, q1⟩ => ?_)
  subst ex
  cases r1
  have hob := (I1.hok p _ hp).1
  obtain ⟨_, its, _, ⟨o', ho', hc', n', hd'⟩⟩ := (I1.hok p _ hp).2
  rw [hob] at ho'
  cases ho'
  refine ⟨"tuple", "tuple.index", PySem.F.plainAttrs_tuple, PySem.F.slot_tuple_index, PySem.F.type_tuple_index, ⟨_, hob, hc'⟩, fun a ea => ?_, ?_⟩
  · cases ea
    exact ⟨_, hob, hd⟩
  · have hA := ha.run cpos pins s1 σ H1 _ I1 q1
    rw [hs] at hA ⊢
    refine Calls.callWith_builtin rfl (Calls.evalArgs_plain ?_)
    exact thn hA fun us s2 ⟨vs, H2, I2, r2, ys, z, j, ez, hq, hj, hno, q⟩ => by
      subst ez
      exact mt_tup_index pins s2 σ H2 (.ref p) [.str z] (.ref p) us Q I2 rfl r2 ⟨p, ys, z, j, rfl, rfl, hq, hj, hno, q⟩
/-- sorted(d) -/
def rSortK : List V → Hp → VK → Prop := fun xs H Q => ∃ (a : Addr) (kvs : List (Key × V)) (ks : List Str), xs = [.ref a] ∧ Rd H a (.dK kvs) ∧ kvs.map (·.1) = ks.map Sum.inr ∧ ks.length < 64 ∧ ∀ ys p, ys.Perm ks → sortedS ys = true → H p = none → Q (.ref p) (upd H p (.lst (ys.map V.str)))
theorem call_sortedK (hcalm : X.calm = true) : CallR X (.builtin "sorted") rSortK := call_sortedD hcalm
end
section
variable {g : Gm} {r : Rl g} {H0 H H' : Hp} {O0 O : Addr → Prop} {σ : L2.St} {ρ : Rho} {ω : Om} {te te2 : TE} {m m2 : Option D}
theorem kvz_keys : ∀ {ks : List Str} {vs : List V}, ks.length = vs.length → (kvz ks vs).map (·.1) = ks.map Sum.inr
  | [], _, _ => rfl
  | _ :: _, [], h => by cases h
  | k :: ks, v :: vs, h => by
    show Sum.inr k :: (kvz ks vs).map (·.1) = _
    rw [kvz_keys (by simpa using h)] <;> rfl
theorem strs_is : ∀ {ks : List Str}, IsL g O H (ks.map D.str) (ks.map V.str)
  | [] => rfl
  | k :: ks => ⟨.str k, ks.map V.str, rfl, rfl, strs_is⟩
theorem ev_tupK (h : EvO g r te ρ ω m) : EvO g r (tCB rTupD (tCons te tNil)) ρ ω (ob m dtupK) := fun d e O σ H E Q q => by
  obtain ⟨x, e1, e⟩ := ob_some e
  cases x with
  | dct ks ds =>
    cases e
    refine h _ e1 O σ H E _ fun v H1 k1 i1 => ?_
    obtain ⟨a, vs, rfl, _, ha, l, z, iv⟩ := i1
    refine ⟨a, kvz ks vs, rfl, ha, fun p hp => ?_⟩
    have ek : (kvz ks vs).map (fun kv => kV kv.1) = ks.map V.str := by
      have e := congrArg (List.map kV) (kvz_keys l)
      rw [List.map_map, List.map_map] at e
      exact e
    have k : R g r H1 (upd H1 p (.tup ((kvz ks vs).map fun kv => kV kv.1))) := R.new hp fun _ z => by cases z
    refine q _ _ (k1.trans k) ⟨p, _, rfl, upd_same, ?_, ?_⟩
    · rw [List.length_map, kvz_len l, l]; exact z
    · rw [ek]; exact strs_is
  | _ => cases e
theorem ev_tupP (h : EvO g r te ρ ω m) : EvO g r (tCB (rTupP g.K) (tCons te tNil)) ρ ω (ob m dtupP) := fun d e O σ H E Q q => by
  obtain ⟨x, e1, e⟩ := ob_some e
  cases x with
  | lst ds =>
    cases e
    refine h _ e1 O σ H E _ fun v H1 k1 i1 => ?_
    obtain ⟨a, vs, rfl, _, ha, z, iv⟩ := i1
    refine ⟨a, vs, rfl, SqL.of ha, fun p o hp ho => ?_⟩
    have k : R g r H1 (upd H1 p (.frz o (.tup vs))) := R.new hp fun _ z => by cases z
    exact q _ _ (k1.trans k) ⟨p, o, vs, rfl, upd_same, ho, z, IsL.kp (k.kp E.sub) _ _ iv⟩
  | _ => cases e
theorem findIdx_ok {zs : List Str} {s : Str} {j : Nat} (h : (zs.findIdx? fun z => decide (z = s)) = some j) : zs[j]? = some s ∧ ∀ m, m < j → zs[m]? ≠ some s := by
  obtain ⟨hj, h1, h2⟩ := List.findIdx?_eq_some_iff_getElem.mp h
  refine ⟨by rw [List.getElem?_eq_getElem hj, of_decide_eq_true h1], fun m hm e => ?_⟩
  have hm' : m < zs.length := Nat.lt_trans hm hj
  rw [List.getElem?_eq_getElem hm'] at e
  exact h2 m hm (decide_eq_true (Option.some.inj e))
theorem ev_index (h : EvO g r te ρ ω m) (h2 : EvO g r te2 ρ ω m2) : EvO g r (tIndex g.K te (tCons te2 tNil)) ρ ω (o2 dindex m m2) := fun d e O σ H E Q q => by
  obtain ⟨x, y, e1, e2, e3⟩ := o2_some e
  cases x with
  | ptup ds =>
    cases y with
    | str s =>
      obtain ⟨zs, f1, e3⟩ := ob_some e3
      obtain ⟨j, f2, e3⟩ := ob_some e3
      cases e3
      refine h _ e1 O σ H E _ fun v H1 k1 i1 => ?_
      obtain ⟨a, o, vs, rfl, ha, ho, z, iv⟩ := i1
      refine ⟨a, o, vs, rfl, ha, ho, ?_⟩
      refine h2 _ e2 O σ H1 (E.go k1) _ fun u H2 k2 i2 => ?_
      have ev := asSs_is iv f1
      subst ev
      obtain ⟨g1, g2⟩ := findIdx_ok f2
      have ha2 : H2 a = some (.frz o (.tup (zs.map V.str))) := k2.keep a _ ha (fun _ z => by cases z) (.inr (.inr ⟨_, _, rfl⟩))
      exact ⟨zs, s, j, by rw [show u = .str s from i2], .inl (.inr ⟨o, ha2⟩), g1, g2, q _ H2 (k1.trans k2) rfl⟩
    | _ => cases e3
  | _ => cases y <;> cases e3
end
end Z

namespace Z
open PySem PySem.Spec PyProof.Rows L2 NdefX LamX
def leS (a b : Str) : Prop := a.cps.toList ≤ b.cps.toList
theorem leS_trans {a b c : Str} (h : leS a b) (k : leS b c) : leS a c := List.le_trans h k
theorem cps_inj {a b : Str} (h : a.cps.toList = b.cps.toList) : a = b := by
  cases a with
  | mk x => cases b with
    | mk y => exact congrArg Str.mk (Array.toList_inj.mp h)
theorem leS_anti {a b : Str} (h : leS a b) (k : leS b a) : a = b := cps_inj (List.le_antisymm h k)
theorem ltCps_no {a b : Str} (h : (!ltCps b.cps.toList a.cps.toList) = true) : leS a b := by
  rw [PyProof.Rows.ltCps_eq, Bool.not_eq_true'] at h
  exact fun z => of_decide_eq_false h z
theorem ltN_eq : ∀ a b : List Nat, ltN a b = ltCps a b
  | [], [] => rfl
  | [], _ :: _ => rfl
  | _ :: _, [] => rfl
  | a :: r, b :: t => by
    show (Nat.blt a b || (Nat.beq a b && ltN r t)) = (decide (a < b) || (a == b && ltCps r t))
    rw [ltN_eq r t]
    congr 1
    · by_cases h : a < b
      · rw [decide_eq_true h]; exact (Nat.blt_eq).mpr h
      · rw [decide_eq_false h]
        cases e : Nat.blt a b with
        | false => rfl
        | true => exact absurd ((Nat.blt_eq).mp e) h
    · congr 1
      exact Bool.eq_iff_iff.mpr (by rw [beq_iff_eq, Nat.beq_eq])
theorem ris_pair : ∀ {l : List Str}, risS l = true → l.Pairwise leS
  | [], _ => .nil
  | x :: r, h => by
    have h : ((r.all fun y => !ltN y.cps.toList x.cps.toList) && risS r) = true := h
    rw [Bool.and_eq_true] at h
    refine .cons (fun y hy => ?_) (ris_pair h.2)
    have := List.all_eq_true.mp h.1 y hy
    rw [ltN_eq] at this
    exact ltCps_no this
theorem sorted_pair : ∀ {l : List Str}, sortedS l = true → l.Pairwise leS := by
  have key : ∀ (l : List Str) (p : Str), risingS p l = true → (p :: l).Pairwise leS := by
    intro l
    induction l with
    | nil => intro p _; exact .cons (fun y hy => by cases hy) .nil
    | cons x r ih =>
      intro p h
      have h : (!ltCps x.cps.toList p.cps.toList && risingS x r) = true := h
      rw [Bool.and_eq_true] at h
      have q := ih x h.2
      have px := ltCps_no h.1
      refine .cons (fun y hy => ?_) q
      rcases List.mem_cons.mp hy with e | hy
      · rw [e]; exact px
      · exact leS_trans px ((List.pairwise_cons.mp q).1 y hy)
  intro l h
  cases l with
  | nil => exact .nil
  | cons x r => exact key r x h
theorem sort_uniq : ∀ {ys zs : List Str}, ys.Pairwise leS → zs.Pairwise leS → ys.Perm zs → ys = zs
  | [], zs, _, _, h => by rw [List.nil_perm.mp h]
  | y :: ys, [], _, _, h => by have := h.length_eq; cases this
  | y :: ys, z :: zs, a, b, h => by
    have e : y = z := by
      have hy : y ∈ z :: zs := h.subset List.mem_cons_self
      have hz : z ∈ y :: ys := h.symm.subset List.mem_cons_self
      rcases List.mem_cons.mp hy with e | hy
      · exact e
      · rcases List.mem_cons.mp hz with e | hz
        · exact e.symm
        · exact leS_anti ((List.pairwise_cons.mp a).1 z hz) ((List.pairwise_cons.mp b).1 y hy)
    subst e
    rw [sort_uniq (List.pairwise_cons.mp a).2 (List.pairwise_cons.mp b).2 h.cons_inv]
section
variable {g : Gm} {r : Rl g} {ρ : Rho} {ω : Om} {te : TE} {m : Option D}
theorem ev_sorted (h : EvO g r te ρ ω m) : EvO g r (tCB rSortK (tCons te tNil)) ρ ω (ob m dsorted) := fun d e O σ H E Q q => by
  obtain ⟨x, e1, e⟩ := ob_some e
  cases x with
  | dct ks ds =>
    obtain ⟨c, e⟩ := ock_some e
    cases e
    rw [Bool.and_eq_true, Bool.and_eq_true] at c
    have hp := List.isPerm_iff.mp c.1.2
    have hl : ks.length < 64 := by have := c.2; rw [Nat.blt_eq] at this; exact this
    refine h _ e1 O σ H E _ fun v H1 k1 i1 => ?_
    obtain ⟨a, vs, rfl, _, ha, l, z, iv⟩ := i1
    refine ⟨a, kvz ks vs, ks, rfl, ha, kvz_keys l, hl, fun ys p hy hs hn => ?_⟩
    have e : ys = sortS ks := sort_uniq (sorted_pair hs) (ris_pair c.1.1) (hy.trans hp.symm)
    subst e
    have k : R g r H1 (upd H1 p (.lst ((sortS ks).map V.str))) := R.new hn fun _ z => by cases z
    refine q _ _ (k1.trans k) ⟨p, _, rfl, fun z => (E.go k1).hid p z hn, upd_same, ?_, strs_is⟩
    rw [List.length_map, hp.length_eq, sizeLine_eq]
    omega
  | _ => cases e
end
end Z

namespace Z
open PySem PySem.Spec PyProof.Rows L2 NdefX LamX
open PySem.Sem (wp)
theorem tup_at {h h' : Heap} {a : Addr} {xs : Array Value} (x : h.IsTuple a xs) (e : ∀ o, h.get? a = some o → h'.get? a = some o) : h'.IsTuple a xs := let ⟨o, ho, r⟩ := x; ⟨o, e _ ho, r⟩
section
variable {prog : Program} {w : World} {A : Around} {E : Value → Shared → Prop} {s : Shared}
theorem zt_next_item_held {z TI TO T i1 i2 l1 l2 : Addr} {f : Bool} {oT : Obj} {k1 k2 : Nat} {xs ys : Array Value} {x y : Value} {Q : Value → Shared → Prop} (D : ZipApart z TI TO i1 i2 l1 l2)
    (hz : IsZipHeld s.heap z TI TO T f) (hT : s.heap.get? T = some oT) (hTI : IsPair s.heap TI (.ref i1) (.ref i2))
    (h1 : s.heap.IsTupleIter i1 l1 k1) (h2 : s.heap.IsTupleIter i2 l2 k2) (hl1 : s.heap.IsTuple l1 xs) (hl2 : s.heap.IsTuple l2 ys) (hx : xs[k1]? = some x) (hy : ys[k2]? = some y)
    (hQ : ∀ h', IsZipHeld h' z TI TO T true → h'.IsTupleIter i1 l1 (k1 + 1) → h'.IsTupleIter i2 l2 (k2 + 1) → IsPair h' s.heap.objs.size x y → h'.objs.size = s.heap.objs.size + 1 →
      (∀ c o, c ≠ z → c ≠ i1 → c ≠ i2 → s.heap.get? c = some o → h'.get? c = some o) → Q (.ref s.heap.objs.size) { s with heap := h' }) :
    wpAny (model prog w) A (Builtin.«zip.__next__» ⟨[.ref z], []⟩) (fun fin s' => ∃ v, fin = .done (.ret v) ∧ Q v s') E s := by
  show wpAny _ _ (field (.ref z) 2 >>= _) _ _ _
  refine wpAny_bind (wpAny_field hz rfl (x := .bool false) rfl ?_)
  show wpAny _ _ (field (.ref z) 3 >>= _) _ _ _
  refine wpAny_bind (wpAny_field hz rfl (x := .ref TI) rfl ?_)
  refine wpAny_bind (wpAny_seqItems hTI rfl ?_)
  show wpAny _ _ (Builtin.SmallTypes.ownedTupleIsFree (.ref z) >>= _) _ _ _
  refine wpAny_bind (wpAny_tupleHeld_zip hz hT fun h₁ hz₁ hs₁ => ?_)
  simp only [Bool.false_eq_true, if_false]
  refine wpAny_bind ?_
  rw [← Array.forIn_toList]
  simp only [List.forIn_cons, List.forIn_nil]
  refine wpAny_bind (wpAny_bind (wpAny_holding ?_))
  show wpAny _ _ (Builtin.SmallTypes.nextOf (.ref i1) >>= _) _ _ _
  refine wpAny_bind (RZ.nextOf_tuple_item (s := { s with heap := h₁ }) (h1.extBut hs₁.extBut D.i1z) (hl1.extBut hs₁.extBut D.l1z) hx fun h₂ h1₂ hs₂ => wpAny_pure ?_)
  refine wpAny_pure ?_
  refine wpAny_bind (wpAny_bind (wpAny_holding ?_))
  show wpAny _ _ (Builtin.SmallTypes.nextOf (.ref i2) >>= _) _ _ _
  refine wpAny_bind (RZ.nextOf_tuple_item (s := { s with heap := h₂ }) ((h2.extBut hs₁.extBut D.i2z).extBut hs₂.extBut D.i12.symm) ((hl2.extBut hs₁.extBut D.l2z).extBut hs₂.extBut D.l2i1) hy fun h₃ h2₃ hs₃ => wpAny_pure ?_)
  refine wpAny_pure (wpAny_pure ?_)
  show wpAny _ _ (newTuple [x, y] >>= _) _ _ _
  refine wpAny_bind (wpAny_newTuple ?_)
  have hsz : h₃.objs.size = s.heap.objs.size := by rw [hs₃.1, hs₂.1, hs₁.1]
  have hz₃ : IsZipHeld h₃ z TI TO T true := hs₃.extBut _ _ D.i2z.symm (hs₂.extBut _ _ D.i1z.symm hz₁)
  have hk : ∀ c o, c ≠ z → c ≠ i1 → c ≠ i2 → s.heap.get? c = some o → h₃.get? c = some o := fun c o c1 c2 c3 e => hs₃.extBut _ _ c3 (hs₂.extBut _ _ c2 (hs₁.extBut _ _ c1 e))
  have h1₃ : h₃.IsTupleIter i1 l1 (k1 + 1) := h1₂.extBut hs₃.extBut D.i12
  refine wpAny_pure ⟨_, rfl, ?_⟩
  show Q (.ref h₃.objs.size) _
  have hp : IsPair (h₃.push { cls := .type "tuple", data := .seq #[x, y] }) h₃.objs.size x y := Heap.get?_push_size _ rfl
  have hz4 : (h₃.push { cls := .type "tuple", data := .seq #[x, y] }).objs.size = h₃.objs.size + 1 := Heap.size_push ..
  rw [hsz] at hp hz4 ⊢
  exact hQ _ (Heap.get?_push_of_some _ hz₃) (h1₃.at fun o e => Heap.get?_push_of_some _ e) (h2₃.at fun o e => Heap.get?_push_of_some _ e) hp hz4 fun c o c1 c2 c3 e => Heap.get?_push_of_some _ (hk c o c1 c2 c3 e)
theorem zt_next_end_held {z TI TO T i1 i2 l1 l2 : Addr} {f : Bool} {oT : Obj} {k1 k2 : Nat} {xs ys : Array Value} {Q : Fin → Shared → Prop} (hh : A.handled = none) (D : ZipApart z TI TO i1 i2 l1 l2)
    (hz : IsZipHeld s.heap z TI TO T f) (hT : s.heap.get? T = some oT) (hTI : IsPair s.heap TI (.ref i1) (.ref i2))
    (h1 : s.heap.IsTupleIter i1 l1 k1) (h2 : s.heap.IsTupleIter i2 l2 k2) (hl1 : s.heap.IsTuple l1 xs) (hl2 : s.heap.IsTuple l2 ys) (hend : xs[k1]? = none ∨ ys[k2]? = none)
    (hE : ∀ h' e, (∀ c o, c ≠ z → c ≠ i1 → c ≠ i2 → s.heap.get? c = some o → h'.get? c = some o) → (∃ o, h'.get? e = some o ∧ o.cls = .type "StopIteration") → E (.ref e) { s with heap := h' }) :
    wpAny (model prog w) A (Builtin.«zip.__next__» ⟨[.ref z], []⟩) Q E s := by
  show wpAny _ _ (field (.ref z) 2 >>= _) _ _ _
  refine wpAny_bind (wpAny_field hz rfl (x := .bool false) rfl ?_)
  show wpAny _ _ (field (.ref z) 3 >>= _) _ _ _
  refine wpAny_bind (wpAny_field hz rfl (x := .ref TI) rfl ?_)
  refine wpAny_bind (wpAny_seqItems hTI rfl ?_)
  show wpAny _ _ (Builtin.SmallTypes.ownedTupleIsFree (.ref z) >>= _) _ _ _
  refine wpAny_bind (wpAny_tupleHeld_zip hz hT fun h₁ hz₁ hs₁ => ?_)
  simp only [Bool.false_eq_true, if_false]
  refine wpAny_bind ?_
  rw [← Array.forIn_toList]
  simp only [List.forIn_cons, List.forIn_nil]
  refine wpAny_bind (wpAny_bind (wpAny_holding ?_))
  show wpAny _ _ (Builtin.SmallTypes.nextOf (.ref i1) >>= _) _ _ _
  cases hx : xs[k1]? with
  | none =>
    refine wpAny_bind (RZ.nextOf_tuple_end (s := { s with heap := h₁ }) hh (h1.extBut hs₁.extBut D.i1z) (hl1.extBut hs₁.extBut D.l1z) hx fun h₂ e hs₂ he => ?_)
    exact hE h₂ e (fun c o c1 c2 _ x => hs₂ _ _ c2 (hs₁.extBut _ _ c1 x)) he
  | some x =>
    have hy : ys[k2]? = none := by rcases hend with h | h; rw [hx] at h; cases h; exact h
    refine wpAny_bind (RZ.nextOf_tuple_item (s := { s with heap := h₁ }) (h1.extBut hs₁.extBut D.i1z) (hl1.extBut hs₁.extBut D.l1z) hx fun h₂ h1₂ hs₂ => wpAny_pure ?_)
    refine wpAny_pure ?_
    refine wpAny_bind (wpAny_bind (wpAny_holding ?_))
    show wpAny _ _ (Builtin.SmallTypes.nextOf (.ref i2) >>= _) _ _ _
    refine wpAny_bind (RZ.nextOf_tuple_end (s := { s with heap := h₂ }) hh ((h2.extBut hs₁.extBut D.i2z).extBut hs₂.extBut D.i12.symm) ((hl2.extBut hs₁.extBut D.l2z).extBut hs₂.extBut D.l2i1) hy fun h₃ e hs₃ he => ?_)
    exact hE h₃ e (fun c o c1 c2 c3 x => hs₃ _ _ c3 (hs₂.extBut _ _ c2 (hs₁.extBut _ _ c1 x))) he
theorem py_zt_item_held {z TI TO T i1 i2 l1 l2 : Addr} {f : Bool} {oT : Obj} {k1 k2 : Nat} {xs ys : Array Value} {x y : Value} {Q : Option Value → Shared → Prop} (D : ZipApart z TI TO i1 i2 l1 l2)
    (hz : IsZipHeld s.heap z TI TO T f) (hT : s.heap.get? T = some oT) (hTI : IsPair s.heap TI (.ref i1) (.ref i2))
    (h1 : s.heap.IsTupleIter i1 l1 k1) (h2 : s.heap.IsTupleIter i2 l2 k2) (hl1 : s.heap.IsTuple l1 xs) (hl2 : s.heap.IsTuple l2 ys) (hx : xs[k1]? = some x) (hy : ys[k2]? = some y)
    (hQ : ∀ h', IsZipHeld h' z TI TO T true → h'.IsTupleIter i1 l1 (k1 + 1) → h'.IsTupleIter i2 l2 (k2 + 1) → IsPair h' s.heap.objs.size x y → h'.objs.size = s.heap.objs.size + 1 →
      (∀ c o, c ≠ z → c ≠ i1 → c ≠ i2 → s.heap.get? c = some o → h'.get? c = some o) → Q (some (.ref s.heap.objs.size)) { s with heap := h' }) :
    wpAny (model prog w) A (pyNext (.ref z)) Q E s := by
  have hTy : s.TypeIs (.ref z) "zip" := ⟨_, hz, rfl⟩
  unfold pyNext
  exact wpAny_bind (wpAny_attempt (wpAny_callSpecial?_slot (name := Str.ofString "__next__") hTy F.slot_zip_next
    (wpAny_call_entry F.slot_zip_next hTy F.entry_zip_next
      (zt_next_item_held D hz hT hTI h1 h2 hl1 hl2 hx hy fun h' a1 a3 a4 a5 a6 a7 => wpAny_pure (hQ h' a1 a3 a4 a5 a6 a7)) (F.args_zip_next_1 _))))
theorem py_zt_end_held {z TI TO T i1 i2 l1 l2 : Addr} {f : Bool} {oT : Obj} {k1 k2 : Nat} {xs ys : Array Value} {Q : Option Value → Shared → Prop} (hh : A.handled = none) (D : ZipApart z TI TO i1 i2 l1 l2)
    (hz : IsZipHeld s.heap z TI TO T f) (hT : s.heap.get? T = some oT) (hTI : IsPair s.heap TI (.ref i1) (.ref i2))
    (h1 : s.heap.IsTupleIter i1 l1 k1) (h2 : s.heap.IsTupleIter i2 l2 k2) (hl1 : s.heap.IsTuple l1 xs) (hl2 : s.heap.IsTuple l2 ys) (hend : xs[k1]? = none ∨ ys[k2]? = none)
    (hQ : ∀ h', (∀ c o, c ≠ z → c ≠ i1 → c ≠ i2 → s.heap.get? c = some o → h'.get? c = some o) → Q none { s with heap := h' }) : wpAny (model prog w) A (pyNext (.ref z)) Q E s := by
  have hTy : s.TypeIs (.ref z) "zip" := ⟨_, hz, rfl⟩
  unfold pyNext
  refine wpAny_bind (wpAny_attempt (wpAny_callSpecial?_slot (name := Str.ofString "__next__") hTy F.slot_zip_next
    (wpAny_call_entry F.slot_zip_next hTy F.entry_zip_next (zt_next_end_held hh D hz hT hTI h1 h2 hl1 hl2 hend fun h' e hk he => ?_) (F.args_zip_next_1 _))))
  obtain ⟨o, ho, hc⟩ := he
  refine wpAny_bind (wpAny_isInstance (T := "StopIteration") (b := true) ⟨o, ho, hc⟩ isSubtype_stop ?_)
  exact wpAny_pure (hQ _ hk)
end
section
variable {prog : Program} {w : World}
theorem pairArg_zt (z TI TO i1 i2 l1 l2 : Addr) (D : ZipApart z TI TO i1 i2 l1 l2) (xs ys : Array Value) :
    PairArg prog w "zip" z [z, TI, TO, i1, i2, l1, l2] [z, TO, i1, i2] (min xs.size ys.size) (fun i k v => xs[i]? = some k ∧ ys[i]? = some v)
      (fun h => IsZip h z TI TO .none ∧ IsPair h TI (.ref i1) (.ref i2) ∧ (∃ a b, IsPair h TO a b) ∧ h.IsTupleIter i1 l1 0 ∧ h.IsTupleIter i2 l2 0 ∧ h.IsTuple l1 xs ∧ h.IsTuple l2 ys) where
  type := fun s ok => ⟨_, ok.1, rfl⟩
  notDict := by decide
  keep := fun h h' ok hk => by
    obtain ⟨hz, hTI, ⟨a, b, hTO⟩, h1, h2, hl1, hl2⟩ := ok
    exact ⟨hk _ _ hz, hk _ _ hTI, ⟨a, b, hk _ _ hTO⟩, h1.at fun o e => hk _ o e, h2.at fun o e => hk _ o e, tup_at hl1 fun o e => hk _ o e, tup_at hl2 fun o e => hk _ o e⟩
  there := fun h ok b hb => by
    obtain ⟨hz, hTI, ⟨a, c, hTO⟩, ⟨o1, h1, _⟩, ⟨o2, h2, _⟩, ⟨o3, hl1, _⟩, ⟨o4, hl2, _⟩⟩ := ok
    simp only [List.mem_cons, List.not_mem_nil, or_false] at hb
    rcases hb with rfl | rfl | rfl | rfl | rfl | rfl | rfl
    all_goals first | exact ⟨_, hz⟩ | exact ⟨_, hTI⟩ | exact ⟨_, hTO⟩ | exact ⟨_, h1⟩ | exact ⟨_, h2⟩ | exact ⟨_, hl1⟩ | exact ⟨_, hl2⟩
  sub := fun b hb => by simp at hb ⊢; rcases hb with rfl | rfl | rfl | rfl <;> simp
  noKeys := fun A s Q E hA ok h => getAttrOr_miss_zip ok.1 rfl rfl rfl zip_no_keys (by decide +kernel) hA h
  iter := fun A s d Q E hA ok hd hdf h => by
    obtain ⟨hz, hTI, ⟨a, b, hTO⟩, h1, h2, hl1, hl2⟩ := ok
    simp only [List.mem_cons, List.not_mem_nil, or_false, not_or] at hdf
    obtain ⟨dz, dTI, dTO, di1, di2, dl1, dl2⟩ := hdf
    refine wpAny_pyIter_zip hz (h z [z, TO, i1, i2] (fun i h => IsPair h TI (.ref i1) (.ref i2) ∧ h.IsTupleIter i1 l1 i ∧ h.IsTupleIter i2 l2 i ∧ h.IsTuple l1 xs ∧ h.IsTuple l2 ys ∧
      ((IsZip h z TI TO .none ∧ ∃ a b, IsPair h TO a b) ∨ ∃ T f oT, IsZipHeld h z TI TO T f ∧ h.get? T = some oT ∧ T ≠ z ∧ T ≠ i1 ∧ T ≠ i2 ∧ T ≠ d)) s.heap s.toks ?_
      ⟨hTI, h1, h2, hl1, hl2, .inl ⟨hz, a, b, hTO⟩⟩ (fun _ _ e => e) fun b hb => .inl hb)
    exact {
      off := fun hm => by
        simp only [List.mem_cons, List.not_mem_nil, or_false] at hm
        rcases hm with e | e | e | e
        · exact dz e
        · exact dTO e
        · exact di1 e
        · exact di2 e
      frame := fun i h₁ h₂ st hk => by
        obtain ⟨hTI, h1, h2, hl1, hl2, hz⟩ := st
        refine ⟨hk _ _ (Ne.symm dTI) hTI, h1.at fun o e => hk _ o (Ne.symm di1) e, h2.at fun o e => hk _ o (Ne.symm di2) e, tup_at hl1 fun o e => hk _ o (Ne.symm dl1) e, tup_at hl2 fun o e => hk _ o (Ne.symm dl2) e, ?_⟩
        rcases hz with ⟨hz, a, b, hTO⟩ | ⟨T, f, oT, hz, hT, r1, r2, r3, r4⟩
        · exact .inl ⟨hk _ _ (Ne.symm dz) hz, a, b, hk _ _ (Ne.symm dTO) hTO⟩
        · exact .inr ⟨T, f, oT, hk _ _ (Ne.symm dz) hz, hk _ _ r4 hT, r1, r2, r3, r4⟩
      item := fun i s₁ Q₁ E₁ hi st hds hQ => by
        obtain ⟨hTI, h1, h2, hl1, hl2, hz⟩ := st
        have hix : i < xs.size := Nat.lt_of_lt_of_le hi (Nat.min_le_left ..)
        have hiy : i < ys.size := Nat.lt_of_lt_of_le hi (Nat.min_le_right ..)
        have ex := Array.getElem?_eq_getElem hix
        have ey := Array.getElem?_eq_getElem hiy
        have lt : ∀ {c o}, s₁.heap.get? c = some o → s₁.heap.objs.size ≠ c := fun e => Nat.ne_of_gt (Heap.lt_size e)
        have n1 : s₁.heap.objs.size ≠ i1 := let ⟨_, e, _⟩ := h1; lt e
        have n2 : s₁.heap.objs.size ≠ i2 := let ⟨_, e, _⟩ := h2; lt e
        rcases hz with ⟨hz, a, b, hTO⟩ | ⟨T, f, oT, hz, hT, r1, r2, r3, r4⟩
        · refine RZ.pyNext_zipT_item D hz hTI hTO h1 h2 hl1 hl2 ex ey fun h' a1 a2 a3 a4 a5 a6 hk => ?_
          exact hQ s₁.heap.objs.size _ _ h' s₁.toks ⟨ex, ey⟩ (.inl ⟨_, a5, rfl, _, rfl⟩)
            ⟨hk _ _ D.TIz D.TITO D.TIi1 D.TIi2 hTI, a3, a4, tup_at hl1 fun o e => hk _ o D.l1z D.l1TO D.l1i1 D.l1i2 e, tup_at hl2 fun o e => hk _ o D.l2z D.l2TO D.l2i1 D.l2i2 e,
              .inr ⟨s₁.heap.objs.size, false, _, a1, a5, lt hz, n1, n2, Nat.ne_of_gt hds⟩⟩
            fun c o hc e => hk c o (fun x => hc (by simp [x])) (fun x => hc (by simp [x])) (fun x => hc (by simp [x])) (fun x => hc (by simp [x])) e
        · refine py_zt_item_held D hz hT hTI h1 h2 hl1 hl2 ex ey fun h' a1 a3 a4 a5 a6 hk => ?_
          exact hQ s₁.heap.objs.size _ _ h' s₁.toks ⟨ex, ey⟩ (.inl ⟨_, a5, rfl, _, rfl⟩)
            ⟨hk _ _ D.TIz D.TIi1 D.TIi2 hTI, a3, a4, tup_at hl1 fun o e => hk _ o D.l1z D.l1i1 D.l1i2 e, tup_at hl2 fun o e => hk _ o D.l2z D.l2i1 D.l2i2 e,
              .inr ⟨T, true, oT, a1, hk _ _ r1 r2 r3 hT, r1, r2, r3, r4⟩⟩
            fun c o hc e => hk c o (fun x => hc (by simp [x])) (fun x => hc (by simp [x])) (fun x => hc (by simp [x])) e
      done := fun s₁ Q₁ E₁ st hQ => by
        obtain ⟨hTI, h1, h2, hl1, hl2, hz⟩ := st
        have hend : xs[min xs.size ys.size]? = none ∨ ys[min xs.size ys.size]? = none := by
          rcases Nat.le_total xs.size ys.size with h | h
          · exact .inl (Array.getElem?_eq_none (by rw [Nat.min_eq_left h]; exact Nat.le_refl _))
          · exact .inr (Array.getElem?_eq_none (by rw [Nat.min_eq_right h]; exact Nat.le_refl _))
        rcases hz with ⟨hz, a, b, hTO⟩ | ⟨T, f, oT, hz, hT, r1, r2, r3, r4⟩
        · exact RZ.pyNext_zipT_end hA D hz hTI hTO h1 h2 hl1 hl2 hend fun h' hk => hQ h' s₁.toks fun c o hc e => hk c o (fun x => hc (by simp [x])) (fun x => hc (by simp [x])) (fun x => hc (by simp [x])) (fun x => hc (by simp [x])) e
        · exact py_zt_end_held hA D hz hT hTI h1 h2 hl1 hl2 hend fun h' hk => hQ h' s₁.toks fun c o hc e => hk c o (fun x => hc (by simp [x])) (fun x => hc (by simp [x])) (fun x => hc (by simp [x])) e }
end
section
variable {X : Cx}
/-- dict(zip(a, b)) of two tuples: the keys texts, no key twice -/
def tDictZip (K : PySem.W.Frag) (ta : TA) : TE := fun σ H Q => ta σ H fun vs H1 => ∃ a b ks ys, vs = [.ref a, .ref b] ∧ SqT K H1 a (ks.map V.str) ∧ SqT K H1 b ys ∧ ks.length = ys.length ∧ ks.Nodup ∧ ∀ p, H1 p = none → Q (.ref p) (upd H1 p (.dK (kvz ks ys)))
theorem merge_kvz : ∀ {ks ks' : List Str} {vs vs' : List V}, (ks ++ ks').Nodup → ks.length = vs.length → ks'.length = vs'.length → mergeK (kvz ks vs) (kvz ks' vs') = kvz (ks ++ ks') (vs ++ vs')
  | ks, [], vs, vs', _, _, h => by
    have e : vs' = [] := List.eq_nil_of_length_eq_zero h.symm
    subst e
    rw [List.append_nil, List.append_nil]
    rfl
  | ks, k :: ks', vs, [], _, _, h => by cases h
  | ks, k :: ks', vs, v :: vs', nd, h, h' => by
    have hn : k ∉ ks := fun hm => by
      have := (List.nodup_append.mp nd).2.2 k hm k List.mem_cons_self
      exact this rfl
    have ha : (ks.any fun j => decide (j = k)) = false := by
      rw [List.any_eq_false]
      intro x hx
      simp only [decide_eq_true_eq]
      exact fun z => hn (z ▸ hx)
    have e1 : keyZ ks k = ks ++ [k] := by unfold keyZ; rw [ha]
    have e2 : ∀ {ks : List Str} {vs : List V}, k ∉ ks → ks.length = vs.length → putZ ks vs k v = vs ++ [v] := by
      intro ks
      induction ks with
      | nil => intro vs _ _; rfl
      | cons j r ih =>
        intro vs hn hl
        cases vs with
        | nil => cases hl
        | cons x xs =>
          simp only [List.mem_cons, not_or] at hn
          have : putZ (j :: r) (x :: xs) k v = x :: putZ r xs k v := by
            show (match decide (j = k) with | true => v :: xs | false => x :: putZ r xs k v) = _
            rw [decide_eq_false fun z => hn.1 z.symm]
          rw [this, ih hn.2 (by simpa using hl)]
          rfl
    show mergeK (putK (kvz ks vs) (Sum.inr k) v) (kvz ks' vs') = _
    have ndk : ks.Nodup := (List.nodup_append.mp nd).1
    rw [putK_kvz ndk h, e1, e2 hn h, merge_kvz (by rw [List.append_assoc]; exact nd) (by simp [h]) (by simpa using h'), List.append_assoc, List.append_assoc]
    rfl
theorem prs_of {P : Program} {w : World} : ∀ {ks : List Str} {ys : List V} {us us2 : List Value}, Vals (ks.map V.str) us → Vals ys us2 → ks.length = ys.length →
    ∃ prs : List (Key × Value), KV (kvz ks ys) prs ∧ prs.length = ks.length ∧ ∀ (i : Nat) (key v : Value), us[i]? = some key → us2[i]? = some v → ∃ k, prs[i]? = some (k, v) ∧ (mixKind P w).is k key = true
  | [], _, _, _, rv, _, _ => ⟨[], .nil, rfl, fun i key v e1 e2 => by
      cases rv
      simp at e1⟩
  | _ :: _, [], _, _, _, _, h => by cases h
  | k :: ks, y :: ys, _, _, .cons ru rvt, .cons (b := u2) ru2 rvt2, h => by
    obtain ⟨prs, c1, c2, c3⟩ := prs_of (P := P) (w := w) rvt rvt2 (by simpa using h)
    refine ⟨(Sum.inr k, u2) :: prs, .cons ⟨rfl, ru2⟩ c1, by rw [List.length_cons, List.length_cons, c2], fun i key v e1 e2 => ?_⟩
    cases i with
    | zero =>
      simp at e1 e2
      subst e1
      subst e2
      exact ⟨Sum.inr k, rfl, kV_is (P := P) (w := w) (k := Sum.inr k) ru⟩
    | succ i =>
      obtain ⟨k', e3, e4⟩ := c3 i key v (by simpa using e1) (by simpa using e2)
      exact ⟨k', by simpa using e3, e4⟩
theorem pe_dictzip {a b : Expr} {ta : TA} {p p2 pos pos2 : Pos} (hc : X.calm = true) (hg : Gl X "dict") (hm : X.mg "dict" = none) (hg2 : Gl X "zip") (hm2 : X.mg "zip" = none) (ha : PA X [a, b] ta)
    (hs : starEach [a, b] X.env = (false, eval a X.env) :: starEach [b] X.env := by rfl) (hpl : (backTo pos2 (starEach [b] X.env)).any (·.1) = false := by rfl) :
    PE X (.Call (.Name "dict" p) [.Call (.Name "zip" p2) [a, b] [] pos2] [] pos) (tDictZip X.K ta) := by
  refine ⟨fun pins s σ H Q I h => ?_⟩
  refine Call_ (ld_blt I hg hm boot_dict ?_)
  refine PyProof.Rows.callWith_type1 (PyProof.Rows.args_cons ?_ rfl) rfl rfl
  refine Call_ (ld_blt I hg2 hm2 boot_zip ?_)
  refine PyProof.Rows.callWith_type1 (thn (ha.run pos2 pins s σ H _ I h) fun us s1 ⟨vs, H1, I1, r1, q1⟩ => ?_) hs hpl
  obtain ⟨a, b, ks, ys, ex, hqx, hqy, hl, nd, q⟩ := q1
  subst ex
  cases r1 with
  | cons r rr =>
    cases rr with
    | cons r' rr =>
      cases rr
      cases r
      cases r'
      obtain ⟨its, rv, p1, z1⟩ := I1.tuple hqx
      obtain ⟨its2, rv2, p2, z2⟩ := I1.tuple hqy
      obtain ⟨o1, ho1, _⟩ := id p1
      obtain ⟨o2, ho2, _⟩ := id p2
      refine RZ.call_zipT (show s1.heap.IsTuple a its.toArray from p1) (show s1.heap.IsTuple b its2.toArray from p2) fun h' hz hTI hTO h1 h2 hsz hk => PyProof.Rows.args_nil ?_
      have D := PySem.W.ktu_apart s1.heap.objs.size a b (Heap.lt_size ho1) (Heap.lt_size ho2)
      have I2 : Inv X pins σ H1 { s1 with heap := h' } := I1.kept (t' := s1.toks) hk
      have lk := rv.length
      have ly := rv2.length
      rw [List.length_map] at lk
      obtain ⟨prs, rel, hpl', hp⟩ := prs_of (P := X.prog) (w := X.w) rv rv2 hl
      have hn : min its.toArray.size its2.toArray.size = ks.length := by
        rw [List.size_toArray, List.size_toArray, ← lk, ← ly, ← hl]
        exact Nat.min_self _
      refine PySem.call_dict_pairs (knd := mixKind X.prog X.w) (kvs := prs) (pairArg_zt (s1.heap.objs.size + 4) (s1.heap.objs.size + 2) (s1.heap.objs.size + 3) s1.heap.objs.size (s1.heap.objs.size + 1) a b D its.toArray its2.toArray) (I1.ok.hd hc)
        ⟨hz, hTI, ⟨_, _, hTO⟩, h1, h2, tup_at (show s1.heap.IsTuple a its.toArray from p1) fun o e => hk _ o e, tup_at (show s1.heap.IsTuple b its2.toArray from p2) fun o e => hk _ o e⟩
        ⟨by rw [hpl', hn], fun i key v ⟨e1, e2⟩ => hp i key v (by simpa using e1) (by simpa using e2)⟩ (by rw [hn]; rw [List.length_map] at z1; exact z1) fun h2' tk hd' hk2 => ?_
      have em : mergeK [] (kvz ks ys) = kvz ks ys := merge_kvz (ks := []) (vs := []) nd rfl hl
      have kept : ∀ c o, s1.heap.get? c = some o → h2'.get? c = some o := fun c o e => by
        have hc : c < s1.heap.objs.size := Heap.lt_size e
        refine hk2 c o (fun hm => ?_) (hk c o e)
        simp only [List.mem_cons, List.not_mem_nil, or_false] at hm
        rcases hm with z | z | z | z
        · rw [z] at hc; exact absurd hc (Nat.not_lt.mpr (Nat.le_add_right _ 4))
        · rw [z] at hc; exact absurd hc (Nat.not_lt.mpr (Nat.le_add_right _ 3))
        · rw [z] at hc; exact absurd hc (Nat.lt_irrefl _)
        · rw [z] at hc; exact absurd hc (Nat.not_lt.mpr (Nat.le_add_right _ 1))
      have hge : s1.heap.objs.size ≤ h'.objs.size := by rw [hsz]; exact Nat.le_add_right _ _
      have hsys : (h'.objs.size == sysModules) = false := beq_eq_false_iff_ne.mpr (Nat.ne_of_gt (Nat.lt_of_lt_of_le I1.big hge))
      have hlen : (kvz ks ys).length ≤ sizeLine := by rw [kvz_len hl]; rw [List.length_map] at z1; exact z1
      have new : ObjOk X.prog X.w (upd H1 h'.objs.size (.dK (kvz ks ys))) h2' h'.objs.size (.dK (kvz ks ys)) :=
        ⟨hlen, hsys, merged [] prs, by rw [← em]; exact KV.merge rel .nil, hd'⟩
      exact ⟨.ref h'.objs.size, _, I1.laid (t' := tk) kept hge new, rfl, q _ (I1.hok.fresh hge)⟩
end
section
variable {g : Gm} {r : Rl g} {O : Addr → Prop} {ρ : Rho} {ω : Om} {te te2 : TE} {m m2 : Option D}
theorem zipkv_ok : ∀ {as bs : List D} {q : List Str × List D}, zipkv as bs = some q → as = q.1.map D.str ∧ bs = q.2
  | [], [], q, h => by cases h; exact ⟨rfl, rfl⟩
  | .str k :: r, v :: s, q, h => by
    obtain ⟨q', h1, h2⟩ := ob_some h
    cases h2
    obtain ⟨a, b⟩ := zipkv_ok h1
    exact ⟨by rw [a]; rfl, by rw [b]⟩
  | [], _ :: _, _, h => by cases h
  | .str _ :: _, [], _, h => by cases h
  | .non :: _, _, _, h => by cases h
  | .bl _ :: _, _, _, h => by cases h
  | .int _ :: _, _, _, h => by cases h
  | .tup _ :: _, _, _, h => by cases h
  | .lst _ :: _, _, _, h => by cases h
  | .dct _ _ :: _, _, _, h => by cases h
  | .ptup _ :: _, _, _, h => by cases h
  | .ins _ _ _ :: _, _, _, h => by cases h
  | .ref _ :: _, _, _, h => by cases h
theorem zipkv_len : ∀ {as bs : List D} {q : List Str × List D}, zipkv as bs = some q → q.1.length = q.2.length
  | [], [], q, h => by cases h; rfl
  | .str k :: r, v :: s, q, h => by
    obtain ⟨q', h1, h2⟩ := ob_some h
    cases h2
    show q'.1.length + 1 = q'.2.length + 1
    rw [zipkv_len h1]
  | [], _ :: _, _, h => by cases h
  | .str _ :: _, [], _, h => by cases h
  | .non :: _, _, _, h => by cases h
  | .bl _ :: _, _, _, h => by cases h
  | .int _ :: _, _, _, h => by cases h
  | .tup _ :: _, _, _, h => by cases h
  | .lst _ :: _, _, _, h => by cases h
  | .dct _ _ :: _, _, _, h => by cases h
  | .ptup _ :: _, _, _, h => by cases h
  | .ins _ _ _ :: _, _, _, h => by cases h
  | .ref _ :: _, _, _, h => by cases h
theorem strs_eq {H : Hp} : ∀ {ks : List Str} {vs : List V}, IsL g O H (ks.map D.str) vs → vs = ks.map V.str
  | [], vs, h => h
  | k :: ks, vs, h => by
    obtain ⟨v, r', rfl, h1, h2⟩ := h
    rw [show v = .str k from h1, strs_eq h2] <;> rfl
theorem ev_dictzip (h : EvO g r te ρ ω m) (h2 : EvO g r te2 ρ ω m2) : EvO g r (tDictZip g.K (tCons te (tCons te2 tNil))) ρ ω (o2 ddictzip m m2) := fun d e O σ H E Q q => by
  obtain ⟨x, y, e1, e2, e3⟩ := o2_some e
  obtain ⟨as, bs, f1, f2, e3⟩ := o2_some e3
  obtain ⟨qq, f3, e3⟩ := ob_some e3
  obtain ⟨c, e3⟩ := ock_some e3
  cases e3
  rw [Bool.and_eq_true] at c
  obtain ⟨nd, _⟩ := nodupS_le (Nat.eq_of_beq_eq_true c.2)
  obtain ⟨ea, eb⟩ := zipkv_ok f3
  have hlen := zipkv_len f3
  subst ea
  subst eb
  refine h _ e1 O σ H E _ fun v H1 k1 i1 => ?_
  refine h2 _ e2 O σ H1 (E.go k1) _ fun u H2 k2 i2 => ?_
  obtain ⟨a, vs, rfl, ha, ia⟩ := srcT (Is.kp (k2.kp E.sub) _ _ i1) f1
  obtain ⟨b, ws, rfl, hb, ib⟩ := srcT i2 f2
  have ev := strs_eq ia
  subst ev
  have lb := ib.length
  refine ⟨a, b, qq.1, ws, rfl, ha _ Kp.refl, hb _ Kp.refl, by rw [hlen, lb], nd, fun p hp => ?_⟩
  have k : R g r H2 (upd H2 p (.dK (kvz qq.1 ws))) := R.new hp fun _ z => by cases z
  refine q _ _ ((k1.trans k2).trans k) ⟨p, ws, rfl, fun z => (E.go (k1.trans k2)).hid p z hp, .inl upd_same, by rw [hlen, lb], ?_, IsL.kp (k.kp E.sub) _ _ ib⟩
  rw [← lb]
  exact small_le c.1
end
end Z

namespace Z
open PySem PySem.Spec PyProof.Rows L2 NdefX LamX
section
variable {P : Program} {w : World} {K : PySem.W.Frag} {mg : Str → Option Value} {base : Heap} {cl : Nat → Addr} {T : List NTab}
def fsRT (b m r : V) : List (Str × V) := [("bounds", b), ("measures", m), ("rows", r)]
/-- what keep and RawTable's __init__ promise -/
def spKeep (C : Addr) : Sp := fun vs H Q _ => ∃ self dx b m r, vs = [.ref self, b, m, r] ∧ H self = some (.ins C dx []) ∧ Q .non (upd H self (.ins C dx (fsRT b m r)))
theorem put2 (b m : V) : putF ("measures" : Str) m [(("bounds" : Str), b)] = [(("bounds" : Str), b), (("measures" : Str), m)] := by
  unfold putF
  rw [if_neg (by decide +kernel)]
  rfl
theorem put3 (b m r : V) : putF ("rows" : Str) r [(("bounds" : Str), b), (("measures" : Str), m)] = fsRT b m r := by
  unfold putF
  rw [if_neg (by decide +kernel)]
  unfold putF
  rw [if_neg (by decide +kernel)]
  rfl
abbrev s_keep : Stmt := inClass (topS 45) 1
theorem sc_keep : FnScope ["self", "bounds", "measures", "rows"] ["self", "bounds", "measures", "rows"] (defScope s_keep) := ⟨rfl, rfl, rfl, by decide +kernel, rfl, by decide +kernel, by decide +kernel⟩
theorem ok_keep (M : Fx K mg cl T) {f : Addr} {fd : FuncData} (F : FnP K "keep" "Table.keep" s_keep f fd) : FnOk P w K mg base L2.CX0 1 f fd ["self", "bounds", "measures", "rows"] (spKeep (cl 1)) := by
  refine F.ok sc_keep (fun vs H Q E h => ?_) fun cdv A outer s H vs Q E hr h => ⟨_, PSs.nox (pss_cons (ps_fld (pv 0) (pv 1) rfl) (pss_cons (ps_fld (pv 0) (pv 2) rfl) (pss_one (ps_fld (pv 0) (pv 3) rfl)))), ?_⟩
  · obtain ⟨self, dx, b, m, r, rfl, _⟩ := h
    rfl
  · obtain ⟨self, dx, b, m, r, rfl, hH, q⟩ := h
    refine ⟨b, rfl, .ref self, rfl, self, cl 1, dx, [], rfl, hH, M.k_bounds.cl, M.k_bounds.no, by decide, ?_⟩
    refine ⟨m, rfl, .ref self, rfl, self, cl 1, dx, [(("bounds" : Str), b)], rfl, upd_same, M.k_measures.cl, M.k_measures.no, by show 1 < 1000; decide, ?_⟩
    refine ⟨r, rfl, .ref self, rfl, self, cl 1, dx, _, rfl, upd_same, M.k_rows.cl, M.k_rows.no, ?_, ?_⟩
    · show (putF ("measures" : Str) m [(("bounds" : Str), b)]).length < 1000
      rw [put2]
      show 2 < 1000
      decide
    · show Q .non (upd (upd (upd H self _) self _) self (.ins (cl 1) dx (putF ("rows" : Str) r (putF ("measures" : Str) m [(("bounds" : Str), b)]))))
      rw [upd_upd, upd_upd, put2, put3]
      exact q
abbrev s_rt : Stmt := inClass (topS 46) 0
theorem sc_rt : FnScope ["self", "bounds", "measures", "rows"] ["self", "bounds", "measures", "rows"] (defScope s_rt) := ⟨rfl, rfl, rfl, by decide +kernel, rfl, by decide +kernel, by decide +kernel⟩
theorem ok_rt (M : Fx K mg cl T) {f : Addr} {fd : FuncData} (F : FnP K "__init__" "RawTable.__init__" s_rt f fd) : FnOk P w K mg base L2.CX0 2 f fd ["self", "bounds", "measures", "rows"] (spKeep (cl 1)) := by
  obtain ⟨fk, fdk, FK, hm⟩ := M.m_keep
  have G : FnOk P w K mg base L2.CX0 1 fk fdk ["self", "bounds", "measures", "rows"] (spKeep (cl 1)) := ok_keep M FK
  have bk : Binds K fdk ["self", "bounds", "measures", "rows"] [] := FK.bindsN fun _ _ _ _ _ _ us hl => match us, hl with | [_, _, _, _], _ => rfl
  refine F.ok sc_rt (fun vs H Q E h => ?_) fun cdv A outer s H vs Q E hr h => ⟨_, PSs.nox (pss_one (ps_expr (pe_meth (pv 0) M.k_bounds.cl hm G hr bk .nil L2.pass0 (pa_cons (pv 1) (pa_cons (pv 2) (pa_cons (pv 3) pa_nil)))))), ?_⟩
  · obtain ⟨self, dx, b, m, r, rfl, _⟩ := h
    rfl
  · obtain ⟨self, dx, b, m, r, rfl, hH, q⟩ := h
    exact ⟨.ref self, rfl, self, dx, [], rfl, hH, rfl, b, rfl, m, rfl, r, rfl, self, dx, b, m, r, rfl, hH, q⟩
theorem beq_dec (f k : Str) : (f == k) = decide (k = f) := by
  by_cases h : k = f
  · subst h; simp
  · rw [decide_eq_false h]; exact beq_eq_false_iff_ne.mpr fun z => h z.symm
theorem look_zip {f : Str} : ∀ {ks : List Str} {vs : List V}, (ks.zip vs).lookup f = lookZ ks vs f
  | [], _ => rfl
  | _ :: _, [] => rfl
  | k :: ks, v :: vs => by
    show (match f == k with | true => some v | false => (ks.zip vs).lookup f) = (match decide (k = f) with | true => some v | false => lookZ ks vs f)
    rw [beq_dec, look_zip]
/-- RawTable(..) -/
def spRT (cl : Nat → Addr) : Sp := spKeep (cl 1)
theorem pe_mkRawTable {X : Cx} {j : Nat} {e : Expr} {es : List Expr} {t : TA} {p pos : Pos} (hK : X.K = K) (hmg : X.mg = mg) (M : Fx K mg cl T) (hr : Room j X.A) (hk : 3 ≤ j) (hg : Gl X "RawTable") (ha : PA X (e :: es) t)
    (he : starEach (e :: es) X.env = (false, eval e X.env) :: starEach es X.env := by rfl) (hpl : (backTo pos (starEach es X.env)).any (·.1) = false := by rfl) :
    PE X (.Call (.Name "RawTable" p) (e :: es) [] pos) (tMake (cl 1) (spKeep (cl 1)) [] L2.E0 t) := by
  subst hK
  subst hmg
  obtain ⟨f, fd, F, mk, hm⟩ := M.mk_RawTable
  have b : Binds X.K fd ["self", "bounds", "measures", "rows"] [] := F.bindsN fun _ _ _ _ _ _ us hl => match us, hl with | [_, _, _, _], _ => rfl
  exact pe_make mk (ok_rt (P := X.prog) (w := X.w) (base := X.base) M F) (hr.mono hk) hg hm b .nil L2.pass0 ha (by decide) he hpl
end
section
variable {K : PySem.W.Frag} {cl : Nat → Addr} {T : List NTab} {r : Rl (gm K cl T)} {ρ : Rho} {ω : Om} {tr : TA} {ms : Option (List D)}
theorem ev_mkRawTable (h : EvA (gm K cl T) r tr ρ ω ms) : EvO (gm K cl T) r (tMake (cl 1) (spKeep (cl 1)) [] L2.E0 tr) ρ ω (ob ms mkRawTable) := fun d e O σ H E Q q => by
  obtain ⟨ds, e1, e⟩ := ob_some e
  match ds, e1, e with
  | [b, m, rr], e1, e =>
    cases e
    refine h _ e1 O σ H E _ fun vs H1 k1 i1 => ?_
    obtain ⟨vb, _, rfl, ib, vm, _, rfl, im, vr, _, rfl, ir, rfl⟩ := i1
    intro x dx hx hdx hne
    refine ⟨x, dx, vb, vm, vr, rfl, upd_same, rfl, ?_⟩
    rw [upd_upd]
    have hx2 : upd H1 dx (.own x) x = none := by rw [upd_ne (Ne.symm hne)]; exact hx
    have k2 : R (gm K cl T) r H1 (upd H1 dx (.own x)) := R.new hdx fun _ z => by cases z
    have k3 : R (gm K cl T) r (upd H1 dx (.own x)) (upd (upd H1 dx (.own x)) x (.ins (cl 1) dx (fsRT vb vm vr))) := R.new hx2 fun _ z => by cases z
    have kk := (k2.trans k3)
    have hh := (E.go k1)
    refine q _ _ (k1.trans kk) ⟨x, dx, fsRT vb vm vr, [vb, vm, vr], rfl, fun z => hh.hid x z hx, upd_same, ⟨vb, _, rfl, Is.kp (kk.kp E.sub) _ _ ib, vm, _, rfl, Is.kp (kk.kp E.sub) _ _ im, vr, _, rfl, Is.kp (kk.kp E.sub) _ _ ir, rfl⟩, rfl, fun f u hf => ?_, fun f hf => ?_⟩
    all_goals have e2 : fsRT vb vm vr = [("bounds" : Str), ("measures" : Str), ("rows" : Str)].zip [vb, vm, vr] := rfl
    · rw [e2, look_zip]
      exact hf
    · simp only [METHS, List.mem_cons, List.not_mem_nil, or_false] at hf
      rcases hf with rfl | rfl | rfl <;> rfl
  | [], _, e => cases e
  | [_], _, e => cases e
  | [_, _], _, e => cases e
  | _ :: _ :: _ :: _ :: _, _, e => cases e
end
end Z

namespace Z
open PySem PySem.Spec PyProof.Rows L2 NdefX LamX
/-- an object as it stands -/
def ExO (a : Addr) (o : Obj) : HO := .ext fun h => h.get? a = some o
theorem exO_ok {P : Program} {w : World} {H : Hp} {h : Heap} {a : Addr} {o : Obj} (e : h.get? a = some o) : ObjOk P w H h a (ExO a o) := ⟨e, ⟨o, e⟩, fun h1 h2 p k => k _ p⟩
def trackL (H : Hp) (l : List (Addr × Obj)) : Hp := fun b => match l.lookup b with
  | some o => some (ExO b o)
  | none => H b
theorem trackL_in {H : Hp} {l : List (Addr × Obj)} {b : Addr} {o : Obj} (h : l.lookup b = some o) : trackL H l b = some (ExO b o) := by unfold trackL; rw [h]
theorem trackL_out {H : Hp} {l : List (Addr × Obj)} {b : Addr} (h : l.lookup b = none) : trackL H l b = H b := by unfold trackL; rw [h]
/-- what is tracked otherwise is not in l -/
theorem trackL_old {H : Hp} {l : List (Addr × Obj)} (hn : ∀ b o, l.lookup b = some o → H b = none) {b : Addr} {u : HO} (e : H b = some u) : trackL H l b = some u := by
  cases h : l.lookup b with
  | none => rw [trackL_out h]; exact e
  | some o => rw [hn b o h] at e; cases e
section
variable {X : Cx} {pins : List (Addr × Obj)} {σ : L2.St} {H : Hp} {s : Shared}
theorem inv_track {l : List (Addr × Obj)} {h' : Heap} {t' : Nat} (I : Inv X pins σ H s) (hk : ∀ b o, s.heap.get? b = some o → h'.get? b = some o) (hl : ∀ b o, l.lookup b = some o → s.heap.objs.size ≤ b ∧ h'.get? b = some o) : Inv X pins σ (trackL H l) { s with heap := h', toks := t' } := by
  have hn : ∀ b o, l.lookup b = some o → H b = none := fun b o e => I.hok.fresh (hl b o e).1
  have old : ∀ {b u}, H b = some u → trackL H l b = some u := fun {b u} e => trackL_old hn e
  refine I.un (t' := t') ⟨fun b o e _ _ _ => hk b o e, fun b o e _ _ _ => ⟨o.slots, hk b o e⟩, fun b o e n _ => ?_, fun b o e _ => ⟨o, hk b o e⟩, fun b xs e => old e, fun b o u e => old e, fun b ps e => ⟨#[], by rw [old e]; simp⟩⟩ fun b u e => ?_
  · cases h : l.lookup b with
    | none => rw [trackL_out h]; exact n
    | some o' => exact absurd (Nat.lt_of_lt_of_le (Heap.lt_size e) (hl b o' h).1) (Nat.lt_irrefl _)
  · cases h : l.lookup b with
    | none =>
      rw [trackL_out h] at e
      exact (I.hok b u e).stay (fun c v _ q => hk c v q) (fun c q => old q) fun c xs q => old q
    | some o' =>
      rw [trackL_in h] at e
      cases e
      exact exO_ok (hl b o' h).2
theorem inv_untrack {l : List (Addr × Obj)} (I : Inv X pins σ (trackL H l) s) (hn : ∀ b o, l.lookup b = some o → H b = none) : Inv X pins σ H s := by
  have old : ∀ {b u}, trackL H l b = some u → (∀ ψ, u ≠ .ext ψ) → H b = some u := fun {b u} e n => by
    cases h : l.lookup b with
    | none => rw [trackL_out h] at e; exact e
    | some o => rw [trackL_in h] at e; exact absurd (Option.some.inj e).symm (n _)
  have non : ∀ {b}, trackL H l b = none → H b = none := fun {b} e => by
    cases h : l.lookup b with
    | none => rw [trackL_out h] at e; exact e
    | some o => rw [trackL_in h] at e; cases e
  refine I.un (t' := s.toks) ⟨fun b o e _ _ _ => e, fun b o e _ _ _ => ⟨o.slots, e⟩, fun b o e n _ => non n, fun b o e _ => ⟨o, e⟩, fun b xs e => old e (fun _ z => by cases z), fun b o u e => old e (fun _ z => by cases z), fun b ps e => ⟨#[], by rw [old e (fun _ z => by cases z)]; simp⟩⟩ fun b u e => ?_
  exact (I.hok b u (trackL_old hn e)).stay (fun c v _ q => q) (fun c q => old q fun _ z => by cases z) fun c xs q => old q fun _ z => by cases z
theorem fp_untrack {l : List (Addr × Obj)} {a : Addr} {o : Obj} (I : Inv X pins σ (trackL H l) s) (hn : ∀ b o, l.lookup b = some o → H b = none) (h : l.lookup a = some o) (ha : X.s_0.heap.objs.size ≤ a) : FpOk X pins H a := by
  have e := trackL_in (H := H) h
  refine ⟨hn a o h, fun z => ?_, fun z => ?_, .inr ha, fun x c e' z => ?_, fun p hp z => ?_⟩
  · rw [z, I.free] at e
    cases e
  · obtain ⟨_, ob, ho, _⟩ := I.ok.funs.mem z
    exact absurd (Nat.lt_of_lt_of_le (Heap.lt_size ho) ha) (Nat.lt_irrefl _)
  · have q := I.freeC x c e'
    rw [z, e] at q
    cases q
  · have q := (I.pin p hp).2.1
    rw [z, e] at q
    cases q
end
theorem lk_mem : ∀ {l : List (Addr × Obj)} {b : Addr} {o : Obj}, l.lookup b = some o → (b, o) ∈ l
  | [], _, _, h => by cases h
  | (c, u) :: l, b, o, h => by
    have h : (match b == c with | true => some u | false => l.lookup b) = some o := h
    cases e : b == c with
    | true =>
      rw [e] at h
      cases h
      rw [eq_of_beq e]
      exact List.mem_cons_self
    | false =>
      rw [e] at h
      exact List.mem_cons_of_mem _ (lk_mem h)
/-- a tuple's iterator at its start -/
def ItOb (a : Addr) (o : Obj) : Prop := o.cls = .type "tuple_iterator" ∧ o.data = .fields #[.ref a, .int 0 0]
/-- the objects of zip(a, b, c) made at n -/
def zl (n : Nat) (o1 o2 o3 : Obj) : List (Addr × Obj) := [(n, o1), (n + 1, o2), (n + 2, o3), (n + 3, { cls := .type "tuple", data := .seq #[.ref n, .ref (n + 1), .ref (n + 2)] }), (n + 4, { cls := .type "tuple", data := .seq #[.none, .none, .none] }),
  (n + 5, { cls := .type "zip", dict := none, data := .fields #[.none, .bool false, .bool false, .ref (n + 3), .ref (n + 4)], slots := #[] })]
theorem lk_ne {n j : Nat} (h : j ≠ 0) : ((n + j : Nat) == n) = false := beq_eq_false_iff_ne.mpr (by omega)
theorem zl_0 {n : Nat} {o1 o2 o3 : Obj} : (zl n o1 o2 o3).lookup (n : Nat) = some o1 := by simp [zl, List.lookup]
theorem zl_1 {n : Nat} {o1 o2 o3 : Obj} : (zl n o1 o2 o3).lookup (n + 1 : Nat) = some o2 := by
  have : ((n + 1 : Nat) == n) = false := beq_eq_false_iff_ne.mpr (by omega)
  simp [zl, List.lookup, this]
theorem zl_2 {n : Nat} {o1 o2 o3 : Obj} : (zl n o1 o2 o3).lookup (n + 2 : Nat) = some o3 := by
  have h0 : ((n + 2 : Nat) == n) = false := beq_eq_false_iff_ne.mpr (by omega)
  have h1 : ((n + 2 : Nat) == n + 1) = false := beq_eq_false_iff_ne.mpr (by omega)
  simp only [zl, List.lookup, h0, h1, beq_self_eq_true]
theorem zl_3 {n : Nat} {o1 o2 o3 : Obj} : (zl n o1 o2 o3).lookup (n + 3 : Nat) = some { cls := .type "tuple", data := .seq #[.ref n, .ref (n + 1), .ref (n + 2)] } := by
  have h0 : ((n + 3 : Nat) == n) = false := beq_eq_false_iff_ne.mpr (by omega)
  have h1 : ((n + 3 : Nat) == n + 1) = false := beq_eq_false_iff_ne.mpr (by omega)
  have h2 : ((n + 3 : Nat) == n + 2) = false := beq_eq_false_iff_ne.mpr (by omega)
  simp only [zl, List.lookup, h0, h1, h2, beq_self_eq_true]
theorem zl_4 {n : Nat} {o1 o2 o3 : Obj} : (zl n o1 o2 o3).lookup (n + 4 : Nat) = some { cls := .type "tuple", data := .seq #[.none, .none, .none] } := by
  have h0 : ((n + 4 : Nat) == n) = false := beq_eq_false_iff_ne.mpr (by omega)
  have h1 : ((n + 4 : Nat) == n + 1) = false := beq_eq_false_iff_ne.mpr (by omega)
  have h2 : ((n + 4 : Nat) == n + 2) = false := beq_eq_false_iff_ne.mpr (by omega)
  have h3 : ((n + 4 : Nat) == n + 3) = false := beq_eq_false_iff_ne.mpr (by omega)
  simp only [zl, List.lookup, h0, h1, h2, h3, beq_self_eq_true]
theorem zl_5 {n : Nat} {o1 o2 o3 : Obj} : (zl n o1 o2 o3).lookup (n + 5 : Nat) = some { cls := .type "zip", dict := none, data := .fields #[.none, .bool false, .bool false, .ref (n + 3), .ref (n + 4)], slots := #[] } := by
  have h0 : ((n + 5 : Nat) == n) = false := beq_eq_false_iff_ne.mpr (by omega)
  have h1 : ((n + 5 : Nat) == n + 1) = false := beq_eq_false_iff_ne.mpr (by omega)
  have h2 : ((n + 5 : Nat) == n + 2) = false := beq_eq_false_iff_ne.mpr (by omega)
  have h3 : ((n + 5 : Nat) == n + 3) = false := beq_eq_false_iff_ne.mpr (by omega)
  have h4 : ((n + 5 : Nat) == n + 4) = false := beq_eq_false_iff_ne.mpr (by omega)
  simp only [zl, List.lookup, h0, h1, h2, h3, h4, beq_self_eq_true]
def tZip3V (K : PySem.W.Frag) (n0 : Nat) (ta : TA) : TE := fun σ H Q => ta σ H fun vs H1 => ∃ (a b c : Nat) (xs ys zs : List V), vs = [.ref a, .ref b, .ref c] ∧ SqT K H1 a xs ∧ SqT K H1 b ys ∧ SqT K H1 c zs ∧
  ∀ (n : Nat) (o1 o2 o3 : Obj), ItOb a o1 → ItOb b o2 → ItOb c o3 → (∀ b o, (zl n o1 o2 o3).lookup b = some o → H1 b = none) → n0 ≤ n → a < n → b < n → c < n → Q (.ref (n + 5)) (trackL H1 (zl n o1 o2 o3))
theorem pe_zip3v {X : Cx} {e e2 e3 : Expr} {ta : TA} {p pos : Pos} (hg : Gl X "zip") (hm : X.mg "zip" = none) (ha : PA X [e, e2, e3] ta)
    (hs : starEach [e, e2, e3] X.env = (false, eval e X.env) :: starEach [e2, e3] X.env := by rfl) (hpl : (backTo pos (starEach [e2, e3] X.env)).any (·.1) = false := by rfl) :
    PE X (.Call (.Name "zip" p) [e, e2, e3] [] pos) (tZip3V X.K X.s_0.heap.objs.size ta) := by
  refine ⟨fun pins s σ H Q I h => ?_⟩
  refine Call_ (ld_blt I hg hm PyProof.Rows.boot_zip (PyProof.Rows.callWith_type1 (thn (ha.run pos pins s σ H _ I h) fun us s1 ⟨vs, H1, I1, r1, q1⟩ => ?_) hs hpl))
  obtain ⟨a, b, c, xs, ys, zs, ex, hqx, hqy, hqz, q⟩ := q1
  subst ex
  cases r1 with
  | cons r rr =>
    cases rr with
    | cons r' rr =>
      cases rr with
      | cons r'' rr =>
        cases rr
        cases r
        cases r'
        cases r''
        obtain ⟨its, rv, p1, _⟩ := I1.tuple hqx
        obtain ⟨its2, rv2, p2, _⟩ := I1.tuple hqy
        obtain ⟨its3, rv3, p3, _⟩ := I1.tuple hqz
        obtain ⟨o1, ho1, _⟩ := id p1
        obtain ⟨o2, ho2, _⟩ := id p2
        obtain ⟨o3, ho3, _⟩ := id p3
        refine call_zt (show s1.heap.IsTuple a its.toArray from p1) (show s1.heap.IsTuple b its2.toArray from p2) (show s1.heap.IsTuple c its3.toArray from p3) fun h' hz hTI hTO h1 h2 h3 hsz hk => ?_
        obtain ⟨q1, g1, c1, d1⟩ := h1
        obtain ⟨q2, g2, c2, d2⟩ := h2
        obtain ⟨q3, g3, c3, d3⟩ := h3
        have hl : ∀ b o, (zl s1.heap.objs.size q1 q2 q3).lookup b = some o → s1.heap.objs.size ≤ b ∧ h'.get? b = some o := fun b o e => by
          have hm := lk_mem e
          simp only [zl, List.mem_cons, Prod.mk.injEq, List.not_mem_nil, or_false] at hm
          rcases hm with ⟨rfl, rfl⟩ | ⟨rfl, rfl⟩ | ⟨rfl, rfl⟩ | ⟨rfl, rfl⟩ | ⟨rfl, rfl⟩ | ⟨rfl, rfl⟩
          · exact ⟨Nat.le_refl _, g1⟩
          · exact ⟨Nat.le_add_right _ _, g2⟩
          · exact ⟨Nat.le_add_right _ _, g3⟩
          · exact ⟨Nat.le_add_right _ _, hTI⟩
          · exact ⟨Nat.le_add_right _ _, hTO⟩
          · exact ⟨Nat.le_add_right _ _, hz⟩
        exact ⟨.ref (s1.heap.objs.size + 5), _, inv_track (t' := s1.toks) I1 hk hl, rfl, q _ q1 q2 q3 ⟨c1, d1⟩ ⟨c2, d2⟩ ⟨c3, d3⟩ (fun b o e => I1.hok.fresh (hl b o e).1) I1.sz (Heap.lt_size ho1) (Heap.lt_size ho2) (Heap.lt_size ho3)⟩
/-- for .. in z, z the name of such a zip -/
def iZv (K : PySem.W.Frag) (n0 : Nat) (k : Nat) : TI := fun σ H R => ∃ (n a b c : Nat) (o1 o2 o3 : Obj) (H1 : Hp), σ[k]? = some (some (.ref (n + 5))) ∧ H = trackL H1 (zl n o1 o2 o3) ∧ ItOb a o1 ∧ ItOb b o2 ∧ ItOb c o3 ∧
  (∀ b o, (zl n o1 o2 o3).lookup b = some o → H1 b = none) ∧ n0 ≤ n ∧ a < n ∧ b < n ∧ c < n ∧ R (Itzt K a b c) H1
theorem pi_zv {X : Cx} {k : Nat} {x : Str} {p tpos : Pos} {elts : List Expr} {kk : Nat} (hN : X.N[k]? = some x) (hv : Vis X.env.scope x) (hd : (x == ("__debug__" : Str)) = false := by decide) (hcd : (x == ("__classdict__" : Str)) = false := by decide) :
    PI X (.Tuple elts kk tpos) (.Name x p) (iZv X.K X.s_0.heap.objs.size k) := by
  refine ⟨fun pins s σ H R I h => ?_⟩
  obtain ⟨n, a, b, c, o1, o2, o3, H1, hs, eH, i1, i2, i3, hn, hn0, la, lb, lc, q⟩ := h
  subst eH
  refine thn ((pe_var (pos := p) (i := k) hN hv hd hcd).run pins s σ _ (fun v H2 => v = .ref (n + 5) ∧ H2 = trackL H1 (zl n o1 o2 o3)) I ⟨.ref (n + 5), hs, rfl, rfl⟩) fun u s1 ⟨v, H2, I1, r1, ev, eH⟩ => ?_
  subst ev
  subst eH
  cases r1
  have at_ : ∀ {b o}, (zl n o1 o2 o3).lookup b = some o → s1.heap.get? b = some o := fun {b o} e => (I1.hok b _ (trackL_in e)).1
  have hz : IsZip s1.heap (n + 5) (n + 3) (n + 4) .none := at_ zl_5
  refine wpAny_pyIter_zip hz ?_
  have fp : ∀ {b o}, (zl n o1 o2 o3).lookup b = some o → FpOk X pins H1 b := fun {b o} e => fp_untrack I1 hn e (by
    have hm := lk_mem e
    simp only [zl, List.mem_cons, Prod.mk.injEq, List.not_mem_nil, or_false] at hm
    rcases hm with ⟨rfl, _⟩ | ⟨rfl, _⟩ | ⟨rfl, _⟩ | ⟨rfl, _⟩ | ⟨rfl, _⟩ | ⟨rfl, _⟩
    · exact hn0
    · exact Nat.le_trans hn0 (Nat.le_add_right _ _)
    · exact Nat.le_trans hn0 (Nat.le_add_right _ _)
    · exact Nat.le_trans hn0 (Nat.le_add_right _ _)
    · exact Nat.le_trans hn0 (Nat.le_add_right _ _)
    · exact Nat.le_trans hn0 (Nat.le_add_right _ _))
  refine ⟨n + 5, [n + 5, n + 3, n + 4, n, n + 1, n + 2], _, _, H1, rfl, inv_untrack I1 hn, turn_zt la lb lc, ⟨hz, at_ zl_3, ⟨_, _, _, at_ zl_4⟩, ⟨o1, at_ zl_0, i1⟩, ⟨o2, at_ zl_1, i2⟩, ⟨o3, at_ zl_2, i3⟩⟩, fun d hd => ?_, q⟩
  simp only [List.mem_cons, List.not_mem_nil, or_false] at hd
  rcases hd with rfl | rfl | rfl | rfl | rfl | rfl
  · exact fp zl_5
  · exact fp zl_3
  · exact fp zl_4
  · exact fp zl_0
  · exact fp zl_1
  · exact fp zl_2
end Z

namespace Z
open PySem PySem.Spec PyProof.Rows L2 NdefX LamX
section
variable {g : Gm} {r : Rl g} {H0 H H' : Hp} {O0 O : Addr → Prop} {σ : L2.St} {ρ : Rho} {ω : Om}
theorem Env.forget {i : Nat} {x : Option V} (E : Env g r O σ H ρ none) (hi : ρ[i]? = some none) : Env g r O (σ.set i x) H ρ none :=
  ⟨by rw [List.length_set, E.len], fun j d e => by
    have hj : i ≠ j := fun z => by subst z; rw [hi] at e; cases e
    obtain ⟨v, h1, h2⟩ := E.at_ j d e
    exact ⟨v, by rw [List.getElem?_set_ne hj]; exact h1, h2⟩, E.sub, E.hid, E.out, E.tabs, E.J, fun i c z => by cases z⟩
theorem rb_zip3v {n0 i : Nat} {t1 t2 t3 te : TE} {m m2 m3 : Option D} {tg : TG} {un : D → Option (List D)} {js vs : List Nat} {f : List D → Option D} (h1 : EvO g r t1 ρ none m) (h2 : EvO g r t2 ρ none m2) (h3 : EvO g r t3 ρ none m3) (hi : ρ[i]? = some none)
    (ht : TgO g tg un js) (hjs : ∀ j ∈ js, j ∈ vs) (hb : ∀ ds, EvO g r te (setM (wipeR ρ vs) js ds) none (f ds)) :
    RdB g r (tSeq (tAsg (tZip3V g.K n0 (tCons t1 (tCons t2 (tCons t3 tNil)))) (gName i)) (tRet (tCB (rAll g.K) (tCons (tLc (iZv g.K n0 i) tg tYes te vs) tNil)))) ρ none (ob (lCons (ob (o3 dzip3 m m2 m3) (lcO un js.length f)) (some [])) (d1 dall)) := fun d e H0 O0 O σ H D E q => by
  obtain ⟨ds, e1, e2⟩ := ob_some e
  obtain ⟨lv, e3, e4⟩ := ob_some e1
  cases e4
  obtain ⟨its, e7, e8⟩ := ob_some e3
  obtain ⟨x1, x2, x3, f1, f2, f3, f4⟩ := o3_some e7
  obtain ⟨as, bs, cs, g1, g2, g3, g4⟩ := o3_some f4
  cases g4
  refine h1 _ f1 O σ H E.env _ fun v1 H1 k1 i1 => ?_
  refine h2 _ f2 O σ H1 (E.env.go k1) _ fun v2 H2 k2 i2 => ?_
  refine h3 _ f3 O σ H2 ((E.env.go k1).go k2) _ fun v3 H3 k3 i3 => ?_
  have kk := (k1.trans k2).trans k3
  obtain ⟨a, xs, rfl, ha, ia⟩ := srcT (Is.kp (k3.kp E.env.sub) _ _ (Is.kp (k2.kp E.env.sub) _ _ i1)) g1
  obtain ⟨b, ys, rfl, hb', ib⟩ := srcT (Is.kp (k3.kp E.env.sub) _ _ i2) g2
  obtain ⟨c, zs, rfl, hc, ic⟩ := srcT i3 g3
  refine ⟨a, b, c, xs, ys, zs, rfl, ha _ Kp.refl, hb' _ Kp.refl, hc _ Kp.refl, fun n o1 o2 o3 j1 j2 j3 hn hn0 la lb lc => ?_⟩
  show tLc (iZv g.K n0 i) tg tYes te vs (σ.set i (some (.ref (n + 5)))) (trackL H3 (zl n o1 o2 o3)) (fun v H4 => rAll g.K [v] H4 D.rt)
  have E3 : Env g r O (σ.set i (some (.ref (n + 5)))) H3 ρ none := (E.env.go kk).forget hi
  have hlt : i < σ.length := by
    rw [E.env.len]
    exact (List.getElem?_eq_some_iff.mp hi).1
  have hit : ItAt g r (fun σ' H' Rk => iZv g.K n0 i σ' (trackL H3 (zl n o1 o2 o3)) Rk) O (σ.set i (some (.ref (n + 5)))) H3 (zip3 as bs cs) := fun Rk q =>
    ⟨n, a, b, c, o1, o2, o3, H3, List.getElem?_set_self hlt, rfl, j1, j2, j3, hn, hn0, la, lb, lc, q _ H3 R.refl (wk_zip3 ha hb' hc ia ib ic)⟩
  exact lc_at (wi := fun σ' H' Rk => iZv g.K n0 i σ' (trackL H3 (zl n o1 o2 o3)) Rk) E3 hit ht hjs hvN hb e8 (fun v H4 => rAll g.K [v] H4 D.rt) fun v H4 k4 i4 => by
    have E4 := E3.go k4
    exact rc_all [lv] d e2 O H4 E4.sub E4.hid [v] (IsL.one i4) D.rt fun w H5 k5 i5 => q w H5 (E.r.trans ((kk.trans k4).trans k5)) (((E.go kk).go (k4.trans k5)).ret i5)
end
section
variable {P : Program} {w : World} {K : PySem.W.Frag} {mg : Str → Option Value} {base : Heap} {cl : Nat → Addr} {T : List NTab}
def b_goes_evenly (line number measure : D) : Option D :=
  ob (lCons (ob (o3 dzip3 (o2 dixS (some line) (some number)) (o2 dixS (some line) (o2 dadd (some number) (some measure))) (o2 dixS (some line) (o2 dadd (some number) (o2 dmul (some (.int 2)) (some measure)))))
    (lcO unT 3 (ar3 fun first second third => o2 deqD (o2 dsub (some third) (some second)) (o2 dsub (some second) (some first))))) (some [])) (d1 dall)
def m_goes_evenly : List D → Option D := ar3 b_goes_evenly
abbrev s_goes_evenly : Stmt := topS 59
theorem sc_goes_evenly : FnScope ["line", "number", "measure", "rows", "first", "second", "third"] ["line", "number", "measure"] (defScope s_goes_evenly) := ⟨rfl, rfl, rfl, by decide +kernel, rfl, by decide +kernel, by decide +kernel⟩
theorem c_goes_evenly (M : Fx K mg cl T) : Cal P w K mg base 1 "goes_evenly" (spD (gm K cl T) m_goes_evenly) := by
  obtain ⟨f, fd, F, hm⟩ := M.f_goes_evenly
  refine cal3 F hm sc_goes_evenly rfl (fun _ _ _ _ _ _ us hl => match us, hl with | [_, _, _], _ => rfl) fun cdv A outer s H E hr => ⟨_, (pss_cons (ps_set (i := 3) sc_goes_evenly.nd rfl (.inl rfl) (pe_zip3v rfl M.n_zip (pa_cons (pe_ix ix_seq (pv 0) (pv 1) (fun _ _ => rfl)) (pa_cons (pe_ix ix_seq (pv 0) (pe_op op_addD (pv 1) (pv 2)) (fun _ _ => rfl)) (pa_cons (pe_ix ix_seq (pv 0) (pe_op op_addD (pv 1) (pe_op op_mulD pe_int (pv 2))) (fun _ _ => rfl)) pa_nil))))) (pss_one (ps_ret (pe_callB (call_all rfl) (by rfl) M.n_all (by decide +kernel) (pa_cons (pe_lc (own := [("first", 4), ("second", 5), ("third", 6)]) rfl sc_goes_evenly.nd (pi_zv (k := 3) rfl (.inl rfl)) (blkOk_by (by kernel_rfl)) (fun _ _ _ _ _ => (pg_tup rfl (pgs_cons (pg_name (i := 4) sc_goes_evenly.nd rfl (.inl rfl)) (pgs_cons (pg_name (i := 5) sc_goes_evenly.nd rfl (.inl rfl)) (pgs_cons (pg_name (i := 6) sc_goes_evenly.nd rfl (.inl rfl)) pgs_nil))))) (fun _ _ _ _ _ => pts_nil) (fun _ _ _ _ _ => (pe_cmpR (op_eqA hr.units) (pe_op op_sub (pv 6) (pv 5)) (pe_op op_sub (pv 5) (pv 4)) (nomark _)))) pa_nil))))), fun line number measure => (atB [some line, some number, some measure, none, none, none, none] (rb_zip3v (ev_ix (ev_var rfl) (ev_var rfl)) (ev_ix (ev_var rfl) (ev_op rv_add (ev_var rfl) (ev_var rfl))) (ev_ix (ev_var rfl) (ev_op rv_add (ev_var rfl) (ev_op rv_mul ev_int (ev_var rfl)))) rfl tg_3 (by decide) (ev_ar3 fun first second third => (atE [some line, some number, some measure, none, some first, some second, some third] (ev_op rv_eq (ev_op rv_sub (ev_var rfl) (ev_var rfl)) (ev_op rv_sub (ev_var rfl) (ev_var rfl)))))))⟩
end
end Z

namespace Z
open PySem PySem.Spec PyProof.Rows L2 NdefX LamX
section
variable {P : Program} {w : World} {K : PySem.W.Frag} {mg : Str → Option Value} {base : Heap} {cl : Nat → Addr} {T : List NTab}
def b_is_name (thing1 : D) : Option D := oif (dtest (ob (some thing1) fun x => obl (isSk x))) (oif (dtest (dchain dleD dleD (some (.int 1)) (ob (lCons (some thing1) (some [])) (d1 dlen)) (some (.int 8)))) (ob (lCons (ob (ob (some thing1) dsigns) (lcO un1 1 (ar1 fun sign2 => dchain dleD dleD (some (.str ("a" : Str))) (some sign2) (some (.str ("z" : Str)))))) (some [])) (d1 dall)) (some (.bl false))) (some (.bl false))
def m_is_name : List D → Option D := ar1 b_is_name

abbrev s_is_name : Stmt := topS 8
theorem sc_is_name : FnScope ["thing", "sign"] ["thing"] (defScope s_is_name) := ⟨rfl, rfl, rfl, by decide +kernel, rfl, by decide +kernel, by decide +kernel⟩

theorem c_is_name (M : Fx K mg cl T) : Cal P w K mg base 1 "is_name" (spD (gm K cl T) m_is_name) := by
  obtain ⟨f, fd, F, hm⟩ := M.f_is_name
  refine cal1 F hm sc_is_name rfl (fun _ _ _ _ _ _ us hl => match us, hl with | [_], _ => rfl) fun cdv A outer s H E hr => ⟨_, (pss_one (ps_ret (pe_and (pe_callB call_isi (by rfl) M.n_isinstance (by decide +kernel) (pa_cons (pv 0) (pa_cons (pe_bltn (v := .ty "str") (u := .type "str") (by rfl) M.n_str (by decide +kernel) rfl) pa_nil))) (pe_and (pe_chain op_leD op_leD pe_int (pe_callB call_lenS (by rfl) M.n_len (by decide +kernel) (pa_cons (pv 0) pa_nil)) pe_int) (pe_one (pe_callB (call_all rfl) (by rfl) M.n_all (by decide +kernel) (pa_cons (pe_lc (own := [("sign", 1)]) rfl sc_is_name.nd (pi_str (pv 0)) (blkOk_by (by kernel_rfl)) (fun _ _ _ _ _ => (pg_name (i := 1) sc_is_name.nd rfl (.inl rfl))) (fun _ _ _ _ _ => pts_nil) (fun _ _ _ _ _ => (pe_chain op_leD op_leD pe_str (pv 1) pe_str))) pa_nil))))))), fun thing1 => (atB [some thing1, none] (rb_ret (ev_and (ev_isinst isSk_ok (ev_var rfl)) (ev_and (ev_chain rv_le rv_le ev_int (ev_cb rc_len (ea_cons (ev_var rfl) ea_nil)) ev_int) (ev_cb rc_all (ea_cons (ev_lc (it_str (ev_var rfl)) tg_name (by decide) hvN (ev_ar1 fun sign2 => (atE [some thing1, some sign2] (ev_chain rv_le rv_le ev_str (ev_var rfl) ev_str)))) ea_nil))))))⟩

def b_are_names (thing3 least4 most5 : D) : Option D := oif (oif (ob (dtest (ob (some thing3) fun x => obl (isTk x))) fun b => some (!b)) (some true) (ob (dtest (dchain dleD dleD (some least4) (ob (lCons (some thing3) (some [])) (d1 dlen)) (some most5))) fun b => some (!b))) (some (.bl false)) (oif (dtest (ob (lCons (ob (ob (some thing3) ditems) (lcO un1 1 (ar1 fun item6 => ob (lCons (some item6) (some [])) m_is_name))) (some [])) (d1 dall))) (o2 deqD (ob (some thing3) dlenset) (ob (lCons (some thing3) (some [])) (d1 dlen))) (some (.bl false)))
def m_are_names : List D → Option D := ar3 b_are_names

abbrev s_are_names : Stmt := topS 9
theorem sc_are_names : FnScope ["thing", "least", "most", "item"] ["thing", "least", "most"] (defScope s_are_names) := ⟨rfl, rfl, rfl, by decide +kernel, rfl, by decide +kernel, by decide +kernel⟩

theorem c_are_names (M : Fx K mg cl T) : Cal P w K mg base 2 "are_names" (spD (gm K cl T) m_are_names) := by
  obtain ⟨f, fd, F, hm⟩ := M.f_are_names
  refine cal3 F hm sc_are_names rfl (fun _ _ _ _ _ _ us hl => match us, hl with | [_, _, _], _ => rfl) fun cdv A outer s H E hr => ⟨_, (pss_cons (ps_if (PW.pt (pw_or (pt_not (pt_val (pe_callB call_isi (by rfl) M.n_isinstance (by decide +kernel) (pa_cons (pv 0) (pa_cons (pe_bltn (v := .ty "tuple") (u := .type "tuple") (by rfl) M.n_tuple (by decide +kernel) rfl) pa_nil))))) (pw_or1 (pt_not (pt_chain op_leD op_leD (pv 1) (pe_callB call_lenS (by rfl) M.n_len (by decide +kernel) (pa_cons (pv 0) pa_nil)) (pv 2)))))) (pss_one (ps_ret pe_bl)) pss_nil) (pss_one (ps_ret (pe_and (pe_callB (call_all rfl) (by rfl) M.n_all (by decide +kernel) (pa_cons (pe_lc (own := [("item", 3)]) rfl sc_are_names.nd (pi_seq (pv 0)) (blkOk_by (by kernel_rfl)) (fun _ _ _ _ _ => (pg_name (i := 3) sc_are_names.nd rfl (.inl rfl))) (fun _ _ _ _ _ => pts_nil) (fun _ _ _ _ _ => (pe_cl (c_is_name M) hr (by decide) rfl (pa_cons (pv 3) pa_nil)))) pa_nil)) (pe_one (pe_cmpR (op_eqA hr.units) (pe_lenset rfl rfl M.n_len rfl M.n_set (pv 0)) (pe_callB call_lenS (by rfl) M.n_len (by decide +kernel) (pa_cons (pv 0) pa_nil)) (nomark _))))))), fun thing3 least4 most5 => (atB [some thing3, some least4, some most5, none] (rb_ifseq (et_or (et_not (et_B (ev_isinst isTk_ok (ev_var rfl)))) (et_not (et_T (ev_chain rv_le rv_le (ev_var rfl) (ev_cb rc_len (ea_cons (ev_var rfl) ea_nil)) (ev_var rfl))))) (atB [some thing3, some least4, some most5, none] (rb_ret ev_bl)) (atB [some thing3, some least4, some most5, none] (rb_ret (ev_and (ev_cb rc_all (ea_cons (ev_lc (it_seq (ev_var rfl)) tg_name (by decide) hvN (ev_ar1 fun item6 => (atE [some thing3, some least4, some most5, some item6] (ev_call (ea_cons (ev_var rfl) ea_nil))))) ea_nil)) (ev_op rv_eq (ev_lenset (ev_var rfl)) (ev_cb rc_len (ea_cons (ev_var rfl) ea_nil))))))))⟩

def b_common_divisor (one7 other8 : D) : Option D := ob (ob (lCons (some one7) (some [])) (d1 dabs)) fun one9 => ob (ob (lCons (some other8) (some [])) (d1 dabs)) fun other10 => ob (whileO (ar2 fun one11 other12 => dtest (o2 dgtD (some other12) (some (.int 0)))) (ar2 fun one13 other14 => ob (ob (lCons (some other14) (lCons (o2 dmod (some one13) (some other14)) (some []))) (ckL 2)) (ar2 fun one15 other16 => some [one15, other16])) 300 [one9, other10]) (ar2 fun one17 other18 => some one17)
def m_common_divisor : List D → Option D := ar2 b_common_divisor

abbrev s_common_divisor : Stmt := topS 11
theorem sc_common_divisor : FnScope ["one", "other"] ["one", "other"] (defScope s_common_divisor) := ⟨rfl, rfl, rfl, by decide +kernel, rfl, by decide +kernel, by decide +kernel⟩

theorem c_common_divisor (M : Fx K mg cl T) : Cal P w K mg base 1 "common_divisor" (spD (gm K cl T) m_common_divisor) := by
  obtain ⟨f, fd, F, hm⟩ := M.f_common_divisor
  refine cal2 F hm sc_common_divisor rfl (fun _ _ _ _ _ _ us hl => match us, hl with | [_, _], _ => rfl) fun cdv A outer s H E hr => ⟨_, (pss_cons (ps_set (i := 0) sc_common_divisor.nd rfl (.inl rfl) (pe_callB call_abs' (by rfl) M.n_abs (by decide +kernel) (pa_cons (pv 0) pa_nil))) (pss_cons (ps_set (i := 1) sc_common_divisor.nd rfl (.inl rfl) (pe_callB call_abs' (by rfl) M.n_abs (by decide +kernel) (pa_cons (pv 1) pa_nil))) (pss_cons (ps_while PassesOwn.never (pt_cmpR op_gt (pv 1) pe_int (nomark _)) (pss_one (ps_par (i := 0) (j := 1) rfl sc_common_divisor.nd rfl rfl (by decide) rfl rfl (pa_cons (pv 1) (pa_cons (pe_op op_modN (pv 0) (pv 1)) pa_nil)) rfl))) (pss_one (ps_ret (pv 0)))))), fun one7 other8 => (atB [some one7, some other8] (rb_seq (rn_set (ev_cb rc_abs (ea_cons (ev_var rfl) ea_nil)) h1N) fun one9 => (atB [some one9, some other8] (rb_seq (rn_set (ev_cb rc_abs (ea_cons (ev_var rfl) ea_nil)) h1N) fun other10 => (atB [some one9, some other10] (rb_seq (rn_whileS (js' := [0, 1]) (by exact ⟨rfl, ⟨rfl, True.intro⟩⟩) (et_ar2 fun one11 other12 => (atT [some one11, some other12] (et_T (ev_op rv_gt (ev_var rfl) ev_int)))) (rn_ar2 fun one13 other14 => (atN [some one13, some other14] (rn_last (rn_par (ea_cons (ev_var rfl) (ea_cons (ev_op rv_mod (ev_var rfl) (ev_var rfl)) ea_nil)) h1N h1N) (rn_ar2 fun one15 other16 => (atN [some one15, some other16] (rn_end (by exact ⟨rfl, ⟨rfl, True.intro⟩⟩) rfl))))))) (rb_ar2 fun one17 other18 => (atB [some one17, some other18] (rb_ret (ev_var rfl))))))))))⟩

def b_common_multiple (one19 other20 : D) : Option D := o2 dmul (o2 dfdiv (some one19) (ob (lCons (some one19) (lCons (some other20) (some []))) m_common_divisor)) (some other20)
def m_common_multiple : List D → Option D := ar2 b_common_multiple

abbrev s_common_multiple : Stmt := topS 12
theorem sc_common_multiple : FnScope ["one", "other"] ["one", "other"] (defScope s_common_multiple) := ⟨rfl, rfl, rfl, by decide +kernel, rfl, by decide +kernel, by decide +kernel⟩

theorem c_common_multiple (M : Fx K mg cl T) : Cal P w K mg base 2 "common_multiple" (spD (gm K cl T) m_common_multiple) := by
  obtain ⟨f, fd, F, hm⟩ := M.f_common_multiple
  refine cal2 F hm sc_common_multiple rfl (fun _ _ _ _ _ _ us hl => match us, hl with | [_, _], _ => rfl) fun cdv A outer s H E hr => ⟨_, (pss_one (ps_ret (pe_op op_mulD (pe_op op_fdivN (pv 0) (pe_cl (c_common_divisor M) hr (by decide) rfl (pa_cons (pv 0) (pa_cons (pv 1) pa_nil)))) (pv 1)))), fun one19 other20 => (atB [some one19, some other20] (rb_ret (ev_op rv_mul (ev_op rv_fdiv (ev_var rfl) (ev_call (ea_cons (ev_var rfl) (ea_cons (ev_var rfl) ea_nil)))) (ev_var rfl))))⟩

def b_divided_up (number21 divisor22 : D) : Option D := ob (o2 dfdiv (ob (some number21) dneg) (some divisor22)) dneg
def m_divided_up : List D → Option D := ar2 b_divided_up

abbrev s_divided_up : Stmt := topS 13
theorem sc_divided_up : FnScope ["number", "divisor"] ["number", "divisor"] (defScope s_divided_up) := ⟨rfl, rfl, rfl, by decide +kernel, rfl, by decide +kernel, by decide +kernel⟩

theorem c_divided_up (M : Fx K mg cl T) : Cal P w K mg base 1 "divided_up" (spD (gm K cl T) m_divided_up) := by
  obtain ⟨f, fd, F, hm⟩ := M.f_divided_up
  refine cal2 F hm sc_divided_up rfl (fun _ _ _ _ _ _ us hl => match us, hl with | [_, _], _ => rfl) fun cdv A outer s H E hr => ⟨_, (pss_one (ps_ret (pe_un un_neg (pe_op op_fdivN (pe_un un_neg (pv 0)) (pv 1))))), fun number21 divisor22 => (atB [some number21, some divisor22] (rb_ret (ev_neg (ev_op rv_fdiv (ev_neg (ev_var rfl)) (ev_var rfl)))))⟩

def b_is_deed (thing23 : D) : Option D := oif (oif (ob (dtest (ob (some thing23) fun x => obl (isTk x))) fun b => some (!b)) (some true) (oif (dtest (o2 dltD (ob (lCons (some thing23) (some [])) (d1 dlen)) (some (.int 2)))) (some true) (ob (dtest (ob (o2 dixS (some thing23) (some (.int 0))) fun x => obl (isSk x))) fun b => some (!b)))) (some (.bl false)) (oif (ob (dtest (ob (lCons (ob (ob (dslD (some thing23) (ob (some (.int 1)) asP) (some none)) ditems) (lcO un1 1 (ar1 fun item24 => ob (lCons (some item24) (some [])) m_is_name))) (some [])) (d1 dall))) fun b => some (!b)) (some (.bl false)) (oif (dtest (o2 deqD (o2 dixS (some thing23) (some (.int 0))) (some (.str ("copy" : Str))))) (o2 deqD (ob (lCons (some thing23) (some [])) (d1 dlen)) (some (.int 3))) (oif (dtest (o2 dinTD (o2 dixS (some thing23) (some (.int 0))) (ob (lCons (some (.str ("zero" : Str))) (lCons (some (.str ("more" : Str))) (some []))) dtupD))) (o2 deqD (ob (lCons (some thing23) (some [])) (d1 dlen)) (some (.int 2))) (some (.bl false)))))
def m_is_deed : List D → Option D := ar1 b_is_deed

abbrev s_is_deed : Stmt := topS 16
theorem sc_is_deed : FnScope ["thing", "item"] ["thing"] (defScope s_is_deed) := ⟨rfl, rfl, rfl, by decide +kernel, rfl, by decide +kernel, by decide +kernel⟩

theorem c_is_deed (M : Fx K mg cl T) : Cal P w K mg base 2 "is_deed" (spD (gm K cl T) m_is_deed) := by
  obtain ⟨f, fd, F, hm⟩ := M.f_is_deed
  refine cal1 F hm sc_is_deed rfl (fun _ _ _ _ _ _ us hl => match us, hl with | [_], _ => rfl) fun cdv A outer s H E hr => ⟨_, (pss_cons (ps_if (PW.pt (pw_or (pt_not (pt_val (pe_callB call_isi (by rfl) M.n_isinstance (by decide +kernel) (pa_cons (pv 0) (pa_cons (pe_bltn (v := .ty "tuple") (u := .type "tuple") (by rfl) M.n_tuple (by decide +kernel) rfl) pa_nil))))) (pw_or (pt_cmpR op_lt (pe_callB call_lenS (by rfl) M.n_len (by decide +kernel) (pa_cons (pv 0) pa_nil)) pe_int (nomark _)) (pw_or1 (pt_not (pt_val (pe_callB call_isi (by rfl) M.n_isinstance (by decide +kernel) (pa_cons (pe_ix ix_seq (pv 0) pe_int (fun _ _ => rfl)) (pa_cons (pe_bltn (v := .ty "str") (u := .type "str") (by rfl) M.n_str (by decide +kernel) rfl) pa_nil))))))))) (pss_one (ps_ret pe_bl)) pss_nil) (pss_cons (ps_if (pt_not (pt_val (pe_callB (call_all rfl) (by rfl) M.n_all (by decide +kernel) (pa_cons (pe_lc (own := [("item", 1)]) rfl sc_is_deed.nd (pi_seq (pe_slice sl_D (pv 0) (po_some pe_int) po_none)) (blkOk_by (by kernel_rfl)) (fun _ _ _ _ _ => (pg_name (i := 1) sc_is_deed.nd rfl (.inl rfl))) (fun _ _ _ _ _ => pts_nil) (fun _ _ _ _ _ => (pe_cl (c_is_name M) hr (by decide) rfl (pa_cons (pv 1) pa_nil)))) pa_nil)))) (pss_one (ps_ret pe_bl)) pss_nil) (pss_cons (ps_if (pt_cmpR (op_eqA hr.units) (pe_ix ix_seq (pv 0) pe_int (fun _ _ => rfl)) pe_str (nomark _)) (pss_one (ps_ret (pe_cmpR (op_eqA hr.units) (pe_callB call_lenS (by rfl) M.n_len (by decide +kernel) (pa_cons (pv 0) pa_nil)) pe_int (nomark _)))) pss_nil) (pss_one (ps_ret (pe_and (pe_cmpR op_in_seq (pe_ix ix_seq (pv 0) pe_int (fun _ _ => rfl)) (pe_tup (pa_cons pe_str (pa_cons pe_str pa_nil))) (by first | rfl | with_unfolding_all rfl)) (pe_one (pe_cmpR (op_eqA hr.units) (pe_callB call_lenS (by rfl) M.n_len (by decide +kernel) (pa_cons (pv 0) pa_nil)) pe_int (nomark _))))))))), fun thing23 => (atB [some thing23, none] (rb_ifseq (et_or (et_not (et_B (ev_isinst isTk_ok (ev_var rfl)))) (et_or (et_T (ev_op rv_lt (ev_cb rc_len (ea_cons (ev_var rfl) ea_nil)) ev_int)) (et_not (et_B (ev_isinst isSk_ok (ev_ix (ev_var rfl) ev_int)))))) (atB [some thing23, none] (rb_ret ev_bl)) (atB [some thing23, none] (rb_ifseq (et_not (et_B (ev_cb rc_all (ea_cons (ev_lc (it_seq (ev_sl (ev_var rfl) (ep_some ev_int) ep_none)) tg_name (by decide) hvN (ev_ar1 fun item24 => (atE [some thing23, some item24] (ev_call (ea_cons (ev_var rfl) ea_nil))))) ea_nil)))) (atB [some thing23, none] (rb_ret ev_bl)) (atB [some thing23, none] (rb_ifseq (et_T (ev_op rv_eq (ev_ix (ev_var rfl) ev_int) ev_str)) (atB [some thing23, none] (rb_ret (ev_op rv_eq (ev_cb rc_len (ea_cons (ev_var rfl) ea_nil)) ev_int))) (atB [some thing23, none] (rb_ret (ev_and (ev_op rv_inT (ev_ix (ev_var rfl) ev_int) (ev_tup (ea_cons ev_str (ea_cons ev_str ea_nil)))) (ev_op rv_eq (ev_cb rc_len (ea_cons (ev_var rfl) ea_nil)) ev_int))))))))))⟩

def b_is_round (thing25 : D) : Option D := oif (oif (ob (dtest (ob (some thing25) fun x => obl (isTk x))) fun b => some (!b)) (some true) (oif (dtest (o2 dneD (ob (lCons (some thing25) (some [])) (d1 dlen)) (some (.int 3)))) (some true) (oif (ob (dtest (ob (o2 dixS (some thing25) (some (.int 0))) fun x => obl (isSk x))) fun b => some (!b)) (some true) (dtest (o2 dneD (o2 dixS (some thing25) (some (.int 0))) (some (.str ("round" : Str)))))))) (some (.bl false)) (oif (dtest (ob (lCons (o2 dixS (some thing25) (some (.int 1))) (some [])) m_is_name)) (ob (o2 dixS (some thing25) (some (.int 2))) fun x => obl (isTk x)) (some (.bl false)))
def m_is_round : List D → Option D := ar1 b_is_round

abbrev s_is_round : Stmt := topS 17
theorem sc_is_round : FnScope ["thing"] ["thing"] (defScope s_is_round) := ⟨rfl, rfl, rfl, by decide +kernel, rfl, by decide +kernel, by decide +kernel⟩

theorem c_is_round (M : Fx K mg cl T) : Cal P w K mg base 2 "is_round" (spD (gm K cl T) m_is_round) := by
  obtain ⟨f, fd, F, hm⟩ := M.f_is_round
  refine cal1 F hm sc_is_round rfl (fun _ _ _ _ _ _ us hl => match us, hl with | [_], _ => rfl) fun cdv A outer s H E hr => ⟨_, (pss_cons (ps_if (PW.pt (pw_or (pt_not (pt_val (pe_callB call_isi (by rfl) M.n_isinstance (by decide +kernel) (pa_cons (pv 0) (pa_cons (pe_bltn (v := .ty "tuple") (u := .type "tuple") (by rfl) M.n_tuple (by decide +kernel) rfl) pa_nil))))) (pw_or (pt_cmpR op_ne (pe_callB call_lenS (by rfl) M.n_len (by decide +kernel) (pa_cons (pv 0) pa_nil)) pe_int (nomark _)) (pw_or (pt_not (pt_val (pe_callB call_isi (by rfl) M.n_isinstance (by decide +kernel) (pa_cons (pe_ix ix_seq (pv 0) pe_int (fun _ _ => rfl)) (pa_cons (pe_bltn (v := .ty "str") (u := .type "str") (by rfl) M.n_str (by decide +kernel) rfl) pa_nil))))) (pw_or1 (pt_cmpR op_ne (pe_ix ix_seq (pv 0) pe_int (fun _ _ => rfl)) pe_str (nomark _))))))) (pss_one (ps_ret pe_bl)) pss_nil) (pss_one (ps_ret (pe_and (pe_cl (c_is_name M) hr (by decide) rfl (pa_cons (pe_ix ix_seq (pv 0) pe_int (fun _ _ => rfl)) pa_nil)) (pe_one (pe_callB call_isi (by rfl) M.n_isinstance (by decide +kernel) (pa_cons (pe_ix ix_seq (pv 0) pe_int (fun _ _ => rfl)) (pa_cons (pe_bltn (v := .ty "tuple") (u := .type "tuple") (by rfl) M.n_tuple (by decide +kernel) rfl) pa_nil)))))))), fun thing25 => (atB [some thing25] (rb_ifseq (et_or (et_not (et_B (ev_isinst isTk_ok (ev_var rfl)))) (et_or (et_T (ev_op rv_ne (ev_cb rc_len (ea_cons (ev_var rfl) ea_nil)) ev_int)) (et_or (et_not (et_B (ev_isinst isSk_ok (ev_ix (ev_var rfl) ev_int)))) (et_T (ev_op rv_ne (ev_ix (ev_var rfl) ev_int) ev_str))))) (atB [some thing25] (rb_ret ev_bl)) (atB [some thing25] (rb_ret (ev_and (ev_call (ea_cons (ev_ix (ev_var rfl) ev_int) ea_nil)) (ev_isinst isTk_ok (ev_ix (ev_var rfl) ev_int)))))))⟩

def b_wrong_place (block26 : D) : Option D := ob (ob (ob (some block26) denum) fun ds => forO unT 2 (arr02 fun k27 thing28 => oif (dtest (ob (lCons (some thing28) (some [])) m_is_round)) (ob (ob (ob (o2 dixS (some thing28) (some (.int 2))) denum) fun ds => forO unT 2 (arr02 fun j29 deed30 => oif (ob (dtest (ob (lCons (some deed30) (some [])) m_is_deed)) fun b => some (!b)) (none) (some [])) [] ds) (ar0 (some []))) (oif (ob (dtest (ob (lCons (some thing28) (some [])) m_is_deed)) fun b => some (!b)) (none) (some []))) [] ds) (ar0 (some .non))
def m_wrong_place : List D → Option D := ar1 b_wrong_place

abbrev s_wrong_place : Stmt := topS 18
theorem sc_wrong_place : FnScope ["block", "k", "thing", "j", "deed"] ["block"] (defScope s_wrong_place) := ⟨rfl, rfl, rfl, by decide +kernel, rfl, by decide +kernel, by decide +kernel⟩

theorem c_wrong_place (M : Fx K mg cl T) : Cal P w K mg base 3 "wrong_place" (spD (gm K cl T) m_wrong_place) := by
  obtain ⟨f, fd, F, hm⟩ := M.f_wrong_place
  refine cal1 F hm sc_wrong_place rfl (fun _ _ _ _ _ _ us hl => match us, hl with | [_], _ => rfl) fun cdv A outer s H E hr => ⟨_, (pss_cons (ps_for PassesOwn.never rfl (pi_enumT rfl M.n_enumerate (pa_cons (pv 0) pa_nil)) (pg_tup rfl (pgs_cons (pg_name (i := 1) sc_wrong_place.nd rfl (.inl rfl)) (pgs_cons (pg_name (i := 2) sc_wrong_place.nd rfl (.inl rfl)) pgs_nil))) (pss_one (ps_if (pt_val (pe_cl (c_is_round M) hr (by decide) rfl (pa_cons (pv 2) pa_nil))) (pss_one (ps_for PassesOwn.never rfl (pi_enumT rfl M.n_enumerate (pa_cons (pe_ix ix_seq (pv 2) pe_int (fun _ _ => rfl)) pa_nil)) (pg_tup rfl (pgs_cons (pg_name (i := 3) sc_wrong_place.nd rfl (.inl rfl)) (pgs_cons (pg_name (i := 4) sc_wrong_place.nd rfl (.inl rfl)) pgs_nil))) (pss_one (ps_if (pt_not (pt_val (pe_cl (c_is_deed M) hr (by decide) rfl (pa_cons (pv 4) pa_nil)))) (pss_one ps_never) pss_nil)))) (pss_one (ps_if (pt_not (pt_val (pe_cl (c_is_deed M) hr (by decide) rfl (pa_cons (pv 2) pa_nil)))) (pss_one ps_never) pss_nil))))) (pss_one (ps_ret pe_non))), fun block26 => (atB [some block26, none, none, none, none] (rb_seq (rn_forS (js' := []) (it_enum (ev_var rfl)) tg_2 (by exact True.intro) (rnF02 fun k27 thing28 => (atN [some block26, some k27, some thing28, none, none] (rn_if (et_B (ev_call (ea_cons (ev_var rfl) ea_nil))) (atN [some block26, some k27, some thing28, none, none] (rn_last (rn_forS (js' := []) (it_enum (ev_ix (ev_var rfl) ev_int)) tg_2 (by exact True.intro) (rnF02 fun j29 deed30 => (atN [some block26, some k27, some thing28, some j29, some deed30] (rn_if (et_not (et_B (ev_call (ea_cons (ev_var rfl) ea_nil)))) rn_none (atN [some block26, some k27, some thing28, some j29, some deed30] (rn_end (by exact ⟨rfl, ⟨rfl, ⟨rfl, True.intro⟩⟩⟩) rfl)))))) (rn_ar0 ((atN [some block26, some k27, some thing28, none, none] (rn_end (by exact ⟨rfl, True.intro⟩) rfl)))))) (atN [some block26, some k27, some thing28, none, none] (rn_if (et_not (et_B (ev_call (ea_cons (ev_var rfl) ea_nil)))) rn_none (atN [some block26, some k27, some thing28, none, none] (rn_end (by exact ⟨rfl, True.intro⟩) rfl)))))))) (rb_ar0 ((atB [some block26, none, none, none, none] (rb_ret ev_non))))))⟩

def b_size_of (block31 : D) : Option D := ob (lCons (ob (ob (some block31) ditems) (lcO un1 1 (ar1 fun thing32 => o2 dadd (some (.int 1)) (oif (dtest (o2 deqD (o2 dixS (some thing32) (some (.int 0))) (some (.str ("round" : Str))))) (ob (lCons (o2 dixS (some thing32) (some (.int 2))) (some [])) (d1 dlen)) (some (.int 0)))))) (some [])) (d1 dsum)
def m_size_of : List D → Option D := ar1 b_size_of

abbrev s_size_of : Stmt := topS 19
theorem sc_size_of : FnScope ["block", "thing"] ["block"] (defScope s_size_of) := ⟨rfl, rfl, rfl, by decide +kernel, rfl, by decide +kernel, by decide +kernel⟩

theorem c_size_of (M : Fx K mg cl T) : Cal P w K mg base 1 "size_of" (spD (gm K cl T) m_size_of) := by
  obtain ⟨f, fd, F, hm⟩ := M.f_size_of
  refine cal1 F hm sc_size_of rfl (fun _ _ _ _ _ _ us hl => match us, hl with | [_], _ => rfl) fun cdv A outer s H E hr => ⟨_, (pss_one (ps_ret (pe_callB (call_sum rfl) (by rfl) M.n_sum (by decide +kernel) (pa_cons (pe_lc (own := [("thing", 1)]) rfl sc_size_of.nd (pi_seq (pv 0)) (blkOk_by (by kernel_rfl)) (fun _ _ _ _ _ => (pg_name (i := 1) sc_size_of.nd rfl (.inl rfl))) (fun _ _ _ _ _ => pts_nil) (fun _ _ _ _ _ => (pe_op op_addD pe_int (pe_ifExp (pt_cmpR (op_eqA hr.units) (pe_ix ix_seq (pv 1) pe_int (fun _ _ => rfl)) pe_str (nomark _)) (pe_callB call_lenS (by rfl) M.n_len (by decide +kernel) (pa_cons (pe_ix ix_seq (pv 1) pe_int (fun _ _ => rfl)) pa_nil)) pe_int)))) pa_nil)))), fun block31 => (atB [some block31, none] (rb_ret (ev_cb rc_sum (ea_cons (ev_lc (it_seq (ev_var rfl)) tg_name (by decide) hvN (ev_ar1 fun thing32 => (atE [some block31, some thing32] (ev_op rv_add ev_int (ev_if (et_T (ev_op rv_eq (ev_ix (ev_var rfl) ev_int) ev_str)) (ev_cb rc_len (ea_cons (ev_ix (ev_var rfl) ev_int) ea_nil)) ev_int))))) ea_nil))))⟩

def b_deeds_in (block33 : D) : Option D := ob (ob (some []) dlstD) fun found34 => ob (ob (ob (some block33) ditems) fun ds => forO un1 1 (arr11 fun found35 statement36 => ob (ob (some statement36) (dapp found35)) fun found37 => oif (dtest (o2 deqD (o2 dixS (some statement36) (some (.int 0))) (some (.str ("round" : Str))))) (ob (ob (o2 dixS (some statement36) (some (.int 2))) (dext found37)) fun found38 => some [found38]) (some [found37])) [found34] ds) (ar1 fun found39 => some found39)
def m_deeds_in : List D → Option D := ar1 b_deeds_in

abbrev s_deeds_in : Stmt := topS 21
theorem sc_deeds_in : FnScope ["block", "found", "statement"] ["block"] (defScope s_deeds_in) := ⟨rfl, rfl, rfl, by decide +kernel, rfl, by decide +kernel, by decide +kernel⟩

theorem c_deeds_in (M : Fx K mg cl T) : Cal P w K mg base 1 "deeds_in" (spD (gm K cl T) m_deeds_in) := by
  obtain ⟨f, fd, F, hm⟩ := M.f_deeds_in
  refine cal1 F hm sc_deeds_in rfl (fun _ _ _ _ _ _ us hl => match us, hl with | [_], _ => rfl) fun cdv A outer s H E hr => ⟨_, (pss_cons (ps_set (i := 1) sc_deeds_in.nd rfl (.inl rfl) (pe_lst pa_nil)) (pss_cons (ps_for PassesOwn.never rfl (pi_seq (pv 0)) (pg_name (i := 2) sc_deeds_in.nd rfl (.inl rfl)) (pss_cons (ps_expr (pe_bm PySem.F.plainAttrs_list PySem.F.slot_list_append PySem.F.type_list_append mt_append (pv 1) (pa_cons (pv 2) pa_nil))) (pss_one (ps_if (pt_cmpR (op_eqA hr.units) (pe_ix ix_seq (pv 2) pe_int (fun _ _ => rfl)) pe_str (nomark _)) (pss_one (ps_expr (pe_bm PySem.F.plainAttrs_list PySem.F.slot_list_extend PySem.F.type_list_extend mt_extendT (pv 1) (pa_cons (pe_ix ix_seq (pv 2) pe_int (fun _ _ => rfl)) pa_nil)))) pss_nil)))) (pss_one (ps_ret (pv 1))))), fun block33 => (atB [some block33, none, none] (rb_own (en_lst ea_nil) rfl fun found34 => (atB [some block33, none, none] (rb_seq (rn_forO (js' := []) (it_seq (ev_var rfl)) tg_name (by exact True.intro) (by decide) (rnF11 fun found35 statement36 => (atN [some block33, none, some statement36] (rn_seq (rn_app (ev_var rfl)) fun found37 => (atN [some block33, none, some statement36] (rn_if (et_T (ev_op rv_eq (ev_ix (ev_var rfl) ev_int) ev_str)) (atN [some block33, none, some statement36] (rn_last (rn_ext (ev_ix (ev_var rfl) ev_int)) fun found38 => (atN [some block33, none, some statement36] (rn_end (by exact ⟨rfl, True.intro⟩) rfl)))) (atN [some block33, none, some statement36] (rn_end (by exact ⟨rfl, True.intro⟩) rfl)))))))) (rb_ar1 fun found39 => (atB [some block33, none, none] (rb_freeze rfl (atB [some block33, some found39, none] (rb_ret (ev_var rfl))))))))))⟩

def b_names_of (statement40 : D) : Option D := oif (dtest (o2 deqD (o2 dixS (some statement40) (some (.int 0))) (some (.str ("round" : Str))))) (dslD (some statement40) (ob (some (.int 1)) asP) (ob (some (.int 2)) asP)) (dslD (some statement40) (ob (some (.int 1)) asP) (some none))
def m_names_of : List D → Option D := ar1 b_names_of

abbrev s_names_of : Stmt := topS 22
theorem sc_names_of : FnScope ["statement"] ["statement"] (defScope s_names_of) := ⟨rfl, rfl, rfl, by decide +kernel, rfl, by decide +kernel, by decide +kernel⟩

theorem c_names_of (M : Fx K mg cl T) : Cal P w K mg base 1 "names_of" (spD (gm K cl T) m_names_of) := by
  obtain ⟨f, fd, F, hm⟩ := M.f_names_of
  refine cal1 F hm sc_names_of rfl (fun _ _ _ _ _ _ us hl => match us, hl with | [_], _ => rfl) fun cdv A outer s H E hr => ⟨_, (pss_one (ps_ret (pe_ifExp (pt_cmpR (op_eqA hr.units) (pe_ix ix_seq (pv 0) pe_int (fun _ _ => rfl)) pe_str (nomark _)) (pe_slice sl_D (pv 0) (po_some pe_int) (po_some pe_int)) (pe_slice sl_D (pv 0) (po_some pe_int) po_none)))), fun statement40 => (atB [some statement40] (rb_ret (ev_if (et_T (ev_op rv_eq (ev_ix (ev_var rfl) ev_int) ev_str)) (ev_sl (ev_var rfl) (ep_some ev_int) (ep_some ev_int)) (ev_sl (ev_var rfl) (ep_some ev_int) ep_none))))⟩

def b_names (program41 : D) : Option D := ob (ob (ob (o2 dadd (ob (some program41) (dfld 0 ("given" : Str))) (ob (some program41) (dfld 0 ("told" : Str)))) ditems) (dcO un1 1 (ar1 fun name43 => some name43) (ar1 fun name43 => some (.bl true)))) fun found42 => ob (ob (ob (ob (lCons (ob (some program41) (dfld 0 ("block" : Str))) (some [])) m_deeds_in) ditems) fun ds => forO un1 1 (arr11 fun found44 statement45 => ob (ob (ob (ob (lCons (some statement45) (some [])) m_names_of) ditems) fun ds => forO un1 1 (arr11 fun found46 name47 => ob (dputO found46 (some (.bl true)) (some name47)) fun found48 => some [found48]) [found44] ds) (ar1 fun found49 => some [found49])) [found42] ds) (ar1 fun found50 => ob (ob (some found50) dsorted) dtupP)
def m_names : List D → Option D := ar1 b_names

abbrev s_names : Stmt := topS 23
theorem sc_names : FnScope ["program", "found", "statement", "name"] ["program"] (defScope s_names) := ⟨rfl, rfl, rfl, by decide +kernel, rfl, by decide +kernel, by decide +kernel⟩

theorem c_names (M : Fx K mg cl T) : Cal P w K mg base 2 "names" (spD (gm K cl T) m_names) := by
  obtain ⟨f, fd, F, hm⟩ := M.f_names
  refine cal1 F hm sc_names rfl (fun _ _ _ _ _ _ us hl => match us, hl with | [_], _ => rfl) fun cdv A outer s H E hr => ⟨_, (pss_cons (ps_setDc (i := 1) (own := [("name", 3)]) rfl sc_names.nd rfl rfl (sw_trueD rfl rfl rfl (by decide +kernel)) (pi_seq (pe_op op_addD (pe_fld (pv 0) rfl) (pe_fld (pv 0) rfl))) (blkOk_by (by kernel_rfl)) (fun _ _ _ _ _ => (pg_name (i := 3) sc_names.nd rfl (.inl rfl))) (fun _ _ _ _ _ => pts_nil) (fun _ _ _ _ _ => (pv 3)) (fun _ _ _ _ _ => pe_bl)) (pss_cons (ps_for PassesOwn.never rfl (pi_seq (pe_cl (c_deeds_in M) hr (by decide) rfl (pa_cons (pe_fld (pv 0) rfl) pa_nil))) (pg_name (i := 2) sc_names.nd rfl (.inl rfl)) (pss_one (ps_for PassesOwn.never rfl (pi_seq (pe_cl (c_names_of M) hr (by decide) rfl (pa_cons (pv 2) pa_nil))) (pg_name (i := 3) sc_names.nd rfl (.inl rfl)) (pss_one (ps_dput (hu_of hr) (pv 1) (pv 3) pe_bl rfl))))) (pss_one (ps_ret (pe_callTy call_tupleP (by rfl) M.n_tuple (by decide +kernel) (pa_cons (pe_callB (call_sortedK rfl) (by rfl) M.n_sorted (by decide +kernel) (pa_cons (pv 1) pa_nil)) pa_nil)))))), fun program41 => (atB [some program41, none, none, none] (rb_own (en_dc (it_seq (ev_op rv_add (ev_fld M.k_given (ev_var rfl)) (ev_fld M.k_told (ev_var rfl)))) tg_name (by decide) (ev_ar1 fun name43 => (atE [some program41, none, none, some name43] (ev_var rfl))) (ev_ar1 fun name43 => (atE [some program41, none, none, some name43] ev_bl))) rfl fun found42 => (atB [some program41, none, none, none] (rb_seq (rn_forO (js' := []) (it_seq (ev_call (ea_cons (ev_fld M.k_block (ev_var rfl)) ea_nil))) tg_name (by exact True.intro) (by decide) (rnF11 fun found44 statement45 => (atN [some program41, none, some statement45, none] (rn_last (rn_forO (js' := []) (it_seq (ev_call (ea_cons (ev_var rfl) ea_nil))) tg_name (by exact True.intro) (by decide) (rnF11 fun found46 name47 => (atN [some program41, none, some statement45, some name47] (rn_last (rn_dput ev_bl (ev_var rfl)) fun found48 => (atN [some program41, none, some statement45, some name47] (rn_end (by exact ⟨rfl, ⟨rfl, True.intro⟩⟩) rfl)))))) (rn_ar1 fun found49 => (atN [some program41, none, some statement45, none] (rn_end (by exact ⟨rfl, True.intro⟩) rfl))))))) (rb_ar1 fun found50 => (atB [some program41, none, none, none] (rb_freeze rfl (atB [some program41, some found50, none, none] (rb_ret (ev_tupP (ev_sorted (ev_var rfl))))))))))))⟩

def b_raw_push (own51 deeds52 : D) : Option D := ob (ob (ob (some own51) ditems) (dcO un1 1 (ar1 fun name54 => some name54) (ar1 fun name54 => ob (lCons (some name54) (lCons (some (.int 0)) (some []))) dtupD))) fun found53 => ob (ob (ob (some deeds52) ditems) fun ds => forO un1 1 (arr11 fun found55 deed56 => oif (dtest (o2 deqD (o2 dixS (some deed56) (some (.int 0))) (some (.str ("zero" : Str))))) (ob (dputO found55 (ob (lCons (some .non) (lCons (some (.int 0)) (some []))) dtupD) (o2 dixS (some deed56) (some (.int 1)))) fun found57 => some [found57]) (oif (dtest (o2 deqD (o2 dixS (some deed56) (some (.int 0))) (some (.str ("copy" : Str))))) (ob (dputO found55 (ob (o2 dixS (some deed56) (some (.int 2))) (dixOwnK found55)) (o2 dixS (some deed56) (some (.int 1)))) fun found58 => some [found58]) (ob (unO 2 (ob (o2 dixS (some deed56) (some (.int 1))) (dixOwnK found55))) (ar2 fun source59 more60 => ob (dputO found55 (ob (lCons (some source59) (lCons (o2 dadd (some more60) (some (.int 1))) (some []))) dtupD) (o2 dixS (some deed56) (some (.int 1)))) fun found61 => some [found61])))) [found53] ds) (ar1 fun found62 => some found62)
def m_raw_push : List D → Option D := ar2 b_raw_push

abbrev s_raw_push : Stmt := topS 25
theorem sc_raw_push : FnScope ["own", "deeds", "found", "deed", "name", "source", "more"] ["own", "deeds"] (defScope s_raw_push) := ⟨rfl, rfl, rfl, by decide +kernel, rfl, by decide +kernel, by decide +kernel⟩

theorem c_raw_push (M : Fx K mg cl T) : Cal P w K mg base 1 "raw_push" (spD (gm K cl T) m_raw_push) := by
  obtain ⟨f, fd, F, hm⟩ := M.f_raw_push
  refine cal2 F hm sc_raw_push rfl (fun _ _ _ _ _ _ us hl => match us, hl with | [_, _], _ => rfl) fun cdv A outer s H E hr => ⟨_, (pss_cons (ps_setDc (i := 2) (own := [("name", 4)]) rfl sc_raw_push.nd rfl rfl (sw_trueD rfl rfl rfl (by decide +kernel)) (pi_seq (pv 0)) (blkOk_by (by kernel_rfl)) (fun _ _ _ _ _ => (pg_name (i := 4) sc_raw_push.nd rfl (.inl rfl))) (fun _ _ _ _ _ => pts_nil) (fun _ _ _ _ _ => (pv 4)) (fun _ _ _ _ _ => (pe_tup (pa_cons (pv 4) (pa_cons pe_int pa_nil))))) (pss_cons (ps_for PassesOwn.never rfl (pi_seq (pv 1)) (pg_name (i := 3) sc_raw_push.nd rfl (.inl rfl)) (pss_one (ps_if (pt_cmpR (op_eqA hr.units) (pe_ix ix_seq (pv 3) pe_int (fun _ _ => rfl)) pe_str (nomark _)) (pss_one (ps_dput (hu_of hr) (pv 2) (pe_ix ix_seq (pv 3) pe_int (fun _ _ => rfl)) (pe_tup (pa_cons pe_non (pa_cons pe_int pa_nil))) rfl)) (pss_one (ps_if (pt_cmpR (op_eqA hr.units) (pe_ix ix_seq (pv 3) pe_int (fun _ _ => rfl)) pe_str (nomark _)) (pss_one (ps_dput (hu_of hr) (pv 2) (pe_ix ix_seq (pv 3) pe_int (fun _ _ => rfl)) (pe_dget (hu_of hr) (pv 2) (pe_ix ix_seq (pv 3) pe_int (fun _ _ => rfl)) (fun _ _ => rfl)) rfl)) (pss_cons (ps_asg (pe_dget (hu_of hr) (pv 2) (pe_ix ix_seq (pv 3) pe_int (fun _ _ => rfl)) (fun _ _ => rfl)) (pg_tup rfl (pgs_cons (pg_name (i := 5) sc_raw_push.nd rfl (.inl rfl)) (pgs_cons (pg_name (i := 6) sc_raw_push.nd rfl (.inl rfl)) pgs_nil)))) (pss_one (ps_dput (hu_of hr) (pv 2) (pe_ix ix_seq (pv 3) pe_int (fun _ _ => rfl)) (pe_tup (pa_cons (pv 5) (pa_cons (pe_op op_addD (pv 6) pe_int) pa_nil))) rfl)))))))) (pss_one (ps_ret (pv 2))))), fun own51 deeds52 => (atB [some own51, some deeds52, none, none, none, none, none] (rb_own (en_dc (it_seq (ev_var rfl)) tg_name (by decide) (ev_ar1 fun name54 => (atE [some own51, some deeds52, none, none, some name54, none, none] (ev_var rfl))) (ev_ar1 fun name54 => (atE [some own51, some deeds52, none, none, some name54, none, none] (ev_tup (ea_cons (ev_var rfl) (ea_cons ev_int ea_nil)))))) rfl fun found53 => (atB [some own51, some deeds52, none, none, none, none, none] (rb_seq (rn_forO (js' := []) (it_seq (ev_var rfl)) tg_name (by exact True.intro) (by decide) (rnF11 fun found55 deed56 => (atN [some own51, some deeds52, none, some deed56, none, none, none] (rn_if (et_T (ev_op rv_eq (ev_ix (ev_var rfl) ev_int) ev_str)) (atN [some own51, some deeds52, none, some deed56, none, none, none] (rn_last (rn_dput (ev_tup (ea_cons ev_non (ea_cons ev_int ea_nil))) (ev_ix (ev_var rfl) ev_int)) fun found57 => (atN [some own51, some deeds52, none, some deed56, none, none, none] (rn_end (by exact ⟨rfl, ⟨rfl, True.intro⟩⟩) rfl)))) (atN [some own51, some deeds52, none, some deed56, none, none, none] (rn_if (et_T (ev_op rv_eq (ev_ix (ev_var rfl) ev_int) ev_str)) (atN [some own51, some deeds52, none, some deed56, none, none, none] (rn_last (rn_dput (ev_dgetOwn (ev_ix (ev_var rfl) ev_int)) (ev_ix (ev_var rfl) ev_int)) fun found58 => (atN [some own51, some deeds52, none, some deed56, none, none, none] (rn_end (by exact ⟨rfl, ⟨rfl, True.intro⟩⟩) rfl)))) (atN [some own51, some deeds52, none, some deed56, none, none, none] (rn_seq (rn_un (ev_dgetOwn (ev_ix (ev_var rfl) ev_int)) tg_2 (hvO (by decide))) (rn_ar2 fun source59 more60 => (atN [some own51, some deeds52, none, some deed56, none, some source59, some more60] (rn_last (rn_dput (ev_tup (ea_cons (ev_var rfl) (ea_cons (ev_op rv_add (ev_var rfl) ev_int) ea_nil))) (ev_ix (ev_var rfl) ev_int)) fun found61 => (atN [some own51, some deeds52, none, some deed56, none, some source59, some more60] (rn_end (by exact ⟨rfl, ⟨rfl, True.intro⟩⟩) rfl))))))))))))) (rb_ar1 fun found62 => (atB [some own51, some deeds52, none, none, none, none, none] (rb_freeze rfl (atB [some own51, some deeds52, some found62, none, none, none, none] (rb_ret (ev_var rfl))))))))))⟩

def b_source_number (numbers63 pair64 : D) : Option D := oif (dtest (ob (o2 dixS (some pair64) (some (.int 0))) fun x => some (.bl (isNonD x)))) (o2 dixS (some pair64) (some (.int 1))) (o2 dadd (o2 ddget (some numbers63) (o2 dixS (some pair64) (some (.int 0)))) (o2 dixS (some pair64) (some (.int 1))))
def m_source_number : List D → Option D := ar2 b_source_number

abbrev s_source_number : Stmt := topS 26
theorem sc_source_number : FnScope ["numbers", "pair"] ["numbers", "pair"] (defScope s_source_number) := ⟨rfl, rfl, rfl, by decide +kernel, rfl, by decide +kernel, by decide +kernel⟩

theorem c_source_number (M : Fx K mg cl T) : Cal P w K mg base 1 "source_number" (spD (gm K cl T) m_source_number) := by
  obtain ⟨f, fd, F, hm⟩ := M.f_source_number
  refine cal2 F hm sc_source_number rfl (fun _ _ _ _ _ _ us hl => match us, hl with | [_, _], _ => rfl) fun cdv A outer s H E hr => ⟨_, (pss_one (ps_ret (pe_ifExp (pt_cmp (pc_isN (pe_ix ix_seq (pv 1) pe_int (fun _ _ => rfl))) rfl) (pe_ix ix_seq (pv 1) pe_int (fun _ _ => rfl)) (pe_op op_addD (pe_dget (hu_of hr) (pv 0) (pe_ix ix_seq (pv 1) pe_int (fun _ _ => rfl)) (fun _ _ => rfl)) (pe_ix ix_seq (pv 1) pe_int (fun _ _ => rfl)))))), fun numbers63 pair64 => (atB [some numbers63, some pair64] (rb_ret (ev_if (et_B (ev_isN (ev_ix (ev_var rfl) ev_int))) (ev_ix (ev_var rfl) ev_int) (ev_op rv_add (ev_dget (ev_var rfl) (ev_ix (ev_var rfl) ev_int)) (ev_ix (ev_var rfl) ev_int)))))⟩

def b_raw_pushed (push65 numbers66 : D) : Option D := ob (dkeys push65) (dcO un1 1 (ar1 fun name67 => some name67) (ar1 fun name67 => ob (lCons (some numbers66) (lCons (o2 ddget (some push65) (some name67)) (some []))) m_source_number))
def m_raw_pushed : List D → Option D := ar2 b_raw_pushed

abbrev s_raw_pushed : Stmt := topS 27
theorem sc_raw_pushed : FnScope ["push", "numbers", "name"] ["push", "numbers"] (defScope s_raw_pushed) := ⟨rfl, rfl, rfl, by decide +kernel, rfl, by decide +kernel, by decide +kernel⟩

theorem c_raw_pushed (M : Fx K mg cl T) : Cal P w K mg base 2 "raw_pushed" (spD (gm K cl T) m_raw_pushed) := by
  obtain ⟨f, fd, F, hm⟩ := M.f_raw_pushed
  refine cal2 F hm sc_raw_pushed rfl (fun _ _ _ _ _ _ us hl => match us, hl with | [_, _], _ => rfl) fun cdv A outer s H E hr => ⟨_, (pss_one (ps_ret (pe_lk (pe_dc (own := [("name", 2)]) rfl sc_raw_pushed.nd (pi_keys (pv 0)) (blkOk_by (by kernel_rfl)) (fun _ _ _ _ _ => (pg_name (i := 2) sc_raw_pushed.nd rfl (.inl rfl))) (fun _ _ _ _ _ => pts_nil) (fun _ _ _ _ _ => (pv 2)) (fun _ _ _ _ _ => (pe_cl (c_source_number M) hr (by decide) rfl (pa_cons (pv 1) (pa_cons (pe_dget (hu_of hr) (pv 0) (pv 2) (fun _ _ => rfl)) pa_nil)))))))), fun push65 numbers66 => (atB [some push65, some numbers66, none] (rb_ret (ev_dcK rfl tg_name (by decide) hvN (ev_ar1 fun name67 => (atE [some push65, some numbers66, some name67] (ev_var rfl))) (ev_ar1 fun name67 => (atE [some push65, some numbers66, some name67] (ev_call (ea_cons (ev_var rfl) (ea_cons (ev_dget (ev_var rfl) (ev_var rfl)) ea_nil))))))))⟩

def b_raw_after (push68 other69 : D) : Option D := ob (some (.dct [] [])) fun found70 => ob (ob (dkeys other69) fun ds => forO un1 1 (arr11 fun found71 name72 => ob (unO 2 (o2 ddget (some other69) (some name72))) (ar2 fun source73 more74 => oif (dtest (ob (some source73) fun x => some (.bl (isNonD x)))) (ob (dputO found71 (ob (lCons (some .non) (lCons (some more74) (some []))) dtupD) (some name72)) fun found75 => some [found75]) (ob (dputO found71 (ob (lCons (o2 dixS (o2 ddget (some push68) (some source73)) (some (.int 0))) (lCons (o2 dadd (o2 dixS (o2 ddget (some push68) (some source73)) (some (.int 1))) (some more74)) (some []))) dtupD) (some name72)) fun found76 => some [found76]))) [found70] ds) (ar1 fun found77 => some found77)
def m_raw_after : List D → Option D := ar2 b_raw_after

abbrev s_raw_after : Stmt := topS 28
theorem sc_raw_after : FnScope ["push", "other", "found", "name", "source", "more"] ["push", "other"] (defScope s_raw_after) := ⟨rfl, rfl, rfl, by decide +kernel, rfl, by decide +kernel, by decide +kernel⟩

theorem c_raw_after (M : Fx K mg cl T) : Cal P w K mg base 1 "raw_after" (spD (gm K cl T) m_raw_after) := by
  obtain ⟨f, fd, F, hm⟩ := M.f_raw_after
  refine cal2 F hm sc_raw_after rfl (fun _ _ _ _ _ _ us hl => match us, hl with | [_, _], _ => rfl) fun cdv A outer s H E hr => ⟨_, (pss_cons (ps_set (i := 2) sc_raw_after.nd rfl (.inl rfl) pe_dnewK) (pss_cons (ps_lk (ps_for PassesOwn.never rfl (pi_keys (pv 1)) (pg_name (i := 3) sc_raw_after.nd rfl (.inl rfl)) (pss_cons (ps_asg (pe_dget (hu_of hr) (pv 1) (pv 3) (fun _ _ => rfl)) (pg_tup rfl (pgs_cons (pg_name (i := 4) sc_raw_after.nd rfl (.inl rfl)) (pgs_cons (pg_name (i := 5) sc_raw_after.nd rfl (.inl rfl)) pgs_nil)))) (pss_one (ps_if (pt_cmp (pc_isN (pv 4)) rfl) (pss_one (ps_dput (hu_of hr) (pv 2) (pv 3) (pe_tup (pa_cons pe_non (pa_cons (pv 5) pa_nil))) rfl)) (pss_one (ps_dput (hu_of hr) (pv 2) (pv 3) (pe_tup (pa_cons (pe_ix ix_seq (pe_dget (hu_of hr) (pv 0) (pv 4) (fun _ _ => rfl)) pe_int (fun _ _ => rfl)) (pa_cons (pe_op op_addD (pe_ix ix_seq (pe_dget (hu_of hr) (pv 0) (pv 4) (fun _ _ => rfl)) pe_int (fun _ _ => rfl)) (pv 5)) pa_nil))) rfl))))))) (pss_one (ps_ret (pv 2))))), fun push68 other69 => (atB [some push68, some other69, none, none, none, none] (rb_own en_dnew rfl fun found70 => (atB [some push68, some other69, none, none, none, none] (rb_seq (rn_forKO (js' := []) rfl tg_name (by exact True.intro) (by decide) (rnF11 fun found71 name72 => (atN [some push68, some other69, none, some name72, none, none] (rn_seq (rn_un (ev_dget (ev_var rfl) (ev_var rfl)) tg_2 (hvO (by decide))) (rn_ar2 fun source73 more74 => (atN [some push68, some other69, none, some name72, some source73, some more74] (rn_if (et_B (ev_isN (ev_var rfl))) (atN [some push68, some other69, none, some name72, some source73, some more74] (rn_last (rn_dput (ev_tup (ea_cons ev_non (ea_cons (ev_var rfl) ea_nil))) (ev_var rfl)) fun found75 => (atN [some push68, some other69, none, some name72, some source73, some more74] (rn_end (by exact ⟨rfl, ⟨rfl, True.intro⟩⟩) rfl)))) (atN [some push68, some other69, none, some name72, some source73, some more74] (rn_last (rn_dput (ev_tup (ea_cons (ev_ix (ev_dget (ev_var rfl) (ev_var rfl)) ev_int) (ea_cons (ev_op rv_add (ev_ix (ev_dget (ev_var rfl) (ev_var rfl)) ev_int) (ev_var rfl)) ea_nil))) (ev_var rfl)) fun found76 => (atN [some push68, some other69, none, some name72, some source73, some more74] (rn_end (by exact ⟨rfl, ⟨rfl, True.intro⟩⟩) rfl))))))))))) (rb_ar1 fun found77 => (atB [some push68, some other69, none, none, none, none] (rb_freeze rfl (atB [some push68, some other69, some found77, none, none, none] (rb_ret (ev_var rfl))))))))))⟩

def b_raw_way (push78 name79 : D) : Option D := ob (some (.dct [] [])) fun met80 => ob (some name79) fun here81 => ob (whileO (ar2 fun met82 here83 => oif (dtest (ob (some here83) fun x => some (.bl (!isNonD x)))) (dtest (ob (some here83) (downNot met82))) (some false)) (ar2 fun met84 here85 => ob (dputO met84 (dlenOwn met84) (some here85)) fun met86 => ob (o2 dixS (o2 ddget (some push78) (some here85)) (some (.int 0))) fun here87 => some [met86, here87]) 300 [met80, here81]) (ar2 fun met88 here89 => ob (ob (some met88) dtupK) fun row90 => oif (dtest (ob (some here89) fun x => some (.bl (isNonD x)))) (ob (lCons (some row90) (lCons (ob (some []) dtupD) (some []))) dtupD) (ob (lCons (dslD (some row90) (some none) (ob (o2 ddget (some met88) (some here89)) asP)) (lCons (dslD (some row90) (ob (o2 ddget (some met88) (some here89)) asP) (some none)) (some []))) dtupD))
def m_raw_way : List D → Option D := ar2 b_raw_way

abbrev s_raw_way : Stmt := topS 29
theorem sc_raw_way : FnScope ["push", "name", "met", "here", "row"] ["push", "name"] (defScope s_raw_way) := ⟨rfl, rfl, rfl, by decide +kernel, rfl, by decide +kernel, by decide +kernel⟩

theorem c_raw_way (M : Fx K mg cl T) : Cal P w K mg base 1 "raw_way" (spD (gm K cl T) m_raw_way) := by
  obtain ⟨f, fd, F, hm⟩ := M.f_raw_way
  refine cal2 F hm sc_raw_way rfl (fun _ _ _ _ _ _ us hl => match us, hl with | [_, _], _ => rfl) fun cdv A outer s H E hr => ⟨_, (pss_cons (ps_set (i := 2) sc_raw_way.nd rfl (.inl rfl) pe_dnewK) (pss_cons (ps_set (i := 3) sc_raw_way.nd rfl (.inl rfl) (pv 1)) (pss_cons (ps_while PassesOwn.never (PW.pt (pw_and (pt_cmp (pc_notN (pv 3)) rfl) (pw_and1 (pt_cmp (pc_dnotin (hu_of hr) (pv 3) (pv 2)) rfl)))) (pss_cons (ps_dput (hu_of hr) (pv 2) (pv 3) (pe_callB call_lenDk (by rfl) M.n_len (by decide +kernel) (pa_cons (pv 2) pa_nil)) rfl) (pss_one (ps_set (i := 3) sc_raw_way.nd rfl (.inl rfl) (pe_ix ix_seq (pe_dget (hu_of hr) (pv 0) (pv 3) (fun _ _ => rfl)) pe_int (fun _ _ => rfl)))))) (pss_cons (ps_set (i := 4) sc_raw_way.nd rfl (.inl rfl) (pe_callTy (call_tupleD rfl) (by rfl) M.n_tuple (by decide +kernel) (pa_cons (pv 2) pa_nil))) (pss_cons (ps_if (pt_cmp (pc_isN (pv 3)) rfl) (pss_one (ps_ret (pe_tup (pa_cons (pv 4) (pa_cons (pe_tup pa_nil) pa_nil))))) pss_nil) (pss_one (ps_ret (pe_tup (pa_cons (pe_slice sl_D (pv 4) po_none (po_some (pe_dget (hu_of hr) (pv 2) (pv 3) (fun _ _ => rfl)))) (pa_cons (pe_slice sl_D (pv 4) (po_some (pe_dget (hu_of hr) (pv 2) (pv 3) (fun _ _ => rfl))) po_none) pa_nil)))))))))), fun push78 name79 => (atB [some push78, some name79, none, none, none] (rb_own en_dnew rfl fun met80 => (atB [some push78, some name79, none, none, none] (rb_seq (rn_set (ev_var rfl) (h1O (by decide))) fun here81 => (atB [some push78, some name79, none, some here81, none] (rb_seq (rn_whileO (js' := [3]) (by exact ⟨rfl, True.intro⟩) (et_ar2 fun met82 here83 => (atT [some push78, some name79, none, some here83, none] (et_and (et_B (ev_notN (ev_var rfl))) (et_B (ev_dnotinOwn (ev_var rfl)))))) (rn_ar2 fun met84 here85 => (atN [some push78, some name79, none, some here85, none] (rn_seq (rn_dput ev_lenOwn (ev_var rfl)) fun met86 => (atN [some push78, some name79, none, some here85, none] (rn_last (rn_set (ev_ix (ev_dget (ev_var rfl) (ev_var rfl)) ev_int) (h1O (by decide))) fun here87 => (atN [some push78, some name79, none, some here87, none] (rn_end (by exact ⟨rfl, ⟨rfl, ⟨rfl, True.intro⟩⟩⟩) rfl)))))))) (rb_ar2 fun met88 here89 => (atB [some push78, some name79, none, some here89, none] (rb_freeze rfl (atB [some push78, some name79, some met88, some here89, none] (rb_seq (rn_set (ev_tupK (ev_var rfl)) h1N) fun row90 => (atB [some push78, some name79, some met88, some here89, some row90] (rb_ifseq (et_B (ev_isN (ev_var rfl))) (atB [some push78, some name79, some met88, some here89, some row90] (rb_ret (ev_tup (ea_cons (ev_var rfl) (ea_cons (ev_tup ea_nil) ea_nil))))) (atB [some push78, some name79, some met88, some here89, some row90] (rb_ret (ev_tup (ea_cons (ev_sl (ev_var rfl) ep_none (ep_some (ev_dget (ev_var rfl) (ev_var rfl)))) (ea_cons (ev_sl (ev_var rfl) (ep_some (ev_dget (ev_var rfl) (ev_var rfl))) ep_none) ea_nil))))))))))))))))))⟩

def b_raw_gain (push91 name92 : D) : Option D := ob (lCons (ob (ob (o2 dixS (ob (lCons (some push91) (lCons (some name92) (some []))) m_raw_way) (some (.int 1))) ditems) (lcO un1 1 (ar1 fun one93 => o2 dixS (o2 ddget (some push91) (some one93)) (some (.int 1))))) (some [])) (d1 dsum)
def m_raw_gain : List D → Option D := ar2 b_raw_gain

abbrev s_raw_gain : Stmt := topS 30
theorem sc_raw_gain : FnScope ["push", "name", "one"] ["push", "name"] (defScope s_raw_gain) := ⟨rfl, rfl, rfl, by decide +kernel, rfl, by decide +kernel, by decide +kernel⟩

theorem c_raw_gain (M : Fx K mg cl T) : Cal P w K mg base 2 "raw_gain" (spD (gm K cl T) m_raw_gain) := by
  obtain ⟨f, fd, F, hm⟩ := M.f_raw_gain
  refine cal2 F hm sc_raw_gain rfl (fun _ _ _ _ _ _ us hl => match us, hl with | [_, _], _ => rfl) fun cdv A outer s H E hr => ⟨_, (pss_one (ps_ret (pe_callB (call_sum rfl) (by rfl) M.n_sum (by decide +kernel) (pa_cons (pe_lc (own := [("one", 2)]) rfl sc_raw_gain.nd (pi_seq (pe_ix ix_seq (pe_cl (c_raw_way M) hr (by decide) rfl (pa_cons (pv 0) (pa_cons (pv 1) pa_nil))) pe_int (fun _ _ => rfl))) (blkOk_by (by kernel_rfl)) (fun _ _ _ _ _ => (pg_name (i := 2) sc_raw_gain.nd rfl (.inl rfl))) (fun _ _ _ _ _ => pts_nil) (fun _ _ _ _ _ => (pe_ix ix_seq (pe_dget (hu_of hr) (pv 0) (pv 2) (fun _ _ => rfl)) pe_int (fun _ _ => rfl)))) pa_nil)))), fun push91 name92 => (atB [some push91, some name92, none] (rb_ret (ev_cb rc_sum (ea_cons (ev_lc (it_seq (ev_ix (ev_call (ea_cons (ev_var rfl) (ea_cons (ev_var rfl) ea_nil))) ev_int)) tg_name (by decide) hvN (ev_ar1 fun one93 => (atE [some push91, some name92, some one93] (ev_ix (ev_dget (ev_var rfl) (ev_var rfl)) ev_int)))) ea_nil))))⟩

def b_raw_tail (push94 : D) : Option D := ob (lCons (ob (dkeys push94) (lcO un1 1 (ar1 fun name95 => ob (lCons (o2 dixS (ob (lCons (some push94) (lCons (some name95) (some []))) m_raw_way) (some (.int 0))) (some [])) (d1 dlen)))) (some [])) (d1 dmax)
def m_raw_tail : List D → Option D := ar1 b_raw_tail

abbrev s_raw_tail : Stmt := topS 31
theorem sc_raw_tail : FnScope ["push", "name"] ["push"] (defScope s_raw_tail) := ⟨rfl, rfl, rfl, by decide +kernel, rfl, by decide +kernel, by decide +kernel⟩

theorem c_raw_tail (M : Fx K mg cl T) : Cal P w K mg base 2 "raw_tail" (spD (gm K cl T) m_raw_tail) := by
  obtain ⟨f, fd, F, hm⟩ := M.f_raw_tail
  refine cal1 F hm sc_raw_tail rfl (fun _ _ _ _ _ _ us hl => match us, hl with | [_], _ => rfl) fun cdv A outer s H E hr => ⟨_, (pss_one (ps_ret (pe_callB (call_max rfl) (by rfl) M.n_max (by decide +kernel) (pa_cons (pe_lk (pe_lc (own := [("name", 1)]) rfl sc_raw_tail.nd (pi_keys (pv 0)) (blkOk_by (by kernel_rfl)) (fun _ _ _ _ _ => (pg_name (i := 1) sc_raw_tail.nd rfl (.inl rfl))) (fun _ _ _ _ _ => pts_nil) (fun _ _ _ _ _ => (pe_callB call_lenS (by rfl) M.n_len (by decide +kernel) (pa_cons (pe_ix ix_seq (pe_cl (c_raw_way M) hr (by decide) rfl (pa_cons (pv 0) (pa_cons (pv 1) pa_nil))) pe_int (fun _ _ => rfl)) pa_nil))))) pa_nil)))), fun push94 => (atB [some push94, none] (rb_ret (ev_cb rc_max (ea_cons (ev_lcK rfl tg_name (by decide) hvN (ev_ar1 fun name95 => (atE [some push94, some name95] (ev_cb rc_len (ea_cons (ev_ix (ev_call (ea_cons (ev_var rfl) (ea_cons (ev_var rfl) ea_nil))) ev_int) ea_nil))))) ea_nil))))⟩

def b_raw_turn (push96 : D) : Option D := ob (some (.int 1)) fun found97 => ob (ob (dkeys push96) fun ds => forO un1 1 (arr11 fun found98 name99 => ob (o2 dixS (ob (lCons (some push96) (lCons (some name99) (some []))) m_raw_way) (some (.int 1))) fun ring100 => oif (dtest (o2 dgtD (ob (lCons (some ring100) (some [])) (d1 dlen)) (some (.int 0)))) (ob (ob (lCons (some found98) (lCons (ob (lCons (some ring100) (some [])) (d1 dlen)) (some []))) m_common_multiple) fun found101 => some [found101]) (some [found98])) [found97] ds) (ar1 fun found102 => some found102)
def m_raw_turn : List D → Option D := ar1 b_raw_turn

abbrev s_raw_turn : Stmt := topS 32
theorem sc_raw_turn : FnScope ["push", "found", "name", "ring"] ["push"] (defScope s_raw_turn) := ⟨rfl, rfl, rfl, by decide +kernel, rfl, by decide +kernel, by decide +kernel⟩

theorem c_raw_turn (M : Fx K mg cl T) : Cal P w K mg base 3 "raw_turn" (spD (gm K cl T) m_raw_turn) := by
  obtain ⟨f, fd, F, hm⟩ := M.f_raw_turn
  refine cal1 F hm sc_raw_turn rfl (fun _ _ _ _ _ _ us hl => match us, hl with | [_], _ => rfl) fun cdv A outer s H E hr => ⟨_, (pss_cons (ps_set (i := 1) sc_raw_turn.nd rfl (.inl rfl) pe_int) (pss_cons (ps_lk (ps_for PassesOwn.never rfl (pi_keys (pv 0)) (pg_name (i := 2) sc_raw_turn.nd rfl (.inl rfl)) (pss_cons (ps_set (i := 3) sc_raw_turn.nd rfl (.inl rfl) (pe_ix ix_seq (pe_cl (c_raw_way M) hr (by decide) rfl (pa_cons (pv 0) (pa_cons (pv 2) pa_nil))) pe_int (fun _ _ => rfl))) (pss_one (ps_if (pt_cmpR op_gt (pe_callB call_lenS (by rfl) M.n_len (by decide +kernel) (pa_cons (pv 3) pa_nil)) pe_int (nomark _)) (pss_one (ps_set (i := 1) sc_raw_turn.nd rfl (.inl rfl) (pe_cl (c_common_multiple M) hr (by decide) rfl (pa_cons (pv 1) (pa_cons (pe_callB call_lenS (by rfl) M.n_len (by decide +kernel) (pa_cons (pv 3) pa_nil)) pa_nil))))) pss_nil))))) (pss_one (ps_ret (pv 1))))), fun push96 => (atB [some push96, none, none, none] (rb_seq (rn_set ev_int h1N) fun found97 => (atB [some push96, some found97, none, none] (rb_seq (rn_forKS (js' := [1]) rfl tg_name (by exact ⟨rfl, True.intro⟩) (rnF11 fun found98 name99 => (atN [some push96, some found98, some name99, none] (rn_seq (rn_set (ev_ix (ev_call (ea_cons (ev_var rfl) (ea_cons (ev_var rfl) ea_nil))) ev_int) h1N) fun ring100 => (atN [some push96, some found98, some name99, some ring100] (rn_if (et_T (ev_op rv_gt (ev_cb rc_len (ea_cons (ev_var rfl) ea_nil)) ev_int)) (atN [some push96, some found98, some name99, some ring100] (rn_last (rn_set (ev_call (ea_cons (ev_var rfl) (ea_cons (ev_cb rc_len (ea_cons (ev_var rfl) ea_nil)) ea_nil))) h1N) fun found101 => (atN [some push96, some found101, some name99, some ring100] (rn_end (by exact ⟨rfl, ⟨rfl, True.intro⟩⟩) rfl)))) (atN [some push96, some found98, some name99, some ring100] (rn_end (by exact ⟨rfl, ⟨rfl, True.intro⟩⟩) rfl)))))))) (rb_ar1 fun found102 => (atB [some push96, some found102, none, none] (rb_ret (ev_var rfl))))))))⟩

def b_many_cells (bounds103 measures104 : D) : Option D := ob (some (.int 1)) fun found105 => ob (ob (o2 dzip2 (some bounds103) (some measures104)) fun ds => forO unT 2 (arr12 fun found106 bound107 measure108 => ob (o2 dmul (some found106) (o2 dadd (some bound107) (some measure108))) fun found109 => some [found109]) [found105] ds) (ar1 fun found110 => some found110)
def m_many_cells : List D → Option D := ar2 b_many_cells

abbrev s_many_cells : Stmt := topS 40
theorem sc_many_cells : FnScope ["bounds", "measures", "found", "bound", "measure"] ["bounds", "measures"] (defScope s_many_cells) := ⟨rfl, rfl, rfl, by decide +kernel, rfl, by decide +kernel, by decide +kernel⟩

theorem c_many_cells (M : Fx K mg cl T) : Cal P w K mg base 1 "many_cells" (spD (gm K cl T) m_many_cells) := by
  obtain ⟨f, fd, F, hm⟩ := M.f_many_cells
  refine cal2 F hm sc_many_cells rfl (fun _ _ _ _ _ _ us hl => match us, hl with | [_, _], _ => rfl) fun cdv A outer s H E hr => ⟨_, (pss_cons (ps_set (i := 2) sc_many_cells.nd rfl (.inl rfl) pe_int) (pss_cons (ps_for PassesOwn.never rfl (pi_zip2 rfl M.n_zip (pa_cons (pv 0) (pa_cons (pv 1) pa_nil))) (pg_tup rfl (pgs_cons (pg_name (i := 3) sc_many_cells.nd rfl (.inl rfl)) (pgs_cons (pg_name (i := 4) sc_many_cells.nd rfl (.inl rfl)) pgs_nil))) (pss_one (ps_set (i := 2) sc_many_cells.nd rfl (.inl rfl) (pe_op op_mulD (pv 2) (pe_op op_addD (pv 3) (pv 4)))))) (pss_one (ps_ret (pv 2))))), fun bounds103 measures104 => (atB [some bounds103, some measures104, none, none, none] (rb_seq (rn_set ev_int h1N) fun found105 => (atB [some bounds103, some measures104, some found105, none, none] (rb_seq (rn_forS (js' := [2]) (it_zip2 (ev_var rfl) (ev_var rfl)) tg_2 (by exact ⟨rfl, True.intro⟩) (rnF12 fun found106 bound107 measure108 => (atN [some bounds103, some measures104, some found106, some bound107, some measure108] (rn_last (rn_set (ev_op rv_mul (ev_var rfl) (ev_op rv_add (ev_var rfl) (ev_var rfl))) h1N) fun found109 => (atN [some bounds103, some measures104, some found109, some bound107, some measure108] (rn_end (by exact ⟨rfl, ⟨rfl, ⟨rfl, True.intro⟩⟩⟩) rfl)))))) (rb_ar1 fun found110 => (atB [some bounds103, some measures104, some found110, none, none] (rb_ret (ev_var rfl))))))))⟩

def b_cells_of (bounds111 measures112 : D) : Option D := ob (ob (lCons (ob (some []) dtupD) (some [])) dlstD) fun found113 => ob (ob (o2 dzip2 (some bounds111) (some measures112)) fun ds => forO unT 2 (arr12 fun found114 bound115 measure116 => ob (ob (ob (some found114) ditems) (lc2O un1 1 (ar1 fun cell118 => ob (o2 dadd (some bound115) (some measure116)) drange1) un1 1 (arr11 fun cell118 number119 => o2 dadd (some cell118) (ob (lCons (some number119) (some [])) dtupD)))) fun found117 => some [found117]) [found113] ds) (ar1 fun found120 => some found120)
def m_cells_of : List D → Option D := ar2 b_cells_of

abbrev s_cells_of : Stmt := topS 41
theorem sc_cells_of : FnScope ["bounds", "measures", "found", "bound", "measure", "cell", "number"] ["bounds", "measures"] (defScope s_cells_of) := ⟨rfl, rfl, rfl, by decide +kernel, rfl, by decide +kernel, by decide +kernel⟩

theorem c_cells_of (M : Fx K mg cl T) : Cal P w K mg base 1 "cells_of" (spD (gm K cl T) m_cells_of) := by
  obtain ⟨f, fd, F, hm⟩ := M.f_cells_of
  refine cal2 F hm sc_cells_of rfl (fun _ _ _ _ _ _ us hl => match us, hl with | [_, _], _ => rfl) fun cdv A outer s H E hr => ⟨_, (pss_cons (ps_set (i := 2) sc_cells_of.nd rfl (.inl rfl) (pe_lst (pa_cons (pe_tup pa_nil) pa_nil))) (pss_cons (ps_for PassesOwn.never rfl (pi_zip2 rfl M.n_zip (pa_cons (pv 0) (pa_cons (pv 1) pa_nil))) (pg_tup rfl (pgs_cons (pg_name (i := 3) sc_cells_of.nd rfl (.inr rfl)) (pgs_cons (pg_name (i := 4) sc_cells_of.nd rfl (.inr rfl)) pgs_nil))) (pss_one (ps_setLc2 (i := 2) (own := [("cell", 5), ("number", 6)]) (vs1 := [6]) rfl sc_cells_of.nd rfl rfl (sw_true rfl rfl rfl (by decide +kernel)) (pi_seq (pv 2)) (blkOk_by (by kernel_rfl)) (by decide) (fun _ _ _ _ _ => (pg_name (i := 5) sc_cells_of.nd rfl (.inl rfl))) (fun _ _ _ _ _ => pts_nil) (fun _ _ _ _ _ => (pi_range1 rfl M.n_range (pa_cons (pe_op op_addD (pv 3) (pv 4)) pa_nil))) (fun _ _ _ _ _ => (pg_name (i := 6) sc_cells_of.nd rfl (.inl rfl))) (fun _ _ _ _ _ => pts_nil) (fun _ _ _ _ _ => (pe_op op_addD (pv 5) (pe_tup (pa_cons (pv 6) pa_nil))))))) (pss_one (ps_ret (pv 2))))), fun bounds111 measures112 => (atB [some bounds111, some measures112, none, none, none, none, none] (rb_seq (rn_set (ev_lst (ea_cons (ev_tup ea_nil) ea_nil)) h1N) fun found113 => (atB [some bounds111, some measures112, some found113, none, none, none, none] (rb_seq (rn_forS (js' := [2]) (it_zip2 (ev_var rfl) (ev_var rfl)) tg_2 (by exact ⟨rfl, True.intro⟩) (rnF12 fun found114 bound115 measure116 => (atN [some bounds111, some measures112, some found114, some bound115, some measure116, none, none] (rn_last (rn_set (ev_lc2 (it_seq (ev_var rfl)) tg_name (by decide) hvN (it_ar1 fun cell118 => (atI [some bounds111, some measures112, some found114, some bound115, some measure116, some cell118, none] (it_range1 (ev_op rv_add (ev_var rfl) (ev_var rfl))))) tg_name (by decide) hvN (evF11 fun cell118 number119 => (atE [some bounds111, some measures112, some found114, some bound115, some measure116, some cell118, some number119] (ev_op rv_add (ev_var rfl) (ev_tup (ea_cons (ev_var rfl) ea_nil)))))) h1N) fun found117 => (atN [some bounds111, some measures112, some found117, some bound115, some measure116, none, none] (rn_end (by exact ⟨rfl, ⟨rfl, ⟨rfl, True.intro⟩⟩⟩) rfl)))))) (rb_ar1 fun found120 => (atB [some bounds111, some measures112, some found120, none, none, none, none] (rb_ret (ev_var rfl))))))))⟩

def b_is_great (bounds121 cell122 k123 : D) : Option D := o2 dgeD (o2 dixS (some cell122) (some k123)) (o2 dixS (some bounds121) (some k123))
def m_is_great : List D → Option D := ar3 b_is_great

abbrev s_is_great : Stmt := topS 42
theorem sc_is_great : FnScope ["bounds", "cell", "k"] ["bounds", "cell", "k"] (defScope s_is_great) := ⟨rfl, rfl, rfl, by decide +kernel, rfl, by decide +kernel, by decide +kernel⟩

theorem c_is_great (M : Fx K mg cl T) : Cal P w K mg base 1 "is_great" (spD (gm K cl T) m_is_great) := by
  obtain ⟨f, fd, F, hm⟩ := M.f_is_great
  refine cal3 F hm sc_is_great rfl (fun _ _ _ _ _ _ us hl => match us, hl with | [_, _, _], _ => rfl) fun cdv A outer s H E hr => ⟨_, (pss_one (ps_ret (pe_cmpR op_ge (pe_ix ix_seq (pv 1) (pv 2) (fun _ _ => rfl)) (pe_ix ix_seq (pv 0) (pv 2) (fun _ _ => rfl)) (nomark _)))), fun bounds121 cell122 k123 => (atB [some bounds121, some cell122, some k123] (rb_ret (ev_op rv_ge (ev_ix (ev_var rfl) (ev_var rfl)) (ev_ix (ev_var rfl) (ev_var rfl)))))⟩

def b_raw_cell (bounds124 measures125 given126 : D) : Option D := ob (ob (some []) dtupD) fun found127 => ob (ob (o3 dzip3 (some bounds124) (some measures125) (some given126)) fun ds => forO unT 3 (arr13 fun found128 bound129 measure130 number131 => ob (o2 dadd (some found128) (ob (lCons (oif (dtest (o2 dltD (some number131) (some bound129))) (some number131) (o2 dadd (some bound129) (o2 dmod (o2 dsub (some number131) (some bound129)) (some measure130)))) (some [])) dtupD)) fun found132 => some [found132]) [found127] ds) (ar1 fun found133 => some found133)
def m_raw_cell : List D → Option D := ar3 b_raw_cell

abbrev s_raw_cell : Stmt := topS 47
theorem sc_raw_cell : FnScope ["bounds", "measures", "given", "found", "bound", "measure", "number"] ["bounds", "measures", "given"] (defScope s_raw_cell) := ⟨rfl, rfl, rfl, by decide +kernel, rfl, by decide +kernel, by decide +kernel⟩

theorem c_raw_cell (M : Fx K mg cl T) : Cal P w K mg base 1 "raw_cell" (spD (gm K cl T) m_raw_cell) := by
  obtain ⟨f, fd, F, hm⟩ := M.f_raw_cell
  refine cal3 F hm sc_raw_cell rfl (fun _ _ _ _ _ _ us hl => match us, hl with | [_, _, _], _ => rfl) fun cdv A outer s H E hr => ⟨_, (pss_cons (ps_set (i := 3) sc_raw_cell.nd rfl (.inl rfl) (pe_tup pa_nil)) (pss_cons (ps_for PassesOwn.never rfl (pi_zip3 rfl M.n_zip (pa_cons (pv 0) (pa_cons (pv 1) (pa_cons (pv 2) pa_nil)))) (pg_tup rfl (pgs_cons (pg_name (i := 4) sc_raw_cell.nd rfl (.inl rfl)) (pgs_cons (pg_name (i := 5) sc_raw_cell.nd rfl (.inl rfl)) (pgs_cons (pg_name (i := 6) sc_raw_cell.nd rfl (.inl rfl)) pgs_nil)))) (pss_one (ps_set (i := 3) sc_raw_cell.nd rfl (.inl rfl) (pe_op op_addD (pv 3) (pe_tup (pa_cons (pe_ifExp (pt_cmpR op_lt (pv 6) (pv 4) (nomark _)) (pv 6) (pe_op op_addD (pv 4) (pe_op op_modN (pe_op op_sub (pv 6) (pv 4)) (pv 5)))) pa_nil)))))) (pss_one (ps_ret (pv 3))))), fun bounds124 measures125 given126 => (atB [some bounds124, some measures125, some given126, none, none, none, none] (rb_seq (rn_set (ev_tup ea_nil) h1N) fun found127 => (atB [some bounds124, some measures125, some given126, some found127, none, none, none] (rb_seq (rn_forS (js' := [3]) (it_zip3 (ev_var rfl) (ev_var rfl) (ev_var rfl)) tg_3 (by exact ⟨rfl, True.intro⟩) (rnF13 fun found128 bound129 measure130 number131 => (atN [some bounds124, some measures125, some given126, some found128, some bound129, some measure130, some number131] (rn_last (rn_set (ev_op rv_add (ev_var rfl) (ev_tup (ea_cons (ev_if (et_T (ev_op rv_lt (ev_var rfl) (ev_var rfl))) (ev_var rfl) (ev_op rv_add (ev_var rfl) (ev_op rv_mod (ev_op rv_sub (ev_var rfl) (ev_var rfl)) (ev_var rfl)))) ea_nil))) h1N) fun found132 => (atN [some bounds124, some measures125, some given126, some found132, some bound129, some measure130, some number131] (rn_end (by exact ⟨rfl, ⟨rfl, ⟨rfl, ⟨rfl, True.intro⟩⟩⟩⟩) rfl)))))) (rb_ar1 fun found133 => (atB [some bounds124, some measures125, some given126, some found133, none, none, none] (rb_ret (ev_var rfl))))))))⟩

def b_place_of (bounds134 measures135 cell136 : D) : Option D := ob (some (.int 0)) fun found137 => ob (ob (o3 dzip3 (some bounds134) (some measures135) (some cell136)) fun ds => forO unT 3 (arr13 fun found138 bound139 measure140 number141 => ob (o2 dadd (o2 dmul (some found138) (o2 dadd (some bound139) (some measure140))) (some number141)) fun found142 => some [found142]) [found137] ds) (ar1 fun found143 => some found143)
def m_place_of : List D → Option D := ar3 b_place_of

abbrev s_place_of : Stmt := topS 48
theorem sc_place_of : FnScope ["bounds", "measures", "cell", "found", "bound", "measure", "number"] ["bounds", "measures", "cell"] (defScope s_place_of) := ⟨rfl, rfl, rfl, by decide +kernel, rfl, by decide +kernel, by decide +kernel⟩

theorem c_place_of (M : Fx K mg cl T) : Cal P w K mg base 1 "place_of" (spD (gm K cl T) m_place_of) := by
  obtain ⟨f, fd, F, hm⟩ := M.f_place_of
  refine cal3 F hm sc_place_of rfl (fun _ _ _ _ _ _ us hl => match us, hl with | [_, _, _], _ => rfl) fun cdv A outer s H E hr => ⟨_, (pss_cons (ps_set (i := 3) sc_place_of.nd rfl (.inl rfl) pe_int) (pss_cons (ps_for PassesOwn.never rfl (pi_zip3 rfl M.n_zip (pa_cons (pv 0) (pa_cons (pv 1) (pa_cons (pv 2) pa_nil)))) (pg_tup rfl (pgs_cons (pg_name (i := 4) sc_place_of.nd rfl (.inl rfl)) (pgs_cons (pg_name (i := 5) sc_place_of.nd rfl (.inl rfl)) (pgs_cons (pg_name (i := 6) sc_place_of.nd rfl (.inl rfl)) pgs_nil)))) (pss_one (ps_set (i := 3) sc_place_of.nd rfl (.inl rfl) (pe_op op_addD (pe_op op_mulD (pv 3) (pe_op op_addD (pv 4) (pv 5))) (pv 6))))) (pss_one (ps_ret (pv 3))))), fun bounds134 measures135 cell136 => (atB [some bounds134, some measures135, some cell136, none, none, none, none] (rb_seq (rn_set ev_int h1N) fun found137 => (atB [some bounds134, some measures135, some cell136, some found137, none, none, none] (rb_seq (rn_forS (js' := [3]) (it_zip3 (ev_var rfl) (ev_var rfl) (ev_var rfl)) tg_3 (by exact ⟨rfl, True.intro⟩) (rnF13 fun found138 bound139 measure140 number141 => (atN [some bounds134, some measures135, some cell136, some found138, some bound139, some measure140, some number141] (rn_last (rn_set (ev_op rv_add (ev_op rv_mul (ev_var rfl) (ev_op rv_add (ev_var rfl) (ev_var rfl))) (ev_var rfl)) h1N) fun found142 => (atN [some bounds134, some measures135, some cell136, some found142, some bound139, some measure140, some number141] (rn_end (by exact ⟨rfl, ⟨rfl, ⟨rfl, ⟨rfl, True.intro⟩⟩⟩⟩) rfl)))))) (rb_ar1 fun found143 => (atB [some bounds134, some measures135, some cell136, some found143, none, none, none] (rb_ret (ev_var rfl))))))))⟩

def b_raw_row (table144 cell145 : D) : Option D := o2 dixS (ob (some table144) (dfld 1 ("rows" : Str))) (ob (lCons (ob (some table144) (dfld 1 ("bounds" : Str))) (lCons (ob (some table144) (dfld 1 ("measures" : Str))) (lCons (some cell145) (some [])))) m_place_of)
def m_raw_row : List D → Option D := ar2 b_raw_row

abbrev s_raw_row : Stmt := topS 49
theorem sc_raw_row : FnScope ["table", "cell"] ["table", "cell"] (defScope s_raw_row) := ⟨rfl, rfl, rfl, by decide +kernel, rfl, by decide +kernel, by decide +kernel⟩

theorem c_raw_row (M : Fx K mg cl T) : Cal P w K mg base 2 "raw_row" (spD (gm K cl T) m_raw_row) := by
  obtain ⟨f, fd, F, hm⟩ := M.f_raw_row
  refine cal2 F hm sc_raw_row rfl (fun _ _ _ _ _ _ us hl => match us, hl with | [_, _], _ => rfl) fun cdv A outer s H E hr => ⟨_, (pss_one (ps_ret (pe_ix ix_seq (pe_fld (pv 0) rfl) (pe_cl (c_place_of M) hr (by decide) rfl (pa_cons (pe_fld (pv 0) rfl) (pa_cons (pe_fld (pv 0) rfl) (pa_cons (pv 1) pa_nil)))) (fun _ _ => rfl)))), fun table144 cell145 => (atB [some table144, some cell145] (rb_ret (ev_ix (ev_fld M.k_rows (ev_var rfl)) (ev_call (ea_cons (ev_fld M.k_bounds (ev_var rfl)) (ea_cons (ev_fld M.k_measures (ev_var rfl)) (ea_cons (ev_var rfl) ea_nil)))))))⟩

def b_form_value (form146 times147 : D) : Option D := o2 dadd (o2 dixS (some form146) (some (.int 0))) (ob (lCons (ob (o2 dzip2 (o2 dixS (some form146) (some (.int 1))) (some times147)) (lcO unT 2 (ar2 fun step148 time149 => o2 dmul (some step148) (some time149)))) (some [])) (d1 dsum))
def m_form_value : List D → Option D := ar2 b_form_value

abbrev s_form_value : Stmt := topS 50
theorem sc_form_value : FnScope ["form", "times", "step", "time"] ["form", "times"] (defScope s_form_value) := ⟨rfl, rfl, rfl, by decide +kernel, rfl, by decide +kernel, by decide +kernel⟩

theorem c_form_value (M : Fx K mg cl T) : Cal P w K mg base 1 "form_value" (spD (gm K cl T) m_form_value) := by
  obtain ⟨f, fd, F, hm⟩ := M.f_form_value
  refine cal2 F hm sc_form_value rfl (fun _ _ _ _ _ _ us hl => match us, hl with | [_, _], _ => rfl) fun cdv A outer s H E hr => ⟨_, (pss_one (ps_ret (pe_op op_addD (pe_ix ix_seq (pv 0) pe_int (fun _ _ => rfl)) (pe_callB (call_sum rfl) (by rfl) M.n_sum (by decide +kernel) (pa_cons (pe_lc (own := [("step", 2), ("time", 3)]) rfl sc_form_value.nd (pi_zip2 rfl M.n_zip (pa_cons (pe_ix ix_seq (pv 0) pe_int (fun _ _ => rfl)) (pa_cons (pv 1) pa_nil))) (blkOk_by (by kernel_rfl)) (fun _ _ _ _ _ => (pg_tup rfl (pgs_cons (pg_name (i := 2) sc_form_value.nd rfl (.inl rfl)) (pgs_cons (pg_name (i := 3) sc_form_value.nd rfl (.inl rfl)) pgs_nil)))) (fun _ _ _ _ _ => pts_nil) (fun _ _ _ _ _ => (pe_op op_mulD (pv 2) (pv 3)))) pa_nil))))), fun form146 times147 => (atB [some form146, some times147, none, none] (rb_ret (ev_op rv_add (ev_ix (ev_var rfl) ev_int) (ev_cb rc_sum (ea_cons (ev_lc (it_zip2 (ev_ix (ev_var rfl) ev_int) (ev_var rfl)) tg_2 (by decide) hvN (ev_ar2 fun step148 time149 => (atE [some form146, some times147, some step148, some time149] (ev_op rv_mul (ev_var rfl) (ev_var rfl))))) ea_nil)))))⟩

def b_raw_value (table150 given151 : D) : Option D := ob (ob (lCons (ob (some table150) (dfld 1 ("bounds" : Str))) (lCons (ob (some table150) (dfld 1 ("measures" : Str))) (lCons (some given151) (some [])))) m_raw_cell) fun cell152 => ob (ob (ob (ob (lCons (some cell152) (some [])) (d1 dlen)) drange1) (lcO un1 1 (ar1 fun k154 => o2 dfdiv (o2 dsub (o2 dixS (some given151) (some k154)) (o2 dixS (some cell152) (some k154))) (o2 dixS (ob (some table150) (dfld 1 ("measures" : Str))) (some k154))))) fun times153 => ob (lCons (ob (ob (ob (lCons (some table150) (lCons (some cell152) (some []))) m_raw_row) ditems) (lcO un1 1 (ar1 fun form155 => ob (lCons (some form155) (lCons (some times153) (some []))) m_form_value))) (some [])) (d1 dtupS)
def m_raw_value : List D → Option D := ar2 b_raw_value

abbrev s_raw_value : Stmt := topS 51
theorem sc_raw_value : FnScope ["table", "given", "cell", "times", "k", "form"] ["table", "given"] (defScope s_raw_value) := ⟨rfl, rfl, rfl, by decide +kernel, rfl, by decide +kernel, by decide +kernel⟩

theorem c_raw_value (M : Fx K mg cl T) : Cal P w K mg base 3 "raw_value" (spD (gm K cl T) m_raw_value) := by
  obtain ⟨f, fd, F, hm⟩ := M.f_raw_value
  refine cal2 F hm sc_raw_value rfl (fun _ _ _ _ _ _ us hl => match us, hl with | [_, _], _ => rfl) fun cdv A outer s H E hr => ⟨_, (pss_cons (ps_set (i := 2) sc_raw_value.nd rfl (.inr rfl) (pe_cl (c_raw_cell M) hr (by decide) rfl (pa_cons (pe_fld (pv 0) rfl) (pa_cons (pe_fld (pv 0) rfl) (pa_cons (pv 1) pa_nil))))) (pss_cons (ps_set (i := 3) sc_raw_value.nd rfl (.inr rfl) (pe_lc (own := [("k", 4)]) rfl sc_raw_value.nd (pi_range1 rfl M.n_range (pa_cons (pe_callB call_lenS (by rfl) M.n_len (by decide +kernel) (pa_cons (pv 2) pa_nil)) pa_nil)) (blkOk_by (by kernel_rfl)) (fun _ _ _ _ _ => (pg_name (i := 4) sc_raw_value.nd rfl (.inl rfl))) (fun _ _ _ _ _ => pts_nil) (fun _ _ _ _ _ => (pe_op op_fdivN (pe_op op_sub (pe_ix ix_seq (pv 1) (pv 4) (fun _ _ => rfl)) (pe_ix ix_seq (pv 2) (pv 4) (fun _ _ => rfl))) (pe_ix ix_seq (pe_fld (pv 0) rfl) (pv 4) (fun _ _ => rfl)))))) (pss_one (ps_ret (pe_callTy call_tuple' (by rfl) M.n_tuple (by decide +kernel) (pa_cons (pe_lc (own := [("form", 5)]) rfl sc_raw_value.nd (pi_seq (pe_cl (c_raw_row M) hr (by decide) rfl (pa_cons (pv 0) (pa_cons (pv 2) pa_nil)))) (blkOk_by (by kernel_rfl)) (fun _ _ _ _ _ => (pg_name (i := 5) sc_raw_value.nd rfl (.inl rfl))) (fun _ _ _ _ _ => pts_nil) (fun _ _ _ _ _ => (pe_cl (c_form_value M) hr (by decide) rfl (pa_cons (pv 5) (pa_cons (pv 3) pa_nil))))) pa_nil)))))), fun table150 given151 => (atB [some table150, some given151, none, none, none, none] (rb_seq (rn_set (ev_call (ea_cons (ev_fld M.k_bounds (ev_var rfl)) (ea_cons (ev_fld M.k_measures (ev_var rfl)) (ea_cons (ev_var rfl) ea_nil)))) h1N) fun cell152 => (atB [some table150, some given151, some cell152, none, none, none] (rb_seq (rn_set (ev_lc (it_range1 (ev_cb rc_len (ea_cons (ev_var rfl) ea_nil))) tg_name (by decide) hvN (ev_ar1 fun k154 => (atE [some table150, some given151, some cell152, none, some k154, none] (ev_op rv_fdiv (ev_op rv_sub (ev_ix (ev_var rfl) (ev_var rfl)) (ev_ix (ev_var rfl) (ev_var rfl))) (ev_ix (ev_fld M.k_measures (ev_var rfl)) (ev_var rfl)))))) h1N) fun times153 => (atB [some table150, some given151, some cell152, some times153, none, none] (rb_ret (ev_cb rc_tuple (ea_cons (ev_lc (it_seq (ev_call (ea_cons (ev_var rfl) (ea_cons (ev_var rfl) ea_nil)))) tg_name (by decide) hvN (ev_ar1 fun form155 => (atE [some table150, some given151, some cell152, some times153, none, some form155] (ev_call (ea_cons (ev_var rfl) (ea_cons (ev_var rfl) ea_nil)))))) ea_nil))))))))⟩

def b_raised (given156 k157 measure158 : D) : Option D := o2 dadd (o2 dadd (dslD (some given156) (some none) (ob (some k157) asP)) (ob (lCons (o2 dadd (o2 dixS (some given156) (some k157)) (some measure158)) (some [])) dtupD)) (dslD (some given156) (ob (o2 dadd (some k157) (some (.int 1))) asP) (some none))
def m_raised : List D → Option D := ar3 b_raised

abbrev s_raised : Stmt := topS 52
theorem sc_raised : FnScope ["given", "k", "measure"] ["given", "k", "measure"] (defScope s_raised) := ⟨rfl, rfl, rfl, by decide +kernel, rfl, by decide +kernel, by decide +kernel⟩

theorem c_raised (M : Fx K mg cl T) : Cal P w K mg base 1 "raised" (spD (gm K cl T) m_raised) := by
  obtain ⟨f, fd, F, hm⟩ := M.f_raised
  refine cal3 F hm sc_raised rfl (fun _ _ _ _ _ _ us hl => match us, hl with | [_, _, _], _ => rfl) fun cdv A outer s H E hr => ⟨_, (pss_one (ps_ret (pe_op op_addD (pe_op op_addD (pe_slice sl_D (pv 0) po_none (po_some (pv 1))) (pe_tup (pa_cons (pe_op op_addD (pe_ix ix_seq (pv 0) (pv 1) (fun _ _ => rfl)) (pv 2)) pa_nil))) (pe_slice sl_D (pv 0) (po_some (pe_op op_addD (pv 1) pe_int)) po_none)))), fun given156 k157 measure158 => (atB [some given156, some k157, some measure158] (rb_ret (ev_op rv_add (ev_op rv_add (ev_sl (ev_var rfl) ep_none (ep_some (ev_var rfl))) (ev_tup (ea_cons (ev_op rv_add (ev_ix (ev_var rfl) (ev_var rfl)) (ev_var rfl)) ea_nil))) (ev_sl (ev_var rfl) (ep_some (ev_op rv_add (ev_var rfl) ev_int)) ep_none))))⟩

def b_line_of (table159 k160 others161 many162 : D) : Option D := ob (ob (some many162) drange1) (lcO un1 1 (ar1 fun number163 => ob (lCons (some table159) (lCons (o2 dadd (o2 dadd (dslD (some others161) (some none) (ob (some k160) asP)) (ob (lCons (some number163) (some [])) dtupD)) (dslD (some others161) (ob (some k160) asP) (some none))) (some []))) m_raw_value))
def m_line_of : List D → Option D := ar4 b_line_of

abbrev s_line_of : Stmt := topS 57
theorem sc_line_of : FnScope ["table", "k", "others", "many", "number"] ["table", "k", "others", "many"] (defScope s_line_of) := ⟨rfl, rfl, rfl, by decide +kernel, rfl, by decide +kernel, by decide +kernel⟩

theorem c_line_of (M : Fx K mg cl T) : Cal P w K mg base 4 "line_of" (spD (gm K cl T) m_line_of) := by
  obtain ⟨f, fd, F, hm⟩ := M.f_line_of
  refine cal4 F hm sc_line_of rfl (fun _ _ _ _ _ _ us hl => match us, hl with | [_, _, _, _], _ => rfl) fun cdv A outer s H E hr => ⟨_, (pss_one (ps_ret (pe_lc (own := [("number", 4)]) rfl sc_line_of.nd (pi_range1 rfl M.n_range (pa_cons (pv 3) pa_nil)) (blkOk_by (by kernel_rfl)) (fun _ _ _ _ _ => (pg_name (i := 4) sc_line_of.nd rfl (.inl rfl))) (fun _ _ _ _ _ => pts_nil) (fun _ _ _ _ _ => (pe_cl (c_raw_value M) hr (by decide) rfl (pa_cons (pv 0) (pa_cons (pe_op op_addD (pe_op op_addD (pe_slice sl_D (pv 2) po_none (po_some (pv 1))) (pe_tup (pa_cons (pv 4) pa_nil))) (pe_slice sl_D (pv 2) (po_some (pv 1)) po_none)) pa_nil))))))), fun table159 k160 others161 many162 => (atB [some table159, some k160, some others161, some many162, none] (rb_ret (ev_lc (it_range1 (ev_var rfl)) tg_name (by decide) hvN (ev_ar1 fun number163 => (atE [some table159, some k160, some others161, some many162, some number163] (ev_call (ea_cons (ev_var rfl) (ea_cons (ev_op rv_add (ev_op rv_add (ev_sl (ev_var rfl) ep_none (ep_some (ev_var rfl))) (ev_tup (ea_cons (ev_var rfl) ea_nil))) (ev_sl (ev_var rfl) (ep_some (ev_var rfl)) ep_none)) ea_nil))))))))⟩

def b_side_inputs (table164 k165 : D) : Option D := oif (dtest (o2 deqD (ob (lCons (ob (some table164) (dfld 1 ("bounds" : Str))) (some [])) (d1 dlen)) (some (.int 1)))) (ob (lCons (ob (some []) dtupD) (some [])) dlstD) (ob (o2 dsub (some (.int 1)) (some k165)) fun other166 => ob (ob (o2 dadd (o2 dixS (ob (some table164) (dfld 1 ("bounds" : Str))) (some other166)) (o2 dmul (some (.int 2)) (o2 dixS (ob (some table164) (dfld 1 ("measures" : Str))) (some other166)))) drange1) (lcO un1 1 (ar1 fun number167 => ob (lCons (some number167) (some [])) dtupD)))
def m_side_inputs : List D → Option D := ar2 b_side_inputs

abbrev s_side_inputs : Stmt := topS 58
theorem sc_side_inputs : FnScope ["table", "k", "other", "number"] ["table", "k"] (defScope s_side_inputs) := ⟨rfl, rfl, rfl, by decide +kernel, rfl, by decide +kernel, by decide +kernel⟩

theorem c_side_inputs (M : Fx K mg cl T) : Cal P w K mg base 1 "side_inputs" (spD (gm K cl T) m_side_inputs) := by
  obtain ⟨f, fd, F, hm⟩ := M.f_side_inputs
  refine cal2 F hm sc_side_inputs rfl (fun _ _ _ _ _ _ us hl => match us, hl with | [_, _], _ => rfl) fun cdv A outer s H E hr => ⟨_, (pss_cons (ps_if (pt_cmpR (op_eqA hr.units) (pe_callB call_lenS (by rfl) M.n_len (by decide +kernel) (pa_cons (pe_fld (pv 0) rfl) pa_nil)) pe_int (nomark _)) (pss_one (ps_ret (pe_lst (pa_cons (pe_tup pa_nil) pa_nil)))) pss_nil) (pss_cons (ps_set (i := 2) sc_side_inputs.nd rfl (.inl rfl) (pe_op op_sub pe_int (pv 1))) (pss_one (ps_ret (pe_lc (own := [("number", 3)]) rfl sc_side_inputs.nd (pi_range1 rfl M.n_range (pa_cons (pe_op op_addD (pe_ix ix_seq (pe_fld (pv 0) rfl) (pv 2) (fun _ _ => rfl)) (pe_op op_mulD pe_int (pe_ix ix_seq (pe_fld (pv 0) rfl) (pv 2) (fun _ _ => rfl)))) pa_nil)) (blkOk_by (by kernel_rfl)) (fun _ _ _ _ _ => (pg_name (i := 3) sc_side_inputs.nd rfl (.inl rfl))) (fun _ _ _ _ _ => pts_nil) (fun _ _ _ _ _ => (pe_tup (pa_cons (pv 3) pa_nil)))))))), fun table164 k165 => (atB [some table164, some k165, none, none] (rb_ifseq (et_T (ev_op rv_eq (ev_cb rc_len (ea_cons (ev_fld M.k_bounds (ev_var rfl)) ea_nil)) ev_int)) (atB [some table164, some k165, none, none] (rb_ret (ev_lst (ea_cons (ev_tup ea_nil) ea_nil)))) (atB [some table164, some k165, none, none] (rb_seq (rn_set (ev_op rv_sub ev_int (ev_var rfl)) h1N) fun other166 => (atB [some table164, some k165, some other166, none] (rb_ret (ev_lc (it_range1 (ev_op rv_add (ev_ix (ev_fld M.k_bounds (ev_var rfl)) (ev_var rfl)) (ev_op rv_mul ev_int (ev_ix (ev_fld M.k_measures (ev_var rfl)) (ev_var rfl))))) tg_name (by decide) hvN (ev_ar1 fun number167 => (atE [some table164, some k165, some other166, some number167] (ev_tup (ea_cons (ev_var rfl) ea_nil)))))))))))⟩

def b_form_pushed (forms168 pair169 many170 : D) : Option D := ob (unO 2 (some pair169)) (ar2 fun source171 more172 => oif (dtest (ob (some source171) fun x => some (.bl (isNonD x)))) (ob (lCons (some more172) (lCons (o2 dmul (ob (lCons (some (.int 0)) (some [])) dtupD) (some many170)) (some []))) dtupD) (ob (lCons (o2 dadd (o2 dixS (o2 ddget (some forms168) (some source171)) (some (.int 0))) (some more172)) (lCons (o2 dixS (o2 ddget (some forms168) (some source171)) (some (.int 1))) (some []))) dtupD))
def m_form_pushed : List D → Option D := ar3 b_form_pushed

abbrev s_form_pushed : Stmt := topS 65
theorem sc_form_pushed : FnScope ["forms", "pair", "many", "source", "more"] ["forms", "pair", "many"] (defScope s_form_pushed) := ⟨rfl, rfl, rfl, by decide +kernel, rfl, by decide +kernel, by decide +kernel⟩

theorem c_form_pushed (M : Fx K mg cl T) : Cal P w K mg base 1 "form_pushed" (spD (gm K cl T) m_form_pushed) := by
  obtain ⟨f, fd, F, hm⟩ := M.f_form_pushed
  refine cal3 F hm sc_form_pushed rfl (fun _ _ _ _ _ _ us hl => match us, hl with | [_, _, _], _ => rfl) fun cdv A outer s H E hr => ⟨_, (pss_cons (ps_asg (pv 1) (pg_tup rfl (pgs_cons (pg_name (i := 3) sc_form_pushed.nd rfl (.inl rfl)) (pgs_cons (pg_name (i := 4) sc_form_pushed.nd rfl (.inl rfl)) pgs_nil)))) (pss_cons (ps_if (pt_cmp (pc_isN (pv 3)) rfl) (pss_one (ps_ret (pe_tup (pa_cons (pv 4) (pa_cons (pe_op op_mulD (pe_tup (pa_cons pe_int pa_nil)) (pv 2)) pa_nil))))) pss_nil) (pss_one (ps_ret (pe_tup (pa_cons (pe_op op_addD (pe_ix ix_seq (pe_dget (hu_of hr) (pv 0) (pv 3) (fun _ _ => rfl)) pe_int (fun _ _ => rfl)) (pv 4)) (pa_cons (pe_ix ix_seq (pe_dget (hu_of hr) (pv 0) (pv 3) (fun _ _ => rfl)) pe_int (fun _ _ => rfl)) pa_nil))))))), fun forms168 pair169 many170 => (atB [some forms168, some pair169, some many170, none, none] (rb_seq (rn_un (ev_var rfl) tg_2 hvN) (rb_ar2 fun source171 more172 => (atB [some forms168, some pair169, some many170, some source171, some more172] (rb_ifseq (et_B (ev_isN (ev_var rfl))) (atB [some forms168, some pair169, some many170, some source171, some more172] (rb_ret (ev_tup (ea_cons (ev_var rfl) (ea_cons (ev_op rv_mul (ev_tup (ea_cons ev_int ea_nil)) (ev_var rfl)) ea_nil))))) (atB [some forms168, some pair169, some many170, some source171, some more172] (rb_ret (ev_tup (ea_cons (ev_op rv_add (ev_ix (ev_dget (ev_var rfl) (ev_var rfl)) ev_int) (ev_var rfl)) (ea_cons (ev_ix (ev_dget (ev_var rfl) (ev_var rfl)) ev_int) ea_nil))))))))))⟩

def b_row_pushed (own173 row174 push175 : D) : Option D := ob (o2 ddictzip (some own173) (some row174)) fun forms176 => ob (ob (lCons (o2 dixS (o2 dixS (some row174) (some (.int 0))) (some (.int 1))) (some [])) (d1 dlen)) fun many177 => ob (lCons (ob (ob (some own173) ditems) (lcO un1 1 (ar1 fun name178 => ob (lCons (some forms176) (lCons (o2 ddget (some push175) (some name178)) (lCons (some many177) (some [])))) m_form_pushed))) (some [])) (d1 dtupS)
def m_row_pushed : List D → Option D := ar3 b_row_pushed

abbrev s_row_pushed : Stmt := topS 66
theorem sc_row_pushed : FnScope ["own", "row", "push", "forms", "many", "name"] ["own", "row", "push"] (defScope s_row_pushed) := ⟨rfl, rfl, rfl, by decide +kernel, rfl, by decide +kernel, by decide +kernel⟩

theorem c_row_pushed (M : Fx K mg cl T) : Cal P w K mg base 2 "row_pushed" (spD (gm K cl T) m_row_pushed) := by
  obtain ⟨f, fd, F, hm⟩ := M.f_row_pushed
  refine cal3 F hm sc_row_pushed rfl (fun _ _ _ _ _ _ us hl => match us, hl with | [_, _, _], _ => rfl) fun cdv A outer s H E hr => ⟨_, (pss_cons (ps_set (i := 3) sc_row_pushed.nd rfl (.inr rfl) (pe_dictzip rfl rfl M.n_dict rfl M.n_zip (pa_cons (pv 0) (pa_cons (pv 1) pa_nil)))) (pss_cons (ps_set (i := 4) sc_row_pushed.nd rfl (.inr rfl) (pe_callB call_lenS (by rfl) M.n_len (by decide +kernel) (pa_cons (pe_ix ix_seq (pe_ix ix_seq (pv 1) pe_int (fun _ _ => rfl)) pe_int (fun _ _ => rfl)) pa_nil))) (pss_one (ps_ret (pe_callTy call_tuple' (by rfl) M.n_tuple (by decide +kernel) (pa_cons (pe_lc (own := [("name", 5)]) rfl sc_row_pushed.nd (pi_seq (pv 0)) (blkOk_by (by kernel_rfl)) (fun _ _ _ _ _ => (pg_name (i := 5) sc_row_pushed.nd rfl (.inl rfl))) (fun _ _ _ _ _ => pts_nil) (fun _ _ _ _ _ => (pe_cl (c_form_pushed M) hr (by decide) rfl (pa_cons (pv 3) (pa_cons (pe_dget (hu_of hr) (pv 2) (pv 5) (fun _ _ => rfl)) (pa_cons (pv 4) pa_nil)))))) pa_nil)))))), fun own173 row174 push175 => (atB [some own173, some row174, some push175, none, none, none] (rb_seq (rn_set (ev_dictzip (ev_var rfl) (ev_var rfl)) h1N) fun forms176 => (atB [some own173, some row174, some push175, some forms176, none, none] (rb_seq (rn_set (ev_cb rc_len (ea_cons (ev_ix (ev_ix (ev_var rfl) ev_int) ev_int) ea_nil)) h1N) fun many177 => (atB [some own173, some row174, some push175, some forms176, some many177, none] (rb_ret (ev_cb rc_tuple (ea_cons (ev_lc (it_seq (ev_var rfl)) tg_name (by decide) hvN (ev_ar1 fun name178 => (atE [some own173, some row174, some push175, some forms176, some many177, some name178] (ev_call (ea_cons (ev_var rfl) (ea_cons (ev_dget (ev_var rfl) (ev_var rfl)) (ea_cons (ev_var rfl) ea_nil))))))) ea_nil))))))))⟩

def b_finer (table179 at180 far181 turns182 : D) : Option D := ob (ob (some []) dtupD) fun bounds183 => ob (ob (some []) dtupD) fun measures184 => ob (ob (ob (ob (lCons (ob (some table179) (dfld 1 ("bounds" : Str))) (some [])) (d1 dlen)) drange1) fun ds => forO un1 1 (arr21 fun bounds185 measures186 k187 => ob (some (.int 0)) fun more188 => ob (some (.int 1)) fun times189 => ob (ob (ob (ob (some table179) (dfld 1 ("rows" : Str))) ditems) fun ds => forO un1 1 (arr21 fun more190 times191 row192 => ob (o2 dixS (o2 dixS (o2 dixS (some row192) (some at180)) (some (.int 1))) (some k187)) fun step193 => oif (dtest (o2 dgtD (some step193) (some (.int 0)))) (ob (ob (lCons (some more190) (lCons (ob (lCons (some far181) (lCons (some step193) (some []))) m_divided_up) (some []))) (d2 dmax2)) fun more194 => ob (ob (lCons (some times191) (lCons (o2 dfdiv (some turns182) (ob (lCons (some turns182) (lCons (some step193) (some []))) m_common_divisor)) (some []))) m_common_multiple) fun times195 => some [more194, times195]) (some [more190, times191])) [more188, times189] ds) (ar2 fun more196 times197 => ob (o2 dadd (some bounds185) (ob (lCons (o2 dadd (o2 dixS (ob (some table179) (dfld 1 ("bounds" : Str))) (some k187)) (o2 dmul (o2 dixS (ob (some table179) (dfld 1 ("measures" : Str))) (some k187)) (some more196))) (some [])) dtupD)) fun bounds198 => ob (o2 dadd (some measures186) (ob (lCons (o2 dmul (o2 dixS (ob (some table179) (dfld 1 ("measures" : Str))) (some k187)) (some times197)) (some [])) dtupD)) fun measures199 => some [bounds198, measures199])) [bounds183, measures184] ds) (ar2 fun bounds200 measures201 => ob (lCons (some bounds200) (lCons (some measures201) (some []))) dtupD)
def m_finer : List D → Option D := ar4 b_finer

abbrev s_finer : Stmt := topS 67
theorem sc_finer : FnScope ["table", "at", "far", "turns", "bounds", "measures", "k", "more", "times", "row", "step"] ["table", "at", "far", "turns"] (defScope s_finer) := ⟨rfl, rfl, rfl, by decide +kernel, rfl, by decide +kernel, by decide +kernel⟩

theorem c_finer (M : Fx K mg cl T) : Cal P w K mg base 3 "finer" (spD (gm K cl T) m_finer) := by
  obtain ⟨f, fd, F, hm⟩ := M.f_finer
  refine cal4 F hm sc_finer rfl (fun _ _ _ _ _ _ us hl => match us, hl with | [_, _, _, _], _ => rfl) fun cdv A outer s H E hr => ⟨_, (pss_cons (ps_set (i := 4) sc_finer.nd rfl (.inl rfl) (pe_tup pa_nil)) (pss_cons (ps_set (i := 5) sc_finer.nd rfl (.inl rfl) (pe_tup pa_nil)) (pss_cons (ps_for PassesOwn.never rfl (pi_range1 rfl M.n_range (pa_cons (pe_callB call_lenS (by rfl) M.n_len (by decide +kernel) (pa_cons (pe_fld (pv 0) rfl) pa_nil)) pa_nil)) (pg_name (i := 6) sc_finer.nd rfl (.inl rfl)) (pss_cons (ps_set (i := 7) sc_finer.nd rfl (.inl rfl) pe_int) (pss_cons (ps_set (i := 8) sc_finer.nd rfl (.inl rfl) pe_int) (pss_cons (ps_for PassesOwn.never rfl (pi_seq (pe_fld (pv 0) rfl)) (pg_name (i := 9) sc_finer.nd rfl (.inl rfl)) (pss_cons (ps_set (i := 10) sc_finer.nd rfl (.inl rfl) (pe_ix ix_seq (pe_ix ix_seq (pe_ix ix_seq (pv 9) (pv 1) (fun _ _ => rfl)) pe_int (fun _ _ => rfl)) (pv 6) (fun _ _ => rfl))) (pss_one (ps_if (pt_cmpR op_gt (pv 10) pe_int (nomark _)) (pss_cons (ps_set (i := 7) sc_finer.nd rfl (.inl rfl) (pe_callB (call_max2' rfl) (by rfl) M.n_max (by decide +kernel) (pa_cons (pv 7) (pa_cons (pe_cl (c_divided_up M) hr (by decide) rfl (pa_cons (pv 2) (pa_cons (pv 10) pa_nil))) pa_nil)))) (pss_one (ps_set (i := 8) sc_finer.nd rfl (.inl rfl) (pe_cl (c_common_multiple M) hr (by decide) rfl (pa_cons (pv 8) (pa_cons (pe_op op_fdivN (pv 3) (pe_cl (c_common_divisor M) hr (by decide) rfl (pa_cons (pv 3) (pa_cons (pv 10) pa_nil)))) pa_nil)))))) pss_nil)))) (pss_cons (ps_set (i := 4) sc_finer.nd rfl (.inl rfl) (pe_op op_addD (pv 4) (pe_tup (pa_cons (pe_op op_addD (pe_ix ix_seq (pe_fld (pv 0) rfl) (pv 6) (fun _ _ => rfl)) (pe_op op_mulD (pe_ix ix_seq (pe_fld (pv 0) rfl) (pv 6) (fun _ _ => rfl)) (pv 7))) pa_nil)))) (pss_one (ps_set (i := 5) sc_finer.nd rfl (.inl rfl) (pe_op op_addD (pv 5) (pe_tup (pa_cons (pe_op op_mulD (pe_ix ix_seq (pe_fld (pv 0) rfl) (pv 6) (fun _ _ => rfl)) (pv 8)) pa_nil)))))))))) (pss_one (ps_ret (pe_tup (pa_cons (pv 4) (pa_cons (pv 5) pa_nil)))))))), fun table179 at180 far181 turns182 => (atB [some table179, some at180, some far181, some turns182, none, none, none, none, none, none, none] (rb_seq (rn_set (ev_tup ea_nil) h1N) fun bounds183 => (atB [some table179, some at180, some far181, some turns182, some bounds183, none, none, none, none, none, none] (rb_seq (rn_set (ev_tup ea_nil) h1N) fun measures184 => (atB [some table179, some at180, some far181, some turns182, some bounds183, some measures184, none, none, none, none, none] (rb_seq (rn_forS (js' := [4, 5]) (it_range1 (ev_cb rc_len (ea_cons (ev_fld M.k_bounds (ev_var rfl)) ea_nil))) tg_name (by exact ⟨rfl, ⟨rfl, True.intro⟩⟩) (rnF21 fun bounds185 measures186 k187 => (atN [some table179, some at180, some far181, some turns182, some bounds185, some measures186, some k187, none, none, none, none] (rn_seq (rn_set ev_int h1N) fun more188 => (atN [some table179, some at180, some far181, some turns182, some bounds185, some measures186, some k187, some more188, none, none, none] (rn_seq (rn_set ev_int h1N) fun times189 => (atN [some table179, some at180, some far181, some turns182, some bounds185, some measures186, some k187, some more188, some times189, none, none] (rn_seq (rn_forS (js' := [7, 8]) (it_seq (ev_fld M.k_rows (ev_var rfl))) tg_name (by exact ⟨rfl, ⟨rfl, True.intro⟩⟩) (rnF21 fun more190 times191 row192 => (atN [some table179, some at180, some far181, some turns182, some bounds185, some measures186, some k187, some more190, some times191, some row192, none] (rn_seq (rn_set (ev_ix (ev_ix (ev_ix (ev_var rfl) (ev_var rfl)) ev_int) (ev_var rfl)) h1N) fun step193 => (atN [some table179, some at180, some far181, some turns182, some bounds185, some measures186, some k187, some more190, some times191, some row192, some step193] (rn_if (et_T (ev_op rv_gt (ev_var rfl) ev_int)) (atN [some table179, some at180, some far181, some turns182, some bounds185, some measures186, some k187, some more190, some times191, some row192, some step193] (rn_seq (rn_set (ev_cb rc_max2 (ea_cons (ev_var rfl) (ea_cons (ev_call (ea_cons (ev_var rfl) (ea_cons (ev_var rfl) ea_nil))) ea_nil))) h1N) fun more194 => (atN [some table179, some at180, some far181, some turns182, some bounds185, some measures186, some k187, some more194, some times191, some row192, some step193] (rn_last (rn_set (ev_call (ea_cons (ev_var rfl) (ea_cons (ev_op rv_fdiv (ev_var rfl) (ev_call (ea_cons (ev_var rfl) (ea_cons (ev_var rfl) ea_nil)))) ea_nil))) h1N) fun times195 => (atN [some table179, some at180, some far181, some turns182, some bounds185, some measures186, some k187, some more194, some times195, some row192, some step193] (rn_end (by exact ⟨rfl, ⟨rfl, ⟨rfl, ⟨rfl, ⟨rfl, ⟨rfl, ⟨rfl, ⟨rfl, ⟨rfl, True.intro⟩⟩⟩⟩⟩⟩⟩⟩⟩) rfl)))))) (atN [some table179, some at180, some far181, some turns182, some bounds185, some measures186, some k187, some more190, some times191, some row192, some step193] (rn_end (by exact ⟨rfl, ⟨rfl, ⟨rfl, ⟨rfl, ⟨rfl, ⟨rfl, ⟨rfl, ⟨rfl, ⟨rfl, True.intro⟩⟩⟩⟩⟩⟩⟩⟩⟩) rfl)))))))) (rn_ar2 fun more196 times197 => (atN [some table179, some at180, some far181, some turns182, some bounds185, some measures186, some k187, some more196, some times197, none, none] (rn_seq (rn_set (ev_op rv_add (ev_var rfl) (ev_tup (ea_cons (ev_op rv_add (ev_ix (ev_fld M.k_bounds (ev_var rfl)) (ev_var rfl)) (ev_op rv_mul (ev_ix (ev_fld M.k_measures (ev_var rfl)) (ev_var rfl)) (ev_var rfl))) ea_nil))) h1N) fun bounds198 => (atN [some table179, some at180, some far181, some turns182, some bounds198, some measures186, some k187, some more196, some times197, none, none] (rn_last (rn_set (ev_op rv_add (ev_var rfl) (ev_tup (ea_cons (ev_op rv_mul (ev_ix (ev_fld M.k_measures (ev_var rfl)) (ev_var rfl)) (ev_var rfl)) ea_nil))) h1N) fun measures199 => (atN [some table179, some at180, some far181, some turns182, some bounds198, some measures199, some k187, some more196, some times197, none, none] (rn_end (by exact ⟨rfl, ⟨rfl, ⟨rfl, ⟨rfl, ⟨rfl, ⟨rfl, True.intro⟩⟩⟩⟩⟩⟩) rfl))))))))))))))) (rb_ar2 fun bounds200 measures201 => (atB [some table179, some at180, some far181, some turns182, some bounds200, some measures201, none, none, none, none, none] (rb_ret (ev_tup (ea_cons (ev_var rfl) (ea_cons (ev_var rfl) ea_nil))))))))))))⟩

end
end Z

namespace Z
open PySem PySem.Spec PyProof.Rows L2 NdefX LamX
section
variable {P : Program} {w : World} {K : PySem.W.Frag} {mg : Str → Option Value} {base : Heap} {cl : Nat → Addr} {T : List NTab}
def b_is_enough (lines202 bound203 measure204 far205 : D) : Option D := ob (lCons (ob (ob (some lines202) ditems) (lc2O un1 1 (ar1 fun line206 => o2 drange2 (some bound203) (some far205)) un1 1 (arr11 fun line206 number207 => ob (lCons (some line206) (lCons (some number207) (lCons (some measure204) (some [])))) m_goes_evenly))) (some [])) (d1 dall)
def m_is_enough : List D → Option D := ar4 b_is_enough

abbrev s_is_enough : Stmt := topS 60
theorem sc_is_enough : FnScope ["lines", "bound", "measure", "far", "line", "number"] ["lines", "bound", "measure", "far"] (defScope s_is_enough) := ⟨rfl, rfl, rfl, by decide +kernel, rfl, by decide +kernel, by decide +kernel⟩

theorem c_is_enough (M : Fx K mg cl T) : Cal P w K mg base 2 "is_enough" (spD (gm K cl T) m_is_enough) := by
  obtain ⟨f, fd, F, hm⟩ := M.f_is_enough
  refine cal4 F hm sc_is_enough rfl (fun _ _ _ _ _ _ us hl => match us, hl with | [_, _, _, _], _ => rfl) fun cdv A outer s H E hr => ⟨_, (pss_one (ps_ret (pe_callB (call_all rfl) (by rfl) M.n_all (by decide +kernel) (pa_cons (pe_lc2 (own := [("line", 4), ("number", 5)]) (vs1 := [5]) rfl sc_is_enough.nd (pi_seq (pv 0)) (blkOk_by (by kernel_rfl)) (by decide) (fun _ _ _ _ _ => (pg_name (i := 4) sc_is_enough.nd rfl (.inl rfl))) (fun _ _ _ _ _ => pts_nil) (fun _ _ _ _ _ => (pi_range2 rfl M.n_range (pa_cons (pv 1) (pa_cons (pv 3) pa_nil)))) (fun _ _ _ _ _ => (pg_name (i := 5) sc_is_enough.nd rfl (.inl rfl))) (fun _ _ _ _ _ => pts_nil) (fun _ _ _ _ _ => (pe_cl (c_goes_evenly M) hr (by decide) rfl (pa_cons (pv 4) (pa_cons (pv 5) (pa_cons (pv 2) pa_nil)))))) pa_nil)))), fun lines202 bound203 measure204 far205 => (atB [some lines202, some bound203, some measure204, some far205, none, none] (rb_ret (ev_cb rc_all (ea_cons (ev_lc2 (it_seq (ev_var rfl)) tg_name (by decide) hvN (it_ar1 fun line206 => (atI [some lines202, some bound203, some measure204, some far205, some line206, none] (it_range2 (ev_var rfl) (ev_var rfl)))) tg_name (by decide) hvN (evF11 fun line206 number207 => (atE [some lines202, some bound203, some measure204, some far205, some line206, some number207] (ev_call (ea_cons (ev_var rfl) (ea_cons (ev_var rfl) (ea_cons (ev_var rfl) ea_nil))))))) ea_nil))))⟩

def b_least_of (table208 k209 : D) : Option D := ob (unO 2 (ob (lCons (o2 dixS (ob (some table208) (dfld 1 ("bounds" : Str))) (some k209)) (lCons (o2 dixS (ob (some table208) (dfld 1 ("measures" : Str))) (some k209)) (some []))) dtupD)) (ar2 fun bound210 measure211 => ob (ob (ob (ob (lCons (some table208) (lCons (some k209) (some []))) m_side_inputs) ditems) (lcO un1 1 (ar1 fun others213 => ob (lCons (some table208) (lCons (some k209) (lCons (some others213) (lCons (o2 dadd (some bound210) (o2 dmul (some (.int 4)) (some measure211))) (some []))))) m_line_of))) fun lines212 => ob (some measure211) fun small214 => ob (ob (ob (some measure211) drangeD) fun ds => forO un1 1 (arr11 fun small215 divisor216 => oif (oif (dtest (o2 deqD (o2 dmod (some measure211) (some divisor216)) (some (.int 0)))) (dtest (ob (lCons (some lines212) (lCons (some bound210) (lCons (some divisor216) (lCons (o2 dadd (some bound210) (o2 dmul (some (.int 2)) (some measure211))) (some []))))) m_is_enough)) (some false)) (ob (some divisor216) fun small217 => some [small217]) (some [small215])) [small214] ds) (ar1 fun small218 => ob (some bound210) fun low219 => ob (whileO (ar1 fun low220 => oif (dtest (o2 dgtD (some low220) (some (.int 0)))) (dtest (ob (lCons (some lines212) (lCons (o2 dsub (some low220) (some (.int 1))) (lCons (some small218) (lCons (some low220) (some []))))) m_is_enough)) (some false)) (ar1 fun low221 => ob (o2 dsub (some low221) (some (.int 1))) fun low222 => some [low222]) 300 [low219]) (ar1 fun low223 => ob (lCons (some low223) (lCons (some small218) (some []))) dtupD)))
def m_least_of : List D → Option D := ar2 b_least_of

abbrev s_least_of : Stmt := topS 61
theorem sc_least_of : FnScope ["table", "k", "lines", "small", "divisor", "low", "bound", "measure", "others"] ["table", "k"] (defScope s_least_of) := ⟨rfl, rfl, rfl, by decide +kernel, rfl, by decide +kernel, by decide +kernel⟩

theorem c_least_of (M : Fx K mg cl T) : Cal P w K mg base 5 "least_of" (spD (gm K cl T) m_least_of) := by
  obtain ⟨f, fd, F, hm⟩ := M.f_least_of
  refine cal2 F hm sc_least_of rfl (fun _ _ _ _ _ _ us hl => match us, hl with | [_, _], _ => rfl) fun cdv A outer s H E hr => ⟨_, (pss_cons (ps_asg (pe_tup (pa_cons (pe_ix ix_seq (pe_fld (pv 0) rfl) (pv 1) (fun _ _ => rfl)) (pa_cons (pe_ix ix_seq (pe_fld (pv 0) rfl) (pv 1) (fun _ _ => rfl)) pa_nil))) (pg_tup rfl (pgs_cons (pg_name (i := 6) sc_least_of.nd rfl (.inr rfl)) (pgs_cons (pg_name (i := 7) sc_least_of.nd rfl (.inr rfl)) pgs_nil)))) (pss_cons (ps_setLc (i := 2) (own := [("others", 8)]) rfl sc_least_of.nd rfl rfl (sw_true rfl rfl rfl (by decide +kernel)) (pi_seq (pe_cl (c_side_inputs M) hr (by decide) rfl (pa_cons (pv 0) (pa_cons (pv 1) pa_nil)))) (blkOk_by (by kernel_rfl)) (fun _ _ _ _ _ => (pg_name (i := 8) sc_least_of.nd rfl (.inl rfl))) (fun _ _ _ _ _ => pts_nil) (fun _ _ _ _ _ => (pe_cl (c_line_of M) hr (by decide) rfl (pa_cons (pv 0) (pa_cons (pv 1) (pa_cons (pv 8) (pa_cons (pe_op op_addD (pv 6) (pe_op op_mulD pe_int (pv 7))) pa_nil))))))) (pss_cons (ps_set (i := 3) sc_least_of.nd rfl (.inl rfl) (pv 7)) (pss_cons (ps_for PassesOwn.never rfl (pi_range3 rfl M.n_range (pa_cons (pv 7) (pa_cons pe_int (pa_cons (pe_un un_neg pe_int) pa_nil)))) (pg_name (i := 4) sc_least_of.nd rfl (.inl rfl)) (pss_one (ps_if (PW.pt (pw_and (pt_cmpR (op_eqA hr.units) (pe_op op_modN (pv 7) (pv 4)) pe_int (nomark _)) (pw_and1 (pt_val (pe_cl (c_is_enough M) hr (by decide) rfl (pa_cons (pv 2) (pa_cons (pv 6) (pa_cons (pv 4) (pa_cons (pe_op op_addD (pv 6) (pe_op op_mulD pe_int (pv 7))) pa_nil))))))))) (pss_one (ps_set (i := 3) sc_least_of.nd rfl (.inl rfl) (pv 4))) pss_nil))) (pss_cons (ps_set (i := 5) sc_least_of.nd rfl (.inl rfl) (pv 6)) (pss_cons (ps_while PassesOwn.never (PW.pt (pw_and (pt_cmpR op_gt (pv 5) pe_int (nomark _)) (pw_and1 (pt_val (pe_cl (c_is_enough M) hr (by decide) rfl (pa_cons (pv 2) (pa_cons (pe_op op_sub (pv 5) pe_int) (pa_cons (pv 3) (pa_cons (pv 5) pa_nil))))))))) (pss_one (ps_set (i := 5) sc_least_of.nd rfl (.inl rfl) (pe_op op_sub (pv 5) pe_int)))) (pss_one (ps_ret (pe_tup (pa_cons (pv 5) (pa_cons (pv 3) pa_nil))))))))))), fun table208 k209 => (atB [some table208, some k209, none, none, none, none, none, none, none] (rb_seq (rn_un (ev_tup (ea_cons (ev_ix (ev_fld M.k_bounds (ev_var rfl)) (ev_var rfl)) (ea_cons (ev_ix (ev_fld M.k_measures (ev_var rfl)) (ev_var rfl)) ea_nil))) tg_2 hvN) (rb_ar2 fun bound210 measure211 => (atB [some table208, some k209, none, none, none, none, some bound210, some measure211, none] (rb_seq (rn_set (ev_lc (it_seq (ev_call (ea_cons (ev_var rfl) (ea_cons (ev_var rfl) ea_nil)))) tg_name (by decide) hvN (ev_ar1 fun others213 => (atE [some table208, some k209, none, none, none, none, some bound210, some measure211, some others213] (ev_call (ea_cons (ev_var rfl) (ea_cons (ev_var rfl) (ea_cons (ev_var rfl) (ea_cons (ev_op rv_add (ev_var rfl) (ev_op rv_mul ev_int (ev_var rfl))) ea_nil)))))))) h1N) fun lines212 => (atB [some table208, some k209, some lines212, none, none, none, some bound210, some measure211, none] (rb_seq (rn_set (ev_var rfl) h1N) fun small214 => (atB [some table208, some k209, some lines212, some small214, none, none, some bound210, some measure211, none] (rb_seq (rn_forS (js' := [3]) (it_range3 (ev_var rfl) (ev_neg ev_int)) tg_name (by exact ⟨rfl, True.intro⟩) (rnF11 fun small215 divisor216 => (atN [some table208, some k209, some lines212, some small215, some divisor216, none, some bound210, some measure211, none] (rn_if (et_and (et_T (ev_op rv_eq (ev_op rv_mod (ev_var rfl) (ev_var rfl)) ev_int)) (et_B (ev_call (ea_cons (ev_var rfl) (ea_cons (ev_var rfl) (ea_cons (ev_var rfl) (ea_cons (ev_op rv_add (ev_var rfl) (ev_op rv_mul ev_int (ev_var rfl))) ea_nil))))))) (atN [some table208, some k209, some lines212, some small215, some divisor216, none, some bound210, some measure211, none] (rn_last (rn_set (ev_var rfl) h1N) fun small217 => (atN [some table208, some k209, some lines212, some small217, some divisor216, none, some bound210, some measure211, none] (rn_end (by exact ⟨rfl, ⟨rfl, ⟨rfl, ⟨rfl, ⟨rfl, ⟨rfl, True.intro⟩⟩⟩⟩⟩⟩) rfl)))) (atN [some table208, some k209, some lines212, some small215, some divisor216, none, some bound210, some measure211, none] (rn_end (by exact ⟨rfl, ⟨rfl, ⟨rfl, ⟨rfl, ⟨rfl, ⟨rfl, True.intro⟩⟩⟩⟩⟩⟩) rfl)))))) (rb_ar1 fun small218 => (atB [some table208, some k209, some lines212, some small218, none, none, some bound210, some measure211, none] (rb_seq (rn_set (ev_var rfl) h1N) fun low219 => (atB [some table208, some k209, some lines212, some small218, none, some low219, some bound210, some measure211, none] (rb_seq (rn_whileS (js' := [5]) (by exact ⟨rfl, True.intro⟩) (et_ar1 fun low220 => (atT [some table208, some k209, some lines212, some small218, none, some low220, some bound210, some measure211, none] (et_and (et_T (ev_op rv_gt (ev_var rfl) ev_int)) (et_B (ev_call (ea_cons (ev_var rfl) (ea_cons (ev_op rv_sub (ev_var rfl) ev_int) (ea_cons (ev_var rfl) (ea_cons (ev_var rfl) ea_nil))))))))) (rn_ar1 fun low221 => (atN [some table208, some k209, some lines212, some small218, none, some low221, some bound210, some measure211, none] (rn_last (rn_set (ev_op rv_sub (ev_var rfl) ev_int) h1N) fun low222 => (atN [some table208, some k209, some lines212, some small218, none, some low222, some bound210, some measure211, none] (rn_end (by exact ⟨rfl, ⟨rfl, ⟨rfl, ⟨rfl, ⟨rfl, ⟨rfl, ⟨rfl, True.intro⟩⟩⟩⟩⟩⟩⟩) rfl)))))) (rb_ar1 fun low223 => (atB [some table208, some k209, some lines212, some small218, none, some low223, some bound210, some measure211, none] (rb_ret (ev_tup (ea_cons (ev_var rfl) (ea_cons (ev_var rfl) ea_nil))))))))))))))))))))⟩

def b_checked (table224 : D) : Option D := oif (dtest (o2 dgtD (ob (lCons (ob (some table224) (dfld 1 ("bounds" : Str))) (lCons (ob (some table224) (dfld 1 ("measures" : Str))) (some []))) m_many_cells) (some (.int 1000)))) (none) (some table224)
def m_checked : List D → Option D := ar1 b_checked

abbrev s_checked : Stmt := topS 55
theorem sc_checked : FnScope ["table"] ["table"] (defScope s_checked) := ⟨rfl, rfl, rfl, by decide +kernel, rfl, by decide +kernel, by decide +kernel⟩

theorem c_checked (M : Fx K mg cl T) : Cal P w K mg base 2 "checked" (spD (gm K cl T) m_checked) := by
  obtain ⟨f, fd, F, hm⟩ := M.f_checked
  refine cal1 F hm sc_checked rfl (fun _ _ _ _ _ _ us hl => match us, hl with | [_], _ => rfl) fun cdv A outer s H E hr => ⟨_, (pss_cons (ps_if (pt_cmpR op_gt (pe_cl (c_many_cells M) hr (by decide) rfl (pa_cons (pe_fld (pv 0) rfl) (pa_cons (pe_fld (pv 0) rfl) pa_nil))) (pe_gint rfl M.g_MOST_CELLS) (nomark _)) (pss_one ps_never) pss_nil) (pss_one (ps_ret (pv 0)))), fun table224 => (atB [some table224] (rb_ifseq (et_T (ev_op rv_gt (ev_call (ea_cons (ev_fld M.k_bounds (ev_var rfl)) (ea_cons (ev_fld M.k_measures (ev_var rfl)) ea_nil))) ev_int)) rb_none (atB [some table224] (rb_ret (ev_var rfl)))))⟩

def b_first_table (own225 given226 : D) : Option D := ob (ob (lCons (some given226) (some [])) (d1 dlen)) fun many227 => ob (ob (some []) dlstD) fun row228 => ob (ob (ob (some own225) ditems) fun ds => forO un1 1 (arr11 fun row229 name230 => ob (ob (ob (lCons (some (.int 0)) (lCons (ob (lCons (ob (ob (some many227) drange1) (lcO un1 1 (ar1 fun k232 => ob (lCons (o2 deqD (o2 dixS (some given226) (some k232)) (some name230)) (some [])) (d1 dint)))) (some [])) (d1 dtupS)) (some []))) dtupD) (dapp row229)) fun row231 => some [row231]) [row228] ds) (ar1 fun row233 => ob (lCons (o2 dmul (ob (lCons (some (.int 0)) (some [])) dtupD) (some many227)) (lCons (o2 dmul (ob (lCons (some (.int 1)) (some [])) dtupD) (some many227)) (lCons (ob (lCons (ob (lCons (some row233) (some [])) (d1 dtupS)) (some [])) dtupD) (some [])))) mkRawTable)
def m_first_table : List D → Option D := ar2 b_first_table

abbrev s_first_table : Stmt := topS 64
theorem sc_first_table : FnScope ["own", "given", "many", "row", "name", "k"] ["own", "given"] (defScope s_first_table) := ⟨rfl, rfl, rfl, by decide +kernel, rfl, by decide +kernel, by decide +kernel⟩

theorem c_first_table (M : Fx K mg cl T) : Cal P w K mg base 4 "first_table" (spD (gm K cl T) m_first_table) := by
  obtain ⟨f, fd, F, hm⟩ := M.f_first_table
  refine cal2 F hm sc_first_table rfl (fun _ _ _ _ _ _ us hl => match us, hl with | [_, _], _ => rfl) fun cdv A outer s H E hr => ⟨_, (pss_cons (ps_set (i := 2) sc_first_table.nd rfl (.inl rfl) (pe_callB call_lenS (by rfl) M.n_len (by decide +kernel) (pa_cons (pv 1) pa_nil))) (pss_cons (ps_set (i := 3) sc_first_table.nd rfl (.inl rfl) (pe_lst pa_nil)) (pss_cons (ps_for PassesOwn.never rfl (pi_seq (pv 0)) (pg_name (i := 4) sc_first_table.nd rfl (.inr rfl)) (pss_one (ps_expr (pe_bm PySem.F.plainAttrs_list PySem.F.slot_list_append PySem.F.type_list_append mt_append (pv 3) (pa_cons (pe_tup (pa_cons pe_int (pa_cons (pe_callTy call_tuple' (by rfl) M.n_tuple (by decide +kernel) (pa_cons (pe_lc (own := [("k", 5)]) rfl sc_first_table.nd (pi_range1 rfl M.n_range (pa_cons (pv 2) pa_nil)) (blkOk_by (by kernel_rfl)) (fun _ _ _ _ _ => (pg_name (i := 5) sc_first_table.nd rfl (.inl rfl))) (fun _ _ _ _ _ => pts_nil) (fun _ _ _ _ _ => (pe_callTy call_int' (by rfl) M.n_int (by decide +kernel) (pa_cons (pe_cmpR (op_eqA hr.units) (pe_ix ix_seq (pv 1) (pv 5) (fun _ _ => rfl)) (pv 4) (nomark _)) pa_nil)))) pa_nil)) pa_nil))) pa_nil))))) (pss_one (ps_ret (pe_mkRawTable rfl rfl M hr (by decide) rfl (pa_cons (pe_op op_mulD (pe_tup (pa_cons pe_int pa_nil)) (pv 2)) (pa_cons (pe_op op_mulD (pe_tup (pa_cons pe_int pa_nil)) (pv 2)) (pa_cons (pe_tup (pa_cons (pe_callTy call_tuple' (by rfl) M.n_tuple (by decide +kernel) (pa_cons (pv 3) pa_nil)) pa_nil)) pa_nil))))))))), fun own225 given226 => (atB [some own225, some given226, none, none, none, none] (rb_seq (rn_set (ev_cb rc_len (ea_cons (ev_var rfl) ea_nil)) h1N) fun many227 => (atB [some own225, some given226, some many227, none, none, none] (rb_own (en_lst ea_nil) rfl fun row228 => (atB [some own225, some given226, some many227, none, none, none] (rb_seq (rn_forO (js' := []) (it_seq (ev_var rfl)) tg_name (by exact True.intro) (by decide) (rnF11 fun row229 name230 => (atN [some own225, some given226, some many227, none, some name230, none] (rn_last (rn_app (ev_tup (ea_cons ev_int (ea_cons (ev_cb rc_tuple (ea_cons (ev_lc (it_range1 (ev_var rfl)) tg_name (by decide) (hvO (by decide)) (ev_ar1 fun k232 => (atE [some own225, some given226, some many227, none, some name230, some k232] (ev_cb rc_int (ea_cons (ev_op rv_eq (ev_ix (ev_var rfl) (ev_var rfl)) (ev_var rfl)) ea_nil))))) ea_nil)) ea_nil)))) fun row231 => (atN [some own225, some given226, some many227, none, some name230, none] (rn_end (by exact ⟨rfl, ⟨rfl, ⟨rfl, True.intro⟩⟩⟩) rfl)))))) (rb_ar1 fun row233 => (atB [some own225, some given226, some many227, none, none, none] (rb_freeze rfl (atB [some own225, some given226, some many227, some row233, none, none] (rb_ret (ev_mkRawTable (ea_cons (ev_op rv_mul (ev_tup (ea_cons ev_int ea_nil)) (ev_var rfl)) (ea_cons (ev_op rv_mul (ev_tup (ea_cons ev_int ea_nil)) (ev_var rfl)) (ea_cons (ev_tup (ea_cons (ev_cb rc_tuple (ea_cons (ev_var rfl) ea_nil)) ea_nil)) ea_nil)))))))))))))))⟩

end
end Z

namespace Z
open PySem PySem.Spec PyProof.Rows L2 NdefX LamX
/-- what data stand on -/
def Sol : HO → Prop
  | .ext _ => False
  | .frz _ (.ext _) => False
  | .tbl _ => False
  | _ => True
section
variable {g : Gm} {O O' : Addr → Prop} {H H' : Hp}
mutual
theorem Is.kpS (k : ∀ b o, H b = some o → Sol o → (¬ O b ∨ Rob o) → H' b = some o) : ∀ (d : D) (v : V), Is g O H d v → Is g O H' d v
  | .non, v, h => h
  | .bl b, v, h => h
  | .int i, v, h => h
  | .str s, v, h => h
  | .ref a, v, h => h
  | .tup ds, v, h => by
    obtain ⟨a, vs, e, q, z, r⟩ := h
    exact ⟨a, vs, e, k a _ q True.intro (.inr (.inl ⟨_, rfl⟩)), z, IsL.kpS k ds vs r⟩
  | .ptup ds, v, h => by
    obtain ⟨a, o, vs, e, q, n, z, r⟩ := h
    exact ⟨a, o, vs, e, k a _ q True.intro (.inr (.inr ⟨_, _, rfl⟩)), n, z, IsL.kpS k ds vs r⟩
  | .lst ds, v, h => by
    obtain ⟨a, vs, e, n, q, z, r⟩ := h
    exact ⟨a, vs, e, n, k a _ q True.intro (.inl n), z, IsL.kpS k ds vs r⟩
  | .dct ks ds, v, h => by
    obtain ⟨a, vs, e, n, q, l, z, r⟩ := h
    refine ⟨a, vs, e, n, ?_, l, z, IsL.kpS k ds vs r⟩
    rcases q with q | ⟨ob, q⟩
    · exact .inl (k a _ q True.intro (.inl n))
    · exact .inr ⟨ob, k a _ q True.intro (.inl n)⟩
  | .ins c fn ds, v, h => by
    obtain ⟨a, dx, fs, vs, e, n, q, r, l, f⟩ := h
    exact ⟨a, dx, fs, vs, e, n, k a _ q True.intro (.inl n), IsL.kpS k ds vs r, l, f⟩
theorem IsL.kpS (k : ∀ b o, H b = some o → Sol o → (¬ O b ∨ Rob o) → H' b = some o) : ∀ (ds : List D) (vs : List V), IsL g O H ds vs → IsL g O H' ds vs
  | [], vs, h => h
  | d :: ds, vs, h => by
    obtain ⟨v, r, e, a, b⟩ := h
    exact ⟨v, r, e, Is.kpS k d v a, IsL.kpS k ds r b⟩
end
mutual
/-- no list within -/
def noL : D → Bool
  | .tup ds => noLs ds
  | .ptup ds => noLs ds
  | .lst _ => false
  | .dct _ ds => noLs ds
  | .ins _ _ ds => noLs ds
  | _ => true
def noLs : List D → Bool
  | [] => true
  | d :: ds => noL d && noLs ds
end
/-- what O leaves: solid, no list -/
def Left (O : Addr → Prop) (H : Hp) (b : Addr) : Prop := ¬ O b ∧ ∃ o, H b = some o ∧ Sol o ∧ ∀ xs, o ≠ .lst xs
mutual
theorem Is.left : ∀ (d : D) (v : V), noL d = true → Is g O H d v → Is g (fun b => ¬ Left O H b) H d v
  | .non, v, _, h => h
  | .bl b, v, _, h => h
  | .int i, v, _, h => h
  | .str s, v, _, h => h
  | .ref a, v, _, h => h
  | .tup ds, v, n, h => by
    obtain ⟨a, vs, e, q, z, r⟩ := h
    exact ⟨a, vs, e, q, z, IsL.left ds vs n r⟩
  | .ptup ds, v, n, h => by
    obtain ⟨a, o, vs, e, q, m, z, r⟩ := h
    exact ⟨a, o, vs, e, q, m, z, IsL.left ds vs n r⟩
  | .lst ds, v, n, h => by cases n
  | .dct ks ds, v, n, h => by
    obtain ⟨a, vs, e, m, q, l, z, r⟩ := h
    refine ⟨a, vs, e, fun y => y ⟨m, ?_⟩, q, l, z, IsL.left ds vs n r⟩
    rcases q with q | ⟨ob, q⟩
    · exact ⟨_, q, True.intro, fun _ z => by cases z⟩
    · exact ⟨_, q, True.intro, fun _ z => by cases z⟩
  | .ins c fn ds, v, n, h => by
    obtain ⟨a, dx, fs, vs, e, m, q, r, l, f⟩ := h
    exact ⟨a, dx, fs, vs, e, fun y => y ⟨m, _, q, True.intro, fun _ z => by cases z⟩, q, IsL.left ds vs n r, l, f⟩
theorem IsL.left : ∀ (ds : List D) (vs : List V), noLs ds = true → IsL g O H ds vs → IsL g (fun b => ¬ Left O H b) H ds vs
  | [], vs, _, h => h
  | d :: ds, vs, n, h => by
    obtain ⟨v, r, e, a, b⟩ := h
    have n : (noL d && noLs ds) = true := n
    rw [Bool.and_eq_true] at n
    exact ⟨v, r, e, Is.left d v n.1 a, IsL.left ds r n.2 b⟩
end
end

structure Ent (g : Gm) (r : Rl g) (O : Addr → Prop) (H : Hp) : Prop where
  sub : ∀ b, r.L b → O b
  hid : ∀ b, O b → H b ≠ none
  out : ∀ b, r.A H b → ¬ O b
  tabs : TabsN g.T H
  J : r.J H
theorem Env.ent {g : Gm} {r : Rl g} {O : Addr → Prop} {σ : L2.St} {H : Hp} {ρ : Rho} {ω : Om} (E : Env g r O σ H ρ ω) : Ent g r O H := ⟨E.sub, E.hid, E.out, E.tabs, E.J⟩
theorem entryR {g : Gm} {r : Rl g} {O : Addr → Prop} {H : Hp} {N : List Str} {ds : List D} {vs : List V} (e : Ent g r O H) (h : IsL g O H ds vs) : Env g r O (L2.start N vs) H (rho0 N ds) none := by
  have q : Env g (r0 g) O (L2.start N vs) H (rho0 N ds) none := entryE e.hid e.tabs h
  exact ⟨q.len, q.at_, e.sub, e.hid, e.out, e.tabs, e.J, fun i c z => by cases z⟩

section
variable (P : Program) (w : World) (K : PySem.W.Frag) (mg : Str → Option Value) (base : Heap) (k : Nat)
structure Clb (g : Gm) (r : Rl g) (f : Addr) (fn : List D → Option D) : Prop where
  fnat : ∀ H h, HOk P w H h → r.J H → PySem.W.FnAt f h
  run : ∀ (A : Around) (outer : List PySem.Env) (s : Shared) (H : Hp) (us : List Value) (vs : List V) (Q : VK) (O : Addr → Prop) (ds : List D) (d : D), Room k A → Env0 P w K mg base A outer s H → Ent g r O H → Vals vs us → IsL g O H ds vs → fn ds = some d →
    (∀ v H', R g r H H' → Is g O H' d v → Q v H') → codeAny (model P w) A (.call (.ref f) ⟨us, []⟩) (CR L2.CX0 outer P w H s Q L2.E0) s
/-- function(e, ..), function the name at the slot i -/
def tCallF (g : Gm) (i : Nat) (t : TA) : TE := fun σ H Q => ∃ (r : Rl g) (f : Addr) (fn : List D → Option D), Clb P w K mg base k g r f fn ∧ σ[i]? = some (some (.ref f)) ∧ r.J H ∧
  t σ H fun vs H1 => ∃ O ds d, Ent g r O H1 ∧ IsL g O H1 ds vs ∧ fn ds = some d ∧ ∀ v H', R g r H1 H' → Is g O H' d v → Q v H'
/-- what a def promises whose first argument is a function -/
def spC (g : Gm) (m : (List D → Option D) → List D → Option D) : Sp := fun vs H Q _ => ∃ (r : Rl g) (f : Addr) (fn : List D → Option D) (ds : List D) (d : D) (O : Addr → Prop), Clb P w K mg base k g r f fn ∧ Ent g r O H ∧ IsL g O H (.ref f :: ds) vs ∧ m fn ds = some d ∧
  ∀ v H', R g r H H' → Is g O H' d v → Q v H'
end
section
variable {X : Cx} {g : Gm} {k j i : Nat} {x : Str} {e : Expr} {es : List Expr} {t : TA} {p pos : Pos}
theorem pe_callF (hr : Room j X.A) (hk : k ≤ j) (hN : X.N[i]? = some x) (hv : Vis X.env.scope x) (ha : PA X (e :: es) t)
    (hd : (x == ("__debug__" : Str)) = false := by decide) (hcd : (x == ("__classdict__" : Str)) = false := by decide)
    (he : starEach (e :: es) X.env = (false, eval e X.env) :: starEach es X.env := by rfl) (hpl : (backTo pos (starEach es X.env)).any (·.1) = false := by rfl) :
    PE X (.Call (.Name x p) (e :: es) [] pos) (tCallF X.prog X.w X.K X.mg X.base k g i t) := by
  refine ⟨fun pins s σ H Q I h => ?_⟩
  obtain ⟨r, f, fn, C, hs, hJ, ht⟩ := h
  refine wpAny_Call_Name_kw (thn ((pe_var (pos := p) (i := i) hN hv hd hcd).run pins s σ H (fun v H1 => v = .ref f ∧ H1 = H) I ⟨.ref f, hs, rfl, rfl⟩) fun u s1 ⟨v, H1, I1, r1, q1⟩ => ?_)
  obtain ⟨ev, eH⟩ := q1
  subst ev
  rw [eH] at I1
  obtain rfl : u = Value.ref f := r1
  refine PySem.W.callWith_F (first := []) (C.fnat _ _ I1.hok hJ) (thn (ha.run pos pins s1 σ H _ I1 ht) fun us s2 ⟨vs, H2, I2, r2, O, ds, d, en, iv, ef, q⟩ => ⟨C.fnat _ _ I2.hok en.J, ?_⟩) he hpl
  show wpAny _ _ (call (.ref f) us) _ _ _
  refine wpAny_call (codeAny_mono (C.run X.A X.stack s2 H2 us vs Q O ds d (hr.mono hk) I2.env0 en r2 iv ef q) fun rr s' hq => ?_)
  cases rr with
  | error e => exact False.elim hq
  | ok fl =>
    cases fl with
    | ret u => exact I2.after hq
    | next => exact False.elim hq
    | brk => exact False.elim hq
    | cont => exact False.elim hq
end
section
variable {P : Program} {w : World} {K : PySem.W.Frag} {mg : Str → Option Value} {base : Heap} {k : Nat} {g : Gm} {r : Rl g} {ρ : Rho} {ω : Om} {f : Addr} {fn : List D → Option D} {i : Nat} {t : TA} {ms : Option (List D)}
theorem ev_callF (C : Clb P w K mg base k g r f fn) (hi : ρ[i]? = some (some (.ref f))) (h : EvA g r t ρ ω ms) : EvO g r (tCallF P w K mg base k g i t) ρ ω (ob ms fn) := fun d e O σ H E Q q => by
  obtain ⟨ds, e1, e⟩ := ob_some e
  obtain ⟨v, hs, iv⟩ := E.at_ i _ hi
  obtain rfl : v = V.ref f := iv
  refine ⟨r, f, fn, C, hs, E.J, h ds e1 O σ H E _ fun vs H1 k1 i1 => ?_⟩
  exact ⟨O, ds, d, (E.go k1).ent, i1, e, fun v H2 k2 i2 => q v H2 (k1.trans k2) i2⟩
theorem ev_callC {m : (List D → Option D) → List D → Option D} {tr : TA} {E0 : XK} (C : Clb P w K mg base k g r f fn) (h : EvA g r tr ρ ω (ob ms fun ds => some (.ref f :: ds))) : EvO g r (tCall (spC P w K mg base k g m) [] E0 tr) ρ ω (ob ms (m fn)) := fun d e O σ H E Q q => by
  obtain ⟨ds, e1, e⟩ := ob_some e
  refine h (.ref f :: ds) (by rw [e1]; rfl) O σ H E _ fun vs H1 k1 i1 => ?_
  show spC P w K mg base k g m (vs ++ []) H1 Q E0
  rw [List.append_nil]
  exact ⟨r, f, fn, ds, d, O, C, (E.go k1).ent, i1, e, fun v H2 k2 i2 => q v H2 (k1.trans k2) i2⟩
theorem ea_fst {t : TA} (hi : ρ[i]? = some (some (.ref f))) (h : EvA g r t ρ ω ms) : EvA g r (tCons (tVar i) t) ρ ω (ob ms fun ds => some (.ref f :: ds)) := fun ds e O σ H E Q q => by
  obtain ⟨es, e1, e⟩ := ob_some e
  cases e
  obtain ⟨v, hs, iv⟩ := E.at_ i _ hi
  obtain rfl : v = V.ref f := iv
  exact ⟨_, hs, h es e1 O σ H E _ fun vs H1 k1 i1 => q _ _ k1 ⟨_, _, rfl, rfl, i1⟩⟩
theorem Clb.mono {j : Nat} (C : Clb P w K mg base j g r f fn) (h : j ≤ k) : Clb P w K mg base k g r f fn := ⟨C.fnat, fun A outer s H us vs Q O ds d hr => C.run A outer s H us vs Q O ds d (hr.mono h)⟩
/-- a def whose first argument is a function -/
theorem calC {cl : Nat → Addr} {T : List NTab} {x : Str} {st : Stmt} {f : Addr} {fd : FuncData} {N ps : List Str} {kk : Nat} {m : (List D → Option D) → List D → Option D} (F : FunD K x x (defArgs st) (defBody st) (defScope st) [] [] f fd) (hm : mg x = some (.ref f)) (S : FnScope N ps (defScope st))
    (hb : ∀ (kV doc pm : Value) (an : Option Addr) (cdv ct : Value) (us : List Value), us.length = ps.length → bindArgs (PySem.W.fnOf x x (defArgs st) (defBody st) (defScope st) .none kV doc pm an cdv ct) ⟨us, []⟩ = pure (ps.zip us)) (len : ∀ fn ds d, m fn ds = some d → ds.length + 1 = ps.length)
    (h : ∀ (cdv : Value) (A : Around) (outer : List PySem.Env) (s : Shared) (H : Hp) (E : XK), Room kk (A.deeper (envOfC x (defScope st) s.heap.objs.size f cdv)) → ∃ t, PSs (cxOf L2.CX0 P w K mg base N x (defScope st) f cdv A outer s H E).nox (defBody st) t ∧
      ∀ (r : Rl (gm K cl T)) (fa : Addr) (fn : List D → Option D), Clb P w K mg base k (gm K cl T) r fa fn → ∀ ds, RdB (gm K cl T) r t (rho0 N (.ref fa :: ds)) none (m fn ds)) :
    Cal P w K mg base (kk + 1) x (spC P w K mg base k (gm K cl T) m) := by
  refine ⟨f, fd, ps, ?_, hm, F.kp, F.bindsN hb⟩
  refine F.ok S (fun vs H Q E hs => ?_) fun cdv A outer s H vs Q E hr hs => ?_
  · obtain ⟨r, fa, fn, ds, d, O, C, en, i, e, q⟩ := hs
    rw [← i.length]
    exact len fn ds d e
  · obtain ⟨t, ht, hR⟩ := h cdv A outer s H E hr
    obtain ⟨r, fa, fn, ds, d, O, C, en, i, e, q⟩ := hs
    refine ⟨t, PSs.nox ht, ?_⟩
    refine hR r fa fn C ds d e H O O _ H _ ⟨entryR en i, R.refl, fun _ h => h, fun i c b z => by cases z⟩ fun v H' k i => q v H' k i
end
end Z

namespace Z
open PySem PySem.Spec PyProof.Rows L2 NdefX LamX
section
variable {P : Program} {w : World} {K : PySem.W.Frag} {mg : Str → Option Value} {base : Heap} {cl : Nat → Addr} {T : List NTab}
def b_row_by (fn : List D → Option D) (bounds239 measures240 cell241 : D) : Option D := ob (ob (lCons (some cell241) (some [])) fn) fun begin242 => ob (ob (some []) dlstD) fun ends243 => ob (ob (ob (ob (lCons (some cell241) (some [])) (d1 dlen)) drange1) fun ds => forO un1 1 (arr11 fun ends244 k245 => ob (ob (oif (dtest (ob (lCons (some bounds239) (lCons (some cell241) (lCons (some k245) (some [])))) m_is_great)) (ob (lCons (ob (lCons (some cell241) (lCons (some k245) (lCons (o2 dixS (some measures240) (some k245)) (some [])))) m_raised) (some [])) fn) (some begin242)) (dapp ends244)) fun ends246 => some [ends246]) [ends243] ds) (ar1 fun ends247 => ob (ob (some []) dlstD) fun found248 => ob (ob (ob (ob (lCons (some begin242) (some [])) (d1 dlen)) drange1) fun ds => forO un1 1 (arr11 fun found249 at250 => ob (ob (ob (lCons (o2 dixS (some begin242) (some at250)) (lCons (ob (lCons (ob (ob (some ends247) ditems) (lcO un1 1 (ar1 fun end252 => o2 dsub (o2 dixS (some end252) (some at250)) (o2 dixS (some begin242) (some at250))))) (some [])) (d1 dtupS)) (some []))) dtupD) (dapp found249)) fun found251 => some [found251]) [found248] ds) (ar1 fun found253 => ob (lCons (some found253) (some [])) (d1 dtupS)))
def m_row_by (fn : List D → Option D) : List D → Option D := ar3 (b_row_by fn)

abbrev s_row_by : Stmt := topS 53
theorem sc_row_by : FnScope ["function", "bounds", "measures", "cell", "begin", "ends", "k", "found", "at", "end"] ["function", "bounds", "measures", "cell"] (defScope s_row_by) := ⟨rfl, rfl, rfl, by decide +kernel, rfl, by decide +kernel, by decide +kernel⟩

theorem c_row_by (M : Fx K mg cl T) : Cal P w K mg base 13 "row_by" (spC P w K mg base 12 (gm K cl T) m_row_by) := by
  obtain ⟨f, fd, F, hm⟩ := M.f_row_by
  refine calC F hm sc_row_by (fun _ _ _ _ _ _ us hl => match us, hl with | [_, _, _, _], _ => rfl) (fun fn ds d e => match ds, e with | [_, _, _], _ => rfl) fun cdv A outer s H E hr => ⟨_, (pss_cons (ps_set (i := 4) sc_row_by.nd rfl (.inr rfl) (pe_callF (i := 0) (k := 12) (g := gm K cl T) hr (by decide) rfl (.inl rfl) (pa_cons (pv 3) pa_nil))) (pss_cons (ps_set (i := 5) sc_row_by.nd rfl (.inl rfl) (pe_lst pa_nil)) (pss_cons (ps_for PassesOwn.never rfl (pi_range1 rfl M.n_range (pa_cons (pe_callB call_lenS (by rfl) M.n_len (by decide +kernel) (pa_cons (pv 3) pa_nil)) pa_nil)) (pg_name (i := 6) sc_row_by.nd rfl (.inl rfl)) (pss_one (ps_expr (pe_bm PySem.F.plainAttrs_list PySem.F.slot_list_append PySem.F.type_list_append mt_append (pv 5) (pa_cons (pe_ifExp (pt_val (pe_cl (c_is_great M) hr (by decide) rfl (pa_cons (pv 1) (pa_cons (pv 3) (pa_cons (pv 6) pa_nil))))) (pe_callF (i := 0) (k := 12) (g := gm K cl T) hr (by decide) rfl (.inl rfl) (pa_cons (pe_cl (c_raised M) hr (by decide) rfl (pa_cons (pv 3) (pa_cons (pv 6) (pa_cons (pe_ix ix_seq (pv 2) (pv 6) (fun _ _ => rfl)) pa_nil)))) pa_nil)) (pv 4)) pa_nil))))) (pss_cons (ps_set (i := 7) sc_row_by.nd rfl (.inl rfl) (pe_lst pa_nil)) (pss_cons (ps_for PassesOwn.never rfl (pi_range1 rfl M.n_range (pa_cons (pe_callB call_lenS (by rfl) M.n_len (by decide +kernel) (pa_cons (pv 4) pa_nil)) pa_nil)) (pg_name (i := 8) sc_row_by.nd rfl (.inr rfl)) (pss_one (ps_expr (pe_bm PySem.F.plainAttrs_list PySem.F.slot_list_append PySem.F.type_list_append mt_append (pv 7) (pa_cons (pe_tup (pa_cons (pe_ix ix_seq (pv 4) (pv 8) (fun _ _ => rfl)) (pa_cons (pe_callTy call_tuple' (by rfl) M.n_tuple (by decide +kernel) (pa_cons (pe_lc (own := [("end", 9)]) rfl sc_row_by.nd (pi_seq (pv 5)) (blkOk_by (by kernel_rfl)) (fun _ _ _ _ _ => (pg_name (i := 9) sc_row_by.nd rfl (.inl rfl))) (fun _ _ _ _ _ => pts_nil) (fun _ _ _ _ _ => (pe_op op_sub (pe_ix ix_seq (pv 9) (pv 8) (fun _ _ => rfl)) (pe_ix ix_seq (pv 4) (pv 8) (fun _ _ => rfl))))) pa_nil)) pa_nil))) pa_nil))))) (pss_one (ps_ret (pe_callTy call_tuple' (by rfl) M.n_tuple (by decide +kernel) (pa_cons (pv 7) pa_nil))))))))), fun r fa fn C => rb_ar3 (A := fun st => rho0 ["function", "bounds", "measures", "cell", "begin", "ends", "k", "found", "at", "end"] (.ref fa :: st)) (B := fun _ => none) fun bounds239 measures240 cell241 => (atB [some (.ref fa), some bounds239, some measures240, some cell241, none, none, none, none, none, none] (rb_seq (rn_set (ev_callF C rfl (ea_cons (ev_var rfl) ea_nil)) h1N) fun begin242 => (atB [some (.ref fa), some bounds239, some measures240, some cell241, some begin242, none, none, none, none, none] (rb_own (en_lst ea_nil) rfl fun ends243 => (atB [some (.ref fa), some bounds239, some measures240, some cell241, some begin242, none, none, none, none, none] (rb_seq (rn_forO (js' := []) (it_range1 (ev_cb rc_len (ea_cons (ev_var rfl) ea_nil))) tg_name (by exact True.intro) (by decide) (rnF11 fun ends244 k245 => (atN [some (.ref fa), some bounds239, some measures240, some cell241, some begin242, none, some k245, none, none, none] (rn_last (rn_app (ev_if (et_B (ev_call (ea_cons (ev_var rfl) (ea_cons (ev_var rfl) (ea_cons (ev_var rfl) ea_nil))))) (ev_callF C rfl (ea_cons (ev_call (ea_cons (ev_var rfl) (ea_cons (ev_var rfl) (ea_cons (ev_ix (ev_var rfl) (ev_var rfl)) ea_nil)))) ea_nil)) (ev_var rfl))) fun ends246 => (atN [some (.ref fa), some bounds239, some measures240, some cell241, some begin242, none, some k245, none, none, none] (rn_end (by exact ⟨rfl, ⟨rfl, ⟨rfl, ⟨rfl, ⟨rfl, True.intro⟩⟩⟩⟩⟩) rfl)))))) (rb_ar1 fun ends247 => (atB [some (.ref fa), some bounds239, some measures240, some cell241, some begin242, none, none, none, none, none] (rb_freeze rfl (atB [some (.ref fa), some bounds239, some measures240, some cell241, some begin242, some ends247, none, none, none, none] (rb_own (en_lst ea_nil) rfl fun found248 => (atB [some (.ref fa), some bounds239, some measures240, some cell241, some begin242, some ends247, none, none, none, none] (rb_seq (rn_forO (js' := []) (it_range1 (ev_cb rc_len (ea_cons (ev_var rfl) ea_nil))) tg_name (by exact True.intro) (by decide) (rnF11 fun found249 at250 => (atN [some (.ref fa), some bounds239, some measures240, some cell241, some begin242, some ends247, none, none, some at250, none] (rn_last (rn_app (ev_tup (ea_cons (ev_ix (ev_var rfl) (ev_var rfl)) (ea_cons (ev_cb rc_tuple (ea_cons (ev_lc (it_seq (ev_var rfl)) tg_name (by decide) (hvO (by decide)) (ev_ar1 fun end252 => (atE [some (.ref fa), some bounds239, some measures240, some cell241, some begin242, some ends247, none, none, some at250, some end252] (ev_op rv_sub (ev_ix (ev_var rfl) (ev_var rfl)) (ev_ix (ev_var rfl) (ev_var rfl)))))) ea_nil)) ea_nil)))) fun found251 => (atN [some (.ref fa), some bounds239, some measures240, some cell241, some begin242, some ends247, none, none, some at250, none] (rn_end (by exact ⟨rfl, ⟨rfl, ⟨rfl, ⟨rfl, ⟨rfl, ⟨rfl, True.intro⟩⟩⟩⟩⟩⟩) rfl)))))) (rb_ar1 fun found253 => (atB [some (.ref fa), some bounds239, some measures240, some cell241, some begin242, some ends247, none, none, none, none] (rb_freeze rfl (atB [some (.ref fa), some bounds239, some measures240, some cell241, some begin242, some ends247, none, some found253, none, none] (rb_ret (ev_cb rc_tuple (ea_cons (ev_var rfl) ea_nil))))))))))))))))))))⟩

def b_made_by (fn : List D → Option D) (bounds258 measures259 : D) : Option D := ob (ob (ob (ob (lCons (some bounds258) (lCons (some measures259) (some []))) m_cells_of) ditems) (lcO un1 1 (ar1 fun cell261 => ob (lCons (some bounds258) (lCons (some measures259) (lCons (some cell261) (some [])))) (m_row_by fn)))) fun rows260 => ob (lCons (some bounds258) (lCons (some measures259) (lCons (ob (lCons (some rows260) (some [])) (d1 dtupS)) (some [])))) mkRawTable
def m_made_by (fn : List D → Option D) : List D → Option D := ar2 (b_made_by fn)

abbrev s_made_by : Stmt := topS 54
theorem sc_made_by : FnScope ["function", "bounds", "measures", "rows", "cell"] ["function", "bounds", "measures"] (defScope s_made_by) := ⟨rfl, rfl, rfl, by decide +kernel, rfl, by decide +kernel, by decide +kernel⟩

theorem c_made_by (M : Fx K mg cl T) : Cal P w K mg base 14 "made_by" (spC P w K mg base 12 (gm K cl T) m_made_by) := by
  obtain ⟨f, fd, F, hm⟩ := M.f_made_by
  refine calC F hm sc_made_by (fun _ _ _ _ _ _ us hl => match us, hl with | [_, _, _], _ => rfl) (fun fn ds d e => match ds, e with | [_, _], _ => rfl) fun cdv A outer s H E hr => ⟨_, (pss_cons (ps_setLc (i := 3) (own := [("cell", 4)]) rfl sc_made_by.nd rfl rfl (sw_true rfl rfl rfl (by decide +kernel)) (pi_seq (pe_cl (c_cells_of M) hr (by decide) rfl (pa_cons (pv 1) (pa_cons (pv 2) pa_nil)))) (blkOk_by (by kernel_rfl)) (fun _ _ _ _ _ => (pg_name (i := 4) sc_made_by.nd rfl (.inl rfl))) (fun _ _ _ _ _ => pts_nil) (fun _ _ _ _ _ => (pe_cl (c_row_by M) hr (by decide) rfl (pa_cons (pv 0) (pa_cons (pv 1) (pa_cons (pv 2) (pa_cons (pv 4) pa_nil))))))) (pss_one (ps_ret (pe_mkRawTable rfl rfl M hr (by decide) rfl (pa_cons (pv 1) (pa_cons (pv 2) (pa_cons (pe_callTy call_tuple' (by rfl) M.n_tuple (by decide +kernel) (pa_cons (pv 3) pa_nil)) pa_nil))))))), fun r fa fn C => rb_ar2 (A := fun st => rho0 ["function", "bounds", "measures", "rows", "cell"] (.ref fa :: st)) (B := fun _ => none) fun bounds258 measures259 => (atB [some (.ref fa), some bounds258, some measures259, none, none] (rb_seq (rn_set (ev_lc (it_seq (ev_call (ea_cons (ev_var rfl) (ea_cons (ev_var rfl) ea_nil)))) tg_name (by decide) hvN (ev_ar1 fun cell261 => (atE [some (.ref fa), some bounds258, some measures259, none, some cell261] (ev_callC C (ea_fst rfl (ea_cons (ev_var rfl) (ea_cons (ev_var rfl) (ea_cons (ev_var rfl) ea_nil)))))))) h1N) fun rows260 => (atB [some (.ref fa), some bounds258, some measures259, some rows260, none] (rb_ret (ev_mkRawTable (ea_cons (ev_var rfl) (ea_cons (ev_var rfl) (ea_cons (ev_cb rc_tuple (ea_cons (ev_var rfl) ea_nil)) ea_nil))))))))⟩

end
end Z

namespace Z
open PySem PySem.Spec PyProof.Rows L2 NdefX LamX
/-- the cells of l no more tracked -/
def dropL (H : Hp) (l : List (Addr × Obj)) : Hp := fun b => match l.lookup b with
  | some _ => none
  | none => H b
/-- a thing known to the object -/
def FzO (b : Addr) (o : Obj) : HO := .frz o (ExO b o)
def addL (H : Hp) (l : List (Addr × Obj)) : Hp := fun b => match l.lookup b with
  | some o => some (FzO b o)
  | none => H b
section
variable {H : Hp} {l : List (Addr × Obj)} {b : Addr} {o : Obj} {u : HO}
theorem dropL_in (h : l.lookup b = some o) : dropL H l b = none := by unfold dropL; rw [h]
theorem dropL_out (h : l.lookup b = none) : dropL H l b = H b := by unfold dropL; rw [h]
theorem addL_in (h : l.lookup b = some o) : addL H l b = some (FzO b o) := by unfold addL; rw [h]
theorem addL_out (h : l.lookup b = none) : addL H l b = H b := by unfold addL; rw [h]
theorem lk_cases (l : List (Addr × Obj)) (b : Addr) : l.lookup b = none ∨ ∃ o, l.lookup b = some o := by
  cases l.lookup b with
  | none => exact .inl rfl
  | some o => exact .inr ⟨o, rfl⟩
theorem dropL_none (h : H b = none) : dropL H l b = none := by
  rcases lk_cases l b with e | ⟨o, e⟩
  · rw [dropL_out e]; exact h
  · exact dropL_in e
theorem of_dropL (h : dropL H l b = some u) : l.lookup b = none ∧ H b = some u := by
  rcases lk_cases l b with e | ⟨o, e⟩
  · rw [dropL_out e] at h; exact ⟨e, h⟩
  · rw [dropL_in e] at h; cases h
/-- all of l is tracked -/
def TrL (H : Hp) (l : List (Addr × Obj)) : Prop := ∀ b o, l.lookup b = some o → H b = some (FzO b o)
theorem TrL.not (t : TrL H l) (h : H b = some u) (n : ∀ o, u ≠ FzO b o) : l.lookup b = none := by
  rcases lk_cases l b with e | ⟨o, e⟩
  · exact e
  · rw [t b o e] at h
    exact absurd (Option.some.inj h).symm (n o)
theorem TrL.drop (t : TrL H l) (h : H b = some u) (n : ∀ o, u ≠ FzO b o) : dropL H l b = some u := by rw [dropL_out (t.not h n)]; exact h
theorem sol_fz {u : HO} (h : Sol u) (b : Addr) (o : Obj) : u ≠ FzO b o := fun z => by subst z; exact h
end
theorem fzO_ok {P : Program} {w : World} {H : Hp} {h : Heap} {a : Addr} {o : Obj} (e : h.get? a = some o) : ObjOk P w H h a (FzO a o) := ⟨e, exO_ok e⟩
theorem hok_drop {P : Program} {w : World} {H : Hp} {h : Heap} {l : List (Addr × Obj)} (k : HOk P w H h) (t : TrL H l) : HOk P w (dropL H l) h := fun b u e => by
  obtain ⟨e1, e2⟩ := of_dropL e
  exact (k b u e2).stay (fun c v _ q => q) (fun c q => t.drop q fun o z => by cases z) fun c xs q => t.drop q fun o z => by cases z
theorem env0_drop {P : Program} {w : World} {K : PySem.W.Frag} {mg : Str → Option Value} {base : Heap} {A : Around} {outer : List PySem.Env} {s : Shared} {H : Hp} {l : List (Addr × Obj)} (e : Env0 P w K mg base A outer s H) (t : TrL H l) : Env0 P w K mg base A outer s (dropL H l) :=
  ⟨e.frames, e.mod, fun b o q => ⟨(e.bs b o q).1, dropL_none (e.bs b o q).2⟩, e.bsz, e.funs, fun b hb => dropL_none (e.frf b hb), hok_drop e.hok t, e.bare⟩
/-- back: tracked again -/
theorem cr_back {P : Program} {w : World} {K : PySem.W.Frag} {mg : Str → Option Value} {base : Heap} {A : Around} {outer : List PySem.Env} {s : Shared} {H : Hp} {l : List (Addr × Obj)} {Q Q' : VK} {rr : Result} {s' : Shared} (e : Env0 P w K mg base A outer s H) (t : TrL H l)
    (h : CR L2.CX0 outer P w (dropL H l) s Q' L2.E0 rr s') (hq : ∀ v H', (∀ b o, l.lookup b = some o → H' b = none) → Q' v H' → Q v (addL H' l)) : CR L2.CX0 outer P w H s Q L2.E0 rr s' := by
  cases rr with
  | error e => exact False.elim h
  | ok fl =>
    cases fl with
    | next => exact False.elim h
    | brk => exact False.elim h
    | cont => exact False.elim h
    | ret u =>
      obtain ⟨v, H', os, bare, un, hok, rv, q⟩ := (show CE outer P w (dropL H l) s Q' u s' from h)
      have at0 : ∀ b o, l.lookup b = some o → s.heap.get? b = some o := fun b o e1 => (e.hok b _ (t b o e1)).1
      have nf : ∀ b o, l.lookup b = some o → b ∉ frs outer := fun b o e1 z => by
        have q := e.frf b z
        rw [t b o e1] at q
        cases q
      have at1 : ∀ b o, l.lookup b = some o → s'.heap.get? b = some o := fun b o e1 => un.keep b o (at0 b o e1) (dropL_in e1) (nf b o e1) (by simp)
      have no : ∀ b o, l.lookup b = some o → H' b = none := fun b o e1 => un.free b o (at0 b o e1) (dropL_in e1) (by simp)
      have out : ∀ {b u}, H' b = some u → l.lookup b = none := fun {b u} e1 => by
        rcases lk_cases l b with z | ⟨o, z⟩
        · exact z
        · rw [no b o z] at e1; cases e1
      refine ⟨v, addL H' l, os, bare, ⟨fun b o e1 n hb hx => un.keep b o e1 (dropL_none n) hb hx, fun b o e1 n hb hx => un.slot b o e1 (dropL_none n) hb hx, fun b o e1 n hx => ?_, un.there, fun b xs e1 => ?_, fun b o u e1 => ?_, fun b ps e1 => ?_⟩, fun b u e1 => ?_, rv, hq v H' no q⟩
      · have z : l.lookup b = none := by
          rcases lk_cases l b with z | ⟨o', z⟩
          · exact z
          · rw [t b o' z] at n; cases n
        rw [addL_out z]
        exact un.free b o e1 (dropL_none n) hx
      · have e2 := un.tups b xs (t.drop e1 fun o z => by cases z)
        rw [addL_out (out e2)]; exact e2
      · rcases lk_cases l b with z | ⟨o', z⟩
        · have e2 := un.frzs b o u (by rw [dropL_out z]; exact e1)
          rw [addL_out z]; exact e2
        · rw [addL_in z, ← t b o' z]; exact e1
      · obtain ⟨more, e2⟩ := un.tbls b ps (t.drop e1 fun o z => by cases z)
        exact ⟨more, by rw [addL_out (out e2)]; exact e2⟩
      · rcases lk_cases l b with z | ⟨o', z⟩
        · rw [addL_out z] at e1
          exact (hok b u e1).stay (fun c v _ q => q) (fun c q => by rw [addL_out (out q)]; exact q) fun c xs q => by rw [addL_out (out q)]; exact q
        · rw [addL_in z] at e1
          cases e1
          exact fzO_ok (at1 b o' z)
theorem tabs_of {T : List NTab} {H H' : Hp} (h : ∀ b o, H b = some o → (∀ o' u, o ≠ .frz o' u) → H' b = some o) (t : TabsN T H) : TabsN T H' := fun p hp => by
  obtain ⟨ps, h1, h2, h3⟩ := t p hp
  refine ⟨ps, h _ _ h1 fun _ _ z => (by cases z), h2, fun pos cv hc => ?_⟩
  obtain ⟨c, e1, e2⟩ := h3 pos cv hc
  exact ⟨c, e1, h _ _ e2 fun _ _ z => by unfold CodeO at z; cases z⟩

structure Stb {g : Gm} (r : Rl g) : Prop where
  J : ∀ H H', (∀ b o, Sol o → H b = some o → H' b = some o) → (∀ b o, Sol o → H' b = some o → H b = some o) → r.J H → r.J H'
  A : ∀ H H', (∀ b o, Sol o → H b = some o → H' b = some o) → (∀ b o, Sol o → H' b = some o → H b = some o) → r.J H → ∀ b, r.A H' b → r.A H b
  sol : ∀ H b, r.J H → r.A H b → ∃ o, H b = some o ∧ Sol o
theorem stb0 {g : Gm} : Stb (r0 g) := ⟨fun _ _ _ _ _ => True.intro, fun _ _ _ _ _ _ h => h, fun _ _ _ h => h.elim⟩
/-- further values that are known, what they stand on is hidden by nobody -/
def rPlus {g : Gm} (r : Rl g) (S : Addr → Prop) (es : List D) (wv : List V) : Rl g where
  L := r.L
  J := fun H => r.J H ∧ (∀ b, S b → ¬ r.L b ∧ ∃ o, H b = some o ∧ Sol o ∧ ∀ xs, o ≠ .lst xs) ∧ IsL g (fun b => ¬ S b) H es wv
  A := fun H b => r.A H b ∨ S b
  hJ := fun H H' k j => ⟨r.hJ H H' k j.1, fun b s => by
    obtain ⟨n, o, e, so, nl⟩ := j.2.1 b s
    exact ⟨n, o, k.keep b o e fun ps z => (by subst z; exact so), so, nl⟩, IsL.kpS (fun b o e so _ => k.keep b o e fun ps z => by subst z; exact so) _ _ j.2.2⟩
  hL := fun H b j h => r.hL H b j.1 h
  hU := fun H p xs ys e n j => by
    have hp : ∀ b, S b → b ≠ p := fun b s z => by
      obtain ⟨_, o, e2, _, nl⟩ := j.2.1 b s
      rw [z, e] at e2
      exact nl xs (Option.some.inj e2).symm
    refine ⟨r.hU H p xs ys e n j.1, fun b s => ?_, IsL.kpS (fun b o e2 so h => ?_) _ _ j.2.2⟩
    · rw [upd_ne (hp b s)]
      exact j.2.1 b s
    · rw [upd_ne]
      · exact e2
      · intro z
        subst z
        rw [e] at e2
        cases e2
        rcases h with h | h
        · exact h fun s => hp b s rfl
        · rcases h with ⟨_, z⟩ | ⟨_, _, z⟩ <;> cases z
  hA := fun H H' k j b h => h.imp (r.hA H H' k j.1 b) id
  hUA := fun H p xs ys e n j b h => h.imp (r.hUA H p xs ys e n j.1 b) id
  hN := fun H b j h xs e => by
    rcases h with h | h
    · exact r.hN H b j.1 h xs e
    · obtain ⟨_, o, e2, _, nl⟩ := j.2.1 b h
      rw [e] at e2
      exact nl xs (Option.some.inj e2).symm
theorem stb_plus {g : Gm} {r : Rl g} {S : Addr → Prop} {es : List D} {wv : List V} (h : Stb r) : Stb (rPlus r S es wv) where
  J := fun H H' a b j => ⟨h.J H H' a b j.1, fun c s => by
    obtain ⟨n, o, e, so, nl⟩ := j.2.1 c s
    exact ⟨n, o, a c o so e, so, nl⟩, IsL.kpS (fun c o e so _ => a c o so e) _ _ j.2.2⟩
  A := fun H H' a b j c k => k.imp (h.A H H' a b j.1 c) id
  sol := fun H b j k => by
    rcases k with k | k
    · exact h.sol H b j.1 k
    · obtain ⟨_, o, e, so, _⟩ := j.2.1 b k
      exact ⟨o, e, so⟩
theorem plus_is {g : Gm} {r : Rl g} {S : Addr → Prop} {es : List D} {wv : List V} {H : Hp} {O : Addr → Prop} (j : (rPlus r S es wv).J H) (h : ∀ b, (rPlus r S es wv).A H b → ¬ O b) : IsL g O H es wv := IsL.anti (fun b o s => h b (.inr s) o) _ _ j.2.2
/-- from the frame that knows the values -/
theorem Ent.plus {g : Gm} {r : Rl g} {O : Addr → Prop} {H : Hp} {es : List D} {wv : List V} (E : Ent g r O H) (h : IsL g O H es wv) (n : noLs es = true) : Ent g (rPlus r (Left O H) es wv) O H :=
  ⟨E.sub, E.hid, fun b a => a.elim (E.out b) fun s => s.1, E.tabs, E.J, fun b s => ⟨fun l => s.1 (E.sub b l), s.2⟩, IsL.left _ _ n h⟩
theorem R.zero {g : Gm} {r : Rl g} {H H' : Hp} (n : ∀ b, ¬ r.L b) (k : R g r H H') : R0 g H H' := ⟨fun c o h m => k.keep c o h m (.inl (n c)), k.free, k.tabs, k.tb⟩

structure CloJ (f c' : Addr) (fo : HO) (q : Str) (l : List (Addr × Obj)) (L : Addr → Prop) (H : Hp) : Prop where
  hf : H f = some fo
  hc : H c' = some (CodeO c' q)
  tr : TrL H l
  ext : ∃ φ, fo = .ext φ
  nf : ¬ L f
  nc : ¬ L c'
  nl : ∀ b o, l.lookup b = some o → ¬ L b
theorem CloJ.go {f c' : Addr} {fo : HO} {q : Str} {l : List (Addr × Obj)} {L : Addr → Prop} {H H' : Hp} (j : CloJ f c' fo q l L H) (h : ∀ b o, H b = some o → (∀ ps, o ≠ .tbl ps) → ¬ L b → H' b = some o) : CloJ f c' fo q l L H' := by
  obtain ⟨φ, e⟩ := j.ext
  subst e
  exact ⟨h _ _ j.hf (fun _ z => by cases z) j.nf, h _ _ j.hc (fun _ z => by unfold CodeO at z; cases z) j.nc, fun b o e => h _ _ (j.tr b o e) (fun _ z => by cases z) (j.nl b o e), j.ext, j.nf, j.nc, j.nl⟩
def rClo {g : Gm} (r : Rl g) (f c' : Addr) (fo : HO) (q : Str) (l : List (Addr × Obj)) : Rl g where
  L := r.L
  J := fun H => r.J H ∧ CloJ f c' fo q l r.L H
  A := r.A
  hJ := fun H H' k j => ⟨r.hJ H H' k j.1, j.2.go fun b o e n _ => k.keep b o e n⟩
  hL := fun H b j => r.hL H b j.1
  hU := fun H p xs ys e n j => ⟨r.hU H p xs ys e n j.1, by
    obtain ⟨φ, eφ⟩ := j.2.ext
    have ne : ∀ b o, H b = some o → (∀ zs, o ≠ .lst zs) → b ≠ p := fun b o e2 nl z => by
      rw [z, e] at e2
      exact nl xs (Option.some.inj e2).symm
    have k : ∀ b o, H b = some o → (∀ zs, o ≠ .lst zs) → upd H p (.lst ys) b = some o := fun b o e2 nl => by rw [upd_ne (ne b o e2 nl)]; exact e2
    have j2 := j.2
    exact ⟨k _ _ j2.hf (fun _ z => by rw [eφ] at z; cases z), k _ _ j2.hc (fun _ z => by unfold CodeO at z; cases z), fun b o e => k _ _ (j2.tr b o e) fun _ z => (by cases z), j2.ext, j2.nf, j2.nc, j2.nl⟩⟩
  hA := fun H H' k j => r.hA H H' k j.1
  hUA := fun H p xs ys e n j => r.hUA H p xs ys e n j.1
  hN := fun H b j => r.hN H b j.1

/-- what the captured cells hold -/
structure CelD (cl : List (Str × Addr)) (fr : List Str) (wv : List V) (l : List (Addr × Obj)) : Prop where
  len : wv.length = fr.length
  all : ∀ y c, cl.lookup y = some c → ∃ o v, l.lookup c = some o ∧ o.data = .cell v
  inj : ∀ x y c, cl.lookup x = some c → cl.lookup y = some c → x = y
  has : ∀ (i : Nat) (y : Str) (v : V), fr[i]? = some y → wv[i]? = some v → ∃ c o u, cl.lookup y = some c ∧ l.lookup c = some o ∧ RelV v u ∧ o.data = .cell (some u)
section
variable {P : Program} {w : World} {K : PySem.W.Frag} {mg : Str → Option Value} {base : Heap} {k : Nat} {g : Gm} {rb : Rl g} {f c' : Addr} {fo : HO} {q : Str} {cl : List (Str × Addr)} {fr : List Str} {wv : List V} {es : List D} {l : List (Addr × Obj)} {m : List D → Option D}
theorem CelD.at0 {H : Hp} {h : Heap} (C : CelD cl fr wv l) (hok : HOk P w H h) (t : TrL H l) : CellsAt cl fr (wv.map some) h (dropL H l) := by
  have at_ : ∀ b o, l.lookup b = some o → h.get? b = some o := fun b o e => (hok b _ (t b o e)).1
  refine ⟨by rw [List.length_map]; exact C.len, fun y c e => ?_, C.inj, fun i y e => ?_⟩
  · obtain ⟨o, v, e1, e2⟩ := C.all y c e
    exact ⟨dropL_in e1, v, o, at_ c o e1, e2⟩
  · have hi : i < wv.length := by
      rw [C.len]
      exact (List.getElem?_eq_some_iff.mp e).1
    have ev : wv[i]? = some wv[i] := List.getElem?_eq_getElem hi
    obtain ⟨c, o, u, e1, e2, e3, e4⟩ := C.has i y _ e ev
    refine ⟨c, e1, fun v e5 => ?_⟩
    rw [List.getElem?_map, ev] at e5
    cases e5
    exact ⟨u, e3, o, at_ c o e2, e4⟩
theorem ent_drop {O : Addr → Prop} {H : Hp} (st : Stb rb) (E : Ent g (rClo rb f c' fo q l) O H) : Ent g rb (fun b => O b ∧ l.lookup b = none) (dropL H l) := by
  have t := E.J.2.tr
  have d1 : ∀ b o, Sol o → H b = some o → dropL H l b = some o := fun b o so e => t.drop e (sol_fz so b)
  have d2 : ∀ b o, Sol o → dropL H l b = some o → H b = some o := fun b o _ e => (of_dropL e).2
  have j := st.J _ _ d1 d2 E.J.1
  refine ⟨fun b lb => ⟨E.sub b lb, ?_⟩, fun b ob => ?_, fun b a ob => E.out b (st.A _ _ d1 d2 E.J.1 b a) ob.1, tabs_of (fun b o e n => t.drop e fun o' z => n o' _ z) E.tabs, j⟩
  · rcases lk_cases l b with z | ⟨o, z⟩
    · exact z
    · exact absurd lb (E.J.2.nl b o z)
  · rw [dropL_out ob.2]
    exact E.hid b ob.1
theorem r_back {H H' : Hp} (st : Stb rb) (J : (rClo rb f c' fo q l).J H) (no : ∀ b o, l.lookup b = some o → H' b = none) (k : R g rb (dropL H l) H') : R g (rClo rb f c' fo q l) H (addL H' l) := by
  have t := J.2.tr
  have d1 : ∀ b o, Sol o → H b = some o → dropL H l b = some o := fun b o so e => t.drop e (sol_fz so b)
  have d2 : ∀ b o, Sol o → dropL H l b = some o → H b = some o := fun b o _ e => (of_dropL e).2
  have out : ∀ {b u}, H' b = some u → addL H' l b = some u := fun {b u} e1 => by
    rcases lk_cases l b with z | ⟨o, z⟩
    · rw [addL_out z]; exact e1
    · rw [no b o z] at e1; cases e1
  have a1 : ∀ b o, Sol o → H' b = some o → addL H' l b = some o := fun b o _ e => out e
  have a2 : ∀ b o, Sol o → addL H' l b = some o → H' b = some o := fun b o so e => by
    rcases lk_cases l b with z | ⟨o', z⟩
    · rw [addL_out z] at e; exact e
    · rw [addL_in z] at e
      exact absurd (Option.some.inj e).symm (sol_fz so b o')
  have j0 := st.J _ _ d1 d2 J.1
  have keep : ∀ b o, H b = some o → (∀ ps, o ≠ .tbl ps) → (¬ rb.L b ∨ Rob o) → addL H' l b = some o := fun b o e n nl => by
    rcases lk_cases l b with z | ⟨o', z⟩
    · exact out (k.keep b o (by rw [dropL_out z]; exact e) n nl)
    · rw [addL_in z, ← t b o' z]; exact e
  refine ⟨keep, fun b e => ?_, fun tb => tabs_of (fun b o e _ => out e) (k.tabs (tabs_of (fun b o e n => t.drop e fun o' z => n o' _ z) tb)), fun _ => ⟨st.J _ _ a1 a2 (k.J j0), J.2.go fun b o e n nl => keep b o e n (.inl nl)⟩, fun _ b a => ?_, fun b ps e => ?_⟩
  · rcases lk_cases l b with z | ⟨o', z⟩
    · rw [addL_out z] at e
      have e2 := k.free b e
      rw [dropL_out z] at e2
      exact e2
    · rw [addL_in z] at e; cases e
  · have a' := st.A _ _ a1 a2 (k.J j0) b a
    rcases k.A j0 b a' with z | z
    · exact .inl (st.A _ _ d1 d2 J.1 b z)
    · obtain ⟨o, e, _⟩ := st.sol _ _ (k.J j0) a'
      rcases lk_cases l b with z' | ⟨o', z'⟩
      · rw [dropL_out z'] at z; exact .inr z
      · rw [no b o' z'] at e; cases e
  · obtain ⟨qs, e1⟩ := k.tb b ps (t.drop e fun o z => by cases z)
    exact ⟨qs, out e1⟩
/-- THE RULE: by the run with the cells untracked -/
theorem clb_mk (st : Stb rb) (hf : ∀ H h, HOk P w H h → H f = some fo → PySem.W.FnAt f h) (C : CelD cl fr wv l) (hcap : ∀ H O, rb.J H → (∀ b, rb.A H b → ¬ O b) → IsL g O H es wv)
    (core : ∀ (A : Around) (outer : List PySem.Env) (s : Shared) (H : Hp) (us : List Value) (vs : List V) (Q : VK) (O : Addr → Prop) (ds : List D) (d : D), Room k A → Env0 P w K mg base A outer s H → H f = some fo → H c' = some (CodeO c' q) → CellsAt cl fr (wv.map some) s.heap H → Vals vs us → Ent g rb O H →
      IsL g O H ds vs → IsL g O H es wv → m ds = some d → (∀ v H', R g rb H H' → Is g O H' d v → Q v H') → codeAny (model P w) A (.call (.ref f) ⟨us, []⟩) (CR L2.CX0 outer P w H s Q L2.E0) s) : Clb P w K mg base k g (rClo rb f c' fo q l) f m := by
  refine ⟨fun H h hok j => hf H h hok j.2.hf, fun A outer s H us vs Q O ds d hr e0 en r iv ed hq => ?_⟩
  have j := en.J
  have t := j.2.tr
  have en0 := ent_drop st en
  obtain ⟨φ, eφ⟩ := j.2.ext
  have hcp := hcap _ _ en0.J en0.out
  have i0 : IsL g (fun b => O b ∧ l.lookup b = none) (dropL H l) ds vs := IsL.kpS (fun b o e so _ => t.drop e (sol_fz so b)) _ _ (IsL.anti (fun b z => z.1) _ _ iv)
  refine codeAny_mono (core A outer s (dropL H l) us vs (fun v H' => (∀ b o, l.lookup b = some o → H' b = none) → Q v (addL H' l)) _ ds d hr (env0_drop e0 t) (t.drop j.2.hf fun o z => by rw [eφ] at z; cases z) (t.drop j.2.hc fun o z => by unfold CodeO FzO at z; cases z) (C.at0 e0.hok t) r en0 i0 hcp ed fun v H' k i no => ?_) fun rr s' h => cr_back e0 t h fun v H' no q => q no
  refine hq v _ (r_back st j no k) ?_
  refine Is.kpS (fun b o e so _ => ?_) d v (Is.hide (fun b ob => ?_) d v i)
  · rcases lk_cases l b with z | ⟨o', z⟩
    · rw [addL_out z]; exact e
    · rw [no b o' z] at e; cases e
  · rcases lk_cases l b with z | ⟨o', z⟩
    · exact .inl ⟨ob, z⟩
    · exact .inr (no b o' z)
end
end Z

namespace Z
open PySem PySem.Spec PyProof.Rows L2 NdefX LamX
/-- the object at f is such a lambda -/
def LmO (f : Addr) (qual : Str) (params : Arguments) (body : Expr) (scope : Scope) (cl : List (Str × Addr)) (c' : Addr) : HO :=
  .ext fun h => ∃ (od : Option Addr) (sl : Array (Option Value)) (pm ctv : Value), h.get? f = some (⟨.type "function", od, .func (PySem.W.kla_fn "<lambda>" qual params body scope cl pm (.ref c') ctv), sl⟩ : Obj)
section
variable {X : Cx} {pins : List (Addr × Obj)} {σ : L2.St} {H : Hp} {s : Shared}
theorem inv_lm {qual : Str} {params : Arguments} {body : Expr} {scope : Scope} {cl : List (Str × Addr)} {c' : Addr} {o : Obj} {t' : Nat} {pm ctv : Value} (I : Inv X pins σ H s) (ho : o = PySem.W.kla_obj "<lambda>" qual params body scope cl pm c' ctv) :
    Inv X pins σ (upd H s.heap.objs.size (LmO s.heap.objs.size qual params body scope cl c')) { s with heap := s.heap.push o, toks := t' } := by
  subst ho
  refine I.laid (a := s.heap.objs.size) (fun b u e => Heap.get?_push_of_some _ e) (Nat.le_refl _) ?_
  have e : (s.heap.push (PySem.W.kla_obj "<lambda>" qual params body scope cl pm c' ctv)).get? s.heap.objs.size = some (PySem.W.kla_obj "<lambda>" qual params body scope cl pm c' ctv) := Heap.get?_push_size _ rfl
  exact ⟨⟨_, _, pm, ctv, e⟩, ⟨_, e⟩, fun h1 h2 ⟨od, sl, p, t, z⟩ st => ⟨od, sl, p, t, st _ z⟩⟩
/-- what the making of a function leaves -/
structure Made (T : List NTab) (H H1 : Hp) : Prop where
  keep : ExtN H H1
  free : ∀ b, H1 b = Option.none → H b = Option.none
  tabs : TabsN T H1
  tb : ∀ b ps, H b = some (.tbl ps) → ∃ qs, H1 b = some (.tbl qs)
theorem Made.r0 {g : Gm} {H H1 : Hp} (m : Made g.T H H1) : R0 g H H1 := ⟨m.keep, m.free, fun _ => m.tabs, m.tb⟩
theorem lam_make3 {T : List NTab} {nm : Nat → Nat → Str} {c P : Addr} {params : Arguments} {body : Expr} {scope : Scope} {pos : Pos} {E : Value → Shared → Prop} {Q : Value → Shared → Prop} (I : Inv X pins σ H s) (TB : TabB X.base X.mg c P) (hcode : X.env.code = .ref c)
    (hm : (P, nm) ∈ T) (hn : nm pos.line pos.col = X.env.qual ++ "<lambda>") (hu : ∀ p ∈ T, p.1 = P → p.2 = nm) (hT : TabsN T H) (hdef : defaultsOf params X.env = ([], [])) (hfree : ∀ y ∈ scope.names, y.2 = .free → ∃ c, X.env.cells.lookup y.1 = some c)
    (h : ∀ (f c' : Addr) (H1 : Hp) (s' : Shared), Inv X pins σ H1 s' → Made T H H1 → H f = none → H1 f = some (LmO f (X.env.qual ++ "<lambda>") params body scope (cloFrom X.env.cells scope.names []) c') → H1 c' = some (CodeO c' (X.env.qual ++ "<lambda>")) → Q (.ref f) s') :
    wpAny (model X.prog X.w) X.A (eval (.Lambda params body scope pos) X.env) Q E s := by
  obtain ⟨ps, hP, ht, ha⟩ := (show TabN H P nm from hT _ hm)
  refine PySem.W.kla_eval hdef ?_
  have bP : s.heap.BuiltinsAt X.mg P := TB.bm.keeps I.bk
  have hP' : s.heap.get? P = some { cls := .none, data := .fields ps } := I.hok P _ hP
  cases hc : codeAmong pos ps.toList with
  | none =>
    refine PySem.W.kla_makeFunction (mg := X.mg) (c := c) (P := P) (ps := ps) (closure_ok hfree) I.ok.glob (I.mod.glob.keeps I.bk) hcode (TB.code.keeps I.bk) hP' ht hc TB.gP bP fun c' ctv h' tk hx hge hlt hrec htb => ?_
    obtain ⟨c2, oc, vs, t, e2, hoc, hd, hv⟩ := hrec
    cases e2
    have nC : H c' = none := I.hok.fresh hge
    have I1 := inv_table (q := X.env.qual ++ "<lambda>") (t' := tk) (more := #[rawInt pos.line, rawInt pos.col, .ref c']) (h' := h') I hP (fun b o hb e => hx b o hb e) htb hge ⟨oc, vs, t, hoc, hd, hv⟩
    have hE : ExtN H (upd (upd H P (.tbl (ps ++ #[rawInt pos.line, rawInt pos.col, .ref c']))) c' (CodeO c' (X.env.qual ++ "<lambda>"))) := fun b o e n => by
      rw [upd_ne (ne_of_none e nC), upd_ne (fun z => n ps (Option.some.inj (e.symm.trans (by rw [z]; exact hP))))]
      exact e
    have hB : ∀ b qs, H b = some (.tbl qs) → ∃ rs, (upd (upd H P (.tbl (ps ++ #[rawInt pos.line, rawInt pos.col, .ref c']))) c' (CodeO c' (X.env.qual ++ "<lambda>"))) b = some (.tbl rs) := fun b qs e => by
      by_cases hb : b = P
      · exact ⟨_, by rw [hb, upd_ne (ne_of_none hP nC), upd_same]⟩
      · exact ⟨_, by rw [upd_ne (ne_of_none e nC), upd_ne hb]; exact e⟩
    have eL : (ps ++ #[rawInt pos.line, rawInt pos.col, .ref c']).toList = ps.toList ++ [rawInt pos.line, rawInt pos.col, .ref c'] := by simp
    have T1 : TabsN T (upd (upd H P (.tbl (ps ++ #[rawInt pos.line, rawInt pos.col, .ref c']))) c' (CodeO c' (X.env.qual ++ "<lambda>"))) := fun p hp => by
      by_cases hb : p.1 = P
      · rw [hu p hp hb, hb]
        refine ⟨_, by rw [upd_ne (ne_of_none hP nC), upd_same], by rw [eL]; exact PySem.TriplesOk_snoc _ _ _ _ ht, fun p' cv hcv => ?_⟩
        rw [eL] at hcv
        rcases among_app2 _ ht hcv with z | ⟨z, z1, z2⟩
        · obtain ⟨c0, e1, e2⟩ := ha p' cv z
          exact ⟨c0, e1, hE _ _ e2 codeO_ne⟩
        · refine ⟨c', z, ?_⟩
          rw [← z1, ← z2, hn]
          exact upd_same
      · obtain ⟨ps', a1, a2, a3⟩ := hT p hp
        refine ⟨ps', by rw [upd_ne (ne_of_none a1 nC), upd_ne hb]; exact a1, a2, fun p' cv hcv => ?_⟩
        obtain ⟨c0, e1, e2⟩ := a3 p' cv hcv
        exact ⟨c0, e1, hE _ _ e2 codeO_ne⟩
    have nF := I1.hok.fresh (Nat.le_refl _)
    have I2 := inv_lm (qual := X.env.qual ++ "<lambda>") (params := params) (body := body) (scope := scope) (cl := cloFrom X.env.cells scope.names []) (c' := c') (t' := tk) (pm := (X.mg "__name__").getD .none) (ctv := ctv) I1 rfl
    refine h h'.objs.size c' _ _ I2 ⟨fun b o e n => ?_, fun b e => NdefX.upd_none (NdefX.upd_none (NdefX.upd_none e)), T1.ext fun b o e => ?_, fun b qs e => ?_⟩ (I.hok.fresh (Nat.le_trans hge (Nat.le_of_lt hlt))) upd_same ?_
    · have e1 := hE b o e n
      exact (upd_ne (ne_of_none e1 nF)).trans e1
    · exact (upd_ne (ne_of_none e nF)).trans e
    · obtain ⟨rs, e1⟩ := hB b qs e
      exact ⟨rs, (upd_ne (ne_of_none e1 nF)).trans e1⟩
    · exact (upd_ne (Nat.ne_of_lt hlt)).trans upd_same
  | some cv =>
    obtain ⟨c', e, hco⟩ := ha pos cv hc
    subst e
    rw [hn] at hco
    refine PySem.W.kla_makeFunctionHit (mg := X.mg) (c := c) (P := P) (ps := ps) (closure_ok hfree) I.ok.glob (I.mod.glob.keeps I.bk) hcode (TB.code.keeps I.bk) hP' ht hc bP fun ctv h' tk hx hsz => ?_
    have I1 : Inv X pins σ H { s with heap := h', toks := tk } := I.kept hx
    have nF : H h'.objs.size = none := I1.hok.fresh (Nat.le_refl _)
    have I2 := inv_lm (qual := X.env.qual ++ "<lambda>") (params := params) (body := body) (scope := scope) (cl := cloFrom X.env.cells scope.names []) (c' := c') (t' := tk) (pm := (X.mg "__name__").getD .none) (ctv := ctv) I1 rfl
    refine h h'.objs.size c' _ _ I2 ⟨fun b o e n => ?_, fun b e => NdefX.upd_none e, hT.ext fun b o e => ?_, fun b qs e => ⟨qs, ?_⟩⟩ nF upd_same ?_
    · exact (upd_ne (ne_of_none e nF)).trans e
    · exact (upd_ne (ne_of_none e nF)).trans e
    · exact (upd_ne (ne_of_none e nF)).trans e
    · exact (upd_ne (ne_of_none hco nF)).trans hco
end
theorem fnAt_lm {P : Program} {w : World} {f : Addr} {qual : Str} {params : Arguments} {body : Expr} {scope : Scope} {cl : List (Str × Addr)} {c' : Addr} : ∀ H h, HOk P w H h → H f = some (LmO f qual params body scope cl c') → PySem.W.FnAt f h := fun H h hok e => by
  obtain ⟨⟨od, sl, pm, ctv, ho⟩, _, _⟩ := hok f _ e
  exact ⟨_, od, _, sl, ho⟩
theorem startF_eq {N : List Str} {vs wv : List V} : startF N vs (wv.map some) = L2.start N (vs ++ wv) := by
  unfold startF L2.start
  rw [List.map_append, List.append_assoc, List.length_map, List.length_append, Nat.sub_sub]
abbrev NFl (qual : Str) (params : Arguments) (scope : Scope) (cl : List (Str × Addr)) (c' : Addr) : NF := ⟨"<lambda>", qual, params, [], scope, cl, c'⟩
section
variable {P : Program} {w : World} {K : PySem.W.Frag} {mg : Str → Option Value} {base : Heap} {k : Nat} {g : Gm} {rb : Rl g} {f c' : Addr} {qual : Str} {params : Arguments} {body : Expr} {scope : Scope} {cl : List (Str × Addr)} {N ps fr : List Str} {wv : List V} {es : List D} {m : List D → Option D}
theorem lam_core (S : NScope N ps fr scope) (hbind : ∀ (pm cv ctv : Value) (us : List Value), us.length = ps.length → bindArgs (PySem.W.kla_fn "<lambda>" qual params body scope cl pm cv ctv) ⟨us, []⟩ = pure (ps.zip us)) (len : ∀ ds d, m ds = some d → ds.length = ps.length)
    (hbody : ∀ (A : Around) (outer : List PySem.Env) (s : Shared) (H : Hp), Room k (A.deeper (envF (NFl qual params scope cl c') f s.heap.objs.size)) → ∃ te, PE (ncx L2.CX0 P w K mg base N (NFl qual params scope cl c') f A outer s H L2.E0) body te ∧ ∀ ds, EvO g rb te (rho0 N (ds ++ es)) none (m ds)) :
    ∀ (A : Around) (outer : List PySem.Env) (s : Shared) (H : Hp) (us : List Value) (vs : List V) (Q : VK) (O : Addr → Prop) (ds : List D) (d : D), Room (k + 1) A → Env0 P w K mg base A outer s H → H f = some (LmO f qual params body scope cl c') → H c' = some (CodeO c' qual) → CellsAt cl fr (wv.map some) s.heap H → Vals vs us → Ent g rb O H →
      IsL g O H ds vs → IsL g O H es wv → m ds = some d → (∀ v H', R g rb H H' → Is g O H' d v → Q v H') → codeAny (model P w) A (.call (.ref f) ⟨us, []⟩) (CR L2.CX0 outer P w H s Q L2.E0) s := fun A outer s H us vs Q O ds d hr e0 hf hc C r en iv0 iv1 ed hq => by
  have lim : s.heap.NoLimit := e0.mod.nolimit.keeps fun b o e => (e0.bs b o e).1
  obtain ⟨⟨od, sl, pm, ctv, ho⟩, _, _⟩ := e0.hok f _ hf
  obtain ⟨te, hte, hR⟩ := hbody A outer s H (hr.deeper _)
  have hvl : vs.length = ps.length := by rw [← iv0.length]; exact len ds d ed
  refine PySem.W.kla_callFunE hr.depth ho rfl S.co S.gen rfl (codeO_at e0.hok hc) ?_
  show wpAny _ _ (bindArgs (PySem.W.kla_fn "<lambda>" qual params body scope cl pm (.ref c') ctv) ⟨us, []⟩) _ _ _
  rw [hbind pm (.ref c') ctv us (by rw [← r.length]; exact hvl)]
  refine wpAny_pure (wpAny_newFunctionEnv S.nocell (fun ⟨n, _⟩ hy => S.par n (List.of_mem_zip hy).1) (fun h₁ hns hsb => ⟨lim.fresh _ hsb, ?_⟩) S.kind)
  show codeAny _ _ (.expr body (envF (NFl qual params scope cl c') f s.heap.objs.size)) _ _
  have kp : ∀ b o, s.heap.get? b = some o → h₁.get? b = some o := fun b o e => hsb.extBut b o (Nat.ne_of_lt (Heap.lt_size e)) (Heap.get?_push_of_some _ e)
  have I : Inv (ncx L2.CX0 P w K mg base N (NFl qual params scope cl c') f A outer s H L2.E0) [] (startF N vs (wv.map some)) H { s with heap := h₁, toks := s.toks + (ps.zip us).length } := inv_startN S hr.hd e0 hvl r C hns kp
  rw [startF_eq] at I
  have E := entryR (N := N) en (iv0.append iv1)
  refine PySem.W.kla_codeExpr (wpAny_mono (hte.run [] _ _ H Q I (hR ds d ed O _ H E Q hq)) (fun v s' hs => ?_) fun e s' hs => hs)
  obtain ⟨w', H', J, rv, q⟩ := hs
  exact ⟨w', H', J.os, J.bare, J.base, J.hok, rv, q⟩
end
end Z

namespace Z
open PySem PySem.Spec PyProof.Rows L2 NdefX LamX
section
variable {P : Program} {w : World} {K : PySem.W.Frag} {mg : Str → Option Value} {base : Heap} {A : Around} {outer : List PySem.Env} {s s' : Shared} {H H' H1 : Hp} {l : List (Addr × Obj)}
/-- cells of a running frame, tracked for a call -/
structure AddOk (base : Heap) (outer : List PySem.Env) (s : Shared) (H : Hp) (l : List (Addr × Obj)) : Prop where
  at_ : ∀ b o, l.lookup b = some o → s.heap.get? b = some o
  no : ∀ b o, l.lookup b = some o → H b = none
  nb : ∀ b o, l.lookup b = some o → base.get? b = none
  nf : ∀ b o, l.lookup b = some o → b ∉ frs outer
theorem add_old (no : ∀ b o, l.lookup b = some o → H b = none) {b : Addr} {u : HO} (e : H b = some u) : l.lookup b = none ∧ addL H l b = some u := by
  rcases lk_cases l b with z | ⟨o, z⟩
  · exact ⟨z, by rw [addL_out z]; exact e⟩
  · rw [no b o z] at e; cases e
theorem trL_add : TrL (addL H l) l := fun b o e => addL_in e
theorem hok_add (k : HOk P w H s.heap) (a : AddOk base outer s H l) : HOk P w (addL H l) s.heap := fun b u e => by
  rcases lk_cases l b with z | ⟨o, z⟩
  · rw [addL_out z] at e
    exact (k b u e).stay (fun c v _ q => q) (fun c q => (add_old a.no q).2) fun c xs q => (add_old a.no q).2
  · rw [addL_in z] at e
    cases e
    exact fzO_ok (a.at_ b o z)
theorem env0_add (e : Env0 P w K mg base A outer s H) (a : AddOk base outer s H l) : Env0 P w K mg base A outer s (addL H l) :=
  ⟨e.frames, e.mod, fun b o q => ⟨(e.bs b o q).1, by
    rcases lk_cases l b with z | ⟨o', z⟩
    · rw [addL_out z]; exact (e.bs b o q).2
    · rw [a.nb b o' z] at q; cases q⟩, e.bsz, e.funs, fun b hb => by
    rcases lk_cases l b with z | ⟨o', z⟩
    · rw [addL_out z]; exact e.frf b hb
    · exact absurd hb (a.nf b o' z), hok_add e.hok a, e.bare⟩
theorem cr_fwd {Q Q' : VK} {rr : Result} (e : Env0 P w K mg base A outer s H) (a : AddOk base outer s H l)
    (h : CR L2.CX0 outer P w (addL H l) s Q' L2.E0 rr s') (hq : ∀ v H', TrL H' l → Q' v H' → Q v (dropL H' l)) : CR L2.CX0 outer P w H s Q L2.E0 rr s' := by
  cases rr with
  | error e => exact False.elim h
  | ok fl =>
    cases fl with
    | next => exact False.elim h
    | brk => exact False.elim h
    | cont => exact False.elim h
    | ret u =>
      obtain ⟨v, H', os, bare, un, hok, rv, q⟩ := (show CE outer P w (addL H l) s Q' u s' from h)
      have t : TrL H' l := fun b o z => un.frzs b o _ (addL_in z)
      have old : ∀ {b u}, H b = some u → l.lookup b = none ∧ addL H l b = some u := fun e => add_old a.no e
      refine ⟨v, dropL H' l, os, bare, ⟨fun b o e1 n hb hx => ?_, fun b o e1 n hb hx => ?_, fun b o e1 n hx => ?_, un.there, fun b xs e1 => ?_, fun b o u e1 => ?_, fun b ps e1 => ?_⟩, hok_drop hok t, rv, hq v H' t q⟩
      · rcases lk_cases l b with z | ⟨o', z⟩
        · exact un.keep b o e1 (by rw [addL_out z]; exact n) hb hx
        · have e2 := a.at_ b o' z
          rw [e1] at e2
          cases e2
          exact (hok b _ (t b o z)).1
      · rcases lk_cases l b with z | ⟨o', z⟩
        · exact un.slot b o e1 (by rw [addL_out z]; exact n) hb hx
        · exact absurd hb (a.nf b o' z)
      · rcases lk_cases l b with z | ⟨o', z⟩
        · rw [dropL_out z]; exact un.free b o e1 (by rw [addL_out z]; exact n) hx
        · exact dropL_in z
      · rw [dropL_out (old e1).1]; exact un.tups b xs (old e1).2
      · rw [dropL_out (old e1).1]; exact un.frzs b o u (old e1).2
      · obtain ⟨more, e2⟩ := un.tbls b ps (old e1).2
        exact ⟨more, by rw [dropL_out (old e1).1]; exact e2⟩
theorem r0_fwd {g : Gm} (no : ∀ b o, l.lookup b = some o → H b = none) (k : R0 g (addL H l) H') : R0 g H (dropL H' l) := by
  have t : TrL H' l := fun b o e => k.keep b _ (addL_in e) fun _ z => by cases z
  refine ⟨fun b o e n => ?_, fun b e => ?_, fun tb => tabs_of (fun b o e n => t.drop e fun o' z => n o' _ z) (k.tabs (tabs_of (fun b o e _ => (add_old no e).2) tb)), fun b ps e => ?_⟩
  · have q := add_old no e
    rw [dropL_out q.1]
    exact k.keep b o q.2 n
  · rcases lk_cases l b with z | ⟨o', z⟩
    · rw [dropL_out z] at e
      have q := k.free b e
      rw [addL_out z] at q
      exact q
    · exact no b o' z
  · have q := add_old no e
    obtain ⟨qs, e2⟩ := k.tb b ps q.2
    exact ⟨qs, by rw [dropL_out q.1]; exact e2⟩
theorem Is.dropL {g : Gm} {O : Addr → Prop} {d : D} {v : V} (t : TrL H' l) (i : Is g O H' d v) : Is g O (dropL H' l) d v := Is.kpS (fun b o e so _ => t.drop e (sol_fz so b)) d v i
theorem IsL.addL {g : Gm} {O : Addr → Prop} {ds : List D} {vs : List V} (no : ∀ b o, l.lookup b = some o → H b = none) (i : IsL g O H ds vs) : IsL g O (addL H l) ds vs := IsL.kpS (fun b o e so _ => (add_old no e).2) ds vs i
theorem Ent.addL {g : Gm} {r : Rl g} {O : Addr → Prop} (no : ∀ b o, l.lookup b = some o → H b = none) (st : Stb r) (E : Ent g r O H) : Ent g r O (addL H l) := by
  have d1 : ∀ b o, Sol o → H b = some o → Z.addL H l b = some o := fun b o _ e => (add_old no e).2
  have d2 : ∀ b o, Sol o → Z.addL H l b = some o → H b = some o := fun b o so e => by
    rcases lk_cases l b with z | ⟨o', z⟩
    · rw [addL_out z] at e; exact e
    · rw [addL_in z] at e
      exact absurd (Option.some.inj e).symm (sol_fz so b o')
  refine ⟨E.sub, fun b o z => ?_, fun b a => E.out b (st.A _ _ d1 d2 E.J b a), tabs_of (fun b o e _ => (add_old no e).2) E.tabs, st.J _ _ d1 d2 E.J⟩
  rcases lk_cases l b with q | ⟨o', q⟩
  · rw [addL_out q] at z; exact E.hid b o z
  · rw [addL_in q] at z; cases z
end
/-- a def whose code object's table is known -/
def FnT (K : PySem.W.Frag) (mg : Str → Option Value) (base : Heap) (T : List NTab) (x : Str) (st : Stmt) (nn : Str) : Prop :=
  ∃ (f : Addr) (oc : Value) (od : Option Addr) (kV doc pm : Value) (an : Option Addr) (c : Addr) (ct : Value) (osl : Array (Option Value)) (Pt : Addr) (nm : Nat → Nat → Str),
    K.lookup f = some ⟨oc, od, .func (PySem.W.fnOf x x (defArgs st) (defBody st) (defScope st) .none kV doc pm an (.ref c) ct), osl⟩ ∧ PySem.W.codeIn K (.ref c) x = true ∧ PySem.W.keepIn K (.ref f) = true ∧ mg x = some (.ref f) ∧
    TabB base mg c Pt ∧ (Pt, nm) ∈ T ∧ (∀ p ∈ T, p.1 = Pt → p.2 = nm) ∧ ∀ a b, nm a b = x ++ ".<locals>." ++ nn
structure Fy (K : PySem.W.Frag) (mg : Str → Option Value) (base : Heap) (T : List NTab) : Prop where
  t_raw_stretched : FnT K mg base T "raw_stretched" (topS 56) "<lambda>"
  t_rounds_done : FnT K mg base T "rounds_done" (topS 68) "numbers_behind"

def fnStr (dt : D) : List D → Option D := ar1 fun x => m_raw_value [dt, x]
def tStr (g : Gm) : TE := fun σ H Q => ∃ (O : Addr → Prop) (dt db dm d : D) (vt vb vm : V), Ent g (r0 g) O H ∧ σ[0]? = some (some vt) ∧ σ[1]? = some (some vb) ∧ σ[2]? = some (some vm) ∧ IsL g O H [dt, db, dm] [vt, vb, vm] ∧ noL dt = true ∧
  m_made_by (fnStr dt) [db, dm] = some d ∧ ∀ v H', R0 g H H' → Is g O H' d v → Q v H'
theorem pe_stretch {X : Cx} {g : Gm} {j : Nat} {nm : Nat → Nat → Str} {c Pt : Addr} {params : Arguments} {body : Expr} {scope : Scope} {lpos p p1 p2 pos : Pos}
    (cal : Cal X.prog X.w X.K X.mg X.base 14 "made_by" (spC X.prog X.w X.K X.mg X.base 12 g m_made_by)) (hr : Room j X.A) (hj : 14 ≤ j) (hg : Gl X "made_by") (hN0 : X.N[0]? = some ("table" : Str)) (hk0 : X.env.scope.names.lookup ("table" : Str) = some .cell) (hfn : X.fn "table" = true)
    (pa : PA X [.Name "bounds" p1, .Name "measures" p2] (tCons (tVar 1) (tCons (tVar 2) tNil))) (TB : TabB X.base X.mg c Pt) (hcode : X.env.code = .ref c) (hm : (Pt, nm) ∈ g.T) (hn : nm lpos.line lpos.col = X.env.qual ++ "<lambda>") (hu : ∀ p ∈ g.T, p.1 = Pt → p.2 = nm) (hdef : defaultsOf params X.env = ([], []))
    (hcl : ∀ cells : List (Str × Addr), cloFrom cells scope.names [] = [(("table" : Str), (cells.lookup ("table" : Str)).getD 0)]) (hfree : ∀ y ∈ scope.names, y.2 = .free → y.1 = ("table" : Str)) (S : NScope ["given", "table"] ["given"] ["table"] scope)
    (hbind : ∀ (cl : List (Str × Addr)) (pm cv ctv : Value) (us : List Value), us.length = ["given"].length → bindArgs (PySem.W.kla_fn "<lambda>" (X.env.qual ++ "<lambda>") params body scope cl pm cv ctv) ⟨us, []⟩ = pure ((["given"] : List Str).zip us))
    (hbody : ∀ (A : Around) (outer : List PySem.Env) (s : Shared) (H : Hp) (f : Addr) (cl : List (Str × Addr)) (c' : Addr), Room 11 (A.deeper (envF (NFl (X.env.qual ++ "<lambda>") params scope cl c') f s.heap.objs.size)) →
      ∃ te, PE (ncx L2.CX0 X.prog X.w X.K X.mg X.base ["given", "table"] (NFl (X.env.qual ++ "<lambda>") params scope cl c') f A outer s H L2.E0) body te ∧ ∀ (r : Rl g) (dt x : D), EvO g r te [some x, some dt] none (m_raw_value [dt, x]))
    (he : ∀ e : Expr, starEach [.Lambda params body scope lpos, .Name "bounds" p1, .Name "measures" p2] X.env = (false, eval (.Lambda params body scope lpos) X.env) :: starEach [.Name "bounds" p1, .Name "measures" p2] X.env := by intro _; rfl)
    (hpl : (backTo pos (starEach [.Name "bounds" p1, .Name "measures" p2] X.env)).any (·.1) = false := by rfl) :
    PE X (.Call (.Name "made_by" p) [.Lambda params body scope lpos, .Name "bounds" p1, .Name "measures" p2] [] pos) (tStr g) := by
  refine ⟨fun pins s σ H Q I h => ?_⟩
  obtain ⟨O, dt, db, dm, d, vt, vb, vm, en, s0, s1, s2, il, nl, ed, hQ⟩ := h
  obtain ⟨fm, fd, ps, F, hmg, hkp, hb⟩ := cal.ex
  have hfr : ∀ y ∈ scope.names, y.2 = .free → ∃ c, X.env.cells.lookup y.1 = some c := fun y hy e => by
    rw [hfree y hy e]
    exact I.ok.has _ (.inl hk0)
  refine wpAny_Call_Name_kw (ld_glob I hg hmg ?_)
  refine PySem.W.callWith_K (h₀ := X.base) I.ok.mod.kin hkp ?_ (he (.Name "x" pos)) hpl
  show wpAny _ _ (spliced ((false, eval (.Lambda params body scope lpos) X.env) :: backTo pos (starEach [.Name "bounds" p1, .Name "measures" p2] X.env))) _ _ s
  refine Calls.spliced_cons (lam_make3 I TB hcode hm hn hu en.tabs hdef hfr fun f c' H1 sL I1 md f0 f1 c1 => ?_)
  refine thn (pa.run pos pins sL σ H1 (fun vs H2 => vs = [vb, vm] ∧ H2 = H1) I1 ⟨vb, s1, vm, s2, rfl, rfl⟩) fun us s3 ⟨vs, H2, I2, rv, ev, eH⟩ => ?_
  subst ev
  rw [eH] at I2
  refine ⟨I2.kIn, ?_⟩
  show wpAny _ _ (call (.ref fm) (.ref f :: us)) _ _ _
  -- the cell
  obtain ⟨cell, hcell⟩ := I2.ok.has ("table" : Str) (.inl hk0)
  obtain ⟨m, hns, hl⟩ := I2.loc
  obtain ⟨ut, rt, lk⟩ := hl 0 _ vt hN0 s0 (.inr (.inl hk0))
  obtain ⟨o, ho, hd⟩ : s3.heap.IsCell cell (some ut) := by
    rcases lk with ⟨z, _⟩ | ⟨_, c2, e2, z⟩
    · have z' : X.env.scope.names.lookup ("table" : Str) = some .local := z
      rw [hk0] at z'
      cases z'
    · rw [hcell] at e2
      cases e2
      exact z
  have hcn : H1 cell = none := I2.freeC _ cell hcell
  have hlk : ∀ b o', ([(cell, o)] : List (Addr × Obj)).lookup b = some o' → b = cell ∧ o' = o := fun b o' e => by
    have e := lk_mem e
    simp only [List.mem_cons, Prod.mk.injEq, List.not_mem_nil, or_false] at e
    exact e
  have hlc : ([(cell, o)] : List (Addr × Obj)).lookup cell = some o := by simp [List.lookup]
  have nfr : cell ∉ frs X.stack := fun z => by
    rcases List.mem_cons.mp (I2.stkSub _ z) with e | e
    · exact I2.cne _ cell hcell e
    · have h1 := I2.ok.cab _ cell hfn hcell
      obtain ⟨_, o2, ho2, _⟩ := I2.ok.funs.mem e
      exact absurd (Nat.lt_of_lt_of_le (Heap.lt_size ho2) h1) (Nat.lt_irrefl _)
  have ao : AddOk X.base X.stack s3 H1 [(cell, o)] := by
    refine ⟨fun b o' e => ?_, fun b o' e => ?_, fun b o' e => ?_, fun b o' e => ?_⟩
    · obtain ⟨rfl, rfl⟩ := hlk b o' e; exact ho
    · obtain ⟨rfl, rfl⟩ := hlk b o' e; exact hcn
    · obtain ⟨rfl, rfl⟩ := hlk b o' e
      exact Heap.get?_none_of_le (Nat.le_trans I2.ok.bsz (I2.ok.cab _ _ hfn hcell))
    · obtain ⟨rfl, rfl⟩ := hlk b o' e; exact nfr
  have k01 : R0 g H H1 := md.r0
  have en1 : Ent g (r0 g) O H1 := ⟨en.sub, fun b ob z => en.hid b ob (md.free b z), fun _ z => z.elim, md.tabs, True.intro⟩
  have enc : Ent g (r0 g) O (addL H1 [(cell, o)]) := en1.addL ao.no stb0
  have il1 : IsL g O H1 [dt, db, dm] [vt, vb, vm] := IsL.kp ((R.of0 (r := r0 g) k01).kp fun _ z => z.elim) _ _ il
  have ilc : IsL g O (addL H1 [(cell, o)]) [dt, db, dm] [vt, vb, vm] := IsL.addL ao.no il1
  obtain ⟨v0, r0', e0', it, ilr⟩ := ilc
  cases e0'
  have enp : Ent g (rPlus (r0 g) (Left O (addL H1 [(cell, o)])) [dt] [vt]) O (addL H1 [(cell, o)]) := enc.plus (IsL.one it) (by unfold noLs noLs; rw [nl]; rfl)
  have cj : CloJ f c' (LmO f (X.env.qual ++ "<lambda>") params body scope (cloFrom X.env.cells scope.names []) c') (X.env.qual ++ "<lambda>") [(cell, o)] (fun _ => False) (addL H1 [(cell, o)]) :=
    ⟨(add_old ao.no f1).2, (add_old ao.no c1).2, trL_add, ⟨_, rfl⟩, fun z => z, fun z => z, fun _ _ _ z => z⟩
  have hclo : cloFrom X.env.cells scope.names [] = [(("table" : Str), cell)] := by rw [hcl, hcell]; rfl
  have cd : CelD (cloFrom X.env.cells scope.names []) ["table"] [vt] [(cell, o)] := by
    rw [hclo]
    have look : ∀ y a, ([(("table" : Str), cell)] : List (Str × Addr)).lookup y = some a → y = "table" ∧ a = cell := fun y a e => by
      have e := PySem.mem_of_lookup e
      simp only [List.mem_cons, Prod.mk.injEq, List.not_mem_nil, or_false] at e
      exact e
    refine ⟨rfl, fun y a e => ?_, fun x y a e1 e2 => (look x a e1).1.trans (look y a e2).1.symm, fun i y v e1 e2 => ?_⟩
    · obtain ⟨rfl, rfl⟩ := look y a e
      exact ⟨o, _, hlc, hd⟩
    · cases i with
      | zero =>
        cases e1
        cases e2
        exact ⟨cell, o, ut, by simp [List.lookup], hlc, rt, hd⟩
      | succ i => simp at e1
  have C : Clb X.prog X.w X.K X.mg X.base 12 g (rClo (rPlus (r0 g) (Left O (addL H1 [(cell, o)])) [dt] [vt]) f c' (LmO f (X.env.qual ++ "<lambda>") params body scope (cloFrom X.env.cells scope.names []) c') (X.env.qual ++ "<lambda>") [(cell, o)]) f (fnStr dt) := by
    refine clb_mk (stb_plus stb0) fnAt_lm cd (fun H O j h => plus_is j h) (lam_core (k := 11) S (fun pm cv ctv us hl => hbind _ pm cv ctv us hl) (fun ds d e => ?_) fun A outer s H hr => ?_)
    · match ds, e with
      | [_], _ => rfl
    · obtain ⟨te, h1, h2⟩ := hbody A outer s H f (cloFrom X.env.cells scope.names []) c' hr
      exact ⟨te, h1, fun ds => ev_ar1 (A := fun st => rho0 ["given", "table"] (st ++ [dt])) (fun x => h2 _ dt x) ds⟩
  have e0 := env0_add I2.env0 ao
  have rvs : Vals (.ref f :: [vb, vm]) (.ref f :: us) := .cons rfl rv
  have hlen : (V.ref f :: [vb, vm]).length = ps.length := F.len _ _ (fun v H' => True) L2.E0 ⟨_, f, fnStr dt, [db, dm], d, O, C, ⟨enp.sub, enp.hid, enp.out, enp.tabs, enp.J, cj⟩, ⟨_, _, rfl, rfl, ilr⟩, ed, fun _ _ _ _ => True.intro⟩
  have hbt := hb s3 (.ref f :: us) I2.kIn (by rw [List.append_nil, ← rvs.length]; exact hlen)
  rw [List.append_nil] at hbt
  have run := F.run X.A X.stack s3 (addL H1 [(cell, o)]) ⟨.ref f :: us, []⟩ (.ref f :: us) (.ref f :: [vb, vm]) (fun v H' => Q v (dropL H' [(cell, o)])) L2.E0 (hr.mono hj) e0 hbt rvs ⟨_, f, fnStr dt, [db, dm], d, O, C, ⟨enp.sub, enp.hid, enp.out, enp.tabs, enp.J, cj⟩, ⟨_, _, rfl, rfl, ilr⟩, ed, fun v H' kR iv => by
    have kz : R0 g (addL H1 [(cell, o)]) H' := R.zero (fun b z => z) kR
    have t : TrL H' [(cell, o)] := fun b o e => kz.keep b _ (addL_in e) fun _ z => by cases z
    exact hQ v _ (k01.trans (r0_fwd ao.no kz)) (Is.dropL t iv)⟩
  refine wpAny_call (codeAny_mono run fun rr s' hq => ?_)
  have hq2 := cr_fwd (Q := Q) I2.env0 ao hq fun v H' _ q => q
  cases rr with
  | error e => exact False.elim hq2
  | ok fl =>
    cases fl with
    | ret u => exact I2.after hq2
    | next => exact False.elim hq2
    | brk => exact False.elim hq2
    | cont => exact False.elim hq2
end Z

namespace Z
open PySem PySem.Spec PyProof.Rows L2 NdefX LamX
section
variable {P : Program} {w : World} {K : PySem.W.Frag} {mg : Str → Option Value} {base : Heap} {cl : Nat → Addr} {T : List NTab}
def b_raw_stretched (t b m : D) : Option D := ock (noL t) (m_made_by (fnStr t) [b, m])
def m_raw_stretched : List D → Option D := ar3 b_raw_stretched
abbrev s_raw_stretched : Stmt := topS 56
theorem sc_raw_stretched : FnScope ["table", "bounds", "measures"] ["table", "bounds", "measures"] (defScope s_raw_stretched) := ⟨rfl, rfl, rfl, by decide +kernel, rfl, by decide +kernel, by decide +kernel⟩
theorem rb_stretch {g : Gm} {t b m : D} : RdB g (r0 g) (tRet (tStr g)) [some t, some b, some m] none (b_raw_stretched t b m) := fun d e H0 O0 O σ H D E q => by
  obtain ⟨nl, e⟩ := ock_some e
  obtain ⟨vt, s0, i0⟩ := E.env.at_ 0 t rfl
  obtain ⟨vb, s1, i1⟩ := E.env.at_ 1 b rfl
  obtain ⟨vm, s2, i2⟩ := E.env.at_ 2 m rfl
  exact ⟨O, t, b, m, d, vt, vb, vm, E.env.ent, s0, s1, s2, ⟨vt, _, rfl, i0, vb, _, rfl, i1, vm, _, rfl, i2, rfl⟩, nl, e, fun v H' k i => q v H' (E.r.trans (R.of0 k)) ((E.go (R.of0 k)).ret i)⟩
theorem c_raw_stretched (M : Fx K mg cl T) (Y : Fy K mg base T) : Cal P w K mg base 15 "raw_stretched" (spD (gm K cl T) m_raw_stretched) := by
  obtain ⟨f, oc, od, kV, doc, pm, an, c, ct, osl, Pt, nm, lk, hcd, hkp, hm, TB, hT, hu, hnm⟩ := Y.t_raw_stretched
  refine ⟨f, PySem.W.fnOf "raw_stretched" "raw_stretched" (defArgs (topS 56)) (defBody (topS 56)) (defScope (topS 56)) .none kV doc pm an (.ref c) ct, ["table", "bounds", "measures"], ?_, hm, hkp, .all (fun us hl => match us, hl with | [_, _, _], _ => rfl)⟩
  refine fn_of (k := 14) (N := ["table", "bounds", "measures"]) lk hcd sc_raw_stretched (fun vs H Q E h => ?_) fun A outer s H vs Q E hr h => ?_
  · obtain ⟨ds, d, O, h1, h2, h3, h4, h5⟩ := h
    rw [← h3.length]
    match ds, h4 with
    | [_, _, _], _ => rfl
  · obtain ⟨ds, d, O, h1, h2, h3, h4, h5⟩ := h
    refine ⟨tRet (tStr (gm K cl T)), PSs.nox (pss_one (ps_ret (pe_stretch (nm := nm) (j := 14) (c_made_by M) hr (by decide) rfl rfl rfl rfl (pa_cons (pv 1) (pa_cons (pv 2) pa_nil)) TB rfl hT (hnm _ _) hu rfl (fun _ => rfl) ?hfree (nscope_by (by decide +kernel)) (fun _ _ _ _ us hl => match us, hl with | [_], _ => rfl)
      (fun A outer s H f cl c' hr => ⟨_, pe_cl (c_raw_value M) hr (by decide) rfl (pa_cons (pv 1) (pa_cons (pv 0) pa_nil)), fun r dt x => ?rd⟩)))), ?_⟩
    case hfree =>
      decide +kernel
    case rd =>
      exact ev_call (ms := lCons (some dt) (lCons (some x) (some []))) (ea_cons (ev_var rfl) (ea_cons (ev_var rfl) ea_nil))
    exact rb_ar3 (A := fun st => rho0 ["table", "bounds", "measures"] st) (B := fun _ => none) (fun t b m => rb_stretch) ds d h4 H O O _ H _ ⟨entryE h1 h2 h3, R.refl, fun _ h => h, fun i c b z => by cases z⟩ fun v H' k i => h5 v H' k.to0 i
end
end Z

namespace Z
open PySem PySem.Spec PyProof.Rows L2 NdefX LamX
section
variable {P : Program} {w : World} {K : PySem.W.Frag} {mg : Str → Option Value} {base : Heap} {cl : Nat → Addr} {T : List NTab}
def b_raw_least (table262 : D) : Option D := ob (ob (ob (ob (lCons (ob (some table262) (dfld 1 ("bounds" : Str))) (some [])) (d1 dlen)) drange1) (lcO un1 1 (ar1 fun k264 => ob (lCons (some table262) (lCons (some k264) (some []))) m_least_of))) fun pairs263 => ob (ob (lCons (ob (ob (some pairs263) ditems) (lcO un1 1 (ar1 fun pair266 => o2 dixS (some pair266) (some (.int 0))))) (some [])) (d1 dtupS)) fun bounds265 => ob (ob (lCons (ob (ob (some pairs263) ditems) (lcO un1 1 (ar1 fun pair268 => o2 dixS (some pair268) (some (.int 1))))) (some [])) (d1 dtupS)) fun measures267 => oif (dtest (o2 deqD (ob (lCons (some bounds265) (lCons (some measures267) (some []))) dtupD) (ob (lCons (ob (some table262) (dfld 1 ("bounds" : Str))) (lCons (ob (some table262) (dfld 1 ("measures" : Str))) (some []))) dtupD))) (some table262) (ob (lCons (some table262) (lCons (some bounds265) (lCons (some measures267) (some [])))) m_raw_stretched)
def m_raw_least : List D → Option D := ar1 b_raw_least

abbrev s_raw_least : Stmt := topS 62
theorem sc_raw_least : FnScope ["table", "pairs", "bounds", "measures", "k", "pair"] ["table"] (defScope s_raw_least) := ⟨rfl, rfl, rfl, by decide +kernel, rfl, by decide +kernel, by decide +kernel⟩

theorem c_raw_least (M : Fx K mg cl T) (Y : Fy K mg base T) : Cal P w K mg base 16 "raw_least" (spD (gm K cl T) m_raw_least) := by
  obtain ⟨f, fd, F, hm⟩ := M.f_raw_least
  refine cal1 F hm sc_raw_least rfl (fun _ _ _ _ _ _ us hl => match us, hl with | [_], _ => rfl) fun cdv A outer s H E hr => ⟨_, (pss_cons (ps_setLc (i := 1) (own := [("k", 4)]) rfl sc_raw_least.nd rfl rfl (sw_true rfl rfl rfl (by decide +kernel)) (pi_range1 rfl M.n_range (pa_cons (pe_callB call_lenS (by rfl) M.n_len (by decide +kernel) (pa_cons (pe_fld (pv 0) rfl) pa_nil)) pa_nil)) (blkOk_by (by kernel_rfl)) (fun _ _ _ _ _ => (pg_name (i := 4) sc_raw_least.nd rfl (.inl rfl))) (fun _ _ _ _ _ => pts_nil) (fun _ _ _ _ _ => (pe_cl (c_least_of M) hr (by decide) rfl (pa_cons (pv 0) (pa_cons (pv 4) pa_nil))))) (pss_cons (ps_set (i := 2) sc_raw_least.nd rfl (.inl rfl) (pe_callTy call_tuple' (by rfl) M.n_tuple (by decide +kernel) (pa_cons (pe_lc (own := [("pair", 5)]) rfl sc_raw_least.nd (pi_seq (pv 1)) (blkOk_by (by kernel_rfl)) (fun _ _ _ _ _ => (pg_name (i := 5) sc_raw_least.nd rfl (.inl rfl))) (fun _ _ _ _ _ => pts_nil) (fun _ _ _ _ _ => (pe_ix ix_seq (pv 5) pe_int (fun _ _ => rfl)))) pa_nil))) (pss_cons (ps_set (i := 3) sc_raw_least.nd rfl (.inl rfl) (pe_callTy call_tuple' (by rfl) M.n_tuple (by decide +kernel) (pa_cons (pe_lc (own := [("pair", 5)]) rfl sc_raw_least.nd (pi_seq (pv 1)) (blkOk_by (by kernel_rfl)) (fun _ _ _ _ _ => (pg_name (i := 5) sc_raw_least.nd rfl (.inl rfl))) (fun _ _ _ _ _ => pts_nil) (fun _ _ _ _ _ => (pe_ix ix_seq (pv 5) pe_int (fun _ _ => rfl)))) pa_nil))) (pss_cons (ps_if (pt_cmpR (op_eqA hr.units) (pe_tup (pa_cons (pv 2) (pa_cons (pv 3) pa_nil))) (pe_tup (pa_cons (pe_fld (pv 0) rfl) (pa_cons (pe_fld (pv 0) rfl) pa_nil))) (nomark _)) (pss_one (ps_ret (pv 0))) pss_nil) (pss_one (ps_ret (pe_cl (c_raw_stretched M Y) hr (by decide) rfl (pa_cons (pv 0) (pa_cons (pv 2) (pa_cons (pv 3) pa_nil)))))))))), fun table262 => (atB [some table262, none, none, none, none, none] (rb_seq (rn_set (ev_lc (it_range1 (ev_cb rc_len (ea_cons (ev_fld M.k_bounds (ev_var rfl)) ea_nil))) tg_name (by decide) hvN (ev_ar1 fun k264 => (atE [some table262, none, none, none, some k264, none] (ev_call (ea_cons (ev_var rfl) (ea_cons (ev_var rfl) ea_nil)))))) h1N) fun pairs263 => (atB [some table262, some pairs263, none, none, none, none] (rb_seq (rn_set (ev_cb rc_tuple (ea_cons (ev_lc (it_seq (ev_var rfl)) tg_name (by decide) hvN (ev_ar1 fun pair266 => (atE [some table262, some pairs263, none, none, none, some pair266] (ev_ix (ev_var rfl) ev_int)))) ea_nil)) h1N) fun bounds265 => (atB [some table262, some pairs263, some bounds265, none, none, none] (rb_seq (rn_set (ev_cb rc_tuple (ea_cons (ev_lc (it_seq (ev_var rfl)) tg_name (by decide) hvN (ev_ar1 fun pair268 => (atE [some table262, some pairs263, some bounds265, none, none, some pair268] (ev_ix (ev_var rfl) ev_int)))) ea_nil)) h1N) fun measures267 => (atB [some table262, some pairs263, some bounds265, some measures267, none, none] (rb_ifseq (et_T (ev_op rv_eq (ev_tup (ea_cons (ev_var rfl) (ea_cons (ev_var rfl) ea_nil))) (ev_tup (ea_cons (ev_fld M.k_bounds (ev_var rfl)) (ea_cons (ev_fld M.k_measures (ev_var rfl)) ea_nil))))) (atB [some table262, some pairs263, some bounds265, some measures267, none, none] (rb_ret (ev_var rfl))) (atB [some table262, some pairs263, some bounds265, some measures267, none, none] (rb_ret (ev_call (ea_cons (ev_var rfl) (ea_cons (ev_var rfl) (ea_cons (ev_var rfl) ea_nil))))))))))))))⟩

def b_with_results (table269 lot270 : D) : Option D := ob (ob (lCons (ob (ob (ob (some table269) (dfld 1 ("rows" : Str))) ditems) (lcO un1 1 (ar1 fun row272 => ob (lCons (ob (ob (some lot270) ditems) (lcO un1 1 (ar1 fun at273 => o2 dixS (some row272) (some at273)))) (some [])) (d1 dtupS)))) (some [])) (d1 dtupS)) fun rows271 => ob (lCons (ob (lCons (ob (some table269) (dfld 1 ("bounds" : Str))) (lCons (ob (some table269) (dfld 1 ("measures" : Str))) (lCons (some rows271) (some [])))) mkRawTable) (some [])) m_raw_least
def m_with_results : List D → Option D := ar2 b_with_results

abbrev s_with_results : Stmt := topS 71
theorem sc_with_results : FnScope ["table", "lot", "rows", "row", "at"] ["table", "lot"] (defScope s_with_results) := ⟨rfl, rfl, rfl, by decide +kernel, rfl, by decide +kernel, by decide +kernel⟩

theorem c_with_results (M : Fx K mg cl T) (Y : Fy K mg base T) : Cal P w K mg base 17 "with_results" (spD (gm K cl T) m_with_results) := by
  obtain ⟨f, fd, F, hm⟩ := M.f_with_results
  refine cal2 F hm sc_with_results rfl (fun _ _ _ _ _ _ us hl => match us, hl with | [_, _], _ => rfl) fun cdv A outer s H E hr => ⟨_, (pss_cons (ps_set (i := 2) sc_with_results.nd rfl (.inl rfl) (pe_callTy call_tuple' (by rfl) M.n_tuple (by decide +kernel) (pa_cons (pe_lc (own := [("row", 3)]) rfl sc_with_results.nd (pi_seq (pe_fld (pv 0) rfl)) (blkOk_by (by kernel_rfl)) (fun _ _ _ _ _ => (pg_name (i := 3) sc_with_results.nd rfl (.inr rfl))) (fun _ _ _ _ _ => pts_nil) (fun _ _ _ _ _ => (pe_callTy call_tuple' (by rfl) M.n_tuple (by decide +kernel) (pa_cons (pe_lc (own := [("at", 4)]) rfl sc_with_results.nd (pi_seq (pv 1)) (blkOk_by (by kernel_rfl)) (fun _ _ _ _ _ => (pg_name (i := 4) sc_with_results.nd rfl (.inl rfl))) (fun _ _ _ _ _ => pts_nil) (fun _ _ _ _ _ => (pe_ix ix_seq (pv 3) (pv 4) (fun _ _ => rfl)))) pa_nil)))) pa_nil))) (pss_one (ps_ret (pe_cl (c_raw_least M Y) hr (by decide) rfl (pa_cons (pe_mkRawTable rfl rfl M hr (by decide) rfl (pa_cons (pe_fld (pv 0) rfl) (pa_cons (pe_fld (pv 0) rfl) (pa_cons (pv 2) pa_nil)))) pa_nil))))), fun table269 lot270 => (atB [some table269, some lot270, none, none, none] (rb_seq (rn_set (ev_cb rc_tuple (ea_cons (ev_lc (it_seq (ev_fld M.k_rows (ev_var rfl))) tg_name (by decide) hvN (ev_ar1 fun row272 => (atE [some table269, some lot270, none, some row272, none] (ev_cb rc_tuple (ea_cons (ev_lc (it_seq (ev_var rfl)) tg_name (by decide) hvN (ev_ar1 fun at273 => (atE [some table269, some lot270, none, some row272, some at273] (ev_ix (ev_var rfl) (ev_var rfl))))) ea_nil))))) ea_nil)) h1N) fun rows271 => (atB [some table269, some lot270, some rows271, none, none] (rb_ret (ev_call (ea_cons (ev_mkRawTable (ea_cons (ev_fld M.k_bounds (ev_var rfl)) (ea_cons (ev_fld M.k_measures (ev_var rfl)) (ea_cons (ev_var rfl) ea_nil)))) ea_nil))))))⟩

end
end Z

namespace Z
open PySem PySem.Spec PyProof.Rows L2 NdefX LamX
section
variable {α : Type}
theorem cellsFrom_cases : ∀ (names : List (Str × NameKind)) (h : Heap) (acc : List (Str × Addr)) (n : Str) (c : Addr), (cellsFrom h.objs.size names acc).lookup n = some c →
    acc.lookup n = some c ∨ ((pushCells h names).IsCell c none ∧ h.objs.size ≤ c)
  | [], _, _, _, _, e => .inl e
  | (name, kind) :: r, h, acc, n, c, e => by
    unfold cellsFrom at e
    unfold pushCells
    split at e
    · rename_i hk
      rw [if_pos hk]
      have e' : (cellsFrom (h.push { cls := .type "cell", data := .cell none }).objs.size r ((name, h.objs.size) :: acc)).lookup n = some c := by rw [Heap.size_push]; exact e
      rcases cellsFrom_cases r _ _ n c e' with z | ⟨z, y⟩
      · rw [List.lookup_cons] at z
        split at z
        · cases z
          exact .inr ⟨⟨_, pushCells_keeps r _ _ _ (Heap.get?_push_size _ rfl), rfl⟩, Nat.le_refl _⟩
        · exact .inl z
      · rw [Heap.size_push] at y
        exact .inr ⟨z, by omega⟩
    · rename_i hk
      rw [if_neg hk]
      exact cellsFrom_cases r h acc n c e
theorem cellsFrom_inj : ∀ (names : List (Str × NameKind)) (k : Nat) (acc : List (Str × Addr)), (∀ x y c, acc.lookup x = some c → acc.lookup y = some c → x = y) → (∀ x c, acc.lookup x = some c → c < k) →
    ∀ x y c, (cellsFrom k names acc).lookup x = some c → (cellsFrom k names acc).lookup y = some c → x = y
  | [], _, _, h, _ => h
  | (name, kind) :: r, k, acc, h, lt => by
    unfold cellsFrom
    split
    · have key : ∀ x c, ((name, k) :: acc).lookup x = some c → (x = name ∧ c = k) ∨ acc.lookup x = some c := fun x c e => by
        rw [List.lookup_cons] at e
        split at e
        · rename_i hb
          cases e
          exact .inl ⟨eq_of_beq hb, rfl⟩
        · exact .inr e
      refine cellsFrom_inj r (k + 1) _ (fun x y c e1 e2 => ?_) fun x c e => ?_
      · rcases key x c e1 with ⟨rfl, rfl⟩ | z
        · rcases key y c e2 with ⟨rfl, _⟩ | z2
          · rfl
          · exact absurd (lt y _ z2) (Nat.lt_irrefl _)
        · rcases key y c e2 with ⟨rfl, rfl⟩ | z2
          · exact absurd (lt x _ z) (Nat.lt_irrefl _)
          · exact h x y c z z2
      · rcases key x c e with ⟨_, rfl⟩ | z
        · exact Nat.lt_succ_self _
        · exact Nat.lt_succ_of_lt (lt x c z)
    · exact cellsFrom_inj r k acc h lt
theorem cellsFrom_keep : ∀ (names : List (Str × NameKind)) (k : Nat) (acc : List (Str × Addr)) (n : Str), (∀ y ∈ names, y.2 = .cell → y.1 ≠ n) → (cellsFrom k names acc).lookup n = acc.lookup n
  | [], _, _, _, _ => rfl
  | (name, kind) :: r, k, acc, n, h => by
    unfold cellsFrom
    split
    · rename_i hk
      rw [cellsFrom_keep r (k + 1) _ n fun y hy => h y (List.mem_cons_of_mem _ hy), List.lookup_cons]
      have hne : name ≠ n := h (name, kind) List.mem_cons_self (by simpa using hk)
      have hb : (n == name) = false := beq_eq_false_iff_ne.mpr (Ne.symm hne)
      rw [hb]
    · exact cellsFrom_keep r k acc n fun y hy => h y (List.mem_cons_of_mem _ hy)
theorem cellsFrom_new : ∀ (names : List (Str × NameKind)) (k : Nat) (acc : List (Str × Addr)) (n : Str) (c : Addr), (n, NameKind.cell) ∈ names ∨ (∀ c, acc.lookup n = some c → k ≤ c) → (cellsFrom k names acc).lookup n = some c → k ≤ c
  | [], _, _, _, _, h, e => h.elim (fun z => by cases z) fun z => z _ e
  | (name, kind) :: r, k, acc, n, c, h, e => by
    unfold cellsFrom at e
    split at e
    · rename_i hk
      by_cases hn : n = name
      · have q : k ≤ c := by
          by_cases hm : (n, NameKind.cell) ∈ r
          · exact Nat.le_of_succ_le (cellsFrom_new r (k + 1) _ n c (.inl hm) e)
          · rw [cellsFrom_keep r (k + 1) _ n (fun y hy z1 z2 => hm (by rw [← z2, ← z1]; exact hy)), List.lookup_cons] at e
            have hb : (n == name) = true := by rw [hn]; exact beq_self_eq_true _
            rw [hb] at e
            cases e
            exact Nat.le_refl _
        exact q
      · have q : (n, NameKind.cell) ∈ r ∨ ∀ c, acc.lookup n = some c → k ≤ c := by
          rcases h with h | h
          · rcases List.mem_cons.mp h with z | z
            · cases z; exact absurd rfl hn
            · exact .inl z
          · exact .inr h
        by_cases hm : (n, NameKind.cell) ∈ r
        · exact Nat.le_of_succ_le (cellsFrom_new r (k + 1) _ n c (.inl hm) e)
        · rw [cellsFrom_keep r (k + 1) _ n (fun y hy z1 z2 => hm (by rw [← z2, ← z1]; exact hy)), List.lookup_cons] at e
          have hb : (n == name) = false := beq_eq_false_iff_ne.mpr hn
          rw [hb] at e
          exact q.elim (fun z => absurd z hm) fun z => z _ e
    · rename_i hk
      refine cellsFrom_new r k acc n c (h.imp (fun z => ?_) id) e
      rcases List.mem_cons.mp z with y | y
      · cases y
        exact absurd rfl hk
      · exact y
end
section
variable {M : Model} {A : Around} {E : Value → Shared → Prop} {s : Shared}
theorem new_env_both {scope : Scope} {globals : Addr} {closure : List (Str × Addr)} {binds : List (Str × Value)} {qual : Str} {func : Option Addr} {code : Value} {builtins : Addr} {Q : PySem.Env → Shared → Prop}
    (hl : ∀ x ∈ binds, scope.names.lookup x.1 = some .local)
    (hQ : ∀ h', h'.Ns s.heap.objs.size (fun x => binds.reverse.lookup x) → (∀ b o, s.heap.get? b = some o → h'.get? b = some o) →
      (∀ n c, (cellsFrom (s.heap.objs.size + 1) scope.names closure).lookup n = some c → closure.lookup n = some c ∨ (h'.IsCell c none ∧ s.heap.objs.size < c)) →
      Q (newEnv scope s.heap.objs.size globals (cellsFrom (s.heap.objs.size + 1) scope.names closure) qual func code none builtins) { s with heap := h', toks := s.toks + binds.length })
    (hk : scope.kind = .function) : wpAny M A (newFunctionEnv scope globals closure binds qual func code none builtins) Q E s := by
  simp only [newFunctionEnv, Option.isSome_none, Bool.false_eq_true, if_false]
  simp only [newEnv] at hQ
  refine wpAny_bind (wpAny_alloc ?_)
  refine wpAny_bind (wpAny_layCells _ (fun name kind cells => by cases hkc : kind == NameKind.cell <;> simp [hkc]) _ _ _ _ ?_)
  rw [show ({ s with heap := s.heap.push { cls := .type "frame", data := .dict #[] } } : Shared).heap.objs.size = s.heap.objs.size + 1 from Heap.size_push ..]
  generalize hcs : cellsFrom (s.heap.objs.size + 1) scope.names closure = cs at hQ
  have hcells : ∀ n c, cs.lookup n = some c → closure.lookup n = some c ∨ ((pushCells (s.heap.push { cls := .type "frame", data := .dict #[] }) scope.names).IsCell c none ∧ s.heap.objs.size < c) := fun n c e => by
    rw [← hcs] at e
    have e' : (cellsFrom (s.heap.push { cls := .type "frame", data := .dict #[] }).objs.size scope.names closure).lookup n = some c := by rw [Heap.size_push]; exact e
    rcases cellsFrom_cases _ _ _ n c e' with z | ⟨z, y⟩
    · exact .inl z
    · rw [Heap.size_push] at y
      exact .inr ⟨z, y⟩
  have ns0 : (pushCells (s.heap.push { cls := .type "frame", data := .dict #[] }) scope.names).Ns s.heap.objs.size (fun x => ([] : List (Str × Value)).reverse.lookup x) := (Heap.Ns.new s.heap (.type "frame")).keeps (pushCells_keeps _ _)
  have kp0 : ∀ b o, s.heap.get? b = some o → (pushCells (s.heap.push { cls := .type "frame", data := .dict #[] }) scope.names).get? b = some o := fun b o e => pushCells_keeps _ _ b o (Heap.get?_push_of_some _ e)
  refine wpAny_bind (wpAny_forIn_list _
    (fun rest _ s' => ∃ done h', binds = done ++ rest ∧ s' = { s with heap := h', toks := s.toks + done.length } ∧ h'.Ns s.heap.objs.size (fun x => done.reverse.lookup x) ∧
      Heap.SameBut s.heap.objs.size (pushCells (s.heap.push { cls := .type "frame", data := .dict #[] }) scope.names) h') _ ?_ ?_ binds _ ⟨[], _, rfl, rfl, ns0, Heap.SameBut.refl ..⟩)
  · rintro ⟨name, v⟩ rest _ s' ⟨done, h', hb, rfl, hns, hsb⟩
    have hk' : PySem.Env.kindOf { scope, locals := s.heap.objs.size, globals, cells := cs, qual, func, code, frame := some s.heap.objs.size, builtins } name = some .local := hl (name, v) (by rw [hb]; simp)
    have hp : (({ scope, locals := s.heap.objs.size, globals, cells := cs, qual, func, code, frame := some s.heap.objs.size, builtins } : PySem.Env).scope.kind == .class || (({ scope, locals := s.heap.objs.size, globals, cells := cs, qual, func, code, frame := some s.heap.objs.size, builtins } : PySem.Env).scope.kind == .module &&
        ({ scope, locals := s.heap.objs.size, globals, cells := cs, qual, func, code, frame := some s.heap.objs.size, builtins } : PySem.Env).locals != ({ scope, locals := s.heap.objs.size, globals, cells := cs, qual, func, code, frame := some s.heap.objs.size, builtins } : PySem.Env).globals)) = false := by
      show (scope.kind == .class || (scope.kind == .module && _)) = false
      rw [hk]; rfl
    simp only [storeName_local hk' hp]
    refine wpAny_bind (wpAny_nsSet hns fun h'' hns' hsb' => wpAny_pure ⟨done ++ [(name, v)], h'', by simp [hb], ?_, ?_, hsb.trans hsb'⟩)
    · simp [Nat.add_assoc]
    · rw [lookup_reverse_snoc]; exact hns'
  · rintro _ s' ⟨done, h', hb, rfl, hns, hsb⟩
    rw [List.append_nil] at hb; subst hb
    refine wpAny_pure (hQ h' hns (fun b o e => hsb.extBut b o (Nat.ne_of_lt (Heap.lt_size e)) (kp0 b o e)) fun n c e => ?_)
    rcases hcells n c e with z | ⟨z, y⟩
    · exact .inl z
    · exact .inr ⟨z.sameBut hsb (Nat.ne_of_gt y), y⟩
end
/-- as NScope; cells of its own too -/
structure NScB (N ps fr : List Str) (sc : Scope) : Prop where
  kind : sc.kind = .function
  co : sc.isCoroutine = false
  gen : sc.isGenerator = false
  nd : N.Nodup
  pre : N.take (ps.length + fr.length) = ps ++ fr
  par : ∀ x ∈ ps, sc.names.lookup x = some .local
  free : ∀ y ∈ sc.names, y.2 = .free → y.1 ∈ fr
  frk : ∀ x ∈ fr, sc.names.lookup x = some .free
  frc : ∀ x ∈ fr, ∀ y ∈ sc.names, y.2 = .cell → y.1 ≠ x
def nscbB (N ps fr : List Str) (sc : Scope) : Bool :=
  decide (sc.kind = .function) && !sc.isCoroutine && !sc.isGenerator && decide N.Nodup && decide (N.take (ps.length + fr.length) = ps ++ fr) && ps.all (fun x => decide (sc.names.lookup x = some .local)) && sc.names.all (fun y => !decide (y.2 = .free) || decide (y.1 ∈ fr)) && fr.all (fun x => decide (sc.names.lookup x = some .free)) &&
  fr.all (fun x => sc.names.all fun y => !decide (y.2 = .cell) || !decide (y.1 = x))
theorem nscb_by {N ps fr : List Str} {sc : Scope} (h : nscbB N ps fr sc = true) : NScB N ps fr sc := by
  unfold nscbB at h
  simp only [Bool.and_eq_true, Bool.not_eq_true', decide_eq_true_eq, List.all_eq_true, Bool.or_eq_true, decide_eq_false_iff_not] at h
  obtain ⟨⟨⟨⟨⟨⟨⟨⟨h1, h2⟩, h3⟩, h4⟩, h5⟩, h6⟩, h7⟩, h8⟩, h9⟩ := h
  exact ⟨h1, h2, h3, h4, h5, h6, fun y hy e => (h7 y hy).elim (fun z => absurd e z) id, h8, fun x hx y hy e => (h9 x hx y hy).elim (fun z => absurd e z) id⟩
abbrev envB (F : NF) (f L : Addr) : PySem.Env := PySem.W.envX F.qual F.scope L f (.ref F.c) (cellsFrom (L + 1) F.scope.names F.cl)
def ncxB (CX : CXT) (P : Program) (w : World) (K : PySem.W.Frag) (mg : Str → Option Value) (base : Heap) (N : List Str) (F : NF) (f : Addr) (A : Around) (outer : List PySem.Env) (s : Shared) (H : Hp) (E : XK) : Cx where
  prog := P
  w := w
  K := K
  mg := mg
  base := base
  A := A.deeper (envB F f s.heap.objs.size)
  N := N
  s_0 := s
  H_0 := H
  env := envB F f s.heap.objs.size
  outer := outer
  stack := envB F f s.heap.objs.size :: outer
  ex := []
  calm := true
  fn := fun x => decide (F.scope.names.lookup x = some .cell)
  pn := []
  xe := fun e s' => wpAny (model P w) (A.deeper (envB F f s.heap.objs.size)) (leaving (envB F f s.heap.objs.size) e) (fun _ s'' => CX outer H s E e s'') (fun e' s'' => CX outer H s E e' s'') s'
section
variable {CX : CXT} {P : Program} {w : World} {K : PySem.W.Frag} {mg : Str → Option Value} {base : Heap} {N ps fr : List Str} {F : NF} {f : Addr} {A : Around} {outer : List PySem.Env} {s : Shared} {H : Hp} {E : XK} {us : List Value} {vs : List V} {ws : List (Option V)}
theorem inv_startB {h₁ : Heap} {tk : Nat} (S : NScB N ps fr F.scope) (hd : A.handled = none) (e0 : Env0 P w K mg base A outer s H) (hl : vs.length = ps.length) (r : Vals vs us) (C : CellsAt F.cl fr ws s.heap H) (hns : h₁.Ns s.heap.objs.size fun y => (ps.zip us).reverse.lookup y)
    (kp : ∀ b o, s.heap.get? b = some o → h₁.get? b = some o) (hce : ∀ n c, (cellsFrom (s.heap.objs.size + 1) F.scope.names F.cl).lookup n = some c → F.cl.lookup n = some c ∨ (h₁.IsCell c none ∧ s.heap.objs.size < c)) :
    Inv (ncxB CX P w K mg base N F f A outer s H E) [] (startF N vs ws) H { s with heap := h₁, toks := tk } := by
  have hpl : ps.length + fr.length ≤ N.length := by
    have q := congrArg List.length S.pre
    rw [List.length_take, List.length_append] at q
    omega
  have noA : ∀ b : Addr, b ∉ (ncxB CX P w K mg base N F f A outer s H E).ex := fun b z => absurd (show b ∈ ([] : List Addr) from z) (by simp)
  have cellK : ∀ {c : Addr} {v : Option Value}, s.heap.IsCell c v → h₁.IsCell c v := fun {c v} ⟨o, ho, hd⟩ => ⟨o, kp _ _ ho, hd⟩
  have clt : ∀ x c, F.cl.lookup x = some c → c < s.heap.objs.size + 1 := fun x c e => by
    obtain ⟨v, z⟩ := (C.all x c e).2
    exact Nat.lt_succ_of_lt z.lt
  have isfree : ∀ y, (cellsFrom (s.heap.objs.size + 1) F.scope.names F.cl).lookup y = F.cl.lookup y ∨ (y, NameKind.cell) ∈ F.scope.names := fun y => by
    by_cases hm : (y, NameKind.cell) ∈ F.scope.names
    · exact .inr hm
    · exact .inl (cellsFrom_keep _ _ _ y fun z hz e1 e2 => hm (by rw [← e2, ← e1]; exact hz))
  refine ⟨⟨e0.mod, S.kind, rfl, rfl, Nat.le_refl _, cellsFrom_inj _ _ _ C.inj clt, fun y hy => ?_, fun y c z e => ?_, fun _ => hd, Around.frames_deeper e0.frames, .inr ⟨rfl, rfl⟩, fun b z => absurd z (noA b), e0.bs, e0.bsz, fun b _ _ => noA b,
      fun b z => absurd z (noA b), e0.funs, e0.frf⟩,
    rfl, e0.bare, Un.kept kp, ⟨_, hns, fun i y v e1 e2 e3 => ?_⟩, fun y c e => ?_, e0.hok.fresh (Nat.le_refl _), fun y c e => ?_, fun q hq => absurd (show q ∈ ([] : List (Addr × Obj)) ++ [] from hq) (by simp), e0.hok.kept kp, ?_⟩
  · have hy : F.scope.names.lookup y = some .cell ∨ F.scope.names.lookup y = some .free := hy
    rcases hy with hy | hy
    · exact Option.isSome_iff_exists.mp (PySem.W.cellsFrom_some _ _ _ (.inl hy))
    · obtain ⟨i, hi⟩ := List.mem_iff_getElem?.mp (S.free _ (PySem.mem_of_lookup hy) rfl)
      obtain ⟨c, hc, _⟩ := C.has i y hi
      exact Option.isSome_iff_exists.mp (PySem.W.cellsFrom_some _ _ _ (.inr (by rw [hc]; rfl)))
  · have z : decide (F.scope.names.lookup y = some .cell) = true := z
    have hm := PySem.mem_of_lookup (of_decide_eq_true z)
    exact Nat.le_of_succ_le (cellsFrom_new F.scope.names (s.heap.objs.size + 1) F.cl y c (.inl hm) e)
  · have e1 : N[i]? = some y := e1
    have clen := C.len
    unfold startF at e2
    by_cases h1 : i < ps.length
    · have hq : (ps ++ fr)[i]? = some y := by
        rw [← S.pre, List.getElem?_take_of_lt (by omega)]
        exact e1
      rw [List.getElem?_append_left h1] at hq
      rw [List.getElem?_append_left (by rw [List.length_map]; omega), List.getElem?_map] at e2
      have ha : vs[i]? = some v := by
        cases e : vs[i]? with
        | none => rw [e] at e2; cases e2
        | some a => rw [e] at e2; cases e2; rfl
      obtain ⟨u, hu, rv⟩ := r.get ha
      have ndP : ps.Nodup := by
        have q := S.nd.sublist (List.take_sublist (ps.length + fr.length) N)
        rw [S.pre] at q
        exact (List.nodup_append.mp q).1
      exact ⟨u, rv, .inl ⟨S.par y (List.mem_of_getElem? hq), zip_look ndP hq hu⟩⟩
    · rw [List.getElem?_append_right (by rw [List.length_map]; omega), List.length_map] at e2
      by_cases h2 : i < ps.length + fr.length
      · have hq : (ps ++ fr)[i]? = some y := by
          rw [← S.pre, List.getElem?_take_of_lt (by omega)]
          exact e1
        rw [List.getElem?_append_right (by omega)] at hq
        rw [List.getElem?_append_left (by omega), hl] at e2
        obtain ⟨c, hc, hv⟩ := C.has (i - ps.length) y hq
        obtain ⟨u, ru, hu⟩ := hv v e2
        have hmem := List.mem_of_getElem? hq
        refine ⟨u, ru, .inr ⟨.inr (S.frk y hmem), c, ?_, cellK hu⟩⟩
        show (cellsFrom (s.heap.objs.size + 1) F.scope.names F.cl).lookup y = some c
        rw [cellsFrom_keep _ _ _ y (S.frc y hmem)]
        exact hc
      · rw [List.getElem?_append_right (by omega), List.getElem?_replicate] at e2
        split at e2 <;> cases e2
  · rcases hce y c e with z | ⟨z, _⟩
    · obtain ⟨v, q⟩ := (C.all y c z).2
      exact ⟨v, cellK q⟩
    · exact ⟨_, z⟩
  · rcases hce y c e with z | ⟨_, z⟩
    · exact (C.all y c z).1
    · exact e0.hok.fresh (Nat.le_of_lt z)
  · have clen := C.len
    unfold startF
    show _ = N.length
    rw [List.length_append, List.length_append, List.length_map, List.length_replicate]
    omega
end
theorem fnAt_fn {P : Program} {w : World} {f : Addr} {F : NF} : ∀ H h, HOk P w H h → H f = some (FnO f F) → PySem.W.FnAt f h := fun H h hok e => by
  obtain ⟨od, sl, doc, pm, ctv, ho⟩ := fnO_at hok e
  exact ⟨_, od, _, sl, ho⟩
section
variable {P : Program} {w : World} {K : PySem.W.Frag} {mg : Str → Option Value} {base : Heap} {k : Nat} {g : Gm} {rb : Rl g} {f : Addr} {F : NF} {N ps fr : List Str} {wv : List V} {es : List D} {m : List D → Option D}
theorem fn_core (S : NScB N ps fr F.scope) (hbind : ∀ (doc pm ctv : Value) (us : List Value), us.length = ps.length → bindArgs (F.fd doc pm ctv) ⟨us, []⟩ = pure (ps.zip us)) (len : ∀ ds d, m ds = some d → ds.length = ps.length)
    (hbody : ∀ (A : Around) (outer : List PySem.Env) (s : Shared) (H : Hp), Room k (A.deeper (envB F f s.heap.objs.size)) → ∃ t, PSs (ncxB L2.CX0 P w K mg base N F f A outer s H L2.E0) F.body t ∧ ∀ ds, RdB g rb t (rho0 N (ds ++ es)) none (m ds)) :
    ∀ (A : Around) (outer : List PySem.Env) (s : Shared) (H : Hp) (us : List Value) (vs : List V) (Q : VK) (O : Addr → Prop) (ds : List D) (d : D), Room (k + 1) A → Env0 P w K mg base A outer s H → H f = some (FnO f F) → H F.c = some (CodeO F.c F.qual) → CellsAt F.cl fr (wv.map some) s.heap H → Vals vs us → Ent g rb O H →
      IsL g O H ds vs → IsL g O H es wv → m ds = some d → (∀ v H', R g rb H H' → Is g O H' d v → Q v H') → codeAny (model P w) A (.call (.ref f) ⟨us, []⟩) (CR L2.CX0 outer P w H s Q L2.E0) s := fun A outer s H us vs Q O ds d hr e0 hf hc C r en iv0 iv1 ed hq => by
  have lim : s.heap.NoLimit := e0.mod.nolimit.keeps fun b o e => (e0.bs b o e).1
  obtain ⟨od, sl, doc, pm, ctv, ho⟩ := fnO_at e0.hok hf
  obtain ⟨t, ht, hR⟩ := hbody A outer s H (hr.deeper _)
  have hvl : vs.length = ps.length := by rw [← iv0.length]; exact len ds d ed
  refine codeAny_call_function hr.depth ho rfl S.co S.gen rfl (codeO_at e0.hok hc) ?_
  rw [hbind doc pm ctv us (by rw [← r.length]; exact hvl)]
  refine wpAny_pure (new_env_both (fun ⟨n, _⟩ hy => S.par n (List.of_mem_zip hy).1) (fun h₁ hns kp hce => ⟨?_, ?_⟩) S.kind)
  · exact lim.keeps kp
  show codeAny _ _ (.func F.body (envB F f s.heap.objs.size)) _ _
  refine codeAny_func ?_
  have I : Inv (ncxB L2.CX0 P w K mg base N F f A outer s H L2.E0) [] (startF N vs (wv.map some)) H { s with heap := h₁, toks := s.toks + (ps.zip us).length } := inv_startB S hr.hd e0 hvl r C hns kp hce
  rw [startF_eq] at I
  have E := entryR (N := N) en (iv0.append iv1)
  refine wpAny_mono (ht.run [] _ _ H { nx := fun _ H' => Q .non H', rt := Q } I (hR ds d ed H O O _ H _ ⟨E, R.refl, fun _ h => h, fun i c b z => by cases z⟩ fun v H' k i => hq v H' k i)) (fun fl s' hs => ?_) fun e s' hs => hs
  have fin : ∀ {σ' : L2.St} {H' : Hp} {v : V} {u : Value}, Inv (ncxB L2.CX0 P w K mg base N F f A outer s H L2.E0) [] σ' H' s' → L2.RelV v u → Q v H' → CE outer P w H s Q u s' :=
    fun {σ' H' v u} J rv q => ⟨v, H', J.os, J.bare, J.base, J.hok, rv, q⟩
  cases fl with
  | ret u =>
    obtain ⟨v, σ', H', J, rv, q⟩ := hs
    exact fin J rv q
  | next =>
    obtain ⟨σ', H', J, q⟩ := hs
    exact fin (v := V.non) (u := Value.none) J rfl q
  | brk =>
    obtain ⟨_, _, _, q⟩ := hs
    exact False.elim q
  | cont =>
    obtain ⟨_, _, _, q⟩ := hs
    exact False.elim q
end
end Z

namespace Z
open PySem PySem.Spec PyProof.Rows L2 NdefX LamX
mutual
/-- no container but tuples -/
def pureD : D → Bool
  | .tup ds => pureDs ds
  | .ptup _ => false
  | .lst _ => false
  | .dct _ _ => false
  | .ins _ _ _ => false
  | _ => true
def pureDs : List D → Bool
  | [] => true
  | d :: ds => pureD d && pureDs ds
end
def flatD : D → Bool
  | .dct _ ds => pureDs ds
  | _ => false
def ckFlat (d : D) : Option D := ock (flatD d) (some d)
section
variable {g : Gm} {O O' : Addr → Prop} {H H' : Hp}
mutual
theorem Is.pure : ∀ (d : D) (v : V), pureD d = true → Is g O H d v → Is g O' H d v
  | .non, v, _, h => h
  | .bl b, v, _, h => h
  | .int i, v, _, h => h
  | .str s, v, _, h => h
  | .ref a, v, _, h => h
  | .tup ds, v, n, h => by
    obtain ⟨a, vs, e, q, z, r⟩ := h
    exact ⟨a, vs, e, q, z, IsL.pure ds vs n r⟩
  | .ptup ds, v, n, h => by cases n
  | .lst ds, v, n, h => by cases n
  | .dct ks ds, v, n, h => by cases n
  | .ins c fn ds, v, n, h => by cases n
theorem IsL.pure : ∀ (ds : List D) (vs : List V), pureDs ds = true → IsL g O H ds vs → IsL g O' H ds vs
  | [], vs, _, h => h
  | d :: ds, vs, n, h => by
    obtain ⟨v, r, e, a, b⟩ := h
    have n : (pureD d && pureDs ds) = true := n
    rw [Bool.and_eq_true] at n
    exact ⟨v, r, e, Is.pure d v n.1 a, IsL.pure ds r n.2 b⟩
end
end
/-- a dict of flat values, by itself -/
def DictAt (g : Gm) (H : Hp) (d : D) (v : V) : Prop := ∃ ks ds a vs, d = .dct ks ds ∧ v = .ref a ∧ pureDs ds = true ∧ Rd H a (.dK (kvz ks vs)) ∧ ks.length = vs.length ∧ vs.length ≤ sizeLine ∧ IsL g (fun _ => True) H ds vs
section
variable {g : Gm} {O : Addr → Prop} {H H' : Hp} {d : D} {v : V}
theorem DictAt.of (f : flatD d = true) (i : Is g O H d v) : DictAt g H d v := by
  cases d with
  | dct ks ds =>
    obtain ⟨a, vs, rfl, n, rd, l, z, iv⟩ := i
    exact ⟨ks, ds, a, vs, rfl, rfl, f, rd, l, z, IsL.pure ds vs f iv⟩
  | _ => cases f
theorem DictAt.is (h : DictAt g H d v) (n : ∀ b, v = .ref b → ¬ O b) : Is g O H d v := by
  obtain ⟨ks, ds, a, vs, rfl, rfl, f, rd, l, z, iv⟩ := h
  exact ⟨a, vs, rfl, n a rfl, rd, l, z, IsL.pure ds vs f iv⟩
/-- what such a dict stands on -/
def Flt : HO → Prop
  | .tup _ => True
  | .dK _ => True
  | .frz _ (.tup _) => True
  | .frz _ (.dK _) => True
  | _ => False
theorem Flt.rob {o : HO} (h : Rob o) : Flt o := by
  rcases h with ⟨_, h⟩ | ⟨_, _, h⟩ <;> (subst h; exact True.intro)
theorem Flt.sol {o : HO} (h : Flt o) : Sol o ∧ (∀ xs, o ≠ .lst xs) ∧ (∀ C dx fs, o ≠ .ins C dx fs) ∧ ∀ ps, o ≠ .tbl ps := by
  refine ⟨?_, fun xs z => (by subst z; exact h), fun C dx fs z => (by subst z; exact h), fun ps z => (by subst z; exact h)⟩
  unfold Flt at h
  split at h <;> first | exact True.intro | exact h.elim
theorem DictAt.mv0 (k : ∀ b o, H b = some o → Flt o → H' b = some o) (h : DictAt g H d v) : DictAt g H' d v := by
  obtain ⟨ks, ds, a, vs, rfl, rfl, f, rd, l, z, iv⟩ := h
  refine ⟨ks, ds, a, vs, rfl, rfl, f, ?_, l, z, IsL.kpS (fun b o e so h => k b o e ?_) _ _ iv⟩
  · rcases rd with q | ⟨ob, q⟩
    · exact .inl (k a _ q True.intro)
    · exact .inr ⟨ob, k a _ q True.intro⟩
  · rcases h with h | h
    · exact absurd True.intro h
    · exact Flt.rob h
theorem DictAt.mv (k : ∀ b o, H b = some o → Sol o → (∀ xs, o ≠ .lst xs) → H' b = some o) (h : DictAt g H d v) : DictAt g H' d v := h.mv0 fun b o e f => k b o e f.sol.1 f.sol.2.1
theorem DictAt.flt {b : Addr} (h : DictAt g H d (.ref b)) : ∃ o, H b = some o ∧ Flt o := by
  obtain ⟨ks, ds, a, vs, rfl, e, f, rd, l, z, iv⟩ := h
  cases e
  rcases rd with q | ⟨ob, q⟩
  · exact ⟨_, q, True.intro⟩
  · exact ⟨_, q, True.intro⟩
theorem DictAt.sol {b : Addr} (h : DictAt g H d (.ref b)) : ∃ o, H b = some o ∧ Sol o ∧ ∀ xs, o ≠ .lst xs := by
  obtain ⟨ks, ds, a, vs, rfl, e, f, rd, l, z, iv⟩ := h
  cases e
  rcases rd with q | ⟨ob, q⟩
  · exact ⟨_, q, True.intro, fun _ z => by cases z⟩
  · exact ⟨_, q, True.intro, fun _ z => by cases z⟩
theorem DictAt.ref (h : DictAt g H d v) : ∃ a, v = .ref a := by
  obtain ⟨ks, ds, a, vs, rfl, rfl, _⟩ := h
  exact ⟨a, rfl⟩
end
def powO (push : D) : Nat → Option D
  | 0 => ob (ob (dkeys push) (dcO un1 1 (ar1 fun n => some n) (ar1 fun n => ob (lCons (some n) (lCons (some (.int 0)) (some []))) dtupD))) ckFlat
  | n + 1 => ob (ob (powO push n) fun p => m_raw_after [p, push]) ckFlat
theorem powO_flat {push d : D} : ∀ {n : Nat}, powO push n = some d → flatD d = true
  | 0, h => by
    obtain ⟨x, _, h⟩ := ob_some h
    obtain ⟨c, h⟩ := ock_some h
    cases h
    exact c
  | n + 1, h => by
    obtain ⟨x, _, h⟩ := ob_some h
    obtain ⟨c, h⟩ := ock_some h
    cases h
    exact c
theorem powO_down {push d : D} {n : Nat} (h : powO push (n + 1) = some d) : ∃ p, powO push n = some p ∧ m_raw_after [p, push] = some d := by
  obtain ⟨x, e, h⟩ := ob_some h
  obtain ⟨c, h⟩ := ock_some h
  cases h
  exact ob_some e
theorem powO_le {push d : D} {m : Nat} : ∀ {n : Nat}, powO push n = some d → m ≤ n → ∃ p, powO push m = some p
  | 0, h, l => by
    have : m = 0 := by omega
    subst this
    exact ⟨d, h⟩
  | n + 1, h, l => by
    by_cases e : m = n + 1
    · subst e; exact ⟨d, h⟩
    · obtain ⟨p, h1, _⟩ := powO_down h
      exact powO_le h1 (by omega)
structure RepP where
  S : Addr
  pw : Addr
  dx : Addr
  push : D
  growth : D
  tail : Int
  turn : Int
  vp : V
  vg : V
def RepP.fs (p : RepP) : List (Str × V) := [("push", p.vp), ("tail", .int p.tail), ("turn", .int p.turn), ("powers", .ref p.pw), ("growth", p.vg)]
def fRep : List Str := [("push" : Str), ("tail" : Str), ("turn" : Str), ("growth" : Str)]
def RepP.D (p : RepP) : D := .ins 2 fRep [p.push, .int p.tail, .int p.turn, p.growth]
structure RepJ (g : Gm) (p : RepP) (H : Hp) : Prop where
  hS : H p.S = some (.ins (g.cl 2) p.dx p.fs)
  hP : DictAt g H p.push p.vp
  hG : DictAt g H p.growth p.vg
  hL : ∃ vs, H p.pw = some (.lst vs) ∧ 1 ≤ vs.length ∧ vs.length ≤ 50001 ∧ ∀ k v, vs[k]? = some v → ∃ d, powO p.push k = some d ∧ DictAt g H d v
def RepA (p : RepP) (H : Hp) (b : Addr) : Prop := b = p.S ∨ p.vp = .ref b ∨ p.vg = .ref b ∨ ∃ vs, H p.pw = some (.lst vs) ∧ V.ref b ∈ vs
section
variable {g : Gm} {p : RepP} {H H' : Hp}
theorem RepJ.mv (k : ∀ b o, H b = some o → Sol o → (∀ xs, o ≠ .lst xs) → H' b = some o) (e : H' p.pw = H p.pw) (j : RepJ g p H) : RepJ g p H' := by
  refine ⟨k _ _ j.hS True.intro fun _ z => (by cases z), j.hP.mv k, j.hG.mv k, ?_⟩
  obtain ⟨vs, h1, h2, h3, h4⟩ := j.hL
  refine ⟨vs, by rw [e]; exact h1, h2, h3, fun i v q => ?_⟩
  obtain ⟨d, d1, d2⟩ := h4 i v q
  exact ⟨d, d1, d2.mv k⟩
theorem RepA.mv (e : H' p.pw = H p.pw) {b : Addr} (h : RepA p H' b) : RepA p H b := by
  rcases h with h | h | h | ⟨vs, h1, h2⟩
  · exact .inl h
  · exact .inr (.inl h)
  · exact .inr (.inr (.inl h))
  · exact .inr (.inr (.inr ⟨vs, by rw [← e]; exact h1, h2⟩))
theorem RepA.sol {b : Addr} (j : RepJ g p H) (h : RepA p H b) : ∃ o, H b = some o ∧ Sol o ∧ ∀ xs, o ≠ .lst xs := by
  rcases h with h | h | h | ⟨vs, h1, h2⟩
  · rw [h]; exact ⟨_, j.hS, True.intro, fun _ z => by cases z⟩
  · have q := j.hP; rw [h] at q; exact q.sol
  · have q := j.hG; rw [h] at q; exact q.sol
  · obtain ⟨ws, k1, _, _, k4⟩ := j.hL
    rw [h1] at k1
    cases k1
    obtain ⟨i, hi⟩ := List.mem_iff_getElem?.mp h2
    obtain ⟨d, _, q⟩ := k4 i _ hi
    exact q.sol
end
def rRep (g : Gm) (p : RepP) : Rl g where
  L := fun b => b = p.pw
  J := RepJ g p
  A := RepA p
  hJ := fun H H' k j => by
    obtain ⟨vs, h1, _⟩ := j.hL
    refine j.mv (fun b o e so _ => k.keep b o e fun ps z => ?_) (by rw [h1]; exact k.keep _ _ h1 fun _ z => by cases z)
    subst z; exact so
  hL := fun H b j e z => by
    obtain ⟨vs, h1, _⟩ := j.hL
    rw [← e, z] at h1
    cases h1
  hU := fun H q xs ys e n j => j.mv (fun b o eb so nl => by
    rw [upd_ne]
    · exact eb
    · intro z; subst z; rw [e] at eb; exact nl _ (Option.some.inj eb).symm) (upd_ne fun z => n z.symm)
  hA := fun H H' k j b h => by
    obtain ⟨vs, h1, _⟩ := j.hL
    exact h.mv (by rw [h1]; exact k.keep _ _ h1 fun _ z => by cases z)
  hUA := fun H q xs ys e n j b h => h.mv (upd_ne fun z => n z.symm)
  hN := fun H b j h xs e => by
    obtain ⟨o, e1, _, n⟩ := h.sol j
    rw [e] at e1
    exact n xs (Option.some.inj e1).symm
theorem stbRep {g : Gm} {p : RepP} : Stb (rRep g p) where
  J := fun H H' a b j => by
    obtain ⟨vs, h1, _⟩ := j.hL
    exact RepJ.mv (fun c o e so _ => a c o so e) (by rw [h1]; exact a _ _ True.intro h1) j
  A := fun H H' a b j c h => by
    obtain ⟨vs, h1, _⟩ := RepJ.hL j
    exact RepA.mv (by rw [h1]; exact a _ _ True.intro h1) h
  sol := fun H b j h => by
    obtain ⟨o, e1, s, _⟩ := RepA.sol j h
    exact ⟨o, e1, s⟩
theorem ev_r0 {g : Gm} {r : Rl g} {te : TE} {ρ ρ' : Rho} {ω : Om} {m : Option D} (c : ∀ O σ H, Env g r O σ H ρ ω → Env g (r0 g) O σ H ρ' ω) (h : EvO g (r0 g) te ρ' ω m) : EvO g r te ρ ω m :=
  fun d e O σ H E Q q => h d e O σ H (c O σ H E) Q fun v H' k i => q v H' (R.of0 k.to0) i
theorem et_r0 {g : Gm} {r : Rl g} {te : TT} {ρ ρ' : Rho} {ω : Om} {m : Option Bool} (c : ∀ O σ H, Env g r O σ H ρ ω → Env g (r0 g) O σ H ρ' ω) (h : EvT g (r0 g) te ρ' ω m) : EvT g r te ρ ω m :=
  fun d e O σ H E Q q => h d e O σ H (c O σ H E) Q fun H' k => q H' (R.of0 k.to0)
theorem RepJ.is {g : Gm} {p : RepP} {H : Hp} {O : Addr → Prop} (j : RepJ g p H) (n : ∀ b, RepA p H b → ¬ O b) : Is g O H p.D (.ref p.S) := by
  refine ⟨p.S, p.dx, p.fs, [p.vp, .int p.tail, .int p.turn, p.vg], rfl, n _ (.inl rfl), j.hS, ⟨_, _, rfl, j.hP.is fun b e => n b (.inr (.inl e)), _, _, rfl, rfl, _, _, rfl, rfl, _, _, rfl, j.hG.is fun b e => n b (.inr (.inr (.inl e))), rfl⟩, rfl, fun f u h => ?_, fun f hf => ?_⟩
  rotate_left
  · simp only [METHS, List.mem_cons, List.not_mem_nil, or_false] at hf
    rcases hf with rfl | rfl | rfl <;> rfl
  have hz : ∀ k : Str, (k = f) ∨ (decide (k = f) = false ∧ (f == k) = false) := fun k => by
    by_cases z : k = f
    · exact .inl z
    · exact .inr ⟨decide_eq_false z, beq_eq_false_iff_ne.mpr fun y => z y.symm⟩
  unfold fRep at h
  unfold RepP.fs
  rcases hz "push" with z | ⟨z1, z2⟩
  · subst z; exact h
  rcases hz "tail" with z | ⟨z3, z4⟩
  · subst z; exact h
  rcases hz "turn" with z | ⟨z5, z6⟩
  · subst z; exact h
  rcases hz "growth" with z | ⟨z7, z8⟩
  · subst z; exact h
  · unfold lookZ at h
    rw [z1] at h
    unfold lookZ at h
    rw [z3] at h
    unfold lookZ at h
    rw [z5] at h
    unfold lookZ at h
    rw [z7] at h
    cases h
theorem Env.rep0 {g : Gm} {p : RepP} {O : Addr → Prop} {σ : L2.St} {H : Hp} {ρ : Rho} {i : Nat} (hi : ρ[i]? = some (some (.ref p.S))) (E : Env g (rRep g p) O σ H ρ none) : Env g (r0 g) O σ H (ρ.set i (some p.D)) none := by
  refine ⟨by rw [List.length_set]; exact E.len, fun j d e => ?_, fun b h => h.elim, E.hid, fun _ a => a.elim, E.tabs, True.intro, fun i c z => by cases z⟩
  by_cases hj : i = j
  · subst hj
    rw [List.getElem?_set_self (List.getElem?_eq_some_iff.mp hi).1] at e
    cases e
    obtain ⟨v, h1, h2⟩ := E.at_ i _ hi
    obtain rfl : v = V.ref p.S := h2
    exact ⟨_, h1, RepJ.is E.J E.out⟩
  · rw [List.getElem?_set_ne hj] at e
    exact E.at_ j d e
/-- more is known to the caller: values of its own -/
theorem R.plus {g : Gm} {r : Rl g} {S : Addr → Prop} {es : List D} {wv : List V} {H H' : Hp} (j : (rPlus r S es wv).J H) (k : R g r H H') : R g (rPlus r S es wv) H H' where
  keep := k.keep
  free := k.free
  tabs := k.tabs
  J := fun _ => ⟨k.J j.1, fun b s => by
    obtain ⟨n, o, e, so, nl⟩ := j.2.1 b s
    exact ⟨n, o, k.keep b o e (fun ps z => by subst z; exact so) (.inl n), so, nl⟩, IsL.kpS (fun b o e so h => k.keep b o e (fun ps z => by subst z; exact so) (by
      rcases h with h | h
      · refine .inl fun l => ?_
        by_cases s : S b
        · exact (j.2.1 b s).1 l
        · exact h s
      · exact .inr h)) _ _ j.2.2⟩
  A := fun _ b h => by
    rcases h with h | h
    · exact (k.A j.1 b h).imp .inl id
    · exact .inl (.inr h)
  tb := k.tb
end Z

namespace Z
open PySem PySem.Spec PyProof.Rows L2 NdefX LamX
theorem Ent.go {g : Gm} {r : Rl g} {O : Addr → Prop} {H H' : Hp} (E : Ent g r O H) (k : R g r H H') : Ent g r O H' :=
  ⟨E.sub, fun b o z => E.hid b o (k.free b z), fun b a o => (k.A E.J b a).elim (fun z => E.out b z o) (E.hid b o), k.tabs E.tabs, k.J E.J⟩
/-- o.m(..), the promise over plain data -/
theorem ev_methD {g : Gm} {r : Rl g} {ρ : Rho} {ω : Om} {t : TA} {ms : Option (List D)} {E0 : XK} {i c : Nat} {m : Str} {fn : List Str} {ds0 : List D} {f : List D → Option D} (hi : ρ[i]? = some (some (.ins c fn ds0))) (hm : m ∈ METHS) (h : EvA g r t ρ ω ms) :
    EvO g r (tMeth (g.cl c) m (spD g f) [] E0 (tVar i) t) ρ ω (ob (lCons (some (.ins c fn ds0)) ms) f) := fun d e O σ H E Q q => by
  obtain ⟨xs, e1, e⟩ := ob_some e
  obtain ⟨x, ds, ex, e2, rfl⟩ := lCons_some e1
  cases ex
  obtain ⟨v, hv, iv⟩ := E.at_ i _ hi
  obtain ⟨a, dx, fs, vs, rfl, n, ha, il, l, F⟩ := id iv
  refine ⟨_, hv, a, dx, fs, rfl, ha, F.no m hm, h ds e2 O σ H E _ fun us H1 k1 i1 => ?_⟩
  rw [List.append_nil]
  have E1 := E.go k1
  exact ⟨.ins c fn ds0 :: ds, d, O, E1.hid, E1.tabs, ⟨_, _, rfl, Is.kp (k1.kp E.sub) _ _ iv, i1⟩, e, fun v H2 k2 i2 => q v H2 (k1.trans (R.of0 k2)) i2⟩
theorem use_rb {g : Gm} {r : Rl g} {t : TS} {ρ : Rho} {m : Option D} {d : D} {H0 : Hp} {O0 O : Addr → Prop} {σ : L2.St} {H : Hp} {Dn : Ends} (e : m = some d) (E : SEnv g r H0 O0 O σ H ρ none) (q : ∀ v H', R g r H0 H' → Is g O0 H' d v → Dn.rt v H') (rd : RdB g r t ρ none m) : t Dn σ H :=
  rd d e H0 O0 O σ H Dn E q
/-- what a method of Repeated promises -/
def spRep (g : Gm) (f : List D → Option D) : Sp := fun vs H Q _ => ∃ (p : RepP) (ds : List D) (d : D) (O : Addr → Prop), Ent g (rRep g p) O H ∧ IsL g O H (.ref p.S :: ds) vs ∧ f (p.D :: ds) = some d ∧ ∀ v H', R g (rRep g p) H H' → Is g O H' d v → Q v H'
theorem ev_methR {g : Gm} {p : RepP} {ρ : Rho} {t : TA} {ms : Option (List D)} {E0 : XK} {i : Nat} {m : Str} {f : List D → Option D} (hi : ρ[i]? = some (some (.ref p.S))) (hm : p.fs.lookup m = none) (h : EvA g (rRep g p) t ρ none ms) :
    EvO g (rRep g p) (tMeth (g.cl 2) m (spRep g f) [] E0 (tVar i) t) ρ none (ob (lCons (some p.D) ms) f) := fun d e O σ H E Q q => by
  obtain ⟨xs, e1, e⟩ := ob_some e
  obtain ⟨x, ds, ex, e2, rfl⟩ := lCons_some e1
  cases ex
  obtain ⟨v, hv, iv⟩ := E.at_ i _ hi
  obtain rfl : v = V.ref p.S := iv
  have j : RepJ g p H := E.J
  refine ⟨_, hv, p.S, p.dx, p.fs, rfl, j.hS, hm, h ds e2 O σ H E _ fun us H1 k1 i1 => ?_⟩
  rw [List.append_nil]
  exact ⟨p, ds, d, O, (E.go k1).ent, ⟨_, _, rfl, rfl, i1⟩, e, fun v H2 k2 i2 => q v H2 (k1.trans k2) i2⟩
/-- one more power -/
theorem rep_grow {g : Gm} {p : RepP} {H1 H2 : Hp} {vs : List V} {d : D} {v : V} {O2 : Addr → Prop} (j : RepJ g p H1) (k : R0 g H1 H2) (e1 : H1 p.pw = some (.lst vs)) (hl : vs.length ≤ 50000) (pd : powO p.push vs.length = some d) (i : Is g O2 H2 d v) (n : ∀ b, ¬ O2 b → RepA p H1 b ∨ H1 b = none) :
    R g (rRep g p) H1 (upd H2 p.pw (.lst (vs ++ [v]))) := by
  have e2 : H2 p.pw = some (.lst vs) := k.keep _ _ e1 fun _ z => by cases z
  have j2 : RepJ g p H2 := (rRep g p).hJ _ _ k j
  have dv : DictAt g H2 d v := DictAt.of (powO_flat pd) i
  have kp : ∀ b o, H2 b = some o → Sol o → (∀ xs, o ≠ .lst xs) → upd H2 p.pw (.lst (vs ++ [v])) b = some o := fun b o e so nl => by
    rw [upd_ne]
    · exact e
    · intro z; subst z; rw [e2] at e; exact nl _ (Option.some.inj e).symm
  refine ⟨fun b o e m h => ?_, fun b e => k.free b (upd_none e), fun t => tabs_upd (k.tabs t) e2 (fun _ z => by cases z) (fun _ z => by cases z), fun _ => ?_, fun _ b a => ?_, fun b ps e => ?_⟩
  · have nb : b ≠ p.pw := fun z => by
      subst z
      rw [e1] at e
      cases e
      rcases h with h | ⟨_, h⟩ | ⟨_, _, h⟩
      · exact h rfl
      · cases h
      · cases h
    rw [upd_ne nb]
    exact k.keep b o e m
  · refine ⟨kp _ _ j2.hS True.intro fun _ z => (by cases z), j2.hP.mv kp, j2.hG.mv kp, vs ++ [v], upd_same, by rw [List.length_append]; exact Nat.le_add_left _ _, by rw [List.length_append]; exact Nat.succ_le_succ hl, fun q u hq => ?_⟩
    obtain ⟨ws, w1, w2, w3, w4⟩ := j2.hL
    rw [e2] at w1
    cases w1
    by_cases hk : q < vs.length
    · rw [List.getElem?_append_left hk] at hq
      obtain ⟨d', h1, h2⟩ := w4 q u hq
      exact ⟨d', h1, h2.mv kp⟩
    · rw [List.getElem?_append_right (by omega)] at hq
      have hz : q = vs.length := by
        have := (List.getElem?_eq_some_iff.mp hq).1
        simp only [List.length_singleton] at this
        omega
      subst hz
      rw [Nat.sub_self] at hq
      cases hq
      exact ⟨d, pd, dv.mv kp⟩
  · rcases a with a | a | a | ⟨ws, a1, a2⟩
    · exact .inl (.inl a)
    · exact .inl (.inr (.inl a))
    · exact .inl (.inr (.inr (.inl a)))
    · rw [upd_same] at a1
      cases a1
      rcases List.mem_append.mp a2 with h | h
      · exact .inl (.inr (.inr (.inr ⟨vs, e1, h⟩)))
      · have ev := List.mem_singleton.mp h
        subst ev
        obtain ⟨ks, ds, a, us, rfl, z, _⟩ := dv
        cases z
        obtain ⟨a', _, z, na, _⟩ := i
        cases z
        exact n _ na
  · have nb : b ≠ p.pw := fun z => by subst z; rw [e1] at e; cases e
    rw [upd_ne nb]
    exact k.tb b ps e
def m_power : List D → Option D := ar2 fun self many => ob (dfld 2 ("push" : Str) self) fun push => ob (asI many) fun i => ock (decide (0 ≤ i) && decide (i ≤ 50000)) (powO push i.toNat)
section
variable {P : Program} {w : World} {K : PySem.W.Frag} {mg : Str → Option Value} {base : Heap} {cl : Nat → Addr} {T : List NTab}
theorem fld_at {g : Gm} {p : RepP} {H : Hp} {σ : L2.St} {Q : VK} {f : Str} {v : V} (j : RepJ g p H) (hσ : σ[0]? = some (some (.ref p.S))) (F : FldOk g 2 f) (l : p.fs.lookup f = some v) (q : Q v H) : tFld g.K (tVar 0) f σ H Q :=
  ⟨.ref p.S, hσ, p.S, g.cl 2, p.dx, p.fs, v, rfl, j.hS, F.cl, F.no, l, q⟩
abbrev s_power : Stmt := inClass (topS 33) 2
theorem sc_power : FnScope ["self", "many"] ["self", "many"] (defScope s_power) := ⟨rfl, rfl, rfl, by decide +kernel, rfl, by decide +kernel, by decide +kernel⟩
theorem ok_power (M : Fx K mg cl T) {f : Addr} {fd : FuncData} (F : FnP K "power" "Repeated.power" s_power f fd) : FnOk P w K mg base L2.CX0 2 f fd ["self", "many"] (spRep (gm K cl T) m_power) := by
  refine F.ok sc_power (fun vs H Q E h => ?_) fun cdv A outer s H vs Q E hr h => ⟨_, PSs.nox (pss_cons (ps_while PassesOwn.never (pt_cmpR op_leD (pe_callB call_lenS (by rfl) M.n_len (by decide +kernel) (pa_cons (pe_fld (pv 0) rfl) pa_nil)) (pv 1) (nomark _))
    (pss_one (ps_expr (pe_bm PySem.F.plainAttrs_list PySem.F.slot_list_append PySem.F.type_list_append mt_append (pe_fld (pv 0) rfl) (pa_cons (pe_cl (c_raw_after M) hr (by decide) rfl (pa_cons (pe_ix ix_seq (pe_fld (pv 0) rfl) (pe_un un_neg pe_int) (fun _ _ => rfl)) (pa_cons (pe_fld (pv 0) rfl) pa_nil))) pa_nil)))))
    (pss_one (ps_ret (pe_ix ix_seq (pe_fld (pv 0) rfl) (pv 1) (fun _ _ => rfl))))), ?_⟩
  · obtain ⟨p, ds, d, O, en, il, em, q⟩ := h
    rw [← il.length]
    match ds, em with
    | [_], _ => rfl
  · obtain ⟨p, ds, d, O, en, il, em, q⟩ := h
    match ds, em, il with
    | [many], em, il =>
      obtain ⟨i, ei, em⟩ := ob_some (show ob (asI many) (fun i => ock (decide (0 ≤ i) && decide (i ≤ 50000)) (powO p.push i.toNat)) = some d from em)
      obtain rfl := asI_some ei
      obtain ⟨ci, em⟩ := ock_some em
      rw [Bool.and_eq_true, decide_eq_true_eq, decide_eq_true_eq] at ci
      obtain ⟨v0, _, rfl, i0, v1, _, rfl, i1, rfl⟩ := il
      obtain rfl : v0 = V.ref p.S := i0
      obtain rfl : v1 = V.int i := i1
      refine ⟨fun m σ H' => σ = L2.start ["self", "many"] [V.ref p.S, V.int i] ∧ R (gm K cl T) (rRep (gm K cl T) p) H H' ∧ ∃ vs, H' p.pw = some (.lst vs) ∧ i.toNat + 1 - vs.length = m, ?_, ?_⟩
      · obtain ⟨vs, h1, _⟩ := RepJ.hL en.J
        exact ⟨_, rfl, R.refl, vs, h1, rfl⟩
      · rintro m σ H' ⟨rfl, kR, vs, hv, hm⟩
        have en' := en.go kR
        have j : RepJ (gm K cl T) p H' := en'.J
        obtain ⟨ws, w1, w2, w3, w4⟩ := j.hL
        rw [hv] at w1
        cases w1
        refine fld_at j rfl M.k_powers rfl ⟨_, vs.length, rfl, .inl ⟨vs, SqL.of hv, rfl⟩, .int i, rfl, .inl ⟨vs.length, i, rfl, rfl, _, rfl, ?_⟩⟩
        by_cases hc : (vs.length : Int) ≤ i
        · rw [decide_eq_true hc]
          show ite (true = true) _ _
          rw [if_pos rfl]
          refine ⟨fun σ' H'' => σ' = L2.start ["self", "many"] [V.ref p.S, V.int i] ∧ R (gm K cl T) (rRep (gm K cl T) p) H H'' ∧ ∃ us, H'' p.pw = some (.lst us) ∧ us.length = vs.length + 1, fun σ' H'' ⟨a, b, us, c, e⟩ => ⟨i.toNat + 1 - us.length, by omega, a, b, us, c, rfl⟩, ?_⟩
          have hlen : vs.length - 1 < vs.length := by omega
          obtain ⟨d0, p0, a0⟩ := w4 (vs.length - 1) _ (List.getElem?_eq_getElem hlen)
          obtain ⟨dn, pn⟩ := powO_le (m := vs.length) em (by omega)
          have pn' : powO p.push (vs.length - 1 + 1) = some dn := by rw [show vs.length - 1 + 1 = vs.length by omega]; exact pn
          obtain ⟨d0', p0', pa⟩ := powO_down pn'
          rw [p0] at p0'
          cases p0'
          unfold tDrop tBM
          refine fld_at j rfl M.k_powers rfl ⟨.inl ⟨rfl, vs, SqL.of hv⟩, ?_⟩
          dsimp only [tCall, tCons, tOp]
          refine fld_at j rfl M.k_powers rfl ?_
          refine ⟨1, rfl, .inl ⟨p.pw, vs, -1, vs[vs.length - 1], rfl, rfl, SqL.of hv, ?_, ?_⟩⟩
          · unfold L2.atI L2.ixN
            rw [if_neg (by decide), if_pos (by omega)]
            show vs[((-1 : Int) + vs.length).toNat]? = _
            rw [show ((-1 : Int) + vs.length).toNat = vs.length - 1 by omega]
            exact List.getElem?_eq_getElem hlen
          refine fld_at j rfl M.k_push rfl ?_
          have na : ∀ b, ¬ (H' b ≠ none ∧ vs[vs.length - 1] ≠ V.ref b ∧ p.vp ≠ V.ref b) → RepA p H' b ∨ H' b = none := fun b hb => by
            by_cases z1 : H' b = none
            · exact .inr z1
            · by_cases z2 : vs[vs.length - 1] = V.ref b
              · exact .inl (.inr (.inr (.inr ⟨vs, hv, by rw [← z2]; exact List.getElem_mem hlen⟩)))
              · by_cases z3 : p.vp = V.ref b
                · exact .inl (.inr (.inl z3))
                · exact absurd ⟨z1, z2, z3⟩ hb
          refine ⟨[d0, p.push], dn, fun b => H' b ≠ none ∧ vs[vs.length - 1] ≠ V.ref b ∧ p.vp ≠ V.ref b, fun b h => h.1, en'.tabs, ⟨_, _, rfl, a0.is fun b e h => h.2.1 e, _, _, rfl, j.hP.is fun b e h => h.2.2 e, rfl⟩, pa, fun v H2 k2 i2 => ?_⟩
          refine ⟨p.pw, vs, v, rfl, rfl, k2.keep _ _ hv (fun _ z => by cases z), by rw [sizeLine_eq]; omega, ?_⟩
          exact ⟨rfl, kR.trans (rep_grow j k2 hv (by omega) pn i2 na), _, upd_same, by rw [List.length_append, List.length_singleton]⟩
        · rw [decide_eq_false hc]
          show ite (false = true) _ _
          rw [if_neg Bool.false_ne_true]
          have hlt : i.toNat < vs.length := by omega
          obtain ⟨d0, p0, a0⟩ := w4 i.toNat _ (List.getElem?_eq_getElem hlt)
          rw [em] at p0
          cases p0
          dsimp only [tRet, tOp]
          refine fld_at j rfl M.k_powers rfl ⟨.int i, rfl, .inl ⟨p.pw, vs, i, vs[i.toNat], rfl, rfl, SqL.of hv, ?_, ?_⟩⟩
          · have e := L2.atI_nat (xs := vs) (List.getElem?_eq_getElem hlt)
            rwa [Int.toNat_of_nonneg ci.1] at e
          · exact q _ _ kR (a0.is fun b e => en'.out b (.inr (.inr (.inr ⟨vs, hv, by rw [← e]; exact List.getElem_mem hlt⟩))))
abbrev s_grown : Stmt := inClass (topS 33) 1
theorem sc_grown : FnScope ["self", "name", "ring"] ["self", "name"] (defScope s_grown) := ⟨rfl, rfl, rfl, by decide +kernel, rfl, by decide +kernel, by decide +kernel⟩
def b_grown (self901 name902 : D) : Option D := ob (o2 dixS (ob (lCons (ob (some self901) (dfld 2 ("push" : Str))) (lCons (some name902) (some []))) m_raw_way) (some (.int 1))) fun ring903 => oif (dtest (o2 dgtD (ob (lCons (some ring903) (some [])) (d1 dlen)) (some (.int 0)))) (o2 dfdiv (o2 dmul (ob (lCons (ob (some self901) (dfld 2 ("push" : Str))) (lCons (some name902) (some []))) m_raw_gain) (ob (some self901) (dfld 2 ("turn" : Str)))) (ob (lCons (some ring903) (some [])) (d1 dlen))) (some (.int 0))
def m_grown : List D → Option D := ar2 b_grown
theorem ok_grown (M : Fx K mg cl T) {f : Addr} {fd : FuncData} (F : FnP K "grown" "Repeated.grown" s_grown f fd) : FnOk P w K mg base L2.CX0 3 f fd ["self", "name"] (spD (gm K cl T) m_grown) := by
  refine F.ok sc_grown (fun vs H Q E h => ?_) fun cdv A outer s H vs Q E hr h => ⟨_, PSs.nox (pss_cons (ps_set (i := 2) sc_grown.nd rfl (.inl rfl) (pe_ix ix_seq (pe_cl (c_raw_way M) hr (by decide) rfl (pa_cons (pe_fld (pv 0) rfl) (pa_cons (pv 1) pa_nil))) pe_int (fun _ _ => rfl))) (pss_one (ps_ret (pe_ifExp (pt_cmpR op_gt (pe_callB call_lenS (by rfl) M.n_len (by decide +kernel) (pa_cons (pv 2) pa_nil)) pe_int (nomark _)) (pe_op op_fdivN (pe_op op_mulD (pe_cl (c_raw_gain M) hr (by decide) rfl (pa_cons (pe_fld (pv 0) rfl) (pa_cons (pv 1) pa_nil))) (pe_fld (pv 0) rfl)) (pe_callB call_lenS (by rfl) M.n_len (by decide +kernel) (pa_cons (pv 2) pa_nil))) pe_int)))), ?_⟩
  · obtain ⟨ds, d, O, h1, h2, h3, h4, h5⟩ := h
    rw [← h3.length]
    match ds, h4 with
    | [_, _], _ => rfl
  · obtain ⟨ds, d, O, h1, h2, h3, h4, h5⟩ := h
    match ds, h4, h3 with
    | [self901, name902], h4, h3 =>
      refine use_rb (H0 := H) (O0 := O) (O := O) (ρ := rho0 ["self", "name", "ring"] [self901, name902]) (m := b_grown self901 name902) h4 ⟨entryE h1 h2 h3, R.refl, fun _ h => h, fun i c b z => by cases z⟩ (fun v H' k i => h5 v H' k.to0 i) ?_
      exact (atB [some self901, some name902, none] (rb_seq (rn_set (ev_ix (ev_call (ea_cons (ev_fld M.k_push (ev_var rfl)) (ea_cons (ev_var rfl) ea_nil))) ev_int) h1N) fun ring903 => (atB [some self901, some name902, some ring903] (rb_ret (ev_if (et_T (ev_op rv_gt (ev_cb rc_len (ea_cons (ev_var rfl) ea_nil)) ev_int)) (ev_op rv_fdiv (ev_op rv_mul (ev_call (ea_cons (ev_fld M.k_push (ev_var rfl)) (ea_cons (ev_var rfl) ea_nil))) (ev_fld M.k_turn (ev_var rfl))) (ev_cb rc_len (ea_cons (ev_var rfl) ea_nil))) ev_int)))))
theorem pe_dfld {X : Cx} {i : Nat} {x f : Str} {p p2 pos : Pos} {e : Expr} {ty : TE} (hu : X.A.units + 1 < cLine) (hi : PE X e ty) (hs : NoSl e) (hN : X.N[i]? = some x := by rfl) (hv : Vis X.env.scope x := by first | exact Or.inl rfl | exact Or.inr (Or.inl rfl) | exact Or.inr (Or.inr rfl)) (hd : (x == ("__debug__" : Str)) = false := by decide) (hcd : (x == ("__classdict__" : Str)) = false := by decide)
    (hb : attributeBase (.Name x p) f X.env (eval (.Name x p) X.env) = eval (.Name x p) X.env := by rfl) : PE X (.Subscript (.Attribute (.Name x p) f p2) e pos) (tDGet (tFld X.K (tVar i) f) ty) := pe_dget hu (pe_fld (pe_var hN hv hd hcd) hb) hi hs

theorem ev_fldR {p : RepP} {ρ : Rho} {i : Nat} {f : Str} (F : FldOk (gm K cl T) 2 f) (hi : ρ[i]? = some (some (.ref p.S))) : EvO (gm K cl T) (rRep (gm K cl T) p) (tFld (gm K cl T).K (tVar i) f) ρ none (ob (some p.D) (dfld 2 f)) :=
  ev_r0 (fun O σ H E => E.rep0 hi) (ev_fld F (ev_var (List.getElem?_set_self (List.getElem?_eq_some_iff.mp hi).1)))
def b_behind (self904 numbers905 many906 : D) : Option D := ob (some many906) fun first907 => ob (oif (dtest (o2 dgeD (some many906) (o2 dadd (ob (some self904) (dfld 2 ("tail" : Str))) (ob (some self904) (dfld 2 ("turn" : Str)))))) (ob (o2 dadd (ob (some self904) (dfld 2 ("tail" : Str))) (o2 dmod (o2 dsub (some many906) (ob (some self904) (dfld 2 ("tail" : Str)))) (ob (some self904) (dfld 2 ("turn" : Str))))) fun first908 => some [first908]) (some [first907])) (ar1 fun first909 => ob (o2 dfdiv (o2 dsub (some many906) (some first909)) (ob (some self904) (dfld 2 ("turn" : Str)))) fun turns910 => ob (ob (lCons (ob (lCons (some self904) (lCons (some first909) (some []))) m_power) (lCons (some numbers905) (some []))) m_raw_pushed) fun found911 => ob (dkeys found911) (dcO un1 1 (ar1 fun name912 => some name912) (ar1 fun name912 => o2 dadd (o2 ddget (some found911) (some name912)) (o2 dmul (some turns910) (o2 ddget (ob (some self904) (dfld 2 ("growth" : Str))) (some name912))))))
def m_behind : List D → Option D := ar3 b_behind
abbrev s_behind : Stmt := inClass (topS 33) 3
theorem sc_behind : FnScope ["self", "numbers", "many", "first", "turns", "found", "name"] ["self", "numbers", "many"] (defScope s_behind) := ⟨rfl, rfl, rfl, by decide +kernel, rfl, by decide +kernel, by decide +kernel⟩
theorem tm_behind (M : Fx K mg cl T) {fp : Addr} {fdp : FuncData} (G : FnOk P w K mg base L2.CX0 2 fp fdp ["self", "many"] (spRep (gm K cl T) m_power)) (hp : Meth K (cl 2) "power" fp) (bp : L2.Binds K fdp ["self", "many"] []) {f : Addr} (cdv : Value) (A : Around) (outer : List PySem.Env) (s : Shared) (H : Hp) (E : XK) (hr : Room 2 (A.deeper (envOfC "Repeated.behind" (defScope s_behind) s.heap.objs.size f cdv))) :
    ∃ t, PSs (cxOf L2.CX0 P w K mg base ["self", "numbers", "many", "first", "turns", "found", "name"] "Repeated.behind" (defScope s_behind) f cdv A outer s H E).nox (defBody s_behind) t ∧ ∀ (p : RepP) (numbers905 many906 : D), RdB (gm K cl T) (rRep (gm K cl T) p) t (rho0 ["self", "numbers", "many", "first", "turns", "found", "name"] [.ref p.S, numbers905, many906]) none (b_behind p.D numbers905 many906) :=
  ⟨_, (pss_cons (ps_set (i := 3) sc_behind.nd rfl (.inl rfl) (pv 2))
    (pss_cons (ps_if (pt_cmpR op_ge (pv 2) (pe_op op_addD (pe_fld (pv 0) rfl) (pe_fld (pv 0) rfl)) (nomark _)) (pss_one (ps_set (i := 3) sc_behind.nd rfl (.inl rfl) (pe_op op_addD (pe_fld (pv 0) rfl) (pe_op op_modN (pe_op op_sub (pv 2) (pe_fld (pv 0) rfl)) (pe_fld (pv 0) rfl))))) pss_nil)
    (pss_cons (ps_set (i := 4) sc_behind.nd rfl (.inr rfl) (pe_op op_fdivN (pe_op op_sub (pv 2) (pv 3)) (pe_fld (pv 0) rfl)))
    (pss_cons (ps_set (i := 5) sc_behind.nd rfl (.inr rfl) (pe_cl (c_raw_pushed M) hr (by decide) rfl (pa_cons (pe_meth (pv 0) M.k_push.cl hp G hr bp .nil L2.pass0 (pa_cons (pv 3) pa_nil)) (pa_cons (pv 1) pa_nil))))
    (pss_one (ps_ret (pe_lk (pe_dc (own := [("name", 6)]) rfl sc_behind.nd (pi_keys (pv 5)) (blkOk_by (by kernel_rfl)) (fun _ _ _ _ _ => (pg_name (i := 6) sc_behind.nd rfl (.inl rfl))) (fun _ _ _ _ _ => pts_nil) (fun _ _ _ _ _ => (pv 6)) (fun _ _ _ _ _ => (pe_op op_addD (pe_dget (hu_of hr) (pv 5) (pv 6) (fun _ _ => rfl)) (pe_op op_mulD (pv 4) (pe_dget (hu_of hr) (pe_fld (pv 0) rfl) (pv 6) (fun _ _ => rfl))))))))))))), fun p numbers905 many906 => (atB [some (.ref p.S), some numbers905, some many906, none, none, none, none] (rb_seq (rn_set (ev_var rfl) h1N) fun first907 => (atB [some (.ref p.S), some numbers905, some many906, some first907, none, none, none] (rb_seq (rn_ifS [3] (et_T (ev_op rv_ge (ev_var rfl) (ev_op rv_add (ev_fldR M.k_tail rfl) (ev_fldR M.k_turn rfl)))) (atN [some (.ref p.S), some numbers905, some many906, some first907, none, none, none] (rn_last (rn_set (ev_op rv_add (ev_fldR M.k_tail rfl) (ev_op rv_mod (ev_op rv_sub (ev_var rfl) (ev_fldR M.k_tail rfl)) (ev_fldR M.k_turn rfl))) h1N) fun first908 => (atN [some (.ref p.S), some numbers905, some many906, some first908, none, none, none] (rn_end (by exact ⟨rfl, ⟨rfl, ⟨rfl, ⟨rfl, True.intro⟩⟩⟩⟩) rfl)))) (atN [some (.ref p.S), some numbers905, some many906, some first907, none, none, none] (rn_end (by exact ⟨rfl, ⟨rfl, ⟨rfl, ⟨rfl, True.intro⟩⟩⟩⟩) rfl))) (rb_ar1 fun first909 => (atB [some (.ref p.S), some numbers905, some many906, some first909, none, none, none] (rb_seq (rn_set (ev_op rv_fdiv (ev_op rv_sub (ev_var rfl) (ev_var rfl)) (ev_fldR M.k_turn rfl)) h1N) fun turns910 => (atB [some (.ref p.S), some numbers905, some many906, some first909, some turns910, none, none] (rb_seq (rn_set (ev_call (ea_cons (ev_methR rfl rfl (ea_cons (ev_var rfl) ea_nil)) (ea_cons (ev_var rfl) ea_nil))) h1N) fun found911 => (atB [some (.ref p.S), some numbers905, some many906, some first909, some turns910, some found911, none] (rb_ret (ev_r0 (ρ' := [some p.D, some numbers905, some many906, some first909, some turns910, some found911, none]) (fun O σ H E => E.rep0 (i := 0) rfl) (ev_dcK rfl tg_name (by decide) hvN (ev_ar1 fun name912 => (atE [some p.D, some numbers905, some many906, some first909, some turns910, some found911, some name912] (ev_var rfl))) (ev_ar1 fun name912 => (atE [some p.D, some numbers905, some many906, some first909, some turns910, some found911, some name912] (ev_op rv_add (ev_dget (ev_var rfl) (ev_var rfl)) (ev_op rv_mul (ev_var rfl) (ev_dget (ev_fld M.k_growth (ev_var rfl)) (ev_var rfl)))))))))))))))))))⟩
theorem ok_behind (M : Fx K mg cl T) {f : Addr} {fd : FuncData} (F : FnP K "behind" "Repeated.behind" s_behind f fd) : FnOk P w K mg base L2.CX0 3 f fd ["self", "numbers", "many"] (spRep (gm K cl T) m_behind) := by
  obtain ⟨fp, fdp, FP, hp⟩ := M.m_power
  have G : FnOk P w K mg base L2.CX0 2 fp fdp ["self", "many"] (spRep (gm K cl T) m_power) := ok_power M FP
  have bp : L2.Binds K fdp ["self", "many"] [] := FP.bindsN fun _ _ _ _ _ _ us hl => match us, hl with | [_, _], _ => rfl
  refine F.ok sc_behind (fun vs H Q E h => ?_) fun cdv A outer s H vs Q E hr h => ?_
  · obtain ⟨p, ds, d, O, en, il, em, q⟩ := h
    rw [← il.length]
    match ds, em with
    | [_, _], _ => rfl
  · obtain ⟨t, ht, hR⟩ := tm_behind (base := base) (f := f) M G hp bp cdv A outer s H E hr
    obtain ⟨p, ds, d, O, en, il, em, q⟩ := h
    match ds, em, il with
    | [numbers905, many906], em, il =>
      exact ⟨t, PSs.nox ht, hR p numbers905 many906 d em H O O _ H _ ⟨entryR en il, R.refl, fun _ h => h, fun i c b z => by cases z⟩ fun v H' k i => q v H' k i⟩
end
end Z

namespace Z
open PySem PySem.Spec PyProof.Rows L2 NdefX LamX
theorem putF_new {f : Str} {y : V} : ∀ {fs : List (Str × V)}, (∀ q ∈ fs, q.1 ≠ f) → putF f y fs = fs ++ [(f, y)]
  | [], _ => rfl
  | (k, x) :: fs, h => by
    unfold putF
    rw [if_neg (h (k, x) List.mem_cons_self), putF_new fun q hq => h q (List.mem_cons_of_mem _ hq)]
    rfl
abbrev f1 (vp : V) : List (Str × V) := [("push", vp)]
abbrev f2 (vp : V) (a : Int) : List (Str × V) := [("push", vp), ("tail", .int a)]
abbrev f3 (vp : V) (a b : Int) : List (Str × V) := [("push", vp), ("tail", .int a), ("turn", .int b)]
abbrev f4 (vp : V) (a b : Int) (pw : Addr) : List (Str × V) := [("push", vp), ("tail", .int a), ("turn", .int b), ("powers", .ref pw)]
abbrev f5 (vp : V) (a b : Int) (pw : Addr) (vg : V) : List (Str × V) := [("push", vp), ("tail", .int a), ("turn", .int b), ("powers", .ref pw), ("growth", vg)]
theorem putf2 (vp : V) (a : Int) : putF "tail" (.int a) (f1 vp) = f2 vp a := by
  rw [putF_new]
  · rfl
  · intro q hq
    simp only [List.mem_cons, List.not_mem_nil, or_false] at hq
    subst hq
    dsimp only
    decide +kernel
theorem putf3 (vp : V) (a b : Int) : putF "turn" (.int b) (f2 vp a) = f3 vp a b := by
  rw [putF_new]
  · rfl
  · intro q hq
    simp only [List.mem_cons, List.not_mem_nil, or_false] at hq
    rcases hq with rfl | rfl <;> (dsimp only; decide +kernel)
theorem putf4 (vp : V) (a b : Int) (pw : Addr) : putF "powers" (.ref pw) (f3 vp a b) = f4 vp a b pw := by
  rw [putF_new]
  · rfl
  · intro q hq
    simp only [List.mem_cons, List.not_mem_nil, or_false] at hq
    rcases hq with rfl | rfl | rfl <;> (dsimp only; decide +kernel)
theorem putf5 (vp vg : V) (a b : Int) (pw : Addr) : putF "growth" vg (f4 vp a b pw) = f5 vp a b pw vg := by
  rw [putF_new]
  · rfl
  · intro q hq
    simp only [List.mem_cons, List.not_mem_nil, or_false] at hq
    rcases hq with rfl | rfl | rfl | rfl <;> (dsimp only; decide +kernel)
/-- what __init__ leaves of the heap -/
structure InitR (g : Gm) (S : Addr) (H H' : Hp) : Prop where
  keep : ∀ b o, H b = some o → (∀ ps, o ≠ .tbl ps) → b ≠ S → H' b = some o
  free : ∀ b, H' b = none → H b = none
  tabs : TabsN g.T H → TabsN g.T H'
  tb : ∀ b ps, H b = some (.tbl ps) → ∃ qs, H' b = some (.tbl qs)
section
variable {g : Gm} {S : Addr} {H H1 H2 : Hp}
theorem InitR.refl : InitR g S H H := ⟨fun b o e _ _ => e, fun b e => e, fun t => t, fun b ps e => ⟨ps, e⟩⟩
theorem InitR.go (i : InitR g S H H1) (k : R0 g H1 H2) : InitR g S H H2 :=
  ⟨fun b o e n h => k.keep b o (i.keep b o e n h) n, fun b e => i.free b (k.free b e), fun t => k.tabs (i.tabs t), fun b ps e => by obtain ⟨qs, e1⟩ := i.tb b ps e; exact k.tb b qs e1⟩
theorem InitR.put (i : InitR g S H H1) {C dx : Addr} {fs fs' : List (Str × V)} (e : H1 S = some (.ins C dx fs)) : InitR g S H (upd H1 S (.ins C dx fs')) :=
  ⟨fun b o e1 n h => by rw [upd_ne h]; exact i.keep b o e1 n h, fun b e1 => i.free b (upd_none e1), fun t => tabs_upd (i.tabs t) e (fun _ z => by cases z) (fun _ z => by cases z), fun b ps e1 => by
    obtain ⟨qs, e2⟩ := i.tb b ps e1
    have nb : b ≠ S := fun z => by subst z; rw [e] at e2; cases e2
    exact ⟨qs, by rw [upd_ne nb]; exact e2⟩⟩
end
def fGr : List Str := [("push" : Str), ("tail" : Str), ("turn" : Str)]
def b_mkRepeated (push : D) : Option D := ock (flatD push) (ob (ob (ob (lCons (some push) (some [])) m_raw_tail) asI) fun tail => ob (ob (ob (lCons (some push) (some [])) m_raw_turn) asI) fun turn => ob (powO push 0) fun _ =>
  ob (ob (dkeys push) (dcO un1 1 (ar1 fun n => some n) (ar1 fun n => ob (lCons (some (.ins 2 fGr [push, .int tail, .int turn])) (lCons (some n) (some []))) m_grown))) fun growth => ock (flatD growth) (some (.ins 2 fRep [push, .int tail, .int turn, growth])))
def mkRepeated : List D → Option D := ar1 b_mkRepeated
def spInit (g : Gm) : Sp := fun vs H Q _ => ∃ (S dx : Addr) (push d : D) (vp : V), vs = [.ref S, vp] ∧ H S = some (.ins (g.cl 2) dx []) ∧ DictAt g H push vp ∧ TabsN g.T H ∧ mkRepeated [push] = some d ∧
  ∀ (p : RepP) (H' : Hp), p.S = S → p.D = d → RepJ g p H' → H p.pw = none → (∀ b, RepA p H' b → b = S ∨ vp = .ref b ∨ H b = none) → InitR g S H H' → Q .non H'
/-- a state within __init__ -/
structure InitS (g : Gm) (S dx : Addr) (push : D) (vp : V) (H : Hp) (fs : List (Str × V)) (H' : Hp) : Prop where
  i : InitR g S H H'
  s : H' S = some (.ins (g.cl 2) dx fs)
  d : DictAt g H' push vp
  t : TabsN g.T H'
def nI : List Str := ["self", "push", "name"]
/-- all that was there is hidden, but for the push -/
def OI (H : Hp) (vp : V) (b : Addr) : Prop := H b ≠ none ∧ vp ≠ .ref b
section
variable {g : Gm} {S dx : Addr} {push : D} {vp : V} {H H' H'' : Hp} {fs fs' : List (Str × V)}
theorem InitS.go (a : InitS g S dx push vp H fs H') (k : R0 g H' H'') : InitS g S dx push vp H fs H'' :=
  ⟨a.i.go k, k.keep _ _ a.s (fun _ z => by cases z), a.d.mv0 fun b o e f => k.keep b o e f.sol.2.2.2, k.tabs a.t⟩
theorem InitS.put (a : InitS g S dx push vp H fs H') : InitS g S dx push vp H fs' (upd H' S (.ins (g.cl 2) dx fs')) :=
  ⟨a.i.put a.s, upd_same, a.d.mv0 fun b o e f => by
    rw [upd_ne]
    · exact e
    · intro z; subst z; rw [a.s] at e; exact f.sol.2.2.1 _ _ _ (Option.some.inj e).symm, tabs_upd a.t a.s (fun _ z => by cases z) (fun _ z => by cases z)⟩
theorem InitS.env (a : InitS g S dx push vp H fs H') : Env g (r0 g) (OI H vp) (L2.start nI [.ref S, vp]) H' [some (.ref S), some push, none] none :=
  entryE (N := nI) (ds := [.ref S, push]) (fun b h z => h.1 (a.i.free b z)) a.t ⟨_, _, rfl, rfl, _, _, rfl, a.d.is fun b e h => h.2 e, rfl⟩
end
section
variable {P : Program} {w : World} {K : PySem.W.Frag} {mg : Str → Option Value} {base : Heap} {cl : Nat → Addr} {T : List NTab}
abbrev s_init : Stmt := inClass (topS 33) 0
theorem sc_init : FnScope ["self", "push", "name"] ["self", "push"] (defScope s_init) := ⟨rfl, rfl, rfl, by decide +kernel, rfl, by decide +kernel, by decide +kernel⟩
theorem ok_init (M : Fx K mg cl T) {f : Addr} {fd : FuncData} (F : FnP K "__init__" "Repeated.__init__" s_init f fd) : FnOk P w K mg base L2.CX0 4 f fd ["self", "push"] (spInit (gm K cl T)) := by
  obtain ⟨fg, fdg, FG, hg⟩ := M.m_grown
  have G : FnOk P w K mg base L2.CX0 3 fg fdg ["self", "name"] (spD (gm K cl T) m_grown) := ok_grown M FG
  have bg : Binds K fdg ["self", "name"] [] := FG.bindsN fun _ _ _ _ _ _ us hl => match us, hl with | [_, _], _ => rfl
  refine F.ok sc_init (fun vs H Q E h => ?_) fun cdv A outer s H vs Q E hr h => ⟨_, PSs.nox (pss_cons (ps_fld (pv 0) (pv 1) rfl) (pss_cons (ps_fld (pv 0) (pe_cl (c_raw_tail M) hr (by decide) rfl (pa_cons (pv 1) pa_nil)) rfl) (pss_cons (ps_fld (pv 0) (pe_cl (c_raw_turn M) hr (by decide) rfl (pa_cons (pv 1) pa_nil)) rfl)
    (pss_cons (ps_fld (pv 0) (pe_lst (pa_cons (pe_lk (pe_dc (own := [("name", 2)]) rfl sc_init.nd (pi_keys (pv 1)) (blkOk_by (by kernel_rfl)) (fun _ _ _ _ _ => (pg_name (i := 2) sc_init.nd rfl (.inl rfl))) (fun _ _ _ _ _ => pts_nil) (fun _ _ _ _ _ => (pv 2)) (fun _ _ _ _ _ => (pe_tup (pa_cons (pv 2) (pa_cons pe_int pa_nil)))))) pa_nil)) rfl)
    (pss_one (ps_fld (pv 0) (pe_lk (pe_dc (own := [("name", 2)]) rfl sc_init.nd (pi_keys (pv 1)) (blkOk_by (by kernel_rfl)) (fun _ _ _ _ _ => (pg_name (i := 2) sc_init.nd rfl (.inl rfl))) (fun _ _ _ _ _ => pts_nil) (fun _ _ _ _ _ => (pv 2)) (fun _ _ _ _ _ => (pe_meth (pv 0) M.k_push.cl hg G hr bg .nil L2.pass0 (pa_cons (pv 2) pa_nil))))) rfl)))))), ?_⟩
  · obtain ⟨S, dx, push, d, vp, rfl, _⟩ := h
    rfl
  · obtain ⟨S, dx, push, d, vp, rfl, hS, hD, hT, em, q⟩ := h
    obtain ⟨fl, em⟩ := ock_some (show ock (flatD push) _ = some d from em)
    obtain ⟨tail, et, em⟩ := ob_some em
    obtain ⟨dt, et, ea⟩ := ob_some et
    obtain rfl := asI_some ea
    obtain ⟨turn, eu, em⟩ := ob_some em
    obtain ⟨du, eu, eb⟩ := ob_some eu
    obtain rfl := asI_some eb
    obtain ⟨p0, ep, em⟩ := ob_some em
    obtain ⟨growth, eg, em⟩ := ob_some em
    obtain ⟨flg, em⟩ := ock_some em
    cases em
    have ep0 := ep
    obtain ⟨p0', ep1, ep2⟩ := ob_some (show ob (ob (dkeys push) (dcO un1 1 (ar1 fun n => some n) (ar1 fun n => ob (lCons (some n) (lCons (some (.int 0)) (some []))) dtupD))) ckFlat = some p0 from ep)
    obtain ⟨flp, ep2⟩ := ock_some (show ock (flatD p0') (some p0') = some p0 from ep2)
    cases ep2
    have a0 : InitS (gm K cl T) S dx push vp H [] H := ⟨InitR.refl, hS, hD, hT⟩
    dsimp only [tSeq, sFld]
    refine ⟨vp, rfl, .ref S, rfl, S, cl 2, dx, [], rfl, hS, M.k_push.cl, M.k_push.no, by decide, ?_⟩
    have a1 : InitS (gm K cl T) S dx push vp H (f1 vp) (upd H S (.ins (cl 2) dx (f1 vp))) := a0.put
    change tCall _ _ _ _ _ (upd H S (.ins (cl 2) dx (f1 vp))) _
    generalize upd H S (.ins (cl 2) dx (f1 vp)) = H1 at a1 ⊢
    refine ev_call (g := gm K cl T) (r := r0 (gm K cl T)) (ea_cons (ev_var rfl) ea_nil) _ et _ _ H1 a1.env _ fun vt H2 k2 it => ?_
    obtain rfl : vt = V.int tail := it
    have a2 := a1.go k2.to0
    refine ⟨.ref S, rfl, S, cl 2, dx, _, rfl, a2.s, M.k_tail.cl, M.k_tail.no, by show 1 < 1000; decide, ?_⟩
    rw [putf2]
    have a3 : InitS (gm K cl T) S dx push vp H (f2 vp tail) (upd H2 S (.ins (cl 2) dx (f2 vp tail))) := a2.put
    generalize upd H2 S (.ins (cl 2) dx (f2 vp tail)) = H3 at a3 ⊢
    refine ev_call (g := gm K cl T) (r := r0 (gm K cl T)) (ea_cons (ev_var rfl) ea_nil) _ eu _ _ H3 a3.env _ fun vu H4 k4 iu => ?_
    obtain rfl : vu = V.int turn := iu
    have a4 := a3.go k4.to0
    refine ⟨.ref S, rfl, S, cl 2, dx, _, rfl, a4.s, M.k_turn.cl, M.k_turn.no, by show 2 < 1000; decide, ?_⟩
    rw [putf3]
    have a5 : InitS (gm K cl T) S dx push vp H (f3 vp tail turn) (upd H4 S (.ins (cl 2) dx (f3 vp tail turn))) := a4.put
    generalize upd H4 S (.ins (cl 2) dx (f3 vp tail turn)) = H5 at a5 ⊢
    have e5 : ob (lCons (ob (dkeys push) (dcO un1 1 (ar1 fun n => some n) (ar1 fun n => ob (lCons (some n) (lCons (some (.int 0)) (some []))) dtupD))) (some [])) dlstD = some (.lst [p0]) := by rw [ep1]; rfl
    refine ev_lst (g := gm K cl T) (r := r0 (gm K cl T)) (ea_cons (ev_dcK rfl tg_name (by decide) hvN (ev_ar1 fun n => (atE [some (.ref S), some push, some n] (ev_var rfl))) (ev_ar1 fun n => (atE [some (.ref S), some push, some n] (ev_tup (ea_cons (ev_var rfl) (ea_cons ev_int ea_nil)))))) ea_nil) _ e5 _ _ H5 a5.env _ fun vl H6 k6 il => ?_
    obtain ⟨pw, vs, rfl, nO, hpw, _, iv⟩ := il
    obtain ⟨v0, _, rfl, i0, rfl⟩ := iv
    have a6 := a5.go k6.to0
    refine ⟨.ref S, rfl, S, cl 2, dx, _, rfl, a6.s, M.k_powers.cl, M.k_powers.no, by show 3 < 1000; decide, ?_⟩
    rw [putf4]
    have hpS : pw ≠ S := fun z => by subst z; rw [a6.s] at hpw; cases hpw
    have d0 : DictAt (gm K cl T) H6 p0 v0 := DictAt.of flp i0
    have ds : ∀ b o, H6 b = some o → Flt o → upd H6 S (.ins (cl 2) dx (f4 vp tail turn pw)) b = some o := fun b o e f => by
      rw [upd_ne]
      · exact e
      · intro z; subst z; rw [a6.s] at e; exact f.sol.2.2.1 _ _ _ (Option.some.inj e).symm
    have d1 := d0.mv0 ds
    have hpw1 : upd H6 S (.ins (cl 2) dx (f4 vp tail turn pw)) pw = some (.lst [v0]) := by rw [upd_ne hpS]; exact hpw
    have a7 : InitS (gm K cl T) S dx push vp H (f4 vp tail turn pw) (upd H6 S (.ins (cl 2) dx (f4 vp tail turn pw))) := a6.put
    generalize upd H6 S (.ins (cl 2) dx (f4 vp tail turn pw)) = H7 at a7 d1 hpw1 ⊢
    have E7 : Env (gm K cl T) (r0 (gm K cl T)) (fun b => OI H vp b ∧ b ≠ S) (L2.start nI [.ref S, vp]) H7 [some (.ins 2 fGr [push, .int tail, .int turn]), some push, none] none := by
      refine entryE (N := nI) (ds := [.ins 2 fGr [push, .int tail, .int turn], push]) (fun b h z => h.1.1 (a7.i.free b z)) a7.t ⟨_, _, rfl, ?_, _, _, rfl, a7.d.is fun b e h => h.1.2 e, rfl⟩
      refine ⟨S, dx, _, [vp, .int tail, .int turn], rfl, fun h => h.2 rfl, a7.s, ⟨_, _, rfl, a7.d.is fun b e h => h.1.2 e, _, _, rfl, rfl, _, _, rfl, rfl, rfl⟩, rfl, fun f u h => ?_, fun f hf => ?_⟩
      · have hz : ∀ k : Str, (k = f) ∨ decide (k = f) = false := fun k => by
          by_cases z : k = f
          · exact .inl z
          · exact .inr (decide_eq_false z)
        unfold fGr at h
        rcases hz "push" with z | z1
        · subst z; exact h
        rcases hz "tail" with z | z3
        · subst z; exact h
        rcases hz "turn" with z | z5
        · subst z; exact h
        · unfold lookZ at h
          rw [z1] at h
          unfold lookZ at h
          rw [z3] at h
          unfold lookZ at h
          rw [z5] at h
          cases h
      · simp only [METHS, List.mem_cons, List.not_mem_nil, or_false] at hf
        rcases hf with rfl | rfl | rfl <;> rfl
    refine ev_dcK (g := gm K cl T) (i := 1) (js := [2]) (vs := [2]) rfl tg_name (by decide) hvN (ev_ar1 fun n => (atE [some (.ins 2 fGr [push, .int tail, .int turn]), some push, some n] (ev_var rfl))) (ev_ar1 fun n => (atE [some (.ins 2 fGr [push, .int tail, .int turn]), some push, some n] (ev_methD (c := 2) rfl (by decide +kernel) (ea_cons (ev_var rfl) ea_nil)))) _ eg _ _ H7 E7 _ fun vg H8 k8 ig => ?_
    have a8 := a7.go k8.to0
    have hpw8 : H8 pw = some (.lst [v0]) := k8.to0.keep _ _ hpw1 fun _ z => by cases z
    have d8 : DictAt (gm K cl T) H8 p0 v0 := d1.mv0 fun b o e f => k8.to0.keep b o e f.sol.2.2.2
    have dg : DictAt (gm K cl T) H8 growth vg := DictAt.of flg ig
    refine ⟨.ref S, rfl, S, cl 2, dx, _, rfl, a8.s, M.k_growth.cl, M.k_growth.no, by show 4 < 1000; decide, ?_⟩
    rw [putf5]
    have a9 : InitS (gm K cl T) S dx push vp H (f5 vp tail turn pw vg) _ := a8.put
    have k9 : ∀ b o, H8 b = some o → Flt o → upd H8 S (.ins (cl 2) dx (f5 vp tail turn pw vg)) b = some o := fun b o e f => by
      rw [upd_ne]
      · exact e
      · intro z; subst z; rw [a8.s] at e; exact f.sol.2.2.1 _ _ _ (Option.some.inj e).symm
    refine q ⟨S, pw, dx, push, growth, tail, turn, vp, vg⟩ _ rfl rfl ⟨a9.s, a9.d, dg.mv0 k9, [v0], by rw [upd_ne hpS]; exact hpw8, Nat.le_refl _, by show 1 ≤ 50001; decide, fun k v hk => ?_⟩ ?_ (fun b hb => ?_) a9.i
    · match k, hk with
      | 0, hk =>
        cases hk
        exact ⟨p0, ep0, d8.mv0 k9⟩
    · show H pw = none
      by_cases z : H pw = none
      · exact z
      · exfalso
        refine nO ⟨z, fun e => ?_⟩
        have q := a6.d
        rw [e] at q
        obtain ⟨o, e1, f⟩ := q.flt
        rw [hpw] at e1
        cases e1
        exact f
    · rcases hb with hb | hb | hb | ⟨ws, h1, h2⟩
      · exact .inl hb
      · exact .inr (.inl hb)
      · have hb : vg = .ref b := hb
        subst hb
        obtain ⟨ks, dds, a, us, rfl, z, _⟩ := dg
        cases z
        obtain ⟨a', _, z, na, _⟩ := ig
        cases z
        by_cases z1 : b = S
        · exact .inl z1
        · by_cases z2 : vp = .ref b
          · exact .inr (.inl z2)
          · by_cases z3 : H b = none
            · exact .inr (.inr z3)
            · exact absurd ⟨⟨z3, z2⟩, z1⟩ na
      · have h1 : upd H8 S (.ins (cl 2) dx (f5 vp tail turn pw vg)) pw = some (.lst ws) := h1
        rw [upd_ne hpS, hpw8] at h1
        cases h1
        have ev := List.mem_singleton.mp h2
        subst ev
        obtain ⟨ks, dds, a, us, rfl, z, _⟩ := d0
        cases z
        obtain ⟨a', _, z, na, _⟩ := i0
        cases z
        by_cases z2 : vp = .ref b
        · exact .inr (.inl z2)
        · by_cases z3 : H b = none
          · exact .inr (.inr z3)
          · exact absurd ⟨z3, z2⟩ na
/-- Repeated(..) -/
theorem pe_mkRepeated {X : Cx} {j : Nat} {e : Expr} {es : List Expr} {t : TA} {p pos : Pos} (hK : X.K = K) (hmg : X.mg = mg) (M : Fx K mg cl T) (hr : Room j X.A) (hk : 5 ≤ j) (hg : Gl X "Repeated") (ha : PA X (e :: es) t)
    (he : starEach (e :: es) X.env = (false, eval e X.env) :: starEach es X.env := by rfl) (hpl : (backTo pos (starEach es X.env)).any (·.1) = false := by rfl) :
    PE X (.Call (.Name "Repeated" p) (e :: es) [] pos) (tMake (cl 2) (spInit (gm K cl T)) [] L2.E0 t) := by
  subst hK
  subst hmg
  obtain ⟨f, fd, F, mk, hm⟩ := M.mk_Repeated
  have b : Binds X.K fd ["self", "push"] [] := F.bindsN fun _ _ _ _ _ _ us hl => match us, hl with | [_, _], _ => rfl
  exact pe_make mk (ok_init (P := X.prog) (w := X.w) (base := X.base) M F) (hr.mono hk) hg hm b .nil L2.pass0 ha (by decide) he hpl
theorem run_mkRep {O : Addr → Prop} {σ : L2.St} {H : Hp} {ρ : Rho} {t : TA} {ms : Option (List D)} {d : D} {E0 : XK} (h : EvA (gm K cl T) (r0 (gm K cl T)) t ρ none ms) (e : ob ms mkRepeated = some d) (E : Env (gm K cl T) (r0 (gm K cl T)) O σ H ρ none) (Q : VK)
    (q : ∀ (p : RepP) (H' : Hp), p.D = d → R0 (gm K cl T) H H' → RepJ (gm K cl T) p H' → H p.pw = none → (∀ b, RepA p H' b → ¬ O b) → Q (.ref p.S) H') : tMake (cl 2) (spInit (gm K cl T)) [] E0 t σ H Q := by
  obtain ⟨ds, e1, e⟩ := ob_some e
  match ds, e1, e with
  | [push], e1, e =>
    refine h _ e1 O σ H E _ fun vs H1 k1 i1 => ?_
    have E1 := E.go k1
    obtain ⟨vp, _, rfl, ip, rfl⟩ := i1
    intro x dx hx hdx hne
    have hx2 : upd H1 dx (.own x) x = none := by rw [upd_ne (Ne.symm hne)]; exact hx
    have k2 : R0 (gm K cl T) H1 (upd H1 dx (.own x)) := R0.new hdx fun _ z => by cases z
    have k3 : R0 (gm K cl T) (upd H1 dx (.own x)) (upd (upd H1 dx (.own x)) x (.ins (cl 2) dx [])) := R0.new hx2 fun _ z => by cases z
    have kk := k2.trans k3
    obtain ⟨fl, _⟩ := ock_some (show ock (flatD push) _ = some d from e)
    have hD : DictAt (gm K cl T) H1 push vp := DictAt.of fl ip
    refine ⟨x, dx, push, d, vp, rfl, upd_same, hD.mv0 fun b o e f => kk.keep b o e f.sol.2.2.2, kk.tabs E1.tabs, e, fun p H' eS eD J hpw hA i => ⟨rfl, ?_⟩⟩
    have hQ : R0 (gm K cl T) H1 H' := by
      refine ⟨fun b o e n => i.keep b o (kk.keep b o e n) n (ne_of_none e hx), fun b e => kk.free b (i.free b e), fun t => i.tabs (kk.tabs t), fun b ps e => ?_⟩
      obtain ⟨qs, e1⟩ := kk.tb b ps e
      exact i.tb b qs e1
    have hp : H p.pw = none := k1.free _ (kk.free _ hpw)
    have hq := q p H' eD (k1.to0.trans hQ) J hp fun b hb => ?_
    · rw [eS] at hq
      exact hq
    · rcases hA b hb with z | z | z
      · subst z; exact fun o => E1.hid _ o hx
      · subst z
        obtain ⟨ks, dds, a, us, rfl, z, _⟩ := hD
        cases z
        obtain ⟨a', _, z, na, _⟩ := ip
        cases z
        exact na
      · exact fun o => E1.hid _ o (kk.free _ z)
end
end Z

namespace Z
open PySem PySem.Spec PyProof.Rows L2 NdefX LamX
/-- the cells of these names as they stand -/
def cellsL (h : Heap) (cells : List (Str × Addr)) : List Str → List (Addr × Obj)
  | [] => []
  | y :: ys => match cells.lookup y with
    | some c => (match h.get? c with
      | some o => (c, o) :: cellsL h cells ys
      | none => cellsL h cells ys)
    | none => cellsL h cells ys
section
variable {h : Heap} {cells : List (Str × Addr)}
theorem cellsL_mem : ∀ {ys : List Str} {b : Addr} {o : Obj}, (b, o) ∈ cellsL h cells ys → h.get? b = some o ∧ ∃ y, y ∈ ys ∧ cells.lookup y = some b
  | [], _, _, e => by cases e
  | y :: ys, b, o, e => by
    unfold cellsL at e
    cases e1 : cells.lookup y with
    | none =>
      rw [e1] at e
      obtain ⟨h1, z, h2, h3⟩ := cellsL_mem e
      exact ⟨h1, z, List.mem_cons_of_mem _ h2, h3⟩
    | some c =>
      rw [e1] at e
      have e : (b, o) ∈ (match h.get? c with | some o => (c, o) :: cellsL h cells ys | none => cellsL h cells ys) := e
      cases e2 : h.get? c with
      | none =>
        rw [e2] at e
        obtain ⟨h1, z, h2, h3⟩ := cellsL_mem e
        exact ⟨h1, z, List.mem_cons_of_mem _ h2, h3⟩
      | some o' =>
        rw [e2] at e
        rcases List.mem_cons.mp e with z | z
        · cases z
          exact ⟨e2, y, List.mem_cons_self, e1⟩
        · obtain ⟨h1, z, h2, h3⟩ := cellsL_mem z
          exact ⟨h1, z, List.mem_cons_of_mem _ h2, h3⟩
theorem cellsL_get : ∀ {ys : List Str} {y : Str} {c : Addr} {o : Obj}, y ∈ ys → cells.lookup y = some c → h.get? c = some o → (cellsL h cells ys).lookup c = some o
  | [], _, _, _, e, _, _ => by cases e
  | z :: ys, y, c, o, hy, hc, ho => by
    have rest : z ≠ y → (cellsL h cells ys).lookup c = some o := fun n => cellsL_get ((List.mem_cons.mp hy).elim (fun e => absurd e.symm n) id) hc ho
    unfold cellsL
    cases e1 : cells.lookup z with
    | none => exact rest fun e => by rw [e, hc] at e1; cases e1
    | some c1 =>
      show (match h.get? c1 with | some o => (c1, o) :: cellsL h cells ys | none => cellsL h cells ys).lookup c = some o
      cases e2 : h.get? c1 with
      | none =>
        refine rest fun e => ?_
        rw [e, hc] at e1
        cases e1
        rw [ho] at e2
        cases e2
      | some o1 =>
        show ((c1, o1) :: cellsL h cells ys).lookup c = some o
        by_cases hcc : c = c1
        · subst hcc
          rw [ho] at e2
          cases e2
          simp [List.lookup]
        · have : (c == c1) = false := beq_eq_false_iff_ne.mpr hcc
          show (match c == c1 with | true => some o1 | false => (cellsL h cells ys).lookup c) = some o
          rw [this]
          refine rest fun e => ?_
          rw [e, hc] at e1
          exact hcc (Option.some.inj e1)
end
theorem ev_methRP {g : Gm} {p : RepP} {S : Addr → Prop} {es : List D} {wv : List V} {ρ : Rho} {t : TA} {ms : Option (List D)} {E0 : XK} {i : Nat} {m : Str} {f : List D → Option D} (hi : ρ[i]? = some (some (.ref p.S))) (hm : p.fs.lookup m = none) (h : EvA g (rPlus (rRep g p) S es wv) t ρ none ms) :
    EvO g (rPlus (rRep g p) S es wv) (tMeth (g.cl 2) m (spRep g f) [] E0 (tVar i) t) ρ none (ob (lCons (some p.D) ms) f) := fun d e O σ H E Q q => by
  obtain ⟨xs, e1, e⟩ := ob_some e
  obtain ⟨x, ds, ex, e2, rfl⟩ := lCons_some e1
  cases ex
  obtain ⟨v, hv, iv⟩ := E.at_ i _ hi
  obtain rfl : v = V.ref p.S := iv
  have j : RepJ g p H := E.J.1
  refine ⟨_, hv, p.S, p.dx, p.fs, rfl, j.hS, hm, h ds e2 O σ H E _ fun us H1 k1 i1 => ?_⟩
  rw [List.append_nil]
  have en := (E.go k1).ent
  exact ⟨p, ds, d, O, ⟨en.sub, en.hid, fun b a => en.out b (.inl a), en.tabs, en.J.1⟩, ⟨_, _, rfl, rfl, i1⟩, e, fun v H2 k2 i2 => q v H2 (k1.trans (R.plus en.J k2)) i2⟩
section
variable {P : Program} {w : World} {K : PySem.W.Frag} {mg : Str → Option Value} {base : Heap} {cl : Nat → Addr} {T : List NTab}
abbrev s_rounds_done : Stmt := topS 68
abbrev s_nb : Stmt := (defBody (topS 68)).getD 0 (.Pass ⟨0, 0, 0, 0⟩)
def nNB : List Str := ["given", "own", "table", "at", "repeated", "numbers", "found", "name"]
def frNB : List Str := ["own", "table", "at", "repeated"]
theorem sc_nb : NScB nNB ["given"] frNB (C8.fnScope s_nb) := nscb_by (by decide +kernel)
def b_numbers_behind (own table at_ self given : D) : Option D := ob (ob (lCons (some table) (lCons (some given) (some []))) m_raw_value) fun numbers => ob (ob (lCons (some self) (lCons (o2 ddictzip (some own) (some numbers)) (lCons (o2 dixS (some numbers) (some at_)) (some [])))) m_behind) fun found =>
  ob (lCons (ob (ob (some own) ditems) (lcO un1 1 (ar1 fun name => o2 ddget (some found) (some name)))) (some [])) (d1 dtupS)
def fnRD (own table at_ self : D) : List D → Option D := ar1 (b_numbers_behind own table at_ self)
theorem tm_nb (M : Fx K mg cl T) {qual : Str} {cls : List (Str × Addr)} {c' f : Addr} (A : Around) (outer : List PySem.Env) (s : Shared) (H : Hp) (hr : Room 10 (A.deeper (envB (NF.of s_nb "numbers_behind" qual cls c') f s.heap.objs.size))) :
    ∃ t, PSs (ncxB L2.CX0 P w K mg base nNB (NF.of s_nb "numbers_behind" qual cls c') f A outer s H L2.E0) (C8.fnBody s_nb) t ∧
      ∀ (p : RepP) (S : Addr → Prop) (es : List D) (wv : List V) (own table at_ given : D), RdB (gm K cl T) (rPlus (rRep (gm K cl T) p) S es wv) t (rho0 nNB [given, own, table, at_, .ref p.S]) none (b_numbers_behind own table at_ p.D given) := by
  obtain ⟨fb, fdb, FB, hb⟩ := M.m_behind
  have G : FnOk P w K mg base L2.CX0 3 fb fdb ["self", "numbers", "many"] (spRep (gm K cl T) m_behind) := ok_behind M FB
  have bb : L2.Binds K fdb ["self", "numbers", "many"] [] := FB.bindsN fun _ _ _ _ _ _ us hl => match us, hl with | [_, _, _], _ => rfl
  exact ⟨_, (pss_cons (ps_set (i := 5) sc_nb.nd rfl (.inl rfl) (pe_cl (c_raw_value M) hr (by decide) rfl (pa_cons (pv 2) (pa_cons (pv 0) pa_nil))))
    (pss_cons (ps_set (i := 6) sc_nb.nd rfl (.inr rfl) (pe_meth (pv 4) M.k_push.cl hb (G.mono (by decide)) hr bb .nil L2.pass0 (pa_cons (pe_dictzip rfl rfl M.n_dict rfl M.n_zip (pa_cons (pv 1) (pa_cons (pv 5) pa_nil))) (pa_cons (pe_ix ix_seq (pv 5) (pv 3) (fun _ _ => rfl)) pa_nil))))
    (pss_one (ps_ret (pe_callTy call_tuple' (by rfl) M.n_tuple (by decide +kernel) (pa_cons (pe_lc (own := [("name", 7)]) rfl sc_nb.nd (pi_seq (pv 1)) (blkOk_by (by kernel_rfl)) (fun _ _ _ _ _ => (pg_name (i := 7) sc_nb.nd rfl (.inl rfl))) (fun _ _ _ _ _ => pts_nil) (fun _ _ _ _ _ => (pe_dget (hu_of hr) (pv 6) (pv 7) (fun _ _ => rfl)))) pa_nil)))))),
    fun p S es wv own table at_ given => (atB [some given, some own, some table, some at_, some (.ref p.S), none, none, none] (rb_seq (rn_set (ev_call (ea_cons (ev_var rfl) (ea_cons (ev_var rfl) ea_nil))) h1N) fun numbers =>
      (atB [some given, some own, some table, some at_, some (.ref p.S), some numbers, none, none] (rb_seq (rn_set (ev_methRP rfl rfl (ea_cons (ev_dictzip (ev_var rfl) (ev_var rfl)) (ea_cons (ev_ix (ev_var rfl) (ev_var rfl)) ea_nil))) h1N) fun found =>
      (atB [some given, some own, some table, some at_, some (.ref p.S), some numbers, some found, none] (rb_ret (ev_cb rc_tuple (ea_cons (ev_lc (it_seq (ev_var rfl)) tg_name (by decide) hvN (ev_ar1 fun name => (atE [some given, some own, some table, some at_, some (.ref p.S), some numbers, some found, some name] (ev_dget (ev_var rfl) (ev_var rfl))))) ea_nil))))))))⟩
/-- what rounds_done promises: a function that may be called -/
def spRD (P : Program) (w : World) (K : PySem.W.Frag) (mg : Str → Option Value) (base : Heap) (g : Gm) : Sp := fun vs H Q _ => ∃ (p : RepP) (own table at_ : D) (O : Addr → Prop) (vo vt va : V), vs = [vo, vt, va, .ref p.S] ∧ Ent g (rRep g p) O H ∧ IsL g O H [own, table, at_] [vo, vt, va] ∧ noLs [own, table, at_] = true ∧
  ∀ (r : Rl g) (f : Addr) (H' : Hp), Clb P w K mg base 12 g r f (fnRD own table at_ p.D) → (∀ b, r.L b → b = p.pw) → Ent g r O H' → R0 g H H' → Q (.ref f) H'
end
end Z

namespace Z
open PySem PySem.Spec PyProof.Rows L2 NdefX LamX
section
variable {P : Program} {w : World} {K : PySem.W.Frag} {mg : Str → Option Value} {base : Heap} {cl : Nat → Addr} {T : List NTab}
def nRD : List Str := ["own", "table", "at", "repeated", "numbers_behind"]
theorem sc_rounds_done : FnScope nRD frNB (defScope (topS 68)) := ⟨rfl, rfl, rfl, by decide +kernel, rfl, by decide +kernel, by decide +kernel⟩
theorem nb_bind {qual : Str} {cells : List (Str × Addr)} {c' : Addr} (doc pm ctv : Value) (us : List Value) (h : us.length = ["given"].length) : bindArgs ((NF.of s_nb "numbers_behind" qual cells c').fd doc pm ctv) ⟨us, []⟩ = pure ((["given"] : List Str).zip us) :=
  match us, h with | [_], _ => rfl
theorem clo_nb (cells : List (Str × Addr)) : cloFrom cells (C8.fnScope s_nb).names [] = [(("table" : Str), (cells.lookup ("table" : Str)).getD 0), (("repeated" : Str), (cells.lookup ("repeated" : Str)).getD 0), (("own" : Str), (cells.lookup ("own" : Str)).getD 0), (("at" : Str), (cells.lookup ("at" : Str)).getD 0)] := rfl
/-- at the frame's end -/
theorem rd_exit (M : Fx K mg cl T) {f : Addr} {cdv : Value} {A : Around} {outer : List PySem.Env} {s s3 : Shared} {H H1 : Hp} {E : XK} {Q : VK} {p : RepP} {own table at_ : D} {O : Addr → Prop} {vo vt va : V} {f1 c' : Addr} {u : Value}
    (I : Inv (cxOf L2.CX0 P w K mg base nRD "rounds_done" (defScope (topS 68)) f cdv A outer s H E) [] [some vo, some vt, some va, some (.ref p.S), some (.ref f1)] H1 s3) (rv : RelV (.ref f1) u)
    (en : Ent (gm K cl T) (rRep (gm K cl T) p) O H) (il : IsL (gm K cl T) O H [own, table, at_] [vo, vt, va]) (nl : noLs [own, table, at_] = true) (eN : ExtN H H1) (fr : ∀ b, H1 b = none → H b = none) (T1 : TabsN T H1)
    (hf : H1 f1 = some (FnO f1 (NF.of s_nb "numbers_behind" ("rounds_done" ++ ".<locals>." ++ "numbers_behind") (cloFrom (cellsFrom (s.heap.objs.size + 1) (defScope (topS 68)).names []) (C8.fnScope s_nb).names []) c'))) (hc : H1 c' = some (CodeO c' ("rounds_done" ++ ".<locals>." ++ "numbers_behind")))
    (hQ : ∀ (r : Rl (gm K cl T)) (f : Addr) (H' : Hp), Clb P w K mg base 12 (gm K cl T) r f (fnRD own table at_ p.D) → (∀ b, r.L b → b = p.pw) → Ent (gm K cl T) r O H' → R0 (gm K cl T) H H' → Q (.ref f) H') : CE outer P w H s Q u s3 := by
  have k01 : R0 (gm K cl T) H H1 := ⟨fun b o e n => eN b o e n, fr, fun _ => T1, fun b ps e => by
    obtain ⟨more, h⟩ := I.base.tbls b ps e
    exact ⟨_, h⟩⟩
  have hmem : ∀ b o, (cellsL s3.heap (cellsFrom (s.heap.objs.size + 1) (defScope (topS 68)).names []) frNB).lookup b = some o → s3.heap.get? b = some o ∧ ∃ y, y ∈ frNB ∧ (cellsFrom (s.heap.objs.size + 1) (defScope (topS 68)).names []).lookup y = some b := fun b o e => cellsL_mem (lk_mem e)
  have hkc : ∀ y, y ∈ frNB → (defScope (topS 68)).names.lookup y = some NameKind.cell := by
    have : frNB.all (fun y => decide ((defScope (topS 68)).names.lookup y = some NameKind.cell)) = true := by decide +kernel
    intro y hy
    exact of_decide_eq_true (List.all_eq_true.mp this y hy)
  have cget : ∀ (i : Nat) (y : Str) (v : V), nRD[i]? = some y → y ∈ frNB → ([some vo, some vt, some va, some (.ref p.S), some (.ref f1)] : L2.St)[i]? = some (some v) →
      ∃ c o u, (cellsFrom (s.heap.objs.size + 1) (defScope (topS 68)).names []).lookup y = some c ∧ (cellsL s3.heap (cellsFrom (s.heap.objs.size + 1) (defScope (topS 68)).names []) frNB).lookup c = some o ∧ RelV v u ∧ o.data = .cell (some u) := fun i y v hN hy hσ => by
    obtain ⟨m, hns, hl⟩ := I.loc
    obtain ⟨ut, rt, lk⟩ := hl i y v hN hσ (.inr (.inl (hkc y hy)))
    rcases lk with ⟨z, _⟩ | ⟨_, c, hc, o, ho, hd⟩
    · have z' : (defScope (topS 68)).names.lookup y = some .local := z
      rw [hkc y hy] at z'
      cases z'
    · exact ⟨c, o, ut, hc, cellsL_get hy hc ho, rt, hd⟩
  have ao : AddOk base outer s3 H1 (cellsL s3.heap (cellsFrom (s.heap.objs.size + 1) (defScope (topS 68)).names []) frNB) := by
    refine ⟨fun b o e => (hmem b o e).1, fun b o e => ?_, fun b o e => ?_, fun b o e z => ?_⟩
    · obtain ⟨_, y, hy, hcc⟩ := hmem b o e
      exact I.freeC y b hcc
    · obtain ⟨_, y, hy, hcc⟩ := hmem b o e
      exact Heap.get?_none_of_le (Nat.le_trans I.ok.bsz (I.ok.cab y b rfl hcc))
    · obtain ⟨_, y, hy, hcc⟩ := hmem b o e
      obtain ⟨_, o2, ho2, _⟩ := I.ok.funs.mem z
      exact absurd (Nat.lt_of_lt_of_le (Heap.lt_size ho2) (I.ok.cab y b rfl hcc)) (Nat.lt_irrefl _)
  have ab : ∀ b o, (cellsL s3.heap (cellsFrom (s.heap.objs.size + 1) (defScope (topS 68)).names []) frNB).lookup b = some o → s.heap.objs.size ≤ b := fun b o e => by
    obtain ⟨_, y, hy, hcc⟩ := hmem b o e
    exact I.ok.cab y b rfl hcc
  have cj0 : ∀ y c, (cloFrom (cellsFrom (s.heap.objs.size + 1) (defScope (topS 68)).names []) (C8.fnScope s_nb).names []).lookup y = some c → y ∈ frNB ∧ (cellsFrom (s.heap.objs.size + 1) (defScope (topS 68)).names []).lookup y = some c := fun y c e => by
    rw [clo_nb] at e
    have e := PySem.mem_of_lookup e
    have key : ∀ z, z ∈ frNB → ((cellsFrom (s.heap.objs.size + 1) (defScope (topS 68)).names []).lookup z) = some (((cellsFrom (s.heap.objs.size + 1) (defScope (topS 68)).names []).lookup z).getD 0) := fun z hz => by
      obtain ⟨c, e⟩ := I.ok.has z (.inl (hkc z hz))
      have e : (cellsFrom (s.heap.objs.size + 1) (defScope (topS 68)).names []).lookup z = some c := e
      rw [e]
      rfl
    simp only [List.mem_cons, Prod.mk.injEq, List.not_mem_nil, or_false] at e
    rcases e with ⟨rfl, rfl⟩ | ⟨rfl, rfl⟩ | ⟨rfl, rfl⟩ | ⟨rfl, rfl⟩
    · exact ⟨by decide +kernel, key _ (by decide +kernel)⟩
    · exact ⟨by decide +kernel, key _ (by decide +kernel)⟩
    · exact ⟨by decide +kernel, key _ (by decide +kernel)⟩
    · exact ⟨by decide +kernel, key _ (by decide +kernel)⟩
  have cj1 : ∀ y c, y ∈ frNB → (cellsFrom (s.heap.objs.size + 1) (defScope (topS 68)).names []).lookup y = some c → (cloFrom (cellsFrom (s.heap.objs.size + 1) (defScope (topS 68)).names []) (C8.fnScope s_nb).names []).lookup y = some c := fun y c hy e => by
    rw [clo_nb]
    have hy : y = "own" ∨ y = "table" ∨ y = "at" ∨ y = "repeated" := by
      unfold frNB at hy
      simp only [List.mem_cons, List.not_mem_nil, or_false] at hy
      exact hy
    rcases hy with rfl | rfl | rfl | rfl
    all_goals
      rw [e]
      rfl
  have cd : CelD (cloFrom (cellsFrom (s.heap.objs.size + 1) (defScope (topS 68)).names []) (C8.fnScope s_nb).names []) frNB [vo, vt, va, .ref p.S] (cellsL s3.heap (cellsFrom (s.heap.objs.size + 1) (defScope (topS 68)).names []) frNB) := by
    have gi : ∀ (i : Nat) (y : Str) (v : V), frNB[i]? = some y → ([vo, vt, va, .ref p.S] : List V)[i]? = some v → nRD[i]? = some y ∧ y ∈ frNB ∧ ([some vo, some vt, some va, some (.ref p.S), some (.ref f1)] : L2.St)[i]? = some (some v) := fun i y v e1 e2 => by
      match i, e1, e2 with
      | 0, e1, e2 => cases e2; exact ⟨e1, List.mem_of_getElem? e1, rfl⟩
      | 1, e1, e2 => cases e2; exact ⟨e1, List.mem_of_getElem? e1, rfl⟩
      | 2, e1, e2 => cases e2; exact ⟨e1, List.mem_of_getElem? e1, rfl⟩
      | 3, e1, e2 => cases e2; exact ⟨e1, List.mem_of_getElem? e1, rfl⟩
      | i + 4, e1, e2 => simp at e2
    refine ⟨rfl, fun y c e => ?_, fun x y c e1 e2 => I.ok.inj x y c (cj0 x c e1).2 (cj0 y c e2).2, fun i y v e1 e2 => ?_⟩
    · obtain ⟨hy, e1⟩ := cj0 y c e
      obtain ⟨i, hi⟩ := List.mem_iff_getElem?.mp hy
      have hv : ∃ v, ([vo, vt, va, .ref p.S] : List V)[i]? = some v := by
        match i, hi with
        | 0, _ => exact ⟨_, rfl⟩
        | 1, _ => exact ⟨_, rfl⟩
        | 2, _ => exact ⟨_, rfl⟩
        | 3, _ => exact ⟨_, rfl⟩
        | i + 4, hi => simp [frNB] at hi
      obtain ⟨v, hv⟩ := hv
      obtain ⟨g1, g2, g3⟩ := gi i y v hi hv
      obtain ⟨c2, o, u, h1, h2, h3, h4⟩ := cget i y v g1 g2 g3
      rw [e1] at h1
      cases h1
      exact ⟨o, _, h2, h4⟩
    · obtain ⟨g1, g2, g3⟩ := gi i y v e1 e2
      obtain ⟨c2, o, u, h1, h2, h3, h4⟩ := cget i y v g1 g2 g3
      exact ⟨c2, o, u, cj1 y c2 g2 h1, h2, h3, h4⟩
  generalize cellsL s3.heap (cellsFrom (s.heap.objs.size + 1) (defScope (topS 68)).names []) frNB = l at *
  have en1 := en.go (R.of0 k01)
  have enc : Ent (gm K cl T) (rRep (gm K cl T) p) O (addL H1 l) := en1.addL ao.no stbRep
  have il1 : IsL (gm K cl T) O H1 [own, table, at_] [vo, vt, va] := IsL.kp ((R.of0 (r := rRep (gm K cl T) p) k01).kp en.sub) _ _ il
  have ilc : IsL (gm K cl T) O (addL H1 l) [own, table, at_] [vo, vt, va] := IsL.addL ao.no il1
  have il4 : IsL (gm K cl T) O (addL H1 l) [own, table, at_, .ref p.S] [vo, vt, va, .ref p.S] := by
    have q : IsL (gm K cl T) O (addL H1 l) ([own, table, at_] ++ [.ref p.S]) ([vo, vt, va] ++ [.ref p.S]) := ilc.append (IsL.one rfl)
    exact q
  have nl4 : noLs [own, table, at_, .ref p.S] = true := by
    unfold noLs noLs noLs noLs at nl ⊢
    rw [Bool.and_true] at nl
    show (noL own && (noL table && (noL at_ && (noL (.ref p.S) && noLs [])))) = true
    rw [show noL (.ref p.S) = true from rfl, show noLs [] = true from rfl]
    simpa using nl
  have enp : Ent (gm K cl T) (rPlus (rRep (gm K cl T) p) (Left O (addL H1 l)) [own, table, at_, .ref p.S] [vo, vt, va, .ref p.S]) O (addL H1 l) := enc.plus il4 nl4
  have k02 : R0 (gm K cl T) H (addL H1 l) := by
    refine ⟨fun b o e n => (add_old ao.no (k01.keep b o e n)).2, fun b e => ?_, fun _ => tabs_of (fun b o e _ => (add_old ao.no e).2) T1, fun b ps e => ?_⟩
    · rcases lk_cases l b with z | ⟨o', z⟩
      · rw [addL_out z] at e; exact fr b e
      · rw [addL_in z] at e; cases e
    · obtain ⟨qs, e1⟩ := k01.tb b ps e
      exact ⟨qs, (add_old ao.no e1).2⟩
  have npw : ∀ b o, H1 b = some o → (∀ xs, o ≠ .lst xs) → b ≠ p.pw := fun b o e n z => by
    subst z
    obtain ⟨vs, h1, _⟩ := RepJ.hL en1.J
    rw [h1] at e
    exact n _ (Option.some.inj e).symm
  have cj : CloJ f1 c' (FnO f1 (NF.of s_nb "numbers_behind" ("rounds_done" ++ ".<locals>." ++ "numbers_behind") (cloFrom (cellsFrom (s.heap.objs.size + 1) (defScope (topS 68)).names []) (C8.fnScope s_nb).names []) c')) ("rounds_done" ++ ".<locals>." ++ "numbers_behind") l (fun b => b = p.pw) (addL H1 l) :=
    ⟨(add_old ao.no hf).2, (add_old ao.no hc).2, trL_add, ⟨_, rfl⟩, npw f1 _ hf fun _ z => (by unfold FnO at z; cases z), npw c' _ hc fun _ z => (by unfold CodeO at z; cases z), fun b o e z => by
      subst z
      obtain ⟨vs, h1, _⟩ := RepJ.hL en1.J
      rw [ao.no _ o e] at h1
      cases h1⟩
  have C : Clb P w K mg base 12 (gm K cl T) (rClo (rPlus (rRep (gm K cl T) p) (Left O (addL H1 l)) [own, table, at_, .ref p.S] [vo, vt, va, .ref p.S]) f1 c' (FnO f1 (NF.of s_nb "numbers_behind" ("rounds_done" ++ ".<locals>." ++ "numbers_behind") (cloFrom (cellsFrom (s.heap.objs.size + 1) (defScope (topS 68)).names []) (C8.fnScope s_nb).names []) c')) ("rounds_done" ++ ".<locals>." ++ "numbers_behind") l) f1 (fnRD own table at_ p.D) := by
    refine clb_mk (stb_plus stbRep) fnAt_fn cd (fun H O j h => plus_is j h) (fn_core (k := 11) (N := nNB) (ps := ["given"]) sc_nb (fun doc pm ctv us h => nb_bind doc pm ctv us h) (fun ds d e => ?_) fun A outer s H hr => ?_)
    · match ds, e with
      | [_], _ => rfl
    · obtain ⟨t, h1, h2⟩ := tm_nb (P := P) (w := w) (base := base) M A outer s H (hr.mono (by decide))
      exact ⟨t, h1, rb_ar1 (A := fun ds => rho0 nNB (ds ++ [own, table, at_, .ref p.S])) (B := fun _ => none) fun x => h2 p _ _ _ own table at_ x⟩
  refine ⟨.ref f1, addL H1 l, I.os, I.bare, ⟨I.base.keep, I.base.slot, fun b o e n hx => ?_, I.base.there, fun b xs e => (add_old ao.no (I.base.tups b xs e)).2, fun b o u e => (add_old ao.no (I.base.frzs b o u e)).2, fun b ps e => ?_⟩, hok_add I.hok ao, rv, hQ _ f1 _ C (fun b z => z) ⟨enp.sub, enp.hid, enp.out, enp.tabs, enp.J, cj⟩ k02⟩
  · have z : l.lookup b = none := by
      rcases lk_cases l b with z | ⟨o', z⟩
      · exact z
      · exact absurd (Nat.lt_of_lt_of_le (Heap.lt_size e) (ab b o' z)) (Nat.lt_irrefl _)
    rw [addL_out z]
    exact I.base.free b o e n hx
  · obtain ⟨more, h1⟩ := I.base.tbls b ps e
    exact ⟨more, (add_old ao.no h1).2⟩
end
end Z

namespace Z
open PySem PySem.Spec PyProof.Rows L2 NdefX LamX
section
variable {P : Program} {w : World} {K : PySem.W.Frag} {mg : Str → Option Value} {base : Heap} {cl : Nat → Addr} {T : List NTab}
theorem c_rounds_done (M : Fx K mg cl T) (Y : Fy K mg base T) : Cal P w K mg base 13 "rounds_done" (spRD P w K mg base (gm K cl T)) := by
  obtain ⟨f, oc, od, kV, doc, pm, an, c, ct, osl, Pt, nm, lk, hcd, hkp, hm, TB, hT, hu, hnm⟩ := Y.t_rounds_done
  refine ⟨f, PySem.W.fnOf "rounds_done" "rounds_done" (defArgs (topS 68)) (defBody (topS 68)) (defScope (topS 68)) .none kV doc pm an (.ref c) ct, frNB, ?_, hm, hkp, .all (fun us hl => match us, hl with | [_, _, _, _], _ => rfl)⟩
  have S := sc_rounds_done
  have len : ∀ vs H Q E, spRD P w K mg base (gm K cl T) vs H Q E → vs.length = frNB.length := fun vs H Q E h => by
    obtain ⟨p, own, table, at_, O, vo, vt, va, rfl, _⟩ := h
    rfl
  refine ⟨len, fun A outer s H args us vs Q E hr e0 hb r hsp => ?_⟩
  have hl := len _ _ _ _ hsp
  have KX : K.In s.heap := e0.mod.kin.keeps fun b o e => (e0.bs b o e).1
  have lim : s.heap.NoLimit := e0.mod.nolimit.keeps fun b o e => (e0.bs b o e).1
  have hkind : ∀ y ∈ frNB.zip us, (defScope (topS 68)).names.lookup y.1 = some .local ∨ ((defScope (topS 68)).names.lookup y.1 = some .cell ∧ ((cellsFrom (s.heap.objs.size + 1) (defScope (topS 68)).names []).lookup y.1).isSome = true) := fun ⟨n, v⟩ hy => by
    rcases S.par n (List.of_mem_zip hy).1 with q | q
    · exact .inl q
    · exact .inr ⟨q, PySem.W.cellsFrom_some _ _ _ (.inl q)⟩
  refine codeAny_call_function hr.depth (KX _ _ lk) rfl S.co S.gen rfl (PySem.W.codeRec_of KX hcd) (hb _ _ _ _ ?_)
  refine wpAny_newFunctionEnv_cells S.kind hkind fun env he s1 x => ?_
  subst he
  refine ⟨lim.keeps x.toInCall.keep, codeAny_func ?_⟩
  have I : Inv (cxOf L2.CX0 P w K mg base nRD "rounds_done" (defScope (topS 68)) f (.ref c) A outer s H E) [] (L2.start nRD vs) H s1 := inv_start S hr.hd e0 hl r x
  obtain ⟨p, own, table, at_, O, vo, vt, va, rfl, en, il, nl, hQ⟩ := hsp
  have hfr : ∀ y ∈ (C8.fnScope s_nb).names, y.2 = NameKind.free → (defScope (topS 68)).names.lookup y.1 = some .cell ∨ (defScope (topS 68)).names.lookup y.1 = some .free := by decide +kernel
  refine wpAny_mono (Q := fun fl s' => ∃ u, fl = Flow.ret u ∧ CE outer P w H s Q u s') ?_ (fun fl s' hs => ?_) fun e s' hs => hs
  · refine wpAny_execs_cons (thn ((ps_ndefMS (X := cxOf L2.CX0 P w K mg base nRD "rounds_done" (defScope (topS 68)) f (.ref c) A outer s H E) (st := s_nb) (nm := nm) (T := T) (i := 4) rfl TB rfl hT (hnm _ _) hu hfr rfl rfl rfl S.nd rfl (.inl rfl) (.inl rfl)).run [] s1 _ H
      { nx := fun σ' H' => ∃ f1 c', σ' = [some vo, some vt, some va, some (.ref p.S), some (.ref f1)] ∧ ExtN H H' ∧ (∀ b, H' b = none → H b = none) ∧ TabsN T H' ∧ H' f1 = some (FnO f1 (NF.of s_nb "numbers_behind" ("rounds_done" ++ ".<locals>." ++ "numbers_behind") (cloFrom (cellsFrom (s.heap.objs.size + 1) (defScope (topS 68)).names []) (C8.fnScope s_nb).names []) c')) ∧ H' c' = some (CodeO c' ("rounds_done" ++ ".<locals>." ++ "numbers_behind")), rt := fun _ _ => False } I
      ⟨en.tabs, fun f1 c' H1 eN fr T1 _ h1 h2 => ⟨f1, c', rfl, eN, fr, T1, h1, h2⟩⟩) fun fl s2 q => ?_)
    cases fl with
    | ret u => obtain ⟨_, _, _, _, _, q⟩ := q; exact False.elim q
    | brk => obtain ⟨_, _, _, q⟩ := q; exact False.elim q
    | cont => obtain ⟨_, _, _, q⟩ := q; exact False.elim q
    | next =>
      obtain ⟨σ', H1, I2, f1, c', rfl, eN, fr, T1, h1, h2⟩ := q
      refine wpAny_execs_cons (thn (Q := fun fl s4 => ∃ u, fl = Flow.ret u ∧ CE outer P w H s Q u s4) ?_ fun fl s4 q => ?_)
      · refine wpAny_Return_some (thn ((pe_var (X := cxOf L2.CX0 P w K mg base nRD "rounds_done" (defScope (topS 68)) f (.ref c) A outer s H E) (i := 4) rfl (.inl rfl)).run [] s2 _ H1 (fun v H' => v = .ref f1 ∧ H' = H1) I2 ⟨_, rfl, rfl, rfl⟩) fun u s3 hh => ?_)
        obtain ⟨v, H2, I3, rv, ev, eH⟩ := hh
        subst ev
        subst eH
        exact ⟨u, rfl, rd_exit M I3 rv en il nl eN fr T1 h1 h2 hQ⟩
      · obtain ⟨u, rfl, q⟩ := q
        exact ⟨u, rfl, q⟩
  · obtain ⟨u, rfl, h⟩ := hs
    exact h
end
end Z

namespace Z
open PySem PySem.Spec PyProof.Rows L2 NdefX LamX
/-- what is in L may change, and that is all -/
def rW (g : Gm) (L : Addr → Prop) : Rl g where
  L := L
  J := fun H => ∀ b, L b → H b ≠ none
  A := fun _ _ => False
  hJ := fun H H' k j b l z => j b l (k.free b z)
  hL := fun H b j l => j b l
  hU := fun H p xs ys e n j b l z => j b l (upd_none z)
  hA := fun _ _ _ _ _ h => h
  hUA := fun _ _ _ _ _ _ _ _ h => h
  hN := fun _ _ _ h => h.elim
theorem R.weak {g : Gm} {r : Rl g} {L : Addr → Prop} {H H' : Hp} (k : R g r H H') (h : ∀ b, r.L b → L b) : R g (rW g L) H H' :=
  ⟨k.keep.anti h, k.free, k.tabs, fun j b l z => j b l (k.free b z), fun _ _ a => a.elim, k.tb⟩
/-- a block that returns; the caller is told less -/
def RdBW (g : Gm) (r r' : Rl g) (ts : TS) (ρ : Rho) (m : Option D) : Prop :=
  ∀ d, m = some d → ∀ H0 O0 O σ H D, SEnv g r H0 O0 O σ H ρ none → (∀ v H', R g r' H0 H' → Is g O0 H' d v → D.rt v H') → ts D σ H
section
variable {g : Gm} {r r' : Rl g} {ρ : Rho} {t u ts : TS} {tt : TT} {te : TE} {mt : Option Bool}
theorem rbw_seq {α : Type} {ma : Option α} {k : α → Option D} {Pr : α → Rho} (h1 : RdN g r t ρ none ma Pr (fun _ => none)) (h2 : ∀ a, RdBW g r r' u (Pr a) (k a)) : RdBW g r r' (tSeq t u) ρ (ob ma k) := fun d e H0 O0 O σ H D E q => by
  obtain ⟨a, e1, e2⟩ := ob_some e
  exact h1 a e1 H0 O0 O σ H _ E fun σ' H' E' _ => h2 a d e2 H0 O0 O σ' H' D E' q
theorem rbw_ifseq {m1 m2 : Option D} (h : EvT g r tt ρ none mt) (h1 : m1 = none) (h2 : RdBW g r r' u ρ m2) : RdBW g r r' (tSeq (tIfS tt t tNext) u) ρ (oif mt m1 m2) := fun d e H0 O0 O σ H D E q => by
  obtain ⟨k, e1, et, ef⟩ := oif_some e
  show tt σ H _
  refine h k e1 O σ H E.env _ fun H1 k1 => ?_
  cases k with
  | true => have z := et rfl; rw [h1] at z; cases z
  | false => exact h2 d (ef rfl) H0 O0 O σ H1 D (E.go k1) q
theorem rbw_ar2 {A : List D → Rho} {f : D → D → Option D} (h : ∀ x0 x1, RdBW g r r' u (A [x0, x1]) (f x0 x1)) : ∀ st, RdBW g r r' u (A st) (ar2 f st)
  | [x0, x1] => h x0 x1
  | [] => fun d e => by cases e
  | [_] => fun d e => by cases e
  | _ :: _ :: _ :: _ => fun d e => by cases e
theorem atW (ρ' : Rho) {m : Option D} (h : RdBW g r r' u ρ' m) (e : ρ' = ρ := by rfl) : RdBW g r r' u ρ m := e ▸ h
/-- the value of an expression at a state -/
def EvW (g : Gm) (r' : Rl g) (te : TE) (O : Addr → Prop) (σ : L2.St) (H : Hp) (d : D) : Prop := ∀ Q : VK, (∀ v H', R g r' H H' → Is g O H' d v → Q v H') → te σ H Q
theorem evw_call1 {O : Addr → Prop} {σ : L2.St} {H : Hp} {x d : D} {f : List D → Option D} {E0 : XK} (hid : ∀ b, O b → H b ≠ none) (tb : TabsN g.T H) (e : f [x] = some d) (h : EvW g r' te O σ H x) : EvW g r' (tCall (spD g f) [] E0 (tCons te tNil)) O σ H d := fun Q q =>
  h _ fun v H1 k1 i1 => (show spD g f ([v] ++ []) H1 Q E0 from ⟨[x], d, O, fun b o z => hid b o (k1.free b z), k1.tabs tb, ⟨v, [], rfl, i1, rfl⟩, e, fun v' H2 k2 i2 => q v' H2 (k1.trans (R.of0 k2)) i2⟩)
theorem rbw_ret {m : Option D} (h : ∀ d, m = some d → ∀ O σ H, Env g r O σ H ρ none → EvW g r' te O σ H d) (w : ∀ H H', R g r H H' → R g r' H H') : RdBW g r r' (tRet te) ρ m := fun d e H0 O0 O σ H D E q =>
  h d e O σ H E.env _ fun v H' k i => q v H' ((w _ _ E.r).trans k) (Is.anti E.up d v i)
end
section
variable {P : Program} {w : World} {K : PySem.W.Frag} {mg : Str → Option Value} {base : Heap} {cl : Nat → Addr} {T : List NTab}
theorem rb_mkRep {ρ : Rho} {i : Nat} {t : TA} {u : TS} {ms : Option (List D)} {E0 : XK} {k : D → Option D} (h : EvA (gm K cl T) (r0 (gm K cl T)) t ρ none ms) (h2 : ∀ p : RepP, RdBW (gm K cl T) (rRep (gm K cl T) p) (rW (gm K cl T) fun b => b = p.pw) u (ρ.set i (some (.ref p.S))) (k p.D)) :
    RdB (gm K cl T) (r0 (gm K cl T)) (tSeq (tAsg (tMake (cl 2) (spInit (gm K cl T)) [] E0 t) (gName i)) u) ρ none (ob (ob ms mkRepeated) k) := fun d e H0 O0 O σ H D E q => by
  obtain ⟨dr, e1, e2⟩ := ob_some e
  unfold tSeq tAsg
  refine run_mkRep h e1 E.env _ fun p H1 eD k1 J hpw hA => ?_
  show u D (σ.set i (some (.ref p.S))) H1
  rw [← eD] at e2
  have hO : ∀ b, (O b ∨ b = p.pw) → O b ∨ H b = none := fun b h => h.imp id fun z => by rw [z]; exact hpw
  obtain ⟨vs, hvs, _⟩ := J.hL
  have E0' : Env (gm K cl T) (rRep (gm K cl T) p) (fun b => O b ∨ b = p.pw) σ H1 ρ none := by
    refine ⟨E.env.len, fun j d hj => ?_, fun b l => .inr l, fun b h => ?_, fun b a => ?_, k1.tabs E.env.tabs, J, fun i c z => by cases z⟩
    · obtain ⟨v, a1, a2⟩ := E.env.at_ j d hj
      exact ⟨v, a1, Is.kp (fun b o e n _ => k1.keep b o e n) d v (Is.hide hO d v a2)⟩
    · rcases h with h | h
      · exact fun z => E.env.hid b h (k1.free b z)
      · rw [h, hvs]; exact fun z => by cases z
    · rintro (h | h)
      · exact hA b a h
      · obtain ⟨o, e1, _, n⟩ := RepA.sol J a
        rw [h, hvs] at e1
        exact n vs (Option.some.inj e1).symm
  have S1 : SEnv (gm K cl T) (rRep (gm K cl T) p) H1 (fun b => O b ∨ b = p.pw) (fun b => O b ∨ b = p.pw) (σ.set i (some (.ref p.S))) H1 (ρ.set i (some (.ref p.S))) none := ⟨E0'.set rfl h1N, R.refl, fun _ h => h, fun i c b z => by cases z⟩
  refine h2 p d e2 H1 _ _ _ H1 D S1 fun v H' k' i' => q v H' ?_ (Is.anti (fun b o => .inl (E.up b o)) d v i')
  have k01 : R0 (gm K cl T) H H' := by
    refine ⟨fun b o e n => ?_, fun b e => k1.free b (k'.free b e), fun t => k'.tabs (k1.tabs t), fun b ps e => ?_⟩
    · refine k'.keep b o (k1.keep b o e n) n (.inl fun z => ?_)
      have z : b = p.pw := z
      rw [z, hpw] at e
      cases e
    · obtain ⟨qs, e1⟩ := k1.tb b ps e
      exact k'.tb b qs e1
  exact E.r.trans (R.of0 k01)
/-- made_by(rounds_done(..), bounds, measures) -/
theorem evw_made {p : RepP} {O : Addr → Prop} {σ : L2.St} {H : Hp} {own table at_ st x5 x6 bounds measures x9 d : D} {E0 E1 : XK} (E : Env (gm K cl T) (rRep (gm K cl T) p) O σ H [some own, some table, some st, some (.ref p.S), some at_, none, none, some bounds, some measures, none] none) (nl : noLs [own, table, at_] = true) (e : m_made_by (fnRD own table at_ p.D) [bounds, measures] = some d) :
    EvW (gm K cl T) (rW (gm K cl T) fun b => b = p.pw) (tCall (spC P w K mg base 12 (gm K cl T) m_made_by) [] E0 (tCons (tCall (spRD P w K mg base (gm K cl T)) [] E1 (tCons (tVar 0) (tCons (tVar 1) (tCons (tVar 4) (tCons (tVar 3) tNil))))) (tCons (tVar 7) (tCons (tVar 8) tNil)))) O σ H d := fun Q q => by
  obtain ⟨vo, h0, i0⟩ := E.at_ 0 _ rfl
  obtain ⟨vt, h1, i1⟩ := E.at_ 1 _ rfl
  obtain ⟨vr, h3, i3⟩ := E.at_ 3 _ rfl
  obtain rfl : vr = V.ref p.S := i3
  obtain ⟨va, h4, i4⟩ := E.at_ 4 _ rfl
  obtain ⟨vb, h7, i7⟩ := E.at_ 7 _ rfl
  obtain ⟨vm, h8, i8⟩ := E.at_ 8 _ rfl
  refine ⟨vo, h0, vt, h1, va, h4, .ref p.S, h3, ?_⟩
  refine ⟨p, own, table, at_, O, vo, vt, va, rfl, E.ent, ⟨_, _, rfl, i0, _, _, rfl, i1, _, _, rfl, i4, rfl⟩, nl, fun r f H' C hl en k => ?_⟩
  have kp : Kp O H H' := fun b o e n _ => k.keep b o e n
  refine ⟨vb, h7, vm, h8, ?_⟩
  exact ⟨r, f, fnRD own table at_ p.D, [bounds, measures], d, O, C, en, ⟨_, _, rfl, rfl, _, _, rfl, Is.kp kp _ _ i7, _, _, rfl, Is.kp kp _ _ i8, rfl⟩, e, fun v H2 k2 i2 => q v H2 ((R.of0 k).trans (k2.weak hl)) i2⟩
def b_table_behind (own901 table902 statement903 : D) : Option D := oif (dtest (o2 dneD (o2 dixS (some statement903) (some (.int 0))) (some (.str ("round" : Str))))) (ob (ob (lCons (some own901) (lCons (ob (lCons (some statement903) (some [])) dtupD) (some []))) m_raw_push) fun push904 => ob (ob (lCons (ob (some table902) (dfld 1 ("bounds" : Str))) (lCons (ob (some table902) (dfld 1 ("measures" : Str))) (lCons (ob (lCons (ob (ob (ob (some table902) (dfld 1 ("rows" : Str))) ditems) (lcO un1 1 (ar1 fun row906 => ob (lCons (some own901) (lCons (some row906) (lCons (some push904) (some [])))) m_row_pushed))) (some [])) (d1 dtupS)) (some [])))) mkRawTable) fun found905 => oif (dtest (o2 deqD (o2 dixS (some statement903) (some (.int 0))) (some (.str ("more" : Str))))) (some found905) (ob (lCons (ob (lCons (some found905) (some [])) m_raw_least) (some [])) m_checked))
  (ob (ob (lCons (ob (lCons (some own901) (lCons (o2 dixS (some statement903) (some (.int 2))) (some []))) m_raw_push) (some [])) mkRepeated) fun repeated907 => ob (o2 dindex (some own901) (o2 dixS (some statement903) (some (.int 1)))) fun at908 => ob (unO 2 (ob (lCons (some table902) (lCons (some at908) (lCons (ob (some repeated907) (dfld 2 ("tail" : Str))) (lCons (ob (some repeated907) (dfld 2 ("turn" : Str))) (some []))))) m_finer)) (ar2 fun bounds909 measures910 => oif (dtest (o2 dgtD (ob (lCons (some bounds909) (lCons (some measures910) (some []))) m_many_cells) (some (.int 1000)))) (none)
    (ock (noLs [own901, table902, at908]) (ob (ob (m_made_by (fnRD own901 table902 at908 repeated907) [bounds909, measures910]) fun x => m_raw_least [x]) fun x => m_checked [x]))))
def m_table_behind : List D → Option D := ar3 b_table_behind
abbrev s_table_behind : Stmt := topS 69
theorem sc_table_behind : FnScope ["own", "table", "statement", "repeated", "at", "push", "found", "bounds", "measures", "row"] ["own", "table", "statement"] (defScope s_table_behind) := ⟨rfl, rfl, rfl, by decide +kernel, rfl, by decide +kernel, by decide +kernel⟩
theorem c_table_behind (M : Fx K mg cl T) (Y : Fy K mg base T) : Cal P w K mg base 20 "table_behind" (spD (gm K cl T) m_table_behind) := by
  obtain ⟨f, fd, F, hm⟩ := M.f_table_behind
  refine cal3 F hm sc_table_behind rfl (fun _ _ _ _ _ _ us hl => match us, hl with | [_, _, _], _ => rfl) fun cdv A outer s H E hr => ⟨_, (pss_cons (ps_if (pt_cmpR op_ne (pe_ix ix_seq (pv 2) pe_int (fun _ _ => rfl)) pe_str (nomark _)) (pss_cons (ps_set (i := 5) sc_table_behind.nd rfl (.inr rfl) (pe_cl (c_raw_push M) hr (by decide) rfl (pa_cons (pv 0) (pa_cons (pe_tup (pa_cons (pv 2) pa_nil)) pa_nil)))) (pss_cons (ps_set (i := 6) sc_table_behind.nd rfl (.inl rfl) (pe_mkRawTable rfl rfl M hr (by decide) rfl (pa_cons (pe_fld (pv 1) rfl) (pa_cons (pe_fld (pv 1) rfl) (pa_cons (pe_callTy call_tuple' (by rfl) M.n_tuple (by decide +kernel) (pa_cons (pe_lc (own := [("row", 9)]) rfl sc_table_behind.nd (pi_seq (pe_fld (pv 1) rfl)) (blkOk_by (by kernel_rfl)) (fun _ _ _ _ _ => (pg_name (i := 9) sc_table_behind.nd rfl (.inl rfl))) (fun _ _ _ _ _ => pts_nil) (fun _ _ _ _ _ => (pe_cl (c_row_pushed M) hr (by decide) rfl (pa_cons (pv 0) (pa_cons (pv 9) (pa_cons (pv 5) pa_nil)))))) pa_nil)) pa_nil)))))
    (pss_one (ps_ret (pe_ifExp (pt_cmpR (op_eqA hr.units) (pe_ix ix_seq (pv 2) pe_int (fun _ _ => rfl)) pe_str (nomark _)) (pv 6) (pe_cl (c_checked M) hr (by decide) rfl (pa_cons (pe_cl (c_raw_least M Y) hr (by decide) rfl (pa_cons (pv 6) pa_nil)) pa_nil))))))) pss_nil)
    (pss_cons (ps_set (i := 3) sc_table_behind.nd rfl (.inl rfl) (pe_mkRepeated rfl rfl M hr (by decide) rfl (pa_cons (pe_cl (c_raw_push M) hr (by decide) rfl (pa_cons (pv 0) (pa_cons (pe_ix ix_seq (pv 2) pe_int (fun _ _ => rfl)) pa_nil))) pa_nil)))
    (pss_cons (ps_set (i := 4) sc_table_behind.nd rfl (.inl rfl) (pe_index (pv 0) (pa_cons (pe_ix ix_seq (pv 2) pe_int (fun _ _ => rfl)) pa_nil)))
    (pss_cons (ps_asg (pe_cl (c_finer M) hr (by decide) rfl (pa_cons (pv 1) (pa_cons (pv 4) (pa_cons (pe_fld (pv 3) rfl) (pa_cons (pe_fld (pv 3) rfl) pa_nil))))) (pg_tup rfl (pgs_cons (pg_name (i := 7) sc_table_behind.nd rfl (.inl rfl)) (pgs_cons (pg_name (i := 8) sc_table_behind.nd rfl (.inl rfl)) pgs_nil))))
    (pss_cons (ps_if (pt_cmpR op_gt (pe_cl (c_many_cells M) hr (by decide) rfl (pa_cons (pv 7) (pa_cons (pv 8) pa_nil))) (pe_gint rfl M.g_MOST_CELLS) (nomark _)) (pss_one ps_never) pss_nil)
    (pss_one (ps_ret (pe_cl (c_checked M) hr (by decide) rfl (pa_cons (pe_cl (c_raw_least M Y) hr (by decide) rfl (pa_cons (pe_cl (c_made_by M) hr (by decide) rfl (pa_cons (pe_cl (c_rounds_done M Y) hr (by decide) rfl (pa_cons (pv 0) (pa_cons (pv 1) (pa_cons (pv 4) (pa_cons (pv 3) pa_nil))))) (pa_cons (pv 7) (pa_cons (pv 8) pa_nil)))) pa_nil)) pa_nil))))))))),
    fun own901 table902 statement903 => (atB [some own901, some table902, some statement903, none, none, none, none, none, none, none] (rb_ifseq (et_T (ev_op rv_ne (ev_ix (ev_var rfl) ev_int) ev_str)) (atB [some own901, some table902, some statement903, none, none, none, none, none, none, none] (rb_seq (rn_set (ev_call (ea_cons (ev_var rfl) (ea_cons (ev_tup (ea_cons (ev_var rfl) ea_nil)) ea_nil))) h1N) fun push904 => (atB [some own901, some table902, some statement903, none, none, some push904, none, none, none, none] (rb_seq (rn_set (ev_mkRawTable (ea_cons (ev_fld M.k_bounds (ev_var rfl)) (ea_cons (ev_fld M.k_measures (ev_var rfl)) (ea_cons (ev_cb rc_tuple (ea_cons (ev_lc (it_seq (ev_fld M.k_rows (ev_var rfl))) tg_name (by decide) hvN (ev_ar1 fun row906 => (atE [some own901, some table902, some statement903, none, none, some push904, none, none, none, some row906] (ev_call (ea_cons (ev_var rfl) (ea_cons (ev_var rfl) (ea_cons (ev_var rfl) ea_nil))))))) ea_nil)) ea_nil)))) h1N) fun found905 => (atB [some own901, some table902, some statement903, none, none, some push904, some found905, none, none, none] (rb_ret (ev_if (et_T (ev_op rv_eq (ev_ix (ev_var rfl) ev_int) ev_str)) (ev_var rfl) (ev_call (ea_cons (ev_call (ea_cons (ev_var rfl) ea_nil)) ea_nil)))))))))
    (atB [some own901, some table902, some statement903, none, none, none, none, none, none, none] (rb_mkRep (i := 3) (ea_cons (ev_call (ea_cons (ev_var rfl) (ea_cons (ev_ix (ev_var rfl) ev_int) ea_nil))) ea_nil) fun p =>
      (atW [some own901, some table902, some statement903, some (.ref p.S), none, none, none, none, none, none] (rbw_seq (rn_set (ev_index (ev_var rfl) (ev_ix (ev_var rfl) ev_int)) h1N) fun at908 => (atW [some own901, some table902, some statement903, some (.ref p.S), some at908, none, none, none, none, none] (rbw_seq (rn_un (ev_call (ea_cons (ev_var rfl) (ea_cons (ev_var rfl) (ea_cons (ev_fldR M.k_tail rfl) (ea_cons (ev_fldR M.k_turn rfl) ea_nil))))) tg_2 hvN)
        (rbw_ar2 fun bounds909 measures910 => (atW [some own901, some table902, some statement903, some (.ref p.S), some at908, none, none, some bounds909, some measures910, none] (rbw_ifseq (et_T (ev_op rv_gt (ev_call (ea_cons (ev_var rfl) (ea_cons (ev_var rfl) ea_nil))) ev_int)) rfl (atW [some own901, some table902, some statement903, some (.ref p.S), some at908, none, none, some bounds909, some measures910, none]
          (rbw_ret (fun d e O σ H E => by
            obtain ⟨nl, e⟩ := ock_some e
            obtain ⟨x1, e, e3⟩ := ob_some e
            obtain ⟨x2, e, e2⟩ := ob_some e
            exact evw_call1 E.hid E.tabs e3 (evw_call1 E.hid E.tabs e2 (evw_made (x5 := .non) (x6 := .non) (x9 := .non) E nl e))) fun _ _ k => k.weak fun _ z => z)))))))))))))⟩
end
end Z

namespace Z
open PySem PySem.Spec PyProof.Rows L2 NdefX LamX
section
variable {P : Program} {w : World} {K : PySem.W.Frag} {mg : Str → Option Value} {base : Heap} {cl : Nat → Addr} {T : List NTab}
def b_ahead_tables (program274 : D) : Option D := ob (ob (lCons (some program274) (some [])) m_names) fun own275 => ob (ob (lCons (ob (lCons (some own275) (lCons (ob (some program274) (dfld 0 ("given" : Str))) (some []))) m_first_table) (some [])) dlstD) fun found276 => ob (ob (ob (ob (some program274) (dfld 0 ("block" : Str))) ditems) fun ds => forO un1 1 (arr11 fun found277 statement278 => ob (ob (ob (lCons (some own275) (lCons (ob (ob (some (.int 1)) dneg) (dixOwnL found277)) (lCons (some statement278) (some [])))) m_table_behind) (dapp found277)) fun found279 => some [found279]) [found276] ds) (ar1 fun found280 => some found280)
def m_ahead_tables : List D → Option D := ar1 b_ahead_tables

abbrev s_ahead_tables : Stmt := topS 70
theorem sc_ahead_tables : FnScope ["program", "own", "found", "statement"] ["program"] (defScope s_ahead_tables) := ⟨rfl, rfl, rfl, by decide +kernel, rfl, by decide +kernel, by decide +kernel⟩

theorem c_ahead_tables (M : Fx K mg cl T) (Y : Fy K mg base T) : Cal P w K mg base 21 "ahead_tables" (spD (gm K cl T) m_ahead_tables) := by
  obtain ⟨f, fd, F, hm⟩ := M.f_ahead_tables
  refine cal1 F hm sc_ahead_tables rfl (fun _ _ _ _ _ _ us hl => match us, hl with | [_], _ => rfl) fun cdv A outer s H E hr => ⟨_, (pss_cons (ps_set (i := 1) sc_ahead_tables.nd rfl (.inl rfl) (pe_cl (c_names M) hr (by decide) rfl (pa_cons (pv 0) pa_nil))) (pss_cons (ps_set (i := 2) sc_ahead_tables.nd rfl (.inl rfl) (pe_lst (pa_cons (pe_cl (c_first_table M) hr (by decide) rfl (pa_cons (pv 1) (pa_cons (pe_fld (pv 0) rfl) pa_nil))) pa_nil))) (pss_cons (ps_for PassesOwn.never rfl (pi_seq (pe_fld (pv 0) rfl)) (pg_name (i := 3) sc_ahead_tables.nd rfl (.inl rfl)) (pss_one (ps_expr (pe_bm PySem.F.plainAttrs_list PySem.F.slot_list_append PySem.F.type_list_append mt_append (pv 2) (pa_cons (pe_cl (c_table_behind M Y) hr (by decide) rfl (pa_cons (pv 1) (pa_cons (pe_ix ix_seq (pv 2) (pe_un un_neg pe_int) (fun _ _ => rfl)) (pa_cons (pv 3) pa_nil)))) pa_nil))))) (pss_one (ps_ret (pv 2)))))), fun program274 => (atB [some program274, none, none, none] (rb_seq (rn_set (ev_call (ea_cons (ev_var rfl) ea_nil)) h1N) fun own275 => (atB [some program274, some own275, none, none] (rb_own (en_lst (ea_cons (ev_call (ea_cons (ev_var rfl) (ea_cons (ev_fld M.k_given (ev_var rfl)) ea_nil))) ea_nil)) rfl fun found276 => (atB [some program274, some own275, none, none] (rb_seq (rn_forO (js' := []) (it_seq (ev_fld M.k_block (ev_var rfl))) tg_name (by exact True.intro) (by decide) (rnF11 fun found277 statement278 => (atN [some program274, some own275, none, some statement278] (rn_last (rn_app (ev_call (ea_cons (ev_var rfl) (ea_cons (ev_ixOwn (ev_neg ev_int)) (ea_cons (ev_var rfl) ea_nil))))) fun found279 => (atN [some program274, some own275, none, some statement278] (rn_end (by exact ⟨rfl, ⟨rfl, True.intro⟩⟩) rfl)))))) (rb_ar1 fun found280 => (atB [some program274, some own275, none, none] (rb_freeze rfl (atB [some program274, some own275, some found280, none] (rb_ret (ev_var rfl))))))))))))⟩

def b_raw_table (program281 : D) : Option D := ob (ob (lCons (some program281) (some [])) m_names) fun own282 => ob (lCons (o2 dixS (ob (lCons (some program281) (some [])) m_ahead_tables) (ob (some (.int 1)) dneg)) (lCons (ob (ob (ob (some program281) (dfld 0 ("told" : Str))) ditems) (lcO un1 1 (ar1 fun name283 => o2 dindex (some own282) (some name283)))) (some []))) m_with_results
def m_raw_table : List D → Option D := ar1 b_raw_table

abbrev s_raw_table : Stmt := topS 72
theorem sc_raw_table : FnScope ["program", "own", "name"] ["program"] (defScope s_raw_table) := ⟨rfl, rfl, rfl, by decide +kernel, rfl, by decide +kernel, by decide +kernel⟩

theorem c_raw_table (M : Fx K mg cl T) (Y : Fy K mg base T) : Cal P w K mg base 22 "raw_table" (spD (gm K cl T) m_raw_table) := by
  obtain ⟨f, fd, F, hm⟩ := M.f_raw_table
  refine cal1 F hm sc_raw_table rfl (fun _ _ _ _ _ _ us hl => match us, hl with | [_], _ => rfl) fun cdv A outer s H E hr => ⟨_, (pss_cons (ps_set (i := 1) sc_raw_table.nd rfl (.inr rfl) (pe_cl (c_names M) hr (by decide) rfl (pa_cons (pv 0) pa_nil))) (pss_one (ps_ret (pe_cl (c_with_results M Y) hr (by decide) rfl (pa_cons (pe_ix ix_seq (pe_cl (c_ahead_tables M Y) hr (by decide) rfl (pa_cons (pv 0) pa_nil)) (pe_un un_neg pe_int) (fun _ _ => rfl)) (pa_cons (pe_lc (own := [("name", 2)]) rfl sc_raw_table.nd (pi_seq (pe_fld (pv 0) rfl)) (blkOk_by (by kernel_rfl)) (fun _ _ _ _ _ => (pg_name (i := 2) sc_raw_table.nd rfl (.inl rfl))) (fun _ _ _ _ _ => pts_nil) (fun _ _ _ _ _ => (pe_index (pv 1) (pa_cons (pv 2) pa_nil)))) pa_nil)))))), fun program281 => (atB [some program281, none, none] (rb_seq (rn_set (ev_call (ea_cons (ev_var rfl) ea_nil)) h1N) fun own282 => (atB [some program281, some own282, none] (rb_ret (ev_call (ea_cons (ev_ix (ev_call (ea_cons (ev_var rfl) ea_nil)) (ev_neg ev_int)) (ea_cons (ev_lc (it_seq (ev_fld M.k_told (ev_var rfl))) tg_name (by decide) hvN (ev_ar1 fun name283 => (atE [some program281, some own282, some name283] (ev_index (ev_var rfl) (ev_var rfl))))) ea_nil)))))))⟩

def b_table_of (program284 : D) : Option D := ob (lCons (some program284) (some [])) m_raw_table
def m_table_of : List D → Option D := ar1 b_table_of

abbrev s_table_of : Stmt := topS 73
theorem sc_table_of : FnScope ["program"] ["program"] (defScope s_table_of) := ⟨rfl, rfl, rfl, by decide +kernel, rfl, by decide +kernel, by decide +kernel⟩

theorem c_table_of (M : Fx K mg cl T) (Y : Fy K mg base T) : Cal P w K mg base 23 "table_of" (spD (gm K cl T) m_table_of) := by
  obtain ⟨f, fd, F, hm⟩ := M.f_table_of
  refine cal1 F hm sc_table_of rfl (fun _ _ _ _ _ _ us hl => match us, hl with | [_], _ => rfl) fun cdv A outer s H E hr => ⟨_, (pss_one (ps_ret (pe_cl (c_raw_table M Y) hr (by decide) rfl (pa_cons (pv 0) pa_nil)))), fun program284 => (atB [some program284] (rb_ret (ev_call (ea_cons (ev_var rfl) ea_nil))))⟩

end
end Z

namespace Z
open PySem PySem.Spec PyProof.Rows L2 NdefX LamX
/-- the hand at hd, its cells' list at ce -/
structure HJ (hd ce : Addr) (H : Hp) (cs : List Int) (a b c d : Int) : Prop where
  hH : H hd = some (.lst [.ref ce, .int a, .int b, .int c, .int d])
  hC : H ce = some (.lst (cs.map V.int))
  a0 : 0 ≤ a
  ne : hd ≠ ce
theorem HJ.mv {hd ce : Addr} {H H' : Hp} {cs : List Int} {a b c d : Int} (h : HJ hd ce H cs a b c d) (e1 : H' hd = H hd) (e2 : H' ce = H ce) : HJ hd ce H' cs a b c d := ⟨by rw [e1]; exact h.hH, by rw [e2]; exact h.hC, h.a0, h.ne⟩
def rHand (g : Gm) (hd ce : Addr) : Rl g where
  L := fun b => b = hd ∨ b = ce
  J := fun H => ∃ cs a b c d, HJ hd ce H cs a b c d
  A := fun _ _ => False
  hJ := fun H H' k ⟨cs, a, b, c, d, h⟩ => ⟨cs, a, b, c, d, h.mv (by rw [h.hH]; exact k.keep _ _ h.hH fun _ z => by cases z) (by rw [h.hC]; exact k.keep _ _ h.hC fun _ z => by cases z)⟩
  hL := fun H b ⟨cs, x, y, c, d, h⟩ l z => by
    rcases l with l | l
    · subst l; rw [h.hH] at z; cases z
    · subst l; rw [h.hC] at z; cases z
  hU := fun H p xs ys e n ⟨cs, a, b, c, d, h⟩ => ⟨cs, a, b, c, d, h.mv (upd_ne fun z => n (.inl z.symm)) (upd_ne fun z => n (.inr z.symm))⟩
  hA := fun _ _ _ _ _ h => h
  hUA := fun _ _ _ _ _ _ _ _ h => h
  hN := fun _ _ _ h => h.elim
theorem hand_put {g : Gm} {hd ce : Addr} {H : Hp} {cs : List Int} {a b c d a' b' c' d' : Int} (h : HJ hd ce H cs a b c d) (h0 : 0 ≤ a') :
    HJ hd ce (upd H hd (.lst [.ref ce, .int a', .int b', .int c', .int d'])) cs a' b' c' d' ∧ R g (rHand g hd ce) H (upd H hd (.lst [.ref ce, .int a', .int b', .int c', .int d'])) := by
  have j : HJ hd ce (upd H hd (.lst [.ref ce, .int a', .int b', .int c', .int d'])) cs a' b' c' d' := ⟨upd_same, by rw [upd_ne h.ne.symm]; exact h.hC, h0, h.ne⟩
  refine ⟨j, ⟨fun b o e m z => ?_, fun b e => upd_none e, fun t => tabs_upd t h.hH (fun _ z => by cases z) (fun _ z => by cases z), fun _ => ⟨cs, a', b', c', d', j⟩, fun _ _ (z : False) => z.elim, fun b ps e => ?_⟩⟩
  · have nb : b ≠ hd := fun y => by
      subst y
      rw [h.hH] at e
      cases e
      rcases z with z | ⟨_, z⟩ | ⟨_, _, z⟩
      · exact z (.inl rfl)
      · cases z
      · cases z
    rw [upd_ne nb]
    exact e
  · have nb : b ≠ hd := fun y => by subst y; rw [h.hH] at e; cases e
    exact ⟨ps, by rw [upd_ne nb]; exact e⟩
def EvI (te : TE) (σ : L2.St) (H : Hp) (P : Int → Prop) : Prop := ∀ Q : VK, (∀ n, P n → Q (.int n) H) → te σ H Q
def EtI (tt : TT) (σ : L2.St) (H : Hp) (P : Bool → Prop) : Prop := ∀ Q : Bool → Hp → Prop, (∀ b, P b → Q b H) → tt σ H Q
section
variable {σ : L2.St} {H : Hp} {ta tb : TE} {tt tu : TT} {P P' P'' : Int → Prop} {K : PySem.W.Frag}
theorem ei_var {i : Nat} {n : Int} (h : σ[i]? = some (some (.int n))) (p : P n) : EvI (tVar i) σ H P := fun Q q => ⟨_, h, q n p⟩
theorem ei_int {n : Int} (p : P n) : EvI (tC (.int n)) σ H P := fun Q q => q n p
theorem ei_op0 {f : Int → Int → Int} (ha : EvI ta σ H P) (hb : EvI tb σ H P') (hc : ∀ i j, P i → P' j → P'' (f i j)) : EvI (tOp (rI0 fun i j => .int (f i j)) ta tb) σ H P'' := fun Q q => ha _ fun i pi => hb _ fun j pj => ⟨i, j, rfl, rfl, q _ (hc i j pi pj)⟩
theorem ei_opC {C : Int → Int → Prop} {f : Int → Int → Int} (ha : EvI ta σ H P) (hb : EvI tb σ H P') (hC : ∀ i j, P i → P' j → C i j) (hc : ∀ i j, P i → P' j → P'' (f i j)) : EvI (tOp (rI C fun i j => .int (f i j)) ta tb) σ H P'' := fun Q q => ha _ fun i pi => hb _ fun j pj => ⟨i, j, rfl, rfl, hC i j pi pj, q _ (hc i j pi pj)⟩
theorem ei_toint (ha : EvI ta σ H P) : EvI (tCB rInt1 (tCons ta tNil)) σ H P := fun Q q => ha _ fun i pi => .inl ⟨i, rfl, q i pi⟩
theorem eti_cmp {p : Int → Int → Bool} {B : Bool → Prop} (ha : EvI ta σ H P) (hb : EvI tb σ H P') (hc : ∀ i j, P i → P' j → B (p i j)) : EtI (tTest (tOp (rI0 fun i j => .bl (p i j)) ta tb)) σ H B := fun Q q => ha _ fun i pi => hb _ fun j pj => ⟨i, j, rfl, rfl, _, rfl, q _ (hc i j pi pj)⟩
theorem eti_eq {B : Bool → Prop} (ha : EvI ta σ H P) (hb : EvI tb σ H P') (hc : ∀ i j, P i → P' j → B (decide (V.int i = V.int j))) : EtI (tTest (tOp rEq ta tb)) σ H B := fun Q q => ha _ fun i pi => hb _ fun j pj => ⟨rfl, _, rfl, q _ (hc i j pi pj)⟩
theorem eti_and {B B' : Bool → Prop} (ha : EtI tt σ H B) (hb : EtI tu σ H B') : EtI (tAnd tt tu) σ H (fun b => b = true → B' true) := fun Q q => ha _ fun b pb => by
  cases b with
  | true =>
    rw [if_pos rfl]
    exact hb _ fun b' pb' => q b' fun e => by rw [e] at pb'; exact pb'
  | false =>
    rw [if_neg Bool.false_ne_true]
    exact q false fun e => by cases e
/-- hand[k] -/
theorem get_at {hd : Addr} {xs : List V} {k : Int} {v : V} {Q : VK} (h0 : σ[0]? = some (some (.ref hd))) (hl : H hd = some (.lst xs)) (e : L2.atI xs k = some v) (q : Q v H) : tOp (rIx K) (tVar 0) (tC (.int k)) σ H Q := ⟨_, h0, .inl ⟨hd, xs, k, v, rfl, rfl, SqL.of hl, e, q⟩⟩
theorem ei_get {hd : Addr} {xs : List V} {k n : Int} (h0 : σ[0]? = some (some (.ref hd))) (hl : H hd = some (.lst xs)) (e : L2.atI xs k = some (.int n)) (p : P n) : EvI (tOp (rIx K) (tVar 0) (tC (.int k))) σ H P := fun Q q => get_at h0 hl e (q n p)
end
theorem seq_i {t u : TS} {D : Ends} {σ : L2.St} {H : Hp} (h : t { D with nx := u D } σ H) : tSeq t u D σ H := h
theorem seq_mid {t u : TS} {D : Ends} {σ : L2.St} {H : Hp} (Pm : L2.St → Hp → Prop) (h1 : ∀ D' : Ends, D'.rt = D.rt → (∀ σ' H', Pm σ' H' → D'.nx σ' H') → t D' σ H) (h2 : ∀ σ' H', Pm σ' H' → u D σ' H') : tSeq t u D σ H := h1 { D with nx := u D } rfl fun σ' H' p => h2 σ' H' p
section
variable {σ : L2.St} {H : Hp} {te : TE} {tt : TT} {t u : TS} {P : Int → Prop} {B : Bool → Prop} {D : Ends} {K : PySem.W.Frag}
theorem asg_name {i : Nat} (h : EvI te σ H P) (k : ∀ n, P n → D.nx (σ.set i (some (.int n))) H) : tAsg te (gName i) D σ H := h _ fun n p => k n p
theorem asg_sub {hd : Addr} {xs : List V} {k : Int} {j : Nat} (h : EvI te σ H P) (h0 : σ[0]? = some (some (.ref hd))) (hl : H hd = some (.lst xs)) (e : L2.ixN xs.length k = some j) (q : ∀ n, P n → D.nx σ (upd H hd (.lst (xs.set j (.int n))))) : tAsg te (gSub (tVar 0) (tC (.int k)) rSetL) D σ H :=
  h _ fun n p => ⟨_, h0, hd, xs, k, j, rfl, rfl, hl, e, q n p⟩
theorem seq_name {i : Nat} (h : EvI te σ H P) (k : ∀ n, P n → u D (σ.set i (some (.int n))) H) : tSeq (tAsg te (gName i)) u D σ H := h _ fun n p => k n p
theorem seq_sub {hd : Addr} {xs : List V} {k : Int} {j : Nat} (h : EvI te σ H P) (h0 : σ[0]? = some (some (.ref hd))) (hl : H hd = some (.lst xs)) (e : L2.ixN xs.length k = some j) (q : ∀ n, P n → u D σ (upd H hd (.lst (xs.set j (.int n))))) : tSeq (tAsg te (gSub (tVar 0) (tC (.int k)) rSetL)) u D σ H :=
  h _ fun n p => ⟨_, h0, hd, xs, k, j, rfl, rfl, hl, e, q n p⟩
theorem if_i (h : EtI tt σ H B) (h1 : B true → t D σ H) (h2 : B false → u D σ H) : tIfS tt t u D σ H := h _ fun b p => by
  cases b with
  | true => rw [if_pos rfl]; exact h1 p
  | false => rw [if_neg Bool.false_ne_true]; exact h2 p
theorem ret_i (h : EvI te σ H P) (q : ∀ n, P n → D.rt (.int n) H) : tRet te D σ H := h _ q
theorem ei_len {hd ce : Addr} {cs : List Int} {xs : List V} (h0 : σ[0]? = some (some (.ref hd))) (hl : H hd = some (.lst (.ref ce :: xs))) (hc : H ce = some (.lst (cs.map V.int))) : EvI (tCB (Z.rLenS K) (tCons (tOp (rIx K) (tVar 0) (tC (.int 0))) tNil)) σ H (fun n => n = cs.length) := fun Q q =>
  ⟨_, h0, .inl ⟨hd, _, 0, .ref ce, rfl, rfl, SqL.of hl, by
    have := L2.atI_nat (xs := (V.ref ce :: xs)) (j := 0) (v := .ref ce) rfl
    exact this, ⟨_, cs.length, rfl, .inl ⟨_, SqL.of hc, by rw [List.length_map]⟩, q _ rfl⟩⟩⟩
theorem ei_cell {hd ce : Addr} {cs : List Int} {a : Int} {xs : List V} (h0 : σ[0]? = some (some (.ref hd))) (hl : H hd = some (.lst (.ref ce :: .int a :: xs))) (hc : H ce = some (.lst (cs.map V.int))) (a0 : 0 ≤ a) (al : a < cs.length) : EvI (tOp (rIx K) (tOp (rIx K) (tVar 0) (tC (.int 0))) (tOp (rIx K) (tVar 0) (tC (.int 1)))) σ H (fun _ => True) := fun Q q => by
  have hn : a.toNat < cs.length := by omega
  refine ⟨_, h0, .inl ⟨hd, _, 0, .ref ce, rfl, rfl, SqL.of hl, ?_, ⟨_, h0, .inl ⟨hd, _, 1, .int a, rfl, rfl, SqL.of hl, ?_, .inl ⟨ce, cs.map V.int, a, .int (cs[a.toNat]'hn), rfl, rfl, SqL.of hc, ?_, q _ True.intro⟩⟩⟩⟩⟩
  · exact L2.atI_nat (xs := (V.ref ce :: .int a :: xs)) (j := 0) (v := .ref ce) rfl
  · exact L2.atI_nat (xs := (V.ref ce :: .int a :: xs)) (j := 1) (v := .int a) rfl
  · have e := L2.atI_nat (xs := cs.map V.int) (j := a.toNat) (v := .int (cs[a.toNat]'hn)) (by rw [List.getElem?_map, List.getElem?_eq_getElem hn]; rfl)
    rwa [Int.toNat_of_nonneg a0] at e
end
/-- a draw: some number from 0 to below many -/
def spDraw (g : Gm) : Sp := fun vs H Q _ => ∃ (hd ce : Addr) (many : Int), vs = [.ref hd, .int many] ∧ 0 < many ∧ many < 1000 ∧ (rHand g hd ce).J H ∧ ∀ (n : Int) (H' : Hp), 0 ≤ n → n < many → R g (rHand g hd ce) H H' → Q (.int n) H'
section
variable {P : Program} {w : World} {K : PySem.W.Frag} {mg : Str → Option Value} {base : Heap} {cl : Nat → Addr} {T : List NTab}
abbrev s_law_draw : Stmt := topS 76
def nDr : List Str := ["_law_hand_here", "_law_many", "_law_number", "_law_cell", "_law_digit"]
theorem sc_law_draw : FnScope nDr ["_law_hand_here", "_law_many"] (defScope s_law_draw) := ⟨rfl, rfl, rfl, by decide +kernel, rfl, by decide +kernel, by decide +kernel⟩
theorem tm_draw (M : Fx K mg cl T) {f : Addr} (cdv : Value) (A : Around) (outer : List PySem.Env) (s : Shared) (H : Hp) (E : XK) (hr : Room 1 (A.deeper (envOfC "_law_draw" (defScope s_law_draw) s.heap.objs.size f cdv))) :
    ∃ t, PSs (cxOf L2.CX0 P w K mg base nDr "_law_draw" (defScope s_law_draw) f cdv A outer s H E).nox (defBody s_law_draw) t ∧
      ∀ (hd ce : Addr) (many : Int) (H : Hp) (D : Ends), 0 < many → many < 1000 → (rHand (gm K cl T) hd ce).J H → (∀ (n : Int) (H' : Hp), 0 ≤ n → n < many → R (gm K cl T) (rHand (gm K cl T) hd ce) H H' → D.rt (.int n) H') → t D [some (.ref hd), some (.int many), none, none, none] H := by
  refine ⟨_, (pss_cons (ps_if (PW.pt (pw_and (pt_cmpR op_eq (pe_ix ix_seq (pv 0) pe_int (fun _ _ => rfl)) pe_int (nomark _)) (pw_and1 (pt_cmpR op_lt (pe_ix ix_seq (pv 0) pe_int (fun _ _ => rfl)) (pe_callB call_lenS (by rfl) M.n_len (by decide +kernel) (pa_cons (pe_ix ix_seq (pv 0) pe_int (fun _ _ => rfl)) pa_nil)) (nomark _)))))
      (pss_cons (ps_set (i := 3) sc_law_draw.nd rfl (.inl rfl) (pe_ix ix_seq (pe_ix ix_seq (pv 0) pe_int (fun _ _ => rfl)) (pe_ix ix_seq (pv 0) pe_int (fun _ _ => rfl)) (fun _ _ => rfl)))
      (pss_cons (ps_asg (pe_op op_add (pe_ix ix_seq (pv 0) pe_int (fun _ _ => rfl)) pe_int) (pg_sub (pv 0) pe_int set_list))
      (pss_cons (ps_asg (pe_op op_mod (pe_callTy call_int' (by rfl) M.n_int (by decide +kernel) (pa_cons (pe_op op_add (pe_op op_add (pe_op op_mul (pe_ix ix_seq (pv 0) pe_int (fun _ _ => rfl)) pe_int) (pv 3)) pe_int) pa_nil)) pe_int) (pg_sub (pv 0) pe_int set_list))
      (pss_one (ps_if (pt_cmpR op_ge (pv 3) (pe_op op_pow pe_int pe_int) (nomark _)) (pss_one (ps_asg (pv 3) (pg_sub (pv 0) pe_int set_list))) pss_nil)))))
      pss_nil)
    (pss_cons (ps_if (pt_cmpR op_gt (pe_ix ix_seq (pv 0) pe_int (fun _ _ => rfl)) pe_int (nomark _))
      (pss_cons (ps_set (i := 4) sc_law_draw.nd rfl (.inl rfl) (pe_op op_mod (pe_callTy call_int' (by rfl) M.n_int (by decide +kernel) (pa_cons (pe_ix ix_seq (pv 0) pe_int (fun _ _ => rfl)) pa_nil)) (pv 1)))
      (pss_cons (ps_asg (pe_op op_fdiv (pe_ix ix_seq (pv 0) pe_int (fun _ _ => rfl)) (pv 1)) (pg_sub (pv 0) pe_int set_list))
      (pss_one (ps_ret (pv 4))))) pss_nil)
    (pss_cons (ps_asg (pe_op op_add (pe_ix ix_seq (pv 0) pe_int (fun _ _ => rfl)) pe_int) (pg_sub (pv 0) pe_int set_list))
    (pss_cons (ps_set (i := 2) sc_law_draw.nd rfl (.inl rfl) (pe_op op_mod (pe_callTy call_int' (by rfl) M.n_int (by decide +kernel) (pa_cons (pe_op op_mul (pe_callTy call_int' (by rfl) M.n_int (by decide +kernel) (pa_cons (pe_op op_add (pe_ix ix_seq (pv 0) pe_int (fun _ _ => rfl)) (pe_op op_mul pe_int (pe_ix ix_seq (pv 0) pe_int (fun _ _ => rfl)))) pa_nil)) pe_int) pa_nil)) pe_int))
    (pss_cons (ps_set (i := 2) sc_law_draw.nd rfl (.inl rfl) (pe_op op_mod (pe_callTy call_int' (by rfl) M.n_int (by decide +kernel) (pa_cons (pe_op op_mul (pv 2) (pe_op op_add (pe_op op_fdiv (pv 2) pe_int) pe_int)) pa_nil)) pe_int))
    (pss_cons (ps_set (i := 2) sc_law_draw.nd rfl (.inl rfl) (pe_op op_mod (pe_callTy call_int' (by rfl) M.n_int (by decide +kernel) (pa_cons (pe_op op_mul (pv 2) (pe_op op_add (pe_op op_fdiv (pv 2) pe_int) pe_int)) pa_nil)) pe_int))
    (pss_one (ps_ret (pe_op op_mod (pe_callTy call_int' (by rfl) M.n_int (by decide +kernel) (pa_cons (pe_op op_fdiv (pv 2) pe_int) pa_nil)) (pv 1)))))))))), ?_⟩
  intro hd ce many H D hm0 hm1 hJ q
  obtain ⟨cs, a, b, c, d, h⟩ := hJ
  have tr : ∀ n : Int, (fun _ => True) n := fun _ => True.intro
  refine seq_mid (fun σ' H' => (∃ x, σ' = [some (.ref hd), some (.int many), none, x, none]) ∧ R (gm K cl T) (rHand (gm K cl T) hd ce) H H' ∧ ∃ a b c d, HJ hd ce H' cs a b c d) (fun D' _ hn => ?_) ?_
  · refine if_i (eti_and (eti_eq (P := fun _ => True) (P' := fun _ => True) (B := fun _ => True) (ei_get rfl h.hH rfl True.intro) (ei_int True.intro) fun _ _ _ _ => True.intro) (eti_cmp (B := fun b => b = true → a < cs.length) (P := fun n => n = a) (ei_get rfl h.hH rfl rfl) (ei_len rfl h.hH h.hC) fun i j pi pj e => by subst pi; subst pj; exact of_decide_eq_true e)) (fun hb => ?_) fun _ => hn _ _ ⟨⟨_, rfl⟩, R.refl, a, b, c, d, h⟩
    have al := hb rfl rfl
    refine (seq_name (ei_cell rfl h.hH h.hC h.a0 al) fun cell _ => ?_)
    refine (seq_sub (P := fun n => n = a + 1) (j := 1) (ei_op0 (P := fun n => n = a) (P' := fun n => n = 1) (ei_get rfl h.hH rfl rfl) (ei_int rfl) fun i j pi pj => by subst pi; subst pj; rfl) rfl h.hH rfl fun n pn => ?_)
    subst pn
    obtain ⟨h2, k2⟩ := hand_put (g := gm K cl T) (a' := a + 1) (b' := b) (c' := c) (d' := d) h (by have := h.a0; omega)
    show tSeq _ _ _ _ (upd H hd (.lst [.ref ce, .int (a + 1), .int b, .int c, .int d]))
    generalize upd H hd (.lst [.ref ce, .int (a + 1), .int b, .int c, .int d]) = H2 at h2 k2 ⊢
    refine (seq_sub (P := fun _ => True) (j := 3) (ei_opC (P := fun _ => True) (P' := fun n => n = 2147483629) (ei_toint (ei_op0 (P := fun _ => True) (P' := fun _ => True) (ei_op0 (P := fun _ => True) (P' := fun _ => True) (ei_opC (P := fun _ => True) (P' := fun n => n = 69621) (ei_get rfl h2.hH rfl True.intro) (ei_int rfl) (fun i j _ pj => by subst pj; exact .inr (by decide)) fun _ _ _ _ => True.intro) (ei_var rfl True.intro) fun _ _ _ _ => True.intro) (ei_int True.intro) fun _ _ _ _ => True.intro)) (ei_int rfl) (fun i j _ pj => by subst pj; decide) fun _ _ _ _ => True.intro) rfl h2.hH rfl fun n _ => ?_)
    obtain ⟨h3, k3⟩ := hand_put (g := gm K cl T) (a' := a + 1) (b' := b) (c' := n) (d' := d) h2 h2.a0
    show tIfS _ _ _ D' _ (upd H2 hd (.lst [.ref ce, .int (a + 1), .int b, .int n, .int d]))
    generalize upd H2 hd (.lst [.ref ce, .int (a + 1), .int b, .int n, .int d]) = H3 at h3 k3 ⊢
    refine if_i (eti_cmp (B := fun _ => True) (P := fun _ => True) (P' := fun _ => True) (ei_var rfl True.intro) (ei_opC (P := fun n => n = 10) (P' := fun n => n = 18) (ei_int rfl) (ei_int rfl) (fun i j pi pj => by subst pi; subst pj; exact ⟨by decide, by decide, by decide⟩) fun _ _ _ _ => True.intro) fun _ _ _ _ => True.intro) (fun _ => ?_) fun _ => hn _ _ ⟨⟨_, rfl⟩, k2.trans k3, _, _, _, _, h3⟩
    refine asg_sub (P := fun _ => True) (j := 2) (ei_var rfl True.intro) rfl h3.hH rfl fun m _ => ?_
    obtain ⟨h4, k4⟩ := hand_put (g := gm K cl T) (a' := a + 1) (b' := m) (c' := n) (d' := d) h3 h3.a0
    exact hn _ _ ⟨⟨_, rfl⟩, (k2.trans k3).trans k4, _, _, _, _, h4⟩
  · rintro σ' H1 ⟨⟨x, rfl⟩, k1, a, b, c, d, h⟩
    refine seq_mid (fun σ' H' => σ' = [some (.ref hd), some (.int many), none, x, none] ∧ H' = H1) (fun D' er hn => ?_) ?_
    · refine if_i (eti_cmp (B := fun _ => True) (P := fun _ => True) (P' := fun _ => True) (ei_get rfl h.hH rfl True.intro) (ei_int True.intro) fun _ _ _ _ => True.intro) (fun _ => ?_) fun _ => hn _ _ ⟨rfl, rfl⟩
      refine (seq_name (P := fun n => 0 ≤ n ∧ n < many) (ei_opC (P := fun _ => True) (P' := fun n => n = many) (ei_toint (ei_get rfl h.hH rfl True.intro)) (ei_var rfl rfl) (fun i j _ pj => by subst pj; exact hm0) fun i j _ pj => by subst pj; exact ⟨Int.emod_nonneg _ (by omega), Int.emod_lt_of_pos _ hm0⟩) fun n pn => ?_)
      refine (seq_sub (P := fun _ => True) (j := 2) (ei_opC (P := fun _ => True) (P' := fun n => n = many) (ei_get rfl h.hH rfl True.intro) (ei_var rfl rfl) (fun i j _ pj => by subst pj; exact ⟨hm0, by omega⟩) fun _ _ _ _ => True.intro) rfl h.hH rfl fun m _ => ?_)
      obtain ⟨h2, k2⟩ := hand_put (g := gm K cl T) (a' := a) (b' := m) (c' := c) (d' := d) h h.a0
      refine ret_i (P := fun z => z = n) (ei_var rfl rfl) fun z pz => ?_
      subst pz
      show D'.rt _ _
      rw [er]
      exact q z _ pn.1 pn.2 (k1.trans k2)
    · rintro σ' H' ⟨rfl, rfl⟩
      refine (seq_sub (P := fun _ => True) (j := 4) (ei_op0 (P := fun _ => True) (P' := fun _ => True) (ei_get rfl h.hH rfl True.intro) (ei_int True.intro) fun _ _ _ _ => True.intro) rfl h.hH rfl fun n _ => ?_)
      obtain ⟨h2, k2⟩ := hand_put (g := gm K cl T) (a' := a) (b' := b) (c' := c) (d' := n) h h.a0
      show tSeq _ _ _ _ (upd H' hd (.lst [.ref ce, .int a, .int b, .int c, .int n]))
      generalize upd H' hd (.lst [.ref ce, .int a, .int b, .int c, .int n]) = H2 at h2 k2 ⊢
      have md : ∀ {i j : Int}, 0 < j → 0 ≤ i % j ∧ i % j < j := fun hj => ⟨Int.emod_nonneg _ (by omega), Int.emod_lt_of_pos _ hj⟩
      refine (seq_name (P := fun n => 0 ≤ n ∧ n < 2147483647) (ei_opC (P := fun _ => True) (P' := fun n => n = 2147483647) (ei_toint (ei_opC (P := fun _ => True) (P' := fun n => n = 48271) (ei_toint (ei_op0 (P := fun _ => True) (P' := fun _ => True) (ei_get rfl h2.hH rfl True.intro) (ei_opC (P := fun n => n = 7919) (P' := fun _ => True) (ei_int rfl) (ei_get rfl h2.hH rfl True.intro) (fun i j pi _ => by subst pi; exact .inl (by decide)) fun _ _ _ _ => True.intro) fun _ _ _ _ => True.intro)) (ei_int rfl) (fun i j _ pj => by subst pj; exact .inr (by decide)) fun _ _ _ _ => True.intro)) (ei_int rfl) (fun i j _ pj => by subst pj; decide) fun i j _ pj => by subst pj; exact md (by decide)) fun n1 p1 => ?_)
      refine (seq_name (P := fun n => 0 ≤ n ∧ n < 2147483647) (ei_opC (P := fun _ => True) (P' := fun n => n = 2147483647) (ei_toint (ei_opC (P := fun n => n = n1) (P' := fun _ => True) (ei_var rfl rfl) (ei_op0 (P := fun _ => True) (P' := fun _ => True) (ei_opC (P := fun _ => True) (P' := fun n => n = 1009) (ei_var rfl True.intro) (ei_int rfl) (fun i j _ pj => by subst pj; exact ⟨by decide, by decide⟩) fun _ _ _ _ => True.intro) (ei_int True.intro) fun _ _ _ _ => True.intro) (fun i j pi _ => by subst pi; exact .inl (by omega)) fun _ _ _ _ => True.intro)) (ei_int rfl) (fun i j _ pj => by subst pj; decide) fun i j _ pj => by subst pj; exact md (by decide)) fun n2 p2 => ?_)
      refine (seq_name (P := fun n => 0 ≤ n ∧ n < 2147483399) (ei_opC (P := fun _ => True) (P' := fun n => n = 2147483399) (ei_toint (ei_opC (P := fun n => n = n2) (P' := fun _ => True) (ei_var rfl rfl) (ei_op0 (P := fun _ => True) (P' := fun _ => True) (ei_opC (P := fun _ => True) (P' := fun n => n = 2003) (ei_var rfl True.intro) (ei_int rfl) (fun i j _ pj => by subst pj; exact ⟨by decide, by decide⟩) fun _ _ _ _ => True.intro) (ei_int True.intro) fun _ _ _ _ => True.intro) (fun i j pi _ => by subst pi; exact .inl (by omega)) fun _ _ _ _ => True.intro)) (ei_int rfl) (fun i j _ pj => by subst pj; decide) fun i j _ pj => by subst pj; exact md (by decide)) fun n3 p3 => ?_)
      refine ret_i (P := fun n => 0 ≤ n ∧ n < many) (ei_opC (P := fun _ => True) (P' := fun n => n = many) (ei_toint (ei_opC (P := fun _ => True) (P' := fun n => n = 16) (ei_var rfl True.intro) (ei_int rfl) (fun i j _ pj => by subst pj; exact ⟨by decide, by decide⟩) fun _ _ _ _ => True.intro)) (ei_var rfl rfl) (fun i j _ pj => by subst pj; exact hm0) fun i j _ pj => by subst pj; exact md hm0) fun n4 p4 => ?_
      exact q n4 _ p4.1 p4.2 (k1.trans k2)
end
end Z

namespace Z
open PySem PySem.Spec PyProof.Rows L2 NdefX LamX
/-- the hand that was just made -/
def spHand (g : Gm) : Sp := fun vs H Q _ => ∃ (a : Addr) (ns : List Int), vs = [.ref a] ∧ SqL g.K H a (ns.map V.int) ∧ ns.length ≤ 63 ∧ TabsN g.T H ∧ ∀ (hd ce : Addr) (H' : Hp), R0 g H H' → (rHand g hd ce).J H' → Q (.ref hd) H'
section
variable {P : Program} {w : World} {K : PySem.W.Frag} {mg : Str → Option Value} {base : Heap} {cl : Nat → Addr} {T : List NTab}
theorem c_law_draw (M : Fx K mg cl T) : Cal P w K mg base 2 "_law_draw" (spDraw (gm K cl T)) := by
  obtain ⟨f, fd, F, hm⟩ := M.f_law_draw
  refine ⟨f, fd, ["_law_hand_here", "_law_many"], ?_, hm, F.kp, F.bindsN fun _ _ _ _ _ _ us hl => match us, hl with | [_, _], _ => rfl⟩
  refine F.ok sc_law_draw (fun vs H Q E h => ?_) fun cdv A outer s H vs Q E hr h => ?_
  · obtain ⟨hd, ce, many, rfl, _⟩ := h
    rfl
  · obtain ⟨t, ht, hR⟩ := tm_draw (base := base) (f := f) M cdv A outer s H E hr
    obtain ⟨hd, ce, many, rfl, h0, h1, hJ, q⟩ := h
    exact ⟨t, PSs.nox ht, hR hd ce many H _ h0 h1 hJ fun n H' a b k => q n H' a b k⟩
theorem lc_abs : ∀ ns : List Int, mapO (fun d => ob (un1 d) fun xs => ock (Nat.beq xs.length 1) ((ar1 fun c => ob (lCons (ob (lCons (some c) (some [])) (d1 dint)) (some [])) (d1 dabs)) xs)) (ns.map D.int) = some (ns.map fun n => D.int (if n < 0 then -n else n))
  | [] => rfl
  | n :: ns => by
    have ih := lc_abs ns
    generalize hF : (fun d => ob (un1 d) fun xs => ock (Nat.beq xs.length 1) ((ar1 fun c => ob (lCons (ob (lCons (some c) (some [])) (d1 dint)) (some [])) (d1 dabs)) xs)) = F at ih ⊢
    have h1 : F (D.int n) = some (D.int (if n < 0 then -n else n)) := by rw [← hF]; rfl
    show ob (F (D.int n)) (fun y => ob (mapO F (ns.map D.int)) fun ys => some (y :: ys)) = _
    rw [h1, ih]
    rfl
theorem ints_is {g : Gm} {O : Addr → Prop} {H : Hp} : ∀ {ns : List Int} {vs : List V}, IsL g O H (ns.map D.int) vs → vs = ns.map V.int
  | [], vs, h => h
  | n :: ns, vs, h => by
    obtain ⟨v, r, rfl, i1, i2⟩ := h
    rw [show v = V.int n from i1, ints_is i2]
    rfl
theorem is_ints {g : Gm} {O : Addr → Prop} {H : Hp} : ∀ {ns : List Int}, IsL g O H (ns.map D.int) (ns.map V.int)
  | [] => rfl
  | n :: ns => ⟨_, _, rfl, rfl, is_ints⟩
abbrev s_law_hand : Stmt := topS 75
def nHa : List Str := ["_law_script", "_law_cells", "_law_cell"]
theorem sc_law_hand : FnScope nHa ["_law_script"] (defScope s_law_hand) := ⟨rfl, rfl, rfl, by decide +kernel, rfl, by decide +kernel, by decide +kernel⟩
theorem tm_hand (M : Fx K mg cl T) {f : Addr} (cdv : Value) (A : Around) (outer : List PySem.Env) (s : Shared) (H : Hp) (E : XK) (hr : Room 1 (A.deeper (envOfC "_law_hand" (defScope s_law_hand) s.heap.objs.size f cdv))) :
    ∃ t, PSs (cxOf L2.CX0 P w K mg base nHa "_law_hand" (defScope s_law_hand) f cdv A outer s H E).nox (defBody s_law_hand) t ∧
      ∀ (a : Addr) (ns : List Int) (H : Hp) (Dn : Ends), SqL K H a (ns.map V.int) → ns.length ≤ 63 → TabsN T H → (∀ (hd ce : Addr) (H' : Hp), R0 (gm K cl T) H H' → (rHand (gm K cl T) hd ce).J H' → Dn.rt (.ref hd) H') → t Dn [some (.ref a), none, none] H := by
  refine ⟨_, pss_cons (ps_setLc (i := 1) (own := [("_law_cell", 2)]) rfl sc_law_hand.nd rfl rfl (sw_true rfl rfl rfl (by decide +kernel)) (pi_seq (pe_slice sl_list (pv 0) po_none (po_some pe_int))) (blkOk_by (by kernel_rfl)) (fun _ _ _ _ _ => (pg_name (i := 2) sc_law_hand.nd rfl (.inl rfl))) (fun _ _ _ _ _ => pts_nil) (fun _ _ _ _ _ => (pe_callB call_abs' (by rfl) M.n_abs (by decide +kernel) (pa_cons (pe_callTy call_int' (by rfl) M.n_int (by decide +kernel) (pa_cons (pv 2) pa_nil)) pa_nil))))
    (pss_one (ps_ret (pe_lst (pa_cons (pv 1) (pa_cons pe_int (pa_cons pe_int (pa_cons (pe_op op_add pe_int (pe_callB call_lenS (by rfl) M.n_len (by decide +kernel) (pa_cons (pv 1) pa_nil))) (pa_cons pe_int pa_nil)))))))), ?_⟩
  intro a ns H Dn hS hl hT q
  have E0 : Env (gm K cl T) (r0 (gm K cl T)) (fun _ => False) [some (.ref a), none, none] H [some (.ref a), none, none] none :=
    entryE (N := nHa) (ds := [.ref a]) (fun _ h => h.elim) hT (IsL.one rfl)
  unfold tSeq tAsg
  refine lc_at (g := gm K cl T) (r := r0 (gm K cl T)) (js := [2]) (vs := [2]) (un := un1) (f := ar1 fun c => ob (lCons (ob (lCons (some c) (some [])) (d1 dint)) (some [])) (d1 dabs)) (ds := ns.map D.int) (d := .lst (ns.map fun n => .int (if n < 0 then -n else n))) E0 ?_ tg_name (by decide) hvN
    (ev_ar1 fun c => (atE [some (.ref a), none, some c] (ev_cb rc_abs (ea_cons (ev_cb rc_int (ea_cons (ev_var rfl) ea_nil)) ea_nil)))) ?_ _ fun v H1 k1 i1 => ?_
  · intro Rk qk
    refine .inl ⟨_, rfl, 63, rfl, a, ns.map V.int, rfl, hS, fun p hp => ?_⟩
    have hc : cutV (ns.map V.int) none (some 63) = ns.map V.int := by
      unfold cutV HT.sIx
      show ((ns.map V.int).drop 0).take ((if (63 : Int) < 0 then ((63 : Int) + (ns.map V.int).length).toNat else min (63 : Int).toNat (ns.map V.int).length) - 0) = _
      rw [if_neg (by decide), show (63 : Int).toNat = 63 from rfl]
      rw [List.drop_zero, Nat.sub_zero, Nat.min_eq_right (by rw [List.length_map]; exact hl), List.take_length]
    rw [hc]
    have k : R (gm K cl T) (r0 (gm K cl T)) H (upd H p (.lst (ns.map V.int))) := R.new hp fun _ z => by cases z
    exact ⟨p, rfl, ⟨_, SqL.of upd_same⟩, qk _ _ k (wk_lst (fun h => h) upd_same is_ints)⟩
  · have e := lc_abs ns
    show ob (mapO (fun d => ob (un1 d) fun xs => ock (Nat.beq xs.length 1) ((ar1 fun c => ob (lCons (ob (lCons (some c) (some [])) (d1 dint)) (some [])) (d1 dabs)) xs)) (ns.map D.int)) _ = _
    rw [e]
    show ock _ _ = _
    have : Nat.ble (ns.map fun n => D.int (if n < 0 then -n else n)).length small = true := by
      rw [List.length_map]
      exact Nat.ble_eq.mpr (Nat.le_trans hl (by decide))
    rw [this]
    rfl
  · obtain ⟨ce, vs, rfl, _, hce, _, iv⟩ := i1
    have ev : vs = (ns.map fun n => (if n < 0 then -n else n)).map V.int := by
      refine ints_is (g := gm K cl T) (O := fun _ => False) (H := H1) ?_
      rw [List.map_map]
      exact iv
    subst ev
    have hlen : ((ns.map fun n => (if n < 0 then -n else n)).map V.int).length ≤ 63 := by rw [List.length_map, List.length_map]; exact hl
    dsimp only [gName, tRet, tLst]
    refine ⟨_, rfl, _, rfl, _, ((ns.map fun n => (if n < 0 then -n else n)).map V.int).length, rfl, .inl ⟨_, SqL.of hce, rfl⟩, 1, _, rfl, rfl, by rw [sizeLine_eq]; show 5 ≤ 16777216; decide, fun hd hhd => ?_⟩
    have hne : hd ≠ ce := fun z => by rw [z, hce] at hhd; cases hhd
    have k2 : R0 (gm K cl T) H1 (upd H1 hd (.lst [.ref ce, .int 0, .int 0, .int (1 + (((ns.map fun n => (if n < 0 then -n else n)).map V.int).length : Int)), .int 0])) := R0.new hhd fun _ z => by cases z
    exact q hd ce _ (k1.to0.trans k2) ⟨_, 0, 0, _, 0, upd_same, by rw [upd_ne hne.symm]; exact hce, Int.le_refl _, hne⟩
theorem c_law_hand (M : Fx K mg cl T) : Cal P w K mg base 2 "_law_hand" (spHand (gm K cl T)) := by
  obtain ⟨f, fd, F, hm⟩ := M.f_law_hand
  refine ⟨f, fd, ["_law_script"], ?_, hm, F.kp, F.bindsN fun _ _ _ _ _ _ us hl => match us, hl with | [_], _ => rfl⟩
  refine F.ok sc_law_hand (fun vs H Q E h => ?_) fun cdv A outer s H vs Q E hr h => ?_
  · obtain ⟨a, ns, rfl, _⟩ := h
    rfl
  · obtain ⟨t, ht, hR⟩ := tm_hand (base := base) (f := f) M cdv A outer s H E hr
    obtain ⟨a, ns, rfl, h0, h1, h2, q⟩ := h
    exact ⟨t, PSs.nox ht, hR a ns H _ h0 h1 h2 fun hd ce H' k j => q hd ce H' k j⟩
end
end Z

namespace Z
open PySem PySem.Spec PyProof.Rows L2 NdefX LamX
def fPr : List Str := [("given" : Str), ("told" : Str), ("block" : Str)]
def b_mkProgram (given told block : D) : Option D := oif (ob (dtest (ob (lCons (some given) (lCons (some (.int 0)) (lCons (some (.int 2)) (some [])))) m_are_names)) fun b => some (!b)) none (oif (ob (dtest (ob (lCons (some told) (lCons (some (.int 1)) (lCons (some (.int 4)) (some [])))) m_are_names)) fun b => some (!b)) none
  (oif (ob (dtest (ob (some block) fun x => obl (isTk x))) fun b => some (!b)) none (ob (ob (lCons (some block) (some [])) m_wrong_place) fun place => oif (dtest (ob (some place) fun x => some (.bl (!isNonD x)))) none (oif (dtest (o2 dgtD (ob (lCons (some block) (some [])) m_size_of) (some (.int 5000)))) none (some (.ins 0 fPr [given, told, block]))))))
def mkProgram : List D → Option D := ar3 b_mkProgram
def fsP (a b c : V) : List (Str × V) := [("given", a), ("told", b), ("block", c)]
theorem putP2 (a b : V) : putF ("told" : Str) b [(("given" : Str), a)] = [(("given" : Str), a), (("told" : Str), b)] := by
  rw [putF_new]
  · rfl
  · intro q hq
    simp only [List.mem_cons, List.not_mem_nil, or_false] at hq
    subst hq
    dsimp only
    decide +kernel
theorem putP3 (a b c : V) : putF ("block" : Str) c [(("given" : Str), a), (("told" : Str), b)] = fsP a b c := by
  rw [putF_new]
  · rfl
  · intro q hq
    simp only [List.mem_cons, List.not_mem_nil, or_false] at hq
    rcases hq with rfl | rfl <;> (dsimp only; decide +kernel)
def spProg (g : Gm) : Sp := fun vs H Q _ => ∃ (S dx : Addr) (O : Addr → Prop) (given told block d : D) (a b c : V), vs = [.ref S, a, b, c] ∧ H S = some (.ins (g.cl 0) dx []) ∧ O S ∧ (∀ b, O b → H b ≠ none) ∧ TabsN g.T H ∧ IsL g O H [given, told, block] [a, b, c] ∧ mkProgram [given, told, block] = some d ∧
  ∀ H', InitR g S H H' → H' S = some (.ins (g.cl 0) dx (fsP a b c)) → IsL g O H' [given, told, block] [a, b, c] → Q .non H'
theorem if_skip {g : Gm} {r : Rl g} {tt : TT} {tn u : TS} {Dn : Ends} {σ : L2.St} {H : Hp} {O : Addr → Prop} {ρ : Rho} {ω : Om} {m : Option Bool} (h : EvT g r tt ρ ω m) (e : m = some false) (E : Env g r O σ H ρ ω) (q : ∀ H', R g r H H' → u Dn σ H') : tSeq (tIfS tt tn tNext) u Dn σ H :=
  h false e O σ H E _ fun H1 k1 => by
    rw [if_neg Bool.false_ne_true]
    exact q H1 k1
theorem oif_none {α : Type} {m : Option Bool} {x : Option α} {a : α} (h : oif m none x = some a) : m = some false ∧ x = some a := by
  obtain ⟨k, e, et, ef⟩ := oif_some h
  cases k with
  | true => have := et rfl; cases this
  | false => exact ⟨e, ef rfl⟩
section
variable {P : Program} {w : World} {K : PySem.W.Frag} {mg : Str → Option Value} {base : Heap} {cl : Nat → Addr} {T : List NTab}
abbrev s_prog : Stmt := inClass (topS 20) 0
def nPr : List Str := ["self", "given", "told", "block", "place"]
theorem sc_prog : FnScope nPr ["self", "given", "told", "block"] (defScope s_prog) := ⟨rfl, rfl, rfl, by decide +kernel, rfl, by decide +kernel, by decide +kernel⟩
theorem is_hid {g : Gm} {O : Addr → Prop} {H : Hp} {S : Addr} {C dx : Addr} {fs : List (Str × V)} {u : HO} {ds : List D} {vs : List V} (hS : H S = some (.ins C dx fs)) (h : O S) (i : IsL g O H ds vs) : IsL g O (upd H S u) ds vs := IsL.kp (fun b o e n z => by
  rw [upd_ne]
  · exact e
  · intro y
    subst y
    rw [hS] at e
    cases e
    rcases z with z | ⟨_, z⟩ | ⟨_, _, z⟩
    · exact z h
    · cases z
    · cases z) _ _ i
theorem tm_prog (M : Fx K mg cl T) {f : Addr} (cdv : Value) (A : Around) (outer : List PySem.Env) (s : Shared) (H : Hp) (E : XK) (hr : Room 4 (A.deeper (envOfC "Program.__init__" (defScope s_prog) s.heap.objs.size f cdv))) :
    ∃ t, PSs (cxOf L2.CX0 P w K mg base nPr "Program.__init__" (defScope s_prog) f cdv A outer s H E).nox (defBody s_prog) t ∧
      ∀ (S dx : Addr) (O : Addr → Prop) (given told block d : D) (a b c : V) (H : Hp) (Dn : Ends), H S = some (.ins (cl 0) dx []) → O S → (∀ b, O b → H b ≠ none) → TabsN T H → IsL (gm K cl T) O H [given, told, block] [a, b, c] → mkProgram [given, told, block] = some d →
        (∀ H', InitR (gm K cl T) S H H' → H' S = some (.ins (cl 0) dx (fsP a b c)) → IsL (gm K cl T) O H' [given, told, block] [a, b, c] → ∀ σ', Dn.nx σ' H') → t Dn [some (.ref S), some a, some b, some c, none] H := by
  refine ⟨_, (pss_cons (ps_if (pt_not (pt_val (pe_cl (c_are_names M) hr (by decide) rfl (pa_cons (pv 1) (pa_cons pe_int (pa_cons pe_int pa_nil)))))) (pss_one ps_never) pss_nil)
    (pss_cons (ps_if (pt_not (pt_val (pe_cl (c_are_names M) hr (by decide) rfl (pa_cons (pv 2) (pa_cons pe_int (pa_cons pe_int pa_nil)))))) (pss_one ps_never) pss_nil)
    (pss_cons (ps_if (pt_not (pt_val (pe_callB call_isi (by rfl) M.n_isinstance (by decide +kernel) (pa_cons (pv 3) (pa_cons (pe_bltn (v := .ty "tuple") (u := .type "tuple") (by rfl) M.n_tuple (by decide +kernel) rfl) pa_nil))))) (pss_one ps_never) pss_nil)
    (pss_cons (ps_set (i := 4) sc_prog.nd rfl (.inl rfl) (pe_cl (c_wrong_place M) hr (by decide) rfl (pa_cons (pv 3) pa_nil)))
    (pss_cons (ps_if (pt_cmp (pc_notN (pv 4)) rfl) (pss_one ps_never) pss_nil)
    (pss_cons (ps_if (pt_cmpR op_gt (pe_cl (c_size_of M) hr (by decide) rfl (pa_cons (pv 3) pa_nil)) (pe_gint rfl M.g_MOST_STATEMENTS) (nomark _)) (pss_one ps_never) pss_nil)
    (pss_cons (ps_fld (pv 0) (pv 1) rfl) (pss_cons (ps_fld (pv 0) (pv 2) rfl) (pss_one (ps_fld (pv 0) (pv 3) rfl)))))))))), ?_⟩
  intro S dx O given told block d a b c H Dn hS hO hid hT il em q
  obtain ⟨t1, em⟩ := oif_none (show oif _ none _ = some d from em)
  obtain ⟨t2, em⟩ := oif_none em
  obtain ⟨t3, em⟩ := oif_none em
  obtain ⟨place, t4, em⟩ := ob_some em
  obtain ⟨t5, em⟩ := oif_none em
  obtain ⟨t6, em⟩ := oif_none em
  have il0 : IsL (gm K cl T) O H [.ref S, given, told, block] [.ref S, a, b, c] := ⟨_, _, rfl, rfl, il⟩
  have E0 : Env (gm K cl T) (r0 (gm K cl T)) O [some (.ref S), some a, some b, some c, none] H [some (.ref S), some given, some told, some block, none] none := entryE (N := nPr) hid hT il0
  refine if_skip (et_not (et_B (ev_call (ea_cons (ev_var rfl) (ea_cons ev_int (ea_cons ev_int ea_nil)))))) t1 E0 fun H1 k1 => ?_
  refine if_skip (et_not (et_B (ev_call (ea_cons (ev_var rfl) (ea_cons ev_int (ea_cons ev_int ea_nil)))))) t2 (E0.go k1) fun H2 k2 => ?_
  have k12 := k1.trans k2
  refine if_skip (et_not (et_B (ev_isinst isTk_ok (ev_var rfl)))) t3 (E0.go k12) fun H3 k3 => ?_
  have k13 := k12.trans k3
  have ew : EvO (gm K cl T) (r0 (gm K cl T)) (tCall (spD (gm K cl T) m_wrong_place) [] L2.E0 (tCons (tVar 3) tNil)) [some (.ref S), some given, some told, some block, none] none (ob (lCons (some block) (some [])) m_wrong_place) := ev_call (ea_cons (ev_var rfl) ea_nil)
  refine ew place t4 O _ H3 (E0.go k13) _ fun vp H4 k4 ip => ?_
  have k14 := k13.trans k4
  have E4 : Env (gm K cl T) (r0 (gm K cl T)) O [some (.ref S), some a, some b, some c, some vp] H4 [some (.ref S), some given, some told, some block, some place] none := (E0.go k14).set (i := 4) ip h1N
  show tSeq _ _ Dn [some (.ref S), some a, some b, some c, some vp] H4
  refine if_skip (et_B (ev_notN (ev_var rfl))) t5 E4 fun H5 k5 => ?_
  refine if_skip (et_T (ev_op rv_gt (ev_call (ea_cons (ev_var rfl) ea_nil)) ev_int)) t6 (E4.go k5) fun H6 k6 => ?_
  have k16 := ((k14.trans k5).trans k6).to0
  have hS6 : H6 S = some (.ins (cl 0) dx []) := k16.keep _ _ hS fun _ z => by cases z
  have i6 : IsL (gm K cl T) O H6 [given, told, block] [a, b, c] := IsL.kp (fun b o e n _ => k16.keep b o e n) _ _ il
  have r6 : InitR (gm K cl T) S H H6 := InitR.refl.go k16
  refine ⟨_, rfl, .ref S, rfl, S, cl 0, dx, [], rfl, hS6, M.k_given.cl, M.k_given.no, by decide, ?_⟩
  have r7 : InitR (gm K cl T) S H (upd H6 S (.ins (cl 0) dx (putF "given" a []))) := r6.put hS6
  have i7 : IsL (gm K cl T) O (upd H6 S (.ins (cl 0) dx (putF "given" a []))) [given, told, block] [a, b, c] := is_hid hS6 hO i6
  refine ⟨_, rfl, .ref S, rfl, S, cl 0, dx, _, rfl, upd_same, M.k_told.cl, M.k_told.no, by show 1 < 1000; decide, ?_⟩
  have e8 : putF ("told" : Str) b (putF ("given" : Str) a []) = [(("given" : Str), a), (("told" : Str), b)] := putP2 a b
  rw [e8]
  have r8 : InitR (gm K cl T) S H (upd (upd H6 S (.ins (cl 0) dx (putF "given" a []))) S (.ins (cl 0) dx [(("given" : Str), a), (("told" : Str), b)])) := r7.put upd_same
  have i8 : IsL (gm K cl T) O (upd (upd H6 S (.ins (cl 0) dx (putF "given" a []))) S (.ins (cl 0) dx [(("given" : Str), a), (("told" : Str), b)])) [given, told, block] [a, b, c] := is_hid upd_same hO i7
  refine ⟨_, rfl, .ref S, rfl, S, cl 0, dx, _, rfl, upd_same, M.k_block.cl, M.k_block.no, by show 2 < 1000; decide, ?_⟩
  rw [putP3]
  exact q _ (r8.put upd_same) upd_same (is_hid upd_same hO i8) _
theorem ok_prog (M : Fx K mg cl T) {f : Addr} {fd : FuncData} (F : FnP K "__init__" "Program.__init__" s_prog f fd) : FnOk P w K mg base L2.CX0 5 f fd ["self", "given", "told", "block"] (spProg (gm K cl T)) := by
  refine F.ok sc_prog (fun vs H Q E h => ?_) fun cdv A outer s H vs Q E hr h => ?_
  · obtain ⟨S, dx, O, given, told, block, d, a, b, c, rfl, _⟩ := h
    rfl
  · obtain ⟨t, ht, hR⟩ := tm_prog (base := base) (f := f) M cdv A outer s H E hr
    obtain ⟨S, dx, O, given, told, block, d, a, b, c, rfl, h1, h2, h3, h4, h5, h6, q⟩ := h
    exact ⟨t, PSs.nox ht, hR S dx O given told block d a b c H _ h1 h2 h3 h4 h5 h6 fun H' x y z σ' => q H' x y z⟩
theorem pe_mkProgram {X : Cx} {j : Nat} {e : Expr} {es : List Expr} {t : TA} {p pos : Pos} (hK : X.K = K) (hmg : X.mg = mg) (M : Fx K mg cl T) (hr : Room j X.A) (hk : 6 ≤ j) (hg : Gl X "Program") (ha : PA X (e :: es) t)
    (he : starEach (e :: es) X.env = (false, eval e X.env) :: starEach es X.env := by rfl) (hpl : (backTo pos (starEach es X.env)).any (·.1) = false := by rfl) :
    PE X (.Call (.Name "Program" p) (e :: es) [] pos) (tMake (cl 0) (spProg (gm K cl T)) [] L2.E0 t) := by
  subst hK
  subst hmg
  obtain ⟨f, fd, F, mk, hm⟩ := M.mk_Program
  have b : L2.Binds X.K fd ["self", "given", "told", "block"] [] := F.bindsN fun _ _ _ _ _ _ us hl => match us, hl with | [_, _, _, _], _ => rfl
  exact pe_make mk (ok_prog (P := X.prog) (w := X.w) (base := X.base) M F) (hr.mono hk) hg hm b .nil L2.pass0 ha (by decide) he hpl
theorem ev_mkProgram {r : Rl (gm K cl T)} {ρ : Rho} {ω : Om} {tr : TA} {ms : Option (List D)} {E0 : XK} (h : EvA (gm K cl T) r tr ρ ω ms) : EvO (gm K cl T) r (tMake (cl 0) (spProg (gm K cl T)) [] E0 tr) ρ ω (ob ms mkProgram) := fun d e O σ H E Q q => by
  obtain ⟨ds, e1, e⟩ := ob_some e
  match ds, e1, e with
  | [given, told, block], e1, e =>
    refine h _ e1 O σ H E _ fun vs H1 k1 i1 => ?_
    have E1 := E.go k1
    obtain ⟨a, _, rfl, ia, b, _, rfl, ib, c, _, rfl, ic, rfl⟩ := i1
    intro x dx hx hdx hne
    have hx2 : upd H1 dx (.own x) x = none := by rw [upd_ne (Ne.symm hne)]; exact hx
    have k2 : R0 (gm K cl T) H1 (upd H1 dx (.own x)) := R0.new hdx fun _ z => by cases z
    have k3 : R0 (gm K cl T) (upd H1 dx (.own x)) (upd (upd H1 dx (.own x)) x (.ins (cl 0) dx [])) := R0.new hx2 fun _ z => by cases z
    have kk := k2.trans k3
    have il : IsL (gm K cl T) O H1 [given, told, block] [a, b, c] := ⟨_, _, rfl, ia, _, _, rfl, ib, _, _, rfl, ic, rfl⟩
    have nO : ∀ b, (O b ∨ b = x) → O b ∨ H1 b = none := fun b h => h.imp (fun z => z) fun z => by rw [z]; exact hx
    have il2 : IsL (gm K cl T) (fun b => O b ∨ b = x) (upd (upd H1 dx (.own x)) x (.ins (cl 0) dx [])) [given, told, block] [a, b, c] := IsL.kp (fun b o e n _ => kk.keep b o e n) _ _ (IsL.hide nO _ _ il)
    refine ⟨x, dx, fun b => O b ∨ b = x, given, told, block, d, a, b, c, rfl, upd_same, .inr rfl, fun b hb z => ?_, kk.tabs E1.tabs, il2, e, fun H' i hs i' => ⟨rfl, ?_⟩⟩
    · rcases hb with hb | hb
      · exact E1.hid b hb (kk.free b z)
      · rw [hb, upd_same] at z; cases z
    · have k4 : R0 (gm K cl T) H1 H' := ⟨fun b o e n => i.keep b o (kk.keep b o e n) n (ne_of_none e hx), fun b e => kk.free b (i.free b e), fun t => i.tabs (kk.tabs t), fun b ps e => by
        obtain ⟨qs, e1⟩ := kk.tb b ps e
        exact i.tb b qs e1⟩
      have ed : d = .ins 0 fPr [given, told, block] := by
        obtain ⟨_, e⟩ := oif_none (show oif _ none _ = some d from e)
        obtain ⟨_, e⟩ := oif_none e
        obtain ⟨_, e⟩ := oif_none e
        obtain ⟨_, _, e⟩ := ob_some e
        obtain ⟨_, e⟩ := oif_none e
        obtain ⟨_, e⟩ := oif_none e
        exact (Option.some.inj e).symm
      subst ed
      refine q _ _ (k1.trans (R.of0 k4)) ⟨x, dx, fsP a b c, [a, b, c], rfl, fun z => E1.hid x z hx, hs, IsL.anti (fun b h => .inl h) _ _ i', rfl, fun f u hf => ?_, fun f hf => ?_⟩
      · have e2 : fsP a b c = fPr.zip [a, b, c] := rfl
        rw [e2, look_zip]
        exact hf
      · simp only [METHS, List.mem_cons, List.not_mem_nil, or_false] at hf
        rcases hf with rfl | rfl | rfl <;> rfl
  | [], _, e => cases e
  | [_], _, e => cases e
  | [_, _], _, e => cases e
  | _ :: _ :: _ :: _ :: _, _, e => cases e
end
end Z

namespace Z
open PySem PySem.Spec PyProof.Rows L2 NdefX LamX
def isLk : D → Option Bool
  | .lst _ => some true
  | .tup _ => some false
  | .ptup _ => some false
  | .int _ => some false
  | .str _ => some false
  | .bl _ => some false
  | .dct _ _ => some false
  | .non => some false
  | _ => none
def isDk : D → Option Bool
  | .dct _ _ => some true
  | .tup _ => some false
  | .ptup _ => some false
  | .lst _ => some false
  | .int _ => some false
  | .str _ => some false
  | .bl _ => some false
  | .non => some false
  | _ => none
def isBk : D → Option Bool
  | .bl _ => some true
  | .tup _ => some false
  | .ptup _ => some false
  | .lst _ => some false
  | .int _ => some false
  | .str _ => some false
  | .dct _ _ => some false
  | .non => some false
  | _ => none
def isTLk : D → Option Bool
  | .tup _ => some true
  | .ptup _ => some true
  | .lst _ => some true
  | .int _ => some false
  | .str _ => some false
  | .bl _ => some false
  | .dct _ _ => some false
  | .non => some false
  | _ => none
theorem isLk_ok : ∀ (d : D) (b : Bool), isLk d = some b → ∃ k, kindD d = some k ∧ kitB k "list" = some b := fun d b h => by
  cases d <;> first | (cases h; exact ⟨_, rfl, by decide +kernel⟩) | cases h
theorem isDk_ok : ∀ (d : D) (b : Bool), isDk d = some b → ∃ k, kindD d = some k ∧ kitB k "dict" = some b := fun d b h => by
  cases d <;> first | (cases h; exact ⟨_, rfl, by decide +kernel⟩) | cases h
theorem isBk_ok : ∀ (d : D) (b : Bool), isBk d = some b → ∃ k, kindD d = some k ∧ kitB k "bool" = some b := fun d b h => by
  cases d <;> first | (cases h; exact ⟨_, rfl, by decide +kernel⟩) | cases h
theorem isTLk_ok : ∀ (d : D) (b : Bool), isTLk d = some b → ∃ (k : String) (b1 b2 : Bool), kindD d = some k ∧ kitB k "tuple" = some b1 ∧ kitB k "list" = some b2 ∧ (b1 || b2) = b
  | .tup _, _, h => by cases h; exact ⟨"tuple", true, false, rfl, by decide +kernel, by decide +kernel, rfl⟩
  | .ptup _, _, h => by cases h; exact ⟨"tuple", true, false, rfl, by decide +kernel, by decide +kernel, rfl⟩
  | .lst _, _, h => by cases h; exact ⟨"list", false, true, rfl, by decide +kernel, by decide +kernel, rfl⟩
  | .int _, _, h => by cases h; exact ⟨"int", false, false, rfl, by decide +kernel, by decide +kernel, rfl⟩
  | .str _, _, h => by cases h; exact ⟨"str", false, false, rfl, by decide +kernel, by decide +kernel, rfl⟩
  | .bl _, _, h => by cases h; exact ⟨"bool", false, false, rfl, by decide +kernel, by decide +kernel, rfl⟩
  | .dct _ _, _, h => by cases h; exact ⟨"dict", false, false, rfl, by decide +kernel, by decide +kernel, rfl⟩
  | .non, _, h => by cases h; exact ⟨"NoneType", false, false, rfl, by decide +kernel, by decide +kernel, rfl⟩
theorem ev_isTL {g : Gm} {r : Rl g} {ρ : Rho} {ω : Om} {te : TE} {m : Option D} (h : EvO g r te ρ ω m) : EvO g r (tCB (rIsiT g.K) (tCons te (tCons (tTup (tCons (tC (.ty "tuple")) (tCons (tC (.ty "list")) tNil))) tNil))) ρ ω (ob m fun d => obl (isTLk d)) := fun d e O σ H E Q q => by
  obtain ⟨x, e1, e⟩ := ob_some e
  obtain ⟨b, e2, rfl⟩ := obl_some e
  obtain ⟨k, b1, b2, hk, h1, h2, hb⟩ := isTLk_ok x b e2
  refine h x e1 O σ H E _ fun v H1 k1 i1 => ?_
  refine ⟨by rw [sizeLine_eq]; show 2 ≤ 16777216; decide, fun p hp => ?_⟩
  have k2 : R g r H1 (upd H1 p (.tup [.ty "tuple", .ty "list"])) := R.new hp fun _ z => by cases z
  refine ⟨v, p, [.ty "tuple", .ty "list"], .type k, [.type "tuple", .type "list"], b, rfl, upd_same, .cons (.ty _) (.cons (.ty _) .nil), kind_ty hk (Is.kp (k2.kp E.sub) _ _ i1), ?_, q _ _ (k1.trans k2) rfl⟩
  unfold PySem.W.kitAny
  rw [kit_ty h1]
  cases b1 with
  | true => rw [← hb]; rfl
  | false =>
    show PySem.W.kitAny g.K (.type k) [.type "list"] = some b
    unfold PySem.W.kitAny
    rw [kit_ty h2]
    cases b2 with
    | true => rw [← hb]; rfl
    | false => rw [← hb]; rfl
section
variable {P : Program} {w : World} {K : PySem.W.Frag} {mg : Str → Option Value} {base : Heap} {cl : Nat → Addr} {T : List NTab}
def b_law_is (rec : List D → Option D) (lawtold904 lawdue905 : D) : Option D := oif (dtest (ob (some lawdue905) fun x => obl (isTLk x)))
  (oif (oif (dtest (o2 dneD (ob (some lawtold904) fun x => obl (isTk x)) (ob (some lawdue905) fun x => obl (isTk x)))) (some true) (dtest (o2 dneD (ob (some lawtold904) fun x => obl (isLk x)) (ob (some lawdue905) fun x => obl (isLk x))))) (some (.bl false)) (oif (dtest (o2 deqD (ob (lCons (some lawtold904) (some [])) (d1 dlen)) (ob (lCons (some lawdue905) (some [])) (d1 dlen)))) (ob (lCons (ob (ob (ob (lCons (some lawdue905) (some [])) (d1 dlen)) drange1) (lcO un1 1 (ar1 fun lawk906 => ob (lCons (o2 dixS (some lawtold904) (some lawk906)) (lCons (o2 dixS (some lawdue905) (some lawk906)) (some []))) rec))) (some [])) (d1 dall)) (some (.bl false))))
  (oif (dtest (ob (some lawdue905) fun x => obl (isDk x))) none (oif (dtest (o2 deqD (ob (some lawtold904) fun x => obl (isBk x)) (ob (some lawdue905) fun x => obl (isBk x)))) (o2 deqD (some lawtold904) (some lawdue905)) (some (.bl false))))
def m_lawN : Nat → List D → Option D
  | 0 => fun _ => none
  | n + 1 => ar2 (b_law_is (m_lawN n))
abbrev s_law_is : Stmt := topS 77
theorem sc_law_is : FnScope ["_law_told", "_law_due", "_law_k", "_law_key"] ["_law_told", "_law_due"] (defScope s_law_is) := ⟨rfl, rfl, rfl, by decide +kernel, rfl, by decide +kernel, by decide +kernel⟩
theorem c_law_is (M : Fx K mg cl T) : ∀ n : Nat, Cal P w K mg base (n + 1) "_law_is" (spD (gm K cl T) (m_lawN n))
  | 0 => by
    obtain ⟨f, fd, F, hm⟩ := M.f_law_is
    refine ⟨f, fd, ["_law_told", "_law_due"], ?_, hm, F.kp, F.bindsN fun _ _ _ _ _ _ us hl => match us, hl with | [_, _], _ => rfl⟩
    refine F.ok (k := 0) sc_law_is (fun vs H Q E h => ?_) fun cdv A outer s H vs Q E hr h => ?_
    · obtain ⟨ds, d, O, h1, h2, h3, h4, h5⟩ := h
      cases h4
    · obtain ⟨ds, d, O, h1, h2, h3, h4, h5⟩ := h
      cases h4
  | n + 1 => by
    obtain ⟨f, fd, F, hm⟩ := M.f_law_is
    refine cal2 F hm sc_law_is rfl (fun _ _ _ _ _ _ us hl => match us, hl with | [_, _], _ => rfl) fun cdv A outer s H E hr => ⟨_, (pss_cons (ps_if (pt_val (pe_callB call_isiT (by rfl) M.n_isinstance (by decide +kernel) (pa_cons (pv 1) (pa_cons (pe_tup (pa_cons (pe_bltn (v := .ty "tuple") (u := .type "tuple") (by rfl) M.n_tuple (by decide +kernel) rfl) (pa_cons (pe_bltn (v := .ty "list") (u := .type "list") (by rfl) M.n_list (by decide +kernel) rfl) pa_nil))) pa_nil))))
      (pss_cons (ps_if (PW.pt (pw_or (pt_cmpR op_ne (pe_callB call_isi (by rfl) M.n_isinstance (by decide +kernel) (pa_cons (pv 0) (pa_cons (pe_bltn (v := .ty "tuple") (u := .type "tuple") (by rfl) M.n_tuple (by decide +kernel) rfl) pa_nil))) (pe_callB call_isi (by rfl) M.n_isinstance (by decide +kernel) (pa_cons (pv 1) (pa_cons (pe_bltn (v := .ty "tuple") (u := .type "tuple") (by rfl) M.n_tuple (by decide +kernel) rfl) pa_nil))) (nomark _)) (pw_or1 (pt_cmpR op_ne (pe_callB call_isi (by rfl) M.n_isinstance (by decide +kernel) (pa_cons (pv 0) (pa_cons (pe_bltn (v := .ty "list") (u := .type "list") (by rfl) M.n_list (by decide +kernel) rfl) pa_nil))) (pe_callB call_isi (by rfl) M.n_isinstance (by decide +kernel) (pa_cons (pv 1) (pa_cons (pe_bltn (v := .ty "list") (u := .type "list") (by rfl) M.n_list (by decide +kernel) rfl) pa_nil))) (nomark _))))) (pss_one (ps_ret pe_bl)) pss_nil)
      (pss_one (ps_ret (pe_and (pe_cmpR (op_eqA hr.units) (pe_callB call_lenS (by rfl) M.n_len (by decide +kernel) (pa_cons (pv 0) pa_nil)) (pe_callB call_lenS (by rfl) M.n_len (by decide +kernel) (pa_cons (pv 1) pa_nil)) (nomark _)) (pe_one (pe_callB (call_all rfl) (by rfl) M.n_all (by decide +kernel) (pa_cons (pe_lc (own := [("_law_k", 2)]) rfl sc_law_is.nd (pi_range1 rfl M.n_range (pa_cons (pe_callB call_lenS (by rfl) M.n_len (by decide +kernel) (pa_cons (pv 1) pa_nil)) pa_nil)) (blkOk_by (by kernel_rfl)) (fun _ _ _ _ _ => (pg_name (i := 2) sc_law_is.nd rfl (.inl rfl))) (fun _ _ _ _ _ => pts_nil) (fun _ _ _ _ _ => (pe_cl (c_law_is M n) hr (Nat.le_refl _) rfl (pa_cons (pe_ix ix_seq (pv 0) (pv 2) (fun _ _ => rfl)) (pa_cons (pe_ix ix_seq (pv 1) (pv 2) (fun _ _ => rfl)) pa_nil))))) pa_nil)))))))
      pss_nil)
      (pss_cons (ps_if (pt_val (pe_callB call_isi (by rfl) M.n_isinstance (by decide +kernel) (pa_cons (pv 1) (pa_cons (pe_bltn (v := .ty "dict") (u := .type "dict") (by rfl) M.n_dict (by decide +kernel) rfl) pa_nil)))) (pss_one ps_never) pss_nil)
      (pss_one (ps_ret (pe_and (pe_cmpR (op_eqA hr.units) (pe_callB call_isi (by rfl) M.n_isinstance (by decide +kernel) (pa_cons (pv 0) (pa_cons (pe_bltn (v := .ty "bool") (u := .type "bool") (by rfl) M.n_bool (by decide +kernel) rfl) pa_nil))) (pe_callB call_isi (by rfl) M.n_isinstance (by decide +kernel) (pa_cons (pv 1) (pa_cons (pe_bltn (v := .ty "bool") (u := .type "bool") (by rfl) M.n_bool (by decide +kernel) rfl) pa_nil))) (nomark _)) (pe_one (pe_cmpR (op_eqA hr.units) (pv 0) (pv 1) (nomark _)))))))),
      fun lawtold904 lawdue905 => (atB [some lawtold904, some lawdue905, none, none] (rb_ifseq (et_B (ev_isTL (ev_var rfl)))
        (atB [some lawtold904, some lawdue905, none, none] (rb_ifseq (et_or (et_T (ev_op rv_ne (ev_isinst isTk_ok (ev_var rfl)) (ev_isinst isTk_ok (ev_var rfl)))) (et_T (ev_op rv_ne (ev_isinst isLk_ok (ev_var rfl)) (ev_isinst isLk_ok (ev_var rfl))))) (atB [some lawtold904, some lawdue905, none, none] (rb_ret ev_bl)) (atB [some lawtold904, some lawdue905, none, none] (rb_ret (ev_and (ev_op rv_eq (ev_cb rc_len (ea_cons (ev_var rfl) ea_nil)) (ev_cb rc_len (ea_cons (ev_var rfl) ea_nil))) (ev_cb rc_all (ea_cons (ev_lc (it_range1 (ev_cb rc_len (ea_cons (ev_var rfl) ea_nil))) tg_name (by decide) hvN (ev_ar1 fun lawk906 => (atE [some lawtold904, some lawdue905, some lawk906, none] (ev_call (ea_cons (ev_ix (ev_var rfl) (ev_var rfl)) (ea_cons (ev_ix (ev_var rfl) (ev_var rfl)) ea_nil)))))) ea_nil)))))))
        (atB [some lawtold904, some lawdue905, none, none] (rb_ifseq (et_B (ev_isinst isDk_ok (ev_var rfl))) rb_none (atB [some lawtold904, some lawdue905, none, none] (rb_ret (ev_and (ev_op rv_eq (ev_isinst isBk_ok (ev_var rfl)) (ev_isinst isBk_ok (ev_var rfl))) (ev_op rv_eq (ev_var rfl) (ev_var rfl)))))))))⟩
def b_law_is_told (lawgiven907 lawtold908 lawblock909 lawparts910 : D) : Option D := ob (ob (lCons (ob (lCons (some lawgiven907) (lCons (some lawtold908) (lCons (some lawblock909) (some [])))) mkProgram) (some [])) m_table_of) fun lawtable911 => ob (lCons (ob (lCons (ob (some lawtable911) (dfld 1 ("bounds" : Str))) (lCons (ob (some lawtable911) (dfld 1 ("measures" : Str))) (lCons (ob (some lawtable911) (dfld 1 ("rows" : Str))) (some [])))) dlstD) (lCons (ob (lCons (some lawparts910) (some [])) (d1 dlist)) (some []))) (m_lawN 7)
def m_law_is_told : List D → Option D := ar4 b_law_is_told
abbrev s_law_is_told : Stmt := topS 78
theorem sc_law_is_told : FnScope ["_law_given", "_law_told", "_law_block", "_law_parts", "_law_table"] ["_law_given", "_law_told", "_law_block", "_law_parts"] (defScope s_law_is_told) := ⟨rfl, rfl, rfl, by decide +kernel, rfl, by decide +kernel, by decide +kernel⟩
theorem c_law_is_told (M : Fx K mg cl T) (Y : Fy K mg base T) : Cal P w K mg base 25 "_law_is_told" (spD (gm K cl T) m_law_is_told) := by
  obtain ⟨f, fd, F, hm⟩ := M.f_law_is_told
  refine cal4 F hm sc_law_is_told rfl (fun _ _ _ _ _ _ us hl => match us, hl with | [_, _, _, _], _ => rfl) fun cdv A outer s H E hr => ⟨_, (pss_cons (ps_set (i := 4) sc_law_is_told.nd rfl (.inl rfl) (pe_cl (c_table_of M Y) hr (by decide) rfl (pa_cons (pe_mkProgram rfl rfl M hr (by decide) rfl (pa_cons (pv 0) (pa_cons (pv 1) (pa_cons (pv 2) pa_nil)))) pa_nil)))
    (pss_one (ps_ret (pe_cl (c_law_is M 7) hr (by decide) rfl (pa_cons (pe_lst (pa_cons (pe_fld (pv 4) rfl) (pa_cons (pe_fld (pv 4) rfl) (pa_cons (pe_fld (pv 4) rfl) pa_nil)))) (pa_cons (pe_callTy call_list' (by rfl) M.n_list (by decide +kernel) (pa_cons (pv 3) pa_nil)) pa_nil)))))),
    fun lawgiven907 lawtold908 lawblock909 lawparts910 => (atB [some lawgiven907, some lawtold908, some lawblock909, some lawparts910, none] (rb_seq (rn_set (ev_call (ea_cons (ev_mkProgram (ea_cons (ev_var rfl) (ea_cons (ev_var rfl) (ea_cons (ev_var rfl) ea_nil)))) ea_nil)) h1N) fun lawtable911 => (atB [some lawgiven907, some lawtold908, some lawblock909, some lawparts910, some lawtable911] (rb_ret (ev_call (ea_cons (ev_lst (ea_cons (ev_fld M.k_bounds (ev_var rfl)) (ea_cons (ev_fld M.k_measures (ev_var rfl)) (ea_cons (ev_fld M.k_rows (ev_var rfl)) ea_nil)))) (ea_cons (ev_cb rc_list (ea_cons (ev_var rfl) ea_nil)) ea_nil)))))))⟩
end
end Z

namespace Z
open PySem PySem.Spec PyProof.Rows L2 NdefX LamX
/-- three plain local names at once -/
def tPar3 (i j k : Nat) (ta : TA) : TS := fun Dn σ H => ta σ H fun vs H1 => ∃ u v w, vs = [u, v, w] ∧ Dn.nx (((σ.set i (some u)).set j (some v)).set k (some w)) H1
theorem ps_par3 {X : Cx} {i j k : Nat} {x y z : Str} {a b c : Expr} {ta : TA} {px py pz pt pos : Pos} {kt k2 : Nat} {pt2 : Pos} (calm : X.calm = true) (nd : X.N.Nodup) (hi : X.N[i]? = some x) (hj : X.N[j]? = some y) (hk : X.N[k]? = some z) (ij : i ≠ j) (ik : i ≠ k) (jk : j ≠ k)
    (lx : X.env.scope.names.lookup x = some .local) (ly : X.env.scope.names.lookup y = some .local) (lz : X.env.scope.names.lookup z = some .local) (ha : PA X [a, b, c] ta)
    (sw : swappedStores [.Tuple [.Name x px, .Name y py, .Name z pz] kt pt] (.Tuple [a, b, c] k2 pt2) X.env = pure (some [x, y, z]))
    (so : swapsWithSole [.Tuple [.Name x px, .Name y py, .Name z pz] kt pt] (.Tuple [a, b, c] k2 pt2) pos.line X.env = pure false := by rfl) :
    PS X (.Assign [.Tuple [.Name x px, .Name y py, .Name z pz] kt pt] (.Tuple [a, b, c] k2 pt2) pos) (tPar3 i j k ta) := by
  constructor
  intro pins s σ H Dn I h
  rw [exec_Assign_arm]
  apply wpAny_bind
  apply wpAny_standAt
  rw [so]
  apply wpAny_bind
  apply wpAny_pure
  rw [if_neg (by decide)]
  refine wpAny_bind (Tuple_ (thn (ha.run _ pins s σ H _ I h) fun us s1 got => ?_))
  obtain ⟨vs, H1, I1, r1, u, v, w, ev, q1⟩ := got
  subst ev
  obtain ⟨u1, u2, u3, rfl, r2, r3, r4⟩ : ∃ u1 u2 u3, us = [u1, u2, u3] ∧ RelV u u1 ∧ RelV v u2 ∧ RelV w u3 := by
    match us, r1 with
    | [u1, u2, u3], .cons p (.cons p' (.cons p'' .nil)) => exact ⟨u1, u2, u3, rfl, p, p', p''⟩
  refine wpAny_newObj_type ?_ (by show 3 ≤ sizeLine; decide)
  have I2 := I1.kept (h' := s1.heap.push { cls := .type "tuple", data := .seq [u1, u2, u3].toArray }) (t' := s1.toks) fun b o e => Heap.get?_push_of_some _ e
  rw [sw]
  apply wpAny_bind
  apply wpAny_pure
  show wpAny (model X.prog X.w) X.A (do rule "assign.swapped-stores"; let items ← unpackItems (.ref s1.heap.objs.size) 3 none; assignInOrder [fun v => bindName X.env z v, fun v => bindName X.env y v, fun v => bindName X.env x v] items.reverse; pure Flow.next) _ _ _
  refine wpAny_bind (wpAny_rule (wpAny_bind (unpackItems_tuple (items := #[u1, u2, u3]) (I.ok.hd calm) (IsTup.new s1.heap _) fun h' hx' => ?_)))
  have I3 := I2.kept (h' := h') (t' := s1.toks) fun b o e => hx' b o (Nat.ne_of_lt (Heap.lt_size e)) e
  show wpAny _ _ (assignInOrder [fun v => bindName X.env z v, fun v => bindName X.env y v, fun v => bindName X.env x v] [u3, u2, u1] >>= fun _ => pure Flow.next) _ _ _
  refine wpAny_bind (assignInOrder_cons (wpAny_bindName (store_ok I3 nd hk (.inl lz) r4 (fun s2 I4 => ?_) (.inr lz))))
  refine assignInOrder_cons (wpAny_bindName (store_ok I4 nd hj (.inl ly) r3 (fun s3 I5 => ?_) (.inr ly)))
  refine assignInOrder_cons (wpAny_bindName (store_ok I5 nd hi (.inl lx) r2 (fun s4 I6 => assignInOrder_nil (wpAny_pure ?_)) (.inr lx)))
  have es : ((σ.set k (some w)).set j (some v)).set i (some u) = ((σ.set i (some u)).set j (some v)).set k (some w) := by
    rw [List.set_comm _ _ (Ne.symm jk), List.set_comm _ _ (Ne.symm ik), List.set_comm _ _ (Ne.symm ij)]
  rw [es] at I6
  exact ⟨_, H1, I6, q1⟩
/-- a block that returns one of the data that P tells -/
def RdBN (g : Gm) (r : Rl g) (ts : TS) (ρ : Rho) (P : D → Prop) : Prop := ∀ H0 O0 O σ H Dn, SEnv g r H0 O0 O σ H ρ none → (∀ d v H', P d → R g r H0 H' → Is g O0 H' d v → Dn.rt v H') → ts Dn σ H
section
variable {g : Gm} {r : Rl g} {ρ : Rho} {t u : TS} {te : TE} {P : D → Prop}
theorem rbn_of {m : Option D} {d : D} (h : RdB g r t ρ none m) (e : m = some d) (p : P d) : RdBN g r t ρ P := fun H0 O0 O σ H Dn E q => h d e H0 O0 O σ H Dn E fun v H' k i => q d v H' p k i
theorem rbn_seq {α : Type} {m : Option α} {a : α} {Pr : α → Rho} (h1 : RdN g r t ρ none m Pr (fun _ => none)) (e : m = some a) (h2 : RdBN g r u (Pr a) P) : RdBN g r (tSeq t u) ρ P := fun H0 O0 O σ H Dn E q =>
  h1 a e H0 O0 O σ H _ E fun σ' H' E' _ => h2 H0 O0 O σ' H' Dn E' q
theorem atNB (ρ' : Rho) (h : RdBN g r u ρ' P) (e : ρ' = ρ := by rfl) : RdBN g r u ρ P := e ▸ h
theorem ev_varE {i : Nat} {d e : D} {ω : Om} (h : ρ[i]? = some (some d)) (ed : d = e) : EvO g r (tVar i) ρ ω (some e) := by
  subst ed
  exact ev_var h
end
section
variable {g : Gm} {hd ce : Addr} {ρ : Rho} {u : TS} {te t1 t2 t3 : TE} {P : D → Prop}
theorem draw_at {O : Addr → Prop} {σ : L2.St} {H : Hp} {many : Int} {E0 : XK} (E : Env g (rHand g hd ce) O σ H ρ none) (h0 : ρ[0]? = some (some (.ref hd))) (ht : EvO g (rHand g hd ce) te ρ none (some (.int many))) (m0 : 0 < many) (m1 : many < 1000) (Q : VK)
    (q : ∀ (n : Int) (H' : Hp), 0 ≤ n → n < many → R g (rHand g hd ce) H H' → Q (.int n) H') : tCall (spDraw g) [] E0 (tCons (tVar 0) (tCons te tNil)) σ H Q := by
  obtain ⟨v, hv, iv⟩ := E.at_ 0 _ h0
  obtain rfl : v = V.ref hd := iv
  refine ⟨_, hv, ht _ rfl O σ H E _ fun w H1 k1 i1 => ?_⟩
  obtain rfl : w = V.int many := i1
  exact ⟨hd, ce, many, rfl, m0, m1, (E.go k1).J, fun n H' a b k => q n H' a b (k1.trans k)⟩
theorem rbn_draw1 {i : Nat} {c many : Int} {E0 : XK} (h0 : ρ[0]? = some (some (.ref hd))) (ht : EvO g (rHand g hd ce) te ρ none (some (.int many))) (m0 : 0 < many) (m1 : many < 1000)
    (h : ∀ n : Int, 0 ≤ n → n < many → RdBN g (rHand g hd ce) u (ρ.set i (some (.int (c + n)))) P) : RdBN g (rHand g hd ce) (tSeq (tAsg (tOp (rAddD g.K) (tC (.int c)) (tCall (spDraw g) [] E0 (tCons (tVar 0) (tCons te tNil)))) (gName i)) u) ρ P := fun H0 O0 O σ H Dn E q => by
  unfold tSeq tAsg
  show tCall (spDraw g) [] E0 (tCons (tVar 0) (tCons te tNil)) σ H _
  refine draw_at E.env h0 ht m0 m1 _ fun n H1 a b k => .inl (.inl ⟨c, n, rfl, rfl, ?_⟩)
  exact h n a b H0 O0 O _ H1 Dn ((E.go k).set (i := i) (d := .int (c + n)) rfl h1N) q
theorem rbn_draw2 {i : Nat} {many : Int} {E0 : XK} (h0 : ρ[0]? = some (some (.ref hd))) (ht : EvO g (rHand g hd ce) te ρ none (some (.int many))) (m0 : 0 < many) (m1 : many < 1000)
    (h : ∀ n : Int, 0 ≤ n → n < many → RdBN g (rHand g hd ce) u (ρ.set i (some (.int n))) P) : RdBN g (rHand g hd ce) (tSeq (tAsg (tCall (spDraw g) [] E0 (tCons (tVar 0) (tCons te tNil))) (gName i)) u) ρ P := fun H0 O0 O σ H Dn E q => by
  unfold tSeq tAsg
  refine draw_at E.env h0 ht m0 m1 _ fun n H1 a b k => ?_
  exact h n a b H0 O0 O _ H1 Dn ((E.go k).set (i := i) (d := .int n) rfl h1N) q
theorem rbn_draw3 {i j k : Nat} {m1 m2 m3 : Int} {E0 E1 E2 : XK} (h0 : ρ[0]? = some (some (.ref hd))) (a1 : EvO g (rHand g hd ce) t1 ρ none (some (.int m1))) (a2 : EvO g (rHand g hd ce) t2 ρ none (some (.int m2))) (a3 : EvO g (rHand g hd ce) t3 ρ none (some (.int m3))) (b1 : 0 < m1 ∧ m1 < 1000) (b2 : 0 < m2 ∧ m2 < 1000) (b3 : 0 < m3 ∧ m3 < 1000)
    (h : ∀ n1 n2 n3 : Int, 0 ≤ n1 → n1 < m1 → 0 ≤ n2 → n2 < m2 → 0 ≤ n3 → n3 < m3 → RdBN g (rHand g hd ce) u (setM ρ [i, j, k] [.int n1, .int n2, .int n3]) P) :
    RdBN g (rHand g hd ce) (tSeq (tPar3 i j k (tCons (tCall (spDraw g) [] E0 (tCons (tVar 0) (tCons t1 tNil))) (tCons (tCall (spDraw g) [] E1 (tCons (tVar 0) (tCons t2 tNil))) (tCons (tCall (spDraw g) [] E2 (tCons (tVar 0) (tCons t3 tNil))) tNil)))) u) ρ P := fun H0 O0 O σ H Dn E q => by
  unfold tSeq tPar3
  refine draw_at E.env h0 a1 b1.1 b1.2 _ fun n1 H1 x1 y1 k1 => ?_
  refine draw_at (E.env.go k1) h0 a2 b2.1 b2.2 _ fun n2 H2 x2 y2 k2 => ?_
  refine draw_at ((E.env.go k1).go k2) h0 a3 b3.1 b3.2 _ fun n3 H3 x3 y3 k3 => ⟨_, _, _, rfl, ?_⟩
  exact h n1 n2 n3 x1 y1 x2 y2 x3 y3 H0 O0 O _ H3 Dn ((((E.go ((k1.trans k2).trans k3)).set (i := i) (d := .int n1) rfl h1N).set (i := j) (d := .int n2) rfl h1N).set (i := k) (d := .int n3) rfl h1N) q
end
/-- a part of the law: it is right -/
def spRight (g : Gm) : Sp := fun vs H Q _ => ∃ (hd ce : Addr), vs = [.ref hd] ∧ (rHand g hd ce).J H ∧ TabsN g.T H ∧ ∀ H' : Hp, R g (rHand g hd ce) H H' → Q (.bl true) H'
theorem calR {P : Program} {w : World} {K : PySem.W.Frag} {mg : Str → Option Value} {base : Heap} {cl : Nat → Addr} {T : List NTab} {x : Str} {st : Stmt} {N : List Str} {k : Nat} (hF : Fn1 K mg x st) (S : FnScope N ["_law_hand_here"] (defScope st))
    (h : ∀ (cdv : Value) (A : Around) (outer : List PySem.Env) (s : Shared) (H : Hp) (E : XK) (f : Addr), Room k (A.deeper (envOfC x (defScope st) s.heap.objs.size f cdv)) → ∃ t, PSs (cxOf L2.CX0 P w K mg base N x (defScope st) f cdv A outer s H E).nox (defBody st) t ∧ ∀ hd ce : Addr, RdBN (gm K cl T) (rHand (gm K cl T) hd ce) t (rho0 N [.ref hd]) (fun d => d = .bl true))
    (hb : ∀ (kV doc pm : Value) (an : Option Addr) (cdv ct : Value) (us : List Value), us.length = ["_law_hand_here"].length → bindArgs (PySem.W.fnOf x x (defArgs st) (defBody st) (defScope st) .none kV doc pm an cdv ct) ⟨us, []⟩ = pure ((["_law_hand_here"] : List Str).zip us) := by exact fun _ _ _ _ _ _ us hl => match us, hl with | [_], _ => rfl) :
    Cal P w K mg base (k + 1) x (spRight (gm K cl T)) := by
  obtain ⟨f, fd, F, hm⟩ := hF
  refine ⟨f, fd, ["_law_hand_here"], ?_, hm, F.kp, F.bindsN hb⟩
  refine F.ok S (fun vs H Q E hs => ?_) fun cdv A outer s H vs Q E hr hs => ?_
  · obtain ⟨hd, ce, rfl, _⟩ := hs
    rfl
  · obtain ⟨t, ht, hR⟩ := h cdv A outer s H E f hr
    obtain ⟨hd, ce, rfl, J, tb, q⟩ := hs
    have en : Ent (gm K cl T) (rHand (gm K cl T) hd ce) (fun b => b = hd ∨ b = ce) H := ⟨fun b l => l, fun b l => (rHand (gm K cl T) hd ce).hL H b J l, fun b a => a.elim, tb, J⟩
    refine ⟨t, PSs.nox ht, hR hd ce H _ _ _ H _ ⟨entryR en (IsL.one rfl), R.refl, fun _ h => h, fun i c b z => by cases z⟩ fun d v H' p k i => ?_⟩
    subst p
    obtain rfl : v = V.bl true := i
    exact q H' k
def isTr : Option D → Bool
  | some (.bl true) => true
  | _ => false
theorem isTr_ok {m : Option D} (h : isTr m = true) : m = some (.bl true) := by
  unfold isTr at h
  split at h
  · rfl
  · cases h
def allR1 (c n : Nat) (f : D → Option D) : Bool := (List.range n).all fun i => isTr (f (.int ((c : Int) + (i : Int))))
theorem allR1_at {c n : Nat} {f : D → Option D} (h : allR1 c n f = true) {i : Int} (h0 : 0 ≤ i) (h1 : i < n) : f (.int ((c : Int) + i)) = some (.bl true) := by
  have := List.all_eq_true.mp h i.toNat (List.mem_range.mpr (by omega))
  have e : ((i.toNat : Nat) : Int) = i := Int.toNat_of_nonneg h0
  rw [e] at this
  exact isTr_ok this
def allR3 (a b c : Nat) (f : D → D → D → Option D) : Bool := (List.range a).all fun i => (List.range b).all fun j => (List.range c).all fun k => isTr (f (.int (i : Int)) (.int (j : Int)) (.int (k : Int)))
theorem allR3_at {a b c : Nat} {f : D → D → D → Option D} (h : allR3 a b c f = true) {i j k : Int} (h0 : 0 ≤ i) (h1 : i < a) (h2 : 0 ≤ j) (h3 : j < b) (h4 : 0 ≤ k) (h5 : k < c) : f (.int i) (.int j) (.int k) = some (.bl true) := by
  have q := List.all_eq_true.mp (List.all_eq_true.mp (List.all_eq_true.mp h i.toNat (List.mem_range.mpr (by omega))) j.toNat (List.mem_range.mpr (by omega))) k.toNat (List.mem_range.mpr (by omega))
  rw [Int.toNat_of_nonneg h0, Int.toNat_of_nonneg h2, Int.toNat_of_nonneg h4] at q
  exact isTr_ok q
def allRW (f : D → D → Option D) : Bool := (List.range 4).all fun i => (List.range (2 + i)).all fun j => isTr (f (.int (2 + (i : Int))) (.int (j : Int)))
theorem allRW_at {f : D → D → Option D} (h : allRW f = true) {i j : Int} (h0 : 0 ≤ i) (h1 : i < 4) (h2 : 0 ≤ j) (h3 : j < 2 + i) : f (.int (2 + i)) (.int j) = some (.bl true) := by
  have q := List.all_eq_true.mp (List.all_eq_true.mp h i.toNat (List.mem_range.mpr (by omega))) j.toNat (List.mem_range.mpr (by omega))
  rw [Int.toNat_of_nonneg h0, Int.toNat_of_nonneg h2] at q
  exact isTr_ok q
end Z

namespace Z
open PySem PySem.Spec PyProof.Rows L2 NdefX LamX
section
variable {P : Program} {w : World} {K : PySem.W.Frag} {mg : Str → Option Value} {base : Heap} {cl : Nat → Addr} {T : List NTab}
abbrev s_law_chain_right : Stmt := topS 80
theorem sc_law_chain_right : FnScope ["_law_hand_here", "_law_many", "_law_names", "_law_inside", "_law_rows", "_law_k", "_law_number"] ["_law_hand_here"] (defScope s_law_chain_right) := ⟨rfl, rfl, rfl, by decide +kernel, rfl, by decide +kernel, by decide +kernel⟩
def b_law_chain_right (lawmany908 : D) : Option D := ob (dslD (ob (lCons (some (.str ("a" : Str))) (lCons (some (.str ("b" : Str))) (lCons (some (.str ("c" : Str))) (lCons (some (.str ("d" : Str))) (lCons (some (.str ("e" : Str))) (lCons (some (.str ("f" : Str))) (lCons (some (.str ("g" : Str))) (some [])))))))) dlstD) (some none) (ob (o2 dadd (some lawmany908) (some (.int 1))) asP)) fun lawnames909 => ob (o2 dadd (ob (lCons (ob (ob (some lawmany908) drange1) (lcO un1 1 (ar1 fun lawk911 => ob (lCons (some (.str ("copy" : Str))) (lCons (o2 dixS (some lawnames909) (some lawk911)) (lCons (o2 dixS (some lawnames909) (o2 dadd (some lawk911) (some (.int 1)))) (some [])))) dtupD))) (some [])) (d1 dtupS)) (ob (lCons (ob (lCons (some (.str ("more" : Str))) (lCons (o2 dixS (some lawnames909) (some lawmany908)) (some []))) dtupD) (some [])) dtupD)) fun lawinside910 => ob (o2 dadd (ob (lCons (ob (ob (some lawmany908) drange1) (lcO un1 1 (ar1 fun lawnumber913 => ob (lCons (ob (lCons (some (.int 0)) (lCons (ob (lCons (some (.int 0)) (some [])) dtupD) (some []))) dtupD) (some [])) dtupD))) (some [])) (d1 dtupS)) (ob (lCons (ob (lCons (ob (lCons (some (.int 0)) (lCons (ob (lCons (some (.int 1)) (some [])) dtupD) (some []))) dtupD) (some [])) dtupD) (some [])) dtupD)) fun lawrows912 => ob (lCons (ob (lCons (some (.str ("x" : Str))) (some [])) dtupD) (lCons (ob (lCons (some (.str ("a" : Str))) (some [])) dtupD) (lCons (ob (lCons (ob (lCons (some (.str ("round" : Str))) (lCons (some (.str ("x" : Str))) (lCons (some lawinside910) (some [])))) dtupD) (some [])) dtupD) (lCons (ob (lCons (ob (lCons (some lawmany908) (some [])) dtupD) (lCons (ob (lCons (some (.int 1)) (some [])) dtupD) (lCons (some lawrows912) (some [])))) dtupD) (some []))))) m_law_is_told
theorem c_law_chain_right (M : Fx K mg cl T) (Y : Fy K mg base T) (hall : allR1 1 6 b_law_chain_right = true) : Cal P w K mg base 26 "_law_chain_right" (spRight (gm K cl T)) :=
  calR M.f_law_chain_right sc_law_chain_right (fun cdv A outer s H E _ hr => ⟨_, (pss_cons (ps_set (i := 1) sc_law_chain_right.nd rfl (.inl rfl) (pe_op op_addD pe_int (pe_cl (c_law_draw M) hr (by decide) rfl (pa_cons (pv 0) (pa_cons pe_int pa_nil))))) (pss_cons (ps_set (i := 2) sc_law_chain_right.nd rfl (.inr rfl) (pe_slice sl_D (pe_lst (pa_cons pe_str (pa_cons pe_str (pa_cons pe_str (pa_cons pe_str (pa_cons pe_str (pa_cons pe_str (pa_cons pe_str pa_nil)))))))) po_none (po_some (pe_op op_addD (pv 1) pe_int)))) (pss_cons (ps_set (i := 3) sc_law_chain_right.nd rfl (.inl rfl) (pe_op op_addD (pe_callTy call_tuple' (by rfl) M.n_tuple (by decide +kernel) (pa_cons (pe_lc (own := [("_law_k", 5)]) rfl sc_law_chain_right.nd (pi_range1 rfl M.n_range (pa_cons (pv 1) pa_nil)) (blkOk_by (by kernel_rfl)) (fun _ _ _ _ _ => (pg_name (i := 5) sc_law_chain_right.nd rfl (.inl rfl))) (fun _ _ _ _ _ => pts_nil) (fun _ _ _ _ _ => (pe_tup (pa_cons pe_str (pa_cons (pe_ix ix_seq (pv 2) (pv 5) (fun _ _ => rfl)) (pa_cons (pe_ix ix_seq (pv 2) (pe_op op_addD (pv 5) pe_int) (fun _ _ => rfl)) pa_nil)))))) pa_nil)) (pe_tup (pa_cons (pe_tup (pa_cons pe_str (pa_cons (pe_ix ix_seq (pv 2) (pv 1) (fun _ _ => rfl)) pa_nil))) pa_nil)))) (pss_cons (ps_set (i := 4) sc_law_chain_right.nd rfl (.inl rfl) (pe_op op_addD (pe_callTy call_tuple' (by rfl) M.n_tuple (by decide +kernel) (pa_cons (pe_lc (own := [("_law_number", 6)]) rfl sc_law_chain_right.nd (pi_range1 rfl M.n_range (pa_cons (pv 1) pa_nil)) (blkOk_by (by kernel_rfl)) (fun _ _ _ _ _ => (pg_name (i := 6) sc_law_chain_right.nd rfl (.inl rfl))) (fun _ _ _ _ _ => pts_nil) (fun _ _ _ _ _ => (pe_tup (pa_cons (pe_tup (pa_cons pe_int (pa_cons (pe_tup (pa_cons pe_int pa_nil)) pa_nil))) pa_nil)))) pa_nil)) (pe_tup (pa_cons (pe_tup (pa_cons (pe_tup (pa_cons pe_int (pa_cons (pe_tup (pa_cons pe_int pa_nil)) pa_nil))) pa_nil)) pa_nil)))) (pss_one (ps_ret (pe_cl (c_law_is_told M Y) hr (by decide) rfl (pa_cons (pe_tup (pa_cons pe_str pa_nil)) (pa_cons (pe_tup (pa_cons pe_str pa_nil)) (pa_cons (pe_tup (pa_cons (pe_tup (pa_cons pe_str (pa_cons pe_str (pa_cons (pv 3) pa_nil)))) pa_nil)) (pa_cons (pe_tup (pa_cons (pe_tup (pa_cons (pv 1) pa_nil)) (pa_cons (pe_tup (pa_cons pe_int pa_nil)) (pa_cons (pv 4) pa_nil)))) pa_nil))))))))))), fun hd ce => (rbn_draw1 (many := 6) rfl ev_int (by decide) (by decide) fun i h0 h1 => rbn_of (m := b_law_chain_right (D.int (1 + i))) (atB [some (.ref hd), some (D.int (1 + i)), none, none, none, none, none] (rb_seq (rn_set (ev_sl (ev_lst (ea_cons ev_str (ea_cons ev_str (ea_cons ev_str (ea_cons ev_str (ea_cons ev_str (ea_cons ev_str (ea_cons ev_str ea_nil)))))))) ep_none (ep_some (ev_op rv_add (ev_var rfl) ev_int))) h1N) fun lawnames914 => (atB [some (.ref hd), some (D.int (1 + i)), some lawnames914, none, none, none, none] (rb_seq (rn_set (ev_op rv_add (ev_cb rc_tuple (ea_cons (ev_lc (it_range1 (ev_var rfl)) tg_name (by decide) hvN (ev_ar1 fun lawk916 => (atE [some (.ref hd), some (D.int (1 + i)), some lawnames914, none, none, some lawk916, none] (ev_tup (ea_cons ev_str (ea_cons (ev_ix (ev_var rfl) (ev_var rfl)) (ea_cons (ev_ix (ev_var rfl) (ev_op rv_add (ev_var rfl) ev_int)) ea_nil))))))) ea_nil)) (ev_tup (ea_cons (ev_tup (ea_cons ev_str (ea_cons (ev_ix (ev_var rfl) (ev_var rfl)) ea_nil))) ea_nil))) h1N) fun lawinside915 => (atB [some (.ref hd), some (D.int (1 + i)), some lawnames914, some lawinside915, none, none, none] (rb_seq (rn_set (ev_op rv_add (ev_cb rc_tuple (ea_cons (ev_lc (it_range1 (ev_var rfl)) tg_name (by decide) hvN (ev_ar1 fun lawnumber918 => (atE [some (.ref hd), some (D.int (1 + i)), some lawnames914, some lawinside915, none, none, some lawnumber918] (ev_tup (ea_cons (ev_tup (ea_cons ev_int (ea_cons (ev_tup (ea_cons ev_int ea_nil)) ea_nil))) ea_nil))))) ea_nil)) (ev_tup (ea_cons (ev_tup (ea_cons (ev_tup (ea_cons ev_int (ea_cons (ev_tup (ea_cons ev_int ea_nil)) ea_nil))) ea_nil)) ea_nil))) h1N) fun lawrows917 => (atB [some (.ref hd), some (D.int (1 + i)), some lawnames914, some lawinside915, some lawrows917, none, none] (rb_ret (ev_call (ea_cons (ev_tup (ea_cons ev_str ea_nil)) (ea_cons (ev_tup (ea_cons ev_str ea_nil)) (ea_cons (ev_tup (ea_cons (ev_tup (ea_cons ev_str (ea_cons ev_str (ea_cons (ev_var rfl) ea_nil)))) ea_nil)) (ea_cons (ev_tup (ea_cons (ev_tup (ea_cons (ev_var rfl) ea_nil)) (ea_cons (ev_tup (ea_cons ev_int ea_nil)) (ea_cons (ev_var rfl) ea_nil)))) ea_nil))))))))))))) (allR1_at hall h0 h1) rfl)⟩)
abbrev s_law_tests_right : Stmt := topS 82
theorem sc_law_tests_right : FnScope ["_law_hand_here", "_law_more", "_law_raised", "_law_block", "_law_rows", "_law_never"] ["_law_hand_here"] (defScope s_law_tests_right) := ⟨rfl, rfl, rfl, by decide +kernel, rfl, by decide +kernel, by decide +kernel⟩
def b_law_tests_right (lawmore925 : D) : Option D := ob (o2 dadd (ob (lCons (ob (lCons (some (.str ("zero" : Str))) (lCons (some (.str ("k" : Str))) (some []))) dtupD) (some [])) dtupD) (o2 dmul (ob (lCons (ob (lCons (some (.str ("more" : Str))) (lCons (some (.str ("k" : Str))) (some []))) dtupD) (some [])) dtupD) (some lawmore925))) fun lawraised926 => ob (ob (lCons (ob (lCons (some (.str ("more" : Str))) (lCons (some (.str ("e" : Str))) (some []))) dtupD) (lCons (ob (lCons (some (.str ("round" : Str))) (lCons (some (.str ("x" : Str))) (lCons (ob (lCons (ob (lCons (some (.str ("zero" : Str))) (lCons (some (.str ("e" : Str))) (some []))) dtupD) (some [])) dtupD) (some [])))) dtupD) (lCons (ob (lCons (some (.str ("round" : Str))) (lCons (some (.str ("x" : Str))) (lCons (some lawraised926) (some [])))) dtupD) (some [])))) dtupD) fun lawblock927 => ob (ob (lCons (ob (lCons (ob (lCons (some (.int 1)) (lCons (ob (lCons (some (.int 0)) (some [])) dtupD) (some []))) dtupD) (lCons (ob (lCons (some (.int 0)) (lCons (ob (lCons (some (.int 0)) (some [])) dtupD) (some []))) dtupD) (some []))) dtupD) (lCons (ob (lCons (ob (lCons (some (.int 0)) (lCons (ob (lCons (some (.int 0)) (some [])) dtupD) (some []))) dtupD) (lCons (ob (lCons (some lawmore925) (lCons (ob (lCons (some (.int 0)) (some [])) dtupD) (some []))) dtupD) (some []))) dtupD) (some []))) dtupD) fun lawrows928 => oif (ob (dtest (ob (lCons (ob (lCons (some (.str ("x" : Str))) (some [])) dtupD) (lCons (ob (lCons (some (.str ("e" : Str))) (lCons (some (.str ("k" : Str))) (some []))) dtupD) (lCons (some lawblock927) (lCons (ob (lCons (ob (lCons (some (.int 1)) (some [])) dtupD) (lCons (ob (lCons (some (.int 1)) (some [])) dtupD) (lCons (some lawrows928) (some [])))) dtupD) (some []))))) m_law_is_told)) fun b => some (!b)) (some (.bl false)) (ob (ob (lCons (ob (lCons (some (.str ("round" : Str))) (lCons (some (.str ("e" : Str))) (lCons (ob (lCons (ob (lCons (some (.str ("more" : Str))) (lCons (some (.str ("k" : Str))) (some []))) dtupD) (lCons (ob (lCons (some (.str ("copy" : Str))) (lCons (some (.str ("x" : Str))) (lCons (some (.str ("k" : Str))) (some [])))) dtupD) (some []))) dtupD) (some [])))) dtupD) (some [])) dtupD) fun lawnever929 => ob (lCons (ob (lCons (some (.str ("x" : Str))) (some [])) dtupD) (lCons (ob (lCons (some (.str ("x" : Str))) (lCons (some (.str ("k" : Str))) (some []))) dtupD) (lCons (some lawnever929) (lCons (ob (lCons (ob (lCons (some (.int 0)) (some [])) dtupD) (lCons (ob (lCons (some (.int 1)) (some [])) dtupD) (lCons (ob (lCons (ob (lCons (ob (lCons (some (.int 0)) (lCons (ob (lCons (some (.int 1)) (some [])) dtupD) (some []))) dtupD) (lCons (ob (lCons (some (.int 0)) (lCons (ob (lCons (some (.int 0)) (some [])) dtupD) (some []))) dtupD) (some []))) dtupD) (some [])) dtupD) (some [])))) dtupD) (some []))))) m_law_is_told)
theorem c_law_tests_right (M : Fx K mg cl T) (Y : Fy K mg base T) (hall : allR1 1 9 b_law_tests_right = true) : Cal P w K mg base 26 "_law_tests_right" (spRight (gm K cl T)) :=
  calR M.f_law_tests_right sc_law_tests_right (fun cdv A outer s H E _ hr => ⟨_, (pss_cons (ps_set (i := 1) sc_law_tests_right.nd rfl (.inl rfl) (pe_op op_addD pe_int (pe_cl (c_law_draw M) hr (by decide) rfl (pa_cons (pv 0) (pa_cons pe_int pa_nil))))) (pss_cons (ps_set (i := 2) sc_law_tests_right.nd rfl (.inl rfl) (pe_op op_addD (pe_tup (pa_cons (pe_tup (pa_cons pe_str (pa_cons pe_str pa_nil))) pa_nil)) (pe_op op_mulD (pe_tup (pa_cons (pe_tup (pa_cons pe_str (pa_cons pe_str pa_nil))) pa_nil)) (pv 1)))) (pss_cons (ps_set (i := 3) sc_law_tests_right.nd rfl (.inl rfl) (pe_tup (pa_cons (pe_tup (pa_cons pe_str (pa_cons pe_str pa_nil))) (pa_cons (pe_tup (pa_cons pe_str (pa_cons pe_str (pa_cons (pe_tup (pa_cons (pe_tup (pa_cons pe_str (pa_cons pe_str pa_nil))) pa_nil)) pa_nil)))) (pa_cons (pe_tup (pa_cons pe_str (pa_cons pe_str (pa_cons (pv 2) pa_nil)))) pa_nil))))) (pss_cons (ps_set (i := 4) sc_law_tests_right.nd rfl (.inl rfl) (pe_tup (pa_cons (pe_tup (pa_cons (pe_tup (pa_cons pe_int (pa_cons (pe_tup (pa_cons pe_int pa_nil)) pa_nil))) (pa_cons (pe_tup (pa_cons pe_int (pa_cons (pe_tup (pa_cons pe_int pa_nil)) pa_nil))) pa_nil))) (pa_cons (pe_tup (pa_cons (pe_tup (pa_cons pe_int (pa_cons (pe_tup (pa_cons pe_int pa_nil)) pa_nil))) (pa_cons (pe_tup (pa_cons (pv 1) (pa_cons (pe_tup (pa_cons pe_int pa_nil)) pa_nil))) pa_nil))) pa_nil)))) (pss_cons (ps_if (pt_not (pt_val (pe_cl (c_law_is_told M Y) hr (by decide) rfl (pa_cons (pe_tup (pa_cons pe_str pa_nil)) (pa_cons (pe_tup (pa_cons pe_str (pa_cons pe_str pa_nil))) (pa_cons (pv 3) (pa_cons (pe_tup (pa_cons (pe_tup (pa_cons pe_int pa_nil)) (pa_cons (pe_tup (pa_cons pe_int pa_nil)) (pa_cons (pv 4) pa_nil)))) pa_nil))))))) (pss_one (ps_ret pe_bl)) pss_nil) (pss_cons (ps_set (i := 5) sc_law_tests_right.nd rfl (.inl rfl) (pe_tup (pa_cons (pe_tup (pa_cons pe_str (pa_cons pe_str (pa_cons (pe_tup (pa_cons (pe_tup (pa_cons pe_str (pa_cons pe_str pa_nil))) (pa_cons (pe_tup (pa_cons pe_str (pa_cons pe_str (pa_cons pe_str pa_nil)))) pa_nil))) pa_nil)))) pa_nil))) (pss_one (ps_ret (pe_cl (c_law_is_told M Y) hr (by decide) rfl (pa_cons (pe_tup (pa_cons pe_str pa_nil)) (pa_cons (pe_tup (pa_cons pe_str (pa_cons pe_str pa_nil))) (pa_cons (pv 5) (pa_cons (pe_tup (pa_cons (pe_tup (pa_cons pe_int pa_nil)) (pa_cons (pe_tup (pa_cons pe_int pa_nil)) (pa_cons (pe_tup (pa_cons (pe_tup (pa_cons (pe_tup (pa_cons pe_int (pa_cons (pe_tup (pa_cons pe_int pa_nil)) pa_nil))) (pa_cons (pe_tup (pa_cons pe_int (pa_cons (pe_tup (pa_cons pe_int pa_nil)) pa_nil))) pa_nil))) pa_nil)) pa_nil)))) pa_nil))))))))))))), fun hd ce => (rbn_draw1 (many := 9) rfl ev_int (by decide) (by decide) fun i h0 h1 => rbn_of (m := b_law_tests_right (D.int (1 + i))) (atB [some (.ref hd), some (D.int (1 + i)), none, none, none, none] (rb_seq (rn_set (ev_op rv_add (ev_tup (ea_cons (ev_tup (ea_cons ev_str (ea_cons ev_str ea_nil))) ea_nil)) (ev_op rv_mul (ev_tup (ea_cons (ev_tup (ea_cons ev_str (ea_cons ev_str ea_nil))) ea_nil)) (ev_var rfl))) h1N) fun lawraised930 => (atB [some (.ref hd), some (D.int (1 + i)), some lawraised930, none, none, none] (rb_seq (rn_set (ev_tup (ea_cons (ev_tup (ea_cons ev_str (ea_cons ev_str ea_nil))) (ea_cons (ev_tup (ea_cons ev_str (ea_cons ev_str (ea_cons (ev_tup (ea_cons (ev_tup (ea_cons ev_str (ea_cons ev_str ea_nil))) ea_nil)) ea_nil)))) (ea_cons (ev_tup (ea_cons ev_str (ea_cons ev_str (ea_cons (ev_var rfl) ea_nil)))) ea_nil)))) h1N) fun lawblock931 => (atB [some (.ref hd), some (D.int (1 + i)), some lawraised930, some lawblock931, none, none] (rb_seq (rn_set (ev_tup (ea_cons (ev_tup (ea_cons (ev_tup (ea_cons ev_int (ea_cons (ev_tup (ea_cons ev_int ea_nil)) ea_nil))) (ea_cons (ev_tup (ea_cons ev_int (ea_cons (ev_tup (ea_cons ev_int ea_nil)) ea_nil))) ea_nil))) (ea_cons (ev_tup (ea_cons (ev_tup (ea_cons ev_int (ea_cons (ev_tup (ea_cons ev_int ea_nil)) ea_nil))) (ea_cons (ev_tup (ea_cons (ev_var rfl) (ea_cons (ev_tup (ea_cons ev_int ea_nil)) ea_nil))) ea_nil))) ea_nil))) h1N) fun lawrows932 => (atB [some (.ref hd), some (D.int (1 + i)), some lawraised930, some lawblock931, some lawrows932, none] (rb_ifseq (et_not (et_B (ev_call (ea_cons (ev_tup (ea_cons ev_str ea_nil)) (ea_cons (ev_tup (ea_cons ev_str (ea_cons ev_str ea_nil))) (ea_cons (ev_var rfl) (ea_cons (ev_tup (ea_cons (ev_tup (ea_cons ev_int ea_nil)) (ea_cons (ev_tup (ea_cons ev_int ea_nil)) (ea_cons (ev_var rfl) ea_nil)))) ea_nil))))))) (atB [some (.ref hd), some (D.int (1 + i)), some lawraised930, some lawblock931, some lawrows932, none] (rb_ret ev_bl)) (atB [some (.ref hd), some (D.int (1 + i)), some lawraised930, some lawblock931, some lawrows932, none] (rb_seq (rn_set (ev_tup (ea_cons (ev_tup (ea_cons ev_str (ea_cons ev_str (ea_cons (ev_tup (ea_cons (ev_tup (ea_cons ev_str (ea_cons ev_str ea_nil))) (ea_cons (ev_tup (ea_cons ev_str (ea_cons ev_str (ea_cons ev_str ea_nil)))) ea_nil))) ea_nil)))) ea_nil)) h1N) fun lawnever933 => (atB [some (.ref hd), some (D.int (1 + i)), some lawraised930, some lawblock931, some lawrows932, some lawnever933] (rb_ret (ev_call (ea_cons (ev_tup (ea_cons ev_str ea_nil)) (ea_cons (ev_tup (ea_cons ev_str (ea_cons ev_str ea_nil))) (ea_cons (ev_var rfl) (ea_cons (ev_tup (ea_cons (ev_tup (ea_cons ev_int ea_nil)) (ea_cons (ev_tup (ea_cons ev_int ea_nil)) (ea_cons (ev_tup (ea_cons (ev_tup (ea_cons (ev_tup (ea_cons ev_int (ea_cons (ev_tup (ea_cons ev_int ea_nil)) ea_nil))) (ea_cons (ev_tup (ea_cons ev_int (ea_cons (ev_tup (ea_cons ev_int ea_nil)) ea_nil))) ea_nil))) ea_nil)) ea_nil)))) ea_nil))))))))))))))))) (allR1_at hall h0 h1) rfl)⟩)
abbrev s_law_sums_right : Stmt := topS 81
theorem sc_law_sums_right : FnScope ["_law_hand_here", "_law_block", "_law_again", "_law_one", "_law_other", "_law_more"] ["_law_hand_here"] (defScope s_law_sums_right) := ⟨rfl, rfl, rfl, by decide +kernel, rfl, by decide +kernel, by decide +kernel⟩
def b_law_sums_right (lawone940 lawother941 lawmore942 : D) : Option D := ob (o2 dadd (ob (lCons (ob (lCons (some (.str ("round" : Str))) (lCons (some (.str ("x" : Str))) (lCons (o2 dmul (ob (lCons (ob (lCons (some (.str ("more" : Str))) (lCons (some (.str ("s" : Str))) (some []))) dtupD) (some [])) dtupD) (some lawone940)) (some [])))) dtupD) (lCons (ob (lCons (some (.str ("round" : Str))) (lCons (some (.str ("y" : Str))) (lCons (o2 dmul (ob (lCons (ob (lCons (some (.str ("more" : Str))) (lCons (some (.str ("s" : Str))) (some []))) dtupD) (some [])) dtupD) (some lawother941)) (some [])))) dtupD) (some []))) dtupD) (o2 dmul (ob (lCons (ob (lCons (some (.str ("more" : Str))) (lCons (some (.str ("s" : Str))) (some []))) dtupD) (some [])) dtupD) (some lawmore942))) fun lawblock943 => oif (ob (dtest (ob (lCons (ob (lCons (some (.str ("x" : Str))) (lCons (some (.str ("y" : Str))) (some []))) dtupD) (lCons (ob (lCons (some (.str ("s" : Str))) (lCons (some (.str ("y" : Str))) (some []))) dtupD) (lCons (some lawblock943) (lCons (ob (lCons (ob (lCons (some (.int 0)) (lCons (some (.int 0)) (some []))) dtupD) (lCons (ob (lCons (some (.int 1)) (lCons (some (.int 1)) (some []))) dtupD) (lCons (ob (lCons (ob (lCons (ob (lCons (some lawmore942) (lCons (ob (lCons (some lawone940) (lCons (some lawother941) (some []))) dtupD) (some []))) dtupD) (lCons (ob (lCons (some (.int 0)) (lCons (ob (lCons (some (.int 0)) (lCons (some (.int 1)) (some []))) dtupD) (some []))) dtupD) (some []))) dtupD) (some [])) dtupD) (some [])))) dtupD) (some []))))) m_law_is_told)) fun b => some (!b)) (some (.bl false)) (ob (o2 dadd (some lawblock943) (ob (lCons (ob (lCons (some (.str ("round" : Str))) (lCons (some (.str ("s" : Str))) (lCons (o2 dmul (ob (lCons (ob (lCons (some (.str ("more" : Str))) (lCons (some (.str ("t" : Str))) (some []))) dtupD) (some [])) dtupD) (some (.int 2))) (some [])))) dtupD) (some [])) dtupD)) fun lawagain944 => ob (lCons (ob (lCons (some (.str ("x" : Str))) (lCons (some (.str ("y" : Str))) (some []))) dtupD) (lCons (ob (lCons (some (.str ("t" : Str))) (some [])) dtupD) (lCons (some lawagain944) (lCons (ob (lCons (ob (lCons (some (.int 0)) (lCons (some (.int 0)) (some []))) dtupD) (lCons (ob (lCons (some (.int 1)) (lCons (some (.int 1)) (some []))) dtupD) (lCons (ob (lCons (ob (lCons (ob (lCons (o2 dmul (some (.int 2)) (some lawmore942)) (lCons (ob (lCons (o2 dmul (some (.int 2)) (some lawone940)) (lCons (o2 dmul (some (.int 2)) (some lawother941)) (some []))) dtupD) (some []))) dtupD) (some [])) dtupD) (some [])) dtupD) (some [])))) dtupD) (some []))))) m_law_is_told)
theorem c_law_sums_right (M : Fx K mg cl T) (Y : Fy K mg base T) (hall : allR3 7 7 9 b_law_sums_right = true) : Cal P w K mg base 26 "_law_sums_right" (spRight (gm K cl T)) :=
  calR M.f_law_sums_right sc_law_sums_right (fun cdv A outer s H E _ hr => ⟨_, (pss_cons (ps_par3 rfl sc_law_sums_right.nd rfl rfl rfl (by decide) (by decide) (by decide) rfl rfl rfl (pa_cons (pe_cl (c_law_draw M) hr (by decide) rfl (pa_cons (pv 0) (pa_cons pe_int pa_nil))) (pa_cons (pe_cl (c_law_draw M) hr (by decide) rfl (pa_cons (pv 0) (pa_cons pe_int pa_nil))) (pa_cons (pe_cl (c_law_draw M) hr (by decide) rfl (pa_cons (pv 0) (pa_cons pe_int pa_nil))) pa_nil))) (i := 3) (j := 4) (k := 5) rfl) (pss_cons (ps_set (i := 1) sc_law_sums_right.nd rfl (.inl rfl) (pe_op op_addD (pe_tup (pa_cons (pe_tup (pa_cons pe_str (pa_cons pe_str (pa_cons (pe_op op_mulD (pe_tup (pa_cons (pe_tup (pa_cons pe_str (pa_cons pe_str pa_nil))) pa_nil)) (pv 3)) pa_nil)))) (pa_cons (pe_tup (pa_cons pe_str (pa_cons pe_str (pa_cons (pe_op op_mulD (pe_tup (pa_cons (pe_tup (pa_cons pe_str (pa_cons pe_str pa_nil))) pa_nil)) (pv 4)) pa_nil)))) pa_nil))) (pe_op op_mulD (pe_tup (pa_cons (pe_tup (pa_cons pe_str (pa_cons pe_str pa_nil))) pa_nil)) (pv 5)))) (pss_cons (ps_if (pt_not (pt_val (pe_cl (c_law_is_told M Y) hr (by decide) rfl (pa_cons (pe_tup (pa_cons pe_str (pa_cons pe_str pa_nil))) (pa_cons (pe_tup (pa_cons pe_str (pa_cons pe_str pa_nil))) (pa_cons (pv 1) (pa_cons (pe_tup (pa_cons (pe_tup (pa_cons pe_int (pa_cons pe_int pa_nil))) (pa_cons (pe_tup (pa_cons pe_int (pa_cons pe_int pa_nil))) (pa_cons (pe_tup (pa_cons (pe_tup (pa_cons (pe_tup (pa_cons (pv 5) (pa_cons (pe_tup (pa_cons (pv 3) (pa_cons (pv 4) pa_nil))) pa_nil))) (pa_cons (pe_tup (pa_cons pe_int (pa_cons (pe_tup (pa_cons pe_int (pa_cons pe_int pa_nil))) pa_nil))) pa_nil))) pa_nil)) pa_nil)))) pa_nil))))))) (pss_one (ps_ret pe_bl)) pss_nil) (pss_cons (ps_set (i := 2) sc_law_sums_right.nd rfl (.inl rfl) (pe_op op_addD (pv 1) (pe_tup (pa_cons (pe_tup (pa_cons pe_str (pa_cons pe_str (pa_cons (pe_op op_mulD (pe_tup (pa_cons (pe_tup (pa_cons pe_str (pa_cons pe_str pa_nil))) pa_nil)) pe_int) pa_nil)))) pa_nil)))) (pss_one (ps_ret (pe_cl (c_law_is_told M Y) hr (by decide) rfl (pa_cons (pe_tup (pa_cons pe_str (pa_cons pe_str pa_nil))) (pa_cons (pe_tup (pa_cons pe_str pa_nil)) (pa_cons (pv 2) (pa_cons (pe_tup (pa_cons (pe_tup (pa_cons pe_int (pa_cons pe_int pa_nil))) (pa_cons (pe_tup (pa_cons pe_int (pa_cons pe_int pa_nil))) (pa_cons (pe_tup (pa_cons (pe_tup (pa_cons (pe_tup (pa_cons (pe_op op_mulD pe_int (pv 5)) (pa_cons (pe_tup (pa_cons (pe_op op_mulD pe_int (pv 3)) (pa_cons (pe_op op_mulD pe_int (pv 4)) pa_nil))) pa_nil))) pa_nil)) pa_nil)) pa_nil)))) pa_nil))))))))))), fun hd ce => (rbn_draw3 (m1 := 7) (m2 := 7) (m3 := 9) rfl ev_int ev_int ev_int (by decide) (by decide) (by decide) fun i j k h0 h1 h2 h3 h4 h5 => rbn_of (m := b_law_sums_right (D.int i) (D.int j) (D.int k)) (atB [some (.ref hd), none, none, some (D.int i), some (D.int j), some (D.int k)] (rb_seq (rn_set (ev_op rv_add (ev_tup (ea_cons (ev_tup (ea_cons ev_str (ea_cons ev_str (ea_cons (ev_op rv_mul (ev_tup (ea_cons (ev_tup (ea_cons ev_str (ea_cons ev_str ea_nil))) ea_nil)) (ev_var rfl)) ea_nil)))) (ea_cons (ev_tup (ea_cons ev_str (ea_cons ev_str (ea_cons (ev_op rv_mul (ev_tup (ea_cons (ev_tup (ea_cons ev_str (ea_cons ev_str ea_nil))) ea_nil)) (ev_var rfl)) ea_nil)))) ea_nil))) (ev_op rv_mul (ev_tup (ea_cons (ev_tup (ea_cons ev_str (ea_cons ev_str ea_nil))) ea_nil)) (ev_var rfl))) h1N) fun lawblock945 => (atB [some (.ref hd), some lawblock945, none, some (D.int i), some (D.int j), some (D.int k)] (rb_ifseq (et_not (et_B (ev_call (ea_cons (ev_tup (ea_cons ev_str (ea_cons ev_str ea_nil))) (ea_cons (ev_tup (ea_cons ev_str (ea_cons ev_str ea_nil))) (ea_cons (ev_var rfl) (ea_cons (ev_tup (ea_cons (ev_tup (ea_cons ev_int (ea_cons ev_int ea_nil))) (ea_cons (ev_tup (ea_cons ev_int (ea_cons ev_int ea_nil))) (ea_cons (ev_tup (ea_cons (ev_tup (ea_cons (ev_tup (ea_cons (ev_var rfl) (ea_cons (ev_tup (ea_cons (ev_var rfl) (ea_cons (ev_var rfl) ea_nil))) ea_nil))) (ea_cons (ev_tup (ea_cons ev_int (ea_cons (ev_tup (ea_cons ev_int (ea_cons ev_int ea_nil))) ea_nil))) ea_nil))) ea_nil)) ea_nil)))) ea_nil))))))) (atB [some (.ref hd), some lawblock945, none, some (D.int i), some (D.int j), some (D.int k)] (rb_ret ev_bl)) (atB [some (.ref hd), some lawblock945, none, some (D.int i), some (D.int j), some (D.int k)] (rb_seq (rn_set (ev_op rv_add (ev_var rfl) (ev_tup (ea_cons (ev_tup (ea_cons ev_str (ea_cons ev_str (ea_cons (ev_op rv_mul (ev_tup (ea_cons (ev_tup (ea_cons ev_str (ea_cons ev_str ea_nil))) ea_nil)) ev_int) ea_nil)))) ea_nil))) h1N) fun lawagain946 => (atB [some (.ref hd), some lawblock945, some lawagain946, some (D.int i), some (D.int j), some (D.int k)] (rb_ret (ev_call (ea_cons (ev_tup (ea_cons ev_str (ea_cons ev_str ea_nil))) (ea_cons (ev_tup (ea_cons ev_str ea_nil)) (ea_cons (ev_var rfl) (ea_cons (ev_tup (ea_cons (ev_tup (ea_cons ev_int (ea_cons ev_int ea_nil))) (ea_cons (ev_tup (ea_cons ev_int (ea_cons ev_int ea_nil))) (ea_cons (ev_tup (ea_cons (ev_tup (ea_cons (ev_tup (ea_cons (ev_op rv_mul ev_int (ev_var rfl)) (ea_cons (ev_tup (ea_cons (ev_op rv_mul ev_int (ev_var rfl)) (ea_cons (ev_op rv_mul ev_int (ev_var rfl)) ea_nil))) ea_nil))) ea_nil)) ea_nil)) ea_nil)))) ea_nil))))))))))))) (allR3_at hall h0 h1 h2 h3 h4 h5) rfl)⟩)
abbrev s_law_wheel_right : Stmt := topS 79
theorem sc_law_wheel_right : FnScope ["_law_hand_here", "_law_many", "_law_names", "_law_inside", "_law_at", "_law_rows", "_law_sums", "_law_k", "_law_number", "_law_name"] ["_law_hand_here"] (defScope s_law_wheel_right) := ⟨rfl, rfl, rfl, by decide +kernel, rfl, by decide +kernel, by decide +kernel⟩
def b1_law_wheel_right (many958 : D) : Option D := dslD (ob (lCons (some (.str ("a" : Str))) (lCons (some (.str ("b" : Str))) (lCons (some (.str ("c" : Str))) (lCons (some (.str ("d" : Str))) (lCons (some (.str ("e" : Str))) (some [])))))) dlstD) (some none) (ob (some many958) asP)
def b2_law_wheel_right (many958 names959 : D) : Option D := o2 dadd (ob (lCons (ob (lCons (some (.str ("copy" : Str))) (lCons (some (.str ("spare" : Str))) (lCons (o2 dixS (some names959) (ob (some (.int 1)) dneg)) (some [])))) dtupD) (some [])) dlstD) (ob (ob (o2 dsub (some many958) (some (.int 1))) drangeD) (lcO un1 1 (ar1 fun lawk963 => ob (lCons (some (.str ("copy" : Str))) (lCons (o2 dixS (some names959) (some lawk963)) (lCons (o2 dixS (some names959) (o2 dsub (some lawk963) (some (.int 1)))) (some [])))) dtupD)))
def b3_law_wheel_right (many958 names959 inside960 : D) : Option D := ob (lCons (o2 dadd (some inside960) (ob (lCons (ob (lCons (some (.str ("copy" : Str))) (lCons (some (.str ("a" : Str))) (lCons (some (.str ("spare" : Str))) (some [])))) dtupD) (lCons (ob (lCons (some (.str ("more" : Str))) (lCons (some (.str ("a" : Str))) (some []))) dtupD) (some []))) dlstD)) (some [])) (d1 dtupS)
def b4_law_wheel_right (many958 names959 inside961 at962 : D) : Option D := ob (ob (lCons (ob (ob (some many958) drange1) (lcO un1 1 (ar1 fun lawnumber965 => ob (lCons (ob (lCons (o2 dfdiv (o2 dsub (o2 dsub (o2 dadd (some lawnumber965) (some many958)) (some (.int 1))) (some at962)) (some many958)) (lCons (ob (lCons (some (.int 1)) (some [])) dtupD) (some []))) dtupD) (some [])) dtupD))) (some [])) (d1 dtupS)) fun lawrows964 => oif (ob (dtest (ob (lCons (ob (lCons (some (.str ("x" : Str))) (some [])) dtupD) (lCons (ob (lCons (o2 dixS (some names959) (some at962)) (some [])) dtupD) (lCons (ob (lCons (ob (lCons (some (.str ("round" : Str))) (lCons (some (.str ("x" : Str))) (lCons (some inside961) (some [])))) dtupD) (some [])) dtupD) (lCons (ob (lCons (ob (lCons (some (.int 0)) (some [])) dtupD) (lCons (ob (lCons (some many958) (some [])) dtupD) (lCons (some lawrows964) (some [])))) dtupD) (some []))))) m_law_is_told)) fun b => some (!b)) (some (.bl false)) (ob (o2 dadd (ob (lCons (ob (lCons (some (.str ("round" : Str))) (lCons (some (.str ("x" : Str))) (lCons (some inside961) (some [])))) dtupD) (some [])) dtupD) (ob (lCons (ob (ob (some names959) ditems) (lcO un1 1 (ar1 fun lawname967 => ob (lCons (some (.str ("round" : Str))) (lCons (some lawname967) (lCons (ob (lCons (ob (lCons (some (.str ("more" : Str))) (lCons (some (.str ("sum" : Str))) (some []))) dtupD) (some [])) dtupD) (some [])))) dtupD))) (some [])) (d1 dtupS))) fun lawsums966 => ob (lCons (ob (lCons (some (.str ("x" : Str))) (some [])) dtupD) (lCons (ob (lCons (some (.str ("sum" : Str))) (some [])) dtupD) (lCons (some lawsums966) (lCons (ob (lCons (ob (lCons (some (.int 0)) (some [])) dtupD) (lCons (ob (lCons (some (.int 1)) (some [])) dtupD) (lCons (ob (lCons (ob (lCons (ob (lCons (some (.int 0)) (lCons (ob (lCons (some (.int 1)) (some [])) dtupD) (some []))) dtupD) (some [])) dtupD) (some [])) dtupD) (some [])))) dtupD) (some []))))) m_law_is_told)
def b_law_wheel_right (many at_ : D) : Option D := ob (b1_law_wheel_right many) fun names => ob (b2_law_wheel_right many names) fun inside => ob (b3_law_wheel_right many names inside) fun inside2 => b4_law_wheel_right many names inside2 at_
theorem wheel_mid (hall : allRW b_law_wheel_right = true) {i : Int} (h0 : 0 ≤ i) (h1 : i < 4) : ∃ names inside inside2, b1_law_wheel_right (.int (2 + i)) = some names ∧ b2_law_wheel_right (.int (2 + i)) names = some inside ∧ b3_law_wheel_right (.int (2 + i)) names inside = some inside2 ∧ ∀ j : Int, 0 ≤ j → j < 2 + i → b4_law_wheel_right (.int (2 + i)) names inside2 (.int j) = some (.bl true) := by
  have e := allRW_at hall h0 h1 (j := 0) (Int.le_refl _) (by omega)
  obtain ⟨names, e1, e⟩ := ob_some e
  obtain ⟨inside, e2, e⟩ := ob_some e
  obtain ⟨inside2, e3, e⟩ := ob_some e
  refine ⟨names, inside, inside2, e1, e2, e3, fun j j0 j1 => ?_⟩
  have e := allRW_at hall h0 h1 j0 j1
  unfold b_law_wheel_right at e
  rw [e1] at e
  have e : ob (b2_law_wheel_right (.int (2 + i)) names) (fun inside => ob (b3_law_wheel_right (.int (2 + i)) names inside) fun inside2 => b4_law_wheel_right (.int (2 + i)) names inside2 (.int j)) = some (.bl true) := e
  rw [e2] at e
  have e : ob (b3_law_wheel_right (.int (2 + i)) names inside) (fun inside2 => b4_law_wheel_right (.int (2 + i)) names inside2 (.int j)) = some (.bl true) := e
  rw [e3] at e
  exact e
theorem c_law_wheel_right (M : Fx K mg cl T) (Y : Fy K mg base T) (hall : allRW b_law_wheel_right = true) : Cal P w K mg base 26 "_law_wheel_right" (spRight (gm K cl T)) :=
  calR M.f_law_wheel_right sc_law_wheel_right (fun cdv A outer s H E _ hr => ⟨_, (pss_cons (ps_set (i := 1) sc_law_wheel_right.nd rfl (.inr rfl) (pe_op op_addD pe_int (pe_cl (c_law_draw M) hr (by decide) rfl (pa_cons (pv 0) (pa_cons pe_int pa_nil))))) (pss_cons (ps_set (i := 2) sc_law_wheel_right.nd rfl (.inr rfl) (pe_slice sl_D (pe_lst (pa_cons pe_str (pa_cons pe_str (pa_cons pe_str (pa_cons pe_str (pa_cons pe_str pa_nil)))))) po_none (po_some (pv 1)))) (pss_cons (ps_set (i := 3) sc_law_wheel_right.nd rfl (.inl rfl) (pe_op op_addD (pe_lst (pa_cons (pe_tup (pa_cons pe_str (pa_cons pe_str (pa_cons (pe_ix ix_seq (pv 2) (pe_un un_neg pe_int) (fun _ _ => rfl)) pa_nil)))) pa_nil)) (pe_lc (own := [("_law_k", 7)]) rfl sc_law_wheel_right.nd (pi_range3 rfl M.n_range (pa_cons (pe_op op_sub (pv 1) pe_int) (pa_cons pe_int (pa_cons (pe_un un_neg pe_int) pa_nil)))) (blkOk_by (by kernel_rfl)) (fun _ _ _ _ _ => (pg_name (i := 7) sc_law_wheel_right.nd rfl (.inl rfl))) (fun _ _ _ _ _ => pts_nil) (fun _ _ _ _ _ => (pe_tup (pa_cons pe_str (pa_cons (pe_ix ix_seq (pv 2) (pv 7) (fun _ _ => rfl)) (pa_cons (pe_ix ix_seq (pv 2) (pe_op op_sub (pv 7) pe_int) (fun _ _ => rfl)) pa_nil)))))))) (pss_cons (ps_set (i := 3) sc_law_wheel_right.nd rfl (.inl rfl) (pe_callTy call_tuple' (by rfl) M.n_tuple (by decide +kernel) (pa_cons (pe_op op_addD (pv 3) (pe_lst (pa_cons (pe_tup (pa_cons pe_str (pa_cons pe_str (pa_cons pe_str pa_nil)))) (pa_cons (pe_tup (pa_cons pe_str (pa_cons pe_str pa_nil))) pa_nil)))) pa_nil))) (pss_cons (ps_set (i := 4) sc_law_wheel_right.nd rfl (.inr rfl) (pe_cl (c_law_draw M) hr (by decide) rfl (pa_cons (pv 0) (pa_cons (pv 1) pa_nil)))) (pss_cons (ps_set (i := 5) sc_law_wheel_right.nd rfl (.inl rfl) (pe_callTy call_tuple' (by rfl) M.n_tuple (by decide +kernel) (pa_cons (pe_lc (own := [("_law_number", 8)]) rfl sc_law_wheel_right.nd (pi_range1 rfl M.n_range (pa_cons (pv 1) pa_nil)) (blkOk_by (by kernel_rfl)) (fun _ _ _ _ _ => (pg_name (i := 8) sc_law_wheel_right.nd rfl (.inl rfl))) (fun _ _ _ _ _ => pts_nil) (fun _ _ _ _ _ => (pe_tup (pa_cons (pe_tup (pa_cons (pe_op op_fdivN (pe_op op_sub (pe_op op_sub (pe_op op_addD (pv 8) (pv 1)) pe_int) (pv 4)) (pv 1)) (pa_cons (pe_tup (pa_cons pe_int pa_nil)) pa_nil))) pa_nil)))) pa_nil))) (pss_cons (ps_if (pt_not (pt_val (pe_cl (c_law_is_told M Y) hr (by decide) rfl (pa_cons (pe_tup (pa_cons pe_str pa_nil)) (pa_cons (pe_tup (pa_cons (pe_ix ix_seq (pv 2) (pv 4) (fun _ _ => rfl)) pa_nil)) (pa_cons (pe_tup (pa_cons (pe_tup (pa_cons pe_str (pa_cons pe_str (pa_cons (pv 3) pa_nil)))) pa_nil)) (pa_cons (pe_tup (pa_cons (pe_tup (pa_cons pe_int pa_nil)) (pa_cons (pe_tup (pa_cons (pv 1) pa_nil)) (pa_cons (pv 5) pa_nil)))) pa_nil))))))) (pss_one (ps_ret pe_bl)) pss_nil) (pss_cons (ps_set (i := 6) sc_law_wheel_right.nd rfl (.inl rfl) (pe_op op_addD (pe_tup (pa_cons (pe_tup (pa_cons pe_str (pa_cons pe_str (pa_cons (pv 3) pa_nil)))) pa_nil)) (pe_callTy call_tuple' (by rfl) M.n_tuple (by decide +kernel) (pa_cons (pe_lc (own := [("_law_name", 9)]) rfl sc_law_wheel_right.nd (pi_seq (pv 2)) (blkOk_by (by kernel_rfl)) (fun _ _ _ _ _ => (pg_name (i := 9) sc_law_wheel_right.nd rfl (.inl rfl))) (fun _ _ _ _ _ => pts_nil) (fun _ _ _ _ _ => (pe_tup (pa_cons pe_str (pa_cons (pv 9) (pa_cons (pe_tup (pa_cons (pe_tup (pa_cons pe_str (pa_cons pe_str pa_nil))) pa_nil)) pa_nil)))))) pa_nil)))) (pss_one (ps_ret (pe_cl (c_law_is_told M Y) hr (by decide) rfl (pa_cons (pe_tup (pa_cons pe_str pa_nil)) (pa_cons (pe_tup (pa_cons pe_str pa_nil)) (pa_cons (pv 6) (pa_cons (pe_tup (pa_cons (pe_tup (pa_cons pe_int pa_nil)) (pa_cons (pe_tup (pa_cons pe_int pa_nil)) (pa_cons (pe_tup (pa_cons (pe_tup (pa_cons (pe_tup (pa_cons pe_int (pa_cons (pe_tup (pa_cons pe_int pa_nil)) pa_nil))) pa_nil)) pa_nil)) pa_nil)))) pa_nil))))))))))))))), fun hd ce => (rbn_draw1 (many := 4) rfl ev_int (by decide) (by decide) fun i h0 h1 => (wheel_mid hall h0 h1).elim fun names959 x => x.elim fun inside960 x => x.elim fun inside961 x => atNB [some (.ref hd), some (D.int (2 + i)), none, none, none, none, none, none, none, none] (rbn_seq (m := b1_law_wheel_right (D.int (2 + i))) (rn_set (ev_sl (ev_lst (ea_cons ev_str (ea_cons ev_str (ea_cons ev_str (ea_cons ev_str (ea_cons ev_str ea_nil)))))) ep_none (ep_some (ev_var rfl))) h1N) x.1 (atNB [some (.ref hd), some (D.int (2 + i)), some names959, none, none, none, none, none, none, none] (rbn_seq (m := b2_law_wheel_right (D.int (2 + i)) names959) (rn_set (ev_op rv_add (ev_lst (ea_cons (ev_tup (ea_cons ev_str (ea_cons ev_str (ea_cons (ev_ix (ev_var rfl) (ev_neg ev_int)) ea_nil)))) ea_nil)) (ev_lc (it_range3 (ev_op rv_sub (ev_var rfl) ev_int) (ev_neg ev_int)) tg_name (by decide) hvN (ev_ar1 fun lawk968 => (atE [some (.ref hd), some (D.int (2 + i)), some names959, none, none, none, none, some lawk968, none, none] (ev_tup (ea_cons ev_str (ea_cons (ev_ix (ev_var rfl) (ev_var rfl)) (ea_cons (ev_ix (ev_var rfl) (ev_op rv_sub (ev_var rfl) ev_int)) ea_nil)))))))) h1N) x.2.1 (atNB [some (.ref hd), some (D.int (2 + i)), some names959, some inside960, none, none, none, none, none, none] (rbn_seq (m := b3_law_wheel_right (D.int (2 + i)) names959 inside960) (rn_set (ev_cb rc_tuple (ea_cons (ev_op rv_add (ev_var rfl) (ev_lst (ea_cons (ev_tup (ea_cons ev_str (ea_cons ev_str (ea_cons ev_str ea_nil)))) (ea_cons (ev_tup (ea_cons ev_str (ea_cons ev_str ea_nil))) ea_nil)))) ea_nil)) h1N) x.2.2.1 (atNB [some (.ref hd), some (D.int (2 + i)), some names959, some inside961, none, none, none, none, none, none] (rbn_draw2 (many := 2 + i) rfl (ev_var rfl) (by omega) (by omega) fun j j0 j1 => rbn_of (m := b4_law_wheel_right (D.int (2 + i)) names959 inside961 (D.int j)) (atB [some (.ref hd), some (D.int (2 + i)), some names959, some inside961, some (D.int j), none, none, none, none, none] (rb_seq (rn_set (ev_cb rc_tuple (ea_cons (ev_lc (it_range1 (ev_var rfl)) tg_name (by decide) hvN (ev_ar1 fun lawnumber970 => (atE [some (.ref hd), some (D.int (2 + i)), some names959, some inside961, some (D.int j), none, none, none, some lawnumber970, none] (ev_tup (ea_cons (ev_tup (ea_cons (ev_op rv_fdiv (ev_op rv_sub (ev_op rv_sub (ev_op rv_add (ev_var rfl) (ev_var rfl)) ev_int) (ev_var rfl)) (ev_var rfl)) (ea_cons (ev_tup (ea_cons ev_int ea_nil)) ea_nil))) ea_nil))))) ea_nil)) h1N) fun lawrows969 => (atB [some (.ref hd), some (D.int (2 + i)), some names959, some inside961, some (D.int j), some lawrows969, none, none, none, none] (rb_ifseq (et_not (et_B (ev_call (ea_cons (ev_tup (ea_cons ev_str ea_nil)) (ea_cons (ev_tup (ea_cons (ev_ix (ev_var rfl) (ev_var rfl)) ea_nil)) (ea_cons (ev_tup (ea_cons (ev_tup (ea_cons ev_str (ea_cons ev_str (ea_cons (ev_var rfl) ea_nil)))) ea_nil)) (ea_cons (ev_tup (ea_cons (ev_tup (ea_cons ev_int ea_nil)) (ea_cons (ev_tup (ea_cons (ev_var rfl) ea_nil)) (ea_cons (ev_var rfl) ea_nil)))) ea_nil))))))) (atB [some (.ref hd), some (D.int (2 + i)), some names959, some inside961, some (D.int j), some lawrows969, none, none, none, none] (rb_ret ev_bl)) (atB [some (.ref hd), some (D.int (2 + i)), some names959, some inside961, some (D.int j), some lawrows969, none, none, none, none] (rb_seq (rn_set (ev_op rv_add (ev_tup (ea_cons (ev_tup (ea_cons ev_str (ea_cons ev_str (ea_cons (ev_var rfl) ea_nil)))) ea_nil)) (ev_cb rc_tuple (ea_cons (ev_lc (it_seq (ev_var rfl)) tg_name (by decide) hvN (ev_ar1 fun lawname972 => (atE [some (.ref hd), some (D.int (2 + i)), some names959, some inside961, some (D.int j), some lawrows969, none, none, none, some lawname972] (ev_tup (ea_cons ev_str (ea_cons (ev_var rfl) (ea_cons (ev_tup (ea_cons (ev_tup (ea_cons ev_str (ea_cons ev_str ea_nil))) ea_nil)) ea_nil))))))) ea_nil))) h1N) fun lawsums971 => (atB [some (.ref hd), some (D.int (2 + i)), some names959, some inside961, some (D.int j), some lawrows969, some lawsums971, none, none, none] (rb_ret (ev_call (ea_cons (ev_tup (ea_cons ev_str ea_nil)) (ea_cons (ev_tup (ea_cons ev_str ea_nil)) (ea_cons (ev_var rfl) (ea_cons (ev_tup (ea_cons (ev_tup (ea_cons ev_int ea_nil)) (ea_cons (ev_tup (ea_cons ev_int ea_nil)) (ea_cons (ev_tup (ea_cons (ev_tup (ea_cons (ev_tup (ea_cons ev_int (ea_cons (ev_tup (ea_cons ev_int ea_nil)) ea_nil))) ea_nil)) ea_nil)) ea_nil)))) ea_nil))))))))))))) (x.2.2.2 j j0 j1) rfl))))))))⟩)
end
end Z

namespace Z
open PySem PySem.Spec PyProof.Rows L2 NdefX LamX
def spLaw (g : Gm) : Sp := fun vs H Q _ => ∃ (a : Addr) (ns : List Int), vs = [.ref a] ∧ SqL g.K H a (ns.map V.int) ∧ ns.length ≤ 63 ∧ TabsN g.T H ∧ ∀ H', Q (.bl true) H'
theorem right_at {g : Gm} {hd ce : Addr} {σ : L2.St} {H : Hp} {i : Nat} {E0 : XK} {Q : VK} (h : σ[i]? = some (some (.ref hd))) (J : (rHand g hd ce).J H) (tb : TabsN g.T H) (q : ∀ H', (rHand g hd ce).J H' → TabsN g.T H' → Q (.bl true) H') : tCall (spRight g) [] E0 (tCons (tVar i) tNil) σ H Q :=
  ⟨_, h, hd, ce, rfl, J, tb, fun H' k => q H' (k.J J) (k.tabs tb)⟩
section
variable {P : Program} {w : World} {K : PySem.W.Frag} {mg : Str → Option Value} {base : Heap} {cl : Nat → Addr} {T : List NTab}
/-- what the evaluation of the mirrors tells -/
structure AllOk : Prop where
  wheel : allRW b_law_wheel_right = true
  chain : allR1 1 6 b_law_chain_right = true
  sums : allR3 7 7 9 b_law_sums_right = true
  tests : allR1 1 9 b_law_tests_right = true
abbrev s_law : Stmt := topS 83
theorem sc_law : FnScope ["_law_script", "_law_hand_here"] ["_law_script"] (defScope s_law) := ⟨rfl, rfl, rfl, by decide +kernel, rfl, by decide +kernel, by decide +kernel⟩
theorem tm_law (M : Fx K mg cl T) (Y : Fy K mg base T) (W : AllOk) {f : Addr} (cdv : Value) (A : Around) (outer : List PySem.Env) (s : Shared) (H : Hp) (E : XK) (hr : Room 26 (A.deeper (envOfC "law" (defScope s_law) s.heap.objs.size f cdv))) :
    ∃ t, PSs (cxOf L2.CX0 P w K mg base ["_law_script", "_law_hand_here"] "law" (defScope s_law) f cdv A outer s H E).nox (defBody s_law) t ∧
      ∀ (a : Addr) (ns : List Int) (H : Hp) (Dn : Ends), SqL K H a (ns.map V.int) → ns.length ≤ 63 → TabsN T H → (∀ H', Dn.rt (.bl true) H') → t Dn [some (.ref a), none] H := by
  refine ⟨_, (pss_cons (ps_set (i := 1) sc_law.nd rfl (.inl rfl) (pe_cl (c_law_hand M) hr (by decide) rfl (pa_cons (pv 0) pa_nil)))
    (pss_cons (ps_if (PW.pt (pw_or (pt_not (pt_val (pe_cl (c_law_wheel_right M Y W.wheel) hr (by decide) rfl (pa_cons (pv 1) pa_nil)))) (pw_or1 (pt_not (pt_val (pe_cl (c_law_chain_right M Y W.chain) hr (by decide) rfl (pa_cons (pv 1) pa_nil))))))) (pss_one (ps_ret pe_bl)) pss_nil)
    (pss_one (ps_ret (pe_and (pe_cl (c_law_sums_right M Y W.sums) hr (by decide) rfl (pa_cons (pv 1) pa_nil)) (pe_one (pe_cl (c_law_tests_right M Y W.tests) hr (by decide) rfl (pa_cons (pv 1) pa_nil)))))))), ?_⟩
  intro a ns H Dn hS hl hT q
  unfold tSeq tAsg
  refine ⟨_, rfl, a, ns, rfl, hS, hl, hT, fun hd ce H1 k1 J1 => ?_⟩
  have t1 := k1.tabs hT
  dsimp only [gName, tIfS, tOr, tNot, tB]
  refine right_at rfl J1 t1 fun H2 J2 t2 => ⟨true, rfl, ?_⟩
  show ite ((!true) = true) _ _
  rw [if_neg (by decide)]
  refine right_at rfl J2 t2 fun H3 J3 t3 => ⟨true, rfl, ?_⟩
  show ite ((!true) = true) _ _
  rw [if_neg (by decide)]
  dsimp only [tNext, tRet, tAndV]
  refine right_at rfl J3 t3 fun H4 J4 t4 => ⟨true, rfl, ?_⟩
  rw [if_pos rfl]
  exact right_at rfl J4 t4 fun H5 _ _ => q H5
theorem ok_law (M : Fx K mg cl T) (Y : Fy K mg base T) (W : AllOk) {f : Addr} {fd : FuncData} (F : FnP K "law" "law" s_law f fd) : FnOk P w K mg base L2.CX0 27 f fd ["_law_script"] (spLaw (gm K cl T)) := by
  refine F.ok sc_law (fun vs H Q E h => ?_) fun cdv A outer s H vs Q E hr h => ?_
  · obtain ⟨a, ns, rfl, _⟩ := h
    rfl
  · obtain ⟨t, ht, hR⟩ := tm_law (base := base) (f := f) M Y W cdv A outer s H E hr
    obtain ⟨a, ns, rfl, h0, h1, h2, q⟩ := h
    exact ⟨t, PSs.nox ht, hR a ns H _ h0 h1 h2 q⟩
end
end Z

namespace Z
def rowOk (i j : Nat) : Bool := (List.range 9).all fun k => isTr (b_law_sums_right (.int (i : Int)) (.int (j : Int)) (.int (k : Int)))
theorem v_tests : allR1 1 9 b_law_tests_right = true := by decide +kernel
theorem v_chain : allR1 1 6 b_law_chain_right = true := by decide +kernel
theorem v_wheel : allRW b_law_wheel_right = true := by decide +kernel
theorem s_0_0 : rowOk 0 0 = true := by decide +kernel
theorem s_0_1 : rowOk 0 1 = true := by decide +kernel
theorem s_0_2 : rowOk 0 2 = true := by decide +kernel
theorem s_0_3 : rowOk 0 3 = true := by decide +kernel
theorem s_0_4 : rowOk 0 4 = true := by decide +kernel
theorem s_0_5 : rowOk 0 5 = true := by decide +kernel
theorem s_0_6 : rowOk 0 6 = true := by decide +kernel
theorem s_1_0 : rowOk 1 0 = true := by decide +kernel
theorem s_1_1 : rowOk 1 1 = true := by decide +kernel
theorem s_1_2 : rowOk 1 2 = true := by decide +kernel
theorem s_1_3 : rowOk 1 3 = true := by decide +kernel
theorem s_1_4 : rowOk 1 4 = true := by decide +kernel
theorem s_1_5 : rowOk 1 5 = true := by decide +kernel
theorem s_1_6 : rowOk 1 6 = true := by decide +kernel
theorem s_2_0 : rowOk 2 0 = true := by decide +kernel
theorem s_2_1 : rowOk 2 1 = true := by decide +kernel
theorem s_2_2 : rowOk 2 2 = true := by decide +kernel
theorem s_2_3 : rowOk 2 3 = true := by decide +kernel
theorem s_2_4 : rowOk 2 4 = true := by decide +kernel
theorem s_2_5 : rowOk 2 5 = true := by decide +kernel
theorem s_2_6 : rowOk 2 6 = true := by decide +kernel
theorem s_3_0 : rowOk 3 0 = true := by decide +kernel
theorem s_3_1 : rowOk 3 1 = true := by decide +kernel
theorem s_3_2 : rowOk 3 2 = true := by decide +kernel
theorem s_3_3 : rowOk 3 3 = true := by decide +kernel
theorem s_3_4 : rowOk 3 4 = true := by decide +kernel
theorem s_3_5 : rowOk 3 5 = true := by decide +kernel
theorem s_3_6 : rowOk 3 6 = true := by decide +kernel
theorem s_4_0 : rowOk 4 0 = true := by decide +kernel
theorem s_4_1 : rowOk 4 1 = true := by decide +kernel
theorem s_4_2 : rowOk 4 2 = true := by decide +kernel
theorem s_4_3 : rowOk 4 3 = true := by decide +kernel
theorem s_4_4 : rowOk 4 4 = true := by decide +kernel
theorem s_4_5 : rowOk 4 5 = true := by decide +kernel
theorem s_4_6 : rowOk 4 6 = true := by decide +kernel
theorem s_5_0 : rowOk 5 0 = true := by decide +kernel
theorem s_5_1 : rowOk 5 1 = true := by decide +kernel
theorem s_5_2 : rowOk 5 2 = true := by decide +kernel
theorem s_5_3 : rowOk 5 3 = true := by decide +kernel
theorem s_5_4 : rowOk 5 4 = true := by decide +kernel
theorem s_5_5 : rowOk 5 5 = true := by decide +kernel
theorem s_5_6 : rowOk 5 6 = true := by decide +kernel
theorem s_6_0 : rowOk 6 0 = true := by decide +kernel
theorem s_6_1 : rowOk 6 1 = true := by decide +kernel
theorem s_6_2 : rowOk 6 2 = true := by decide +kernel
theorem s_6_3 : rowOk 6 3 = true := by decide +kernel
theorem s_6_4 : rowOk 6 4 = true := by decide +kernel
theorem s_6_5 : rowOk 6 5 = true := by decide +kernel
theorem s_6_6 : rowOk 6 6 = true := by decide +kernel
theorem row_all : ∀ i j : Nat, i < 7 → j < 7 → rowOk i j = true
  | 0, 0, _, _ => s_0_0
  | 0, 1, _, _ => s_0_1
  | 0, 2, _, _ => s_0_2
  | 0, 3, _, _ => s_0_3
  | 0, 4, _, _ => s_0_4
  | 0, 5, _, _ => s_0_5
  | 0, 6, _, _ => s_0_6
  | 1, 0, _, _ => s_1_0
  | 1, 1, _, _ => s_1_1
  | 1, 2, _, _ => s_1_2
  | 1, 3, _, _ => s_1_3
  | 1, 4, _, _ => s_1_4
  | 1, 5, _, _ => s_1_5
  | 1, 6, _, _ => s_1_6
  | 2, 0, _, _ => s_2_0
  | 2, 1, _, _ => s_2_1
  | 2, 2, _, _ => s_2_2
  | 2, 3, _, _ => s_2_3
  | 2, 4, _, _ => s_2_4
  | 2, 5, _, _ => s_2_5
  | 2, 6, _, _ => s_2_6
  | 3, 0, _, _ => s_3_0
  | 3, 1, _, _ => s_3_1
  | 3, 2, _, _ => s_3_2
  | 3, 3, _, _ => s_3_3
  | 3, 4, _, _ => s_3_4
  | 3, 5, _, _ => s_3_5
  | 3, 6, _, _ => s_3_6
  | 4, 0, _, _ => s_4_0
  | 4, 1, _, _ => s_4_1
  | 4, 2, _, _ => s_4_2
  | 4, 3, _, _ => s_4_3
  | 4, 4, _, _ => s_4_4
  | 4, 5, _, _ => s_4_5
  | 4, 6, _, _ => s_4_6
  | 5, 0, _, _ => s_5_0
  | 5, 1, _, _ => s_5_1
  | 5, 2, _, _ => s_5_2
  | 5, 3, _, _ => s_5_3
  | 5, 4, _, _ => s_5_4
  | 5, 5, _, _ => s_5_5
  | 5, 6, _, _ => s_5_6
  | 6, 0, _, _ => s_6_0
  | 6, 1, _, _ => s_6_1
  | 6, 2, _, _ => s_6_2
  | 6, 3, _, _ => s_6_3
  | 6, 4, _, _ => s_6_4
  | 6, 5, _, _ => s_6_5
  | 6, 6, _, _ => s_6_6
  | 0, j + 7, _, h => absurd h (by omega)
  | 1, j + 7, _, h => absurd h (by omega)
  | 2, j + 7, _, h => absurd h (by omega)
  | 3, j + 7, _, h => absurd h (by omega)
  | 4, j + 7, _, h => absurd h (by omega)
  | 5, j + 7, _, h => absurd h (by omega)
  | 6, j + 7, _, h => absurd h (by omega)
  | i + 7, j, h, _ => absurd h (by omega)
theorem v_sums : allR3 7 7 9 b_law_sums_right = true := by
  show ((List.range 7).all fun i => (List.range 7).all fun j => rowOk i j) = true
  rw [List.all_eq_true]
  intro i hi
  rw [List.all_eq_true]
  intro j hj
  exact row_all i j (List.mem_range.mp hi) (List.mem_range.mp hj)
theorem allOk : AllOk := ⟨v_wheel, v_chain, v_sums, v_tests⟩
end Z

namespace Z
open PySem PySem.Spec PyProof.Rows L2 NdefX LamX
def clO (K : PySem.W.Frag) (c : Nat) : Addr := match c with
  | 0 => He.ga K "Program"
  | 1 => He.ga K "RawTable"
  | 2 => He.ga K "Repeated"
  | _ => 0
theorem mkFx {K : PySem.W.Frag} {w : World} {h : Heap} {mg : Str → Option Value} {T : List NTab} (X : K.In h) (G : h.Ns mainGlobals mg) (c : He.SaysX hfa hfn [] htf hex w h K) : Fx K mg (clO K) T where
  n_isinstance := He.free_ok X G (c.t.d.fact 0 rfl)
  n_len := He.free_ok X G (c.t.d.fact 1 rfl)
  n_all := He.free_ok X G (c.t.d.fact 2 rfl)
  n_sum := He.free_ok X G (c.t.d.fact 3 rfl)
  n_max := He.free_ok X G (c.t.d.fact 4 rfl)
  n_abs := He.free_ok X G (c.t.d.fact 5 rfl)
  n_int := He.free_ok X G (c.t.d.fact 6 rfl)
  n_tuple := He.free_ok X G (c.t.d.fact 7 rfl)
  n_list := He.free_ok X G (c.t.d.fact 8 rfl)
  n_str := He.free_ok X G (c.t.d.fact 9 rfl)
  n_dict := He.free_ok X G (c.t.d.fact 10 rfl)
  n_bool := He.free_ok X G (c.t.d.fact 11 rfl)
  n_set := He.free_ok X G (c.t.d.fact 12 rfl)
  n_sorted := He.free_ok X G (c.t.d.fact 13 rfl)
  n_zip := He.free_ok X G (c.t.d.fact 14 rfl)
  n_enumerate := He.free_ok X G (c.t.d.fact 15 rfl)
  n_range := He.free_ok X G (c.t.d.fact 16 rfl)
  n_super := He.free_ok X G (c.t.d.fact 17 rfl)
  g_MOST_STATEMENTS := He.int_ok X G (c.t.d.fact 18 rfl)
  g_MOST_CELLS := He.int_ok X G (c.t.d.fact 19 rfl)
  f_is_integer := by
    obtain ⟨fd, F⟩ := c.t.d.def_ 0 (d := hd0) rfl
    exact ⟨_, fd, F, He.glo_ok X G (c.t.d.fact 20 rfl)⟩
  f_is_number := by
    obtain ⟨fd, F⟩ := c.t.d.def_ 1 (d := hd1) rfl
    exact ⟨_, fd, F, He.glo_ok X G (c.t.d.fact 21 rfl)⟩
  f_is_name := by
    obtain ⟨fd, F⟩ := c.t.d.def_ 2 (d := hd2) rfl
    exact ⟨_, fd, F, He.glo_ok X G (c.t.d.fact 22 rfl)⟩
  f_are_names := by
    obtain ⟨fd, F⟩ := c.t.d.def_ 3 (d := hd3) rfl
    exact ⟨_, fd, F, He.glo_ok X G (c.t.d.fact 23 rfl)⟩
  f_are_numbers := by
    obtain ⟨fd, F⟩ := c.t.d.def_ 4 (d := hd4) rfl
    exact ⟨_, fd, F, He.glo_ok X G (c.t.d.fact 24 rfl)⟩
  f_common_divisor := by
    obtain ⟨fd, F⟩ := c.t.d.def_ 5 (d := hd5) rfl
    exact ⟨_, fd, F, He.glo_ok X G (c.t.d.fact 25 rfl)⟩
  f_common_multiple := by
    obtain ⟨fd, F⟩ := c.t.d.def_ 6 (d := hd6) rfl
    exact ⟨_, fd, F, He.glo_ok X G (c.t.d.fact 26 rfl)⟩
  f_divided_up := by
    obtain ⟨fd, F⟩ := c.t.d.def_ 7 (d := hd7) rfl
    exact ⟨_, fd, F, He.glo_ok X G (c.t.d.fact 27 rfl)⟩
  f_is_deed := by
    obtain ⟨fd, F⟩ := c.t.d.def_ 8 (d := hd8) rfl
    exact ⟨_, fd, F, He.glo_ok X G (c.t.d.fact 28 rfl)⟩
  f_is_round := by
    obtain ⟨fd, F⟩ := c.t.d.def_ 9 (d := hd9) rfl
    exact ⟨_, fd, F, He.glo_ok X G (c.t.d.fact 29 rfl)⟩
  f_wrong_place := by
    obtain ⟨fd, F⟩ := c.t.d.def_ 10 (d := hd10) rfl
    exact ⟨_, fd, F, He.glo_ok X G (c.t.d.fact 30 rfl)⟩
  f_size_of := by
    obtain ⟨fd, F⟩ := c.t.d.def_ 11 (d := hd11) rfl
    exact ⟨_, fd, F, He.glo_ok X G (c.t.d.fact 31 rfl)⟩
  f_deeds_in := by
    obtain ⟨fd, F⟩ := c.t.d.def_ 12 (d := hd12) rfl
    exact ⟨_, fd, F, He.glo_ok X G (c.t.d.fact 32 rfl)⟩
  f_names_of := by
    obtain ⟨fd, F⟩ := c.t.d.def_ 13 (d := hd13) rfl
    exact ⟨_, fd, F, He.glo_ok X G (c.t.d.fact 33 rfl)⟩
  f_names := by
    obtain ⟨fd, F⟩ := c.t.d.def_ 14 (d := hd14) rfl
    exact ⟨_, fd, F, He.glo_ok X G (c.t.d.fact 34 rfl)⟩
  f_raw_push := by
    obtain ⟨fd, F⟩ := c.t.d.def_ 15 (d := hd15) rfl
    exact ⟨_, fd, F, He.glo_ok X G (c.t.d.fact 35 rfl)⟩
  f_source_number := by
    obtain ⟨fd, F⟩ := c.t.d.def_ 16 (d := hd16) rfl
    exact ⟨_, fd, F, He.glo_ok X G (c.t.d.fact 36 rfl)⟩
  f_raw_pushed := by
    obtain ⟨fd, F⟩ := c.t.d.def_ 17 (d := hd17) rfl
    exact ⟨_, fd, F, He.glo_ok X G (c.t.d.fact 37 rfl)⟩
  f_raw_after := by
    obtain ⟨fd, F⟩ := c.t.d.def_ 18 (d := hd18) rfl
    exact ⟨_, fd, F, He.glo_ok X G (c.t.d.fact 38 rfl)⟩
  f_raw_way := by
    obtain ⟨fd, F⟩ := c.t.d.def_ 19 (d := hd19) rfl
    exact ⟨_, fd, F, He.glo_ok X G (c.t.d.fact 39 rfl)⟩
  f_raw_gain := by
    obtain ⟨fd, F⟩ := c.t.d.def_ 20 (d := hd20) rfl
    exact ⟨_, fd, F, He.glo_ok X G (c.t.d.fact 40 rfl)⟩
  f_raw_tail := by
    obtain ⟨fd, F⟩ := c.t.d.def_ 21 (d := hd21) rfl
    exact ⟨_, fd, F, He.glo_ok X G (c.t.d.fact 41 rfl)⟩
  f_raw_turn := by
    obtain ⟨fd, F⟩ := c.t.d.def_ 22 (d := hd22) rfl
    exact ⟨_, fd, F, He.glo_ok X G (c.t.d.fact 42 rfl)⟩
  f_are_bounds := by
    obtain ⟨fd, F⟩ := c.t.d.def_ 23 (d := hd23) rfl
    exact ⟨_, fd, F, He.glo_ok X G (c.t.d.fact 43 rfl)⟩
  f_are_measures := by
    obtain ⟨fd, F⟩ := c.t.d.def_ 24 (d := hd24) rfl
    exact ⟨_, fd, F, He.glo_ok X G (c.t.d.fact 44 rfl)⟩
  f_many_cells := by
    obtain ⟨fd, F⟩ := c.t.d.def_ 25 (d := hd25) rfl
    exact ⟨_, fd, F, He.glo_ok X G (c.t.d.fact 45 rfl)⟩
  f_cells_of := by
    obtain ⟨fd, F⟩ := c.t.d.def_ 26 (d := hd26) rfl
    exact ⟨_, fd, F, He.glo_ok X G (c.t.d.fact 46 rfl)⟩
  f_is_great := by
    obtain ⟨fd, F⟩ := c.t.d.def_ 27 (d := hd27) rfl
    exact ⟨_, fd, F, He.glo_ok X G (c.t.d.fact 47 rfl)⟩
  f_is_form := by
    obtain ⟨fd, F⟩ := c.t.d.def_ 28 (d := hd28) rfl
    exact ⟨_, fd, F, He.glo_ok X G (c.t.d.fact 48 rfl)⟩
  f_is_row := by
    obtain ⟨fd, F⟩ := c.t.d.def_ 29 (d := hd29) rfl
    exact ⟨_, fd, F, He.glo_ok X G (c.t.d.fact 49 rfl)⟩
  f_raw_cell := by
    obtain ⟨fd, F⟩ := c.t.d.def_ 30 (d := hd30) rfl
    exact ⟨_, fd, F, He.glo_ok X G (c.t.d.fact 50 rfl)⟩
  f_place_of := by
    obtain ⟨fd, F⟩ := c.t.d.def_ 31 (d := hd31) rfl
    exact ⟨_, fd, F, He.glo_ok X G (c.t.d.fact 51 rfl)⟩
  f_raw_row := by
    obtain ⟨fd, F⟩ := c.t.d.def_ 32 (d := hd32) rfl
    exact ⟨_, fd, F, He.glo_ok X G (c.t.d.fact 52 rfl)⟩
  f_form_value := by
    obtain ⟨fd, F⟩ := c.t.d.def_ 33 (d := hd33) rfl
    exact ⟨_, fd, F, He.glo_ok X G (c.t.d.fact 53 rfl)⟩
  f_raw_value := by
    obtain ⟨fd, F⟩ := c.t.d.def_ 34 (d := hd34) rfl
    exact ⟨_, fd, F, He.glo_ok X G (c.t.d.fact 54 rfl)⟩
  f_raised := by
    obtain ⟨fd, F⟩ := c.t.d.def_ 35 (d := hd35) rfl
    exact ⟨_, fd, F, He.glo_ok X G (c.t.d.fact 55 rfl)⟩
  f_row_by := by
    obtain ⟨fd, F⟩ := c.t.d.def_ 36 (d := hd36) rfl
    exact ⟨_, fd, F, He.glo_ok X G (c.t.d.fact 56 rfl)⟩
  f_made_by := by
    obtain ⟨fd, F⟩ := c.t.d.def_ 37 (d := hd37) rfl
    exact ⟨_, fd, F, He.glo_ok X G (c.t.d.fact 57 rfl)⟩
  f_checked := by
    obtain ⟨fd, F⟩ := c.t.d.def_ 38 (d := hd38) rfl
    exact ⟨_, fd, F, He.glo_ok X G (c.t.d.fact 58 rfl)⟩
  f_raw_stretched := by
    obtain ⟨fd, F⟩ := c.t.d.def_ 39 (d := hd39) rfl
    exact ⟨_, fd, F, He.glo_ok X G (c.t.d.fact 59 rfl)⟩
  f_line_of := by
    obtain ⟨fd, F⟩ := c.t.d.def_ 40 (d := hd40) rfl
    exact ⟨_, fd, F, He.glo_ok X G (c.t.d.fact 60 rfl)⟩
  f_side_inputs := by
    obtain ⟨fd, F⟩ := c.t.d.def_ 41 (d := hd41) rfl
    exact ⟨_, fd, F, He.glo_ok X G (c.t.d.fact 61 rfl)⟩
  f_goes_evenly := by
    obtain ⟨fd, F⟩ := c.t.d.def_ 42 (d := hd42) rfl
    exact ⟨_, fd, F, He.glo_ok X G (c.t.d.fact 62 rfl)⟩
  f_is_enough := by
    obtain ⟨fd, F⟩ := c.t.d.def_ 43 (d := hd43) rfl
    exact ⟨_, fd, F, He.glo_ok X G (c.t.d.fact 63 rfl)⟩
  f_least_of := by
    obtain ⟨fd, F⟩ := c.t.d.def_ 44 (d := hd44) rfl
    exact ⟨_, fd, F, He.glo_ok X G (c.t.d.fact 64 rfl)⟩
  f_raw_least := by
    obtain ⟨fd, F⟩ := c.t.d.def_ 45 (d := hd45) rfl
    exact ⟨_, fd, F, He.glo_ok X G (c.t.d.fact 65 rfl)⟩
  f_first_table := by
    obtain ⟨fd, F⟩ := c.t.d.def_ 46 (d := hd46) rfl
    exact ⟨_, fd, F, He.glo_ok X G (c.t.d.fact 66 rfl)⟩
  f_form_pushed := by
    obtain ⟨fd, F⟩ := c.t.d.def_ 47 (d := hd47) rfl
    exact ⟨_, fd, F, He.glo_ok X G (c.t.d.fact 67 rfl)⟩
  f_row_pushed := by
    obtain ⟨fd, F⟩ := c.t.d.def_ 48 (d := hd48) rfl
    exact ⟨_, fd, F, He.glo_ok X G (c.t.d.fact 68 rfl)⟩
  f_finer := by
    obtain ⟨fd, F⟩ := c.t.d.def_ 49 (d := hd49) rfl
    exact ⟨_, fd, F, He.glo_ok X G (c.t.d.fact 69 rfl)⟩
  f_rounds_done := by
    obtain ⟨fd, F⟩ := c.t.d.def_ 50 (d := hd50) rfl
    exact ⟨_, fd, F, He.glo_ok X G (c.t.d.fact 70 rfl)⟩
  f_table_behind := by
    obtain ⟨fd, F⟩ := c.t.d.def_ 51 (d := hd51) rfl
    exact ⟨_, fd, F, He.glo_ok X G (c.t.d.fact 71 rfl)⟩
  f_ahead_tables := by
    obtain ⟨fd, F⟩ := c.t.d.def_ 52 (d := hd52) rfl
    exact ⟨_, fd, F, He.glo_ok X G (c.t.d.fact 72 rfl)⟩
  f_with_results := by
    obtain ⟨fd, F⟩ := c.t.d.def_ 53 (d := hd53) rfl
    exact ⟨_, fd, F, He.glo_ok X G (c.t.d.fact 73 rfl)⟩
  f_raw_table := by
    obtain ⟨fd, F⟩ := c.t.d.def_ 54 (d := hd54) rfl
    exact ⟨_, fd, F, He.glo_ok X G (c.t.d.fact 74 rfl)⟩
  f_table_of := by
    obtain ⟨fd, F⟩ := c.t.d.def_ 55 (d := hd55) rfl
    exact ⟨_, fd, F, He.glo_ok X G (c.t.d.fact 75 rfl)⟩
  f_law_hand := by
    obtain ⟨fd, F⟩ := c.t.d.def_ 56 (d := hd56) rfl
    exact ⟨_, fd, F, He.glo_ok X G (c.t.d.fact 76 rfl)⟩
  f_law_draw := by
    obtain ⟨fd, F⟩ := c.t.d.def_ 57 (d := hd57) rfl
    exact ⟨_, fd, F, He.glo_ok X G (c.t.d.fact 77 rfl)⟩
  f_law_is := by
    obtain ⟨fd, F⟩ := c.t.d.def_ 58 (d := hd58) rfl
    exact ⟨_, fd, F, He.glo_ok X G (c.t.d.fact 78 rfl)⟩
  f_law_is_told := by
    obtain ⟨fd, F⟩ := c.t.d.def_ 59 (d := hd59) rfl
    exact ⟨_, fd, F, He.glo_ok X G (c.t.d.fact 79 rfl)⟩
  f_law_wheel_right := by
    obtain ⟨fd, F⟩ := c.t.d.def_ 60 (d := hd60) rfl
    exact ⟨_, fd, F, He.glo_ok X G (c.t.d.fact 80 rfl)⟩
  f_law_chain_right := by
    obtain ⟨fd, F⟩ := c.t.d.def_ 61 (d := hd61) rfl
    exact ⟨_, fd, F, He.glo_ok X G (c.t.d.fact 81 rfl)⟩
  f_law_sums_right := by
    obtain ⟨fd, F⟩ := c.t.d.def_ 62 (d := hd62) rfl
    exact ⟨_, fd, F, He.glo_ok X G (c.t.d.fact 82 rfl)⟩
  f_law_tests_right := by
    obtain ⟨fd, F⟩ := c.t.d.def_ 63 (d := hd63) rfl
    exact ⟨_, fd, F, He.glo_ok X G (c.t.d.fact 83 rfl)⟩
  f_law := by
    obtain ⟨fd, F⟩ := c.t.d.def_ 64 (d := hd64) rfl
    exact ⟨_, fd, F, He.glo_ok X G (c.t.d.fact 84 rfl)⟩
  k_given := ⟨He.cls_ok (c.t.d.fact 85 rfl), He.noat_ok (c.t.d.fact 86 rfl)⟩
  k_told := ⟨He.cls_ok (c.t.d.fact 85 rfl), He.noat_ok (c.t.d.fact 87 rfl)⟩
  k_block := ⟨He.cls_ok (c.t.d.fact 85 rfl), He.noat_ok (c.t.d.fact 88 rfl)⟩
  k_bounds := ⟨He.cls_ok (c.t.d.fact 89 rfl), He.noat_ok (c.t.d.fact 90 rfl)⟩
  k_measures := ⟨He.cls_ok (c.t.d.fact 89 rfl), He.noat_ok (c.t.d.fact 91 rfl)⟩
  k_rows := ⟨He.cls_ok (c.t.d.fact 89 rfl), He.noat_ok (c.t.d.fact 92 rfl)⟩
  k_push := ⟨He.cls_ok (c.t.d.fact 93 rfl), He.noat_ok (c.t.d.fact 94 rfl)⟩
  k_tail := ⟨He.cls_ok (c.t.d.fact 93 rfl), He.noat_ok (c.t.d.fact 95 rfl)⟩
  k_turn := ⟨He.cls_ok (c.t.d.fact 93 rfl), He.noat_ok (c.t.d.fact 96 rfl)⟩
  k_growth := ⟨He.cls_ok (c.t.d.fact 93 rfl), He.noat_ok (c.t.d.fact 97 rfl)⟩
  k_powers := ⟨He.cls_ok (c.t.d.fact 93 rfl), He.noat_ok (c.t.d.fact 98 rfl)⟩
  mk_RawTable := by
    obtain ⟨fd, F⟩ := c.t.d.def_ 65 (d := hd65) rfl
    exact ⟨_, fd, F, He.mkr_ok (c.t.d.fact 99 rfl), He.glo_ok X G (c.t.d.fact 100 rfl)⟩
  mk_Program := by
    obtain ⟨fd, F⟩ := c.t.d.def_ 66 (d := hd66) rfl
    exact ⟨_, fd, F, He.mkr_ok (c.t.d.fact 101 rfl), He.glo_ok X G (c.t.d.fact 102 rfl)⟩
  mk_Repeated := by
    obtain ⟨fd, F⟩ := c.t.d.def_ 67 (d := hd67) rfl
    exact ⟨_, fd, F, He.mkr_ok (c.t.d.fact 103 rfl), He.glo_ok X G (c.t.d.fact 104 rfl)⟩
  m_keep := by
    obtain ⟨fd, F⟩ := c.t.d.def_ 68 (d := hd68) rfl
    exact ⟨_, fd, F, He.meth_ok (c.t.d.fact 105 rfl)⟩
  m_grown := by
    obtain ⟨fd, F⟩ := c.t.d.def_ 69 (d := hd69) rfl
    exact ⟨_, fd, F, He.meth_ok (c.t.d.fact 106 rfl)⟩
  m_power := by
    obtain ⟨fd, F⟩ := c.t.d.def_ 70 (d := hd70) rfl
    exact ⟨_, fd, F, He.meth_ok (c.t.d.fact 107 rfl)⟩
  m_behind := by
    obtain ⟨fd, F⟩ := c.t.d.def_ 71 (d := hd71) rfl
    exact ⟨_, fd, F, He.meth_ok (c.t.d.fact 108 rfl)⟩
def tabs (K : PySem.W.Frag) : List NTab := [((He.cT K ("raw_stretched", none)).2, fun _ _ => "raw_stretched.<locals>.<lambda>"), ((He.cT K ("rounds_done", none)).2, fun _ _ => "rounds_done.<locals>.numbers_behind")]
theorem mkFy {K : PySem.W.Frag} {w : World} {h base : Heap} {mg : Str → Option Value} (X : K.In h) (G : h.Ns mainGlobals mg) (c : He.SaysX hfa hfn [] htf hex w h K) (tb : ∀ p ∈ htf, TabB base mg (He.cT K p).1 (He.cT K p).2) (ne : (He.cT K ("raw_stretched", none)).2 ≠ (He.cT K ("rounds_done", none)).2) : Fy K mg base (tabs K) where
  t_raw_stretched := by
    obtain ⟨fd, F⟩ := c.t.d.def_ 39 (d := hd39) rfl
    obtain ⟨oc, od, dV, kV, doc, pm, an, cdv, ct, osl, rfl, lk, hcd, hd, _⟩ := F.ex
    obtain rfl : dV = .none := hd.elim (fun z => z.2) fun z => absurd rfl z.1
    obtain ⟨a, rfl⟩ := He.codeIn_ref hcd
    have e : He.codeOf K ("raw_stretched", none) = a := He.codeOf_eq (p := ("raw_stretched", none)) lk rfl
    refine ⟨_, oc, od, kV, doc, pm, an, a, ct, osl, (He.cT K ("raw_stretched", none)).2, fun _ _ => "raw_stretched.<locals>.<lambda>", lk, hcd, F.kp, He.glo_ok X G (c.t.d.fact 59 rfl), ?_, .head _, fun p hp z => ?_, fun _ _ => rfl⟩
    · have q := tb ("raw_stretched", none) (by decide +kernel)
      rw [show (He.cT K ("raw_stretched", none)).1 = a from e] at q
      exact q
    · rcases List.mem_cons.mp hp with r | r
      · rw [r]
      · rw [List.mem_singleton.mp r] at z
        exact absurd z.symm ne
  t_rounds_done := by
    obtain ⟨fd, F⟩ := c.t.d.def_ 50 (d := hd50) rfl
    obtain ⟨oc, od, dV, kV, doc, pm, an, cdv, ct, osl, rfl, lk, hcd, hd, _⟩ := F.ex
    obtain rfl : dV = .none := hd.elim (fun z => z.2) fun z => absurd rfl z.1
    obtain ⟨a, rfl⟩ := He.codeIn_ref hcd
    have e : He.codeOf K ("rounds_done", none) = a := He.codeOf_eq (p := ("rounds_done", none)) lk rfl
    refine ⟨_, oc, od, kV, doc, pm, an, a, ct, osl, (He.cT K ("rounds_done", none)).2, fun _ _ => "rounds_done.<locals>.numbers_behind", lk, hcd, F.kp, He.glo_ok X G (c.t.d.fact 70 rfl), ?_, .tail _ (.head _), fun p hp z => ?_, fun _ _ => rfl⟩
    · have q := tb ("rounds_done", none) (by decide +kernel)
      rw [show (He.cT K ("rounds_done", none)).1 = a from e] at q
      exact q
    · rcases List.mem_cons.mp hp with r | r
      · rw [r] at z
        exact absurd z ne
      · rw [List.mem_singleton.mp r]
end Z

namespace Z
open PySem PySem.Spec PyProof.Rows L2 NdefX LamX
theorem law_at {w : World} {mg : Str → Option Value} {fa : Addr} {h : Heap} {K : PySem.W.Frag} (X : K.In h) (G : h.Ns mainGlobals mg) (hlw : mg ("law" : Str) = some (.ref fa)) (c : He.SaysX hfa hfn [] htf hex w h K) :
    LawAtS PySem.Challenge.rw_flatrounds_k50_whole_tables_known_by_han w K L2.CX0 27 63 "_law_script" mg fa h := by
  have M : Fx K mg (clO K) (tabs K) := mkFx X G c
  obtain ⟨f, fd, F, hm⟩ := M.f_law
  obtain rfl : f = fa := by
    rw [hlw] at hm
    exact (Value.ref.inj (Option.some.inj hm)).symm
  have ne : (He.cT K ("raw_stretched", none)).2 ≠ (He.cT K ("rounds_done", none)).2 := by
    have q : (!decide ((He.cT K ("raw_stretched", none)).2 = (He.cT K ("rounds_done", none)).2)) = true := c.more
    rw [Bool.not_eq_true', decide_eq_false_iff_not] at q
    exact q
  refine ⟨fd, htf.map (He.cT K), spLaw (gm K (clO K) (tabs K)), fun p hp => ?_, fun p hp => ?_, fun p hp => ?_, fun s u => F.bindsA (ps := ["_law_script"]) (fun _ _ _ _ _ _ us hl => match us, hl with | [_], _ => rfl) s [u] rfl, fun H a ns hl _ hT hS => ⟨a, ns, rfl, hS, hl, ?_, fun _ => rfl⟩, fun base KB GB tb => ?_⟩
  · obtain ⟨q, hq, rfl⟩ := List.mem_map.mp hp
    exact c.empty q hq
  · obtain ⟨q, hq, rfl⟩ := List.mem_map.mp hp
    exact c.out q hq
  · obtain ⟨q, hq, rfl⟩ := List.mem_map.mp hp
    exact PySem.W.codeHd_of_K X (c.hd q hq)
  · intro q hq
    rcases List.mem_cons.mp hq with r | r
    · rw [r]
      exact TabN.nil (hT _ (List.mem_map.mpr ⟨("raw_stretched", none), .head _, rfl⟩))
    · rw [List.mem_singleton.mp r]
      exact TabN.nil (hT _ (List.mem_map.mpr ⟨("rounds_done", none), .tail _ (.head _), rfl⟩))
  · have Y : Fy K mg base (tabs K) := mkFy X G c (fun p hp => tb _ (List.mem_map.mpr ⟨p, hp, rfl⟩)) ne
    exact ok_law M Y allOk F
end Z
open PySem PySem.W PySem.Calls PyProof.Rows
theorem PySem.Challenge.cw_flatrounds_k50_whole_tables_known_by_han_holds : PySem.Challenge.rw_flatrounds_k50_whole_tables_known_by_han.Holds := by
  w_on; o_law
  refine HandSHeadRun.head_any (r := OpenLaw.row PySem.Challenge.rw_flatrounds_k50_whole_tables_known_by_han) (q := view (OpenLaw.row PySem.Challenge.rw_flatrounds_k50_whole_tables_known_by_han).prog [83]) (H := Z.hk) (ob := Z.hob) (M := 20000) (loose := Z.loose) (d := HandSHeadRun.topDef (OpenLaw.row PySem.Challenge.rw_flatrounds_k50_whole_tables_known_by_han).prog 83) (kwd := []) Z.hob_eq
    (by kernel_rfl) (fun s => by kernel_rfl) Z.hrun (by kernel_rfl) (by kernel_rfl) (by kernel_rfl) (by rfl) (by first | assumption | decide +kernel) (by decide +kernel) ⟨rfl, rfl, rfl, rfl, rfl, by decide +kernel⟩ ?hw ?hc
  case hw => w_witness2
  case hc =>
    refine LamX.walk_ofTsE (l := PySem.Challenge.rw_flatrounds_k50_whole_tables_known_by_han) (n := 63) (k := 27) (x := "_law_script") (CX := fun _ => L2.CX0) rfl (by decide) (by kernel_rfl) ⟨rfl, by decide, by decide⟩ ?F (fun _ _ _ _ _ z => z)
    intro w mg fa h Y G hmg0
    obtain ⟨K, KX, c⟩ := Y
    have hmg : mg ("law" : PySem.Str) = some (.ref fa) := by
      have e : (HandSHeadRun.topDef (OpenLaw.row PySem.Challenge.rw_flatrounds_k50_whole_tables_known_by_han).prog 83).name = ("law" : PySem.Str) := by kernel_rfl
      rw [← e]
      exact hmg0
    exact ⟨K, KX, Z.law_at KX G hmg c⟩

