import PyProof.Rows.All
import Wide.All
import OpenK.AllK
import Wide.FinOn
import KE.KStateDown
import HandS.ForMost
import HandS.Defaults
import HandS.HeadHook1
import HandS.HeadHook2
import HandS.HeadHook3
import HandS.HeadHook4
import PySem.Challenge.RW_maybegone_k07_whole_texts_there_and_back
import HandS.StrMore
import HandS.FStr
import HandS.Flow
import HandS.IsInst
import HandS.Walk
import HandS.Conv
import HandS.TupAny
import HandS.Style
import HandS.Evl
import HandS.Zip
import KE.GoesMore
import KE.GoesEnum
import HandS.SetBool
import HandS.SetTxt0
import HandS.Strs
import HandS.More
import HandS.TryOnly
import HandS.Wide
import PyProof.Rows.NestShow
import HandS.Ends
import HandS.HeadEnd
import PyProof.ReprReads
import PyProof.StrLawsIn
import PyProof.Rows.RegFStrParts
import HandS.Head0
import HandS.Head1
import HandS.Head2
set_option Elab.async false
set_option linter.all false
set_option maxRecDepth 100000
set_option maxHeartbeats 4000000
/-! the text by places, the defs as data, the facts that the head tells (printed by gen_txt.py) -/
namespace K7
open PySem PySem.Spec PyProof.Rows L2
def top (i : Nat) : Stmt := PySem.Challenge.pw_maybegone_k07_whole_texts_there_and_back.main.body.getD i (.Pass ⟨0, 0, 0, 0⟩)
abbrev s_is_number : Stmt := top 19
def d_is_number : He.DefD := ⟨("is_number", none), "is_number", "is_number", defArgs s_is_number, defBody s_is_number, defScope s_is_number, [], []⟩
abbrev s_is_word : Stmt := top 20
def d_is_word : He.DefD := ⟨("is_word", none), "is_word", "is_word", defArgs s_is_word, defBody s_is_word, defScope s_is_word, [], []⟩
abbrev s_is_name : Stmt := top 21
def d_is_name : He.DefD := ⟨("is_name", none), "is_name", "is_name", defArgs s_is_name, defBody s_is_name, defScope s_is_name, [], []⟩
abbrev s_has_form : Stmt := top 22
def d_has_form : He.DefD := ⟨("has_form", none), "has_form", "has_form", defArgs s_has_form, defBody s_has_form, defScope s_has_form, [], []⟩
abbrev s_is_part : Stmt := top 23
def d_is_part : He.DefD := ⟨("is_part", none), "is_part", "is_part", defArgs s_is_part, defBody s_is_part, defScope s_is_part, [], []⟩
abbrev s_is_test : Stmt := top 24
def d_is_test : He.DefD := ⟨("is_test", none), "is_test", "is_test", defArgs s_is_test, defBody s_is_test, defScope s_is_test, [], []⟩
abbrev s_inner_blocks : Stmt := top 25
def d_inner_blocks : He.DefD := ⟨("inner_blocks", none), "inner_blocks", "inner_blocks", defArgs s_inner_blocks, defBody s_inner_blocks, defScope s_inner_blocks, [], []⟩
abbrev s_listed : Stmt := top 26
def d_listed : He.DefD := ⟨("listed", none), "listed", "listed", defArgs s_listed, defBody s_listed, defScope s_listed, [], []⟩
abbrev s_first_error : Stmt := top 27
def d_first_error : He.DefD := ⟨("first_error", none), "first_error", "first_error", defArgs s_first_error, defBody s_first_error, defScope s_first_error, [], []⟩
abbrev s_weight_of : Stmt := top 28
def d_weight_of : He.DefD := ⟨("weight_of", none), "weight_of", "weight_of", defArgs s_weight_of, defBody s_weight_of, defScope s_weight_of, [], []⟩
abbrev s_program_error : Stmt := top 29
def d_program_error : He.DefD := ⟨("program_error", none), "program_error", "program_error", defArgs s_program_error, defBody s_program_error, defScope s_program_error, [], []⟩
abbrev s_statements_of : Stmt := top 30
def d_statements_of : He.DefD := ⟨("statements_of", none), "statements_of", "statements_of", defArgs s_statements_of, defBody s_statements_of, defScope s_statements_of, [], []⟩
abbrev s_wishes_of : Stmt := top 31
def d_wishes_of : He.DefD := ⟨("wishes_of", none), "wishes_of", "wishes_of", defArgs s_wishes_of, defBody s_wishes_of, defScope s_wishes_of, [], []⟩
abbrev s_test_text : Stmt := top 36
def d_test_text : He.DefD := ⟨("test_text", none), "test_text", "test_text", defArgs s_test_text, defBody s_test_text, defScope s_test_text, [], []⟩
abbrev s_statement_text : Stmt := top 37
def d_statement_text : He.DefD := ⟨("statement_text", none), "statement_text", "statement_text", defArgs s_statement_text, defBody s_statement_text, defScope s_statement_text, [], []⟩
abbrev s_block_lines : Stmt := top 38
def d_block_lines : He.DefD := ⟨("block_lines", none), "block_lines", "block_lines", defArgs s_block_lines, defBody s_block_lines, defScope s_block_lines, [], []⟩
abbrev s_program_text : Stmt := top 39
def d_program_text : He.DefD := ⟨("program_text", none), "program_text", "program_text", defArgs s_program_text, defBody s_program_text, defScope s_program_text, [], []⟩
abbrev s_whole_of : Stmt := top 40
def d_whole_of : He.DefD := ⟨("whole_of", none), "whole_of", "whole_of", defArgs s_whole_of, defBody s_whole_of, defScope s_whole_of, [], []⟩
abbrev s_spot_of : Stmt := top 41
def d_spot_of : He.DefD := ⟨("spot_of", none), "spot_of", "spot_of", defArgs s_spot_of, defBody s_spot_of, defScope s_spot_of, [], []⟩
abbrev s_test_of : Stmt := top 42
def d_test_of : He.DefD := ⟨("test_of", none), "test_of", "test_of", defArgs s_test_of, defBody s_test_of, defScope s_test_of, [], []⟩
abbrev s_plain_test : Stmt := top 43
def d_plain_test : He.DefD := ⟨("plain_test", none), "plain_test", "plain_test", defArgs s_plain_test, defBody s_plain_test, defScope s_plain_test, [], []⟩
abbrev s_filled_of : Stmt := top 44
def d_filled_of : He.DefD := ⟨("filled_of", none), "filled_of", "filled_of", defArgs s_filled_of, defBody s_filled_of, defScope s_filled_of, [], []⟩
abbrev s_statement_of : Stmt := top 45
def d_statement_of : He.DefD := ⟨("statement_of", none), "statement_of", "statement_of", defArgs s_statement_of, defBody s_statement_of, defScope s_statement_of, [], []⟩
abbrev s_head_of : Stmt := top 46
def d_head_of : He.DefD := ⟨("head_of", none), "head_of", "head_of", defArgs s_head_of, defBody s_head_of, defScope s_head_of, [], []⟩
abbrev s_L___init__ : Stmt := inClass (top 47) 0
def d_L___init__ : He.DefD := ⟨("Lines", some "__init__"), "__init__", "Lines.__init__", defArgs s_L___init__, defBody s_L___init__, defScope s_L___init__, [], []⟩
abbrev s_L_is_end : Stmt := inClass (top 47) 1
def d_L_is_end : He.DefD := ⟨("Lines", some "is_end"), "is_end", "Lines.is_end", defArgs s_L_is_end, defBody s_L_is_end, defScope s_L_is_end, [], []⟩
abbrev s_L_spaces : Stmt := inClass (top 47) 2
def d_L_spaces : He.DefD := ⟨("Lines", some "spaces"), "spaces", "Lines.spaces", defArgs s_L_spaces, defBody s_L_spaces, defScope s_L_spaces, [], []⟩
abbrev s_L_is_next : Stmt := inClass (top 47) 3
def d_L_is_next : He.DefD := ⟨("Lines", some "is_next"), "is_next", "Lines.is_next", defArgs s_L_is_next, defBody s_L_is_next, defScope s_L_is_next, [], []⟩
abbrev s_L_read_inner : Stmt := inClass (top 47) 4
def d_L_read_inner : He.DefD := ⟨("Lines", some "read_inner"), "read_inner", "Lines.read_inner", defArgs s_L_read_inner, defBody s_L_read_inner, defScope s_L_read_inner, [], []⟩
abbrev s_L_read_block : Stmt := inClass (top 47) 5
def d_L_read_block : He.DefD := ⟨("Lines", some "read_block"), "read_block", "Lines.read_block", defArgs s_L_read_block, defBody s_L_read_block, defScope s_L_read_block, [], []⟩
abbrev s_L_read_statement : Stmt := inClass (top 47) 6
def d_L_read_statement : He.DefD := ⟨("Lines", some "read_statement"), "read_statement", "Lines.read_statement", defArgs s_L_read_statement, defBody s_L_read_statement, defScope s_L_read_statement, [], []⟩
abbrev s_L_read_other : Stmt := inClass (top 47) 7
def d_L_read_other : He.DefD := ⟨("Lines", some "read_other"), "read_other", "Lines.read_other", defArgs s_L_read_other, defBody s_L_read_other, defScope s_L_read_other, [], []⟩
abbrev s_givens_of : Stmt := top 48
def d_givens_of : He.DefD := ⟨("givens_of", none), "givens_of", "givens_of", defArgs s_givens_of, defBody s_givens_of, defScope s_givens_of, [], []⟩
abbrev s_parse_program : Stmt := top 49
def d_parse_program : He.DefD := ⟨("parse_program", none), "parse_program", "parse_program", defArgs s_parse_program, defBody s_parse_program, defScope s_parse_program, [], []⟩
abbrev s__law_deck : Stmt := top 51
def d__law_deck : He.DefD := ⟨("_law_deck", none), "_law_deck", "_law_deck", defArgs s__law_deck, defBody s__law_deck, defScope s__law_deck, [], []⟩
abbrev s__law_draw : Stmt := top 52
def d__law_draw : He.DefD := ⟨("_law_draw", none), "_law_draw", "_law_draw", defArgs s__law_draw, defBody s__law_draw, defScope s__law_draw, [], []⟩
abbrev s__law_one : Stmt := top 53
def d__law_one : He.DefD := ⟨("_law_one", none), "_law_one", "_law_one", defArgs s__law_one, defBody s__law_one, defScope s__law_one, [], []⟩
abbrev s__law_kept : Stmt := top 54
def d__law_kept : He.DefD := ⟨("_law_kept", none), "_law_kept", "_law_kept", defArgs s__law_kept, defBody s__law_kept, defScope s__law_kept, [], []⟩
abbrev s__law_name : Stmt := top 55
def d__law_name : He.DefD := ⟨("_law_name", none), "_law_name", "_law_name", defArgs s__law_name, defBody s__law_name, defScope s__law_name, [], []⟩
abbrev s__law_word : Stmt := top 56
def d__law_word : He.DefD := ⟨("_law_word", none), "_law_word", "_law_word", defArgs s__law_word, defBody s__law_word, defScope s__law_word, [], []⟩
abbrev s__law_pool : Stmt := top 57
def d__law_pool : He.DefD := ⟨("_law_pool", none), "_law_pool", "_law_pool", defArgs s__law_pool, defBody s__law_pool, defScope s__law_pool, [], []⟩
abbrev s__law_any_test : Stmt := top 58
def d__law_any_test : He.DefD := ⟨("_law_any_test", none), "_law_any_test", "_law_any_test", defArgs s__law_any_test, defBody s__law_any_test, defScope s__law_any_test, [], []⟩
abbrev s__law_row : Stmt := top 59
def d__law_row : He.DefD := ⟨("_law_row", none), "_law_row", "_law_row", defArgs s__law_row, defBody s__law_row, defScope s__law_row, [], []⟩
abbrev s__law_rows : Stmt := top 60
def d__law_rows : He.DefD := ⟨("_law_rows", none), "_law_rows", "_law_rows", defArgs s__law_rows, defBody s__law_rows, defScope s__law_rows, [], []⟩
abbrev s__law_inner : Stmt := top 61
def d__law_inner : He.DefD := ⟨("_law_inner", none), "_law_inner", "_law_inner", defArgs s__law_inner, defBody s__law_inner, defScope s__law_inner, [], []⟩
abbrev s__law_free : Stmt := top 62
def d__law_free : He.DefD := ⟨("_law_free", none), "_law_free", "_law_free", defArgs s__law_free, defBody s__law_free, defScope s__law_free, [], []⟩
abbrev s__law_blocks : Stmt := top 63
def d__law_blocks : He.DefD := ⟨("_law_blocks", none), "_law_blocks", "_law_blocks", defArgs s__law_blocks, defBody s__law_blocks, defScope s__law_blocks, [], []⟩
abbrev s__law_flat : Stmt := top 64
def d__law_flat : He.DefD := ⟨("_law_flat", none), "_law_flat", "_law_flat", defArgs s__law_flat, defBody s__law_flat, defScope s__law_flat, [], []⟩
abbrev s__law_put : Stmt := top 65
def d__law_put : He.DefD := ⟨("_law_put", none), "_law_put", "_law_put", defArgs s__law_put, defBody s__law_put, defScope s__law_put, [], []⟩
abbrev s_law : Stmt := top 66
def d_law : He.DefD := ⟨("law", none), "law", "law", defArgs s_law, defBody s_law, defScope s_law, [], []⟩
def fnL0 : List He.DefD := [d_is_number, d_is_word, d_is_name, d_has_form, d_is_part, d_is_test, d_inner_blocks, d_listed, d_first_error, d_weight_of, d_program_error, d_statements_of, d_wishes_of, d_test_text, d_statement_text, d_block_lines, d_program_text, d_whole_of, d_spot_of, d_test_of]
def fnL1 : List He.DefD := [d_plain_test, d_filled_of, d_statement_of, d_head_of, d_L___init__, d_L_is_end, d_L_spaces, d_L_is_next, d_L_read_inner, d_L_read_block, d_L_read_statement, d_L_read_other, d_givens_of, d_parse_program, d__law_deck, d__law_draw, d__law_one, d__law_kept, d__law_name, d__law_word]
def fnL2 : List He.DefD := [d__law_pool, d__law_any_test, d__law_row, d__law_rows, d__law_inner, d__law_free, d__law_blocks, d__law_flat, d__law_put, d_law]
def fnL : List He.DefD := fnL0 ++ fnL1 ++ fnL2
def faL0 : List He.Fa := [.glo "GoneError", .glo "BadText", .glo "BadProgram", .glo "NO_NAMES", .glo "FORMS", .glo "TEST_FORMS", .glo "is_number", .glo "is_word", .glo "is_name", .glo "has_form", .glo "is_part", .glo "is_test", .glo "inner_blocks", .glo "listed", .glo "first_error", .glo "weight_of", .glo "program_error", .glo "statements_of", .glo "wishes_of", .glo "test_text"]
def faL1 : List He.Fa := [.glo "statement_text", .glo "block_lines", .glo "program_text", .glo "whole_of", .glo "spot_of", .glo "test_of", .glo "plain_test", .glo "filled_of", .glo "statement_of", .glo "head_of", .glo "Lines", .glo "givens_of", .glo "parse_program", .glo "_law_deck", .glo "_law_draw", .glo "_law_one", .glo "_law_kept", .glo "_law_name", .glo "_law_word", .glo "_law_pool"]
def faL2 : List He.Fa := [.glo "_law_any_test", .glo "_law_row", .glo "_law_rows", .glo "_law_inner", .glo "_law_free", .glo "_law_blocks", .glo "_law_flat", .glo "_law_put", .glo "law", .free "isinstance", .free "int", .free "bool", .free "str", .free "tuple", .free "len", .free "all", .free "zip", .free "range", .free "sum", .free "sorted"]
def faL3 : List He.Fa := [.free "abs", .free "repr", .int "MAX_NAME" 8, .int "MAX_WORD" 8, .int "MAX_GIVENS" 3, .int "MAX_TIMES" 12, .int "MAX_NEST" 4, .int "MAX_PLACES" 30, .int "MAX_WEIGHT" 200, .int "MAX_WISHES" 4, .int "MOST_NOTS_programs" 3, .int "MOST_DIGITS" 20, .int "MOST_NOTS_texts" 20, .str "SMALL" "abcdefghijklmnopqrstuvwxyz", .str "DIGITS" "0123456789", .str "STEP" "  ", .cls "Lines", .noat "Lines" "rows", .noat "Lines" "at", .mkr "Lines"]
def faL4 : List He.Fa := [.meth "Lines" "is_end", .meth "Lines" "spaces", .meth "Lines" "is_next", .meth "Lines" "read_inner", .meth "Lines" "read_block", .meth "Lines" "read_statement", .meth "Lines" "read_other"]
def faL : List He.Fa := faL0 ++ faL1 ++ faL2 ++ faL3 ++ faL4
def kvFORMS : List (Str × Str) := [("make", "n"), ("keep", "n"), ("drop", "n"), ("wish", "nw"), ("name", "nn"), ("hold", "nnn"), ("weak", "nnn"), ("cut", "nn"), ("take", "nnn"), ("say", "w"), ("ask", "t"), ("if", "tbb"), ("repeat", "kb")]
def kvTEST_FORMS : List (Str × Str) := [("given", "g"), ("set", "n"), ("same", "nn"), ("full", "nn"), ("wished", "w")]
def noNames : List Str := ["as", "ask", "cut", "drop", "else", "full", "given", "hold", "if", "keep", "make", "not", "pass", "repeat", "same", "say", "set", "take", "weak", "wish", "wished"]
def tsL : List He.Tab := [(fun K => He.ga K "FORMS", kvFORMS.map (·.1)), (fun K => He.ga K "TEST_FORMS", kvTEST_FORMS.map (·.1))]
def exB (K : PySem.W.Frag) : Bool := He.tupB K "NO_NAMES" (noNames.map He.Dv.str) && (He.valsB K (He.ga K "FORMS") (kvFORMS.map fun p => (p.1, He.Dv.str p.2)) && He.valsB K (He.ga K "TEST_FORMS") (kvTEST_FORMS.map fun p => (p.1, He.Dv.str p.2)))
def looseL0 : List Str := ["__name__", "GoneError", "BadText", "BadProgram", "MAX_NAME", "MAX_WORD", "MAX_GIVENS", "MAX_TIMES", "MAX_NEST", "MAX_PLACES", "MAX_WEIGHT", "MAX_WISHES", "SMALL", "DIGITS", "NO_NAMES", "MOST_NOTS_programs", "FORMS", "TEST_FORMS", "is_number", "is_word"]
def looseL1 : List Str := ["is_name", "has_form", "is_part", "is_test", "inner_blocks", "listed", "first_error", "weight_of", "program_error", "statements_of", "wishes_of", "STEP", "MOST_DIGITS", "MOST_NOTS_texts", "test_text", "statement_text", "block_lines", "program_text", "whole_of", "spot_of"]
def looseL2 : List Str := ["test_of", "plain_test", "filled_of", "statement_of", "head_of", "Lines", "givens_of", "parse_program", "_law_deck", "_law_draw", "_law_one", "_law_kept", "_law_name", "_law_word", "_law_pool", "_law_any_test", "_law_row", "_law_rows", "_law_inner", "_law_free"]
def looseL3 : List Str := ["_law_blocks", "_law_flat", "_law_put"]
def looseL : List Str := looseL0 ++ looseL1 ++ looseL2 ++ looseL3
abbrev Says (w : World) (h : Heap) (K : PySem.W.Frag) : Prop := He.SaysX faL fnL tsL [] exB w h K
end K7
set_option maxHeartbeats 4000000
/-! the plain law: programs as data, their lines, their texts; no program of Python in sight -/
namespace K7
open PySem L2 TL
/-! ### letters, names, words -/
abbrev smallS : Str := "abcdefghijklmnopqrstuvwxyz"
abbrev digitS : Str := "0123456789"
def nameBar : List Str := ["as", "ask", "cut", "drop", "else", "full", "given", "hold", "if", "keep", "make", "not", "pass", "repeat", "same", "say", "set", "take", "weak", "wish", "wished"]
def sgnB (c : Nat) : Bool := decide (c ∈ tl smallS) || decide (c ∈ tl digitS)
def isWord (x : Str) : Bool := decide (1 ≤ x.length) && (decide (x.length ≤ 8) && (tl x).all sgnB)
def headSmall (x : Str) : Bool := match tl x with
  | [] => false
  | c :: _ => decide (c ∈ tl smallS)
def isName (x : Str) : Bool := isWord x && (headSmall x && !decide (x ∈ nameBar))
theorem tl_small : tl smallS = [97, 98, 99, 100, 101, 102, 103, 104, 105, 106, 107, 108, 109, 110, 111, 112, 113, 114, 115, 116, 117, 118, 119, 120, 121, 122] := by decide +kernel
theorem tl_digit : tl digitS = [48, 49, 50, 51, 52, 53, 54, 55, 56, 57] := by decide +kernel
theorem small_iff {c : Nat} : c ∈ tl smallS ↔ 97 ≤ c ∧ c ≤ 122 := by
  rw [tl_small]
  constructor
  · intro h
    simp only [List.mem_cons, List.not_mem_nil, or_false] at h
    omega
  · intro h
    simp only [List.mem_cons, List.not_mem_nil, or_false]
    omega
theorem digit_iff {c : Nat} : c ∈ tl digitS ↔ 48 ≤ c ∧ c ≤ 57 := by
  rw [tl_digit]
  constructor
  · intro h
    simp only [List.mem_cons, List.not_mem_nil, or_false] at h
    omega
  · intro h
    simp only [List.mem_cons, List.not_mem_nil, or_false]
    omega
theorem sgn_iff {c : Nat} : sgnB c = true ↔ (97 ≤ c ∧ c ≤ 122) ∨ (48 ≤ c ∧ c ≤ 57) := by
  unfold sgnB
  rw [Bool.or_eq_true, decide_eq_true_iff, decide_eq_true_iff, small_iff, digit_iff]
theorem word_len {x : Str} (h : isWord x = true) : 1 ≤ x.length ∧ x.length ≤ 8 := by
  unfold isWord at h
  simp only [Bool.and_eq_true, decide_eq_true_iff] at h
  exact ⟨h.1, h.2.1⟩
theorem word_sgn {x : Str} (h : isWord x = true) : ∀ c ∈ tl x, (97 ≤ c ∧ c ≤ 122) ∨ (48 ≤ c ∧ c ≤ 57) := by
  unfold isWord at h
  simp only [Bool.and_eq_true, decide_eq_true_iff] at h
  intro c hc
  exact sgn_iff.mp (List.all_eq_true.mp h.2.2 c hc)
theorem name_word {x : Str} (h : isName x = true) : isWord x = true := by
  unfold isName at h
  simp only [Bool.and_eq_true] at h
  exact h.1
theorem name_bar {x : Str} (h : isName x = true) : x ∉ nameBar := by
  unfold isName at h
  simp only [Bool.and_eq_true, Bool.not_eq_true', decide_eq_false_iff_not] at h
  exact h.2.2
theorem name_ne {x y : Str} (h : isName x = true) (hy : y ∈ nameBar := by decide +kernel) : x ≠ y := fun e => name_bar h (e ▸ hy)
/-- a text that is written and read as one word: not empty, no space, point, line feed in it -/
def Solid (x : Str) : Prop := 1 ≤ (tl x).length ∧ (tl x).length ≤ 17 ∧ ∀ c ∈ tl x, 32 < c ∧ c < 127
theorem word_solid {x : Str} (h : isWord x = true) : Solid x := by
  have h1 := word_len h
  have e := len_tl x
  refine ⟨by omega, by omega, fun c hc => ?_⟩
  have := word_sgn h c hc
  omega
theorem name_solid {x : Str} (h : isName x = true) : Solid x := word_solid (name_word h)
theorem word_nodot {x : Str} (h : isWord x = true) : 46 ∉ tl x := fun hc => by
  have := word_sgn h 46 hc
  omega
theorem word_noeq {x : Str} (h : isWord x = true) (y : Str) (hy : (tl y).all (fun c => !(sgnB c)) = true := by decide +kernel) (hn : tl y ≠ [] := by decide +kernel) : x ≠ y := fun e => by
  subst e
  cases q : tl x with
  | nil => exact hn q
  | cons c r =>
    have h1 := word_sgn h c (by rw [q]; exact List.mem_cons_self)
    rw [q] at hy
    simp only [List.all_cons, Bool.and_eq_true, Bool.not_eq_true'] at hy
    have h2 := sgn_iff.mpr h1
    rw [hy.1] at h2
    cases h2
/-! ### programs as data -/
inductive Bt where
  | giv (i : Nat) | set (x : Str) | same (x y : Str) | full (x f : Str) | wished (w : Str)
structure Tst where
  nots : Nat
  bt : Bt
inductive Pln where
  | make (x : Str) | keep (x : Str) | drop (x : Str) | wish (x w : Str) | name (x y : Str) | hold (x f y : Str) | weak (x f y : Str) | cut (x f : Str) | take (z x f : Str) | say (w : Str) | ask (t : Tst)
inductive Stm where
  | pln (p : Pln) | iff (t : Tst) (y n : List Stm) | rep (k : Nat) (b : List Stm)
/-- a number, as a text -/
def num (n : Nat) : Str := Str.ofString (toString ((n : Nat) : Int))
theorem tl_numS (n : Nat) : tl (num n) = numL n := tl_num n
def dot (x f : Str) : Str := x ++ "." ++ f
theorem tl_dot (x f : Str) : tl (dot x f) = tl x ++ 46 :: tl f := by
  unfold dot
  rw [tl_append, tl_append]
  have e : tl ("." : Str) = [46] := by decide +kernel
  rw [e, List.append_assoc]
  rfl
theorem dot_solid {x f : Str} (hx : isName x = true) (hf : isName f = true) : Solid (dot x f) := by
  have a := word_len (name_word hx)
  have b := word_len (name_word hf)
  have ea := len_tl x
  have eb := len_tl f
  have sa := name_solid hx
  have sb := name_solid hf
  unfold Solid
  rw [tl_dot]
  refine ⟨by rw [List.length_append, List.length_cons]; omega, by rw [List.length_append, List.length_cons]; omega, fun c hc => ?_⟩
  rcases List.mem_append.mp hc with h | h
  · exact sa.2.2 c h
  · rcases List.mem_cons.mp h with h | h
    · omega
    · exact sb.2.2 c h
theorem numL_small : ∀ n : Nat, n < 100 → (numL n).length ≤ 2 ∧ 1 ≤ (numL n).length ∧ (numL n).all (fun c => decide (48 ≤ c ∧ c ≤ 57)) = true := by
  intro n h
  refine ⟨numL_len (k := 2) (by decide) h, ?_, ?_⟩
  · cases e : numL n with
    | nil => exact absurd e (numL_ne n)
    | cons _ _ => simp
  · by_cases h10 : n < 10
    · rw [numL_lt h10]
      simp only [List.all_cons, List.all_nil, Bool.and_true, decide_eq_true_iff]
      omega
    · rw [numL_step (by omega), numL_lt (by omega)]
      simp only [List.all_append, List.all_cons, List.all_nil, Bool.and_true, Bool.and_eq_true, decide_eq_true_iff]
      omega
theorem num_solid {n : Nat} (h : n < 100) : Solid (num n) := by
  obtain ⟨h1, h2, h3⟩ := numL_small n h
  unfold Solid
  rw [tl_numS]
  refine ⟨h2, by omega, fun c hc => ?_⟩
  have := of_decide_eq_true (List.all_eq_true.mp h3 c hc)
  omega
/-! ### words and lines -/
def btW : Bt → List Str
  | .giv i => ["given", num i]
  | .set x => ["set", x]
  | .same x y => [x, "is", y]
  | .full x f => ["full", dot x f]
  | .wished w => ["wished", w]
def tstW (t : Tst) : List Str := List.replicate t.nots ("not" : Str) ++ btW t.bt
def plnW : Pln → List Str
  | .make x => ["make", x]
  | .keep x => ["keep", x]
  | .drop x => ["drop", x]
  | .wish x w => ["wish", x, w]
  | .name x y => [x, "=", y]
  | .hold x f y => [dot x f, "=", y]
  | .weak x f y => [dot x f, "~", y]
  | .cut x f => ["cut", dot x f]
  | .take z x f => [z, "=", dot x f]
  | .say w => ["say", w]
  | .ask t => "ask" :: tstW t
def headW : Stm → List Str
  | .pln p => plnW p
  | .iff t _ _ => "if" :: tstW t
  | .rep k _ => ["repeat", num k]
/-- words with a space between two -/
def jn (ws : List Str) : Str := Str.join " " ws
def ind (d : Nat) : Str := ⟨(List.replicate (2 * d) 32).toArray⟩
theorem tl_ind (d : Nat) : tl (ind d) = List.replicate (2 * d) 32 := rfl
def line (d : Nat) (ws : List Str) : Str := ind d ++ jn ws
/-- an empty block is told by «pass»; a second block that is not empty stands behind «else» -/
def passOr (d : Nat) : List Str → List Str
  | [] => [ind d ++ "pass"]
  | a :: r => a :: r
def elseOf (d : Nat) : List Str → List Str
  | [] => []
  | a :: r => (ind d ++ "else") :: a :: r
mutual
def linesS (d : Nat) : Stm → List Str
  | .pln p => [ind d ++ jn (plnW p)]
  | .iff t y n => (ind d ++ jn ("if" :: tstW t)) :: (passOr (d + 1) (linesL (d + 1) y) ++ elseOf d (linesL (d + 1) n))
  | .rep k b => (ind d ++ jn ["repeat", num k]) :: passOr (d + 1) (linesL (d + 1) b)
def linesL (d : Nat) : List Stm → List Str
  | [] => []
  | s :: r => linesS d s ++ linesL d r
end
/-! ### what is asked of a program -/
def Bt.ok (g : Nat) : Bt → Prop
  | .giv i => i < g
  | .set x => isName x = true
  | .same x y => isName x = true ∧ isName y = true
  | .full x f => isName x = true ∧ isName f = true
  | .wished w => isWord w = true
def Tst.ok (g : Nat) (t : Tst) : Prop := t.nots ≤ 3 ∧ t.bt.ok g
def Pln.ok (g : Nat) : Pln → Prop
  | .make x => isName x = true
  | .keep x => isName x = true
  | .drop x => isName x = true
  | .wish x w => isName x = true ∧ isWord w = true
  | .name x y => isName x = true ∧ isName y = true
  | .hold x f y => isName x = true ∧ isName f = true ∧ isName y = true
  | .weak x f y => isName x = true ∧ isName f = true ∧ isName y = true
  | .cut x f => isName x = true ∧ isName f = true
  | .take z x f => isName z = true ∧ isName x = true ∧ isName f = true
  | .say w => isWord w = true
  | .ask t => t.ok g
mutual
def okS (g : Nat) : Stm → Prop
  | .pln p => p.ok g
  | .iff t y n => t.ok g ∧ okL g y ∧ okL g n
  | .rep k b => k ≤ 12 ∧ okL g b
def okL (g : Nat) : List Stm → Prop
  | [] => True
  | s :: r => okS g s ∧ okL g r
end
mutual
/-- how deep, how many, how heavy -/
def htS : Stm → Nat
  | .pln _ => 1
  | .iff _ y n => 1 + max (htL y) (htL n)
  | .rep _ b => 1 + htL b
def htL : List Stm → Nat
  | [] => 0
  | s :: r => max (htS s) (htL r)
end
mutual
def cnS : Stm → Nat
  | .pln _ => 1
  | .iff _ y n => 1 + (cnL y + cnL n)
  | .rep _ b => 1 + cnL b
def cnL : List Stm → Nat
  | [] => 0
  | s :: r => cnS s + cnL r
end
mutual
def wtS : Stm → Nat
  | .pln _ => 1
  | .iff _ y n => 1 + (wtL y + wtL n)
  | .rep k b => 1 + k * wtL b
def wtL : List Stm → Nat
  | [] => 0
  | s :: r => wtS s + wtL r
end
/-! all statements, a statement ahead of those in its blocks -/
mutual
def flS : Stm → List Stm
  | .pln p => [.pln p]
  | .iff t y n => .iff t y n :: (flL y ++ flL n)
  | .rep k b => .rep k b :: flL b
def flL : List Stm → List Stm
  | [] => []
  | s :: r => flS s ++ flL r
end
def wishOf : Stm → List Str
  | .pln (.wish _ w) => [w]
  | _ => []
def wishes (b : List Stm) : List Str := (flL b).flatMap wishOf
/-- the blocks of a statement -/
def blocks : Stm → List (List Stm)
  | .pln _ => []
  | .iff _ y n => [y, n]
  | .rep _ b => [b]
/-! ### as Python's data -/
def encBt : Bt → PyData
  | .giv i => .tuple [.str "given", .int i]
  | .set x => .tuple [.str "set", .str x]
  | .same x y => .tuple [.str "same", .str x, .str y]
  | .full x f => .tuple [.str "full", .str x, .str f]
  | .wished w => .tuple [.str "wished", .str w]
def encN : Nat → PyData → PyData
  | 0, d => d
  | n + 1, d => .tuple [.str "not", encN n d]
def encT (t : Tst) : PyData := encN t.nots (encBt t.bt)
def encP : Pln → PyData
  | .make x => .tuple [.str "make", .str x]
  | .keep x => .tuple [.str "keep", .str x]
  | .drop x => .tuple [.str "drop", .str x]
  | .wish x w => .tuple [.str "wish", .str x, .str w]
  | .name x y => .tuple [.str "name", .str x, .str y]
  | .hold x f y => .tuple [.str "hold", .str x, .str f, .str y]
  | .weak x f y => .tuple [.str "weak", .str x, .str f, .str y]
  | .cut x f => .tuple [.str "cut", .str x, .str f]
  | .take z x f => .tuple [.str "take", .str z, .str x, .str f]
  | .say w => .tuple [.str "say", .str w]
  | .ask t => .tuple [.str "ask", encT t]
mutual
def encS : Stm → PyData
  | .pln p => encP p
  | .iff t y n => .tuple [.str "if", encT t, .tuple (encL y), .tuple (encL n)]
  | .rep k b => .tuple [.str "repeat", .int k, .tuple (encL b)]
def encL : List Stm → List PyData
  | [] => []
  | s :: r => encS s :: encL r
end
theorem encL_map : ∀ b : List Stm, encL b = b.map encS
  | [] => by rw [encL]; rfl
  | s :: r => by rw [encL, encL_map r]; rfl
def enc (g : Nat) (b : List Stm) : PyData := .tuple [.int g, .tuple (encL b)]
end K7
set_option maxHeartbeats 4000000
/-! each fact of the head by its name (printed by gen_facts.py) -/
namespace K7
open PySem PySem.Spec PyProof.Rows L2
def Txt (w : World) (K : PySem.W.Frag) (mg : Str → Option Value) : Prop := ∃ h : Heap, K.In h ∧ h.Ns mainGlobals mg ∧ Says w h K
section
variable {w : World} {K : PySem.W.Frag} {mg : Str → Option Value}
theorem Txt.fact (T : Txt w K mg) (i : Nat) {f : He.Fa} (h : faL[i]? = some f := by rfl) : f.ok K = true := by
  obtain ⟨_, _, _, c⟩ := T
  exact c.t.d.fact i h
theorem Txt.def_ (T : Txt w K mg) (i : Nat) {d : He.DefD} (h : fnL[i]? = some d := by rfl) : ∃ fd, FunD K d.name d.qual d.params d.body d.scope (d.dvs K) (d.kws K) (He.fAd K d.at_) fd := by
  obtain ⟨_, _, _, c⟩ := T
  exact c.t.d.def_ i h
theorem Txt.f_is_number (T : Txt w K mg) : ∃ fd, FunD K "is_number" "is_number" (defArgs s_is_number) (defBody s_is_number) (defScope s_is_number) [] [] (He.ga K "is_number") fd := T.def_ 0 (d := d_is_number)
theorem Txt.f_is_word (T : Txt w K mg) : ∃ fd, FunD K "is_word" "is_word" (defArgs s_is_word) (defBody s_is_word) (defScope s_is_word) [] [] (He.ga K "is_word") fd := T.def_ 1 (d := d_is_word)
theorem Txt.f_is_name (T : Txt w K mg) : ∃ fd, FunD K "is_name" "is_name" (defArgs s_is_name) (defBody s_is_name) (defScope s_is_name) [] [] (He.ga K "is_name") fd := T.def_ 2 (d := d_is_name)
theorem Txt.f_has_form (T : Txt w K mg) : ∃ fd, FunD K "has_form" "has_form" (defArgs s_has_form) (defBody s_has_form) (defScope s_has_form) [] [] (He.ga K "has_form") fd := T.def_ 3 (d := d_has_form)
theorem Txt.f_is_part (T : Txt w K mg) : ∃ fd, FunD K "is_part" "is_part" (defArgs s_is_part) (defBody s_is_part) (defScope s_is_part) [] [] (He.ga K "is_part") fd := T.def_ 4 (d := d_is_part)
theorem Txt.f_is_test (T : Txt w K mg) : ∃ fd, FunD K "is_test" "is_test" (defArgs s_is_test) (defBody s_is_test) (defScope s_is_test) [] [] (He.ga K "is_test") fd := T.def_ 5 (d := d_is_test)
theorem Txt.f_inner_blocks (T : Txt w K mg) : ∃ fd, FunD K "inner_blocks" "inner_blocks" (defArgs s_inner_blocks) (defBody s_inner_blocks) (defScope s_inner_blocks) [] [] (He.ga K "inner_blocks") fd := T.def_ 6 (d := d_inner_blocks)
theorem Txt.f_listed (T : Txt w K mg) : ∃ fd, FunD K "listed" "listed" (defArgs s_listed) (defBody s_listed) (defScope s_listed) [] [] (He.ga K "listed") fd := T.def_ 7 (d := d_listed)
theorem Txt.f_first_error (T : Txt w K mg) : ∃ fd, FunD K "first_error" "first_error" (defArgs s_first_error) (defBody s_first_error) (defScope s_first_error) [] [] (He.ga K "first_error") fd := T.def_ 8 (d := d_first_error)
theorem Txt.f_weight_of (T : Txt w K mg) : ∃ fd, FunD K "weight_of" "weight_of" (defArgs s_weight_of) (defBody s_weight_of) (defScope s_weight_of) [] [] (He.ga K "weight_of") fd := T.def_ 9 (d := d_weight_of)
theorem Txt.f_program_error (T : Txt w K mg) : ∃ fd, FunD K "program_error" "program_error" (defArgs s_program_error) (defBody s_program_error) (defScope s_program_error) [] [] (He.ga K "program_error") fd := T.def_ 10 (d := d_program_error)
theorem Txt.f_statements_of (T : Txt w K mg) : ∃ fd, FunD K "statements_of" "statements_of" (defArgs s_statements_of) (defBody s_statements_of) (defScope s_statements_of) [] [] (He.ga K "statements_of") fd := T.def_ 11 (d := d_statements_of)
theorem Txt.f_wishes_of (T : Txt w K mg) : ∃ fd, FunD K "wishes_of" "wishes_of" (defArgs s_wishes_of) (defBody s_wishes_of) (defScope s_wishes_of) [] [] (He.ga K "wishes_of") fd := T.def_ 12 (d := d_wishes_of)
theorem Txt.f_test_text (T : Txt w K mg) : ∃ fd, FunD K "test_text" "test_text" (defArgs s_test_text) (defBody s_test_text) (defScope s_test_text) [] [] (He.ga K "test_text") fd := T.def_ 13 (d := d_test_text)
theorem Txt.f_statement_text (T : Txt w K mg) : ∃ fd, FunD K "statement_text" "statement_text" (defArgs s_statement_text) (defBody s_statement_text) (defScope s_statement_text) [] [] (He.ga K "statement_text") fd := T.def_ 14 (d := d_statement_text)
theorem Txt.f_block_lines (T : Txt w K mg) : ∃ fd, FunD K "block_lines" "block_lines" (defArgs s_block_lines) (defBody s_block_lines) (defScope s_block_lines) [] [] (He.ga K "block_lines") fd := T.def_ 15 (d := d_block_lines)
theorem Txt.f_program_text (T : Txt w K mg) : ∃ fd, FunD K "program_text" "program_text" (defArgs s_program_text) (defBody s_program_text) (defScope s_program_text) [] [] (He.ga K "program_text") fd := T.def_ 16 (d := d_program_text)
theorem Txt.f_whole_of (T : Txt w K mg) : ∃ fd, FunD K "whole_of" "whole_of" (defArgs s_whole_of) (defBody s_whole_of) (defScope s_whole_of) [] [] (He.ga K "whole_of") fd := T.def_ 17 (d := d_whole_of)
theorem Txt.f_spot_of (T : Txt w K mg) : ∃ fd, FunD K "spot_of" "spot_of" (defArgs s_spot_of) (defBody s_spot_of) (defScope s_spot_of) [] [] (He.ga K "spot_of") fd := T.def_ 18 (d := d_spot_of)
theorem Txt.f_test_of (T : Txt w K mg) : ∃ fd, FunD K "test_of" "test_of" (defArgs s_test_of) (defBody s_test_of) (defScope s_test_of) [] [] (He.ga K "test_of") fd := T.def_ 19 (d := d_test_of)
theorem Txt.f_plain_test (T : Txt w K mg) : ∃ fd, FunD K "plain_test" "plain_test" (defArgs s_plain_test) (defBody s_plain_test) (defScope s_plain_test) [] [] (He.ga K "plain_test") fd := T.def_ 20 (d := d_plain_test)
theorem Txt.f_filled_of (T : Txt w K mg) : ∃ fd, FunD K "filled_of" "filled_of" (defArgs s_filled_of) (defBody s_filled_of) (defScope s_filled_of) [] [] (He.ga K "filled_of") fd := T.def_ 21 (d := d_filled_of)
theorem Txt.f_statement_of (T : Txt w K mg) : ∃ fd, FunD K "statement_of" "statement_of" (defArgs s_statement_of) (defBody s_statement_of) (defScope s_statement_of) [] [] (He.ga K "statement_of") fd := T.def_ 22 (d := d_statement_of)
theorem Txt.f_head_of (T : Txt w K mg) : ∃ fd, FunD K "head_of" "head_of" (defArgs s_head_of) (defBody s_head_of) (defScope s_head_of) [] [] (He.ga K "head_of") fd := T.def_ 23 (d := d_head_of)
theorem Txt.f_L___init__ (T : Txt w K mg) : ∃ fd, FunD K "__init__" "Lines.__init__" (defArgs s_L___init__) (defBody s_L___init__) (defScope s_L___init__) [] [] (He.ma K (He.ga K "Lines") "__init__") fd := T.def_ 24 (d := d_L___init__)
theorem Txt.f_L_is_end (T : Txt w K mg) : ∃ fd, FunD K "is_end" "Lines.is_end" (defArgs s_L_is_end) (defBody s_L_is_end) (defScope s_L_is_end) [] [] (He.ma K (He.ga K "Lines") "is_end") fd := T.def_ 25 (d := d_L_is_end)
theorem Txt.f_L_spaces (T : Txt w K mg) : ∃ fd, FunD K "spaces" "Lines.spaces" (defArgs s_L_spaces) (defBody s_L_spaces) (defScope s_L_spaces) [] [] (He.ma K (He.ga K "Lines") "spaces") fd := T.def_ 26 (d := d_L_spaces)
theorem Txt.f_L_is_next (T : Txt w K mg) : ∃ fd, FunD K "is_next" "Lines.is_next" (defArgs s_L_is_next) (defBody s_L_is_next) (defScope s_L_is_next) [] [] (He.ma K (He.ga K "Lines") "is_next") fd := T.def_ 27 (d := d_L_is_next)
theorem Txt.f_L_read_inner (T : Txt w K mg) : ∃ fd, FunD K "read_inner" "Lines.read_inner" (defArgs s_L_read_inner) (defBody s_L_read_inner) (defScope s_L_read_inner) [] [] (He.ma K (He.ga K "Lines") "read_inner") fd := T.def_ 28 (d := d_L_read_inner)
theorem Txt.f_L_read_block (T : Txt w K mg) : ∃ fd, FunD K "read_block" "Lines.read_block" (defArgs s_L_read_block) (defBody s_L_read_block) (defScope s_L_read_block) [] [] (He.ma K (He.ga K "Lines") "read_block") fd := T.def_ 29 (d := d_L_read_block)
theorem Txt.f_L_read_statement (T : Txt w K mg) : ∃ fd, FunD K "read_statement" "Lines.read_statement" (defArgs s_L_read_statement) (defBody s_L_read_statement) (defScope s_L_read_statement) [] [] (He.ma K (He.ga K "Lines") "read_statement") fd := T.def_ 30 (d := d_L_read_statement)
theorem Txt.f_L_read_other (T : Txt w K mg) : ∃ fd, FunD K "read_other" "Lines.read_other" (defArgs s_L_read_other) (defBody s_L_read_other) (defScope s_L_read_other) [] [] (He.ma K (He.ga K "Lines") "read_other") fd := T.def_ 31 (d := d_L_read_other)
theorem Txt.f_givens_of (T : Txt w K mg) : ∃ fd, FunD K "givens_of" "givens_of" (defArgs s_givens_of) (defBody s_givens_of) (defScope s_givens_of) [] [] (He.ga K "givens_of") fd := T.def_ 32 (d := d_givens_of)
theorem Txt.f_parse_program (T : Txt w K mg) : ∃ fd, FunD K "parse_program" "parse_program" (defArgs s_parse_program) (defBody s_parse_program) (defScope s_parse_program) [] [] (He.ga K "parse_program") fd := T.def_ 33 (d := d_parse_program)
theorem Txt.f__law_deck (T : Txt w K mg) : ∃ fd, FunD K "_law_deck" "_law_deck" (defArgs s__law_deck) (defBody s__law_deck) (defScope s__law_deck) [] [] (He.ga K "_law_deck") fd := T.def_ 34 (d := d__law_deck)
theorem Txt.f__law_draw (T : Txt w K mg) : ∃ fd, FunD K "_law_draw" "_law_draw" (defArgs s__law_draw) (defBody s__law_draw) (defScope s__law_draw) [] [] (He.ga K "_law_draw") fd := T.def_ 35 (d := d__law_draw)
theorem Txt.f__law_one (T : Txt w K mg) : ∃ fd, FunD K "_law_one" "_law_one" (defArgs s__law_one) (defBody s__law_one) (defScope s__law_one) [] [] (He.ga K "_law_one") fd := T.def_ 36 (d := d__law_one)
theorem Txt.f__law_kept (T : Txt w K mg) : ∃ fd, FunD K "_law_kept" "_law_kept" (defArgs s__law_kept) (defBody s__law_kept) (defScope s__law_kept) [] [] (He.ga K "_law_kept") fd := T.def_ 37 (d := d__law_kept)
theorem Txt.f__law_name (T : Txt w K mg) : ∃ fd, FunD K "_law_name" "_law_name" (defArgs s__law_name) (defBody s__law_name) (defScope s__law_name) [] [] (He.ga K "_law_name") fd := T.def_ 38 (d := d__law_name)
theorem Txt.f__law_word (T : Txt w K mg) : ∃ fd, FunD K "_law_word" "_law_word" (defArgs s__law_word) (defBody s__law_word) (defScope s__law_word) [] [] (He.ga K "_law_word") fd := T.def_ 39 (d := d__law_word)
theorem Txt.f__law_pool (T : Txt w K mg) : ∃ fd, FunD K "_law_pool" "_law_pool" (defArgs s__law_pool) (defBody s__law_pool) (defScope s__law_pool) [] [] (He.ga K "_law_pool") fd := T.def_ 40 (d := d__law_pool)
theorem Txt.f__law_any_test (T : Txt w K mg) : ∃ fd, FunD K "_law_any_test" "_law_any_test" (defArgs s__law_any_test) (defBody s__law_any_test) (defScope s__law_any_test) [] [] (He.ga K "_law_any_test") fd := T.def_ 41 (d := d__law_any_test)
theorem Txt.f__law_row (T : Txt w K mg) : ∃ fd, FunD K "_law_row" "_law_row" (defArgs s__law_row) (defBody s__law_row) (defScope s__law_row) [] [] (He.ga K "_law_row") fd := T.def_ 42 (d := d__law_row)
theorem Txt.f__law_rows (T : Txt w K mg) : ∃ fd, FunD K "_law_rows" "_law_rows" (defArgs s__law_rows) (defBody s__law_rows) (defScope s__law_rows) [] [] (He.ga K "_law_rows") fd := T.def_ 43 (d := d__law_rows)
theorem Txt.f__law_inner (T : Txt w K mg) : ∃ fd, FunD K "_law_inner" "_law_inner" (defArgs s__law_inner) (defBody s__law_inner) (defScope s__law_inner) [] [] (He.ga K "_law_inner") fd := T.def_ 44 (d := d__law_inner)
theorem Txt.f__law_free (T : Txt w K mg) : ∃ fd, FunD K "_law_free" "_law_free" (defArgs s__law_free) (defBody s__law_free) (defScope s__law_free) [] [] (He.ga K "_law_free") fd := T.def_ 45 (d := d__law_free)
theorem Txt.f__law_blocks (T : Txt w K mg) : ∃ fd, FunD K "_law_blocks" "_law_blocks" (defArgs s__law_blocks) (defBody s__law_blocks) (defScope s__law_blocks) [] [] (He.ga K "_law_blocks") fd := T.def_ 46 (d := d__law_blocks)
theorem Txt.f__law_flat (T : Txt w K mg) : ∃ fd, FunD K "_law_flat" "_law_flat" (defArgs s__law_flat) (defBody s__law_flat) (defScope s__law_flat) [] [] (He.ga K "_law_flat") fd := T.def_ 47 (d := d__law_flat)
theorem Txt.f__law_put (T : Txt w K mg) : ∃ fd, FunD K "_law_put" "_law_put" (defArgs s__law_put) (defBody s__law_put) (defScope s__law_put) [] [] (He.ga K "_law_put") fd := T.def_ 48 (d := d__law_put)
theorem Txt.f_law (T : Txt w K mg) : ∃ fd, FunD K "law" "law" (defArgs s_law) (defBody s_law) (defScope s_law) [] [] (He.ga K "law") fd := T.def_ 49 (d := d_law)
theorem Txt.g_GoneError (T : Txt w K mg) : mg "GoneError" = some (.ref (He.ga K "GoneError")) := by
  have c := T.fact 0 (f := .glo "GoneError")
  obtain ⟨_, X, G, _⟩ := T
  exact He.glo_ok X G c
theorem Txt.g_BadText (T : Txt w K mg) : mg "BadText" = some (.ref (He.ga K "BadText")) := by
  have c := T.fact 1 (f := .glo "BadText")
  obtain ⟨_, X, G, _⟩ := T
  exact He.glo_ok X G c
theorem Txt.g_BadProgram (T : Txt w K mg) : mg "BadProgram" = some (.ref (He.ga K "BadProgram")) := by
  have c := T.fact 2 (f := .glo "BadProgram")
  obtain ⟨_, X, G, _⟩ := T
  exact He.glo_ok X G c
theorem Txt.g_NO_NAMES (T : Txt w K mg) : mg "NO_NAMES" = some (.ref (He.ga K "NO_NAMES")) := by
  have c := T.fact 3 (f := .glo "NO_NAMES")
  obtain ⟨_, X, G, _⟩ := T
  exact He.glo_ok X G c
theorem Txt.g_FORMS (T : Txt w K mg) : mg "FORMS" = some (.ref (He.ga K "FORMS")) := by
  have c := T.fact 4 (f := .glo "FORMS")
  obtain ⟨_, X, G, _⟩ := T
  exact He.glo_ok X G c
theorem Txt.g_TEST_FORMS (T : Txt w K mg) : mg "TEST_FORMS" = some (.ref (He.ga K "TEST_FORMS")) := by
  have c := T.fact 5 (f := .glo "TEST_FORMS")
  obtain ⟨_, X, G, _⟩ := T
  exact He.glo_ok X G c
theorem Txt.g_is_number (T : Txt w K mg) : mg "is_number" = some (.ref (He.ga K "is_number")) := by
  have c := T.fact 6 (f := .glo "is_number")
  obtain ⟨_, X, G, _⟩ := T
  exact He.glo_ok X G c
theorem Txt.g_is_word (T : Txt w K mg) : mg "is_word" = some (.ref (He.ga K "is_word")) := by
  have c := T.fact 7 (f := .glo "is_word")
  obtain ⟨_, X, G, _⟩ := T
  exact He.glo_ok X G c
theorem Txt.g_is_name (T : Txt w K mg) : mg "is_name" = some (.ref (He.ga K "is_name")) := by
  have c := T.fact 8 (f := .glo "is_name")
  obtain ⟨_, X, G, _⟩ := T
  exact He.glo_ok X G c
theorem Txt.g_has_form (T : Txt w K mg) : mg "has_form" = some (.ref (He.ga K "has_form")) := by
  have c := T.fact 9 (f := .glo "has_form")
  obtain ⟨_, X, G, _⟩ := T
  exact He.glo_ok X G c
theorem Txt.g_is_part (T : Txt w K mg) : mg "is_part" = some (.ref (He.ga K "is_part")) := by
  have c := T.fact 10 (f := .glo "is_part")
  obtain ⟨_, X, G, _⟩ := T
  exact He.glo_ok X G c
theorem Txt.g_is_test (T : Txt w K mg) : mg "is_test" = some (.ref (He.ga K "is_test")) := by
  have c := T.fact 11 (f := .glo "is_test")
  obtain ⟨_, X, G, _⟩ := T
  exact He.glo_ok X G c
theorem Txt.g_inner_blocks (T : Txt w K mg) : mg "inner_blocks" = some (.ref (He.ga K "inner_blocks")) := by
  have c := T.fact 12 (f := .glo "inner_blocks")
  obtain ⟨_, X, G, _⟩ := T
  exact He.glo_ok X G c
theorem Txt.g_listed (T : Txt w K mg) : mg "listed" = some (.ref (He.ga K "listed")) := by
  have c := T.fact 13 (f := .glo "listed")
  obtain ⟨_, X, G, _⟩ := T
  exact He.glo_ok X G c
theorem Txt.g_first_error (T : Txt w K mg) : mg "first_error" = some (.ref (He.ga K "first_error")) := by
  have c := T.fact 14 (f := .glo "first_error")
  obtain ⟨_, X, G, _⟩ := T
  exact He.glo_ok X G c
theorem Txt.g_weight_of (T : Txt w K mg) : mg "weight_of" = some (.ref (He.ga K "weight_of")) := by
  have c := T.fact 15 (f := .glo "weight_of")
  obtain ⟨_, X, G, _⟩ := T
  exact He.glo_ok X G c
theorem Txt.g_program_error (T : Txt w K mg) : mg "program_error" = some (.ref (He.ga K "program_error")) := by
  have c := T.fact 16 (f := .glo "program_error")
  obtain ⟨_, X, G, _⟩ := T
  exact He.glo_ok X G c
theorem Txt.g_statements_of (T : Txt w K mg) : mg "statements_of" = some (.ref (He.ga K "statements_of")) := by
  have c := T.fact 17 (f := .glo "statements_of")
  obtain ⟨_, X, G, _⟩ := T
  exact He.glo_ok X G c
theorem Txt.g_wishes_of (T : Txt w K mg) : mg "wishes_of" = some (.ref (He.ga K "wishes_of")) := by
  have c := T.fact 18 (f := .glo "wishes_of")
  obtain ⟨_, X, G, _⟩ := T
  exact He.glo_ok X G c
theorem Txt.g_test_text (T : Txt w K mg) : mg "test_text" = some (.ref (He.ga K "test_text")) := by
  have c := T.fact 19 (f := .glo "test_text")
  obtain ⟨_, X, G, _⟩ := T
  exact He.glo_ok X G c
theorem Txt.g_statement_text (T : Txt w K mg) : mg "statement_text" = some (.ref (He.ga K "statement_text")) := by
  have c := T.fact 20 (f := .glo "statement_text")
  obtain ⟨_, X, G, _⟩ := T
  exact He.glo_ok X G c
theorem Txt.g_block_lines (T : Txt w K mg) : mg "block_lines" = some (.ref (He.ga K "block_lines")) := by
  have c := T.fact 21 (f := .glo "block_lines")
  obtain ⟨_, X, G, _⟩ := T
  exact He.glo_ok X G c
theorem Txt.g_program_text (T : Txt w K mg) : mg "program_text" = some (.ref (He.ga K "program_text")) := by
  have c := T.fact 22 (f := .glo "program_text")
  obtain ⟨_, X, G, _⟩ := T
  exact He.glo_ok X G c
theorem Txt.g_whole_of (T : Txt w K mg) : mg "whole_of" = some (.ref (He.ga K "whole_of")) := by
  have c := T.fact 23 (f := .glo "whole_of")
  obtain ⟨_, X, G, _⟩ := T
  exact He.glo_ok X G c
theorem Txt.g_spot_of (T : Txt w K mg) : mg "spot_of" = some (.ref (He.ga K "spot_of")) := by
  have c := T.fact 24 (f := .glo "spot_of")
  obtain ⟨_, X, G, _⟩ := T
  exact He.glo_ok X G c
theorem Txt.g_test_of (T : Txt w K mg) : mg "test_of" = some (.ref (He.ga K "test_of")) := by
  have c := T.fact 25 (f := .glo "test_of")
  obtain ⟨_, X, G, _⟩ := T
  exact He.glo_ok X G c
theorem Txt.g_plain_test (T : Txt w K mg) : mg "plain_test" = some (.ref (He.ga K "plain_test")) := by
  have c := T.fact 26 (f := .glo "plain_test")
  obtain ⟨_, X, G, _⟩ := T
  exact He.glo_ok X G c
theorem Txt.g_filled_of (T : Txt w K mg) : mg "filled_of" = some (.ref (He.ga K "filled_of")) := by
  have c := T.fact 27 (f := .glo "filled_of")
  obtain ⟨_, X, G, _⟩ := T
  exact He.glo_ok X G c
theorem Txt.g_statement_of (T : Txt w K mg) : mg "statement_of" = some (.ref (He.ga K "statement_of")) := by
  have c := T.fact 28 (f := .glo "statement_of")
  obtain ⟨_, X, G, _⟩ := T
  exact He.glo_ok X G c
theorem Txt.g_head_of (T : Txt w K mg) : mg "head_of" = some (.ref (He.ga K "head_of")) := by
  have c := T.fact 29 (f := .glo "head_of")
  obtain ⟨_, X, G, _⟩ := T
  exact He.glo_ok X G c
theorem Txt.g_Lines (T : Txt w K mg) : mg "Lines" = some (.ref (He.ga K "Lines")) := by
  have c := T.fact 30 (f := .glo "Lines")
  obtain ⟨_, X, G, _⟩ := T
  exact He.glo_ok X G c
theorem Txt.g_givens_of (T : Txt w K mg) : mg "givens_of" = some (.ref (He.ga K "givens_of")) := by
  have c := T.fact 31 (f := .glo "givens_of")
  obtain ⟨_, X, G, _⟩ := T
  exact He.glo_ok X G c
theorem Txt.g_parse_program (T : Txt w K mg) : mg "parse_program" = some (.ref (He.ga K "parse_program")) := by
  have c := T.fact 32 (f := .glo "parse_program")
  obtain ⟨_, X, G, _⟩ := T
  exact He.glo_ok X G c
theorem Txt.g__law_deck (T : Txt w K mg) : mg "_law_deck" = some (.ref (He.ga K "_law_deck")) := by
  have c := T.fact 33 (f := .glo "_law_deck")
  obtain ⟨_, X, G, _⟩ := T
  exact He.glo_ok X G c
theorem Txt.g__law_draw (T : Txt w K mg) : mg "_law_draw" = some (.ref (He.ga K "_law_draw")) := by
  have c := T.fact 34 (f := .glo "_law_draw")
  obtain ⟨_, X, G, _⟩ := T
  exact He.glo_ok X G c
theorem Txt.g__law_one (T : Txt w K mg) : mg "_law_one" = some (.ref (He.ga K "_law_one")) := by
  have c := T.fact 35 (f := .glo "_law_one")
  obtain ⟨_, X, G, _⟩ := T
  exact He.glo_ok X G c
theorem Txt.g__law_kept (T : Txt w K mg) : mg "_law_kept" = some (.ref (He.ga K "_law_kept")) := by
  have c := T.fact 36 (f := .glo "_law_kept")
  obtain ⟨_, X, G, _⟩ := T
  exact He.glo_ok X G c
theorem Txt.g__law_name (T : Txt w K mg) : mg "_law_name" = some (.ref (He.ga K "_law_name")) := by
  have c := T.fact 37 (f := .glo "_law_name")
  obtain ⟨_, X, G, _⟩ := T
  exact He.glo_ok X G c
theorem Txt.g__law_word (T : Txt w K mg) : mg "_law_word" = some (.ref (He.ga K "_law_word")) := by
  have c := T.fact 38 (f := .glo "_law_word")
  obtain ⟨_, X, G, _⟩ := T
  exact He.glo_ok X G c
theorem Txt.g__law_pool (T : Txt w K mg) : mg "_law_pool" = some (.ref (He.ga K "_law_pool")) := by
  have c := T.fact 39 (f := .glo "_law_pool")
  obtain ⟨_, X, G, _⟩ := T
  exact He.glo_ok X G c
theorem Txt.g__law_any_test (T : Txt w K mg) : mg "_law_any_test" = some (.ref (He.ga K "_law_any_test")) := by
  have c := T.fact 40 (f := .glo "_law_any_test")
  obtain ⟨_, X, G, _⟩ := T
  exact He.glo_ok X G c
theorem Txt.g__law_row (T : Txt w K mg) : mg "_law_row" = some (.ref (He.ga K "_law_row")) := by
  have c := T.fact 41 (f := .glo "_law_row")
  obtain ⟨_, X, G, _⟩ := T
  exact He.glo_ok X G c
theorem Txt.g__law_rows (T : Txt w K mg) : mg "_law_rows" = some (.ref (He.ga K "_law_rows")) := by
  have c := T.fact 42 (f := .glo "_law_rows")
  obtain ⟨_, X, G, _⟩ := T
  exact He.glo_ok X G c
theorem Txt.g__law_inner (T : Txt w K mg) : mg "_law_inner" = some (.ref (He.ga K "_law_inner")) := by
  have c := T.fact 43 (f := .glo "_law_inner")
  obtain ⟨_, X, G, _⟩ := T
  exact He.glo_ok X G c
theorem Txt.g__law_free (T : Txt w K mg) : mg "_law_free" = some (.ref (He.ga K "_law_free")) := by
  have c := T.fact 44 (f := .glo "_law_free")
  obtain ⟨_, X, G, _⟩ := T
  exact He.glo_ok X G c
theorem Txt.g__law_blocks (T : Txt w K mg) : mg "_law_blocks" = some (.ref (He.ga K "_law_blocks")) := by
  have c := T.fact 45 (f := .glo "_law_blocks")
  obtain ⟨_, X, G, _⟩ := T
  exact He.glo_ok X G c
theorem Txt.g__law_flat (T : Txt w K mg) : mg "_law_flat" = some (.ref (He.ga K "_law_flat")) := by
  have c := T.fact 46 (f := .glo "_law_flat")
  obtain ⟨_, X, G, _⟩ := T
  exact He.glo_ok X G c
theorem Txt.g__law_put (T : Txt w K mg) : mg "_law_put" = some (.ref (He.ga K "_law_put")) := by
  have c := T.fact 47 (f := .glo "_law_put")
  obtain ⟨_, X, G, _⟩ := T
  exact He.glo_ok X G c
theorem Txt.g_law (T : Txt w K mg) : mg "law" = some (.ref (He.ga K "law")) := by
  have c := T.fact 48 (f := .glo "law")
  obtain ⟨_, X, G, _⟩ := T
  exact He.glo_ok X G c
theorem Txt.z_isinstance (T : Txt w K mg) : mg "isinstance" = none := by
  have c := T.fact 49 (f := .free "isinstance")
  obtain ⟨_, X, G, _⟩ := T
  exact He.free_ok X G c
theorem Txt.z_int (T : Txt w K mg) : mg "int" = none := by
  have c := T.fact 50 (f := .free "int")
  obtain ⟨_, X, G, _⟩ := T
  exact He.free_ok X G c
theorem Txt.z_bool (T : Txt w K mg) : mg "bool" = none := by
  have c := T.fact 51 (f := .free "bool")
  obtain ⟨_, X, G, _⟩ := T
  exact He.free_ok X G c
theorem Txt.z_str (T : Txt w K mg) : mg "str" = none := by
  have c := T.fact 52 (f := .free "str")
  obtain ⟨_, X, G, _⟩ := T
  exact He.free_ok X G c
theorem Txt.z_tuple (T : Txt w K mg) : mg "tuple" = none := by
  have c := T.fact 53 (f := .free "tuple")
  obtain ⟨_, X, G, _⟩ := T
  exact He.free_ok X G c
theorem Txt.z_len (T : Txt w K mg) : mg "len" = none := by
  have c := T.fact 54 (f := .free "len")
  obtain ⟨_, X, G, _⟩ := T
  exact He.free_ok X G c
theorem Txt.z_all (T : Txt w K mg) : mg "all" = none := by
  have c := T.fact 55 (f := .free "all")
  obtain ⟨_, X, G, _⟩ := T
  exact He.free_ok X G c
theorem Txt.z_zip (T : Txt w K mg) : mg "zip" = none := by
  have c := T.fact 56 (f := .free "zip")
  obtain ⟨_, X, G, _⟩ := T
  exact He.free_ok X G c
theorem Txt.z_range (T : Txt w K mg) : mg "range" = none := by
  have c := T.fact 57 (f := .free "range")
  obtain ⟨_, X, G, _⟩ := T
  exact He.free_ok X G c
theorem Txt.z_sum (T : Txt w K mg) : mg "sum" = none := by
  have c := T.fact 58 (f := .free "sum")
  obtain ⟨_, X, G, _⟩ := T
  exact He.free_ok X G c
theorem Txt.z_sorted (T : Txt w K mg) : mg "sorted" = none := by
  have c := T.fact 59 (f := .free "sorted")
  obtain ⟨_, X, G, _⟩ := T
  exact He.free_ok X G c
theorem Txt.z_abs (T : Txt w K mg) : mg "abs" = none := by
  have c := T.fact 60 (f := .free "abs")
  obtain ⟨_, X, G, _⟩ := T
  exact He.free_ok X G c
theorem Txt.z_repr (T : Txt w K mg) : mg "repr" = none := by
  have c := T.fact 61 (f := .free "repr")
  obtain ⟨_, X, G, _⟩ := T
  exact He.free_ok X G c
theorem Txt.i_MAX_NAME (T : Txt w K mg) : ∃ t, mg "MAX_NAME" = some (.int 8 t) := by
  have c := T.fact 62 (f := .int "MAX_NAME" 8)
  obtain ⟨_, X, G, _⟩ := T
  exact He.int_ok X G c
theorem Txt.i_MAX_WORD (T : Txt w K mg) : ∃ t, mg "MAX_WORD" = some (.int 8 t) := by
  have c := T.fact 63 (f := .int "MAX_WORD" 8)
  obtain ⟨_, X, G, _⟩ := T
  exact He.int_ok X G c
theorem Txt.i_MAX_GIVENS (T : Txt w K mg) : ∃ t, mg "MAX_GIVENS" = some (.int 3 t) := by
  have c := T.fact 64 (f := .int "MAX_GIVENS" 3)
  obtain ⟨_, X, G, _⟩ := T
  exact He.int_ok X G c
theorem Txt.i_MAX_TIMES (T : Txt w K mg) : ∃ t, mg "MAX_TIMES" = some (.int 12 t) := by
  have c := T.fact 65 (f := .int "MAX_TIMES" 12)
  obtain ⟨_, X, G, _⟩ := T
  exact He.int_ok X G c
theorem Txt.i_MAX_NEST (T : Txt w K mg) : ∃ t, mg "MAX_NEST" = some (.int 4 t) := by
  have c := T.fact 66 (f := .int "MAX_NEST" 4)
  obtain ⟨_, X, G, _⟩ := T
  exact He.int_ok X G c
theorem Txt.i_MAX_PLACES (T : Txt w K mg) : ∃ t, mg "MAX_PLACES" = some (.int 30 t) := by
  have c := T.fact 67 (f := .int "MAX_PLACES" 30)
  obtain ⟨_, X, G, _⟩ := T
  exact He.int_ok X G c
theorem Txt.i_MAX_WEIGHT (T : Txt w K mg) : ∃ t, mg "MAX_WEIGHT" = some (.int 200 t) := by
  have c := T.fact 68 (f := .int "MAX_WEIGHT" 200)
  obtain ⟨_, X, G, _⟩ := T
  exact He.int_ok X G c
theorem Txt.i_MAX_WISHES (T : Txt w K mg) : ∃ t, mg "MAX_WISHES" = some (.int 4 t) := by
  have c := T.fact 69 (f := .int "MAX_WISHES" 4)
  obtain ⟨_, X, G, _⟩ := T
  exact He.int_ok X G c
theorem Txt.i_MOST_NOTS_programs (T : Txt w K mg) : ∃ t, mg "MOST_NOTS_programs" = some (.int 3 t) := by
  have c := T.fact 70 (f := .int "MOST_NOTS_programs" 3)
  obtain ⟨_, X, G, _⟩ := T
  exact He.int_ok X G c
theorem Txt.i_MOST_DIGITS (T : Txt w K mg) : ∃ t, mg "MOST_DIGITS" = some (.int 20 t) := by
  have c := T.fact 71 (f := .int "MOST_DIGITS" 20)
  obtain ⟨_, X, G, _⟩ := T
  exact He.int_ok X G c
theorem Txt.i_MOST_NOTS_texts (T : Txt w K mg) : ∃ t, mg "MOST_NOTS_texts" = some (.int 20 t) := by
  have c := T.fact 72 (f := .int "MOST_NOTS_texts" 20)
  obtain ⟨_, X, G, _⟩ := T
  exact He.int_ok X G c
theorem Txt.t_SMALL (T : Txt w K mg) : ∃ t, mg "SMALL" = some (.str "abcdefghijklmnopqrstuvwxyz" t) := by
  have c := T.fact 73 (f := .str "SMALL" "abcdefghijklmnopqrstuvwxyz")
  obtain ⟨_, X, G, _⟩ := T
  exact He.str_ok X G c
theorem Txt.t_DIGITS (T : Txt w K mg) : ∃ t, mg "DIGITS" = some (.str "0123456789" t) := by
  have c := T.fact 74 (f := .str "DIGITS" "0123456789")
  obtain ⟨_, X, G, _⟩ := T
  exact He.str_ok X G c
theorem Txt.t_STEP (T : Txt w K mg) : ∃ t, mg "STEP" = some (.str "  " t) := by
  have c := T.fact 75 (f := .str "STEP" "  ")
  obtain ⟨_, X, G, _⟩ := T
  exact He.str_ok X G c
theorem Txt.cl (T : Txt w K mg) : Cls K (He.ga K "Lines") := He.cls_ok (T.fact 76 (f := .cls "Lines"))
theorem Txt.no_rows (T : Txt w K mg) : NoAttr K (He.ga K "Lines") "rows" := He.noat_ok (T.fact 77 (f := .noat "Lines" "rows"))
theorem Txt.no_at (T : Txt w K mg) : NoAttr K (He.ga K "Lines") "at" := He.noat_ok (T.fact 78 (f := .noat "Lines" "at"))
theorem Txt.mk (T : Txt w K mg) : Mk K (He.ga K "Lines") (He.ma K (He.ga K "Lines") "__init__") := He.mkr_ok (T.fact 79 (f := .mkr "Lines"))
theorem Txt.m_is_end (T : Txt w K mg) : Meth K (He.ga K "Lines") "is_end" (He.ma K (He.ga K "Lines") "is_end") := He.meth_ok (T.fact 80 (f := .meth "Lines" "is_end"))
theorem Txt.m_spaces (T : Txt w K mg) : Meth K (He.ga K "Lines") "spaces" (He.ma K (He.ga K "Lines") "spaces") := He.meth_ok (T.fact 81 (f := .meth "Lines" "spaces"))
theorem Txt.m_is_next (T : Txt w K mg) : Meth K (He.ga K "Lines") "is_next" (He.ma K (He.ga K "Lines") "is_next") := He.meth_ok (T.fact 82 (f := .meth "Lines" "is_next"))
theorem Txt.m_read_inner (T : Txt w K mg) : Meth K (He.ga K "Lines") "read_inner" (He.ma K (He.ga K "Lines") "read_inner") := He.meth_ok (T.fact 83 (f := .meth "Lines" "read_inner"))
theorem Txt.m_read_block (T : Txt w K mg) : Meth K (He.ga K "Lines") "read_block" (He.ma K (He.ga K "Lines") "read_block") := He.meth_ok (T.fact 84 (f := .meth "Lines" "read_block"))
theorem Txt.m_read_statement (T : Txt w K mg) : Meth K (He.ga K "Lines") "read_statement" (He.ma K (He.ga K "Lines") "read_statement") := He.meth_ok (T.fact 85 (f := .meth "Lines" "read_statement"))
theorem Txt.m_read_other (T : Txt w K mg) : Meth K (He.ga K "Lines") "read_other" (He.ma K (He.ga K "Lines") "read_other") := He.meth_ok (T.fact 86 (f := .meth "Lines" "read_other"))
theorem Txt.ex (T : Txt w K mg) : exB K = true := by
  obtain ⟨_, _, _, c⟩ := T
  exact c.more
theorem Txt.d_FORMS (T : Txt w K mg) : ∃ es n, KDict K w (He.ga K "FORMS") es n := by
  obtain ⟨_, _, _, c⟩ := T
  exact c.t.tab 0 (t := (fun K => He.ga K "FORMS", kvFORMS.map (·.1)))
theorem Txt.d_TEST_FORMS (T : Txt w K mg) : ∃ es n, KDict K w (He.ga K "TEST_FORMS") es n := by
  obtain ⟨_, _, _, c⟩ := T
  exact c.t.tab 1 (t := (fun K => He.ga K "TEST_FORMS", kvTEST_FORMS.map (·.1)))
theorem Txt.noNames (T : Txt w K mg) (H : Hp) : SqT K H (He.ga K "NO_NAMES") (noNames.map V.str) := by
  have h := (He.ba T.ex).1
  have q := He.tupB_ok h H
  rw [List.map_map] at q
  exact q
theorem Txt.v_FORMS (T : Txt w K mg) {k v : Str} (h : (k, v) ∈ kvFORMS) : ∃ u, PySem.W.nsIn K (He.ga K "FORMS") k = some (some u) ∧ RelV (.str v) u := by
  have q := He.valsB_ok (He.ba (He.ba T.ex).2).1 (q := (k, He.Dv.str v)) (List.mem_map.mpr ⟨(k, v), h, rfl⟩)
  exact q
theorem Txt.v_TEST_FORMS (T : Txt w K mg) {k v : Str} (h : (k, v) ∈ kvTEST_FORMS) : ∃ u, PySem.W.nsIn K (He.ga K "TEST_FORMS") k = some (some u) ∧ RelV (.str v) u := by
  have q := He.valsB_ok (He.ba (He.ba T.ex).2).2 (q := (k, He.Dv.str v)) (List.mem_map.mpr ⟨(k, v), h, rfl⟩)
  exact q
end
end K7
/-! the names by slot of each def (printed by gen_scopes.py) -/
namespace K7
open PySem L2
abbrev N_is_number : List Str := ["value", "low", "high"]
theorem sc_is_number : FnScope N_is_number ["value", "low", "high"] (defScope s_is_number) := ⟨rfl, rfl, rfl, by decide +kernel, rfl, by decide +kernel, by decide +kernel⟩
abbrev N_is_word : List Str := ["value", "sign"]
theorem sc_is_word : FnScope N_is_word ["value"] (defScope s_is_word) := ⟨rfl, rfl, rfl, by decide +kernel, rfl, by decide +kernel, by decide +kernel⟩
abbrev N_is_name : List Str := ["value"]
theorem sc_is_name : FnScope N_is_name ["value"] (defScope s_is_name) := ⟨rfl, rfl, rfl, by decide +kernel, rfl, by decide +kernel, by decide +kernel⟩
abbrev N_has_form : List Str := ["value", "givens", "is_inner", "form", "sort", "item"]
theorem sc_has_form : FnScope N_has_form ["value", "givens", "is_inner"] (defScope s_has_form) := ⟨rfl, rfl, rfl, by decide +kernel, rfl, by decide +kernel, by decide +kernel⟩
abbrev N_is_part : List Str := ["sort", "item", "givens"]
theorem sc_is_part : FnScope N_is_part ["sort", "item", "givens"] (defScope s_is_part) := ⟨rfl, rfl, rfl, by decide +kernel, rfl, by decide +kernel, by decide +kernel⟩
abbrev N_is_test : List Str := ["value", "givens", "k"]
theorem sc_is_test : FnScope N_is_test ["value", "givens"] (defScope s_is_test) := ⟨rfl, rfl, rfl, by decide +kernel, rfl, by decide +kernel, by decide +kernel⟩
abbrev N_inner_blocks : List Str := ["statement"]
theorem sc_inner_blocks : FnScope N_inner_blocks ["statement"] (defScope s_inner_blocks) := ⟨rfl, rfl, rfl, by decide +kernel, rfl, by decide +kernel, by decide +kernel⟩
abbrev N_listed : List Str := ["block", "depth", "found", "statement", "inner"]
theorem sc_listed : FnScope N_listed ["block", "depth"] (defScope s_listed) := ⟨rfl, rfl, rfl, by decide +kernel, rfl, by decide +kernel, by decide +kernel⟩
abbrev N_first_error : List Str := ["block", "givens", "found", "depth", "statement", "inner", "error"]
theorem sc_first_error : FnScope N_first_error ["block", "givens", "found", "depth"] (defScope s_first_error) := ⟨rfl, rfl, rfl, by decide +kernel, rfl, by decide +kernel, by decide +kernel⟩
abbrev N_weight_of : List Str := ["block", "total", "statement", "inner", "inside"]
theorem sc_weight_of : FnScope N_weight_of ["block"] (defScope s_weight_of) := ⟨rfl, rfl, rfl, by decide +kernel, rfl, by decide +kernel, by decide +kernel⟩
abbrev N_program_error : List Str := ["value", "found", "error"]
theorem sc_program_error : FnScope N_program_error ["value"] (defScope s_program_error) := ⟨rfl, rfl, rfl, by decide +kernel, rfl, by decide +kernel, by decide +kernel⟩
abbrev N_statements_of : List Str := ["program", "depth", "statement"]
theorem sc_statements_of : FnScope N_statements_of ["program"] (defScope s_statements_of) := ⟨rfl, rfl, rfl, by decide +kernel, rfl, by decide +kernel, by decide +kernel⟩
abbrev N_wishes_of : List Str := ["program", "statement"]
theorem sc_wishes_of : FnScope N_wishes_of ["program"] (defScope s_wishes_of) := ⟨rfl, rfl, rfl, by decide +kernel, rfl, by decide +kernel, by decide +kernel⟩
abbrev N_test_text : List Str := ["test", "nots"]
theorem sc_test_text : FnScope N_test_text ["test"] (defScope s_test_text) := ⟨rfl, rfl, rfl, by decide +kernel, rfl, by decide +kernel, by decide +kernel⟩
abbrev N_statement_text : List Str := ["statement", "word", "sign"]
theorem sc_statement_text : FnScope N_statement_text ["statement"] (defScope s_statement_text) := ⟨rfl, rfl, rfl, by decide +kernel, rfl, by decide +kernel, by decide +kernel⟩
abbrev N_block_lines : List Str := ["block", "ahead", "lines", "statement", "blocks"]
theorem sc_block_lines : FnScope N_block_lines ["block", "ahead"] (defScope s_block_lines) := ⟨rfl, rfl, rfl, by decide +kernel, rfl, by decide +kernel, by decide +kernel⟩
abbrev N_program_text : List Str := ["program"]
theorem sc_program_text : FnScope N_program_text ["program"] (defScope s_program_text) := ⟨rfl, rfl, rfl, by decide +kernel, rfl, by decide +kernel, by decide +kernel⟩
abbrev N_whole_of : List Str := ["text", "most", "digits", "sign"]
theorem sc_whole_of : FnScope N_whole_of ["text", "most"] (defScope s_whole_of) := ⟨rfl, rfl, rfl, by decide +kernel, rfl, by decide +kernel, by decide +kernel⟩
abbrev N_spot_of : List Str := ["text", "parts", "part"]
theorem sc_spot_of : FnScope N_spot_of ["text"] (defScope s_spot_of) := ⟨rfl, rfl, rfl, by decide +kernel, rfl, by decide +kernel, by decide +kernel⟩
abbrev N_test_of : List Str := ["words", "nots", "test", "turn"]
theorem sc_test_of : FnScope N_test_of ["words"] (defScope s_test_of) := ⟨rfl, rfl, rfl, by decide +kernel, rfl, by decide +kernel, by decide +kernel⟩
abbrev N_plain_test : List Str := ["words", "kind", "word", "number", "spot", "is_right"]
theorem sc_plain_test : FnScope N_plain_test ["words"] (defScope s_plain_test) := ⟨rfl, rfl, rfl, by decide +kernel, rfl, by decide +kernel, by decide +kernel⟩
abbrev N_filled_of : List Str := ["left", "sign", "right", "spot", "other"]
theorem sc_filled_of : FnScope N_filled_of ["left", "sign", "right"] (defScope s_filled_of) := ⟨rfl, rfl, rfl, by decide +kernel, rfl, by decide +kernel, by decide +kernel⟩
abbrev N_statement_of : List Str := ["text", "words", "kind", "rest", "test", "spot"]
theorem sc_statement_of : FnScope N_statement_of ["text"] (defScope s_statement_of) := ⟨rfl, rfl, rfl, by decide +kernel, rfl, by decide +kernel, by decide +kernel⟩
abbrev N_head_of : List Str := ["text", "words", "test", "times"]
theorem sc_head_of : FnScope N_head_of ["text"] (defScope s_head_of) := ⟨rfl, rfl, rfl, by decide +kernel, rfl, by decide +kernel, by decide +kernel⟩
abbrev N_L___init__ : List Str := ["self", "rows"]
theorem sc_L___init__ : FnScope N_L___init__ ["self", "rows"] (defScope s_L___init__) := ⟨rfl, rfl, rfl, by decide +kernel, rfl, by decide +kernel, by decide +kernel⟩
abbrev N_L_is_end : List Str := ["self"]
theorem sc_L_is_end : FnScope N_L_is_end ["self"] (defScope s_L_is_end) := ⟨rfl, rfl, rfl, by decide +kernel, rfl, by decide +kernel, by decide +kernel⟩
abbrev N_L_spaces : List Str := ["self", "row"]
theorem sc_L_spaces : FnScope N_L_spaces ["self"] (defScope s_L_spaces) := ⟨rfl, rfl, rfl, by decide +kernel, rfl, by decide +kernel, by decide +kernel⟩
abbrev N_L_is_next : List Str := ["self", "depth", "word"]
theorem sc_L_is_next : FnScope N_L_is_next ["self", "depth", "word"] (defScope s_L_is_next) := ⟨rfl, rfl, rfl, by decide +kernel, rfl, by decide +kernel, by decide +kernel⟩
abbrev N_L_read_inner : List Str := ["self", "depth", "can_pass"]
theorem sc_L_read_inner : FnScope N_L_read_inner ["self", "depth", "can_pass"] (defScope s_L_read_inner) := ⟨rfl, rfl, rfl, by decide +kernel, rfl, by decide +kernel, by decide +kernel⟩
abbrev N_L_read_block : List Str := ["self", "depth", "found"]
theorem sc_L_read_block : FnScope N_L_read_block ["self", "depth"] (defScope s_L_read_block) := ⟨rfl, rfl, rfl, by decide +kernel, rfl, by decide +kernel, by decide +kernel⟩
abbrev N_L_read_statement : List Str := ["self", "depth", "text", "plain", "head", "blocks"]
theorem sc_L_read_statement : FnScope N_L_read_statement ["self", "depth"] (defScope s_L_read_statement) := ⟨rfl, rfl, rfl, by decide +kernel, rfl, by decide +kernel, by decide +kernel⟩
abbrev N_L_read_other : List Str := ["self", "depth"]
theorem sc_L_read_other : FnScope N_L_read_other ["self", "depth"] (defScope s_L_read_other) := ⟨rfl, rfl, rfl, by decide +kernel, rfl, by decide +kernel, by decide +kernel⟩
abbrev N_givens_of : List Str := ["row", "words", "number"]
theorem sc_givens_of : FnScope N_givens_of ["row"] (defScope s_givens_of) := ⟨rfl, rfl, rfl, by decide +kernel, rfl, by decide +kernel, by decide +kernel⟩
abbrev N_parse_program : List Str := ["value", "lines", "givens", "program", "error"]
theorem sc_parse_program : FnScope N_parse_program ["value"] (defScope s_parse_program) := ⟨rfl, rfl, rfl, by decide +kernel, rfl, by decide +kernel, by decide +kernel⟩
abbrev N__law_deck : List Str := ["_law_script", "_law_cell"]
theorem sc__law_deck : FnScope N__law_deck ["_law_script"] (defScope s__law_deck) := ⟨rfl, rfl, rfl, by decide +kernel, rfl, by decide +kernel, by decide +kernel⟩
abbrev N__law_draw : List Str := ["_law_deck_here", "_law_many", "_law_cell", "_law_at", "_law_mixed"]
theorem sc__law_draw : FnScope N__law_draw ["_law_deck_here", "_law_many"] (defScope s__law_draw) := ⟨rfl, rfl, rfl, by decide +kernel, rfl, by decide +kernel, by decide +kernel⟩
abbrev N__law_one : List Str := ["_law_deck_here", "_law_items"]
theorem sc__law_one : FnScope N__law_one ["_law_deck_here", "_law_items"] (defScope s__law_one) := ⟨rfl, rfl, rfl, by decide +kernel, rfl, by decide +kernel, by decide +kernel⟩
abbrev N__law_kept : List Str := ["_law_words"]
theorem sc__law_kept : FnScope N__law_kept [] (defScope s__law_kept) := ⟨rfl, rfl, rfl, by decide +kernel, rfl, by decide +kernel, by decide +kernel⟩
abbrev N__law_name : List Str := ["_law_deck_here", "_law_letters", "_law_name_here", "_law_k"]
theorem sc__law_name : FnScope N__law_name ["_law_deck_here"] (defScope s__law_name) := ⟨rfl, rfl, rfl, by decide +kernel, rfl, by decide +kernel, by decide +kernel⟩
abbrev N__law_word : List Str := ["_law_deck_here", "_law_signs", "_law_k"]
theorem sc__law_word : FnScope N__law_word ["_law_deck_here"] (defScope s__law_word) := ⟨rfl, rfl, rfl, by decide +kernel, rfl, by decide +kernel, by decide +kernel⟩
abbrev N__law_pool : List Str := ["_law_deck_here", "_law_k", "_law_names"]
theorem sc__law_pool : FnScope N__law_pool ["_law_deck_here"] (defScope s__law_pool) := ⟨rfl, rfl, rfl, by decide +kernel, rfl, by decide +kernel, by decide +kernel⟩
abbrev N__law_any_test : List Str := ["_law_deck_here", "_law_pool_here", "_law_x", "_law_y", "_law_word_here", "_law_some", "_law_test", "_law_k"]
theorem sc__law_any_test : FnScope N__law_any_test ["_law_deck_here", "_law_pool_here"] (defScope s__law_any_test) := ⟨rfl, rfl, rfl, by decide +kernel, rfl, by decide +kernel, by decide +kernel⟩
abbrev N__law_row : List Str := ["_law_deck_here", "_law_pool_here", "_law_x", "_law_y", "_law_z", "_law_f", "_law_word_here", "_law_some"]
theorem sc__law_row : FnScope N__law_row ["_law_deck_here", "_law_pool_here"] (defScope s__law_row) := ⟨rfl, rfl, rfl, by decide +kernel, rfl, by decide +kernel, by decide +kernel⟩
abbrev N__law_rows : List Str := ["_law_deck_here", "_law_pool_here", "_law_left", "_law_depth", "_law_times", "_law_rows_here", "_law_k", "_law_way", "_law_count", "_law_test", "_law_yes"]
theorem sc__law_rows : FnScope N__law_rows ["_law_deck_here", "_law_pool_here", "_law_left", "_law_depth", "_law_times"] (defScope s__law_rows) := ⟨rfl, rfl, rfl, by decide +kernel, rfl, by decide +kernel, by decide +kernel⟩
abbrev N__law_inner : List Str := ["_law_deck_here", "_law_pool_here", "_law_left", "_law_depth", "_law_times"]
theorem sc__law_inner : FnScope N__law_inner ["_law_deck_here", "_law_pool_here", "_law_left", "_law_depth", "_law_times"] (defScope s__law_inner) := ⟨rfl, rfl, rfl, by decide +kernel, rfl, by decide +kernel, by decide +kernel⟩
abbrev N__law_free : List Str := ["_law_deck_here", "_law_most", "_law_pool_here"]
theorem sc__law_free : FnScope N__law_free ["_law_deck_here", "_law_most"] (defScope s__law_free) := ⟨rfl, rfl, rfl, by decide +kernel, rfl, by decide +kernel, by decide +kernel⟩
abbrev N__law_blocks : List Str := ["_law_row_here", "_law_has_blocks", "_law_part"]
theorem sc__law_blocks : FnScope N__law_blocks ["_law_row_here"] (defScope s__law_blocks) := ⟨rfl, rfl, rfl, by decide +kernel, rfl, by decide +kernel, by decide +kernel⟩
abbrev N__law_flat : List Str := ["_law_block", "_law_depth", "_law_found", "_law_row_here", "_law_inner_here"]
theorem sc__law_flat : FnScope N__law_flat ["_law_block", "_law_depth"] (defScope s__law_flat) := ⟨rfl, rfl, rfl, by decide +kernel, rfl, by decide +kernel, by decide +kernel⟩
abbrev N__law_put : List Str := ["_law_block", "_law_place", "_law_row_here", "_law_rows_here", "_law_one_here", "_law_count", "_law_inner_here", "_law_at", "_law_part"]
theorem sc__law_put : FnScope N__law_put ["_law_block", "_law_place", "_law_row_here"] (defScope s__law_put) := ⟨rfl, rfl, rfl, by decide +kernel, rfl, by decide +kernel, by decide +kernel⟩
abbrev N_law : List Str := ["_law_script", "_law_deck_here", "_law_turn", "_law_program", "_law_pool_here", "_law_text", "_law_back", "_law_count", "_law_other", "_law_told", "_law_depth", "_law_row_here", "_law_givens"]
theorem sc_law : FnScope N_law ["_law_script"] (defScope s_law) := ⟨rfl, rfl, rfl, by decide +kernel, rfl, by decide +kernel, by decide +kernel⟩
end K7
set_option maxHeartbeats 4000000
/-! what a def keeps, by its name; calls by name -/
namespace K7
open PySem PySem.Spec PyProof.Rows L2
section
variable {P : Program} {w : World} {K : PySem.W.Frag} {mg : Str → Option Value} {base : Heap}
/-- the def at the module's name x keeps the promise sp, by k levels -/
structure FOk (P : Program) (w : World) (K : PySem.W.Frag) (mg : Str → Option Value) (base : Heap) (k : Nat) (x : Str) (sp : Sp) : Prop where
  fn : ∃ fd ps, FnOk P w K mg base CX0 k (He.ga K x) fd ps sp ∧ Binds K fd ps []
  gl : mg x = some (.ref (He.ga K x))
  kp : PySem.W.keepIn K (.ref (He.ga K x)) = true
/-- .. a method of Lines -/
structure MOk (P : Program) (w : World) (K : PySem.W.Frag) (mg : Str → Option Value) (base : Heap) (k : Nat) (x : Str) (sp : Sp) : Prop where
  fn : ∃ fd ps, FnOk P w K mg base CX0 k (He.ma K (He.ga K "Lines") x) fd ps sp ∧ Binds K fd ps []
abbrev Bod (P : Program) (w : World) (K : PySem.W.Frag) (mg : Str → Option Value) (base : Heap) (k : Nat) (f : Addr) (qual : Str) (scope : Scope) (N : List Str) (body : List Stmt) (sp : Sp) : Prop :=
  ∀ (cdv : Value) (A : Around) (outer : List Env) (s : Shared) (H : Hp) (vs : List V) (Q : VK) (E : XK), Room k (A.deeper (envOfC qual scope s.heap.objs.size f cdv)) → sp vs H Q E →
      ∃ t, PSs (cxOf CX0 P w K mg base N qual scope f cdv A outer s H E).nox body t ∧ t { nx := fun _ H' => Q .non H', rt := Q } (start N vs) H
theorem fok {x : Str} {args : Arguments} {body : List Stmt} {scope : Scope} {N ps : List Str} {k : Nat} {sp : Sp} (F : ∃ fd, FunD K x x args body scope [] [] (He.ga K x) fd) (g : mg x = some (.ref (He.ga K x))) (S : FnScope N ps scope)
    (hb : ∀ (kV doc pm : Value) (an : Option Addr) (cdv ct : Value) (us : List Value), us.length = ps.length → bindArgs (PySem.W.fnOf x x args body scope .none kV doc pm an cdv ct) ⟨us, []⟩ = pure (ps.zip us))
    (len : ∀ vs H Q E, sp vs H Q E → vs.length = ps.length) (hbody : Bod P w K mg base k (He.ga K x) x scope N body sp) : FOk P w K mg base (k + 1) x sp := by
  obtain ⟨fd, F⟩ := F
  refine ⟨⟨fd, ps, F.ok S len fun cdv A outer s H vs Q E hr h => ?_, F.bindsN hb⟩, g, F.kp⟩
  obtain ⟨t, h1, h2⟩ := hbody cdv A outer s H vs Q E hr h
  exact ⟨t, h1.nox, h2⟩
theorem mok {x q : Str} {args : Arguments} {body : List Stmt} {scope : Scope} {N ps : List Str} {k : Nat} {sp : Sp} (F : ∃ fd, FunD K x q args body scope [] [] (He.ma K (He.ga K "Lines") x) fd) (S : FnScope N ps scope)
    (hb : ∀ (kV doc pm : Value) (an : Option Addr) (cdv ct : Value) (us : List Value), us.length = ps.length → bindArgs (PySem.W.fnOf x q args body scope .none kV doc pm an cdv ct) ⟨us, []⟩ = pure (ps.zip us))
    (len : ∀ vs H Q E, sp vs H Q E → vs.length = ps.length) (hbody : Bod P w K mg base k (He.ma K (He.ga K "Lines") x) q scope N body sp) : MOk P w K mg base (k + 1) x sp := by
  obtain ⟨fd, F⟩ := F
  refine ⟨⟨fd, ps, F.ok S len fun cdv A outer s H vs Q E hr h => ?_, F.bindsN hb⟩⟩
  obtain ⟨t, h1, h2⟩ := hbody cdv A outer s H vs Q E hr h
  exact ⟨t, h1.nox, h2⟩
/-- with no level nothing may be asked -/
theorem fok_none {x : Str} {args : Arguments} {body : List Stmt} {scope : Scope} {ps : List Str} {sp : Sp} (F : ∃ fd, FunD K x x args body scope [] [] (He.ga K x) fd) (g : mg x = some (.ref (He.ga K x)))
    (hb : ∀ (kV doc pm : Value) (an : Option Addr) (cdv ct : Value) (us : List Value), us.length = ps.length → bindArgs (PySem.W.fnOf x x args body scope .none kV doc pm an cdv ct) ⟨us, []⟩ = pure (ps.zip us))
    (no : ∀ vs H Q E, ¬ sp vs H Q E) (k : Nat) : FOk P w K mg base k x sp := by
  obtain ⟨fd, F⟩ := F
  exact ⟨⟨fd, ps, ⟨fun vs H Q E h => absurd h (no vs H Q E), fun A outer s H args us vs Q E _ _ _ _ h => absurd h (no vs H Q E)⟩, F.bindsN hb⟩, g, F.kp⟩
theorem mok_none {x q : Str} {args : Arguments} {body : List Stmt} {scope : Scope} {ps : List Str} {sp : Sp} (F : ∃ fd, FunD K x q args body scope [] [] (He.ma K (He.ga K "Lines") x) fd)
    (hb : ∀ (kV doc pm : Value) (an : Option Addr) (cdv ct : Value) (us : List Value), us.length = ps.length → bindArgs (PySem.W.fnOf x q args body scope .none kV doc pm an cdv ct) ⟨us, []⟩ = pure (ps.zip us))
    (no : ∀ vs H Q E, ¬ sp vs H Q E) (k : Nat) : MOk P w K mg base k x sp := by
  obtain ⟨fd, F⟩ := F
  exact ⟨⟨fd, ps, ⟨fun vs H Q E h => absurd h (no vs H Q E), fun A outer s H args us vs Q E _ _ _ _ h => absurd h (no vs H Q E)⟩, F.bindsN hb⟩⟩
theorem FOk.mono {j k : Nat} {x : Str} {sp : Sp} (F : FOk P w K mg base j x sp) (h : j ≤ k) : FOk P w K mg base k x sp := by
  obtain ⟨⟨fd, ps, h1, h2⟩, h3, h4⟩ := F
  exact ⟨⟨fd, ps, h1.mono h, h2⟩, h3, h4⟩
theorem FOk.imp {k : Nat} {x : Str} {sp sp' : Sp} (F : FOk P w K mg base k x sp) (h : ∀ vs H Q E, sp' vs H Q E → sp vs H Q E) : FOk P w K mg base k x sp' := by
  obtain ⟨⟨fd, ps, h1, h2⟩, h3, h4⟩ := F
  exact ⟨⟨fd, ps, h1.imp h, h2⟩, h3, h4⟩
theorem MOk.mono {j k : Nat} {x : Str} {sp : Sp} (F : MOk P w K mg base j x sp) (h : j ≤ k) : MOk P w K mg base k x sp := by
  obtain ⟨⟨fd, ps, h1, h2⟩⟩ := F
  exact ⟨⟨fd, ps, h1.mono h, h2⟩⟩
theorem MOk.imp {k : Nat} {x : Str} {sp sp' : Sp} (F : MOk P w K mg base k x sp) (h : ∀ vs H Q E, sp' vs H Q E → sp vs H Q E) : MOk P w K mg base k x sp' := by
  obtain ⟨⟨fd, ps, h1, h2⟩⟩ := F
  exact ⟨⟨fd, ps, h1.imp h, h2⟩⟩
end
/-! ### calls by name -/
section
variable {X : Cx} {k : Nat} {x : Str} {sp : Sp} {p pos apos : Pos} {e o : Expr} {es : List Expr} {ta : TE} {t : TA}
theorem pe_f (F : FOk X.prog X.w X.K X.mg X.base k x sp) (hr : Room k X.A) (ha : PA X (e :: es) t) (hg : Gl X x := by rfl) (hdb : (x == ("__debug__" : Str)) = false := by decide)
    (he : starEach (e :: es) X.env = (false, eval e X.env) :: starEach es X.env := by rfl) (hpl : (backTo pos (starEach es X.env)).any (·.1) = false := by rfl) :
    PE X (.Call (.Name x p) (e :: es) [] pos) (tCall sp [] E0 t) := by
  obtain ⟨⟨fd, ps, h1, h2⟩, h3, h4⟩ := F
  exact pe_call h1 hr hg h3 h4 h2 .nil pass0 ha hdb he hpl
theorem pe_f0 (F : FOk X.prog X.w X.K X.mg X.base k x sp) (hr : Room k X.A) (hg : Gl X x := by rfl) (hdb : (x == ("__debug__" : Str)) = false := by decide) : PE X (.Call (.Name x p) [] [] pos) (tCall sp [] E0 tNil) := by
  obtain ⟨⟨fd, ps, h1, h2⟩, h3, h4⟩ := F
  exact pe_call0 h1 hr hg h3 h4 h2 .nil pass0 hdb
theorem pe_m {pl : Sem Bool} (F : MOk X.prog X.w X.K X.mg X.base k x sp) (c : Cls X.K (He.ga X.K "Lines")) (hm : Meth X.K (He.ga X.K "Lines") x (He.ma X.K (He.ga X.K "Lines") x)) (hr : Room k X.A) (he : PE X o ta) (ha : PA X (e :: es) t)
    (hst : starEach (e :: es) X.env = (false, eval e X.env) :: starEach es X.env := by rfl) (hpl : (backTo pos (starEach es X.env)).any (·.1) = false := by rfl)
    (ht : eval (.Call (.Attribute o x apos) (e :: es) [] pos) X.env = (do
      let ov ← eval o X.env
      standAt apos.atName
      let (f, first) ← holding [ov] (getMethod ov x pl)
      callWith pos f first (backTo pos (starEach (e :: es) X.env)) (backToKw pos (keywordEach [] X.env))) := by rfl) :
    PE X (.Call (.Attribute o x apos) (e :: es) [] pos) (tMeth (He.ga X.K "Lines") x sp [] E0 ta t) := by
  obtain ⟨⟨fd, ps, h1, h2⟩⟩ := F
  exact pe_meth he c hm h1 hr h2 .nil pass0 ha hst hpl ht
theorem pe_m0 {pl : Sem Bool} (F : MOk X.prog X.w X.K X.mg X.base k x sp) (c : Cls X.K (He.ga X.K "Lines")) (hm : Meth X.K (He.ga X.K "Lines") x (He.ma X.K (He.ga X.K "Lines") x)) (hr : Room k X.A) (he : PE X o ta)
    (ht : eval (.Call (.Attribute o x apos) [] [] pos) X.env = (do
      let ov ← eval o X.env
      standAt apos.atName
      let (f, first) ← holding [ov] (getMethod ov x pl)
      callWith pos f first (backTo pos (starEach [] X.env)) (backToKw pos (keywordEach [] X.env))) := by rfl) :
    PE X (.Call (.Attribute o x apos) [] [] pos) (tMeth (He.ga X.K "Lines") x sp [] E0 ta tNil) := by
  obtain ⟨⟨fd, ps, h1, h2⟩⟩ := F
  exact pe_meth0 he c hm h1 hr h2 .nil pass0 ht
end
/-! ### data in the heap -/
/-- what stands, but at the addresses of L -/
def Fr (L : List Addr) (H H' : Hp) : Prop := ∀ b o, b ∉ L → H b = some o → H' b = some o
theorem Fr.refl (L : List Addr) (H : Hp) : Fr L H H := fun _ _ _ h => h
theorem Fr.trans {L : List Addr} {H H1 H2 : Hp} (a : Fr L H H1) (b : Fr L H1 H2) : Fr L H H2 := fun c o n h => b c o n (a c o n h)
theorem _root_.L2.Same.fr {H H' : Hp} (h : Same H H') (L : List Addr) : Fr L H H' := fun b o _ e => h b o e
theorem Fr.same {H H' : Hp} (h : Fr [] H H') : Same H H' := fun b o e => h b o (by simp) e
theorem same_new {H : Hp} {p : Addr} (h : H p = none) (o : HO) : Same H (upd H p o) := fun b u q => by rw [upd_ne (ne_of_none q h)]; exact q
theorem same_lst {H : Hp} {p : Addr} {H1 : Hp} (h : H p = none) (s : Same H H1) (o : HO) : Same H (upd H1 p o) := fun b u q => by rw [upd_ne (ne_of_none q h)]; exact s b u q
theorem _root_.L2.Same.tup {K : PySem.W.Frag} {H H' : Hp} {a : Addr} {xs : List V} (e : Same H H') (h : SqT K H a xs) : SqT K H' a xs := by
  rcases h with (h | ⟨o, h⟩) | h
  · exact .inl (.inl (e _ _ h))
  · exact .inl (.inr ⟨o, e _ _ h⟩)
  · exact .inr h
mutual
theorem same_dp {K : PySem.W.Frag} {H H' : Hp} (e : Same H H') : ∀ {d : PyData} {v : V}, Dp K H v d → Dp K H' v d
  | _, _, .non => .non
  | _, _, .bl b => .bl b
  | _, _, .int i => .int i
  | _, _, .str x => .str x
  | _, _, .lst h a => .lst (e.seq h) (same_dpAll e a)
  | _, _, .tup h a => .tup (e.tup h) (same_dpAll e a)
theorem same_dpAll {K : PySem.W.Frag} {H H' : Hp} (e : Same H H') : ∀ {ds : List PyData} {vs : List V}, DpAll K H vs ds → DpAll K H' vs ds
  | _, _, .nil => .nil
  | _, _, .cons h a => .cons (same_dp e h) (same_dpAll e a)
end
theorem dpAll_get {K : PySem.W.Frag} {H : Hp} : ∀ {ds : List PyData} {vs : List V} {i : Nat} {v : V}, DpAll K H vs ds → vs[i]? = some v → ∃ d, ds[i]? = some d ∧ Dp K H v d
  | _, _, _, _, .nil, h => by simp at h
  | _, _, 0, _, .cons h _, e => by
    simp at e
    subst e
    exact ⟨_, rfl, h⟩
  | _, _, i + 1, v, .cons _ a, e => by
    obtain ⟨d, h1, h2⟩ := dpAll_get (i := i) (v := v) a (by simpa using e)
    exact ⟨d, by simpa using h1, h2⟩
theorem dpAll_len {K : PySem.W.Frag} {H : Hp} : ∀ {ds : List PyData} {vs : List V}, DpAll K H vs ds → vs.length = ds.length
  | _, _, .nil => rfl
  | _, _, .cons _ a => congrArg Nat.succ (dpAll_len a)
theorem dp_tup {K : PySem.W.Frag} {H : Hp} {v : V} {ds : List PyData} (h : Dp K H v (.tuple ds)) : ∃ a xs, v = .ref a ∧ SqT K H a xs ∧ DpAll K H xs ds := by
  cases h with
  | tup a b => exact ⟨_, _, rfl, a, b⟩
theorem dp_str {K : PySem.W.Frag} {H : Hp} {v : V} {x : Str} (h : Dp K H v (.str x)) : v = .str x := by
  cases h
  rfl
theorem dp_int {K : PySem.W.Frag} {H : Hp} {v : V} {i : Int} (h : Dp K H v (.int i)) : v = .int i := by
  cases h
  rfl
theorem dpAll_cons {K : PySem.W.Frag} {H : Hp} {vs : List V} {d : PyData} {ds : List PyData} (h : DpAll K H vs (d :: ds)) : ∃ v r, vs = v :: r ∧ Dp K H v d ∧ DpAll K H r ds := by
  cases h with
  | cons a b => exact ⟨_, _, rfl, a, b⟩
theorem dpAll_nil {K : PySem.W.Frag} {H : Hp} {vs : List V} (h : DpAll K H vs []) : vs = [] := by
  cases h
  rfl
end K7
set_option maxHeartbeats 4000000
/-! readings: what an expression comes to, told by a predicate; isinstance, constants of the module -/
namespace K7
open PySem PySem.Spec PyProof.Rows L2 Evl
/-- some value of which R holds, the heap only grown -/
def EvP (te : TE) (σ : L2.St) (H : Hp) (R : V → Hp → Prop) : Prop := ∀ H1, Ex H H1 → ∀ Q : VK, (∀ v H2, Ex H1 H2 → R v H2 → Q v H2) → te σ H1 Q
def SpP (sp : Sp) (vs : List V) (H : Hp) (R : V → Hp → Prop) : Prop := ∀ H1, Ex H H1 → ∀ Q : VK, (∀ v H2, Ex H1 H2 → R v H2 → Q v H2) → ∀ E : XK, sp vs H1 Q E
/-- the promises' third shape -/
def RetP (R : V → Hp → Prop) (H : Hp) (Q : VK) : Prop := ∀ v H2, Ex H H2 → R v H2 → Q v H2
section
variable {K : PySem.W.Frag} {σ : L2.St} {H H' : Hp} {ta tb te tx : TE} {t u : TT} {x y z v : V} {r : R2} {R R' : V → Hp → Prop} {D : Ends} {tu tw tz : TS} {g : TG}
theorem EvP.mono (e : Ex H H') (h : EvP te σ H R) : EvP te σ H' R := fun H1 a Q q => h H1 (e.trans a) Q q
theorem ep_of (h : Ev te σ H v) : EvP te σ H (fun x _ => x = v) := fun H1 e Q q => h H1 e Q fun H2 e2 => q v H2 e2 rfl
theorem ep_call {sp : Sp} {dvs vs : List V} {E : XK} {ta : TA} (h : EvA ta σ H vs) (hs : SpP sp (vs ++ dvs) H R) : EvP (tCall sp dvs E ta) σ H R := fun H1 e Q q =>
  h H1 e _ fun H2 e2 => hs H2 (e.trans e2) Q (fun v H3 e3 hr => q v H3 (e2.trans e3) hr) E
theorem ep_if {b : Bool} (h : EvT t σ H b) (h1 : b = true → EvP ta σ H R) (h2 : b = false → EvP tb σ H R) : EvP (tIf t ta tb) σ H R := fun H1 e Q q => h H1 e _ fun H2 e2 => by
  cases b with
  | true =>
    show ta σ H2 Q
    exact h1 rfl H2 (e.trans e2) Q fun v H3 e3 => q v H3 (e2.trans e3)
  | false =>
    show tb σ H2 Q
    exact h2 rfl H2 (e.trans e2) Q fun v H3 e3 => q v H3 (e2.trans e3)
theorem ep_imp (h : EvP te σ H R) (hi : ∀ v H1, Ex H H1 → R v H1 → R' v H1) : EvP te σ H R' := fun H1 e Q q => h H1 e Q fun v H2 e2 hr => q v H2 e2 (hi v H2 (e.trans e2) hr)
theorem s_asgP {i : Nat} (h : EvP te σ H R) (k : ∀ v H1, Ex H H1 → R v H1 → D.nx (σ.set i (some v)) H1) : tAsg te (gName i) D σ H := h H (Ex.refl H) _ fun v H1 e hr => k v H1 e hr
theorem q_asgP {i : Nat} (h : EvP te σ H R) (k : ∀ v H1, Ex H H1 → R v H1 → tz D (σ.set i (some v)) H1) : tSeq (tAsg te (gName i)) tz D σ H := s_asgP (D := { D with nx := tz D }) h k
theorem s_retP (h : EvP te σ H R) (k : ∀ v H1, Ex H H1 → R v H1 → D.rt v H1) : tRet te D σ H := h H (Ex.refl H) _ k
theorem RetP.go {Q : VK} (k : RetP R H Q) (e : Ex H H') {v : V} (h : R v H') : Q v H' := k v H' e h
theorem retV_P {Q : VK} (k : RetV v H Q) : RetP (fun x _ => x = v) H Q := fun x H2 e h => by
  rw [h]
  exact k H2 e
theorem RetV.ext {Q : VK} (k : RetV v H Q) (e : Ex H H') : RetV v H' Q := fun H2 e2 => k H2 (e.trans e2)
theorem RetP.ext {Q : VK} (k : RetP R H Q) (e : Ex H H') : RetP R H' Q := fun v H2 e2 h => k v H2 (e.trans e2) h
/-- a new tuple -/
theorem ep_tup {ta : TA} {vs : List V} (h : EvA ta σ H vs) (hl : vs.length ≤ 100000) : EvP (tTup ta) σ H (fun x H2 => ∃ p, x = .ref p ∧ H2 p = some (.tup vs)) := fun H1 e Q q =>
  eu_tup h hl H1 e Q fun p H2 _ e2 hp => q _ H2 e2 ⟨p, rfl, hp⟩
end
/-! ### isinstance -/
def rIsiB (K : PySem.W.Frag) : List V → Hp → VK → Prop := fun xs H Q => ∃ (x : V) (n t : String) (b : Bool), xs = [x, .ty n] ∧ TyX K H x (.type t) ∧ kitB t n = some b ∧ Q (.bl b) H
theorem call_isiB {X : Cx} : CallR X (.builtin "isinstance") (rIsiB X.K) := by
  intro pins s σ H xs us Q I r h
  obtain ⟨x, n, t, b, rfl, h1, h2, q⟩ := h
  exact call_isi pins s σ H _ us Q I r ⟨x, .ty n, .type t, .type n, b, rfl, .ty n, h1, kit_ty h2, q⟩
theorem pe_isi {X : Cx} {e : Expr} {te : TE} {y : Str} {n : String} {p q pos : Pos} (hm : X.mg "isinstance" = none) (hy : X.mg y = none) (hb : bootBuiltins y = some (.type n)) (he : PE X e te) (hg : Gl X "isinstance" := by rfl) (hgy : Gl X y := by rfl)
    (hn : y ≠ "__name__" := by decide +kernel) (hdb : (y == ("__debug__" : Str)) = false := by decide +kernel) (hs : starEach [e, .Name y q] X.env = (false, eval e X.env) :: starEach [.Name y q] X.env := by rfl) (hs2 : starEach [.Name y q] X.env = (false, eval (.Name y q) X.env) :: starEach [] X.env := by rfl)
    (hpl : (backTo pos (starEach [.Name y q] X.env)).any (·.1) = false := by rfl) : PE X (.Call (.Name "isinstance" p) [e, .Name y q] [] pos) (tCB (rIsiB X.K) (tCons te (tCons (tC (.ty n)) tNil))) :=
  pe_callB call_isiB hg hm (by decide +kernel) (pa_cons he (pa_cons (pe_bltn (v := .ty n) hgy hy hb rfl hn hdb) pa_nil hs2) hs) (he := hs) (hpl := hpl)
section
variable {X : Cx} {w : World} {e : Expr} {te : TE} {p q pos : Pos}
theorem boot_intT : bootBuiltins ("int" : Str) = some (.type "int") := by decide +kernel
theorem boot_strT : bootBuiltins ("str" : Str) = some (.type "str") := by decide +kernel
theorem boot_boolT : bootBuiltins ("bool" : Str) = some (.type "bool") := by decide +kernel
theorem boot_tupleT : bootBuiltins ("tuple" : Str) = some (.type "tuple") := by decide +kernel
end
theorem kit_ii : kitB "int" "int" = some true := by decide +kernel
theorem kit_ib : kitB "int" "bool" = some false := by decide +kernel
theorem kit_ss : kitB "str" "str" = some true := by decide +kernel
theorem kit_tt : kitB "tuple" "tuple" = some true := by decide +kernel
theorem kit_st : kitB "str" "tuple" = some false := by decide +kernel
theorem kit_it : kitB "int" "tuple" = some false := by decide +kernel
section
variable {K : PySem.W.Frag} {σ : L2.St} {H H' : Hp} {te : TE}
theorem tyx_int (i : Int) : TyX K H (.int i) (.type "int") := .base (.int i)
theorem tyx_str (x : Str) : TyX K H (.str x) (.type "str") := .base (.str x)
theorem tyx_tup {a : Addr} {xs : List V} (h : SqT K H a xs) : TyX K H (.ref a) (.type "tuple") := by
  rcases h with (h | ⟨o, h⟩) | ⟨o, its, n, h, hc, _⟩
  · exact .base (.tup h)
  · exact .fTuple h
  · exact .kTuple h hc
theorem ev_isi {x : V} {n t : String} {b : Bool} (h : Ev te σ H x) (ty : ∀ H1, Ex H H1 → TyX K H1 x (.type t)) (k : kitB t n = some b) : Ev (tCB (rIsiB K) (tCons te (tCons (tC (.ty n)) tNil))) σ H (.bl b) := fun H1 e Q q =>
  h H1 e _ fun H2 e2 => ⟨x, n, t, b, rfl, ty H2 (e.trans e2), k, q H2 e2⟩
theorem ev_isInt {i : Int} (h : Ev te σ H (.int i)) : Ev (tCB (rIsiB K) (tCons te (tCons (tC (.ty "int")) tNil))) σ H (.bl true) := ev_isi h (fun _ _ => tyx_int i) kit_ii
theorem ev_isBool {i : Int} (h : Ev te σ H (.int i)) : Ev (tCB (rIsiB K) (tCons te (tCons (tC (.ty "bool")) tNil))) σ H (.bl false) := ev_isi h (fun _ _ => tyx_int i) kit_ib
theorem ev_isStr {x : Str} (h : Ev te σ H (.str x)) : Ev (tCB (rIsiB K) (tCons te (tCons (tC (.ty "str")) tNil))) σ H (.bl true) := ev_isi h (fun _ _ => tyx_str x) kit_ss
theorem ev_isTup {a : Addr} {xs : List V} (h : Ev te σ H (.ref a)) (hs : SqT K H a xs) : Ev (tCB (rIsiB K) (tCons te (tCons (tC (.ty "tuple")) tNil))) σ H (.bl true) := ev_isi h (fun _ e => tyx_tup (ex_t e hs)) kit_tt
end
/-! ### constants of the module -/
section
variable {X : Cx} {x : Str} {pos : Pos}
theorem pe_gi {i : Int} (h : ∃ t, X.mg x = some (.int i t)) (hg : Gl X x := by rfl) (hd : (x == ("__debug__" : Str)) = false := by decide) : PE X (.Name x pos) (tC (.int i)) := by
  obtain ⟨t, h⟩ := h
  exact pe_glob hg h ⟨t, rfl⟩ hd
theorem pe_gs {z : Str} (h : ∃ t, X.mg x = some (.str z t)) (hg : Gl X x := by rfl) (hd : (x == ("__debug__" : Str)) = false := by decide) : PE X (.Name x pos) (tC (.str z)) := by
  obtain ⟨t, h⟩ := h
  exact pe_glob hg h ⟨t, rfl⟩ hd
theorem pe_gr {a : Addr} (h : X.mg x = some (.ref a)) (hg : Gl X x := by rfl) (hd : (x == ("__debug__" : Str)) = false := by decide) : PE X (.Name x pos) (tC (.ref a)) := pe_glob hg h rfl hd
end
/-! ### readings of more rules -/
section
variable {K : PySem.W.Frag} {σ : L2.St} {H H' : Hp} {ta tb te tx : TE} {t u : TT} {x y z v : V} {r : R2}
/-- len of a text -/
theorem ev_lenStr {z : Str} (h : Ev te σ H (.str z)) (hz : z.length ≤ 100000) : Ev (tCB (fun xs H Q => ∃ z, xs = [.str z] ∧ z.length ≤ sizeLine ∧ Q (.int z.length) H) (tCons te tNil)) σ H (.int (z.length : Int)) := fun H1 e Q q =>
  h H1 e _ fun H2 e2 => ⟨z, rfl, sz_of hz, q H2 e2⟩
theorem rv_val0 {r : R2} (h : ∀ (H1 : Hp) (Q : VK), Q z H1 → r x y H1 Q) : RV r x y H z := fun H1 e Q q => h H1 Q (q H1 (Ex.refl H1))
/-- a < b < c -/
theorem ev_chain {r r' : R2} {p q : Bool} (ha : Ev ta σ H x) (hb : Ev tb σ H y) (hc : Ev tx σ H z) (h1 : RV r x y H (.bl p)) (h2 : RV r' y z H (.bl q)) : Ev (tChain r r' ta tb tx) σ H (.bl (p && q)) := fun H1 e Q k =>
  ha H1 e _ fun H2 e2 => hb H2 (e.trans e2) _ fun H3 e3 => h1 H3 ((e.trans e2).trans e3) _ fun H4 e4 => ⟨p, rfl, by
    have e14 : Ex H1 H4 := (e2.trans e3).trans e4
    cases p with
    | true =>
      show tx σ H4 fun w' H5 => r' y w' H5 Q
      exact hc H4 (e.trans e14) _ fun H5 e5 => h2 H5 ((e.trans e14).trans e5) Q fun H6 e6 => k H6 ((e14.trans e5).trans e6)
    | false =>
      show Q (.bl false) H4
      exact k H4 e14⟩
/-- one sign in a text -/
def rInC (neg : Bool) : R2 := fun x y H Q => ∃ (c : Nat) (z : Str), x = .str ⟨#[c]⟩ ∧ y = .str z ∧ Q (.bl (if neg then !decide (c ∈ z.cps.toList) else decide (c ∈ z.cps.toList))) H
theorem rv_inC {c : Nat} {z : Str} : RV (fun x y H Q => ∃ (c : Nat) (z : Str), x = .str ⟨#[c]⟩ ∧ y = .str z ∧ Q (.bl (decide (c ∈ z.cps.toList))) H) (.str ⟨#[c]⟩) (.str z) H (.bl (decide (c ∈ TL.tl z))) := fun H1 _ _ q => ⟨c, z, rfl, rfl, q H1 (Ex.refl H1)⟩
/-- all, any of a list of truth values -/
theorem ev_all {bs : List Bool} (h : EvL te σ H (bs.map V.bl)) : Ev (tCB (rAll K) (tCons te tNil)) σ H (.bl (bs.all id)) := fun H1 e Q q =>
  h H1 e _ fun p H2 _ e2 hp => ⟨p, bs, rfl, sq_of hp, q H2 e2⟩
end
/-! ### comprehensions over a text -/
section
variable {K : PySem.W.Frag} {σ : L2.St} {H H' : Hp} {te tl : TE} {t : TT}
theorem et_yes : EvT tYes σ H true := fun H1 _ _ q => q H1 (Ex.refl H1)
theorem el_lcS {z : Str} {j : Nat} {vs : List Nat} (v : Nat → V) (h : Ev tl σ H (.str z)) (hz : z.length ≤ 40000) (hw : ∀ x, wipe ((wipe σ vs).set j (some x)) vs = wipe σ vs)
    (he : ∀ (i c : Nat) H1, Ex H H1 → (TL.tl z)[i]? = some c → Ev te ((wipe σ vs).set j (some (.str ⟨#[c]⟩))) H1 (v i)) :
    EvL (tLc (iStr tl) (gName j) tYes te vs) σ H (given z.length (fun _ => true) v) := fun H0 e Q q => h H0 e _ fun H1 e1 => ⟨z, rfl, fun Dl hD =>
  lc_it (g := gName j) (tt := tYes) (te := te) (vs := vs) (σ := σ) walk_str (Cw H1 (fun _ => true) v Dl) ⟨hD, Ex.new hD, upd_same⟩ (fun _ _ _ _ => trivial) (fun i x H2 H3 hi p y => by
    obtain ⟨rfl, c, hc, rfl⟩ := y
    have hc2 : (TL.tl z)[i]? = some c := by
      show z.cps.toList[i]? = some c
      rw [Array.getElem?_toList]
      exact hc
    exact ⟨hw _, cw_turn (t := tYes) p (by have : z.cps.size = z.length := rfl; omega) et_yes fun _ => he i c H1 (e.trans e1) hc2⟩) (fun H2 p => q Dl H2 (fresh_back e1 p.1) (e1.trans p.2.1) p.2.2)⟩
end
theorem given_all {α : Type} {xs : List α} {f : α → V} {v : Nat → V} (h : ∀ i x, xs[i]? = some x → v i = f x) : given xs.length (fun _ => true) v = xs.map f := by
  unfold given
  rw [List.filter_eq_self.mpr (fun _ _ => rfl)]
  apply List.ext_getElem
  · simp
  · intro i h1 h2
    simp only [List.getElem_map, List.getElem_range]
    have hi : i < xs.length := by simpa using h2
    exact h i xs[i] (List.getElem?_eq_getElem hi)
end K7
set_option maxHeartbeats 4000000
/-! is_number, is_word, is_name -/
namespace K7
open PySem PySem.Spec PyProof.Rows L2 Evl
section
variable {P : Program} {w : World} {K : PySem.W.Frag} {mg : Str → Option Value} {base : Heap}
def spNumber : Sp := fun vs H Q _ => ∃ v lo hi : Int, vs = [.int v, .int lo, .int hi] ∧ lo ≤ v ∧ v ≤ hi ∧ RetV (.bl true) H Q
theorem ok_is_number (T : Txt w K mg) : FOk P w K mg base 1 "is_number" spNumber := by
  refine fok T.f_is_number T.g_is_number sc_is_number (fun _ _ _ _ _ _ us hl => match us, hl with | [_, _, _], _ => rfl) (fun vs H Q E h => ?_) (fun cdv A outer s H vs Q E hr h => ?_)
  · obtain ⟨v, lo, hi, rfl, _⟩ := h
    rfl
  obtain ⟨v, lo, hi, rfl, h1, h2, k⟩ := h
  refine ⟨_, pss_one (ps_ret (pe_and (pe_isi T.z_isinstance T.z_int boot_intT (pv 0)) (pe_and (pe_not (pe_isi T.z_isinstance T.z_bool boot_boolT (pv 0))) (pe_one (pe_chain op_le op_le (pv 1) (pv 0) (pv 2)))))), ?_⟩
  refine s_ret (v := .bl true) (ev_andV (a := true) (b := true) (ev_isInt (ev_var rfl)) fun _ => ev_andV (a := true) (b := true) (ev_notV (a := false) (ev_isBool (ev_var rfl))) fun _ => ?_) k
  refine ev_is (ev_chain (ev_var rfl) (ev_var rfl) (ev_var rfl) rv_I0 rv_I0) ?_
  rw [decide_eq_true h1, decide_eq_true h2]
  rfl
theorem str1_len (x : Str) : ((x.length : Nat) : Int) = ((TL.tl x).length : Int) := by rw [TL.len_tl]
def spIsWord : Sp := fun vs H Q _ => ∃ x : Str, vs = [.str x] ∧ x.length ≤ 1000 ∧ RetV (.bl (isWord x)) H Q
theorem sgn_bl (c : Nat) : (V.bl (sgnB c)) = V.bl (decide (c ∈ TL.tl smallS) || decide (c ∈ TL.tl digitS)) := rfl
theorem ok_is_word (T : Txt w K mg) : FOk P w K mg base 1 "is_word" spIsWord := by
  refine fok T.f_is_word T.g_is_word sc_is_word (fun _ _ _ _ _ _ us hl => match us, hl with | [_], _ => rfl) (fun vs H Q E h => ?_) (fun cdv A outer s H vs Q E hr h => ?_)
  · obtain ⟨x, rfl, _⟩ := h
    rfl
  obtain ⟨x, rfl, hx, k⟩ := h
  refine ⟨_, pss_cons (ps_if (PW.pt (pw_or (pt_not (pt_val (pe_isi T.z_isinstance T.z_str boot_strT (pv 0))))
      (pw_or1 (pt_not (pt_chain op_le op_le pe_int (pe_callB call_len_str (by rfl) T.z_len PySem.boot_len (pa_cons (pv 0) pa_nil)) (pe_gi T.i_MAX_WORD)))))) (pss_one (ps_ret pe_bl)) pss_nil)
    (pss_one (ps_ret (pe_callB (cr_all rfl) (by rfl) T.z_all (by decide +kernel) (pa_cons
      (pe_lc (own := [("sign", 1)]) (g := gName 1) rfl sc_is_word.nd (pi_str (pv 0)) (blkOk_by (own := [("sign", 1)]) (N := N_is_word) (sc := defScope s_is_word) (by decide +kernel)) (fun _ _ _ _ _ => pg_name (i := 1) sc_is_word.nd rfl (Or.inl rfl)) (fun _ _ _ _ _ => pts_nil)
        (fun _ _ _ _ _ => pe_or (pe_cmpR op_in_sign (pv 1) (pe_gs T.t_SMALL) rfl) (pe_one (pe_cmpR op_in_sign (pv 1) (pe_gs T.t_DIGITS) rfl)))) pa_nil)))), ?_⟩
  refine q_when (et_or (et_not (et_B (ev_isStr (ev_var rfl)))) fun _ => et_not (et_test (ev_chain ev_c (ev_lenStr (ev_var rfl) (by omega)) ev_c rv_I0 rv_I0))) (fun hb H1 e1 => ?_) (fun hb H1 e1 => ?_)
  · refine s_ret ev_c (RetV.ext (v := .bl false) ?_ e1)
    have e : isWord x = false := by
      cases q : isWord x with
      | false => rfl
      | true =>
        have hl := word_len q
        have h1 : decide ((1 : Int) ≤ (x.length : Int)) = true := decide_eq_true (by omega)
        have h2 : decide ((x.length : Int) ≤ 8) = true := decide_eq_true (by omega)
        rw [h1, h2] at hb
        cases hb
    rw [← e]
    exact k
  · have hb2 : (1 ≤ x.length ∧ x.length ≤ 8) := by
      have h3 : ((!true) || !(decide ((1 : Int) ≤ (x.length : Int)) && decide ((x.length : Int) ≤ 8))) = false := hb
      simp only [Bool.not_true, Bool.false_or, Bool.not_eq_false', Bool.and_eq_true, decide_eq_true_iff] at h3
      omega
    have ev := ev_all (K := K) (bs := (TL.tl x).map sgnB) (te := tLc (iStr (tVar 0)) (gName 1) tYes (tOrV (tOp _ (tVar 1) (tC (.str smallS))) (tOp _ (tVar 1) (tC (.str digitS)))) [1]) (σ := [some (.str x), none]) (H := H1) (by
      have q := el_lcS (σ := [some (.str x), none]) (H := H1) (tl := tVar 0) (j := 1) (vs := [1]) (z := x) (te := tOrV (tOp _ (tVar 1) (tC (.str smallS))) (tOp _ (tVar 1) (tC (.str digitS)))) (fun i => .bl (sgnB ((TL.tl x).getD i 0))) (ev_var rfl) (by omega) (fun _ => rfl) (fun i c H2 e2 hc => by
        have e : (TL.tl x).getD i 0 = c := by
          rw [List.getD_eq_getElem?_getD, hc]
          rfl
        rw [e]
        exact ev_orV (ev_op (ev_var rfl) ev_c rv_inC) fun _ => ev_op (ev_var rfl) ev_c rv_inC)
      rw [TL.len_tl x, given_all (xs := TL.tl x) (f := fun c => .bl (sgnB c)) (fun i c hc => by
        rw [List.getD_eq_getElem?_getD, hc]
        rfl)] at q
      rw [List.map_map]
      exact q)
    refine s_ret ev (RetV.ext ?_ e1)
    have e : ((TL.tl x).map sgnB).all id = isWord x := by
      unfold isWord
      rw [decide_eq_true hb2.1, decide_eq_true hb2.2, List.all_map]
      rfl
    rw [e]
    exact k
def spIsName : Sp := fun vs H Q _ => ∃ x : Str, vs = [.str x] ∧ x.length ≤ 1000 ∧ RetV (.bl (isName x)) H Q
theorem inV_str (x : Str) : ∀ l : List Str, inV (.str x) (l.map V.str) = decide (x ∈ l)
  | [] => rfl
  | y :: r => by
    show ((y == x) || inV (.str x) (r.map V.str)) = _
    rw [inV_str x r]
    by_cases e : y = x
    · subst e
      simp
    · have e2 : (y == x) = false := beq_eq_false_iff_ne.mpr e
      have e3 : ¬ x = y := fun z => e z.symm
      rw [e2, Bool.false_or]
      simp [e3]
theorem flat_str : ∀ l : List Str, (l.map V.str).all flatV = true
  | [] => rfl
  | _ :: r => flat_str r
theorem bar_eq : nameBar = noNames := rfl
theorem head_at {x : Str} (h : 1 ≤ x.length) : ∃ c r, TL.tl x = c :: r ∧ atI (TL.tl x) 0 = some c ∧ headSmall x = decide (c ∈ TL.tl smallS) := by
  rw [TL.len_tl] at h
  cases e : TL.tl x with
  | nil =>
    rw [e] at h
    simp at h
  | cons c r =>
    refine ⟨c, r, rfl, atI_nat (j := 0) rfl, ?_⟩
    unfold headSmall
    rw [e]
theorem ok_is_name (T : Txt w K mg) : FOk P w K mg base 2 "is_name" spIsName := by
  have W : FOk P w K mg base 1 "is_word" spIsWord := ok_is_word T
  refine fok T.f_is_name T.g_is_name sc_is_name (fun _ _ _ _ _ _ us hl => match us, hl with | [_], _ => rfl) (fun vs H Q E h => ?_) (fun cdv A outer s H vs Q E hr h => ?_)
  · obtain ⟨x, rfl, _⟩ := h
    rfl
  obtain ⟨x, rfl, hx, k⟩ := h
  refine ⟨_, pss_one (ps_ret (pe_and (pe_f W hr (pa_cons (pv 0) pa_nil)) (pe_and (pe_cmpR op_le (pe_callB call_len_str (by rfl) T.z_len PySem.boot_len (pa_cons (pv 0) pa_nil)) (pe_gi T.i_MAX_NAME) (nomark _))
    (pe_and (pe_cmpR op_in_sign (pe_ix ix_str (pv 0) pe_int (fun _ _ => rfl)) (pe_gs T.t_SMALL) rfl) (pe_one (pe_cmpR op_notIn_seq (pv 0) (pe_gr T.g_NO_NAMES) (by rfl))))))), ?_⟩
  refine s_ret (ev_is (ev_andV (ev_call (ea_cons (ev_var rfl) ea_nil) (fun H1 e1 Q' q E' => ⟨x, rfl, hx, q⟩)) fun hw => ev_andV (ev_op (ev_lenStr (ev_var rfl) (by omega)) ev_c rv_I0) fun _ => ev_andV
    (b := !decide (x ∈ nameBar)) (a := headSmall x) ?_ fun _ => ?_) ?_) k
  · obtain ⟨c, r, e1, e2, e3⟩ := head_at (word_len hw).1
    rw [e3]
    exact ev_op (ev_op (ev_var rfl) ev_c (rv_ixS (by omega) e2)) ev_c rv_inC
  · refine ev_is (ev_op (ev_var rfl) ev_c (rv_niT (T.noNames H) rfl (flat_str _))) ?_
    rw [inV_str, ← bar_eq]
  · congr 1
    unfold isName
    cases hw : isWord x with
    | false => rfl
    | true =>
      have h1 : decide ((x.length : Int) ≤ 8) = true := decide_eq_true (by have := word_len hw; omega)
      rw [h1]
      rfl
end
end K7
set_option maxHeartbeats 4000000
/-! texts of words; f-strings -/
namespace K7
open PySem PySem.Spec PyProof.Rows L2 Evl TL
/-! ### joined words, by their signs -/
theorem tl_sp : tl (" " : Str) = [32] := by decide +kernel
theorem tl_jn1 (x : Str) : tl (jn [x]) = tl x := rfl
theorem tl_jn {x y : Str} {ws : List Str} : tl (jn (x :: y :: ws)) = tl x ++ 32 :: tl (jn (y :: ws)) := by
  show tl (x ++ " " ++ Str.join " " (y :: ws)) = _
  rw [tl_append, tl_append, tl_sp, List.append_assoc]
  rfl
theorem tl_jnN {x : Str} {ws : List Str} (h : ws ≠ []) : tl (jn (x :: ws)) = tl x ++ 32 :: tl (jn ws) := by
  cases ws with
  | nil => exact absurd rfl h
  | cons y r => exact tl_jn
def notS : Nat → Str
  | 0 => ""
  | k + 1 => notS k ++ "not "
theorem tl_empty : tl ("" : Str) = [] := by decide +kernel
theorem tl_not : tl ("not" : Str) = [110, 111, 116] := by decide +kernel
theorem tl_notSp : tl ("not " : Str) = [110, 111, 116, 32] := by decide +kernel
theorem notS_front : ∀ k : Nat, tl (notS (k + 1)) = [110, 111, 116, 32] ++ tl (notS k)
  | 0 => by
    show tl (("" : Str) ++ "not ") = _ ++ tl ("" : Str)
    rw [tl_append, tl_empty, tl_notSp]
    rfl
  | k + 1 => by
    show tl (notS (k + 1) ++ "not ") = _ ++ tl (notS k ++ "not ")
    rw [tl_append, notS_front k, tl_append, List.append_assoc]
theorem jn_nots {ws : List Str} (h : ws ≠ []) : ∀ k : Nat, tl (jn (List.replicate k ("not" : Str) ++ ws)) = tl (notS k) ++ tl (jn ws)
  | 0 => by
    show tl (jn ws) = tl ("" : Str) ++ _
    rw [tl_empty]
    rfl
  | k + 1 => by
    have e : List.replicate (k + 1) ("not" : Str) ++ ws = ("not" : Str) :: (List.replicate k ("not" : Str) ++ ws) := rfl
    rw [e, tl_jnN (by simp [h]), jn_nots h k, notS_front, tl_not]
    rfl
theorem notS_len : ∀ k : Nat, (notS k).length = 4 * k
  | 0 => by decide +kernel
  | k + 1 => by
    show (notS k ++ "not ").length = _
    rw [strLen_append, notS_len k]
    have e : ("not " : Str).length = 4 := by decide +kernel
    rw [e]
    omega
/-! ### f-strings -/
def cat : List Str → Str := List.foldl (· ++ ·) Str.empty
theorem tl_foldl : ∀ (ys : List Str) (acc : Str), tl (ys.foldl (· ++ ·) acc) = tl acc ++ (ys.map tl).flatten
  | [], acc => by simp
  | y :: r, acc => by
    show tl (r.foldl (· ++ ·) (acc ++ y)) = _
    rw [tl_foldl r, tl_append]
    simp
theorem tl_cat (ys : List Str) : tl (cat ys) = (ys.map tl).flatten := by
  unfold cat
  rw [tl_foldl]
  rfl
section
variable {K : PySem.W.Frag} {σ : L2.St} {H H' : Hp} {ta tb te tx : TE}
theorem ev_fmtS {y : Str} (h : Ev te σ H (.str y)) (hz : y.length ≤ 100000) : Ev (tFmt te) σ H (.str y) := fun H1 e Q q => h H1 e _ fun H2 e2 => Or.inl ⟨y, rfl, sz_of hz, q H2 e2⟩
theorem ev_fmtN {n : Nat} (h : Ev te σ H (.int (n : Int))) (hn : n < 100) : Ev (tFmt te) σ H (.str (num n)) := fun H1 e Q q => h H1 e _ fun H2 e2 => Or.inr ⟨(n : Int), rfl, by
    have e : ((n : Int)).natAbs = n := by omega
    rw [e]
    have h2 : n.log2 ≤ n := Nat.log2_le_self n
    omega, q H2 e2⟩
theorem ev_js : ∀ (ts : List TE) (ys : List Str) (acc : Str), Paired (fun t y => Ev t σ H (.str y)) ts ys → acc.length + (ys.map Str.length).sum ≤ 100000 → ∀ H1, Ex H H1 → ∀ Q : Str → Hp → Prop, (∀ H2, Ex H1 H2 → Q (ys.foldl (· ++ ·) acc) H2) → tJs ts acc σ H1 Q
  | _, _, acc, .nil, _, H1, e, Q, q => q H1 (Ex.refl H1)
  | _, _, acc, @Paired.cons _ _ _ t y ts ys h r, hz, H1, e, Q, q => by
    rw [List.map_cons, List.sum_cons] at hz
    refine h H1 e _ fun H2 e2 => ⟨y, rfl, ?_, ?_⟩
    · rw [strLen_append]
      exact sz_of (by omega)
    · exact ev_js ts ys (acc ++ y) r (by rw [strLen_append]; omega) H2 (e.trans e2) Q fun H3 e3 => q H3 (e2.trans e3)
theorem ev_fstr {ts : List TE} {ys : List Str} (h : Paired (fun t y => Ev t σ H (.str y)) ts ys) (hz : (ys.map Str.length).sum ≤ 100000) : Ev (fun σ H Q => tJs ts Str.empty σ H fun out H1 => Q (.str out) H1) σ H (.str (cat ys)) := fun H1 e Q q =>
  ev_js ts ys Str.empty h (by
    have e : (Str.empty : Str).length = 0 := rfl
    rw [e]
    omega) H1 e (fun out H1 => Q (.str out) H1) q
end
/-! ### the texts of statements -/
theorem bt_kw_ne (b : Bt) : btW b ≠ [] := by cases b <;> exact List.cons_ne_nil _ _
def btCat : Bt → List Str
  | .giv i => ["given", " ", num i]
  | .set x => ["set", " ", x]
  | .same x y => [x, " is ", y]
  | .full x f => ["full ", x, ".", f]
  | .wished w => ["wished", " ", w]
theorem btCat_eq (b : Bt) : ((btCat b).map tl).flatten = tl (jn (btW b)) := by
  have e1 : tl (" is " : Str) = 32 :: tl ("is" : Str) ++ [32] := by decide +kernel
  have e2 : tl ("full " : Str) = tl ("full" : Str) ++ [32] := by decide +kernel
  have e3 : tl ("." : Str) = [46] := by decide +kernel
  cases b with
  | giv i => simp [btCat, btW, tl_jn, tl_jn1, tl_sp]
  | set x => simp [btCat, btW, tl_jn, tl_jn1, tl_sp]
  | same x y => simp [btCat, btW, tl_jn, tl_jn1, e1]
  | full x f => simp [btCat, btW, tl_jn, tl_jn1, e2, e3, tl_dot]
  | wished w => simp [btCat, btW, tl_jn, tl_jn1, tl_sp]
theorem tst_text (t : Tst) : cat (notS t.nots :: btCat t.bt) = jn (tstW t) := by
  refine ext_tl ?_
  rw [tl_cat, List.map_cons, List.flatten_cons, btCat_eq]
  exact (jn_nots (bt_kw_ne t.bt) t.nots).symm
/-- which words of Python's line a plain statement gives -/
def plnCat : Pln → List Str
  | .make x => ["make", " ", x]
  | .keep x => ["keep", " ", x]
  | .drop x => ["drop", " ", x]
  | .wish x w => ["wish ", x, " ", w]
  | .name x y => [x, " = ", y]
  | .hold x f y => [x, ".", f, " ", "=", " ", y]
  | .weak x f y => [x, ".", f, " ", "~", " ", y]
  | .cut x f => ["cut ", x, ".", f]
  | .take z x f => [z, " = ", x, ".", f]
  | .say w => ["say", " ", w]
  | .ask t => ["ask", " ", jn (tstW t)]
theorem pln_text (p : Pln) : cat (plnCat p) = jn (plnW p) := by
  refine ext_tl ?_
  rw [tl_cat]
  have e1 : tl (" = " : Str) = 32 :: tl ("=" : Str) ++ [32] := by decide +kernel
  have e2 : tl ("wish " : Str) = tl ("wish" : Str) ++ [32] := by decide +kernel
  have e4 : tl ("cut " : Str) = tl ("cut" : Str) ++ [32] := by decide +kernel
  have e3 : tl ("." : Str) = [46] := by decide +kernel
  cases p with
  | ask t =>
    have h : tstW t ≠ [] := by
      unfold tstW
      simp [bt_kw_ne]
    simp [plnCat, plnW, tl_jnN h, tl_sp]
  | _ => simp [plnCat, plnW, tl_jn, tl_jn1, tl_sp, tl_dot, e1, e2, e3, e4]
end K7
set_option maxHeartbeats 4000000
/-! test_text, statement_text -/
namespace K7
open PySem PySem.Spec PyProof.Rows L2 Evl
/-! ### the tuples of tests and statements, as they stand -/
def btV : Bt → List V
  | .giv i => [.str "given", .int i]
  | .set x => [.str "set", .str x]
  | .same x y => [.str "same", .str x, .str y]
  | .full x f => [.str "full", .str x, .str f]
  | .wished w => [.str "wished", .str w]
section
variable {K : PySem.W.Frag} {H : Hp} {v : V}
theorem dp1 {ds : List PyData} (h : Dp K H v (.tuple ds)) : ∃ a xs, v = .ref a ∧ SqT K H a xs ∧ DpAll K H xs ds := dp_tup h
theorem dpa_str {vs : List V} {x : Str} {ds : List PyData} (h : DpAll K H vs (.str x :: ds)) : ∃ r, vs = .str x :: r ∧ DpAll K H r ds := by
  obtain ⟨v, r, rfl, h1, h2⟩ := dpAll_cons h
  exact ⟨r, by rw [dp_str h1], h2⟩
theorem dpa_int {vs : List V} {i : Int} {ds : List PyData} (h : DpAll K H vs (.int i :: ds)) : ∃ r, vs = .int i :: r ∧ DpAll K H r ds := by
  obtain ⟨v, r, rfl, h1, h2⟩ := dpAll_cons h
  exact ⟨r, by rw [dp_int h1], h2⟩
theorem dp_bt {b : Bt} (h : Dp K H v (encBt b)) : ∃ a, v = .ref a ∧ SqT K H a (btV b) := by
  cases b with
  | giv i =>
    obtain ⟨a, xs, rfl, hs, ha0⟩ := dp_tup h
    obtain ⟨r, rfl, ha1⟩ := dpa_str ha0
    obtain ⟨r, rfl, ha2⟩ := dpa_int ha1
    obtain rfl := dpAll_nil ha2
    exact ⟨a, rfl, hs⟩
  | set x =>
    obtain ⟨a, xs, rfl, hs, ha0⟩ := dp_tup h
    obtain ⟨r, rfl, ha1⟩ := dpa_str ha0
    obtain ⟨r, rfl, ha2⟩ := dpa_str ha1
    obtain rfl := dpAll_nil ha2
    exact ⟨a, rfl, hs⟩
  | same x y =>
    obtain ⟨a, xs, rfl, hs, ha0⟩ := dp_tup h
    obtain ⟨r, rfl, ha1⟩ := dpa_str ha0
    obtain ⟨r, rfl, ha2⟩ := dpa_str ha1
    obtain ⟨r, rfl, ha3⟩ := dpa_str ha2
    obtain rfl := dpAll_nil ha3
    exact ⟨a, rfl, hs⟩
  | full x y =>
    obtain ⟨a, xs, rfl, hs, ha0⟩ := dp_tup h
    obtain ⟨r, rfl, ha1⟩ := dpa_str ha0
    obtain ⟨r, rfl, ha2⟩ := dpa_str ha1
    obtain ⟨r, rfl, ha3⟩ := dpa_str ha2
    obtain rfl := dpAll_nil ha3
    exact ⟨a, rfl, hs⟩
  | wished x =>
    obtain ⟨a, xs, rfl, hs, ha0⟩ := dp_tup h
    obtain ⟨r, rfl, ha1⟩ := dpa_str ha0
    obtain ⟨r, rfl, ha2⟩ := dpa_str ha1
    obtain rfl := dpAll_nil ha2
    exact ⟨a, rfl, hs⟩
theorem dp_not {n : Nat} {d : PyData} (h : Dp K H v (encN (n + 1) d)) : ∃ a u, v = .ref a ∧ SqT K H a [.str "not", u] ∧ Dp K H u (encN n d) := by
  obtain ⟨a, xs, rfl, hs, ha0⟩ := dp_tup h
  obtain ⟨r, rfl, ha1⟩ := dpa_str ha0
  obtain ⟨u, r, rfl, hu, ha2⟩ := dpAll_cons ha1
  obtain rfl := dpAll_nil ha2
  exact ⟨a, u, rfl, hs, hu⟩
end
/-- the tuple of a plain statement; u: the test's place, of an ask -/
def plnV (u : V) : Pln → List V
  | .make x => [.str "make", .str x]
  | .keep x => [.str "keep", .str x]
  | .drop x => [.str "drop", .str x]
  | .wish x w => [.str "wish", .str x, .str w]
  | .name x y => [.str "name", .str x, .str y]
  | .hold x f y => [.str "hold", .str x, .str f, .str y]
  | .weak x f y => [.str "weak", .str x, .str f, .str y]
  | .cut x f => [.str "cut", .str x, .str f]
  | .take z x f => [.str "take", .str z, .str x, .str f]
  | .say w => [.str "say", .str w]
  | .ask _ => [.str "ask", u]
def askOf (K : PySem.W.Frag) (H : Hp) (u : V) : Pln → Prop
  | .ask t => Dp K H u (encT t)
  | _ => True
section
variable {K : PySem.W.Frag} {H : Hp} {v : V}
theorem dp_pln {p : Pln} (h : Dp K H v (encP p)) : ∃ a u, v = .ref a ∧ SqT K H a (plnV u p) ∧ askOf K H u p := by
  cases p with
  | ask t =>
    obtain ⟨a, xs, rfl, hs, ha0⟩ := dp_tup h
    obtain ⟨r, rfl, ha1⟩ := dpa_str ha0
    obtain ⟨u, r, rfl, hu, ha2⟩ := dpAll_cons ha1
    obtain rfl := dpAll_nil ha2
    exact ⟨a, u, rfl, hs, hu⟩
  | _ =>
    obtain ⟨a, xs, rfl, hs, ha0⟩ := dp_tup h
    obtain ⟨r, rfl, ha1⟩ := dpa_str ha0
    obtain ⟨r, rfl, ha2⟩ := dpa_str ha1
    first
      | (obtain rfl := dpAll_nil ha2
         exact ⟨a, .non, rfl, hs, trivial⟩)
      | (obtain ⟨r, rfl, ha3⟩ := dpa_str ha2
         first
           | (obtain rfl := dpAll_nil ha3
              exact ⟨a, .non, rfl, hs, trivial⟩)
           | (obtain ⟨r, rfl, ha4⟩ := dpa_str ha3
              obtain rfl := dpAll_nil ha4
              exact ⟨a, .non, rfl, hs, trivial⟩))
theorem dp_iff {t : Tst} {y n : List Stm} (h : Dp K H v (encS (.iff t y n))) : ∃ a u b c, v = .ref a ∧ SqT K H a [.str "if", u, b, c] ∧ Dp K H u (encT t) ∧ Dp K H b (.tuple (encL y)) ∧ Dp K H c (.tuple (encL n)) := by
  rw [encS] at h
  obtain ⟨a, xs, rfl, hs, ha0⟩ := dp_tup h
  obtain ⟨r, rfl, ha1⟩ := dpa_str ha0
  obtain ⟨u, r, rfl, hu, ha2⟩ := dpAll_cons ha1
  obtain ⟨b, r, rfl, hb, ha3⟩ := dpAll_cons ha2
  obtain ⟨c, r, rfl, hc, ha4⟩ := dpAll_cons ha3
  obtain rfl := dpAll_nil ha4
  exact ⟨a, u, b, c, rfl, hs, hu, hb, hc⟩
theorem dp_rep {k : Nat} {y : List Stm} (h : Dp K H v (encS (.rep k y))) : ∃ a b, v = .ref a ∧ SqT K H a [.str "repeat", .int k, b] ∧ Dp K H b (.tuple (encL y)) := by
  rw [encS] at h
  obtain ⟨a, xs, rfl, hs, ha0⟩ := dp_tup h
  obtain ⟨r, rfl, ha1⟩ := dpa_str ha0
  obtain ⟨r, rfl, ha2⟩ := dpa_int ha1
  obtain ⟨b, r, rfl, hb, ha3⟩ := dpAll_cons ha2
  obtain rfl := dpAll_nil ha3
  exact ⟨a, b, rfl, hs, hb⟩
end
/-! ### the readings -/
section
variable {P : Program} {w : World} {K : PySem.W.Frag} {mg : Str → Option Value} {base : Heap}
theorem ip_addS {X : Cx} : PIp X .Add (fun x y H Q => ∃ i j, x = .str i ∧ y = .str j ∧ i.length + j.length ≤ sizeLine ∧ Q (.str (i ++ j)) H) := fun pins s σ H x y v u Q I r1 r2 h => iop_add_str pins s σ H x y v u Q I r1 r2 h
theorem ev_at {σ : L2.St} {H : Hp} {ta : TE} {a : Addr} {xs : List V} {v : V} {i : Int} (n : Nat) (ha : Ev ta σ H (.ref a)) (hs : SqT K H a xs) (h : xs[n]? = some v := by rfl) (hi : i = (n : Int) := by rfl) : Ev (tOp (rIxT K) ta (tC (.int i))) σ H v := by
  subst hi
  exact ev_op ha ev_c (rv_ixT hs (atI_nat h))
theorem ev_eqS {σ : L2.St} {H : Hp} {ta tb : TE} {x y : Str} (ha : Ev ta σ H (.str x)) (hb : Ev tb σ H (.str y)) : Ev (tOp rEq ta tb) σ H (.bl (decide (x = y))) := by
  refine ev_is (ev_op ha hb (rv_eq rfl)) ?_
  congr 1
  by_cases e : x = y
  · subst e
    simp
  · rw [decide_eq_false e, decide_eq_false (fun z => e (V.str.inj z))]
theorem ev_eqY {σ : L2.St} {H : Hp} {ta tb : TE} {x y : Str} (ha : Ev ta σ H (.str x)) (hb : Ev tb σ H (.str y)) (h : x = y) : Ev (tOp rEq ta tb) σ H (.bl true) := ev_is (ev_eqS ha hb) (congrArg V.bl (decide_eq_true h))
theorem ev_eqN {σ : L2.St} {H : Hp} {ta tb : TE} {x y : Str} (ha : Ev ta σ H (.str x)) (hb : Ev tb σ H (.str y)) (h : x ≠ y) : Ev (tOp rEq ta tb) σ H (.bl false) := ev_is (ev_eqS ha hb) (congrArg V.bl (decide_eq_false h))
theorem name8 {x : Str} (h : isName x = true) : x.length ≤ 100000 := by
  have := word_len (name_word h)
  omega
theorem word8 {x : Str} (h : isWord x = true) : x.length ≤ 100000 := by
  have := word_len h
  omega
def spTestText (K : PySem.W.Frag) : Sp := fun vs H Q _ => ∃ (v : V) (t : Tst) (g : Nat), vs = [v] ∧ Dp K H v (encT t) ∧ g ≤ 3 ∧ t.ok g ∧ RetV (.str (jn (tstW t))) H Q
theorem ok_test_text (T : Txt w K mg) : FOk P w K mg base 1 "test_text" (spTestText K) := by
  refine fok T.f_test_text T.g_test_text sc_test_text (fun _ _ _ _ _ _ us hl => match us, hl with | [_], _ => rfl) (fun vs H Q E h => ?_) (fun cdv A outer s H vs Q E hr h => ?_)
  · obtain ⟨x, _, _, rfl, _⟩ := h
    rfl
  obtain ⟨v, t, g, rfl, hd, hg, hok, k⟩ := h
  refine ⟨_, pss_cons (ps_set (i := 1) sc_test_text.nd rfl (Or.inl rfl) pe_str)
    (pss_cons (ps_while PassesOwn.never (pt_cmpR op_eq (pe_ix ix_tup (pv 0) pe_int (fun _ _ => rfl)) pe_str (nomark _))
      (pss_cons (ps_aug (i := 1) sc_test_text.nd rfl (Or.inl rfl) pe_str ip_addS) (pss_one (ps_set (i := 0) sc_test_text.nd rfl (Or.inl rfl) (pe_ix ix_tup (pv 0) pe_int (fun _ _ => rfl))))))
    (pss_cons (ps_if (pt_cmpR op_eq (pe_ix ix_tup (pv 0) pe_int (fun _ _ => rfl)) pe_str (nomark _)) (pss_one (ps_ret (pe_joined (.cons (pe_fmt (pv 1)) (.cons (pe_fmt (pe_ix ix_tup (pv 0) pe_int (fun _ _ => rfl))) (.cons pe_str (.cons (pe_fmt (pe_ix ix_tup (pv 0) pe_int (fun _ _ => rfl))) .nil))))))) pss_nil)
    (pss_cons (ps_if (pt_cmpR op_eq (pe_ix ix_tup (pv 0) pe_int (fun _ _ => rfl)) pe_str (nomark _)) (pss_one (ps_ret (pe_joined (.cons (pe_fmt (pv 1)) (.cons pe_str (.cons (pe_fmt (pe_ix ix_tup (pv 0) pe_int (fun _ _ => rfl))) (.cons pe_str (.cons (pe_fmt (pe_ix ix_tup (pv 0) pe_int (fun _ _ => rfl))) .nil)))))))) pss_nil)
    (pss_one (ps_ret (pe_joined (.cons (pe_fmt (pv 1)) (.cons (pe_fmt (pe_ix ix_tup (pv 0) pe_int (fun _ _ => rfl))) (.cons pe_str (.cons (pe_fmt (pe_ix ix_tup (pv 0) pe_int (fun _ _ => rfl))) .nil)))))))))), ?_⟩
  refine q_asg ev_c fun H1 e1 => ?_
  refine q_while (fun m σ H' => ∃ (j : Nat) (u : V), m = t.nots - j ∧ j ≤ t.nots ∧ σ = [some u, some (.str (notS j))] ∧ Ex H H' ∧ Dp K H' u (encN (t.nots - j) (encBt t.bt))) t.nots ⟨0, v, rfl, Nat.zero_le _, rfl, e1, same_dp e1 hd⟩ ?_
  rintro m σ H' ⟨j, u, rfl, hj, rfl, e, hu⟩
  have hn := hok.1
  by_cases hlt : j < t.nots
  · have en : t.nots - j = (t.nots - (j + 1)) + 1 := by omega
    rw [en] at hu
    obtain ⟨a, u2, rfl, hs, hu2⟩ := dp_not hu
    refine ⟨true, et_test (ev_eqY (ev_at 0 (ev_var rfl) hs) ev_c rfl), fun _ H2 e2 => ⟨fun σ2 H3 => ∃ u : V, σ2 = [some u, some (.str (notS (j + 1)))] ∧ Ex H H3 ∧ Dp K H3 u (encN (t.nots - (j + 1)) (encBt t.bt)), fun σ2 H3 ⟨u, h1, h2, h3⟩ => ⟨t.nots - (j + 1), by omega, j + 1, u, rfl, hlt, h1, h2, h3⟩, ?_⟩, fun h => Bool.noConfusion h⟩
    refine ⟨_, rfl, _, _, rfl, rfl, ?_, ?_⟩
    · rw [notS_len]
      have e4 : ("not " : Str).length = 4 := by decide +kernel
      rw [e4]
      exact sz_of (by omega)
    · refine s_asg (ev_at 1 (ev_var rfl) (ex_t e2 hs)) fun H3 e3 => ?_
      exact ⟨u2, rfl, (e.trans e2).trans e3, same_dp (e2.trans e3) hu2⟩
  · have ej : j = t.nots := by omega
    subst ej
    have e0 : t.nots - t.nots = 0 := by omega
    rw [e0] at hu
    obtain ⟨a, rfl, hs⟩ := dp_bt (b := t.bt) hu
    have hq := hok.2
    have k2 : RetV (.str (cat (notS t.nots :: btCat t.bt))) H' Q := by
      rw [tst_text]
      exact RetV.ext k e
    have hnl : (notS t.nots).length ≤ 12 := by rw [notS_len]; omega
    generalize notS t.nots = nt at *
    generalize t.bt = b at *
    have lN : ("not" : Str).length = 3 := by decide +kernel
    have l1 : (" " : Str).length = 1 := by decide +kernel
    have l2 : (" is " : Str).length = 4 := by decide +kernel
    have l3 : ("." : Str).length = 1 := by decide +kernel
    have l4 : ("full " : Str).length = 5 := by decide +kernel
    have l5 : ("given" : Str).length = 5 := by decide +kernel
    have l6 : ("set" : Str).length = 3 := by decide +kernel
    have l7 : ("wished" : Str).length = 6 := by decide +kernel
    cases b with
    | giv i =>
      have hi : i < 100 := by
        have z : i < g := hq
        omega
      have hil : (num i).length ≤ 100 := by
        have := (num_solid hi).2.1
        rw [TL.len_tl]
        omega
      refine ⟨false, et_test (ev_eqN (ev_at 0 (ev_var rfl) hs) ev_c (by decide +kernel)), fun h => Bool.noConfusion h, fun _ H2 e2 => ?_⟩
      refine q_when (et_test (ev_eqS (ev_at 0 (ev_var rfl) (ex_t e2 hs)) ev_c)) (fun h => absurd h (by decide +kernel)) fun _ H3 e3 => ?_
      refine q_when (et_test (ev_eqS (ev_at 0 (ev_var rfl) (ex_t (e2.trans e3) hs)) ev_c)) (fun h => absurd h (by decide +kernel)) fun _ H4 e4 => ?_
      have hs4 := ex_t ((e2.trans e3).trans e4) hs
      refine s_ret (ev_fstr (.cons (ev_fmtS (ev_var rfl) (by omega)) (.cons (ev_fmtS (ev_at 0 (ev_var rfl) hs4) (by omega)) (.cons ev_c (.cons (ev_fmtN (ev_at 1 (ev_var rfl) hs4) hi) .nil)))) ?_) (RetV.ext k2 ((e2.trans e3).trans e4))
      simp only [List.map_cons, List.map_nil, List.sum_cons, List.sum_nil]
      omega
    | set x =>
      have hx := name8 hq
      have hx8 := word_len (name_word hq)
      refine ⟨false, et_test (ev_eqN (ev_at 0 (ev_var rfl) hs) ev_c (by decide +kernel)), fun h => Bool.noConfusion h, fun _ H2 e2 => ?_⟩
      refine q_when (et_test (ev_eqS (ev_at 0 (ev_var rfl) (ex_t e2 hs)) ev_c)) (fun h => absurd h (by decide +kernel)) fun _ H3 e3 => ?_
      refine q_when (et_test (ev_eqS (ev_at 0 (ev_var rfl) (ex_t (e2.trans e3) hs)) ev_c)) (fun h => absurd h (by decide +kernel)) fun _ H4 e4 => ?_
      have hs4 := ex_t ((e2.trans e3).trans e4) hs
      refine s_ret (ev_fstr (.cons (ev_fmtS (ev_var rfl) (by omega)) (.cons (ev_fmtS (ev_at 0 (ev_var rfl) hs4) (by omega)) (.cons ev_c (.cons (ev_fmtS (ev_at 1 (ev_var rfl) hs4) hx) .nil)))) ?_) (RetV.ext k2 ((e2.trans e3).trans e4))
      simp only [List.map_cons, List.map_nil, List.sum_cons, List.sum_nil]
      omega
    | wished x =>
      have hx := word8 hq
      have hx8 := word_len hq
      refine ⟨false, et_test (ev_eqN (ev_at 0 (ev_var rfl) hs) ev_c (by decide +kernel)), fun h => Bool.noConfusion h, fun _ H2 e2 => ?_⟩
      refine q_when (et_test (ev_eqS (ev_at 0 (ev_var rfl) (ex_t e2 hs)) ev_c)) (fun h => absurd h (by decide +kernel)) fun _ H3 e3 => ?_
      refine q_when (et_test (ev_eqS (ev_at 0 (ev_var rfl) (ex_t (e2.trans e3) hs)) ev_c)) (fun h => absurd h (by decide +kernel)) fun _ H4 e4 => ?_
      have hs4 := ex_t ((e2.trans e3).trans e4) hs
      refine s_ret (ev_fstr (.cons (ev_fmtS (ev_var rfl) (by omega)) (.cons (ev_fmtS (ev_at 0 (ev_var rfl) hs4) (by omega)) (.cons ev_c (.cons (ev_fmtS (ev_at 1 (ev_var rfl) hs4) hx) .nil)))) ?_) (RetV.ext k2 ((e2.trans e3).trans e4))
      simp only [List.map_cons, List.map_nil, List.sum_cons, List.sum_nil]
      omega
    | same x y =>
      have hx := word_len (name_word hq.1)
      have hy := word_len (name_word hq.2)
      refine ⟨false, et_test (ev_eqN (ev_at 0 (ev_var rfl) hs) ev_c (by decide +kernel)), fun h => Bool.noConfusion h, fun _ H2 e2 => ?_⟩
      refine q_when (et_test (ev_eqS (ev_at 0 (ev_var rfl) (ex_t e2 hs)) ev_c)) (fun _ H3 e3 => ?_) fun h => absurd h (by decide +kernel)
      have hs4 := ex_t (e2.trans e3) hs
      refine s_ret (ev_fstr (.cons (ev_fmtS (ev_var rfl) (by omega)) (.cons (ev_fmtS (ev_at 1 (ev_var rfl) hs4) (by omega)) (.cons ev_c (.cons (ev_fmtS (ev_at 2 (ev_var rfl) hs4) (by omega)) .nil)))) ?_) (RetV.ext k2 (e2.trans e3))
      simp only [List.map_cons, List.map_nil, List.sum_cons, List.sum_nil]
      omega
    | full x f =>
      have hx := word_len (name_word hq.1)
      have hy := word_len (name_word hq.2)
      refine ⟨false, et_test (ev_eqN (ev_at 0 (ev_var rfl) hs) ev_c (by decide +kernel)), fun h => Bool.noConfusion h, fun _ H2 e2 => ?_⟩
      refine q_when (et_test (ev_eqS (ev_at 0 (ev_var rfl) (ex_t e2 hs)) ev_c)) (fun h => absurd h (by decide +kernel)) fun _ H3 e3 => ?_
      refine q_when (et_test (ev_eqS (ev_at 0 (ev_var rfl) (ex_t (e2.trans e3) hs)) ev_c)) (fun _ H4 e4 => ?_) fun h => absurd h (by decide +kernel)
      have hs4 := ex_t ((e2.trans e3).trans e4) hs
      refine s_ret (ev_fstr (.cons (ev_fmtS (ev_var rfl) (by omega)) (.cons ev_c (.cons (ev_fmtS (ev_at 1 (ev_var rfl) hs4) (by omega)) (.cons ev_c (.cons (ev_fmtS (ev_at 2 (ev_var rfl) hs4) (by omega)) .nil))))) ?_) (RetV.ext k2 ((e2.trans e3).trans e4))
      simp only [List.map_cons, List.map_nil, List.sum_cons, List.sum_nil]
      omega
end
end K7
set_option maxHeartbeats 4000000
/-! statement_text (printed by gen_d3.py) -/
namespace K7
open PySem PySem.Spec PyProof.Rows L2 Evl
section
variable {P : Program} {w : World} {K : PySem.W.Frag} {mg : Str → Option Value} {base : Heap}
def spStText (K : PySem.W.Frag) : Sp := fun vs H Q _ => ∃ (v : V) (s : Stm) (g : Nat), vs = [v] ∧ Dp K H v (encS s) ∧ g ≤ 3 ∧ okS g s ∧ RetV (.str (jn (headW s))) H Q
theorem tst_len {g : Nat} {t : Tst} (hg : g ≤ 3) (h : t.ok g) : (jn (tstW t)).length ≤ 100 := by
  rw [← tst_text, TL.len_tl, tl_cat, List.map_cons, List.flatten_cons, List.length_append, ← TL.len_tl, notS_len]
  have l1 : (TL.tl (" " : Str)).length = 1 := by decide +kernel
  have l2 : (TL.tl (" is " : Str)).length = 4 := by decide +kernel
  have l3 : (TL.tl ("." : Str)).length = 1 := by decide +kernel
  have l4 : (TL.tl ("full " : Str)).length = 5 := by decide +kernel
  have l5 : (TL.tl ("given" : Str)).length = 5 := by decide +kernel
  have l6 : (TL.tl ("set" : Str)).length = 3 := by decide +kernel
  have l7 : (TL.tl ("wished" : Str)).length = 6 := by decide +kernel
  obtain ⟨n, b⟩ := t
  have hn : n ≤ 3 := h.1
  have hb : b.ok g := h.2
  cases b with
  | giv i =>
    have z : i < g := hb
    have := (num_solid (show i < 100 by omega)).2.1
    simp only [btCat, List.map_cons, List.map_nil, List.flatten_cons, List.flatten_nil, List.length_append, List.length_nil]
    omega
  | set x =>
    have a := word_len (name_word (show isName x = true from hb))
    rw [TL.len_tl] at a
    simp only [btCat, List.map_cons, List.map_nil, List.flatten_cons, List.flatten_nil, List.length_append, List.length_nil]
    omega
  | same x y =>
    have a := word_len (name_word (show isName x = true from hb.1))
    have b := word_len (name_word (show isName y = true from hb.2))
    rw [TL.len_tl] at a b
    simp only [btCat, List.map_cons, List.map_nil, List.flatten_cons, List.flatten_nil, List.length_append, List.length_nil]
    omega
  | full x y =>
    have a := word_len (name_word (show isName x = true from hb.1))
    have b := word_len (name_word (show isName y = true from hb.2))
    rw [TL.len_tl] at a b
    simp only [btCat, List.map_cons, List.map_nil, List.flatten_cons, List.flatten_nil, List.length_append, List.length_nil]
    omega
  | wished x =>
    have a := word_len (show isWord x = true from hb)
    rw [TL.len_tl] at a
    simp only [btCat, List.map_cons, List.map_nil, List.flatten_cons, List.flatten_nil, List.length_append, List.length_nil]
    omega
theorem head_iff (t : Tst) : cat ["if", " ", jn (tstW t)] = jn ("if" :: tstW t) := by
  refine TL.ext_tl ?_
  have h : tstW t ≠ [] := by
    unfold tstW
    simp [bt_kw_ne]
  rw [tl_cat, tl_jnN h]
  simp [tl_sp]
theorem head_rep (k : Nat) : cat ["repeat", " ", num k] = jn ["repeat", num k] := by
  refine TL.ext_tl ?_
  rw [tl_cat, tl_jn]
  simp [tl_sp, tl_jn1]
theorem ok_statement_text (T : Txt w K mg) : FOk P w K mg base 2 "statement_text" (spStText K) := by
  have GT : FOk P w K mg base 1 "test_text" (spTestText K) := ok_test_text T
  refine fok T.f_statement_text T.g_statement_text sc_statement_text (fun _ _ _ _ _ _ us hl => match us, hl with | [_], _ => rfl) (fun vs H Q E h => ?_) (fun cdv A outer s H vs Q E hr h => ?_)
  · obtain ⟨x, _, _, rfl, _⟩ := h
    rfl
  obtain ⟨v, s0, g, rfl, hd, hg, hok, k⟩ := h
  have nd := sc_statement_text.nd
  refine ⟨_, (pss_cons (ps_set (i := 1) nd rfl (Or.inl rfl) (pe_ix ix_tup (pv 0) pe_int (fun _ _ => rfl))) (pss_cons (ps_if (pt_cmpR op_in_seq (pv 1) (pe_tup (pa_cons pe_str (pa_cons pe_str pa_nil))) (by rfl)) (pss_one (ps_ret (pe_joined (.cons (pe_fmt (pv 1)) (.cons (pe_str) (.cons (pe_fmt (pe_f GT hr (pa_cons (pe_ix ix_tup (pv 0) pe_int (fun _ _ => rfl)) pa_nil))) .nil)))))) pss_nil) (pss_cons (ps_if (pt_cmpR op_eq (pv 1) pe_str (nomark _)) (pss_one (ps_ret (pe_joined (.cons (pe_fmt (pe_ix ix_tup (pv 0) pe_int (fun _ _ => rfl))) (.cons (pe_str) (.cons (pe_fmt (pe_ix ix_tup (pv 0) pe_int (fun _ _ => rfl))) .nil)))))) pss_nil) (pss_cons (ps_if (pt_cmpR op_eq (pv 1) pe_str (nomark _)) (pss_one (ps_ret (pe_joined (.cons (pe_fmt (pe_ix ix_tup (pv 0) pe_int (fun _ _ => rfl))) (.cons (pe_str) (.cons (pe_fmt (pe_ix ix_tup (pv 0) pe_int (fun _ _ => rfl))) (.cons (pe_str) (.cons (pe_fmt (pe_ix ix_tup (pv 0) pe_int (fun _ _ => rfl))) .nil)))))))) pss_nil) (pss_cons (ps_if (pt_cmpR op_in_seq (pv 1) (pe_tup (pa_cons pe_str (pa_cons pe_str pa_nil))) (by rfl)) (pss_cons (ps_set (i := 2) nd rfl (Or.inl rfl) (pe_ifExp (pt_cmpR op_eq (pv 1) pe_str (nomark _)) pe_str pe_str)) (pss_one (ps_ret (pe_joined (.cons (pe_fmt (pe_ix ix_tup (pv 0) pe_int (fun _ _ => rfl))) (.cons (pe_str) (.cons (pe_fmt (pe_ix ix_tup (pv 0) pe_int (fun _ _ => rfl))) (.cons (pe_str) (.cons (pe_fmt (pv 2)) (.cons (pe_str) (.cons (pe_fmt (pe_ix ix_tup (pv 0) pe_int (fun _ _ => rfl))) .nil))))))))))) pss_nil) (pss_cons (ps_if (pt_cmpR op_eq (pv 1) pe_str (nomark _)) (pss_one (ps_ret (pe_joined (.cons (pe_str) (.cons (pe_fmt (pe_ix ix_tup (pv 0) pe_int (fun _ _ => rfl))) (.cons (pe_str) (.cons (pe_fmt (pe_ix ix_tup (pv 0) pe_int (fun _ _ => rfl))) .nil))))))) pss_nil) (pss_cons (ps_if (pt_cmpR op_eq (pv 1) pe_str (nomark _)) (pss_one (ps_ret (pe_joined (.cons (pe_str) (.cons (pe_fmt (pe_ix ix_tup (pv 0) pe_int (fun _ _ => rfl))) (.cons (pe_str) (.cons (pe_fmt (pe_ix ix_tup (pv 0) pe_int (fun _ _ => rfl))) .nil))))))) pss_nil) (pss_one (ps_ret (pe_joined (.cons (pe_fmt (pv 1)) (.cons (pe_str) (.cons (pe_fmt (pe_ix ix_tup (pv 0) pe_int (fun _ _ => rfl))) .nil))))))))))))), ?_⟩
  have c1 : ("make" : Str).length = 4 := by decide +kernel
  have c2 : ("keep" : Str).length = 4 := by decide +kernel
  have c3 : ("drop" : Str).length = 4 := by decide +kernel
  have c4 : ("say" : Str).length = 3 := by decide +kernel
  have c5 : ("wish " : Str).length = 5 := by decide +kernel
  have c6 : (" " : Str).length = 1 := by decide +kernel
  have c7 : (" = " : Str).length = 3 := by decide +kernel
  have c8 : ("." : Str).length = 1 := by decide +kernel
  have c9 : ("cut " : Str).length = 4 := by decide +kernel
  have d1 : ("ask" : Str).length = 3 := by decide +kernel
  have d2 : ("if" : Str).length = 2 := by decide +kernel
  have d3 : ("repeat" : Str).length = 6 := by decide +kernel
  have d4 : ("=" : Str).length = 1 := by decide +kernel
  have d5 : ("~" : Str).length = 1 := by decide +kernel
  cases s0 with
  | iff t y n =>
    obtain ⟨a, u, b, c, rfl, hs, hu, hb, hc⟩ := dp_iff hd
    have hok2 : t.ok g := hok.1
    have k2 : RetV (.str (cat ["if", " ", jn (tstW t)])) H Q := by
      rw [head_iff]
      exact k
    have hl := tst_len hg hok2
    refine q_asg (ev_at 0 (ev_var rfl) hs) fun H1 e1 => ?_
    refine q_when (et_test (ev_inU (ev_var rfl) (eu_tup (ea_cons ev_c (ea_cons ev_c ea_nil)) (by decide)) rfl rfl)) (fun _ H2 e2 => ?_) fun h => absurd h (by decide +kernel)
    have hs9 := ex_t (e1.trans e2) hs
    refine s_ret (ev_fstr (.cons (ev_fmtS (ev_var rfl) (by omega)) (.cons ev_c (.cons (ev_fmtS (ev_call (ea_cons (ev_at 1 (ev_var rfl) hs9) ea_nil) (fun H3 e3 Q' q E' => ⟨u, t, g, rfl, same_dp ((e1.trans e2).trans e3) hu, hg, hok2, q⟩)) (by omega)) .nil))) ?_) (RetV.ext k2 (e1.trans e2))
    simp only [List.map_cons, List.map_nil, List.sum_cons, List.sum_nil]
    omega
  | rep n b =>
    obtain ⟨a, u, rfl, hs, hu⟩ := dp_rep hd
    have hn : n ≤ 12 := hok.1
    have k2 : RetV (.str (cat ["repeat", " ", num n])) H Q := by
      rw [head_rep]
      exact k
    have hl := (num_solid (show n < 100 by omega)).2.1
    rw [← TL.len_tl] at hl
    refine q_asg (ev_at 0 (ev_var rfl) hs) fun H1 e1 => ?_
    refine q_when (et_test (ev_inU (ev_var rfl) (eu_tup (ea_cons ev_c (ea_cons ev_c ea_nil)) (by decide)) rfl rfl)) (fun h => absurd h (by decide +kernel)) fun _ H2 e2 => ?_
    refine q_when (et_test (ev_eqS (ev_var rfl) ev_c)) (fun h => absurd h (by decide +kernel)) fun _ H3 e3 => ?_
    refine q_when (et_test (ev_eqS (ev_var rfl) ev_c)) (fun h => absurd h (by decide +kernel)) fun _ H4 e4 => ?_
    refine q_when (et_test (ev_inU (ev_var rfl) (eu_tup (ea_cons ev_c (ea_cons ev_c ea_nil)) (by decide)) rfl rfl)) (fun h => absurd h (by decide +kernel)) fun _ H5 e5 => ?_
    refine q_when (et_test (ev_eqS (ev_var rfl) ev_c)) (fun h => absurd h (by decide +kernel)) fun _ H6 e6 => ?_
    refine q_when (et_test (ev_eqS (ev_var rfl) ev_c)) (fun h => absurd h (by decide +kernel)) fun _ H7 e7 => ?_
    have hs9 := ex_t ((((((e1.trans e2).trans e3).trans e4).trans e5).trans e6).trans e7) hs
    refine s_ret (ev_fstr (.cons (ev_fmtS (ev_var rfl) (by omega)) (.cons ev_c (.cons (ev_fmtN (ev_at 1 (ev_var rfl) hs9) (by omega)) .nil))) ?_) (RetV.ext k2 ((((((e1.trans e2).trans e3).trans e4).trans e5).trans e6).trans e7))
    simp only [List.map_cons, List.map_nil, List.sum_cons, List.sum_nil]
    omega
  | pln p =>
    have hp : Dp K H v (encP p) := by
      rw [encS] at hd
      exact hd
    have k2 : RetV (.str (cat (plnCat p))) H Q := by
      rw [pln_text]
      exact k
    obtain ⟨a, u, rfl, hs, hu⟩ := dp_pln hp
    cases p with
      | ask t =>
        have hok2 : t.ok g := hok
        have hl := tst_len hg hok2
        refine q_asg (ev_at 0 (ev_var rfl) hs) fun H1 e1 => ?_
        refine q_when (et_test (ev_inU (ev_var rfl) (eu_tup (ea_cons ev_c (ea_cons ev_c ea_nil)) (by decide)) rfl rfl)) (fun _ H2 e2 => ?_) fun h => absurd h (by decide +kernel)
        have hs9 := ex_t (e1.trans e2) hs
        refine s_ret (ev_fstr (.cons (ev_fmtS (ev_var rfl) (by omega)) (.cons ev_c (.cons (ev_fmtS (ev_call (ea_cons (ev_at 1 (ev_var rfl) hs9) ea_nil) (fun H3 e3 Q' q E' => ⟨u, t, g, rfl, same_dp ((e1.trans e2).trans e3) hu, hg, hok2, q⟩)) (by omega)) .nil))) ?_) (RetV.ext k2 (e1.trans e2))
        simp only [List.map_cons, List.map_nil, List.sum_cons, List.sum_nil]
        omega
      | make x =>
        have l_x := word_len (name_word (show isName x = true from hok))
        refine q_asg (ev_at 0 (ev_var rfl) hs) fun H1 e1 => ?_
        refine q_when (et_test (ev_inU (ev_var rfl) (eu_tup (ea_cons ev_c (ea_cons ev_c ea_nil)) (by decide)) rfl rfl)) (fun h => absurd h (by decide +kernel)) fun _ H2 e2 => ?_
        refine q_when (et_test (ev_eqS (ev_var rfl) ev_c)) (fun h => absurd h (by decide +kernel)) fun _ H3 e3 => ?_
        refine q_when (et_test (ev_eqS (ev_var rfl) ev_c)) (fun h => absurd h (by decide +kernel)) fun _ H4 e4 => ?_
        refine q_when (et_test (ev_inU (ev_var rfl) (eu_tup (ea_cons ev_c (ea_cons ev_c ea_nil)) (by decide)) rfl rfl)) (fun h => absurd h (by decide +kernel)) fun _ H5 e5 => ?_
        refine q_when (et_test (ev_eqS (ev_var rfl) ev_c)) (fun h => absurd h (by decide +kernel)) fun _ H6 e6 => ?_
        refine q_when (et_test (ev_eqS (ev_var rfl) ev_c)) (fun h => absurd h (by decide +kernel)) fun _ H7 e7 => ?_
        have hs9 := ex_t ((((((e1.trans e2).trans e3).trans e4).trans e5).trans e6).trans e7) hs
        refine s_ret (ev_fstr (.cons (ev_fmtS (ev_var rfl) (by omega)) (.cons (ev_c) (.cons (ev_fmtS (ev_at 1 (ev_var rfl) hs9) (by omega)) .nil))) ?_) (RetV.ext k2 ((((((e1.trans e2).trans e3).trans e4).trans e5).trans e6).trans e7))
        simp only [List.map_cons, List.map_nil, List.sum_cons, List.sum_nil]
        omega
      | keep x =>
        have l_x := word_len (name_word (show isName x = true from hok))
        refine q_asg (ev_at 0 (ev_var rfl) hs) fun H1 e1 => ?_
        refine q_when (et_test (ev_inU (ev_var rfl) (eu_tup (ea_cons ev_c (ea_cons ev_c ea_nil)) (by decide)) rfl rfl)) (fun h => absurd h (by decide +kernel)) fun _ H2 e2 => ?_
        refine q_when (et_test (ev_eqS (ev_var rfl) ev_c)) (fun h => absurd h (by decide +kernel)) fun _ H3 e3 => ?_
        refine q_when (et_test (ev_eqS (ev_var rfl) ev_c)) (fun h => absurd h (by decide +kernel)) fun _ H4 e4 => ?_
        refine q_when (et_test (ev_inU (ev_var rfl) (eu_tup (ea_cons ev_c (ea_cons ev_c ea_nil)) (by decide)) rfl rfl)) (fun h => absurd h (by decide +kernel)) fun _ H5 e5 => ?_
        refine q_when (et_test (ev_eqS (ev_var rfl) ev_c)) (fun h => absurd h (by decide +kernel)) fun _ H6 e6 => ?_
        refine q_when (et_test (ev_eqS (ev_var rfl) ev_c)) (fun h => absurd h (by decide +kernel)) fun _ H7 e7 => ?_
        have hs9 := ex_t ((((((e1.trans e2).trans e3).trans e4).trans e5).trans e6).trans e7) hs
        refine s_ret (ev_fstr (.cons (ev_fmtS (ev_var rfl) (by omega)) (.cons (ev_c) (.cons (ev_fmtS (ev_at 1 (ev_var rfl) hs9) (by omega)) .nil))) ?_) (RetV.ext k2 ((((((e1.trans e2).trans e3).trans e4).trans e5).trans e6).trans e7))
        simp only [List.map_cons, List.map_nil, List.sum_cons, List.sum_nil]
        omega
      | drop x =>
        have l_x := word_len (name_word (show isName x = true from hok))
        refine q_asg (ev_at 0 (ev_var rfl) hs) fun H1 e1 => ?_
        refine q_when (et_test (ev_inU (ev_var rfl) (eu_tup (ea_cons ev_c (ea_cons ev_c ea_nil)) (by decide)) rfl rfl)) (fun h => absurd h (by decide +kernel)) fun _ H2 e2 => ?_
        refine q_when (et_test (ev_eqS (ev_var rfl) ev_c)) (fun h => absurd h (by decide +kernel)) fun _ H3 e3 => ?_
        refine q_when (et_test (ev_eqS (ev_var rfl) ev_c)) (fun h => absurd h (by decide +kernel)) fun _ H4 e4 => ?_
        refine q_when (et_test (ev_inU (ev_var rfl) (eu_tup (ea_cons ev_c (ea_cons ev_c ea_nil)) (by decide)) rfl rfl)) (fun h => absurd h (by decide +kernel)) fun _ H5 e5 => ?_
        refine q_when (et_test (ev_eqS (ev_var rfl) ev_c)) (fun h => absurd h (by decide +kernel)) fun _ H6 e6 => ?_
        refine q_when (et_test (ev_eqS (ev_var rfl) ev_c)) (fun h => absurd h (by decide +kernel)) fun _ H7 e7 => ?_
        have hs9 := ex_t ((((((e1.trans e2).trans e3).trans e4).trans e5).trans e6).trans e7) hs
        refine s_ret (ev_fstr (.cons (ev_fmtS (ev_var rfl) (by omega)) (.cons (ev_c) (.cons (ev_fmtS (ev_at 1 (ev_var rfl) hs9) (by omega)) .nil))) ?_) (RetV.ext k2 ((((((e1.trans e2).trans e3).trans e4).trans e5).trans e6).trans e7))
        simp only [List.map_cons, List.map_nil, List.sum_cons, List.sum_nil]
        omega
      | say w =>
        have l_w := word_len (show isWord w = true from hok)
        refine q_asg (ev_at 0 (ev_var rfl) hs) fun H1 e1 => ?_
        refine q_when (et_test (ev_inU (ev_var rfl) (eu_tup (ea_cons ev_c (ea_cons ev_c ea_nil)) (by decide)) rfl rfl)) (fun h => absurd h (by decide +kernel)) fun _ H2 e2 => ?_
        refine q_when (et_test (ev_eqS (ev_var rfl) ev_c)) (fun h => absurd h (by decide +kernel)) fun _ H3 e3 => ?_
        refine q_when (et_test (ev_eqS (ev_var rfl) ev_c)) (fun h => absurd h (by decide +kernel)) fun _ H4 e4 => ?_
        refine q_when (et_test (ev_inU (ev_var rfl) (eu_tup (ea_cons ev_c (ea_cons ev_c ea_nil)) (by decide)) rfl rfl)) (fun h => absurd h (by decide +kernel)) fun _ H5 e5 => ?_
        refine q_when (et_test (ev_eqS (ev_var rfl) ev_c)) (fun h => absurd h (by decide +kernel)) fun _ H6 e6 => ?_
        refine q_when (et_test (ev_eqS (ev_var rfl) ev_c)) (fun h => absurd h (by decide +kernel)) fun _ H7 e7 => ?_
        have hs9 := ex_t ((((((e1.trans e2).trans e3).trans e4).trans e5).trans e6).trans e7) hs
        refine s_ret (ev_fstr (.cons (ev_fmtS (ev_var rfl) (by omega)) (.cons (ev_c) (.cons (ev_fmtS (ev_at 1 (ev_var rfl) hs9) (by omega)) .nil))) ?_) (RetV.ext k2 ((((((e1.trans e2).trans e3).trans e4).trans e5).trans e6).trans e7))
        simp only [List.map_cons, List.map_nil, List.sum_cons, List.sum_nil]
        omega
      | wish x w =>
        have l_x := word_len (name_word (show isName x = true from hok.1))
        have l_w := word_len (show isWord w = true from hok.2)
        refine q_asg (ev_at 0 (ev_var rfl) hs) fun H1 e1 => ?_
        refine q_when (et_test (ev_inU (ev_var rfl) (eu_tup (ea_cons ev_c (ea_cons ev_c ea_nil)) (by decide)) rfl rfl)) (fun h => absurd h (by decide +kernel)) fun _ H2 e2 => ?_
        refine q_when (et_test (ev_eqS (ev_var rfl) ev_c)) (fun h => absurd h (by decide +kernel)) fun _ H3 e3 => ?_
        refine q_when (et_test (ev_eqS (ev_var rfl) ev_c)) (fun h => absurd h (by decide +kernel)) fun _ H4 e4 => ?_
        refine q_when (et_test (ev_inU (ev_var rfl) (eu_tup (ea_cons ev_c (ea_cons ev_c ea_nil)) (by decide)) rfl rfl)) (fun h => absurd h (by decide +kernel)) fun _ H5 e5 => ?_
        refine q_when (et_test (ev_eqS (ev_var rfl) ev_c)) (fun h => absurd h (by decide +kernel)) fun _ H6 e6 => ?_
        refine q_when (et_test (ev_eqS (ev_var rfl) ev_c)) (fun _ H7 e7 => ?_) fun h => absurd h (by decide +kernel)
        have hs9 := ex_t ((((((e1.trans e2).trans e3).trans e4).trans e5).trans e6).trans e7) hs
        refine s_ret (ev_fstr (.cons (ev_c) (.cons (ev_fmtS (ev_at 1 (ev_var rfl) hs9) (by omega)) (.cons (ev_c) (.cons (ev_fmtS (ev_at 2 (ev_var rfl) hs9) (by omega)) .nil)))) ?_) (RetV.ext k2 ((((((e1.trans e2).trans e3).trans e4).trans e5).trans e6).trans e7))
        simp only [List.map_cons, List.map_nil, List.sum_cons, List.sum_nil]
        omega
      | name x y =>
        have l_x := word_len (name_word (show isName x = true from hok.1))
        have l_y := word_len (name_word (show isName y = true from hok.2))
        refine q_asg (ev_at 0 (ev_var rfl) hs) fun H1 e1 => ?_
        refine q_when (et_test (ev_inU (ev_var rfl) (eu_tup (ea_cons ev_c (ea_cons ev_c ea_nil)) (by decide)) rfl rfl)) (fun h => absurd h (by decide +kernel)) fun _ H2 e2 => ?_
        refine q_when (et_test (ev_eqS (ev_var rfl) ev_c)) (fun _ H3 e3 => ?_) fun h => absurd h (by decide +kernel)
        have hs9 := ex_t ((e1.trans e2).trans e3) hs
        refine s_ret (ev_fstr (.cons (ev_fmtS (ev_at 1 (ev_var rfl) hs9) (by omega)) (.cons (ev_c) (.cons (ev_fmtS (ev_at 2 (ev_var rfl) hs9) (by omega)) .nil))) ?_) (RetV.ext k2 ((e1.trans e2).trans e3))
        simp only [List.map_cons, List.map_nil, List.sum_cons, List.sum_nil]
        omega
      | take z x f =>
        have l_z := word_len (name_word (show isName z = true from hok.1))
        have l_x := word_len (name_word (show isName x = true from hok.2.1))
        have l_f := word_len (name_word (show isName f = true from hok.2.2))
        refine q_asg (ev_at 0 (ev_var rfl) hs) fun H1 e1 => ?_
        refine q_when (et_test (ev_inU (ev_var rfl) (eu_tup (ea_cons ev_c (ea_cons ev_c ea_nil)) (by decide)) rfl rfl)) (fun h => absurd h (by decide +kernel)) fun _ H2 e2 => ?_
        refine q_when (et_test (ev_eqS (ev_var rfl) ev_c)) (fun h => absurd h (by decide +kernel)) fun _ H3 e3 => ?_
        refine q_when (et_test (ev_eqS (ev_var rfl) ev_c)) (fun _ H4 e4 => ?_) fun h => absurd h (by decide +kernel)
        have hs9 := ex_t (((e1.trans e2).trans e3).trans e4) hs
        refine s_ret (ev_fstr (.cons (ev_fmtS (ev_at 1 (ev_var rfl) hs9) (by omega)) (.cons (ev_c) (.cons (ev_fmtS (ev_at 2 (ev_var rfl) hs9) (by omega)) (.cons (ev_c) (.cons (ev_fmtS (ev_at 3 (ev_var rfl) hs9) (by omega)) .nil))))) ?_) (RetV.ext k2 (((e1.trans e2).trans e3).trans e4))
        simp only [List.map_cons, List.map_nil, List.sum_cons, List.sum_nil]
        omega
      | hold x f y =>
        have l_x := word_len (name_word (show isName x = true from hok.1))
        have l_f := word_len (name_word (show isName f = true from hok.2.1))
        have l_y := word_len (name_word (show isName y = true from hok.2.2))
        refine q_asg (ev_at 0 (ev_var rfl) hs) fun H1 e1 => ?_
        refine q_when (et_test (ev_inU (ev_var rfl) (eu_tup (ea_cons ev_c (ea_cons ev_c ea_nil)) (by decide)) rfl rfl)) (fun h => absurd h (by decide +kernel)) fun _ H2 e2 => ?_
        refine q_when (et_test (ev_eqS (ev_var rfl) ev_c)) (fun h => absurd h (by decide +kernel)) fun _ H3 e3 => ?_
        refine q_when (et_test (ev_eqS (ev_var rfl) ev_c)) (fun h => absurd h (by decide +kernel)) fun _ H4 e4 => ?_
        refine q_when (et_test (ev_inU (ev_var rfl) (eu_tup (ea_cons ev_c (ea_cons ev_c ea_nil)) (by decide)) rfl rfl)) (fun _ H5 e5 => ?_) fun h => absurd h (by decide +kernel)
        refine q_asg (v := .str "=") (ev_if (et_test (ev_eqS (ev_var rfl) ev_c)) (fun _ => ev_c) fun h => absurd h (by decide +kernel)) fun H6 e6 => ?_
        have hs9 := ex_t (((((e1.trans e2).trans e3).trans e4).trans e5).trans e6) hs
        refine s_ret (ev_fstr (.cons (ev_fmtS (ev_at 1 (ev_var rfl) hs9) (by omega)) (.cons (ev_c) (.cons (ev_fmtS (ev_at 2 (ev_var rfl) hs9) (by omega)) (.cons (ev_c) (.cons (ev_fmtS (ev_var rfl) (by omega)) (.cons (ev_c) (.cons (ev_fmtS (ev_at 3 (ev_var rfl) hs9) (by omega)) .nil))))))) ?_) (RetV.ext k2 (((((e1.trans e2).trans e3).trans e4).trans e5).trans e6))
        simp only [List.map_cons, List.map_nil, List.sum_cons, List.sum_nil]
        omega
      | weak x f y =>
        have l_x := word_len (name_word (show isName x = true from hok.1))
        have l_f := word_len (name_word (show isName f = true from hok.2.1))
        have l_y := word_len (name_word (show isName y = true from hok.2.2))
        refine q_asg (ev_at 0 (ev_var rfl) hs) fun H1 e1 => ?_
        refine q_when (et_test (ev_inU (ev_var rfl) (eu_tup (ea_cons ev_c (ea_cons ev_c ea_nil)) (by decide)) rfl rfl)) (fun h => absurd h (by decide +kernel)) fun _ H2 e2 => ?_
        refine q_when (et_test (ev_eqS (ev_var rfl) ev_c)) (fun h => absurd h (by decide +kernel)) fun _ H3 e3 => ?_
        refine q_when (et_test (ev_eqS (ev_var rfl) ev_c)) (fun h => absurd h (by decide +kernel)) fun _ H4 e4 => ?_
        refine q_when (et_test (ev_inU (ev_var rfl) (eu_tup (ea_cons ev_c (ea_cons ev_c ea_nil)) (by decide)) rfl rfl)) (fun _ H5 e5 => ?_) fun h => absurd h (by decide +kernel)
        refine q_asg (v := .str "~") (ev_if (et_test (ev_eqS (ev_var rfl) ev_c)) (fun h => absurd h (by decide +kernel)) fun _ => ev_c) fun H6 e6 => ?_
        have hs9 := ex_t (((((e1.trans e2).trans e3).trans e4).trans e5).trans e6) hs
        refine s_ret (ev_fstr (.cons (ev_fmtS (ev_at 1 (ev_var rfl) hs9) (by omega)) (.cons (ev_c) (.cons (ev_fmtS (ev_at 2 (ev_var rfl) hs9) (by omega)) (.cons (ev_c) (.cons (ev_fmtS (ev_var rfl) (by omega)) (.cons (ev_c) (.cons (ev_fmtS (ev_at 3 (ev_var rfl) hs9) (by omega)) .nil))))))) ?_) (RetV.ext k2 (((((e1.trans e2).trans e3).trans e4).trans e5).trans e6))
        simp only [List.map_cons, List.map_nil, List.sum_cons, List.sum_nil]
        omega
      | cut x f =>
        have l_x := word_len (name_word (show isName x = true from hok.1))
        have l_f := word_len (name_word (show isName f = true from hok.2))
        refine q_asg (ev_at 0 (ev_var rfl) hs) fun H1 e1 => ?_
        refine q_when (et_test (ev_inU (ev_var rfl) (eu_tup (ea_cons ev_c (ea_cons ev_c ea_nil)) (by decide)) rfl rfl)) (fun h => absurd h (by decide +kernel)) fun _ H2 e2 => ?_
        refine q_when (et_test (ev_eqS (ev_var rfl) ev_c)) (fun h => absurd h (by decide +kernel)) fun _ H3 e3 => ?_
        refine q_when (et_test (ev_eqS (ev_var rfl) ev_c)) (fun h => absurd h (by decide +kernel)) fun _ H4 e4 => ?_
        refine q_when (et_test (ev_inU (ev_var rfl) (eu_tup (ea_cons ev_c (ea_cons ev_c ea_nil)) (by decide)) rfl rfl)) (fun h => absurd h (by decide +kernel)) fun _ H5 e5 => ?_
        refine q_when (et_test (ev_eqS (ev_var rfl) ev_c)) (fun _ H6 e6 => ?_) fun h => absurd h (by decide +kernel)
        have hs9 := ex_t (((((e1.trans e2).trans e3).trans e4).trans e5).trans e6) hs
        refine s_ret (ev_fstr (.cons (ev_c) (.cons (ev_fmtS (ev_at 1 (ev_var rfl) hs9) (by omega)) (.cons (ev_c) (.cons (ev_fmtS (ev_at 2 (ev_var rfl) hs9) (by omega)) .nil)))) ?_) (RetV.ext k2 (((((e1.trans e2).trans e3).trans e4).trans e5).trans e6))
        simp only [List.map_cons, List.map_nil, List.sum_cons, List.sum_nil]
        omega
end
end K7
set_option maxHeartbeats 4000000
/-! what the data of programs are like: depth, weight, signs -/
namespace K7
open PySem PySem.Spec PyProof.Rows L2 Evl PyData
structure Good (d : PyData) (n m : Nat) : Prop where
  lay : d.canLay0 = true
  dep : d.depth ≤ n
  wt : d.weight ≤ m
  sh : d.showable = true
  sho : d.intsShort 13 = true
structure GoodAll (ds : List PyData) (n m : Nat) : Prop where
  lay : canLayAll0 ds = true
  dep : depthAll ds ≤ n
  wt : weightAll ds ≤ m
  sh : showableAll ds = true
  sho : intsShortAll 13 ds = true
theorem Good.mono {d : PyData} {n m n' m' : Nat} (h : Good d n m) (hn : n ≤ n') (hm : m ≤ m') : Good d n' m' := ⟨h.lay, Nat.le_trans h.dep hn, Nat.le_trans h.wt hm, h.sh, h.sho⟩
theorem GoodAll.mono {d : List PyData} {n m n' m' : Nat} (h : GoodAll d n m) (hn : n ≤ n') (hm : m ≤ m') : GoodAll d n' m' := ⟨h.lay, Nat.le_trans h.dep hn, Nat.le_trans h.wt hm, h.sh, h.sho⟩
theorem good_nil {n m : Nat} : GoodAll [] n m := ⟨by simp [canLayAll0], by simp [depthAll], by simp [weightAll], by simp [showableAll], by simp [intsShortAll]⟩
theorem good_cons {d : PyData} {ds : List PyData} {n m k : Nat} (h : Good d n m) (t : GoodAll ds n k) : GoodAll (d :: ds) n (m + 1 + k) := by
  have a := h.dep
  have b := t.dep
  have c := h.wt
  have e := t.wt
  refine ⟨by simp [canLayAll0, h.lay, t.lay], ?_, ?_, by simp [showableAll, h.sh, t.sh], by simp [intsShortAll, h.sho, t.sho]⟩
  · simp only [depthAll]
    omega
  · simp only [weightAll]
    omega
theorem good_tup {ds : List PyData} {n m : Nat} (t : GoodAll ds n m) : Good (.tuple ds) (n + 1) m := by
  have b := t.dep
  have e := t.wt
  refine ⟨by simp [canLay0, t.lay], ?_, ?_, by simp [showable, t.sh], by simp [intsShort, t.sho]⟩
  · simp only [depth]
    omega
  · simp only [weight]
    omega
theorem good_str {x : Str} {n m : Nat} (hl : x.length ≤ m) (hc : ∀ c ∈ TL.tl x, c < 128) : Good (.str x) n m := by
  refine ⟨?_, by simp [depth], ?_, by simp [showable], by simp [intsShort]⟩
  · simp only [canLay0, strOk]
    rw [Array.all_eq_true_iff_forall_mem]
    intro c hm
    have := hc c (Array.mem_toList_iff.mpr hm)
    simp
    omega
  · simp only [weight]
    exact hl
theorem good_lit {x : Str} {n : Nat} (h : (decide (x.length ≤ 8) && (TL.tl x).all fun c => decide (c < 128)) = true := by decide +kernel) : Good (.str x) n 8 := by
  rw [Bool.and_eq_true, decide_eq_true_iff, List.all_eq_true] at h
  exact good_str h.1 fun c hc => of_decide_eq_true (h.2 c hc)
theorem good_word {x : Str} {n : Nat} (h : isWord x = true) : Good (.str x) n 8 := good_str (word_len h).2 fun c hc => by
  have := word_sgn h c hc
  omega
theorem good_name {x : Str} {n : Nat} (h : isName x = true) : Good (.str x) n 8 := good_word (name_word h)
theorem good_num {i n : Nat} (h : i < 100) : Good (.int (i : Int)) n 8 := by
  have hl : i.log2 ≤ 6 := by
    have : i.log2 < 7 ∨ i = 0 := by
      by_cases h0 : i = 0
      · exact .inr h0
      · exact .inl ((Nat.log2_lt h0).mpr (by omega))
    rcases this with h | h
    · omega
    · subst h
      decide
  refine ⟨by simp [canLay0], by simp [depth], ?_, ?_, ?_⟩
  · simp only [weight]
    split
    · omega
    · have e : ((i : Int)).natAbs = i := by omega
      rw [e]
      omega
  · simp only [showable, decide_eq_true_iff]
    have e : ((i : Int)).natAbs = i := by omega
    rw [e]
    omega
  · simp only [intsShort, decide_eq_true_iff]
    exact shown_int_le (by omega)
theorem good_bt {g : Nat} (hg : g ≤ 3) {b : Bt} (h : b.ok g) : Good (encBt b) 1 30 := by
  cases b with
  | giv i =>
    have z : i < g := h
    exact (good_tup (good_cons good_lit (good_cons (good_num (n := 0) (by omega)) (good_nil (m := 0))))).mono (by omega) (by omega)
  | set x => exact (good_tup (good_cons good_lit (good_cons (good_name (n := 0) h) (good_nil (m := 0))))).mono (by omega) (by omega)
  | same x y => exact (good_tup (good_cons good_lit (good_cons (good_name (n := 0) h.1) (good_cons (good_name h.2) (good_nil (m := 0)))))).mono (by omega) (by omega)
  | full x y => exact (good_tup (good_cons good_lit (good_cons (good_name (n := 0) h.1) (good_cons (good_name h.2) (good_nil (m := 0)))))).mono (by omega) (by omega)
  | wished x => exact (good_tup (good_cons good_lit (good_cons (good_word (n := 0) h) (good_nil (m := 0))))).mono (by omega) (by omega)
theorem good_encN {d : PyData} {n m : Nat} (h : Good d n m) : ∀ k : Nat, Good (encN k d) (n + k) (m + 10 * k)
  | 0 => h
  | k + 1 => (good_tup (good_cons good_lit (good_cons (good_encN h k) (good_nil (m := 0))))).mono (by omega) (by omega)
theorem good_tst {g : Nat} (hg : g ≤ 3) {t : Tst} (h : t.ok g) : Good (encT t) 4 60 := (good_encN (good_bt hg h.2) t.nots).mono (by have := h.1; omega) (by have := h.1; omega)
theorem good_pln {g : Nat} (hg : g ≤ 3) {p : Pln} (h : p.ok g) : Good (encP p) 5 100 := by
  cases p with
  | make x => exact (good_tup (good_cons good_lit (good_cons (good_name (n := 0) h) (good_nil (m := 0))))).mono (by omega) (by omega)
  | keep x => exact (good_tup (good_cons good_lit (good_cons (good_name (n := 0) h) (good_nil (m := 0))))).mono (by omega) (by omega)
  | drop x => exact (good_tup (good_cons good_lit (good_cons (good_name (n := 0) h) (good_nil (m := 0))))).mono (by omega) (by omega)
  | wish x w => exact (good_tup (good_cons good_lit (good_cons (good_name (n := 0) h.1) (good_cons (good_word h.2) (good_nil (m := 0)))))).mono (by omega) (by omega)
  | name x y => exact (good_tup (good_cons good_lit (good_cons (good_name (n := 0) h.1) (good_cons (good_name h.2) (good_nil (m := 0)))))).mono (by omega) (by omega)
  | hold x f y => exact (good_tup (good_cons good_lit (good_cons (good_name (n := 0) h.1) (good_cons (good_name h.2.1) (good_cons (good_name h.2.2) (good_nil (m := 0))))))).mono (by omega) (by omega)
  | weak x f y => exact (good_tup (good_cons good_lit (good_cons (good_name (n := 0) h.1) (good_cons (good_name h.2.1) (good_cons (good_name h.2.2) (good_nil (m := 0))))))).mono (by omega) (by omega)
  | cut x f => exact (good_tup (good_cons good_lit (good_cons (good_name (n := 0) h.1) (good_cons (good_name h.2) (good_nil (m := 0)))))).mono (by omega) (by omega)
  | take z x f => exact (good_tup (good_cons good_lit (good_cons (good_name (n := 0) h.1) (good_cons (good_name h.2.1) (good_cons (good_name h.2.2) (good_nil (m := 0))))))).mono (by omega) (by omega)
  | say w => exact (good_tup (good_cons good_lit (good_cons (good_word (n := 0) h) (good_nil (m := 0))))).mono (by omega) (by omega)
  | ask t => exact (good_tup (good_cons good_lit (good_cons (good_tst hg h) (good_nil (m := 0))))).mono (by omega) (by omega)
mutual
theorem good_S {g : Nat} (hg : g ≤ 3) : ∀ {s : Stm}, okS g s → Good (encS s) (2 * htS s + 4) (112 * cnS s - 1)
  | .pln p, h => by
    rw [encS]
    exact (good_pln hg (show p.ok g from h)).mono (by rw [htS]; omega) (by rw [cnS]; omega)
  | .iff t y n, h => by
    have hh : t.ok g ∧ okL g y ∧ okL g n := h
    rw [encS]
    have a := good_L hg hh.2.1
    have b := good_L hg hh.2.2
    have c := good_tst hg hh.1
    rw [htS, cnS]
    exact (good_tup (good_cons good_lit (good_cons (c.mono (n' := 2 * max (htL y) (htL n) + 5) (by omega) (Nat.le_refl _)) (good_cons ((good_tup a).mono (by omega) (Nat.le_refl _)) (good_cons ((good_tup b).mono (by omega) (Nat.le_refl _)) (good_nil (m := 0))))))).mono (by omega) (by omega)
  | .rep k b, h => by
    have hh : k ≤ 12 ∧ okL g b := h
    rw [encS]
    have a := good_L hg hh.2
    rw [htS, cnS]
    exact (good_tup (good_cons good_lit (good_cons (good_num (by omega)) (good_cons (good_tup a) (good_nil (m := 0)))))).mono (by omega) (by omega)
theorem good_L {g : Nat} (hg : g ≤ 3) : ∀ {b : List Stm}, okL g b → GoodAll (encL b) (2 * htL b + 4) (112 * cnL b)
  | [], _ => by
    rw [encL]
    exact good_nil
  | s :: r, h => by
    have hh : okS g s ∧ okL g r := h
    rw [encL, htL, cnL]
    have h1 : 1 ≤ cnS s := by
      cases s <;> simp [cnS]
    exact (good_cons ((good_S hg hh.1).mono (by omega) (Nat.le_refl _)) ((good_L hg hh.2).mono (n' := 2 * max (htS s) (htL r) + 4) (by omega) (Nat.le_refl _))).mono (Nat.le_refl _) (by omega)
end
/-! ### what changes of lists and objects leave as it was: tuples -/
/-- tuples (and what is locked) stand -/
def Keep (H H' : Hp) : Prop := ∀ b, (∀ xs, H b = some (.tup xs) → H' b = some (.tup xs)) ∧ (∀ o u, H b = some (.frz o u) → H' b = some (.frz o u))
theorem Keep.refl (H : Hp) : Keep H H := fun _ => ⟨fun _ h => h, fun _ _ h => h⟩
theorem Keep.trans {H H1 H2 : Hp} (a : Keep H H1) (b : Keep H1 H2) : Keep H H2 := fun c => ⟨fun xs h => (b c).1 xs ((a c).1 xs h), fun o u h => (b c).2 o u ((a c).2 o u h)⟩
theorem keep_ex {H H' : Hp} (e : Ex H H') : Keep H H' := fun b => ⟨fun _ h => e b _ h, fun _ _ h => e b _ h⟩
theorem keep_upd {H : Hp} {l : Addr} {xs : List V} {o : HO} (h : H l = some (.lst xs)) : Keep H (upd H l o) := fun b => ⟨fun ys hb => by
  rw [upd_ne (ne_of hb h (by intro z; cases z))]
  exact hb, fun ob u hb => by
  rw [upd_ne (ne_of hb h (by intro z; cases z))]
  exact hb⟩
theorem keep_ins {H : Hp} {l C dx : Addr} {fs : List (Str × V)} {o : HO} (h : H l = some (.ins C dx fs)) : Keep H (upd H l o) := fun b => ⟨fun ys hb => by
  rw [upd_ne (ne_of hb h (by intro z; cases z))]
  exact hb, fun ob u hb => by
  rw [upd_ne (ne_of hb h (by intro z; cases z))]
  exact hb⟩
theorem Keep.sq {K : PySem.W.Frag} {H H' : Hp} {a : Addr} {xs : List V} (e : Keep H H') (h : SqT K H a xs) : SqT K H' a xs := by
  rcases h with (h | ⟨o, h⟩) | h
  · exact .inl (.inl ((e a).1 _ h))
  · exact .inl (.inr ⟨o, (e a).2 _ _ h⟩)
  · exact .inr h
mutual
def noL : PyData → Bool
  | .list _ => false
  | .dict _ => false
  | .tuple xs => noLA xs
  | .none | .bool _ | .int _ | .str _ => true
def noLA : List PyData → Bool
  | [] => true
  | x :: xs => noL x && noLA xs
end
theorem noLA_cons {d : PyData} {ds : List PyData} (h : noLA (d :: ds) = true) : noL d = true ∧ noLA ds = true := by simpa [noLA] using h
mutual
theorem keep_dp {K : PySem.W.Frag} {H H' : Hp} (e : Keep H H') : ∀ {d : PyData} {v : V}, noL d = true → Dp K H v d → Dp K H' v d
  | _, _, _, .non => .non
  | _, _, _, .bl b => .bl b
  | _, _, _, .int i => .int i
  | _, _, _, .str x => .str x
  | _, _, h, .lst _ _ => by simp [noL] at h
  | _, _, h, .tup hs a => .tup (e.sq hs) (keep_dpA e (by simpa [noL] using h) a)
theorem keep_dpA {K : PySem.W.Frag} {H H' : Hp} (e : Keep H H') : ∀ {ds : List PyData} {vs : List V}, noLA ds = true → DpAll K H vs ds → DpAll K H' vs ds
  | _, _, _, .nil => .nil
  | _, _, h, .cons hd a => .cons (keep_dp e (noLA_cons h).1 hd) (keep_dpA e (noLA_cons h).2 a)
end
theorem noL_T (t : Tst) : noL (encT t) = true := by
  have hb : noL (encBt t.bt) = true := by
    cases t.bt <;> simp [encBt, noL, noLA]
  have : ∀ k : Nat, noL (encN k (encBt t.bt)) = true := fun k => by
    induction k with
    | zero => exact hb
    | succ k ih => simp [encN, noL, noLA, ih]
  exact this t.nots
theorem noL_P (p : Pln) : noL (encP p) = true := by
  cases p <;> simp [encP, noL, noLA, noL_T]
mutual
theorem noL_S : ∀ s : Stm, noL (encS s) = true
  | .pln p => by
    rw [encS]
    exact noL_P p
  | .iff t y n => by
    rw [encS]
    simp [noL, noLA, noL_T, noL_L y, noL_L n]
  | .rep k b => by
    rw [encS]
    simp [noL, noLA, noL_L b]
theorem noL_L : ∀ b : List Stm, noLA (encL b) = true
  | [] => by
    rw [encL]
    simp [noLA]
  | s :: r => by
    rw [encL]
    simp [noLA, noL_S s, noL_L r]
end
theorem noL_B (b : List Stm) : noL (.tuple (encL b)) = true := by
  simp [noL, noL_L]
end K7
set_option maxHeartbeats 4000000
/-! inner_blocks, block_lines, program_text -/
namespace K7
open PySem PySem.Spec PyProof.Rows L2 Evl
/-! ### readings: slices of tuples, an empty tuple, extend, or by truth -/
def TupAt (K : PySem.W.Frag) (xs : List V) : V → Hp → Prop := fun v H => ∃ p, v = .ref p ∧ SqT K H p xs
section
variable {K : PySem.W.Frag} {σ : L2.St} {H H' : Hp} {ta tb te tx : TE} {t u : TT} {x y z v : V} {D : Ends} {tu tw tz : TS}
theorem ep_slT {tl th : TO} {a : Addr} {xs : List V} {lo hi : Option Int} (h : Ev te σ H (.ref a)) (h1 : EvO tl σ H lo) (h2 : EvO th σ H hi) (hs : SqT K H a xs) : EvP (tSl (rSlA K) te tl th) σ H (TupAt K (cutV xs lo hi)) := fun H1 e Q q =>
  h H1 e _ fun H2 e2 => h1 H2 (e.trans e2) _ fun H3 e3 => h2 H3 ((e.trans e2).trans e3) _ fun H4 e4 => by
    have e14 : Ex H1 H4 := (e2.trans e3).trans e4
    refine ⟨a, xs, rfl, ex_t (e.trans e14) hs, fun hw => ?_, fun _ p hp => q _ _ (e14.trans (Ex.new hp)) ⟨p, rfl, st_of upd_same⟩⟩
    refine q _ H4 e14 ⟨a, rfl, ?_⟩
    have ec : cutV xs lo hi = xs := by
      unfold cutV
      rw [hw.1, hw.2]
      simp
    rw [ec]
    exact ex_t (e.trans e14) hs
theorem cut2 {x y : V} {r : List V} : cutV (x :: y :: r) (some 2) none = r := by
  unfold cutV HT.sIx
  simp
theorem ev_neU {ds : List PyData} (ha : Ev ta σ H x) (hd : Dp K H x (.tuple ds)) (sh : SeqAt.shaped (.tuple ds) = true) : Ev (tOp (rNeD K) ta (tTup tNil)) σ H (.bl (!ds.isEmpty)) := by
  refine ev_opU ha (eu_tup ea_nil (by decide)) fun p H1 hp e1 => fun H2 e2 Q q => ⟨.tuple ds, .tuple [], same_dp (e1.trans e2) hd, .tup (st_of (e2 p _ hp)) .nil, sh, by decide +kernel, ?_⟩
  have e : PyData.eqv (.tuple ds) (.tuple []) = ds.isEmpty := by
    cases ds <;> simp [PyData.eqv, PyData.eqvAll]
  rw [e]
  exact q H2 (Ex.refl H2)
theorem ev_lenT {a : Addr} {xs : List V} (ha : Ev te σ H (.ref a)) (h : SqT K H a xs) : Ev (tCB (rLenS K) (tCons te tNil)) σ H (.int (xs.length : Int)) := fun H1 e Q q =>
  ha H1 e _ fun H2 e2 => ⟨a, xs, rfl, Or.inr (ex_t (e.trans e2) h), q H2 e2⟩
/-- xs.extend(e) -/
theorem s_ext {l : Addr} {xs ys : List V} (hl : H l = some (.lst xs)) (ha : Ev ta σ H (.ref l)) (h : EvL te σ H ys) (hz : xs.length + ys.length < 100000) (k : ∀ p H1, H p = none → Ex H H1 → H1 p = some (.lst ys) → D.nx σ (upd H1 l (.lst (xs ++ ys)))) :
    tDrop (tBM K "list" rExtend ta (tCons te tNil)) D σ H := ha H (Ex.refl H) _ fun H1 e1 =>
  ⟨Or.inl ⟨rfl, xs, sq_of (e1 l _ hl)⟩, h H1 e1 _ fun p H2 hp e2 h2 => ⟨l, p, xs, ys, rfl, rfl, e2 l _ (e1 l _ hl), h2, Nat.le_of_lt (sz_lt hz), k p H2 (fresh_back e1 hp) (e1.trans e2) h2⟩⟩
theorem q_ext {l : Addr} {xs ys : List V} (hl : H l = some (.lst xs)) (ha : Ev ta σ H (.ref l)) (h : EvL te σ H ys) (hz : xs.length + ys.length < 100000) (k : ∀ p H1, H p = none → Ex H H1 → H1 p = some (.lst ys) → tz D σ (upd H1 l (.lst (xs ++ ys)))) :
    tSeq (tDrop (tBM K "list" rExtend ta (tCons te tNil))) tz D σ H := s_ext (D := { D with nx := tz D }) hl ha h hz k
theorem el_or {xs ys : List V} (h1 : EvL ta σ H xs) (h2 : xs = [] → EvL tb σ H ys) (e : xs ≠ [] → ys = xs) : EvL (tOrT K ta tb) σ H ys := fun H1 e1 Q q =>
  h1 H1 e1 _ fun p H2 hp e2 hx => ⟨!xs.isEmpty, Or.inl ⟨xs, sq_of hx, rfl⟩, by
    cases xs with
    | nil => exact h2 rfl H2 (e1.trans e2) Q fun r H3 hr e3 h3 => q r H3 (fresh_back e2 hr) (e2.trans e3) h3
    | cons a r =>
      rw [e (List.cons_ne_nil _ _)] at q
      exact q p H2 hp e2 hx⟩
theorem ev_addS {x y : Str} (ha : Ev ta σ H (.str x)) (hb : Ev tb σ H (.str y)) (hz : x.length + y.length ≤ 100000) : Ev (tOp (fun x y H Q => ∃ i j, x = .str i ∧ y = .str j ∧ i.length + j.length ≤ sizeLine ∧ Q (.str (i ++ j)) H) ta tb) σ H (.str (x ++ y)) :=
  ev_op ha hb fun H1 _ Q q => ⟨x, y, rfl, rfl, sz_of hz, q H1 (Ex.refl H1)⟩
/-- a + b of two new lists -/
theorem el_cat {xs ys : List V} (ha : EvL ta σ H xs) (hb : EvL tb σ H ys) (hz : xs.length + ys.length ≤ 100000) : EvL (tOp rCat ta tb) σ H (xs ++ ys) := fun H1 e Q q =>
  ha H1 e _ fun p H2 _ e2 hp => hb H2 (e.trans e2) _ fun r H3 hr e3 h3 => ⟨p, r, xs, ys, rfl, rfl, e3 p _ hp, h3, sz_of hz, fun o ho => q o _ (fresh_back (e2.trans e3) ho) ((e2.trans e3).trans (Ex.new ho)) upd_same⟩
end
/-! ### lines, their number and length -/
theorem linesL_append (d : Nat) : ∀ b c : List Stm, linesL d (b ++ c) = linesL d b ++ linesL d c
  | [], c => by
    rw [List.nil_append]
    conv => rhs; rw [linesL]
    rfl
  | s :: r, c => by
    show linesL d (s :: (r ++ c)) = _
    rw [linesL, linesL_append d r c]
    conv => rhs; rw [linesL]
    rw [List.append_assoc]
theorem linesL_take {d i : Nat} {b : List Stm} {s : Stm} (h : b[i]? = some s) : linesL d (b.take (i + 1)) = linesL d (b.take i) ++ linesS d s := by
  have hi := (List.getElem?_eq_some_iff.mp h).1
  have e : b.take (i + 1) = b.take i ++ [s] := by
    rw [List.take_add_one, h]
    rfl
  rw [e, linesL_append]
  congr 1
  rw [linesL, linesL, List.append_nil]
theorem passOr_len (d : Nat) (l : List Str) : (passOr d l).length ≤ l.length + 1 := by
  cases l <;> simp [passOr]
theorem elseOf_len (d : Nat) (l : List Str) : (elseOf d l).length ≤ 2 * l.length := by
  cases l with
  | nil => simp [elseOf]
  | cons a r =>
    simp [elseOf]
    omega
theorem cn1 : ∀ s : Stm, 1 ≤ cnS s := fun s => by cases s <;> simp [cnS]
mutual
theorem linesS_len (d : Nat) : ∀ s : Stm, (linesS d s).length ≤ 3 * cnS s
  | .pln p => by
    rw [linesS, cnS]
    simp
  | .iff t y n => by
    rw [linesS, cnS]
    have a := linesL_len (d + 1) y
    have b := linesL_len (d + 1) n
    have c := passOr_len (d + 1) (linesL (d + 1) y)
    have e : (elseOf d (linesL (d + 1) n)).length ≤ (linesL (d + 1) n).length + 1 := by
      cases linesL (d + 1) n <;> simp [elseOf]
    simp only [List.length_cons, List.length_append]
    omega
  | .rep k b => by
    rw [linesS, cnS]
    have a := linesL_len (d + 1) b
    have c := passOr_len (d + 1) (linesL (d + 1) b)
    simp only [List.length_cons]
    omega
theorem linesL_len (d : Nat) : ∀ b : List Stm, (linesL d b).length ≤ 3 * cnL b
  | [] => by
    rw [linesL]
    simp
  | s :: r => by
    rw [linesL, cnL, List.length_append]
    have a := linesS_len d s
    have b := linesL_len d r
    omega
end
theorem get_cn {i : Nat} {b : List Stm} {s : Stm} : b[i]? = some s → cnL (b.take i) + cnS s ≤ cnL b ∧ htS s ≤ htL b := by
  induction b generalizing i with
  | nil => intro h; simp at h
  | cons c r ih =>
    intro h
    cases i with
    | zero =>
      have e : c = s := by simpa using h
      subst e
      rw [List.take_zero, cnL, cnL, htL]
      omega
    | succ j =>
      have h2 : r[j]? = some s := by simpa using h
      have q := ih h2
      rw [List.take_succ_cons, cnL, cnL, htL]
      omega
theorem get_ok {g i : Nat} {b : List Stm} {s : Stm} : okL g b → b[i]? = some s → okS g s := by
  induction b generalizing i with
  | nil => intro _ h; simp at h
  | cons c r ih =>
    intro hk h
    have hk2 : okS g c ∧ okL g r := hk
    cases i with
    | zero =>
      have e : c = s := by simpa using h
      subst e
      exact hk2.1
    | succ j => exact ih hk2.2 (by simpa using h)
theorem ind_len (d : Nat) : (ind d).length = 2 * d := by
  rw [TL.len_tl, tl_ind, List.length_replicate]
theorem ind_step (d : Nat) : ind d ++ "  " = ind (d + 1) := by
  refine TL.ext_tl ?_
  have e : TL.tl ("  " : Str) = List.replicate 2 32 := by decide +kernel
  rw [TL.tl_append, tl_ind, tl_ind, e, List.replicate_append_replicate]
  rfl
theorem head_len {g : Nat} (hg : g ≤ 3) : ∀ {s : Stm}, okS g s → (jn (headW s)).length ≤ 200
  | .iff t y n, h => by
    have hh : t.ok g := h.1
    show (jn ("if" :: tstW t)).length ≤ 200
    rw [← head_iff, TL.len_tl, tl_cat]
    have a := tst_len hg hh
    rw [TL.len_tl] at a
    have l1 : (TL.tl ("if" : Str)).length = 2 := by decide +kernel
    have l2 : (TL.tl (" " : Str)).length = 1 := by decide +kernel
    simp only [List.map_cons, List.map_nil, List.flatten_cons, List.flatten_nil, List.length_append, List.length_nil]
    omega
  | .rep k b, h => by
    have hh : k ≤ 12 := h.1
    show (jn ["repeat", num k]).length ≤ 200
    rw [← head_rep, TL.len_tl, tl_cat]
    have a := (num_solid (show k < 100 by omega)).2.1
    have l1 : (TL.tl ("repeat" : Str)).length = 6 := by decide +kernel
    have l2 : (TL.tl (" " : Str)).length = 1 := by decide +kernel
    simp only [List.map_cons, List.map_nil, List.flatten_cons, List.flatten_nil, List.length_append, List.length_nil]
    omega
  | .pln p, h => by
    have hh : p.ok g := h
    show (jn (plnW p)).length ≤ 200
    rw [← pln_text, TL.len_tl, tl_cat]
    have l1 : (TL.tl ("make" : Str)).length = 4 := by decide +kernel
    have l2 : (TL.tl ("keep" : Str)).length = 4 := by decide +kernel
    have l3 : (TL.tl ("drop" : Str)).length = 4 := by decide +kernel
    have l4 : (TL.tl ("say" : Str)).length = 3 := by decide +kernel
    have l5 : (TL.tl ("wish " : Str)).length = 5 := by decide +kernel
    have l6 : (TL.tl (" " : Str)).length = 1 := by decide +kernel
    have l7 : (TL.tl (" = " : Str)).length = 3 := by decide +kernel
    have l8 : (TL.tl ("." : Str)).length = 1 := by decide +kernel
    have l9 : (TL.tl ("cut " : Str)).length = 4 := by decide +kernel
    have m1 : (TL.tl ("ask" : Str)).length = 3 := by decide +kernel
    have m2 : (TL.tl ("=" : Str)).length = 1 := by decide +kernel
    have m3 : (TL.tl ("~" : Str)).length = 1 := by decide +kernel
    cases p with
    | ask t =>
      have a := tst_len hg (show t.ok g from hh)
      rw [TL.len_tl] at a
      simp only [plnCat, List.map_cons, List.map_nil, List.flatten_cons, List.flatten_nil, List.length_append, List.length_nil]
      omega
    | say w =>
      have a := word_len (show isWord w = true from hh)
      rw [TL.len_tl] at a
      simp only [plnCat, List.map_cons, List.map_nil, List.flatten_cons, List.flatten_nil, List.length_append, List.length_nil]
      omega
    | wish x w =>
      have a := word_len (name_word (show isName x = true from hh.1))
      have b := word_len (show isWord w = true from hh.2)
      rw [TL.len_tl] at a b
      simp only [plnCat, List.map_cons, List.map_nil, List.flatten_cons, List.flatten_nil, List.length_append, List.length_nil]
      omega
    | make x | keep x | drop x =>
      have a := word_len (name_word (show isName x = true from hh))
      rw [TL.len_tl] at a
      simp only [plnCat, List.map_cons, List.map_nil, List.flatten_cons, List.flatten_nil, List.length_append, List.length_nil]
      omega
    | name x y | cut x y =>
      have a := word_len (name_word (show isName x = true from hh.1))
      have b := word_len (name_word (show isName y = true from hh.2))
      rw [TL.len_tl] at a b
      simp only [plnCat, List.map_cons, List.map_nil, List.flatten_cons, List.flatten_nil, List.length_append, List.length_nil]
      omega
    | hold x f y | weak x f y | take x f y =>
      have a := word_len (name_word (show isName x = true from hh.1))
      have b := word_len (name_word (show isName f = true from hh.2.1))
      have c := word_len (name_word (show isName y = true from hh.2.2))
      rw [TL.len_tl] at a b c
      simp only [plnCat, List.map_cons, List.map_nil, List.flatten_cons, List.flatten_nil, List.length_append, List.length_nil]
      omega
/-! ### the defs -/
def encBs (s : Stm) : List PyData := (blocks s).map fun b => .tuple (encL b)
section
variable {P : Program} {w : World} {K : PySem.W.Frag} {mg : Str → Option Value} {base : Heap}
def spInner (K : PySem.W.Frag) : Sp := fun vs H Q _ => ∃ (v : V) (s : Stm), vs = [v] ∧ Dp K H v (encS s) ∧ RetP (fun r H' => Dp K H' r (.tuple (encBs s))) H Q
theorem ok_inner_blocks (T : Txt w K mg) : FOk P w K mg base 1 "inner_blocks" (spInner K) := by
  refine fok T.f_inner_blocks T.g_inner_blocks sc_inner_blocks (fun _ _ _ _ _ _ us hl => match us, hl with | [_], _ => rfl) (fun vs H Q E h => ?_) (fun cdv A outer s H vs Q E hr h => ?_)
  · obtain ⟨x, _, rfl, _⟩ := h
    rfl
  obtain ⟨v, s0, rfl, hd, k⟩ := h
  have nd := sc_inner_blocks.nd
  refine ⟨_, (pss_cons (ps_if (pt_cmpR op_eq (pe_ix ix_tup (pv 0) pe_int (fun _ _ => rfl)) pe_str (nomark _)) (pss_one (ps_ret (pe_slice sl_tupA (pv 0) (po_some pe_int) po_none))) pss_nil) (pss_one (ps_ret (pe_ifExp (pt_cmpR op_eq (pe_ix ix_tup (pv 0) pe_int (fun _ _ => rfl)) pe_str (nomark _)) (pe_slice sl_tupA (pv 0) (po_some pe_int) po_none) (pe_tup pa_nil))))), ?_⟩
  cases s0 with
  | pln p =>
    have hp : Dp K H v (encP p) := by
      rw [encS] at hd
      exact hd
    obtain ⟨a, u, rfl, hs, hu⟩ := dp_pln hp
    have ne : ∃ kw r, plnV u p = .str kw :: r ∧ kw ≠ "if" ∧ kw ≠ "repeat" := by
      cases p <;> exact ⟨_, _, rfl, by decide +kernel, by decide +kernel⟩
    obtain ⟨kw, r, er, n1, n2⟩ := ne
    rw [er] at hs
    refine q_when (et_test (ev_eqN (ev_at 0 (ev_var rfl) hs) ev_c n1)) (fun h => Bool.noConfusion h) fun _ H1 e1 => ?_
    refine s_retP (R := TupAt K []) (ep_if (et_test (ev_eqN (ev_at 0 (ev_var rfl) (ex_t e1 hs)) ev_c n2)) (fun h => Bool.noConfusion h) fun _ => ?_) fun r H2 e2 hr2 => ?_
    · exact ep_imp (ep_tup ea_nil (by decide)) fun v H2 _ ⟨p, h1, h2⟩ => ⟨p, h1, st_of h2⟩
    · obtain ⟨p, rfl, hp⟩ := hr2
      exact k _ H2 (e1.trans e2) (.tup hp .nil)
  | iff t y n =>
    obtain ⟨a, u, b, c, rfl, hs, hu, hb, hc⟩ := dp_iff hd
    refine q_when (et_test (ev_eqY (ev_at 0 (ev_var rfl) hs) ev_c rfl)) (fun _ H1 e1 => ?_) fun h => Bool.noConfusion h
    refine s_retP (ep_slT (ev_var rfl) (eo_some ev_c) eo_none (ex_t e1 hs)) fun r H2 e2 hr2 => ?_
    obtain ⟨p, rfl, hp⟩ := hr2
    rw [cut2] at hp
    exact k _ H2 (e1.trans e2) (.tup hp (.cons (same_dp (e1.trans e2) hb) (.cons (same_dp (e1.trans e2) hc) .nil)))
  | rep n y =>
    obtain ⟨a, b, rfl, hs, hb⟩ := dp_rep hd
    refine q_when (et_test (ev_eqN (ev_at 0 (ev_var rfl) hs) ev_c (by decide +kernel))) (fun h => Bool.noConfusion h) fun _ H1 e1 => ?_
    refine s_retP (ep_if (et_test (ev_eqY (ev_at 0 (ev_var rfl) (ex_t e1 hs)) ev_c rfl)) (fun _ => ep_slT (ev_var rfl) (eo_some ev_c) eo_none (ex_t e1 hs)) fun h => Bool.noConfusion h) fun r H2 e2 hr2 => ?_
    obtain ⟨p, rfl, hp⟩ := hr2
    rw [cut2] at hp
    exact k _ H2 (e1.trans e2) (.tup hp (.cons (same_dp (e1.trans e2) hb) .nil))
theorem good_bs {g : Nat} (hg : g ≤ 3) {s : Stm} (h : okS g s) (ht : htS s ≤ 10) : SeqAt.shaped (.tuple (encBs s)) = true := by
  have q := good_S hg h
  have sh : ∀ {ds : List PyData}, PyData.canLayAll0 ds = true → PyData.depthAll ds ≤ 60 → SeqAt.shaped (.tuple ds) = true := fun {ds} h1 h2 => by
    unfold SeqAt.shaped
    rw [Bool.and_eq_true, decide_eq_true_iff]
    refine ⟨by simp [PyData.canLay0, h1], ?_⟩
    simp only [PyData.depth]
    omega
  cases s with
  | pln p => exact sh (ds := []) (by simp [PyData.canLayAll0]) (by simp [PyData.depthAll])
  | iff t y n =>
    have hh : t.ok g ∧ okL g y ∧ okL g n := h
    have a := good_L hg hh.2.1
    have b := good_L hg hh.2.2
    rw [htS] at ht
    have z := good_cons ((good_tup a).mono (n' := 30) (by omega) (Nat.le_refl _)) (good_cons ((good_tup b).mono (n' := 30) (by omega) (Nat.le_refl _)) (good_nil (m := 0)))
    exact sh z.lay (Nat.le_trans z.dep (by omega))
  | rep k b =>
    have hh : k ≤ 12 ∧ okL g b := h
    have a := good_L hg hh.2
    rw [htS] at ht
    have z := good_cons ((good_tup a).mono (n' := 30) (by omega) (Nat.le_refl _)) (good_nil (m := 0))
    exact sh z.lay (Nat.le_trans z.dep (by omega))
def spLines (K : PySem.W.Frag) (n : Nat) : Sp := fun vs H Q _ => ∃ (v : V) (d g : Nat) (b : List Stm), vs = [v, .str (ind d)] ∧ Dp K H v (.tuple (encL b)) ∧ g ≤ 3 ∧ okL g b ∧ htL b < n ∧ htL b + d ≤ 10 ∧ cnL b ≤ 30 ∧ RetL ((linesL d b).map V.str) H Q
theorem str_lit (l : List Str) (x : Str) : l.map V.str ++ [V.str x] = (l ++ [x]).map V.str := by simp
theorem ok_block_lines (T : Txt w K mg) : ∀ n : Nat, FOk P w K mg base (n + 3) "block_lines" (spLines K n)
  | 0 => fok_none T.f_block_lines T.g_block_lines (ps := ["block", "ahead"]) (fun _ _ _ _ _ _ us hl => match us, hl with | [_, _], _ => rfl) (fun vs H Q E ⟨v, d, g, b, _, _, _, _, h, _⟩ => by omega) _
  | n + 1 => by
    have G_statement_text : FOk P w K mg base 2 "statement_text" (spStText K) := ok_statement_text T
    have G_inner_blocks : FOk P w K mg base 1 "inner_blocks" (spInner K) := ok_inner_blocks T
    have G_block_lines : FOk P w K mg base (n + 3) "block_lines" (spLines K n) := ok_block_lines T n
    refine fok T.f_block_lines T.g_block_lines sc_block_lines (fun _ _ _ _ _ _ us hl => match us, hl with | [_, _], _ => rfl) (fun vs H Q E h => ?_) (fun cdv A outer s H vs Q E hr h => ?_)
    · obtain ⟨v, d, _, _, rfl, _⟩ := h
      rfl
    obtain ⟨v, d, g, b, rfl, hd, hg, hok, hht, hdp, hcn, k⟩ := h
    have nd := sc_block_lines.nd
    refine ⟨_, (pss_cons (ps_set (i := 2) nd rfl (Or.inl rfl) (pe_lst pa_nil)) (pss_cons (ps_for PassesOwn.never rfl (pi_tup (pv 0)) (pg_name (i := 3) nd rfl (Or.inl rfl)) (pss_cons (ps_expr (pe_bm PySem.F.plainAttrs_list PySem.F.slot_list_append PySem.F.type_list_append mt_append (pv 2) (pa_cons (pe_op op_add_str (pv 1) (pe_f G_statement_text (hr.mono (by omega)) (pa_cons (pv 3) pa_nil))) pa_nil))) (pss_cons (ps_set (i := 4) nd rfl (Or.inl rfl) (pe_f G_inner_blocks (hr.mono (by omega)) (pa_cons (pv 3) pa_nil))) (pss_cons (ps_if (pt_cmpR (op_neD hr.units) (pv 4) (pe_tup pa_nil) (nomark _)) (pss_one (ps_expr (pe_bm PySem.F.plainAttrs_list PySem.F.slot_list_extend PySem.F.type_list_extend mt_extend (pv 2) (pa_cons (pe_orT (pe_f G_block_lines (hr.mono (by omega)) (pa_cons (pe_ix ix_tup (pv 4) pe_int (fun _ _ => rfl)) (pa_cons (pe_op op_add_str (pv 1) (pe_gs T.t_STEP)) pa_nil))) (pe_one (pe_lst (pa_cons (pe_op op_add_str (pe_op op_add_str (pv 1) (pe_gs T.t_STEP)) pe_str) pa_nil)))) pa_nil)))) pss_nil) (pss_one (ps_if (PW.pt (pw_and (pt_cmpR op_eq (pe_callB call_len_seq (by rfl) T.z_len PySem.boot_len (pa_cons (pv 4) pa_nil)) pe_int (nomark _)) (pw_and1 (pt_cmpR (op_neD hr.units) (pe_ix ix_tup (pv 4) pe_int (fun _ _ => rfl)) (pe_tup pa_nil) (nomark _))))) (pss_cons (ps_expr (pe_bm PySem.F.plainAttrs_list PySem.F.slot_list_append PySem.F.type_list_append mt_append (pv 2) (pa_cons (pe_op op_add_str (pv 1) pe_str) pa_nil))) (pss_one (ps_expr (pe_bm PySem.F.plainAttrs_list PySem.F.slot_list_extend PySem.F.type_list_extend mt_extend (pv 2) (pa_cons (pe_f G_block_lines (hr.mono (by omega)) (pa_cons (pe_ix ix_tup (pv 4) pe_int (fun _ _ => rfl)) (pa_cons (pe_op op_add_str (pv 1) (pe_gs T.t_STEP)) pa_nil))) pa_nil))))) pss_nil)))))) (pss_one (ps_ret (pv 2))))), ?_⟩
    obtain ⟨a, xs, rfl, hs, hxs⟩ := dp_tup hd
    have hlen : xs.length = b.length := by rw [dpAll_len hxs, encL_map, List.length_map]
    refine q_asgL (el_lst ea_nil (by decide)) fun L H1 hL e1 hL1 => ?_
    refine q_forT (K := K) (a := a) (xs := xs) (ev_var rfl) (ex_t e1 hs) (fun i σ' H' => ∃ x y, σ' = [some (.ref a), some (.str (ind d)), some (.ref L), x, y] ∧ Ex H H' ∧ H' L = some (.lst ((linesL d (b.take i)).map V.str)))
      (fun H2 e2 => ⟨none, none, rfl, e1.trans e2, e2 L _ hL1⟩) (fun i σ' H' _ ⟨x, y, _, e, _⟩ => ex_t e hs) (fun i x σ' H' hi p => ?_) (fun σ' H' p => ?_)
    · obtain ⟨x0, y0, rfl, e, hLs⟩ := p
      obtain ⟨dd, hdd, hx⟩ := dpAll_get hxs hi
      rw [encL_map, List.getElem?_map] at hdd
      obtain ⟨st, hst, rfl⟩ := Option.map_eq_some_iff.mp hdd
      have hokS := get_ok hok hst
      have hcS := get_cn hst
      have hll := linesL_len d (b.take i)
      have hhl := head_len hg hokS
      have hx2 := same_dp e hx
      have hil : (ind d).length ≤ 20 := by rw [ind_len]; omega
      have h2l : ("  " : Str).length = 2 := by decide +kernel
      have h4l : ("pass" : Str).length = 4 := by decide +kernel
      have h5l : ("else" : Str).length = 4 := by decide +kernel
      -- lines.append(ahead + statement_text(statement))
      refine q_app (K := K) (l := L) (xs := (linesL d (b.take i)).map V.str) (v := .str (ind d ++ jn (headW st))) hLs (ev_var rfl) (ev_addS (ev_var rfl) (ev_call (ea_cons (ev_var rfl) ea_nil) (fun H3 e3 Q' q E' => ⟨x, st, g, rfl, same_dp e3 hx2, hg, hokS, q⟩)) (by omega)) (by rw [List.length_map]; omega) fun H3 e3 => ?_
      have eU : Ex H (upd H3 L (.lst ((linesL d (b.take i)).map V.str ++ [V.str (ind d ++ jn (headW st))]))) := Ex.mut (e.trans e3) hL
      rw [str_lit] at eU ⊢
      generalize hU : upd H3 L (.lst ((linesL d (b.take i) ++ [ind d ++ jn (headW st)]).map V.str)) = HU at *
      have hLU : HU L = some (.lst ((linesL d (b.take i) ++ [ind d ++ jn (headW st)]).map V.str)) := by rw [← hU]; exact upd_same
      have hxU := same_dp eU hx
      -- blocks = inner_blocks(statement)
      refine q_asgP (R := fun r H' => Dp K H' r (.tuple (encBs st))) (ep_call (ea_cons (ev_var rfl) ea_nil) (fun H4 e4 Q' q E' => ⟨x, st, rfl, same_dp e4 hxU, q⟩)) fun r H4 e4 hr4 => ?_
      have e04 := eU.trans e4
      have hL4 := e4 L _ hLU
      have sh := good_bs hg hokS (by omega)
      obtain ⟨bp, bxs, rfl, hbs, hbx⟩ := dp_tup hr4
      cases st with
      | pln p =>
        refine q_when (b := false) (et_test (ev_neU (ev_var rfl) hr4 sh)) (fun h => Bool.noConfusion h) fun _ H5 e5 => ?_
        obtain rfl := dpAll_nil (show DpAll K H4 bxs [] from hbx)
        refine s_when (b := false) (EvT.mono (Ex.refl _) (et_and (a := false) (b := true) (et_test (ev_is (ev_op (ev_lenT (ev_var rfl) (ex_t e5 hbs)) ev_c (rv_eq rfl)) (by decide +kernel))) (fun h => Bool.noConfusion h))) (fun h => Bool.noConfusion h) fun _ H6 e6 => ?_
        refine ⟨_, _, rfl, (e04.trans e5).trans e6, ?_⟩
        rw [linesL_take hst, linesS]
        exact e6 L _ (e5 L _ hL4)
      | iff t y nn =>
        obtain ⟨b1, r1, rfl, hb1, hr1⟩ := dpAll_cons (show DpAll K H4 bxs (.tuple (encL y) :: [.tuple (encL nn)]) from hbx)
        obtain ⟨b2, r2, rfl, hb2, hr2⟩ := dpAll_cons hr1
        obtain rfl := dpAll_nil hr2
        rw [cnS, htS] at hcS
        have hokI : t.ok g ∧ okL g y ∧ okL g nn := hokS
        have ly := linesL_len (d + 1) y
        have ln := linesL_len (d + 1) nn
        have hind : (ind (d + 1)).length ≤ 22 := by rw [ind_len]; omega
        have add1 : ∀ {H5 : Hp}, Ev (tOp (fun x y H Q => ∃ i j, x = .str i ∧ y = .str j ∧ i.length + j.length ≤ sizeLine ∧ Q (.str (i ++ j)) H) (tVar 1) (tC (.str "  "))) [some (.ref a), some (.str (ind d)), some (.ref L), some x, some (.ref bp)] H5 (.str (ind (d + 1))) := fun {H5} => by
          rw [← ind_step]
          exact ev_addS (ev_var rfl) ev_c (by omega)
        -- if blocks != ()
        refine q_when (b := true) (et_test (ev_neU (ev_var rfl) hr4 sh)) (fun _ H5 e5 => ?_) fun h => Bool.noConfusion h
        refine s_ext (K := K) (l := L) (ys := (passOr (d + 1) (linesL (d + 1) y)).map V.str) (e5 L _ hL4) (ev_var rfl) ?_ (by
            have := passOr_len (d + 1) (linesL (d + 1) y)
            simp only [List.length_append, List.length_singleton, List.length_map]
            omega) fun p5 H6 hp5 e6 h6 => ?_
        · refine el_or (xs := (linesL (d + 1) y).map V.str) (el_call (ea_cons (ev_at 0 (ev_var rfl) (ex_t e5 hbs)) (ea_cons add1 ea_nil)) (fun H6 e6 Q' q E' => ⟨b1, d + 1, g, y, rfl, same_dp (e5.trans e6) hb1, hg, hokI.2.1, by omega, by omega, by omega, fun p H7 hp e7 h7 => q p H7 hp e7 h7⟩)) (fun h => ?_) (fun h => ?_)
          · have hn : linesL (d + 1) y = [] := List.map_eq_nil_iff.mp h
            rw [hn]
            exact el_lst (vs := [V.str (ind (d + 1) ++ "pass")]) (ea_cons (ev_addS add1 ev_c (by omega)) ea_nil) (by show 1 ≤ 100000; decide)
          · cases hq : linesL (d + 1) y with
            | nil => rw [hq] at h; exact absurd rfl h
            | cons a r => simp [passOr]
        rw [← List.map_append]
        have eV := Ex.mut (o := .lst (((linesL d (b.take i) ++ [ind d ++ jn (headW (.iff t y nn))]) ++ (passOr (d + 1) (linesL (d + 1) y))).map V.str)) ((e04.trans e5).trans e6) hL
        have kV := (keep_ex (e5.trans e6)).trans (keep_upd (o := .lst (((linesL d (b.take i) ++ [ind d ++ jn (headW (.iff t y nn))]) ++ (passOr (d + 1) (linesL (d + 1) y))).map V.str)) (e6 L _ (e5 L _ hL4)))
        have hlenM : (passOr (d + 1) (linesL (d + 1) y)).length ≤ 91 := by
          have := passOr_len (d + 1) (linesL (d + 1) y)
          omega
        generalize hMM : passOr (d + 1) (linesL (d + 1) y) = MM at *
        have hLV : (upd H6 L (.lst (((linesL d (b.take i) ++ [ind d ++ jn (headW (.iff t y nn))]) ++ MM).map V.str))) L = some (.lst (((linesL d (b.take i) ++ [ind d ++ jn (headW (.iff t y nn))]) ++ MM).map V.str)) := upd_same
        generalize upd H6 L (.lst (((linesL d (b.take i) ++ [ind d ++ jn (headW (.iff t y nn))]) ++ MM).map V.str)) = HV at *
        have hbsV := kV.sq hbs
        have hb2V := keep_dp kV (noL_B nn) hb2
        have sh2 : SeqAt.shaped (.tuple (encL nn)) = true := by
          have q := good_L hg hokI.2.2
          unfold SeqAt.shaped
          rw [Bool.and_eq_true, decide_eq_true_iff]
          refine ⟨by simp [PyData.canLay0, q.lay], ?_⟩
          have := q.dep
          simp only [PyData.depth]
          omega
        -- if len(blocks) == 2 and blocks[1] != ()
        refine s_when (b := !(encL nn).isEmpty) (et_is (et_and (a := true) (et_test (ev_is (ev_op (ev_lenT (ev_var rfl) hbsV) ev_c (rv_eq rfl)) (show V.bl (decide (V.int 2 = V.int 2)) = V.bl true by decide +kernel))) fun _ => et_test (ev_neU (ev_at 1 (ev_var rfl) hbsV) hb2V sh2)) (by rw [Bool.true_and])) (fun hne H7 e7 => ?_) (fun hne H7 e7 => ?_)
        · have hnn : linesL (d + 1) nn ≠ [] := by
            cases nn with
            | nil => rw [encL] at hne; cases hne
            | cons s1 r1 =>
              rw [linesL]
              cases s1 <;> simp [linesS]
          refine q_app (K := K) (l := L) (v := .str (ind d ++ "else")) (e7 L _ hLV) (ev_var rfl) (ev_addS (ev_var rfl) ev_c (by omega)) (by rw [List.length_map, List.length_append, List.length_append, List.length_singleton]; omega) fun H8 e8 => ?_
          have eW := Ex.mut (o := .lst (((linesL d (b.take i) ++ [ind d ++ jn (headW (.iff t y nn))]) ++ MM).map V.str ++ [V.str (ind d ++ "else")])) ((eV.trans e7).trans e8) hL
          have kW := (keep_ex (e7.trans e8)).trans (keep_upd (o := .lst (((linesL d (b.take i) ++ [ind d ++ jn (headW (.iff t y nn))]) ++ MM).map V.str ++ [V.str (ind d ++ "else")])) (e8 L _ (e7 L _ hLV)))
          rw [str_lit] at eW kW ⊢
          have hLW : (upd H8 L (.lst (((linesL d (b.take i) ++ [ind d ++ jn (headW (.iff t y nn))]) ++ MM ++ [ind d ++ "else"]).map V.str))) L = some (.lst (((linesL d (b.take i) ++ [ind d ++ jn (headW (.iff t y nn))]) ++ MM ++ [ind d ++ "else"]).map V.str)) := upd_same
          generalize upd H8 L (.lst (((linesL d (b.take i) ++ [ind d ++ jn (headW (.iff t y nn))]) ++ MM ++ [ind d ++ "else"]).map V.str)) = HW at *
          refine s_ext (K := K) (l := L) (ys := (linesL (d + 1) nn).map V.str) hLW (ev_var rfl) (el_call (ea_cons (ev_at 1 (ev_var rfl) (kW.sq hbsV)) (ea_cons add1 ea_nil)) (fun H6 e6 Q' q E' => ⟨b2, d + 1, g, nn, rfl, same_dp e6 (keep_dp kW (noL_B nn) hb2V), hg, hokI.2.2, by omega, by omega, by omega, fun p H7 hp e7 h7 => q p H7 hp e7 h7⟩))
            (by rw [List.length_map, List.length_map, List.length_append, List.length_append, List.length_append, List.length_singleton, List.length_singleton]; omega) fun p9 H9 hp9 e9 h9 => ?_
          refine ⟨_, _, rfl, Ex.mut (eW.trans e9) hL, ?_⟩
          rw [upd_same, ← List.map_append, linesL_take hst, linesS, hMM]
          cases hq : linesL (d + 1) nn with
          | nil => exact absurd hq hnn
          | cons a1 r1 => simp [headW, elseOf]
        · have hnn : nn = [] := by
            cases nn with
            | nil => rfl
            | cons s1 r1 => rw [encL] at hne; cases hne
          refine ⟨_, _, rfl, eV.trans e7, ?_⟩
          rw [linesL_take hst, linesS, hMM, hnn]
          have e0 : linesL (d + 1) [] = [] := by rw [linesL]
          rw [e0, e7 L _ hLV]
          simp [headW, elseOf]
      | rep kk y =>
        obtain ⟨b1, r1, rfl, hb1, hr1⟩ := dpAll_cons (show DpAll K H4 bxs [.tuple (encL y)] from hbx)
        obtain rfl := dpAll_nil hr1
        rw [cnS, htS] at hcS
        have hokI : kk ≤ 12 ∧ okL g y := hokS
        have ly := linesL_len (d + 1) y
        have hind : (ind (d + 1)).length ≤ 22 := by rw [ind_len]; omega
        have add1 : ∀ {H5 : Hp}, Ev (tOp (fun x y H Q => ∃ i j, x = .str i ∧ y = .str j ∧ i.length + j.length ≤ sizeLine ∧ Q (.str (i ++ j)) H) (tVar 1) (tC (.str "  "))) [some (.ref a), some (.str (ind d)), some (.ref L), some x, some (.ref bp)] H5 (.str (ind (d + 1))) := fun {H5} => by
          rw [← ind_step]
          exact ev_addS (ev_var rfl) ev_c (by omega)
        refine q_when (b := true) (et_test (ev_neU (ev_var rfl) hr4 sh)) (fun _ H5 e5 => ?_) fun h => Bool.noConfusion h
        refine s_ext (K := K) (l := L) (ys := (passOr (d + 1) (linesL (d + 1) y)).map V.str) (e5 L _ hL4) (ev_var rfl) ?_ (by
            have := passOr_len (d + 1) (linesL (d + 1) y)
            simp only [List.length_append, List.length_singleton, List.length_map]
            omega) fun p5 H6 hp5 e6 h6 => ?_
        · refine el_or (xs := (linesL (d + 1) y).map V.str) (el_call (ea_cons (ev_at 0 (ev_var rfl) (ex_t e5 hbs)) (ea_cons add1 ea_nil)) (fun H6 e6 Q' q E' => ⟨b1, d + 1, g, y, rfl, same_dp (e5.trans e6) hb1, hg, hokI.2, by omega, by omega, by omega, fun p H7 hp e7 h7 => q p H7 hp e7 h7⟩)) (fun h => ?_) (fun h => ?_)
          · have hn : linesL (d + 1) y = [] := List.map_eq_nil_iff.mp h
            rw [hn]
            exact el_lst (vs := [V.str (ind (d + 1) ++ "pass")]) (ea_cons (ev_addS add1 ev_c (by omega)) ea_nil) (by show 1 ≤ 100000; decide)
          · cases hq : linesL (d + 1) y with
            | nil => rw [hq] at h; exact absurd rfl h
            | cons a r => simp [passOr]
        rw [← List.map_append]
        have eV := Ex.mut (o := .lst (((linesL d (b.take i) ++ [ind d ++ jn (headW (.rep kk y))]) ++ (passOr (d + 1) (linesL (d + 1) y))).map V.str)) ((e04.trans e5).trans e6) hL
        have kV := (keep_ex (e5.trans e6)).trans (keep_upd (o := .lst (((linesL d (b.take i) ++ [ind d ++ jn (headW (.rep kk y))]) ++ (passOr (d + 1) (linesL (d + 1) y))).map V.str)) (e6 L _ (e5 L _ hL4)))
        have hbsV := kV.sq hbs
        refine s_when (b := false) (et_and (a := false) (b := true) (et_test (ev_is (ev_op (ev_lenT (ev_var rfl) hbsV) ev_c (rv_eq rfl)) (show V.bl (decide (V.int 1 = V.int 2)) = V.bl false by decide +kernel))) fun h => Bool.noConfusion h) (fun h => Bool.noConfusion h) fun _ H7 e7 => ?_
        refine ⟨_, _, rfl, eV.trans e7, ?_⟩
        rw [e7 L _ upd_same, linesL_take hst, linesS]
        simp [headW]
    · obtain ⟨x0, y0, rfl, e, hLs⟩ := p
      refine s_ret (ev_var rfl) fun H2 e2 => ?_
      rw [hlen, List.take_length] at hLs
      exact k L H2 hL (e.trans e2) (e2 L _ hLs)
end
end K7
set_option maxHeartbeats 4000000
/-! program_text -/
namespace K7
open PySem PySem.Spec PyProof.Rows L2 Evl
theorem pass_len (d : Nat) (h : d ≤ 11) : (ind d ++ "pass").length ≤ 230 := by
  have h4 : ("pass" : Str).length = 4 := by decide +kernel
  rw [strLen_append, ind_len, h4]
  omega
theorem else_len (d : Nat) (h : d ≤ 11) : (ind d ++ "else").length ≤ 230 := by
  have h4 : ("else" : Str).length = 4 := by decide +kernel
  rw [strLen_append, ind_len, h4]
  omega
theorem passOr_mem {d : Nat} {l : List Str} {x : Str} (h : x ∈ passOr d l) : x ∈ l ∨ x = ind d ++ "pass" := by
  cases l with
  | nil =>
    right
    simpa [passOr] using h
  | cons a r => exact .inl h
theorem elseOf_mem {d : Nat} {l : List Str} {x : Str} (h : x ∈ elseOf d l) : x ∈ l ∨ x = ind d ++ "else" := by
  cases l with
  | nil => simp [elseOf] at h
  | cons a r =>
    have h2 : x = ind d ++ "else" ∨ x ∈ a :: r := by simpa [elseOf] using h
    rcases h2 with h | h
    · exact .inr h
    · exact .inl h
mutual
theorem linesS_each {g : Nat} (hg : g ≤ 3) (d : Nat) : ∀ (s : Stm), okS g s → htS s + d ≤ 10 → ∀ x ∈ linesS d s, x.length ≤ 230
  | .pln p, hk, hd => by
    intro x hx
    have h0 := head_len hg (s := .pln p) hk
    have h0' : (jn (plnW p)).length ≤ 200 := h0
    rw [linesS] at hx
    obtain rfl := List.mem_singleton.mp hx
    rw [strLen_append, ind_len]
    omega
  | .iff t y n, hk, hd => by
    have hh : t.ok g ∧ okL g y ∧ okL g n := hk
    rw [htS] at hd
    have h0 := head_len hg (s := .iff t y n) hk
    have h0' : (jn ("if" :: tstW t)).length ≤ 200 := h0
    have a := linesL_each hg (d + 1) y hh.2.1 (by omega)
    have b := linesL_each hg (d + 1) n hh.2.2 (by omega)
    intro x hx
    rw [linesS] at hx
    rcases List.mem_cons.mp hx with rfl | hx
    · rw [strLen_append, ind_len]
      omega
    · rcases List.mem_append.mp hx with hx | hx
      · rcases passOr_mem hx with hx | rfl
        · exact a x hx
        · exact pass_len _ (by omega)
      · rcases elseOf_mem hx with hx | rfl
        · exact b x hx
        · exact else_len _ (by omega)
  | .rep k y, hk, hd => by
    have hh : k ≤ 12 ∧ okL g y := hk
    rw [htS] at hd
    have h0 := head_len hg (s := .rep k y) hk
    have h0' : (jn ["repeat", num k]).length ≤ 200 := h0
    have a := linesL_each hg (d + 1) y hh.2 (by omega)
    intro x hx
    rw [linesS] at hx
    rcases List.mem_cons.mp hx with rfl | hx
    · rw [strLen_append, ind_len]
      omega
    · rcases passOr_mem hx with hx | rfl
      · exact a x hx
      · exact pass_len _ (by omega)
theorem linesL_each {g : Nat} (hg : g ≤ 3) (d : Nat) : ∀ (b : List Stm), okL g b → htL b + d ≤ 10 → ∀ x ∈ linesL d b, x.length ≤ 230
  | [], _, _ => by
    intro x hx
    rw [linesL] at hx
    cases hx
  | s :: r, hk, hd => by
    have hh : okS g s ∧ okL g r := hk
    rw [htL] at hd
    intro x hx
    rw [linesL] at hx
    rcases List.mem_append.mp hx with hx | hx
    · exact linesS_each hg d s hh.1 (by omega) x hx
    · exact linesL_each hg d r hh.2 (by omega) x hx
end
theorem sum_le {n : Nat} : ∀ {l : List Str}, (∀ x ∈ l, x.length ≤ n) → (l.map (·.length)).sum ≤ l.length * n
  | [], _ => Nat.zero_le _
  | x :: r, h => by
    have a := h x List.mem_cons_self
    have b := sum_le (l := r) fun y hy => h y (List.mem_cons_of_mem _ hy)
    rw [List.map_cons, List.sum_cons, List.length_cons, Nat.succ_mul]
    omega
def giv (g : Nat) : Str := cat ["givens ", num g]
/-- the text of a program -/
def progLines (g : Nat) (b : List Stm) : List Str := giv g :: linesL 0 b
def progText (g : Nat) (b : List Stm) : Str := Str.join "\n" (progLines g b)
theorem giv_len {g : Nat} (h : g < 100) : (giv g).length ≤ 230 := by
  have a := (num_solid h).2.1
  have l1 : (TL.tl ("givens " : Str)).length = 7 := by decide +kernel
  unfold giv
  rw [TL.len_tl, tl_cat]
  simp only [List.map_cons, List.map_nil, List.flatten_cons, List.flatten_nil, List.length_append, List.length_nil]
  omega
theorem prog_each {g : Nat} {b : List Stm} (hg : g ≤ 3) (hk : okL g b) (hd : htL b ≤ 10) : ∀ x ∈ progLines g b, x.length ≤ 230 := fun x hx => by
  rcases List.mem_cons.mp hx with rfl | hx
  · exact giv_len (by omega)
  · exact linesL_each hg 0 b hk (by omega) x hx
theorem prog_sum {g : Nat} {b : List Stm} (hg : g ≤ 3) (hk : okL g b) (hd : htL b ≤ 10) (hc : cnL b ≤ 30) : ((progLines g b).map (·.length)).sum ≤ 91 * 230 ∧ (progLines g b).length ≤ 91 := by
  have h1 := sum_le (prog_each hg hk hd)
  have h2 : (progLines g b).length ≤ 91 := by
    have := linesL_len 0 b
    show (linesL 0 b).length + 1 ≤ 91
    omega
  exact ⟨Nat.le_trans h1 (Nat.mul_le_mul_right 230 h2), h2⟩
section
variable {K : PySem.W.Frag} {σ : L2.St} {H : Hp} {to te : TE}
theorem ev_join {a : Str} {ys : List Str} (ho : Ev to σ H (.str a)) (h : EvL te σ H (ys.map V.str)) (hz : (ys.map (·.length)).sum + ys.length * a.length ≤ 16777216) :
    Ev (tM1 (fun x xs H Q => ∃ a p, ∃ ys : List Str, x = .str a ∧ xs = [.ref p] ∧ (SqL K H p (ys.map V.str) ∨ SqT K H p (ys.map V.str)) ∧ (ys.map (·.length)).sum + ys.length * a.length ≤ 16777216 ∧ Q (.str (Txt.join a ys)) H) to te) σ H (.str (Str.join a ys)) := fun H1 e Q q =>
  ho H1 e _ fun H2 e2 => ⟨⟨a, rfl⟩, h H2 (e.trans e2) _ fun p H3 _ e3 hp => ⟨a, p, ys, rfl, rfl, .inl (sq_of hp), hz, by
    rw [TL.join_eq]
    exact q H3 (e2.trans e3)⟩⟩
end
section
variable {P : Program} {w : World} {K : PySem.W.Frag} {mg : Str → Option Value} {base : Heap}
/-- a program that is well made -/
structure Wd (g : Nat) (b : List Stm) : Prop where
  g3 : g ≤ 3
  ok : okL g b
  ht : htL b ≤ 5
  cn : cnL b ≤ 30
  wt : wtL b ≤ 200
  wi : ∃ ws : List Str, ws.length ≤ 4 ∧ ∀ x ∈ wishes b, x ∈ ws
def spProgText (K : PySem.W.Frag) : Sp := fun vs H Q _ => ∃ (v : V) (g : Nat) (b : List Stm), vs = [v] ∧ Dp K H v (enc g b) ∧ Wd g b ∧ RetV (.str (progText g b)) H Q
theorem ind0 : ("" : Str) = ind 0 := by decide +kernel
theorem dp_enc {H : Hp} {v : V} {g : Nat} {b : List Stm} (h : Dp K H v (enc g b)) : ∃ a u, v = .ref a ∧ SqT K H a [.int g, u] ∧ Dp K H u (.tuple (encL b)) := by
  obtain ⟨a, xs, rfl, hs, h0⟩ := dp_tup h
  obtain ⟨r, rfl, h1⟩ := dpa_int h0
  obtain ⟨u, r, rfl, hu, h2⟩ := dpAll_cons h1
  obtain rfl := dpAll_nil h2
  exact ⟨a, u, rfl, hs, hu⟩
theorem ok_program_text (T : Txt w K mg) : FOk P w K mg base 10 "program_text" (spProgText K) := by
  have G_block_lines : FOk P w K mg base 9 "block_lines" (spLines K 6) := ok_block_lines T 6
  refine fok T.f_program_text T.g_program_text sc_program_text (fun _ _ _ _ _ _ us hl => match us, hl with | [_], _ => rfl) (fun vs H Q E h => ?_) (fun cdv A outer s H vs Q E hr h => ?_)
  · obtain ⟨x, _, _, rfl, _⟩ := h
    rfl
  obtain ⟨v, g, b, rfl, hd, wd, k⟩ := h
  have nd := sc_program_text.nd
  refine ⟨_, (pss_one (ps_ret (pe_join pe_str (pe_op op_cat (pe_lst (pa_cons (pe_joined (.cons pe_str (.cons (pe_fmt (pe_ix ix_tup (pv 0) pe_int (fun _ _ => rfl))) .nil))) pa_nil)) (pe_f G_block_lines (hr.mono (by omega)) (pa_cons (pe_ix ix_tup (pv 0) pe_int (fun _ _ => rfl)) (pa_cons pe_str pa_nil))))))), ?_⟩
  obtain ⟨a, u, rfl, hs, hu⟩ := dp_enc hd
  have hz := prog_sum wd.g3 wd.ok (by have := wd.ht; omega) wd.cn
  have hgl := giv_len (g := g) (by have := wd.g3; omega)
  have hll := linesL_len 0 b
  have l1 : ("givens " : Str).length = 7 := by decide +kernel
  have l2 : ("\n" : Str).length = 1 := by decide +kernel
  have hn := (num_solid (n := g) (by have := wd.g3; omega)).2.1
  rw [← TL.len_tl] at hn
  have hcn := wd.cn
  refine s_ret (ev_join ev_c (ys := progLines g b) ?_ ?_) k
  · have e : (progLines g b).map V.str = [V.str (giv g)] ++ (linesL 0 b).map V.str := rfl
    rw [e]
    refine el_cat (el_lst (ea_cons (ev_fstr (.cons ev_c (.cons (ev_fmtN (ev_at 0 (ev_var rfl) hs) (by have := wd.g3; omega)) .nil)) ?_) ea_nil) (by show 1 ≤ 100000; decide)) (el_call (ea_cons (ev_at 1 (ev_var rfl) hs) (ea_cons ev_c ea_nil)) fun H1 e1 Q' q E' => ?_) ?_
    · simp only [List.map_cons, List.map_nil, List.sum_cons, List.sum_nil]
      omega
    · exact ⟨u, 0, g, b, by rw [← ind0]; rfl, same_dp e1 hu, wd.g3, wd.ok, by have := wd.ht; omega, by have := wd.ht; omega, wd.cn, fun p H7 hp e7 h7 => q p H7 hp e7 h7⟩
    · rw [List.length_map]
      show 1 + _ ≤ 100000
      omega
  · rw [l2]
    omega
end
end K7
set_option maxHeartbeats 4000000
/-! zip of a text and a tuple -/
namespace K7
open PySem PySem.Spec PyProof.Rows L2 Evl
/-- the text zt's signs beside the items of the tuple at tb, each pair new -/
def ItzST (K : PySem.W.Frag) (zt : Str) (tb : Addr) : It where
  go := fun i H => i < zt.cps.size ∧ ∃ ys : List V, SqT K H tb ys ∧ i < ys.length
  yld := fun i H v H' => ∃ T c y, v = .ref T ∧ H T = none ∧ H' = upd H T (.tup [.str ⟨#[c]⟩, y]) ∧ zt.cps[i]? = some c ∧ ∀ ys, SqT K H tb ys → ys[i]? = some y
  stop := fun i H => ∃ ys : List V, SqT K H tb ys ∧ i ≤ zt.cps.size ∧ i ≤ ys.length ∧ (i = zt.cps.size ∨ i = ys.length)
structure ZpSt (zt : Str) (tk : Tok) (tb zz tI tO j1 j2 : Addr) (i : Nat) (h : Heap) : Prop where
  zip : IsZip h zz tI tO .none
  pi : IsTupOf2 h tI (.ref j1) (.ref j2)
  po : ∃ a1 a2, IsTupOf2 h tO a1 a2
  s1 : h.IsStrIter j1 (strIterType zt) zt tk i
  s2 : h.IsTupleIter j2 tb i
theorem five {α : Type} {zz tI tO j1 j2 c : α} {R : Prop} (h : c ∈ [zz, tI, tO, j1, j2]) (a1 : c = zz → R) (a2 : c = tI → R) (a3 : c = tO → R) (a4 : c = j1 → R) (a5 : c = j2 → R) : R := by
  simp only [List.mem_cons, List.not_mem_nil, or_false] at h
  rcases h with q | q | q | q | q
  · exact a1 q
  · exact a2 q
  · exact a3 q
  · exact a4 q
  · exact a5 q
theorem turn_zipST {P : Program} {w : World} {K : PySem.W.Frag} {elts : List Expr} {kk : Nat} {tpos : Pos} {zt : Str} {tk : Tok} {tb zz tI tO j1 j2 : Addr}
    (S : ZipSep2 zz tI tO j1 j2 [j1] [j2, tb]) : Turn P w K (.Tuple elts kk tpos) (ItzST K zt tb) [zz, tI, tO, j1, j2] zz (ZpSt zt tk tb zz tI tO j1 j2) where
  mem := List.mem_cons_self
  obj := fun i h st c hc => by
    obtain ⟨z0, z1, ⟨a1, a2, z2⟩, ⟨o1, e1, _, d1⟩, ⟨o2, e2, _, d2⟩⟩ := st
    refine five hc (fun q => ?_) (fun q => ?_) (fun q => ?_) (fun q => ?_) fun q => ?_
    · subst q
      exact ⟨_, z0, fun v q => nomatch q⟩
    · subst q
      exact ⟨_, z1, fun v q => nomatch q⟩
    · subst q
      exact ⟨_, z2, fun v q => nomatch q⟩
    · subst q
      exact ⟨o1, e1, fun v q => by
        rw [d1] at q
        cases q⟩
    · subst q
      exact ⟨o2, e2, fun v q => by
        rw [d2] at q
        cases q⟩
  keep := fun i h h' st k => by
    obtain ⟨z0, z1, ⟨a1, a2, z2⟩, s1, s2⟩ := st
    exact ⟨k zz (by simp) _ z0, k tI (by simp) _ z1, ⟨a1, a2, k tO (by simp) _ z2⟩, ⟨s1.choose, k j1 (by simp) _ s1.choose_spec.1, s1.choose_spec.2⟩, s2.at fun o q => k j2 (by simp) o q⟩
  item := by
    intro X hP hw hK hc i pins s σ H E I hf st hg
    subst hP hw hK
    obtain ⟨z0, z1, ⟨a1, a2, z2⟩, s1, s2⟩ := st
    obtain ⟨hlt, ys, hq, hly⟩ := hg
    obtain ⟨its, rv, pt, _⟩ := I.tuple hq
    have hh : X.A.in1.handled = none := I.ok.hd hc
    have ne : tb ≠ j2 := fun e => by
      have := hf j2 (by simp)
      obtain ⟨o, ho, hcls, n, hd⟩ := pt
      obtain ⟨o2, e2, hcls2, d2⟩ := s2
      rw [e, e2] at ho
      cases ho
      rw [hcls2] at hcls
      injection hcls with e0
      exact absurd e0 (by decide)
    have D1 := Draws.text (prog := X.prog) (w := X.w) hh j1 zt tk
    have D2 := Draws.tuple (prog := X.prog) (w := X.w) hh j2 tb ne its.toArray
    have l2 : i < its.toArray.size := by
      rw [List.size_toArray, ← rv.length]
      exact hly
    refine wpAny_pyNext_zipD2_item S D1 D2 z0 z1 z2 s1 ⟨s2, pt⟩ hlt l2 fun x1 x2 h' t' p1 p2 y0 y2 n1 n2 hT hsz hk => ?_
    obtain ⟨c, u, hcp, rfl⟩ := p1
    refine ⟨_, rfl, wpAny_letOwnedTupleGo_zip (s := { s with heap := h', toks := t' }) y0 fun h'' y0' sb => ?_⟩
    have zl : zz < s.heap.objs.size := Heap.lt_size z0
    have hT2 : h''.get? s.heap.objs.size = some { cls := .type "tuple", data := .seq #[.str ⟨#[c]⟩ u, x2] } := (sb.2 _ (Nat.ne_of_gt zl)).trans hT
    have hix : i < ys.length := hly
    obtain ⟨u2, hu2, ru2⟩ := rv.get (List.getElem?_eq_getElem hix)
    have e2 : x2 = u2 := by
      have p2' : its.toArray[i]? = some x2 := p2
      rw [List.getElem?_toArray, hu2] at p2'
      exact (Option.some.inj p2').symm
    subst e2
    have new : ObjOk X.prog X.w (upd H s.heap.objs.size (.tup [.str ⟨#[c]⟩, ys[i]])) h'' s.heap.objs.size (.tup [.str ⟨#[c]⟩, ys[i]]) :=
      ⟨by show 2 ≤ sizeLine; decide, [.str ⟨#[c]⟩ u, x2], .cons ⟨u, rfl⟩ (.cons ru2 .nil), ⟨_, hT2, rfl, _, rfl⟩⟩
    have kk : ∀ b o, b ∉ [zz, tI, tO, j1, j2] → s.heap.get? b = some o → h''.get? b = some o := fun b o hb q =>
      (sb.2 b (fun e => hb (by simp [e]))).trans (hk b o (fun e => hb (by simp [e])) (fun e => hb (by simp [e])) (fun e => hb (by simp [e])) (fun e => hb (by simp [e])) q)
    refine ⟨.ref s.heap.objs.size, _, I.turnedNew (t' := t') (ch := [zz, tI, tO, j1, j2]) kk hf (Nat.le_refl _) new, rfl, ?_, ?_, fun b hb => ?_⟩
    · refine ⟨_, c, ys[i], rfl, I.hok.fresh (Nat.le_refl _), rfl, hcp, fun l hl => ?_⟩
      rw [I.tuple_inj hl hq]
      exact List.getElem?_eq_getElem hix
    · refine ⟨y0', (sb.2 _ S.TIz).trans (hk _ _ S.TIz S.TITO S.TIi1 S.TIi2 z1), ⟨_, _, (sb.2 _ S.TOz).trans y2⟩, ⟨n1.choose, (sb.2 _ (Ne.symm S.zi1)).trans n1.choose_spec.1, n1.choose_spec.2⟩, n2.1.at fun o q => (sb.2 _ (Ne.symm S.zi2)).trans q⟩
    · have hlt2 : b < s.heap.objs.size := by
        refine five hb (fun q => ?_) (fun q => ?_) (fun q => ?_) (fun q => ?_) fun q => ?_
        · rw [q]; exact zl
        · rw [q]; exact Heap.lt_size z1
        · rw [q]; exact Heap.lt_size z2
        · rw [q]; obtain ⟨_, e1, _⟩ := s1; exact Heap.lt_size e1
        · rw [q]; obtain ⟨_, e2, _⟩ := s2; exact Heap.lt_size e2
      rw [upd_ne (Nat.ne_of_lt hlt2)]
      exact (hf b hb).1
  done := by
    intro X hP hw hK hc i pins s σ H E I hf st hg
    subst hP hw hK
    obtain ⟨z0, z1, ⟨a1, a2, z2⟩, s1, s2⟩ := st
    obtain ⟨ys, hq, h1, h2, hend⟩ := hg
    obtain ⟨its, rv, pt, _⟩ := I.tuple hq
    have hh : X.A.in1.handled = none := I.ok.hd hc
    have ne : tb ≠ j2 := fun e => by
      obtain ⟨o, ho, hcls, n, hd⟩ := pt
      obtain ⟨o2, e2, hcls2, d2⟩ := s2
      rw [e, e2] at ho
      cases ho
      rw [hcls2] at hcls
      injection hcls with e0
      exact absurd e0 (by decide)
    have D1 := Draws.text (prog := X.prog) (w := X.w) hh j1 zt tk
    have D2 := Draws.tuple (prog := X.prog) (w := X.w) hh j2 tb ne its.toArray
    have sz : its.toArray.size = ys.length := by rw [List.size_toArray, ← rv.length]
    exact wpAny_pyNext_zipD2_end S D1 D2 z0 z1 z2 s1 ⟨s2, pt⟩ h1 (by rw [sz]; exact h2) (by rw [sz]; exact hend) fun h' t' hk => ⟨rfl, I.turnedL (t' := t') (ch := [zz, tI, tO, j1, j2]) (fun b o hb q =>
      hk b o (fun e => hb (by simp [e])) (fun e => hb (by simp [e])) (fun e => hb (by simp [e])) (fun e => hb (by simp [e])) q) hf⟩
  self := fun A i s Q E st h => wpAny_pyIter_zip st.zip h
def iZipST (K : PySem.W.Frag) (ta : TA) : TI := fun σ H R => ta σ H fun vs H1 => ∃ (zt : Str) (tb : Addr) (ys : List V), vs = [.str zt, .ref tb] ∧ SqT K H1 tb ys ∧ R (ItzST K zt tb) H1
theorem pi_zipST {X : Cx} {e e2 : Expr} {ta : TA} {p pos tpos : Pos} {elts : List Expr} {kk : Nat} (hg : Gl X "zip") (hm : X.mg "zip" = none) (ha : PA X [e, e2] ta)
    (hs : starEach [e, e2] X.env = (false, eval e X.env) :: starEach [e2] X.env := by rfl) (hpl : (backTo pos (starEach [e2] X.env)).any (·.1) = false := by rfl) :
    PI X (.Tuple elts kk tpos) (.Call (.Name "zip" p) [e, e2] [] pos) (iZipST X.K ta) := by
  refine ⟨fun pins s σ H R I h => ?_⟩
  refine Call_ (ld_blt I hg hm boot_zip (callWith_type1 (thn (ha.run pos pins s σ H _ I h) fun us s1 hq => ?_) hs hpl))
  obtain ⟨vs, H1, I1, r1, zt, tb, ys, rfl, hq, q⟩ := hq
  cases r1 with
  | cons ra rr =>
    cases rr with
    | cons rb rr =>
      cases rr
      obtain ⟨tk, rfl⟩ := ra
      cases rb
      obtain ⟨its, rv, pt, _⟩ := I1.tuple hq
      have tlt : tb < s1.heap.objs.size := by
        obtain ⟨o, ho, _⟩ := pt
        exact Heap.lt_size ho
      refine zip_begins2 (begins_text zt tk) (begins_tuple tb its.toArray) trivial pt fun h' y0 y1 y2 g1 g2 hsz hk => ?_
      refine wpAny_pyIter_zip y0 ?_
      have I2 : Inv X pins σ H1 { s1 with heap := h' } := I1.kept (t' := s1.toks) hk
      refine ⟨s1.heap.objs.size + 4, [s1.heap.objs.size + 4, s1.heap.objs.size + 2, s1.heap.objs.size + 3, s1.heap.objs.size, s1.heap.objs.size + 1], _, _, H1, rfl, I2,
        turn_zipST (zt := zt) (tk := tk) (tb := tb) (zip_sep2 (fp1 := []) (fp2 := [tb]) (by simp) (by simpa using tlt)), ⟨y0, y1, ⟨_, _, y2⟩, ⟨_, g1, rfl, rfl⟩, ⟨_, g2, rfl, rfl⟩⟩, fun b hb => ?_, q⟩
      have le : s1.heap.objs.size ≤ b := by
        refine five hb (fun e => ?_) (fun e => ?_) (fun e => ?_) (fun e => ?_) fun e => ?_
        · rw [e]; exact Nat.le_add_right _ _
        · rw [e]; exact Nat.le_add_right _ _
        · rw [e]; exact Nat.le_add_right _ _
        · rw [e]; exact Nat.le_refl _
        · rw [e]; exact Nat.le_add_right _ _
      exact I1.fpOk le (I1.hok.fresh le)
/-- a comprehension over it: as many turns as both have -/
theorem walk_zipST {K : PySem.W.Frag} {zt : Str} {tb : Addr} {ys : List V} (hl : zt.cps.size = ys.length) : Walk (ItzST K zt tb) ys.length (fun H => SqT K H tb ys)
    (fun i H v H' => ∃ T c y, v = .ref T ∧ H T = none ∧ H' = upd H T (.tup [.str ⟨#[c]⟩, y]) ∧ zt.cps[i]? = some c ∧ ys[i]? = some y) where
  goes := fun i H hi q => ⟨by omega, ys, q, hi⟩
  stops := fun H q => ⟨ys, q, by omega, Nat.le_refl _, .inr rfl⟩
  yields := fun i H x H' hi q y => by
    obtain ⟨T, c, y, e1, e2, e3, e4, e5⟩ := y
    exact ⟨T, c, y, e1, e2, e3, e4, e5 ys q⟩
end K7
set_option maxHeartbeats 4000000
/-! is_part, has_form, is_test -/
namespace K7
open PySem PySem.Spec PyProof.Rows L2 Evl
/-! ### d.get(key) of a dict of the module -/
def tKGet (K : PySem.W.Frag) (w : World) (td ty : TE) : TE := fun σ H Q => td σ H fun x H1 => ∃ a es n, x = .ref a ∧ KDict K w a es n ∧ ty σ H1 fun y H2 => ∃ (z : Str) (u : Value) (v : V), y = .str z ∧ PySem.W.nsIn K a z = some (some u) ∧ RelV v u ∧ Q v H2
theorem pe_kget {X : Cx} {o e : Expr} {td ty : TE} {apos cpos : Pos} (ho : PE X o td) (he : PE X e ty) (m : M1 X o "get" apos e cpos) : PE X (.Call (.Attribute o "get" apos) [e] [] cpos) (tKGet X.K X.w td ty) := by
  refine ⟨fun pins s σ H Q I h => ?_⟩
  refine wpAny_Call_method m.base m.few m.line PySem.F.plainAttrs_dict PySem.F.slot_dict_get PySem.F.type_dict_get (thn (ho.run pins s σ H _ I h) fun u s1 hq => ?_)
  obtain ⟨x, H1, I1, rx, a, es, n, ex, D, q1⟩ := hq
  subst ex
  obtain rfl : u = Value.ref a := rx
  refine ⟨kd_type D I1, fun b q => ?_, ?_⟩
  · cases q
    exact ⟨_, I1.kIn _ _ D.at_, rfl⟩
  rw [m.trees]
  refine Calls.callWith_builtin rfl (Calls.evalArgs_plain (Calls.spliced_cons (thn (he.run pins s1 σ H1 _ I1 q1) fun iv s2 hq2 => Calls.spliced_nil ?_)))
  obtain ⟨y, H2, I2, ry, z, u0, v0, ey, hn, rv, q2⟩ := hq2
  subst ey
  obtain ⟨t, rfl⟩ := ry
  have dm := PySem.W.mapOf_K (prog := X.prog) (w := X.w) I2.kIn D.at_ D.lit
  refine call_meetsIn PySem.F.slot_dict_get dm.typeIs PySem.F.entry_dict_get (PySem.F.args_dict_get_2 _ _) (meets_dict_get (PySem.strKind X.prog X.w) a (PySem.strKind_is X.prog X.w z t) D.low) ⟨_, dm, ?_⟩
  rw [PySem.W.find_K D.at_ hn]
  exact ⟨v0, H2, I2.tok _, rv, q2⟩
section
variable {K : PySem.W.Frag} {w : World} {σ : L2.St} {H : Hp} {td ty ta : TE} {x : V}
theorem ev_kget {a : Addr} {es : Array DictEntry} {n : Nat} {z : Str} {u : Value} {v : V} (h : Ev td σ H (.ref a)) (D : KDict K w a es n) (hy : Ev ty σ H (.str z)) (hn : PySem.W.nsIn K a z = some (some u)) (rv : RelV v u) : Ev (tKGet K w td ty) σ H v := fun H1 e Q q =>
  h H1 e _ fun H2 e2 => ⟨a, es, n, rfl, D, hy H2 (e.trans e2) _ fun H3 e3 => ⟨z, u, v, rfl, hn, rv, q H3 (e2.trans e3)⟩⟩
theorem ev_eqU {ds : List PyData} (ha : Ev ta σ H x) (hd : Dp K H x (.tuple ds)) (sh : SeqAt.shaped (.tuple ds) = true) : Ev (tOp (rEqD K) ta (tTup tNil)) σ H (.bl ds.isEmpty) := by
  refine ev_opU ha (eu_tup ea_nil (by decide)) fun p H1 hp e1 => fun H2 e2 Q q => ⟨.tuple ds, .tuple [], same_dp (e1.trans e2) hd, .tup (st_of (e2 p _ hp)) .nil, sh, by decide +kernel, ?_⟩
  have e : PyData.eqv (.tuple ds) (.tuple []) = ds.isEmpty := by
    cases ds <;> simp [PyData.eqv, PyData.eqvAll]
  rw [e]
  exact q H2 (Ex.refl H2)
end
section
variable {K : PySem.W.Frag} {σ : L2.St} {H : Hp} {ta : TA} {te : TE}
theorem rv_isN {x : V} : RV (fun x y H Q => y = .non ∧ Q (.bl (decide (x = .non))) H) x .non H (.bl (decide (x = .non))) := fun H1 _ _ q => ⟨rfl, q H1 (Ex.refl H1)⟩
theorem rv_notN {x : V} : RV (fun x y H Q => y = .non ∧ Q (.bl (!decide (x = .non))) H) x .non H (.bl (!decide (x = .non))) := fun H1 _ _ q => ⟨rfl, q H1 (Ex.refl H1)⟩
/-- [e for s, y in zip(text, tuple)], each e true -/
theorem el_zipST {zt : Str} {ys : List V} {j l : Nat} (h : ∀ H1, Ex H H1 → ∀ Q : List V → Hp → Prop, (∀ p H2, Ex H1 H2 → SqT K H2 p ys → Q [.str zt, .ref p] H2) → ta σ H1 Q) (hsz : zt.cps.size = ys.length) (hz : ys.length ≤ 40000)
    (hw : ∀ x y, wipe (((wipe σ [j, l]).set j (some x)).set l (some y)) [j, l] = wipe σ [j, l])
    (he : ∀ (i c : Nat) (y : V) H1, Ex H H1 → zt.cps[i]? = some c → ys[i]? = some y → Ev te (((wipe σ [j, l]).set j (some (.str ⟨#[c]⟩))).set l (some y)) H1 (.bl true)) :
    EvL (tLc (iZipST K ta) (gTup K 2 (gCons (gName j) (gCons (gName l) gNil))) tYes te [j, l]) σ H (List.replicate ys.length (V.bl true)) := fun H0 e Q q => h H0 e _ fun p H1 e1 hp => ⟨zt, p, ys, rfl, hp, fun Dl hD =>
  lc_it (te := te) (walk_zipST hsz) (fun i H' => H1 Dl = none ∧ Ex H1 H' ∧ H' Dl = some (.lst (List.replicate i (V.bl true)))) ⟨hD, Ex.new hD, upd_same⟩ (fun i H' _ hP => ex_t hP.2.1 hp) (fun i x H2 H3 hi hP y => by
    obtain ⟨hd, hex, hl⟩ := hP
    obtain ⟨T, c, yv, rfl, hT, rfl, hc, hy⟩ := y
    have e3 : Ex H1 (upd H2 T (.tup [.str ⟨#[c]⟩, yv])) := hex.trans (Ex.new hT)
    have hl3 : (upd H2 T (.tup [.str ⟨#[c]⟩, yv])) Dl = some (.lst (List.replicate i (V.bl true))) := by
      rw [upd_ne (ne_of_none hl hT)]
      exact hl
    refine ⟨T, _, rfl, st_of upd_same, rfl, _, _, rfl, _, _, rfl, rfl, hw _ _, ?_⟩
    show te _ _ _
    refine he i c yv H1 (e.trans e1) hc hy _ e3 _ fun H4 e4 => ⟨_, e4 Dl _ hl3, sz_lt (by rw [List.length_replicate]; omega), hd, Ex.mut (e3.trans e4) hd, ?_⟩
    rw [List.replicate_succ', upd_same]) (fun H2 hP => q Dl H2 (fresh_back e1 hP.1) (e1.trans hP.2.1) hP.2.2)⟩
end
/-! ### the parts of a statement or test by their sorts -/
def PartOk (K : PySem.W.Frag) (H : Hp) (tst : Bool) (g c : Nat) (v : V) : Prop :=
  (c = 110 ∧ ∃ x, v = .str x ∧ isName x = true) ∨ (c = 119 ∧ ∃ x, v = .str x ∧ isWord x = true) ∨ (c = 103 ∧ ∃ i : Nat, i < g ∧ v = .int i) ∨ (c = 107 ∧ ∃ k : Nat, k ≤ 12 ∧ v = .int k) ∨
  (tst = true ∧ c = 116 ∧ ∃ t : Tst, t.ok g ∧ Dp K H v (encT t)) ∨ (c = 98 ∧ ∃ a xs, v = .ref a ∧ SqT K H a xs)
theorem PartOk.ext {K : PySem.W.Frag} {H H' : Hp} {tst : Bool} {g c : Nat} {v : V} (e : Ex H H') (h : PartOk K H tst g c v) : PartOk K H' tst g c v := by
  rcases h with h | h | h | h | ⟨h1, h2, t, h3, h4⟩ | ⟨h1, a, xs, h2, h3⟩
  · exact .inl h
  · exact .inr (.inl h)
  · exact .inr (.inr (.inl h))
  · exact .inr (.inr (.inr (.inl h)))
  · exact .inr (.inr (.inr (.inr (.inl ⟨h1, h2, t, h3, same_dp e h4⟩))))
  · exact .inr (.inr (.inr (.inr (.inr ⟨h1, a, xs, h2, ex_t e h3⟩))))
section
variable {P : Program} {w : World} {K : PySem.W.Frag} {mg : Str → Option Value} {base : Heap}
def spTest (K : PySem.W.Frag) (tst : Bool) : Sp := fun vs H Q _ => ∃ (v : V) (g : Nat) (t : Tst), vs = [v, .int g] ∧ tst = true ∧ g ≤ 3 ∧ t.ok g ∧ Dp K H v (encT t) ∧ RetV (.bl true) H Q
def spPart (K : PySem.W.Frag) (tst : Bool) : Sp := fun vs H Q _ => ∃ (c g : Nat) (v : V), vs = [.str ⟨#[c]⟩, v, .int g] ∧ g ≤ 3 ∧ PartOk K H tst g c v ∧ RetV (.bl true) H Q
theorem c1 (c : Nat) (x : Str) (h : x = ⟨#[c]⟩ := by decide +kernel) : (⟨#[c]⟩ : Str) = x := h.symm
theorem ok_is_part (T : Txt w K mg) {tst : Bool} {k : Nat} (hk : 2 ≤ k) (G_is_test : FOk P w K mg base k "is_test" (spTest K tst)) : FOk P w K mg base (k + 1) "is_part" (spPart K tst) := by
  have G_is_name : FOk P w K mg base 2 "is_name" spIsName := ok_is_name T
  have G_is_word : FOk P w K mg base 1 "is_word" spIsWord := ok_is_word T
  have G_is_number : FOk P w K mg base 1 "is_number" spNumber := ok_is_number T
  refine fok T.f_is_part T.g_is_part sc_is_part (fun _ _ _ _ _ _ us hl => match us, hl with | [_, _, _], _ => rfl) (fun vs H Q E h => ?_) (fun cdv A outer s H vs Q E hr h => ?_)
  · obtain ⟨c, g, v, rfl, _⟩ := h
    rfl
  obtain ⟨c, g, v, rfl, hg, hp, kq⟩ := h
  have nd := sc_is_part.nd
  refine ⟨_, (pss_cons (ps_if (pt_cmpR op_eq (pv 0) pe_str (nomark _)) (pss_one (ps_ret (pe_f G_is_name (hr.mono (by omega)) (pa_cons (pv 1) pa_nil)))) pss_nil) (pss_cons (ps_if (pt_cmpR op_eq (pv 0) pe_str (nomark _)) (pss_one (ps_ret (pe_f G_is_word (hr.mono (by omega)) (pa_cons (pv 1) pa_nil)))) pss_nil) (pss_cons (ps_if (pt_cmpR op_eq (pv 0) pe_str (nomark _)) (pss_one (ps_ret (pe_f G_is_number (hr.mono (by omega)) (pa_cons (pv 1) (pa_cons pe_int (pa_cons (pe_op op_sub (pv 2) pe_int) pa_nil)))))) pss_nil) (pss_cons (ps_if (pt_cmpR op_eq (pv 0) pe_str (nomark _)) (pss_one (ps_ret (pe_f G_is_number (hr.mono (by omega)) (pa_cons (pv 1) (pa_cons pe_int (pa_cons (pe_gi T.i_MAX_TIMES) pa_nil)))))) pss_nil) (pss_cons (ps_if (pt_cmpR op_eq (pv 0) pe_str (nomark _)) (pss_one (ps_ret (pe_f G_is_test (hr.mono (by omega)) (pa_cons (pv 1) (pa_cons (pv 2) pa_nil))))) pss_nil) (pss_one (ps_ret (pe_isi T.z_isinstance T.z_tuple boot_tupleT (pv 1))))))))), ?_⟩
  rcases hp with ⟨rfl, x, rfl, hx⟩ | ⟨rfl, x, rfl, hx⟩ | ⟨rfl, i, hi, rfl⟩ | ⟨rfl, i, hi, rfl⟩ | ⟨ht, rfl, t, ht2, hd⟩ | ⟨rfl, a, xs, rfl, hs⟩
  · refine q_when (et_test (ev_eqY (ev_var rfl) ev_c (c1 110 "n"))) (fun _ H1 e1 => ?_) fun h => Bool.noConfusion h
    exact s_ret (ev_is (ev_call (ea_cons (ev_var rfl) ea_nil) (fun H2 e2 Q' q E' => ⟨x, rfl, by have := word_len (name_word hx); omega, q⟩)) (by rw [hx])) (RetV.ext kq e1)
  · refine q_when (et_test (ev_eqN (ev_var rfl) ev_c (by decide +kernel))) (fun h => Bool.noConfusion h) fun _ H1 e1 => ?_
    refine q_when (et_test (ev_eqY (ev_var rfl) ev_c (c1 119 "w"))) (fun _ H2 e2 => ?_) fun h => Bool.noConfusion h
    exact s_ret (ev_is (ev_call (ea_cons (ev_var rfl) ea_nil) (fun H2 e2 Q' q E' => ⟨x, rfl, by have := word_len hx; omega, q⟩)) (by rw [hx])) (RetV.ext kq (e1.trans e2))
  · refine q_when (et_test (ev_eqN (ev_var rfl) ev_c (by decide +kernel))) (fun h => Bool.noConfusion h) fun _ H1 e1 => ?_
    refine q_when (et_test (ev_eqN (ev_var rfl) ev_c (by decide +kernel))) (fun h => Bool.noConfusion h) fun _ H2 e2 => ?_
    refine q_when (et_test (ev_eqY (ev_var rfl) ev_c (c1 103 "g"))) (fun _ H3 e3 => ?_) fun h => Bool.noConfusion h
    exact s_ret (ev_call (ea_cons (ev_var rfl) (ea_cons ev_c (ea_cons (ev_op (ev_var rfl) ev_c rv_I0) ea_nil))) (fun H2 e2 Q' q E' => ⟨i, 0, (g : Int) - 1, rfl, by omega, by omega, q⟩)) (RetV.ext kq ((e1.trans e2).trans e3))
  · refine q_when (et_test (ev_eqN (ev_var rfl) ev_c (by decide +kernel))) (fun h => Bool.noConfusion h) fun _ H1 e1 => ?_
    refine q_when (et_test (ev_eqN (ev_var rfl) ev_c (by decide +kernel))) (fun h => Bool.noConfusion h) fun _ H2 e2 => ?_
    refine q_when (et_test (ev_eqN (ev_var rfl) ev_c (by decide +kernel))) (fun h => Bool.noConfusion h) fun _ H3 e3 => ?_
    refine q_when (et_test (ev_eqY (ev_var rfl) ev_c (c1 107 "k"))) (fun _ H4 e4 => ?_) fun h => Bool.noConfusion h
    exact s_ret (ev_call (ea_cons (ev_var rfl) (ea_cons ev_c (ea_cons ev_c ea_nil))) (fun H2 e2 Q' q E' => ⟨i, 0, 12, rfl, by omega, by omega, q⟩)) (RetV.ext kq (((e1.trans e2).trans e3).trans e4))
  · refine q_when (et_test (ev_eqN (ev_var rfl) ev_c (by decide +kernel))) (fun h => Bool.noConfusion h) fun _ H1 e1 => ?_
    refine q_when (et_test (ev_eqN (ev_var rfl) ev_c (by decide +kernel))) (fun h => Bool.noConfusion h) fun _ H2 e2 => ?_
    refine q_when (et_test (ev_eqN (ev_var rfl) ev_c (by decide +kernel))) (fun h => Bool.noConfusion h) fun _ H3 e3 => ?_
    refine q_when (et_test (ev_eqN (ev_var rfl) ev_c (by decide +kernel))) (fun h => Bool.noConfusion h) fun _ H4 e4 => ?_
    refine q_when (et_test (ev_eqY (ev_var rfl) ev_c (c1 116 "t"))) (fun _ H5 e5 => ?_) fun h => Bool.noConfusion h
    have e15 := (((e1.trans e2).trans e3).trans e4).trans e5
    exact s_ret (ev_call (ea_cons (ev_var rfl) (ea_cons (ev_var rfl) ea_nil)) (fun H2 e2 Q' q E' => ⟨v, g, t, rfl, ht, hg, ht2, same_dp (e15.trans e2) hd, q⟩)) (RetV.ext kq e15)
  · refine q_when (et_test (ev_eqN (ev_var rfl) ev_c (by decide +kernel))) (fun h => Bool.noConfusion h) fun _ H1 e1 => ?_
    refine q_when (et_test (ev_eqN (ev_var rfl) ev_c (by decide +kernel))) (fun h => Bool.noConfusion h) fun _ H2 e2 => ?_
    refine q_when (et_test (ev_eqN (ev_var rfl) ev_c (by decide +kernel))) (fun h => Bool.noConfusion h) fun _ H3 e3 => ?_
    refine q_when (et_test (ev_eqN (ev_var rfl) ev_c (by decide +kernel))) (fun h => Bool.noConfusion h) fun _ H4 e4 => ?_
    refine q_when (et_test (ev_eqN (ev_var rfl) ev_c (by decide +kernel))) (fun h => Bool.noConfusion h) fun _ H5 e5 => ?_
    have e15 := (((e1.trans e2).trans e3).trans e4).trans e5
    exact s_ret (ev_isTup (ev_var rfl) (ex_t e15 hs)) (RetV.ext kq e15)
/-- what has_form is asked -/
structure FormOk (K : PySem.W.Frag) (H : Hp) (tst inner : Bool) (g : Nat) (v : V) : Prop where
  ex : ∃ (a : Addr) (kw form : Str) (items : List V) (d0 : PyData) (ds : List PyData), v = .ref a ∧ SqT K H a (.str kw :: items) ∧ Dp K H v (.tuple (d0 :: ds)) ∧ SeqAt.shaped (.tuple (d0 :: ds)) = true ∧
    (kw, form) ∈ (if inner = true then kvTEST_FORMS else kvFORMS) ∧ form.cps.size = items.length ∧ items.length ≤ 3 ∧ ∀ (i c : Nat) (u : V), form.cps[i]? = some c → items[i]? = some u → PartOk K H tst g c u
def spForm (K : PySem.W.Frag) (tst : Bool) : Sp := fun vs H Q _ => ∃ (v : V) (g : Nat) (inner : Bool), vs = [v, .int g, .bl inner] ∧ g ≤ 3 ∧ FormOk K H tst inner g v ∧ RetV (.bl true) H Q
theorem cut1 {x : V} {r : List V} : cutV (x :: r) (some 1) none = r := by
  unfold cutV HT.sIx
  simp
theorem ok_has_form (T : Txt w K mg) {tst : Bool} {k : Nat} (G_is_part : FOk P w K mg base k "is_part" (spPart K tst)) : FOk P w K mg base (k + 1) "has_form" (spForm K tst) := by
  refine fok T.f_has_form T.g_has_form sc_has_form (fun _ _ _ _ _ _ us hl => match us, hl with | [_, _, _], _ => rfl) (fun vs H Q E h => ?_) (fun cdv A outer s H vs Q E hr h => ?_)
  · obtain ⟨c, g, v, rfl, _⟩ := h
    rfl
  obtain ⟨v, g, inner, rfl, hg, ⟨a, kw, form, items, d0, ds, rfl, hs, hd, sh, hf, hsz, hl3, hp⟩, kq⟩ := h
  have nd := sc_has_form.nd
  refine ⟨_, (pss_cons (ps_if (PW.pt (pw_or (pt_not (pt_val (pe_isi T.z_isinstance T.z_tuple boot_tupleT (pv 0)))) (pw_or (pt_cmpR (op_eqD hr.units) (pv 0) (pe_tup pa_nil) (nomark _)) (pw_or1 (pt_not (pt_val (pe_isi T.z_isinstance T.z_str boot_strT (pe_ix ix_tup (pv 0) pe_int (fun _ _ => rfl))))))))) (pss_one (ps_ret pe_bl)) pss_nil) (pss_cons (ps_set (i := 3) nd rfl (Or.inl rfl) (pe_ifExp (pt_val (pv 2)) (pe_kget (pe_gr T.g_TEST_FORMS) (pe_ix ix_tup (pv 0) pe_int (fun _ _ => rfl)) ⟨rfl, rfl, rfl, rfl⟩) (pe_kget (pe_gr T.g_FORMS) (pe_ix ix_tup (pv 0) pe_int (fun _ _ => rfl)) ⟨rfl, rfl, rfl, rfl⟩))) (pss_cons (ps_if (PW.pt (pw_or (pt_cmpR op_isN (pv 3) pe_non (nomark _)) (pw_or1 (pt_cmpR op_ne (pe_callB call_len_seq (by rfl) T.z_len PySem.boot_len (pa_cons (pv 0) pa_nil)) (pe_op op_add pe_int (pe_callB call_len_str (by rfl) T.z_len PySem.boot_len (pa_cons (pv 3) pa_nil))) (nomark _))))) (pss_one (ps_ret pe_bl)) pss_nil) (pss_one (ps_ret (pe_callB (cr_all rfl) (by rfl) T.z_all (by decide +kernel) (pa_cons (pe_lc (own := [("sort", 4), ("item", 5)]) (g := gTup K 2 (gCons (gName 4) (gCons (gName 5) gNil))) rfl nd (pi_zipST (by rfl) T.z_zip (pa_cons (pv 3) (pa_cons (pe_slice sl_tupA (pv 0) (po_some pe_int) po_none) pa_nil))) (blkOk_by (own := [("sort", 4), ("item", 5)]) (N := N_has_form) (sc := defScope s_has_form) (by decide +kernel)) (fun _ _ _ _ _ => (pg_tup rfl (pgs_cons (pg_name (i := 4) nd rfl (Or.inl rfl)) (pgs_cons (pg_name (i := 5) nd rfl (Or.inl rfl)) pgs_nil)))) (fun _ _ _ _ _ => pts_nil) (fun _ _ _ _ _ => (pe_f G_is_part (hr.mono (by omega)) (pa_cons (pv 4) (pa_cons (pv 5) (pa_cons (pv 1) pa_nil)))))) pa_nil))))))), ?_⟩
  have hkd : ∃ (d : Addr) (es : Array DictEntry) (n : Nat) (u : Value), d = (if inner = true then He.ga K "TEST_FORMS" else He.ga K "FORMS") ∧ KDict K w d es n ∧ PySem.W.nsIn K d kw = some (some u) ∧ RelV (.str form) u := by
    cases inner with
    | true =>
      obtain ⟨es, n, D⟩ := T.d_TEST_FORMS
      obtain ⟨u, h1, h2⟩ := T.v_TEST_FORMS hf
      exact ⟨_, es, n, u, rfl, D, h1, h2⟩
    | false =>
      obtain ⟨es, n, D⟩ := T.d_FORMS
      obtain ⟨u, h1, h2⟩ := T.v_FORMS hf
      exact ⟨_, es, n, u, rfl, D, h1, h2⟩
  obtain ⟨da, es, n, u, rfl, D, hn, rv⟩ := hkd
  have hfl : form.length = items.length := hsz
  refine q_when (et_or (et_not (et_B (ev_isTup (ev_var rfl) hs))) fun _ => et_or (et_test (ev_eqU (ev_var rfl) hd sh)) fun _ => et_not (et_B (ev_isStr (ev_at 0 (ev_var rfl) hs)))) (fun h => Bool.noConfusion h) fun _ H1 e1 => ?_
  refine q_asg (v := .str form) (ev_if (et_B (ev_var rfl)) (fun h => ?_) fun h => ?_) fun H2 e2 => ?_
  · subst h
    exact ev_kget ev_c D (ev_at 0 (ev_var rfl) (ex_t e1 hs)) hn rv
  · subst h
    exact ev_kget ev_c D (ev_at 0 (ev_var rfl) (ex_t e1 hs)) hn rv
  have e02 := e1.trans e2
  have hs2 := ex_t e02 hs
  refine q_when (b := false) (et_is (et_or (et_test (ev_op (ev_var rfl) ev_c (rv_isN (x := .str form)))) fun _ => et_test (ev_op (ev_lenT (ev_var rfl) hs2) (ev_op ev_c (ev_lenStr (ev_var rfl) (by omega)) rv_I0) (rv_ne rfl))) ?_) (fun h => Bool.noConfusion h) fun _ H3 e3 => ?_
  · have e : (((V.str kw :: items).length : Nat) : Int) = 1 + (form.length : Int) := by
      rw [List.length_cons, hfl]
      omega
    rw [e]
    simp
  have e03 := e02.trans e3
  refine s_ret (ev_all (K := K) (bs := List.replicate items.length true) ?_) (RetV.ext ?_ e03)
  · have q := el_zipST (K := K) (σ := [some (.ref a), some (.int g), some (.bl inner), some (.str form), none, none]) (H := H3) (ta := tCons (tVar 3) (tCons (tSl (rSlA K) (tVar 0) (tPart (tC (.int 1))) tNoPart) tNil)) (j := 4) (l := 5) (te := tCall (spPart K tst) [] E0 (tCons (tVar 4) (tCons (tVar 5) (tCons (tVar 1) tNil)))) (zt := form) (ys := items)
      (fun H4 e4 Q' q => (ev_var rfl) H4 e4 _ fun H5 e5 => ep_slT (ev_var rfl) (eo_some ev_c) eo_none (ex_t (e03.trans (e4.trans e5)) hs) H5 (Ex.refl _) _ fun v H6 e6 hv => by
        rw [cut1] at hv
        obtain ⟨p, rfl, hp2⟩ := hv
        exact q p H6 (e5.trans e6) hp2) hsz (by omega) (fun _ _ => rfl) (fun i c y H4 e4 hc hy => ev_call (ea_cons (ev_var rfl) (ea_cons (ev_var rfl) (ea_cons (ev_var rfl) ea_nil))) (fun H5 e5 Q' q E' => ⟨c, g, y, rfl, hg, (hp i c y hc hy).ext (e03.trans (e4.trans e5)), q⟩))
    rw [List.map_replicate]
    exact q
  · rw [List.all_replicate]
    simpa using kq
end
end K7
set_option maxHeartbeats 4000000
/-! is_test; what has_form is asked of tests and statements -/
namespace K7
open PySem PySem.Spec PyProof.Rows L2 Evl
section
variable {K : PySem.W.Frag} {H : Hp}
theorem paired_at {α β : Type} {F : α → β → Prop} : ∀ {cs : List α} {us : List β} {i : Nat} {c : α} {u : β}, Paired F cs us → cs[i]? = some c → us[i]? = some u → F c u
  | _, _, _, _, _, .nil, h, _ => by simp at h
  | _, _, 0, _, _, .cons r _, h1, h2 => by
    simp at h1 h2
    subst h1 h2
    exact r
  | _, _, i + 1, _, _, .cons _ t, h1, h2 => paired_at t (by simpa using h1) (by simpa using h2)
theorem form_mk {tst inner : Bool} {g : Nat} {a : Addr} {kw form : Str} {items : List V} {d : PyData} {d0 : PyData} {ds : List PyData} {n m : Nat} (hs : SqT K H a (.str kw :: items)) (hd : Dp K H (.ref a) (.tuple (d0 :: ds))) (hg : Good (.tuple (d0 :: ds)) n m) (hn : n ≤ 60)
    (hf : (kw, form) ∈ (if inner = true then kvTEST_FORMS else kvFORMS)) (cs : List Nat) (hcs : TL.tl form = cs) (hp : Paired (fun c u => PartOk K H tst g c u) cs items) (h3 : items.length ≤ 3) : FormOk K H tst inner g (.ref a) := by
  have hl : form.cps.size = items.length := by
    have e := Paired.length hp
    rw [← hcs] at e
    rw [← e]
    exact TL.len_tl form
  refine ⟨a, kw, form, items, d0, ds, rfl, hs, hd, ?_, hf, hl, h3, fun i c u h1 h2 => paired_at hp ?_ h2⟩
  · unfold SeqAt.shaped
    rw [Bool.and_eq_true, decide_eq_true_iff]
    exact ⟨hg.lay, Nat.le_trans hg.dep (by omega)⟩
  · rw [← hcs]
    show form.cps.toList[i]? = some c
    rw [Array.getElem?_toList]
    exact h1
theorem pn {tst : Bool} {g : Nat} {x : Str} (h : isName x = true) : PartOk K H tst g 110 (.str x) := .inl ⟨rfl, x, rfl, h⟩
theorem pw {tst : Bool} {g : Nat} {x : Str} (h : isWord x = true) : PartOk K H tst g 119 (.str x) := .inr (.inl ⟨rfl, x, rfl, h⟩)
theorem form_bt {tst : Bool} {g : Nat} {b : Bt} {v : V} (hg : g ≤ 3) (hk : b.ok g) (hd : Dp K H v (encBt b)) : FormOk K H tst true g v := by
  obtain ⟨a, rfl, hs⟩ := dp_bt hd
  have gd := good_bt hg hk
  cases b with
  | giv i => exact form_mk (d := .none) hs hd gd (by decide) (by decide +kernel) [103] (form := "g") (by decide +kernel) (.cons (.inr (.inr (.inl ⟨rfl, i, hk, rfl⟩))) .nil) (by show 1 ≤ 3; decide)
  | set x => exact form_mk (d := .none) hs hd gd (by decide) (by decide +kernel) [110] (form := "n") (by decide +kernel) (.cons (pn hk) .nil) (by show 1 ≤ 3; decide)
  | same x y => exact form_mk (d := .none) hs hd gd (by decide) (by decide +kernel) [110, 110] (form := "nn") (by decide +kernel) (.cons (pn hk.1) (.cons (pn hk.2) .nil)) (by show 2 ≤ 3; decide)
  | full x y => exact form_mk (d := .none) hs hd gd (by decide) (by decide +kernel) [110, 110] (form := "nn") (by decide +kernel) (.cons (pn hk.1) (.cons (pn hk.2) .nil)) (by show 2 ≤ 3; decide)
  | wished x => exact form_mk (d := .none) hs hd gd (by decide) (by decide +kernel) [119] (form := "w") (by decide +kernel) (.cons (pw hk) .nil) (by show 1 ≤ 3; decide)
theorem form_S {g : Nat} {s : Stm} {v : V} (hg : g ≤ 3) (hk : okS g s) (ht : htS s ≤ 10) (hd : Dp K H v (encS s)) : FormOk K H true false g v := by
  have gd := good_S hg hk
  cases s with
  | iff t y n =>
    obtain ⟨a, u, b, c, rfl, hs, hu, hb, hc⟩ := dp_iff hd
    obtain ⟨ba, bx, rfl, hb1, _⟩ := dp_tup hb
    obtain ⟨ca, cx, rfl, hc1, _⟩ := dp_tup hc
    rw [encS] at hd gd
    exact form_mk (d := .none) hs hd gd (by omega) (by decide +kernel) [116, 98, 98] (form := "tbb") (by decide +kernel) (.cons (.inr (.inr (.inr (.inr (.inl ⟨rfl, rfl, t, hk.1, hu⟩))))) (.cons (.inr (.inr (.inr (.inr (.inr ⟨rfl, ba, bx, rfl, hb1⟩))))) (.cons (.inr (.inr (.inr (.inr (.inr ⟨rfl, ca, cx, rfl, hc1⟩))))) .nil))) (by show 3 ≤ 3; decide)
  | rep k y =>
    obtain ⟨a, b, rfl, hs, hb⟩ := dp_rep hd
    obtain ⟨ba, bx, rfl, hb1, _⟩ := dp_tup hb
    rw [encS] at hd gd
    exact form_mk (d := .none) hs hd gd (by omega) (by decide +kernel) [107, 98] (form := "kb") (by decide +kernel) (.cons (.inr (.inr (.inr (.inl ⟨rfl, k, hk.1, rfl⟩)))) (.cons (.inr (.inr (.inr (.inr (.inr ⟨rfl, ba, bx, rfl, hb1⟩))))) .nil)) (by show 2 ≤ 3; decide)
  | pln p =>
    have hp : Dp K H v (encP p) := by
      rw [encS] at hd
      exact hd
    have hk2 : p.ok g := hk
    have gd2 := good_pln hg hk2
    obtain ⟨a, u, rfl, hs, hu⟩ := dp_pln hp
    cases p with
    | make x | keep x | drop x => exact form_mk (d := .none) hs hp gd2 (by decide) (by decide +kernel) [110] (form := "n") (by decide +kernel) (.cons (pn hk2) .nil) (by show 1 ≤ 3; decide)
    | wish x w => exact form_mk (d := .none) hs hp gd2 (by decide) (by decide +kernel) [110, 119] (form := "nw") (by decide +kernel) (.cons (pn hk2.1) (.cons (pw hk2.2) .nil)) (by show 2 ≤ 3; decide)
    | name x y | cut x y => exact form_mk (d := .none) hs hp gd2 (by decide) (by decide +kernel) [110, 110] (form := "nn") (by decide +kernel) (.cons (pn hk2.1) (.cons (pn hk2.2) .nil)) (by show 2 ≤ 3; decide)
    | hold x f y | weak x f y | take x f y => exact form_mk (d := .none) hs hp gd2 (by decide) (by decide +kernel) [110, 110, 110] (form := "nnn") (by decide +kernel) (.cons (pn hk2.1) (.cons (pn hk2.2.1) (.cons (pn hk2.2.2) .nil))) (by show 3 ≤ 3; decide)
    | say w => exact form_mk (d := .none) hs hp gd2 (by decide) (by decide +kernel) [119] (form := "w") (by decide +kernel) (.cons (pw hk2) .nil) (by show 1 ≤ 3; decide)
    | ask t => exact form_mk (d := .none) hs hp gd2 (by decide) (by decide +kernel) [116] (form := "t") (by decide +kernel) (.cons (.inr (.inr (.inr (.inr (.inl ⟨rfl, rfl, t, hk2, hu⟩))))) .nil) (by show 1 ≤ 3; decide)
end
section
variable {P : Program} {w : World} {K : PySem.W.Frag} {mg : Str → Option Value} {base : Heap}
theorem ok_is_test (T : Txt w K mg) {k : Nat} (G_has_form : FOk P w K mg base k "has_form" (spForm K false)) : FOk P w K mg base (k + 1) "is_test" (spTest K true) := by
  refine fok T.f_is_test T.g_is_test sc_is_test (fun _ _ _ _ _ _ us hl => match us, hl with | [_, _], _ => rfl) (fun vs H Q E h => ?_) (fun cdv A outer s H vs Q E hr h => ?_)
  · obtain ⟨c, g, v, rfl, _⟩ := h
    rfl
  obtain ⟨v, g, t, rfl, _, hg, hok, hd, kq⟩ := h
  have nd := sc_is_test.nd
  refine ⟨_, (pss_cons (ps_for PassesOwn.never rfl (pi_range1 (by rfl) T.z_range (pa_cons (pe_gi T.i_MOST_NOTS_programs) pa_nil)) (pg_name (i := 2) nd rfl (Or.inl rfl)) (pss_one (ps_if (PW.pt (pw_and (pt_val (pe_isi T.z_isinstance T.z_tuple boot_tupleT (pv 0))) (pw_and (pt_cmpR op_eq (pe_callB call_len_seq (by rfl) T.z_len PySem.boot_len (pa_cons (pv 0) pa_nil)) pe_int (nomark _)) (pw_and1 (pt_cmpR op_eq (pe_ix ix_tup (pv 0) pe_int (fun _ _ => rfl)) pe_str (nomark _)))))) (pss_one (ps_set (i := 0) nd rfl (Or.inl rfl) (pe_ix ix_tup (pv 0) pe_int (fun _ _ => rfl)))) pss_nil))) (pss_one (ps_ret (pe_f G_has_form (hr.mono (by omega)) (pa_cons (pv 0) (pa_cons (pv 1) (pa_cons pe_bl pa_nil))))))), ?_⟩
  refine q_forR1 (n := 3) (ea_cons ev_c ea_nil) (by decide) (fun i σ' H' => ∃ (u : V) (kk : Option V), σ' = [some u, some (.int g), kk] ∧ Ex H H' ∧ Dp K H' u (encN (t.nots - i) (encBt t.bt))) (fun H1 e1 => ⟨v, none, rfl, e1, same_dp e1 hd⟩) (fun i σ' H' hi p => ?_) (fun σ' H' p => ?_)
  · obtain ⟨u, kk, rfl, e, hu⟩ := p
    cases hm : t.nots - i with
    | zero =>
      rw [hm] at hu
      obtain ⟨a, rfl, hs⟩ := dp_bt (b := t.bt) hu
      have hk : ∃ kw r, btV t.bt = .str kw :: r ∧ kw ≠ "not" := by
        cases t.bt <;> exact ⟨_, _, rfl, by decide +kernel⟩
      obtain ⟨kw, r, er, hne⟩ := hk
      rw [er] at hs
      refine s_when (b := false) (et_is (et_and (et_B (ev_isTup (ev_var rfl) hs)) fun _ => et_and (et_test (ev_op (ev_lenT (ev_var rfl) hs) ev_c (rv_eq rfl))) fun _ => et_test (ev_eqN (ev_at 0 (ev_var rfl) hs) ev_c hne)) (by rw [Bool.and_false, Bool.and_false])) (fun h => Bool.noConfusion h) fun _ H1 e1 => ?_
      refine ⟨_, _, rfl, e.trans e1, ?_⟩
      have e0 : t.nots - (i + 1) = 0 := by omega
      rw [e0]
      exact same_dp e1 hu
    | succ m =>
      rw [hm] at hu
      obtain ⟨a, u2, rfl, hs, hu2⟩ := dp_not hu
      refine s_when (b := true) (et_is (et_and (et_B (ev_isTup (ev_var rfl) hs)) fun _ => et_and (et_test (ev_op (ev_lenT (ev_var rfl) hs) ev_c (rv_eq rfl))) fun _ => et_test (ev_eqY (ev_at 0 (ev_var rfl) hs) ev_c rfl)) (by
        show (true && (decide (V.int 2 = V.int 2) && true)) = true
        decide +kernel)) (fun _ H1 e1 => ?_) fun h => Bool.noConfusion h
      refine s_asg (ev_at 1 (ev_var rfl) (ex_t e1 hs)) fun H2 e2 => ?_
      refine ⟨u2, _, rfl, (e.trans e1).trans e2, ?_⟩
      have e0 : t.nots - (i + 1) = m := by omega
      rw [e0]
      exact same_dp (e1.trans e2) hu2
  · obtain ⟨u, kk, rfl, e, hu⟩ := p
    have e0 : t.nots - (3 : Int).toNat = 0 := by
      have := hok.1
      have e3 : (3 : Int).toNat = 3 := rfl
      omega
    rw [e0] at hu
    exact s_ret (ev_call (ea_cons (ev_var rfl) (ea_cons (ev_var rfl) (ea_cons ev_c ea_nil))) (fun H2 e2 Q' q E' => ⟨u, g, true, rfl, hg, form_bt hg hok.2 (same_dp e2 hu), q⟩)) (RetV.ext kq e)
/-- has_form, of a statement -/
theorem ok_has_formS (T : Txt w K mg) : FOk P w K mg base 7 "has_form" (spForm K true) := by
  have t0 : FOk P w K mg base 2 "is_test" (spTest K false) := fok_none T.f_is_test T.g_is_test (ps := ["value", "givens"]) (fun _ _ _ _ _ _ us hl => match us, hl with | [_, _], _ => rfl) (fun vs H Q E ⟨v, g, t, _, h, _⟩ => Bool.noConfusion h) _
  have p0 := ok_is_part T (tst := false) (k := 2) (by decide) t0
  have f0 := ok_has_form T (tst := false) p0
  have t1 := ok_is_test T f0
  have p1 := ok_is_part T (tst := true) (k := 5) (by decide) t1
  exact ok_has_form T (tst := true) p1
end
end K7
set_option maxHeartbeats 4000000
/-! weight_of, first_error -/
namespace K7
open PySem PySem.Spec PyProof.Rows L2 Evl
section
variable {K : PySem.W.Frag} {σ : L2.St} {H H' : Hp} {te tl : TE} {t : TT} {R : V → Hp → Prop} {D : Ends} {tu tz : TS} {g : TG}
/-- [e for x in tuple], the tuple some value of R -/
theorem el_lcTP {j : Nat} {vs : List Nat} (vals : List V) (h : EvP tl σ H R) (hz : vals.length ≤ 40000) (hw : ∀ x, wipe ((wipe σ vs).set j (some x)) vs = wipe σ vs)
    (hR : ∀ v H1, Ex H H1 → R v H1 → ∃ (a : Addr) (xs : List V), v = .ref a ∧ SqT K H1 a xs ∧ xs.length = vals.length ∧ ∀ (i : Nat) (x y : V), xs[i]? = some x → vals[i]? = some y → Ev te ((wipe σ vs).set j (some x)) H1 y) : EvL (tLc (iTup K tl) (gName j) tYes te vs) σ H vals := fun H0 e Q q => h H0 e _ fun v H1 e1 hr => by
  obtain ⟨a, xs, rfl, hs, hl, he⟩ := hR v H1 (e.trans e1) hr
  refine ⟨a, rfl, ⟨xs, hs⟩, fun Dl hD => ?_⟩
  refine lc_it (te := te) (tt := tYes) (g := gName j) (vs := vs) (σ := σ) (walk_tup (xs := xs)) (fun i H' => H1 Dl = none ∧ Ex H1 H' ∧ H' Dl = some (.lst (vals.take i))) ⟨hD, Ex.new hD, upd_same⟩ (fun i H' _ hP => ex_t hP.2.1 hs) (fun i x H2 H3 hi hP y => ?_) (fun H2 hP => ?_)
  · obtain ⟨hd, hex, hlst⟩ := hP
    obtain ⟨rfl, hx⟩ := y
    have hi2 : i < vals.length := by omega
    refine ⟨hw _, ?_⟩
    show te _ _ _
    refine he i x vals[i] hx (List.getElem?_eq_getElem hi2) _ hex _ fun H4 e4 => ⟨_, e4 Dl _ hlst, sz_lt (by rw [List.length_take]; omega), hd, Ex.mut (hex.trans e4) hd, ?_⟩
    rw [upd_same, List.take_add_one, List.getElem?_eq_getElem hi2]
    rfl
  · rw [hl, List.take_length] at hP
    exact q Dl H2 (fresh_back e1 hP.1) (e1.trans hP.2.1) hP.2.2
theorem ev_sum {ns : List Int} (h : EvL te σ H (ns.map V.int)) : Ev (tCB (fun vs H Q => ∃ (a : Addr) (ns : List Int), vs = [V.ref a] ∧ SqL K H a (ns.map V.int) ∧ Q (.int ns.sum) H) (tCons te tNil)) σ H (.int ns.sum) := fun H1 e Q q =>
  h H1 e _ fun p H2 _ e2 hp => ⟨p, ns, rfl, sq_of hp, q H2 e2⟩
/-- for x in a tuple that is some value of R; the body may change what it likes -/
theorem s_forTP {j : Nat} (h : EvP tl σ H R) (hR : ∀ v H1, Ex H H1 → R v H1 → ∃ (a : Addr) (xs : List V) (Pv : Nat → L2.St → Hp → Prop), v = .ref a ∧ SqT K H1 a xs ∧ Pv 0 σ H1 ∧ (∀ i σ' H', i ≤ xs.length → Pv i σ' H' → SqT K H' a xs) ∧
      (∀ (i : Nat) (x : V) (σ' : L2.St) (H' : Hp), xs[i]? = some x → Pv i σ' H' → tu { D with nx := Pv (i + 1), ct := Pv (i + 1), bk := D.nx } (σ'.set j (some x)) H') ∧ ∀ σ' H', Pv xs.length σ' H' → D.nx σ' H') : tFor (iTup K tl) (gName j) tu D σ H :=
  h H (Ex.refl H) _ fun v H1 e hr => by
    obtain ⟨a, xs, Pv, rfl, hs, h0, hk, hb, hd⟩ := hR v H1 e hr
    exact ⟨a, rfl, ⟨xs, hs⟩, for_tup (xs := xs) Pv h0 hk hb hd⟩
theorem q_forTP {j : Nat} (h : EvP tl σ H R) (hR : ∀ v H1, Ex H H1 → R v H1 → ∃ (a : Addr) (xs : List V) (Pv : Nat → L2.St → Hp → Prop), v = .ref a ∧ SqT K H1 a xs ∧ Pv 0 σ H1 ∧ (∀ i σ' H', i ≤ xs.length → Pv i σ' H' → SqT K H' a xs) ∧
      (∀ (i : Nat) (x : V) (σ' : L2.St) (H' : Hp), xs[i]? = some x → Pv i σ' H' → tu { D with nx := Pv (i + 1), ct := Pv (i + 1), bk := tz D } (σ'.set j (some x)) H') ∧ ∀ σ' H', Pv xs.length σ' H' → tz D σ' H') : tSeq (tFor (iTup K tl) (gName j) tu) tz D σ H :=
  s_forTP (D := { D with nx := tz D }) h hR
end
section
variable {σ : L2.St} {H : Hp} {t : TA} {vs : List V} {sp : Sp} {D : Ends} {tz : TS} {i : Nat} {Q : VK}
/-- a call whose promise is used as it stands -/
theorem t_call (h : EvA t σ H vs) (k : ∀ H1, Ex H H1 → sp vs H1 Q E0) : tCall sp [] E0 t σ H Q := h H (Ex.refl H) _ fun H1 e1 => by
  rw [List.append_nil]
  exact k H1 e1
theorem s_asgC (h : EvA t σ H vs) (k : ∀ H1, Ex H H1 → sp vs H1 (fun v H2 => D.nx (σ.set i (some v)) H2) E0) : tAsg (tCall sp [] E0 t) (gName i) D σ H := t_call h k
theorem q_asgC (h : EvA t σ H vs) (k : ∀ H1, Ex H H1 → sp vs H1 (fun v H2 => tz D (σ.set i (some v)) H2) E0) : tSeq (tAsg (tCall sp [] E0 t) (gName i)) tz D σ H := t_call h k
end
theorem cn_blocks (s : Stm) : cnS s = 1 + ((blocks s).map cnL).sum := by
  cases s <;> simp [cnS, blocks]
theorem ok_blocks {g : Nat} {s : Stm} (h : okS g s) : ∀ b ∈ blocks s, okL g b := by
  cases s with
  | pln p => intro b hb; cases hb
  | iff t y n =>
    intro b hb
    simp only [blocks, List.mem_cons, List.not_mem_nil, or_false] at hb
    rcases hb with rfl | rfl
    · exact h.2.1
    · exact h.2.2
  | rep k y =>
    intro b hb
    simp only [blocks, List.mem_cons, List.not_mem_nil, or_false] at hb
    subst hb
    exact h.2
theorem ht_blocks {s : Stm} : ∀ b ∈ blocks s, htL b + 1 ≤ htS s := by
  cases s with
  | pln p => intro b hb; cases hb
  | iff t y n =>
    intro b hb
    simp only [blocks, List.mem_cons, List.not_mem_nil, or_false] at hb
    rw [htS]
    rcases hb with rfl | rfl <;> omega
  | rep k y =>
    intro b hb
    simp only [blocks, List.mem_cons, List.not_mem_nil, or_false] at hb
    rw [htS]
    subst hb
    omega
theorem wtL_append : ∀ b c : List Stm, wtL (b ++ c) = wtL b + wtL c
  | [], c => by
    rw [List.nil_append, wtL]
    omega
  | s :: r, c => by
    show wtL (s :: (r ++ c)) = _
    rw [wtL, wtL_append r c, wtL]
    omega
theorem wtL_take {i : Nat} {b : List Stm} {s : Stm} (h : b[i]? = some s) : wtL (b.take (i + 1)) = wtL (b.take i) + wtS s := by
  have e : b.take (i + 1) = b.take i ++ [s] := by
    rw [List.take_add_one, h]
    rfl
  rw [e, wtL_append, wtL, wtL, Nat.add_zero]
theorem cnL_append : ∀ b c : List Stm, cnL (b ++ c) = cnL b + cnL c
  | [], c => by
    rw [List.nil_append, cnL]
    omega
  | s :: r, c => by
    show cnL (s :: (r ++ c)) = _
    rw [cnL, cnL_append r c, cnL]
    omega
theorem cnL_take {i : Nat} {b : List Stm} {s : Stm} (h : b[i]? = some s) : cnL (b.take (i + 1)) = cnL (b.take i) + cnS s := by
  have e : b.take (i + 1) = b.take i ++ [s] := by
    rw [List.take_add_one, h]
    rfl
  rw [e, cnL_append, cnL, cnL, Nat.add_zero]
/-- the places of a block's statements -/
theorem stm_at {K : PySem.W.Frag} {H : Hp} {xs : List V} {b : List Stm} {i : Nat} {x : V} (h : DpAll K H xs (encL b)) (hi : xs[i]? = some x) : ∃ s, b[i]? = some s ∧ Dp K H x (encS s) := by
  obtain ⟨d, hd, hx⟩ := dpAll_get h hi
  rw [encL_map, List.getElem?_map] at hd
  obtain ⟨s, hs, rfl⟩ := Option.map_eq_some_iff.mp hd
  exact ⟨s, hs, hx⟩
theorem blk_at {K : PySem.W.Frag} {H : Hp} {xs : List V} {s : Stm} {i : Nat} {x : V} (h : DpAll K H xs (encBs s)) (hi : xs[i]? = some x) : ∃ b, (blocks s)[i]? = some b ∧ Dp K H x (.tuple (encL b)) := by
  obtain ⟨d, hd, hx⟩ := dpAll_get h hi
  unfold encBs at hd
  rw [List.getElem?_map] at hd
  obtain ⟨b, hb, rfl⟩ := Option.map_eq_some_iff.mp hd
  exact ⟨b, hb, hx⟩
section
variable {P : Program} {w : World} {K : PySem.W.Frag} {mg : Str → Option Value} {base : Heap}
def spWeight (K : PySem.W.Frag) (n : Nat) : Sp := fun vs H Q _ => ∃ (v : V) (g : Nat) (b : List Stm), vs = [v] ∧ Dp K H v (.tuple (encL b)) ∧ okL g b ∧ htL b < n ∧ RetV (.int (wtL b)) H Q
theorem kwd_at {K : PySem.W.Frag} {H : Hp} {v : V} {s : Stm} (h : Dp K H v (encS s)) : ∃ a kw r, v = .ref a ∧ SqT K H a (.str kw :: r) ∧ (kw = "repeat" → ∃ k b bv, s = .rep k b ∧ r = [.int k, bv] ∧ Dp K H bv (.tuple (encL b))) ∧ (kw ≠ "repeat" → ∀ k b, s ≠ .rep k b) := by
  cases s with
  | iff t y n =>
    obtain ⟨a, u, b, c, rfl, hs, _⟩ := dp_iff h
    exact ⟨a, _, _, rfl, hs, fun e => absurd e (by decide +kernel), fun _ _ _ z => Stm.noConfusion z⟩
  | rep k y =>
    obtain ⟨a, b, rfl, hs, hb⟩ := dp_rep h
    exact ⟨a, _, _, rfl, hs, fun _ => ⟨k, y, b, rfl, rfl, hb⟩, fun ne => absurd rfl ne⟩
  | pln p =>
    rw [encS] at h
    obtain ⟨a, u, rfl, hs, _⟩ := dp_pln h
    have hk : ∃ kw r, plnV u p = .str kw :: r ∧ kw ≠ "repeat" := by
      cases p <;> exact ⟨_, _, rfl, by decide +kernel⟩
    obtain ⟨kw, r, er, hne⟩ := hk
    rw [er] at hs
    exact ⟨a, kw, r, rfl, hs, fun e => absurd e hne, fun _ _ _ z => Stm.noConfusion z⟩
theorem ok_weight_of (T : Txt w K mg) : ∀ n : Nat, FOk P w K mg base (n + 1) "weight_of" (spWeight K n)
  | 0 => fok_none T.f_weight_of T.g_weight_of (ps := ["block"]) (fun _ _ _ _ _ _ us hl => match us, hl with | [_], _ => rfl) (fun vs H Q E ⟨v, g, b, _, _, _, h, _⟩ => by omega) _
  | n + 1 => by
    have G_inner_blocks : FOk P w K mg base 1 "inner_blocks" (spInner K) := ok_inner_blocks T
    have G_weight_of : FOk P w K mg base (n + 1) "weight_of" (spWeight K n) := ok_weight_of T n
    refine fok T.f_weight_of T.g_weight_of sc_weight_of (fun _ _ _ _ _ _ us hl => match us, hl with | [_], _ => rfl) (fun vs H Q E h => ?_) (fun cdv A outer s H vs Q E hr h => ?_)
    · obtain ⟨v, _, _, rfl, _⟩ := h
      rfl
    obtain ⟨v, g, b, rfl, hd, hok, hht, k⟩ := h
    have nd := sc_weight_of.nd
    refine ⟨_, (pss_cons (ps_set (i := 1) nd rfl (Or.inl rfl) pe_int) (pss_cons (ps_for PassesOwn.never rfl (pi_tup (pv 0)) (pg_name (i := 2) nd rfl (Or.inl rfl)) (pss_cons (ps_set (i := 4) nd rfl (Or.inl rfl) (pe_callB (cr_sum rfl) (by rfl) T.z_sum (by decide +kernel) (pa_cons (pe_lc (own := [("inner", 3)]) (g := gName 3) rfl nd (pi_tup (pe_f G_inner_blocks (hr.mono (by omega)) (pa_cons (pv 2) pa_nil))) (blkOk_by (own := [("inner", 3)]) (N := N_weight_of) (sc := defScope s_weight_of) (by decide +kernel)) (fun _ _ _ _ _ => (pg_name (i := 3) nd rfl (Or.inl rfl))) (fun _ _ _ _ _ => pts_nil) (fun _ _ _ _ _ => (pe_f G_weight_of (hr.mono (by omega)) (pa_cons (pv 3) pa_nil)))) pa_nil))) (pss_one (ps_aug (i := 1) nd rfl (Or.inl rfl) (pe_op op_add pe_int (pe_ifExp (pt_cmpR op_eq (pe_ix ix_tup (pv 2) pe_int (fun _ _ => rfl)) pe_str (nomark _)) (pe_op op_mul (pe_ix ix_tup (pv 2) pe_int (fun _ _ => rfl)) (pv 4)) (pv 4))) ip_add)))) (pss_one (ps_ret (pv 1))))), ?_⟩
    obtain ⟨a, xs, rfl, hs, hxs⟩ := dp_tup hd
    have hlen : xs.length = b.length := by rw [dpAll_len hxs, encL_map, List.length_map]
    refine q_asg ev_c fun H1 e1 => ?_
    refine q_forT (K := K) (a := a) (xs := xs) (ev_var rfl) (ex_t e1 hs) (fun i σ' H' => ∃ x y z, σ' = [some (.ref a), some (.int (wtL (b.take i))), x, y, z] ∧ Ex H H')
      (fun H2 e2 => ⟨none, none, none, by rw [List.take_zero, wtL]; rfl, e1.trans e2⟩) (fun i σ' H' _ ⟨x, y, z, _, e⟩ => ex_t e hs) (fun i x σ' H' hi p => ?_) (fun σ' H' p => ?_)
    · obtain ⟨x0, y0, z0, rfl, e⟩ := p
      obtain ⟨st, hst, hx⟩ := stm_at hxs hi
      have hokS := get_ok hok hst
      have hcS := get_cn hst
      have hxe := same_dp e hx
      refine q_asg (v := .int (((blocks st).map fun c => (wtL c : Int)).sum)) (ev_sum (ns := (blocks st).map fun c => (wtL c : Int)) (el_lcTP (K := K) (R := fun r H' => Dp K H' r (.tuple (encBs st))) (((blocks st).map fun c => (wtL c : Int)).map V.int) (ep_call (ea_cons (ev_var rfl) ea_nil) (fun H4 e4 Q' q E' => ⟨x, st, rfl, same_dp e4 hxe, q⟩)) ?_ (fun _ => rfl) fun r H2 e2 hr2 => ?_)) fun H3 e3 => ?_
      · cases st <;> simp [blocks]
      · obtain ⟨ba, bxs, rfl, hbs, hbx⟩ := dp_tup hr2
        refine ⟨ba, bxs, rfl, hbs, by rw [dpAll_len hbx]; simp [encBs], fun j u y hu hy => ?_⟩
        obtain ⟨c, hc, hdc⟩ := blk_at hbx hu
        have ey : y = .int (wtL c) := by
          rw [List.getElem?_map, List.getElem?_map, hc] at hy
          simpa using hy.symm
        subst ey
        have hmem := List.mem_of_getElem? hc
        exact ev_call (ea_cons (ev_var rfl) ea_nil) (fun H4 e4 Q' q E' => ⟨u, g, c, rfl, same_dp e4 hdc, ok_blocks hokS c hmem, by have := ht_blocks c hmem; omega, q⟩)
      · obtain ⟨sa, kw, r, rfl, hsa, hy, hn⟩ := kwd_at (same_dp e3 hxe)
        refine s_aug (a := (wtL (b.take i) : Int)) (b := (wtS st : Int)) rfl (ev_is (ev_op (y := .int ((wtS st : Int) - 1)) ev_c ?_ rv_I0) ?_) fun H5 e5 => ?_
        · by_cases hk : kw = "repeat"
          · obtain ⟨kk, bb, bv, rfl, rfl, _⟩ := hy hk
            subst hk
            have hkk : kk ≤ 12 := hokS.1
            refine ev_if (et_test (ev_eqY (ev_at 0 (ev_var rfl) hsa) ev_c rfl)) (fun _ => ev_is (ev_op (ev_at 1 (ev_var rfl) hsa) (ev_var rfl) (rv_I (.inl ⟨by omega, by omega⟩))) ?_) fun h => Bool.noConfusion h
            rw [wtS]
            simp [blocks]
            omega
          · refine ev_if (et_test (ev_eqN (ev_at 0 (ev_var rfl) hsa) ev_c hk)) (fun h => Bool.noConfusion h) fun _ => ev_is (ev_var rfl) ?_
            cases st with
            | rep kk bb => exact absurd rfl (hn hk kk bb)
            | pln p =>
              rw [wtS]
              simp [blocks]
            | iff t y n =>
              rw [wtS]
              simp [blocks]
              omega
        · congr 1
          omega
        · exact ⟨some (.ref sa), y0, some (.int ((blocks st).map fun c => (wtL c : Int)).sum), by
            rw [wtL_take hst, Int.natCast_add]
            rfl, (e.trans e3).trans e5⟩
    · obtain ⟨x0, y0, z0, rfl, e⟩ := p
      refine s_ret (ev_var rfl) fun H2 e2 => ?_
      rw [hlen, List.take_length]
      exact k H2 (e.trans e2)
/-! ### first_error -/
/-- all but F stands -/
def Exb (F : Addr) (H H' : Hp) : Prop := ∀ b o, b ≠ F → H b = some o → H' b = some o
theorem Exb.refl (F : Addr) (H : Hp) : Exb F H H := fun _ _ _ h => h
theorem Exb.trans {F : Addr} {H H1 H2 : Hp} (a : Exb F H H1) (b : Exb F H1 H2) : Exb F H H2 := fun c o n h => b c o n (a c o n h)
theorem Exb.ex {F : Addr} {H H1 : Hp} (a : Ex H H1) : Exb F H H1 := fun c o _ h => a c o h
theorem Exb.upd {F : Addr} {H : Hp} {o : HO} : Exb F H (upd H F o) := fun c u n h => by
  rw [upd_ne n]
  exact h
theorem Exb.keep {F : Addr} {H H1 : Hp} {xs : List V} (a : Exb F H H1) (h : H F = some (.lst xs)) : Keep H H1 := fun b => ⟨fun ys hb => a b _ (ne_of hb h (by intro z; cases z)) hb, fun o u hb => a b _ (ne_of hb h (by intro z; cases z)) hb⟩
def spErr (K : PySem.W.Frag) (n : Nat) : Sp := fun vs H Q _ => ∃ (v : V) (g d : Nat) (F : Addr) (fs : List V) (b : List Stm), vs = [v, .int g, .ref F, .int d] ∧ Dp K H v (.tuple (encL b)) ∧ g ≤ 3 ∧ okL g b ∧ htL b < n ∧ d + htL b ≤ 5 ∧ H F = some (.lst fs) ∧ fs.length + cnL b ≤ 1000 ∧
  ∀ (ys : List V) (H' : Hp), ys.length = cnL b → Exb F H H' → H' F = some (.lst (fs ++ ys)) → Q .non H'
theorem ok_first_error (T : Txt w K mg) : ∀ n : Nat, FOk P w K mg base (n + 8) "first_error" (spErr K n)
  | 0 => fok_none T.f_first_error T.g_first_error (ps := ["block", "givens", "found", "depth"]) (fun _ _ _ _ _ _ us hl => match us, hl with | [_, _, _, _], _ => rfl) (fun vs H Q E ⟨v, g, d, F, fs, b, _, _, _, _, h, _⟩ => by omega) _
  | n + 1 => by
    have G_inner_blocks : FOk P w K mg base 1 "inner_blocks" (spInner K) := ok_inner_blocks T
    have G_has_form : FOk P w K mg base 7 "has_form" (spForm K true) := ok_has_formS T
    have G_first_error : FOk P w K mg base (n + 8) "first_error" (spErr K n) := ok_first_error T n
    refine fok T.f_first_error T.g_first_error sc_first_error (fun _ _ _ _ _ _ us hl => match us, hl with | [_, _, _, _], _ => rfl) (fun vs H Q E h => ?_) (fun cdv A outer s H vs Q E hr h => ?_)
    · obtain ⟨v, _, _, _, _, _, rfl, _⟩ := h
      rfl
    obtain ⟨v, g, d, F, fs, b, rfl, hd, hg, hok, hht, hdp, hF, hcn, k⟩ := h
    have nd := sc_first_error.nd
    refine ⟨_, (pss_cons (ps_for PassesOwn.never rfl (pi_tup (pv 0)) (pg_name (i := 4) nd rfl (Or.inl rfl)) (pss_cons (ps_if (pt_cmpR op_gt (pv 3) (pe_gi T.i_MAX_NEST) (nomark _)) (pss_one (ps_ret (pe_tup (pa_cons (pe_callB call_len_seq (by rfl) T.z_len PySem.boot_len (pa_cons (pv 2) pa_nil)) (pa_cons pe_str pa_nil))))) pss_nil) (pss_cons (ps_if (pt_not (pt_val (pe_f G_has_form (hr.mono (by omega)) (pa_cons (pv 4) (pa_cons (pv 1) (pa_cons pe_bl pa_nil)))))) (pss_one (ps_ret (pe_tup (pa_cons (pe_callB call_len_seq (by rfl) T.z_len PySem.boot_len (pa_cons (pv 2) pa_nil)) (pa_cons pe_str pa_nil))))) pss_nil) (pss_cons (ps_expr (pe_bm PySem.F.plainAttrs_list PySem.F.slot_list_append PySem.F.type_list_append mt_append (pv 2) (pa_cons (pv 4) pa_nil))) (pss_one (ps_for PassesOwn.never rfl (pi_tup (pe_f G_inner_blocks (hr.mono (by omega)) (pa_cons (pv 4) pa_nil))) (pg_name (i := 5) nd rfl (Or.inl rfl)) (pss_cons (ps_set (i := 6) nd rfl (Or.inl rfl) (pe_f G_first_error (hr.mono (by omega)) (pa_cons (pv 5) (pa_cons (pv 1) (pa_cons (pv 2) (pa_cons (pe_op op_add (pv 3) pe_int) pa_nil)))))) (pss_one (ps_if (pt_cmpR op_notN (pv 6) pe_non (nomark _)) (pss_one (ps_ret (pv 6))) pss_nil))))))))) (pss_one (ps_ret pe_non))), ?_⟩
    obtain ⟨a, xs, rfl, hs, hxs⟩ := dp_tup hd
    have hlen : xs.length = b.length := by rw [dpAll_len hxs, encL_map, List.length_map]
    refine q_forT (K := K) (a := a) (xs := xs) (ev_var rfl) hs (fun i σ' H' => ∃ x y z, σ' = [some (.ref a), some (.int g), some (.ref F), some (.int d), x, y, z] ∧ Exb F H H' ∧ ∃ ys, ys.length = cnL (b.take i) ∧ H' F = some (.lst (fs ++ ys)))
      (fun H2 e2 => ⟨none, none, none, rfl, Exb.ex e2, [], by rw [List.take_zero, cnL]; rfl, by rw [List.append_nil]; exact e2 F _ hF⟩) (fun i σ' H' _ ⟨x, y, z, _, e, _⟩ => (e.keep hF).sq hs) (fun i x σ' H' hi p => ?_) (fun σ' H' p => ?_)
    · obtain ⟨x0, y0, z0, rfl, e, ys, hys, hFl⟩ := p
      obtain ⟨st, hst, hx⟩ := stm_at hxs hi
      have hokS := get_ok hok hst
      have hcS := get_cn hst
      have hht1 : 1 ≤ htS st := by cases st <;> simp [htS]
      have hxe := keep_dp (e.keep hF) (noL_S st) hx
      refine q_when (b := false) (et_is (et_test (ev_op (ev_var rfl) ev_c rv_I0)) (decide_eq_false (by omega))) (fun h => Bool.noConfusion h) fun _ H2 e2 => ?_
      refine q_when (b := false) (et_not (a := true) (et_B (ev_call (ea_cons (ev_var rfl) (ea_cons (ev_var rfl) (ea_cons ev_c ea_nil))) (fun H3 e3 Q' q E' => ⟨x, g, false, rfl, hg, form_S hg hokS (by omega) (same_dp (e2.trans e3) hxe), q⟩)))) (fun h => Bool.noConfusion h) fun _ H3 e3 => ?_
      have hF3 := e3 F _ (e2 F _ hFl)
      refine q_app (K := K) (l := F) (v := x) hF3 (ev_var rfl) (ev_var rfl) (by rw [List.length_append]; omega) fun H4 e4 => ?_
      have b24 : Exb F H (upd H4 F (.lst (fs ++ ys ++ [x]))) := (e.trans (Exb.ex ((e2.trans e3).trans e4))).trans Exb.upd
      have hF4 : (upd H4 F (.lst (fs ++ ys ++ [x]))) F = some (.lst (fs ++ (ys ++ [x]))) := by rw [upd_same, List.append_assoc]
      generalize upd H4 F (.lst (fs ++ ys ++ [x])) = H5 at *
      have hx5 := keep_dp (b24.keep hF) (noL_S st) hx
      refine s_forTP (R := fun r H' => Dp K H' r (.tuple (encBs st))) (ep_call (ea_cons (ev_var rfl) ea_nil) (fun H6 e6 Q' q E' => ⟨x, st, rfl, same_dp e6 hx5, q⟩)) fun r H6 e6 hr6 => ?_
      obtain ⟨ba, bxs, rfl, hbs, hbx⟩ := dp_tup hr6
      have hF6 := e6 F _ hF4
      have b26 := b24.trans (Exb.ex e6)
      have hbl : bxs.length = (blocks st).length := by rw [dpAll_len hbx]; simp [encBs]
      refine ⟨ba, bxs, fun j σ' H' => ∃ y z, σ' = [some (.ref a), some (.int g), some (.ref F), some (.int d), some x, y, z] ∧ Exb F H6 H' ∧ ∃ zs, zs.length = cnL (b.take i) + 1 + (((blocks st).take j).map cnL).sum ∧ H' F = some (.lst (fs ++ zs)), rfl, hbs,
        ⟨_, _, rfl, Exb.refl _ _, ys ++ [x], by rw [List.length_append, hys]; rfl, hF6⟩, fun j σ' H' hj p => ?_, fun j u σ' H' hu p => ?_, fun σ' H' p => ?_⟩
      · obtain ⟨y1, z1, rfl, e7, zs, hzs, hF7⟩ := p
        exact (e7.keep hF6).sq hbs
      · obtain ⟨y1, z1, rfl, e7, zs, hzs, hF7⟩ := p
        obtain ⟨c, hc, hdc⟩ := blk_at hbx hu
        have hmem := List.mem_of_getElem? hc
        have hcn2 := cn_blocks st
        have hsum : (((blocks st).take (j + 1)).map cnL).sum = (((blocks st).take j).map cnL).sum + cnL c := by
          rw [List.take_add_one, hc, List.map_append, List.sum_append]
          simp
        have hle : (((blocks st).take (j + 1)).map cnL).sum ≤ ((blocks st).map cnL).sum := by
          conv => rhs; rw [← List.take_append_drop (j + 1) (blocks st), List.map_append, List.sum_append]
          omega
        have htb := ht_blocks c hmem
        -- error = first_error(inner, givens, found, depth + 1)
        refine q_asgC (vs := [u, .int g, .ref F, .int ((d : Int) + 1)]) (ea_cons (ev_var rfl) (ea_cons (ev_var rfl) (ea_cons (ev_var rfl) (ea_cons (ev_op (ev_var rfl) ev_c rv_I0) ea_nil)))) fun H8 e8 => ?_
        refine ⟨u, g, d + 1, F, fs ++ zs, c, rfl, keep_dp ((e7.keep hF6).trans (keep_ex e8)) (noL_B c) hdc, hg, ok_blocks hokS c hmem, by omega, by omega, e8 F _ hF7, by rw [List.length_append]; omega, fun ws H9 hws e9 hF9 => ?_⟩
        refine s_when (b := false) (et_test (ev_is (ev_op (ev_var rfl) ev_c (rv_notN (x := .non))) (by decide +kernel))) (fun h => Bool.noConfusion h) fun _ H10 e10 => ?_
        refine ⟨_, _, rfl, ((e7.trans (Exb.ex e8)).trans e9).trans (Exb.ex e10), zs ++ ws, ?_, ?_⟩
        · rw [List.length_append, hzs, hws, hsum]
          omega
        · rw [← List.append_assoc]
          exact e10 F _ hF9
      · obtain ⟨y1, z1, rfl, e7, zs, hzs, hF7⟩ := p
        refine ⟨_, _, _, rfl, b26.trans e7, zs, ?_, hF7⟩
        rw [hzs, hbl, List.take_length, cnL_take hst, cn_blocks st]
        omega
    · obtain ⟨x0, y0, z0, rfl, e, ys, hys, hFl⟩ := p
      rw [hlen, List.take_length] at hys
      exact s_ret (ev_c (v := .non)) fun H2 e2 => k ys H2 hys (e.trans (Exb.ex e2)) (e2 F _ hFl)
end
end K7
set_option maxHeartbeats 4000000
/-! listed, statements_of -/
namespace K7
open PySem PySem.Spec PyProof.Rows L2 Evl
/-! ### the pairs of depth and statement -/
def pr (p : Nat × Stm) : PyData := .tuple [.int p.1, encS p.2]
mutual
def dfS (d : Nat) : Stm → List (Nat × Stm)
  | .pln p => [(d, .pln p)]
  | .iff t y n => (d, .iff t y n) :: (dfL (d + 1) y ++ dfL (d + 1) n)
  | .rep k b => (d, .rep k b) :: dfL (d + 1) b
def dfL (d : Nat) : List Stm → List (Nat × Stm)
  | [] => []
  | s :: r => dfS d s ++ dfL d r
end
theorem dfS_eq (d : Nat) (s : Stm) : dfS d s = (d, s) :: (blocks s).flatMap (dfL (d + 1)) := by
  cases s <;> simp [dfS, blocks]
mutual
theorem dfS_snd (d : Nat) : ∀ s : Stm, (dfS d s).map Prod.snd = flS s
  | .pln p => by
    rw [dfS, flS]
    rfl
  | .iff t y n => by
    rw [dfS, flS, List.map_cons, List.map_append, dfL_snd (d + 1) y, dfL_snd (d + 1) n]
  | .rep k b => by
    rw [dfS, flS, List.map_cons, dfL_snd (d + 1) b]
theorem dfL_snd (d : Nat) : ∀ b : List Stm, (dfL d b).map Prod.snd = flL b
  | [] => by
    rw [dfL, flL]
    rfl
  | s :: r => by
    rw [dfL, flL, List.map_append, dfS_snd d s, dfL_snd d r]
end
mutual
theorem dfS_len (d : Nat) : ∀ s : Stm, (dfS d s).length = cnS s
  | .pln p => by
    rw [dfS, cnS]
    rfl
  | .iff t y n => by
    rw [dfS, cnS, List.length_cons, List.length_append, dfL_len (d + 1) y, dfL_len (d + 1) n]
    omega
  | .rep k b => by
    rw [dfS, cnS, List.length_cons, dfL_len (d + 1) b]
    omega
theorem dfL_len (d : Nat) : ∀ b : List Stm, (dfL d b).length = cnL b
  | [] => by
    rw [dfL, cnL]
    rfl
  | s :: r => by
    rw [dfL, cnL, List.length_append, dfS_len d s, dfL_len d r]
end
theorem dfL_append (d : Nat) : ∀ b c : List Stm, dfL d (b ++ c) = dfL d b ++ dfL d c
  | [], c => by
    rw [List.nil_append]
    conv => rhs; rw [dfL]
    rfl
  | s :: r, c => by
    show dfL d (s :: (r ++ c)) = _
    rw [dfL, dfL_append d r c]
    conv => rhs; rw [dfL]
    rw [List.append_assoc]
theorem dfL_take {d i : Nat} {b : List Stm} {s : Stm} (h : b[i]? = some s) : dfL d (b.take (i + 1)) = dfL d (b.take i) ++ dfS d s := by
  have e : b.take (i + 1) = b.take i ++ [s] := by
    rw [List.take_add_one, h]
    rfl
  rw [e, dfL_append]
  congr 1
  rw [dfL, dfL, List.append_nil]
theorem noL_pr (l : List (Nat × Stm)) : noLA (l.map pr) = true := by
  induction l with
  | nil => simp [noLA]
  | cons p r ih => simp [noLA, noL, pr, noL_S, ih]
theorem dpAll_app {K : PySem.W.Frag} {H : Hp} : ∀ {ds : List PyData} {vs : List V} {es : List PyData} {us : List V}, DpAll K H vs ds → DpAll K H us es → DpAll K H (vs ++ us) (ds ++ es)
  | _, _, _, _, .nil, h => h
  | _, _, _, _, .cons a b, h => .cons a (dpAll_app b h)
/-! ### lists that are some list of R, new -/
def EvLP (te : TE) (σ : L2.St) (H : Hp) (R : List V → Hp → Prop) : Prop := ∀ H1, Ex H H1 → ∀ Q : VK, (∀ p H2 xs, H1 p = none → Ex H1 H2 → H2 p = some (.lst xs) → R xs H2 → Q (.ref p) H2) → te σ H1 Q
def RetLP (R : List V → Hp → Prop) (H : Hp) (Q : VK) : Prop := ∀ p H2 xs, H p = none → Ex H H2 → H2 p = some (.lst xs) → R xs H2 → Q (.ref p) H2
def SpLP (sp : Sp) (vs : List V) (H : Hp) (R : List V → Hp → Prop) : Prop := ∀ H1, Ex H H1 → ∀ Q : VK, RetLP R H1 Q → ∀ E : XK, sp vs H1 Q E
section
variable {K : PySem.W.Frag} {σ : L2.St} {H H' : Hp} {ta tb te tl : TE} {R : List V → Hp → Prop} {D : Ends} {tz : TS} {Q : VK}
theorem EvLP.mono (e : Ex H H') (h : EvLP te σ H R) : EvLP te σ H' R := fun H1 a Q q => h H1 (e.trans a) Q q
theorem RetLP.ext (k : RetLP R H Q) (e : Ex H H') : RetLP R H' Q := fun p H2 xs hp e2 h r => k p H2 xs (fresh_back e hp) (e.trans e2) h r
theorem elp_call {sp : Sp} {dvs vs : List V} {E : XK} {ta : TA} (h : EvA ta σ H vs) (hs : SpLP sp (vs ++ dvs) H R) : EvLP (tCall sp dvs E ta) σ H R := fun H1 e Q q =>
  h H1 e _ fun H2 e2 => hs H2 (e.trans e2) Q (fun p H3 xs hp e3 h3 hr => q p H3 xs (fresh_back e2 hp) (e2.trans e3) h3 hr) E
theorem s_extP {l : Addr} {xs : List V} (hl : H l = some (.lst xs)) (ha : Ev ta σ H (.ref l)) (h : EvLP te σ H R) (hz : ∀ ys H1, R ys H1 → xs.length + ys.length < 100000) (k : ∀ p H1 ys, H p = none → Ex H H1 → H1 p = some (.lst ys) → R ys H1 → D.nx σ (upd H1 l (.lst (xs ++ ys)))) :
    tDrop (tBM K "list" rExtend ta (tCons te tNil)) D σ H := ha H (Ex.refl H) _ fun H1 e1 =>
  ⟨Or.inl ⟨rfl, xs, sq_of (e1 l _ hl)⟩, h H1 e1 _ fun p H2 ys hp e2 h2 hr => ⟨l, p, xs, ys, rfl, rfl, e2 l _ (e1 l _ hl), h2, Nat.le_of_lt (sz_lt (hz ys H2 hr)), k p H2 ys (fresh_back e1 hp) (e1.trans e2) h2 hr⟩⟩
theorem s_retLP (h : EvLP te σ H R) (k : RetLP R H D.rt) : tRet te D σ H := h H (Ex.refl H) _ k
theorem s_asgLP {i : Nat} (h : EvLP te σ H R) (k : ∀ p H1 xs, H p = none → Ex H H1 → H1 p = some (.lst xs) → R xs H1 → D.nx (σ.set i (some (.ref p))) H1) : tAsg te (gName i) D σ H := h H (Ex.refl H) _ k
theorem q_asgLP {i : Nat} (h : EvLP te σ H R) (k : ∀ p H1 xs, H p = none → Ex H H1 → H1 p = some (.lst xs) → R xs H1 → tz D (σ.set i (some (.ref p))) H1) : tSeq (tAsg te (gName i)) tz D σ H := s_asgLP (D := { D with nx := tz D }) h k
/-- [e for x, y in list of pairs] -/
theorem el_lcPP {j l : Nat} {R' : List V → Hp → Prop} (h : EvLP tl σ H R) (hw : ∀ x y, wipe (((wipe σ [j, l]).set j (some x)).set l (some y)) [j, l] = wipe σ [j, l])
    (hR : ∀ ps H1, Ex H H1 → R ps H1 → ∃ vals : List V, vals.length = ps.length ∧ ps.length ≤ 40000 ∧ (∀ (i : Nat) (p v : V), ps[i]? = some p → vals[i]? = some v → ∃ a x y, p = .ref a ∧ SqT K H1 a [x, y] ∧ Ev te (((wipe σ [j, l]).set j (some x)).set l (some y)) H1 v) ∧ ∀ H2, Ex H1 H2 → R' vals H2) :
    EvLP (tLc (iList K tl) (gTup K 2 (gCons (gName j) (gCons (gName l) gNil))) tYes te [j, l]) σ H R' := fun H0 e Q q => h H0 e _ fun a H1 xs ha e1 hs hr => by
  obtain ⟨vals, hl, hz, hev, hR'⟩ := hR xs H1 (e.trans e1) hr
  refine ⟨a, rfl, ⟨xs, sq_of hs⟩, fun Dl hD => ?_⟩
  refine lc_it (te := te) (tt := tYes) (vs := [j, l]) (σ := σ) (walk_list (xs := xs)) (fun i H' => H1 Dl = none ∧ Ex H1 H' ∧ H' Dl = some (.lst (vals.take i))) ⟨hD, Ex.new hD, upd_same⟩ (fun i H' _ hP => ex_l hP.2.1 (sq_of hs)) (fun i x H2 H3 hi hP y => ?_) (fun H2 hP => ?_)
  · obtain ⟨hd, hex, hlst⟩ := hP
    obtain ⟨rfl, hx⟩ := y
    have hi2 : i < vals.length := by omega
    obtain ⟨ap, x1, y1, rfl, hap, hev⟩ := hev i x _ hx (List.getElem?_eq_getElem hi2)
    refine ⟨ap, _, rfl, ex_t hex hap, rfl, _, _, rfl, _, _, rfl, rfl, hw _ _, ?_⟩
    show te _ _ _
    refine hev _ hex _ fun H4 e4 => ⟨_, e4 Dl _ hlst, sz_lt (by rw [List.length_take]; omega), hd, Ex.mut (hex.trans e4) hd, ?_⟩
    rw [upd_same, List.take_add_one, List.getElem?_eq_getElem hi2]
    rfl
  · rw [← hl, List.take_length] at hP
    exact q Dl H2 _ (fresh_back e1 hP.1) (e1.trans hP.2.1) hP.2.2 (hR' H2 hP.2.1)
end
section
variable {P : Program} {w : World} {K : PySem.W.Frag} {mg : Str → Option Value} {base : Heap}
def Prs (K : PySem.W.Frag) (l : List (Nat × Stm)) : List V → Hp → Prop := fun xs H => DpAll K H xs (l.map pr)
theorem Prs.len {H : Hp} {l : List (Nat × Stm)} {xs : List V} (h : Prs K l xs H) : xs.length = l.length := by
  rw [dpAll_len h, List.length_map]
theorem Prs.keep {H H' : Hp} {l : List (Nat × Stm)} {xs : List V} (h : Prs K l xs H) (e : Keep H H') : Prs K l xs H' := keep_dpA e (noL_pr l) h
theorem Prs.app {H : Hp} {l m : List (Nat × Stm)} {xs ys : List V} (h : Prs K l xs H) (g : Prs K m ys H) : Prs K (l ++ m) (xs ++ ys) H := by
  show DpAll K H _ ((l ++ m).map pr)
  rw [List.map_append]
  exact dpAll_app h g
theorem Prs.get {H : Hp} {l : List (Nat × Stm)} {xs : List V} {i : Nat} {p : V} (h : Prs K l xs H) (hp : xs[i]? = some p) : ∃ a x q, p = .ref a ∧ l[i]? = some q ∧ SqT K H a [.int q.1, x] ∧ Dp K H x (encS q.2) := by
  obtain ⟨d, hd, hx⟩ := dpAll_get h hp
  rw [List.getElem?_map] at hd
  obtain ⟨q, hq, rfl⟩ := Option.map_eq_some_iff.mp hd
  obtain ⟨a, ys, rfl, hs, h0⟩ := dp_tup hx
  obtain ⟨r, rfl, h1⟩ := dpa_int h0
  obtain ⟨u, r, rfl, hu, h2⟩ := dpAll_cons h1
  obtain rfl := dpAll_nil h2
  exact ⟨a, u, q, rfl, hq, hs, hu⟩
def spListed (K : PySem.W.Frag) (n : Nat) : Sp := fun vs H Q _ => ∃ (v : V) (d : Nat) (b : List Stm), vs = [v, .int d] ∧ Dp K H v (.tuple (encL b)) ∧ htL b < n ∧ cnL b ≤ 1000 ∧ RetLP (Prs K (dfL d b)) H Q
theorem ok_listed (T : Txt w K mg) : ∀ n : Nat, FOk P w K mg base (n + 1) "listed" (spListed K n)
  | 0 => fok_none T.f_listed T.g_listed (ps := ["block", "depth"]) (fun _ _ _ _ _ _ us hl => match us, hl with | [_, _], _ => rfl) (fun vs H Q E ⟨v, d, b, _, _, h, _⟩ => by omega) _
  | n + 1 => by
    have G_inner_blocks : FOk P w K mg base 1 "inner_blocks" (spInner K) := ok_inner_blocks T
    have G_listed : FOk P w K mg base (n + 1) "listed" (spListed K n) := ok_listed T n
    refine fok T.f_listed T.g_listed sc_listed (fun _ _ _ _ _ _ us hl => match us, hl with | [_, _], _ => rfl) (fun vs H Q E h => ?_) (fun cdv A outer s H vs Q E hr h => ?_)
    · obtain ⟨v, _, _, rfl, _⟩ := h
      rfl
    obtain ⟨v, d, b, rfl, hd, hht, hcn, k⟩ := h
    have nd := sc_listed.nd
    refine ⟨_, (pss_cons (ps_set (i := 2) nd rfl (Or.inl rfl) (pe_lst pa_nil)) (pss_cons (ps_for PassesOwn.never rfl (pi_tup (pv 0)) (pg_name (i := 3) nd rfl (Or.inl rfl)) (pss_cons (ps_expr (pe_bm PySem.F.plainAttrs_list PySem.F.slot_list_append PySem.F.type_list_append mt_append (pv 2) (pa_cons (pe_tup (pa_cons (pv 1) (pa_cons (pv 3) pa_nil))) pa_nil))) (pss_one (ps_for PassesOwn.never rfl (pi_tup (pe_f G_inner_blocks (hr.mono (by omega)) (pa_cons (pv 3) pa_nil))) (pg_name (i := 4) nd rfl (Or.inl rfl)) (pss_one (ps_expr (pe_bm PySem.F.plainAttrs_list PySem.F.slot_list_extend PySem.F.type_list_extend mt_extend (pv 2) (pa_cons (pe_f G_listed (hr.mono (by omega)) (pa_cons (pv 4) (pa_cons (pe_op op_add (pv 1) pe_int) pa_nil))) pa_nil)))))))) (pss_one (ps_ret (pv 2))))), ?_⟩
    obtain ⟨a, xs, rfl, hs, hxs⟩ := dp_tup hd
    have hlen : xs.length = b.length := by rw [dpAll_len hxs, encL_map, List.length_map]
    refine q_asgL (el_lst ea_nil (by decide)) fun L H1 hL e1 hL1 => ?_
    refine q_forT (K := K) (a := a) (xs := xs) (ev_var rfl) (ex_t e1 hs) (fun i σ' H' => ∃ x y, σ' = [some (.ref a), some (.int d), some (.ref L), x, y] ∧ Ex H H' ∧ ∃ ps, H' L = some (.lst ps) ∧ Prs K (dfL d (b.take i)) ps H')
      (fun H2 e2 => ⟨none, none, rfl, e1.trans e2, [], e2 L _ hL1, by rw [List.take_zero, dfL]; exact .nil⟩) (fun i σ' H' _ ⟨x, y, _, e, _⟩ => ex_t e hs) (fun i x σ' H' hi p => ?_) (fun σ' H' p => ?_)
    · obtain ⟨x0, y0, rfl, e, ps, hLs, hps⟩ := p
      obtain ⟨st, hst, hx⟩ := stm_at hxs hi
      have hcS := get_cn hst
      have hpl := hps.len
      rw [dfL_len] at hpl
      have hx2 := same_dp e hx
      refine q_appU (K := K) (l := L) (xs := ps) (ys := [.int d, x]) hLs (ev_var rfl) (eu_tup (ea_cons (ev_var rfl) (ea_cons (ev_var rfl) ea_nil)) (by show 2 ≤ 100000; decide)) (by omega) fun tp H3 htp e3 h3 => ?_
      have eU : Ex H (upd H3 L (.lst (ps ++ [.ref tp]))) := Ex.mut (e.trans e3) hL
      have kU : Keep H3 (upd H3 L (.lst (ps ++ [.ref tp]))) := keep_upd (e3 L _ hLs)
      have hq : Prs K (dfL d (b.take i) ++ [(d, st)]) (ps ++ [.ref tp]) (upd H3 L (.lst (ps ++ [.ref tp]))) := (((hps.keep (keep_ex e3)).keep kU)).app (.cons (.tup (st_of ((kU tp).1 _ h3)) (.cons (.int _) (.cons (keep_dp kU (noL_S st) (same_dp e3 hx2)) .nil))) .nil)
      have hU : (upd H3 L (.lst (ps ++ [.ref tp]))) L = some (.lst (ps ++ [.ref tp])) := upd_same
      have hpl2 : (ps ++ [V.ref tp]).length = cnL (b.take i) + 1 := by rw [List.length_append, hpl]; rfl
      generalize upd H3 L (.lst (ps ++ [.ref tp])) = H4 at *
      generalize ps ++ [V.ref tp] = ps4 at *
      have hx5 := same_dp eU hx
      refine s_forTP (R := fun r H' => Dp K H' r (.tuple (encBs st))) (ep_call (ea_cons (ev_var rfl) ea_nil) (fun H6 e6 Q' q E' => ⟨x, st, rfl, same_dp e6 hx5, q⟩)) fun r H6 e6 hr6 => ?_
      obtain ⟨ba, bxs, rfl, hbs, hbx⟩ := dp_tup hr6
      have e06 := eU.trans e6
      have hbl : bxs.length = (blocks st).length := by rw [dpAll_len hbx]; simp [encBs]
      have hcn2 := cn_blocks st
      refine ⟨ba, bxs, fun j σ' H' => ∃ y, σ' = [some (.ref a), some (.int d), some (.ref L), some x, y] ∧ Ex H H' ∧ Keep H6 H' ∧ ∃ qs, H' L = some (.lst qs) ∧ Prs K (dfL d (b.take i) ++ [(d, st)] ++ ((blocks st).take j).flatMap (dfL (d + 1))) qs H' ∧ qs.length = cnL (b.take i) + 1 + (((blocks st).take j).map cnL).sum, rfl, hbs,
        ⟨_, rfl, e06, Keep.refl _, ps4, e6 L _ hU, by rw [List.take_zero, List.flatMap_nil, List.append_nil]; exact hq.keep (keep_ex e6), hpl2⟩, fun j σ' H' hj p => ?_, fun j u σ' H' hu p => ?_, fun σ' H' p => ?_⟩
      · obtain ⟨y1, rfl, e7, k7, _⟩ := p
        exact k7.sq hbs
      · obtain ⟨y1, rfl, e7, k7, qs, hqs, hPq, hql⟩ := p
        obtain ⟨c, hc, hdc⟩ := blk_at hbx hu
        have hmem := List.mem_of_getElem? hc
        have hsum : (((blocks st).take (j + 1)).map cnL).sum = (((blocks st).take j).map cnL).sum + cnL c := by
          rw [List.take_add_one, hc, List.map_append, List.sum_append]
          simp
        have hle : (((blocks st).take (j + 1)).map cnL).sum ≤ ((blocks st).map cnL).sum := by
          conv => rhs; rw [← List.take_append_drop (j + 1) (blocks st), List.map_append, List.sum_append]
          omega
        have htb := ht_blocks c hmem
        have hdc7 := keep_dp k7 (noL_B c) hdc
        refine s_extP (K := K) (l := L) (R := Prs K (dfL (d + 1) c)) hqs (ev_var rfl) (elp_call (ea_cons (ev_var rfl) (ea_cons (ev_op (ev_var rfl) ev_c rv_I0) ea_nil)) fun H8 e8 Q' q E' => ⟨u, d + 1, c, rfl, same_dp e8 hdc7, by omega, by omega, q⟩) (fun ys H8 hy => by have := hy.len; rw [dfL_len] at this; omega) fun p8 H8 ys hp8 e8 h8 hy => ?_
        have kU : Keep H8 (upd H8 L (.lst (qs ++ ys))) := keep_upd (e8 L _ hqs)
        have hyl := hy.len
        rw [dfL_len] at hyl
        refine ⟨_, rfl, Ex.mut (e7.trans e8) hL, (k7.trans (keep_ex e8)).trans kU, qs ++ ys, upd_same, ?_, by rw [List.length_append, hsum]; omega⟩
        rw [List.take_add_one, hc, List.flatMap_append, ← List.append_assoc]
        refine ((hPq.keep (keep_ex e8)).app ?_).keep kU
        simpa using hy
      · obtain ⟨y1, rfl, e7, k7, qs, hqs, hPq, hql⟩ := p
        refine ⟨_, _, rfl, e7, qs, hqs, ?_⟩
        rw [hbl, List.take_length] at hPq
        rw [dfL_take hst, dfS_eq]
        simpa using hPq
    · obtain ⟨x0, y0, rfl, e, ps, hLs, hps⟩ := p
      rw [hlen, List.take_length] at hps
      exact s_ret (ev_var rfl) fun H2 e2 => k L H2 ps hL (e.trans e2) (e2 L _ hLs) (hps.keep (keep_ex e2))
/-! ### statements_of -/
def Sts (K : PySem.W.Frag) (b : List Stm) : List V → Hp → Prop := fun xs H => DpAll K H xs (b.map encS)
def spStms (K : PySem.W.Frag) (n : Nat) : Sp := fun vs H Q _ => ∃ (v : V) (g : Nat) (b : List Stm), vs = [v] ∧ Dp K H v (enc g b) ∧ htL b < n ∧ cnL b ≤ 1000 ∧ RetLP (Sts K (flL b)) H Q

theorem prs_snd {H : Hp} : ∀ {l : List (Nat × Stm)} {ps : List V}, Prs K l ps H → ∃ vs, DpAll K H vs ((l.map Prod.snd).map encS) ∧ vs.length = ps.length ∧ ∀ (i : Nat) (p v : V), ps[i]? = some p → vs[i]? = some v → ∃ (a : Addr) (x : V), p = .ref a ∧ SqT K H a [x, v]
  | [], _, h => by
    obtain rfl := dpAll_nil h
    exact ⟨[], .nil, rfl, fun i p v hp => by simp at hp⟩
  | q :: l, ps, h => by
    obtain ⟨p, r, rfl, hp, hr⟩ := dpAll_cons h
    obtain ⟨vs, h1, h2, h3⟩ := prs_snd (l := l) hr
    obtain ⟨a, ys, rfl, hs, h0⟩ := dp_tup hp
    obtain ⟨r1, rfl, h4⟩ := dpa_int h0
    obtain ⟨u, r2, rfl, hu, h5⟩ := dpAll_cons h4
    obtain rfl := dpAll_nil h5
    refine ⟨u :: vs, .cons hu h1, by rw [List.length_cons, List.length_cons, h2], fun i p v hp hv => ?_⟩
    cases i with
    | zero =>
      simp at hp hv
      subst hp
      subst hv
      exact ⟨a, _, rfl, hs⟩
    | succ i => exact h3 i p v (by simpa using hp) (by simpa using hv)
theorem ok_statements_of (T : Txt w K mg) (n : Nat) : FOk P w K mg base (n + 2) "statements_of" (spStms K n) := by
  have G_listed : FOk P w K mg base (n + 1) "listed" (spListed K n) := ok_listed T n
  refine fok T.f_statements_of T.g_statements_of sc_statements_of (fun _ _ _ _ _ _ us hl => match us, hl with | [_], _ => rfl) (fun vs H Q E h => ?_) (fun cdv A outer s H vs Q E hr h => ?_)
  · obtain ⟨v, _, _, rfl, _⟩ := h
    rfl
  obtain ⟨v, g, b, rfl, hd, hht, hcn, k⟩ := h
  have nd := sc_statements_of.nd
  refine ⟨_, (pss_one (ps_ret (pe_lc (own := [("depth", 1), ("statement", 2)]) (g := gTup K 2 (gCons (gName 1) (gCons (gName 2) gNil))) rfl nd (pi_list (pe_f G_listed (hr.mono (by omega)) (pa_cons (pe_ix ix_tup (pv 0) pe_int (fun _ _ => rfl)) (pa_cons pe_int pa_nil)))) (blkOk_by (own := [("depth", 1), ("statement", 2)]) (N := N_statements_of) (sc := defScope s_statements_of) (by decide +kernel)) (fun _ _ _ _ _ => (pg_tup rfl (pgs_cons (pg_name (i := 1) nd rfl (Or.inl rfl)) (pgs_cons (pg_name (i := 2) nd rfl (Or.inl rfl)) pgs_nil)))) (fun _ _ _ _ _ => pts_nil) (fun _ _ _ _ _ => (pv 2))))), ?_⟩
  obtain ⟨a, u, rfl, hs, hu⟩ := dp_enc hd
  refine s_retLP (R := Sts K (flL b)) ?_ k
  refine el_lcPP (K := K) (R := Prs K (dfL 0 b)) (elp_call (ea_cons (ev_at 1 (ev_var rfl) hs) (ea_cons ev_c ea_nil)) fun H8 e8 Q' q E' => ⟨u, 0, b, rfl, same_dp e8 hu, hht, hcn, q⟩) (fun _ _ => rfl) fun ps H1 e1 hp => ?_
  obtain ⟨vs, h1, h2, h3⟩ := prs_snd hp
  have hpl := hp.len
  rw [dfL_len] at hpl
  refine ⟨vs, h2, by omega, fun i p v hp hv => ?_, fun H2 e2 => ?_⟩
  · obtain ⟨a, x, rfl, hs⟩ := h3 i p v hp hv
    exact ⟨a, x, v, rfl, hs, ev_var rfl⟩
  · rw [dfL_snd] at h1
    exact same_dpAll e2 h1
end
end K7
set_option maxHeartbeats 4000000
/-! sets of texts that are made by a comprehension and sorted: how many there are -/
namespace K7
open PySem PySem.Spec PyProof.Rows L2 Evl PySem.Froz
theorem ix_tupK {X : Cx} (K : PySem.W.Frag) (h : X.K = K := by rfl) : IxR X (rIxT K) := h ▸ ix_tup
theorem ix_listK {X : Cx} (K : PySem.W.Frag) (h : X.K = K := by rfl) : IxR X (rIxL K) := h ▸ ix_list
theorem nodup_le {l m : List Str} (h : l.Nodup) (hs : ∀ x ∈ l, x ∈ m) : l.length ≤ m.length := by
  induction l generalizing m with
  | nil => exact Nat.zero_le _
  | cons a r ih =>
    obtain ⟨h1, h2⟩ := List.nodup_cons.mp h
    have ha := hs a List.mem_cons_self
    have q := ih (m := m.erase a) h2 fun x hx => (List.mem_erase_of_ne (fun e => h1 (by rw [← e]; exact hx))).mpr (hs x (List.mem_cons_of_mem _ hx))
    rw [List.length_erase_of_mem ha] at q
    have := List.length_pos_of_mem ha
    rw [List.length_cons]
    omega
section
variable {P : Program} {w : World}
/-- at a stands the set of the texts l, each told once; it can be walked -/
def TsAt (P : Program) (w : World) (h : Heap) (a : Addr) (l : List Str) : Prop :=
  ∃ D : SD, h.get? a = some (sObj "set" D) ∧ TxOk P w D l ∧ l.Nodup ∧ Ris D.2.2.place.toList ∧ (w.params.followText "set-order" = true ∨ D.2.2.led = true)
theorem tail_ris {ep : Nat} {es : Array (Int × Value)} {t : SetTable} {b : Bool} (r : Ris t.place.toList) : Ris (tailTx ep es t b).2.2.place.toList := by
  unfold tailTx
  split
  · exact relayAll_ris t es _
  · exact r
theorem tail_led {ep : Nat} {es : Array (Int × Value)} {t : SetTable} {b : Bool} : (tailTx ep es t b).2.2.led = t.led := by
  unfold tailTx
  split
  · exact relayAll_led t es _
  · rfl
theorem add_ris {h : Int} {v : Value} {D : SD} (r : Ris D.2.2.place.toList) : Ris (addTx h v D).2.2.place.toList := by
  unfold addTx
  refine tail_ris ?_
  have q := layNew_ris D.2.2 D.1 h v r
  split <;> exact q
theorem add_led {h : Int} {v : Value} {D : SD} : (addTx h v D).2.2.led = D.2.2.led := by
  unfold addTx
  rw [tail_led]
  have q := layNew_led D.2.2 D.1 h v
  split <;> exact q
theorem TsAt.mono {h h' : Heap} {a : Addr} {l : List Str} (R : TsAt P w h a l) (k : ∀ o, h.get? a = some o → h'.get? a = some o) : TsAt P w h' a l := by
  obtain ⟨D, h1, r⟩ := R
  exact ⟨D, k _ h1, r⟩
/-- as a tracked thing -/
def TsO (P : Program) (w : World) (a : Addr) (l : List Str) : HO := .ext fun h => TsAt P w h a l
theorem tsO_new {H : Hp} {h : Heap} {a : Addr} {l : List Str} (R : TsAt P w h a l) : ObjOk P w H h a (TsO P w a l) := by
  have ⟨D, h1, _⟩ := R
  exact ⟨R, ⟨_, h1⟩, fun _ _ p k => TsAt.mono p k⟩
theorem tsAt_none : (h : Heap) → TsAt P w (h.push { cls := .type "set", dict := none, data := .set #[] 0 (.fresh 0 0 (!w.params.followText "set-order")) }) h.objs.size [] := fun h =>
  ⟨(#[], 0, .fresh 0 0 (!w.params.followText "set-order")), Heap.get?_push_size _ rfl, TxOk.nil rfl, List.nodup_nil, List.Pairwise.nil, by
    show _ ∨ (!w.params.followText "set-order") = true
    cases w.params.followText "set-order"
    · exact .inr rfl
    · exact .inl rfl⟩
variable {A : Around} {E : Value → Shared → Prop} {s : Shared}
/-- add of a text that stands there already -/
theorem add_old {a : Addr} {D : SD} {l : List Str} {k : Str} {u : Tok} {Q : Bool → Shared → Prop} (h0 : s.heap.get? a = some (sObj "set" D)) (F : TxOk P w D l) (hk : k ∈ l) (hb : l.length < scanBound) (q : Q false s) :
    wpAny (model P w) A (setAddHashed a (.str k u) (hashStr w k)) Q E s := by
  obtain ⟨es, ep, t⟩ := D
  have F1 : ElemsOf (PySem.strKind P w) es.toList := F.el
  have F2 : t.fits es.size = true := F.fit
  have F3 : es.size < scanBound := by
    have z : es.size = l.length := F.sz
    omega
  have F4 : (PySem.strKind P w).is k (.str k u) = true := is_str k u
  have hd : (sObj "set" (es, ep, t)).data = .set es ep t := rfl
  obtain ⟨e, he, hq⟩ := (F.mem k).mp hk
  unfold setAddHashed setAddHashedIn
  refine wpAny_holding (wpAny_bind (wpAny_setState_of h0 hd F2 ?_))
  dsimp only
  rw [byScan_of rfl F3 F1]
  simp only [if_true]
  unfold setAddByScan
  refine wpAny_bind (wpAny_bind (wpAny_rule (wpAny_bind (wpAny_setScan_of (knd := PySem.strKind P w) (k := k) F4 h0 hd F2 F1 ?_))))
  cases hf : List.findIdx? (fun e => (PySem.strKind P w).is k e.2) es.toList with
  | none =>
    have c := List.findIdx?_eq_none_iff.mp hf e he
    rw [hq] at c
    cases c
  | some j => exact wpAny_pure (wpAny_pure q)
/-- found.add(k) -/
theorem ts_add {a : Addr} {l : List Str} {k : Str} {u : Tok} {Q : Value → Shared → Prop} (R : TsAt P w s.heap a l) (room : l.length + 1 < scanBound)
    (q : ∀ h', Heap.SameBut a s.heap h' → TsAt P w h' a (if k ∈ l then l else k :: l) → Q .none { s with heap := h', toks := s.toks + 1 }) : wpAny (model P w) A (call (.builtin "set.add") [.ref a, .str k u]) Q E s := by
  obtain ⟨D, h0, tx, nd, r, ld⟩ := R
  refine wpAny_call_entry F.slot_set_add ⟨_, h0, rfl⟩ F.entry_set_add ?_ (F.args_set_add_2 _ _)
  unfold Builtin.«set.add» Builtin.Frozenset.oneOther
  simp only [List.isEmpty_nil, bind_assoc]
  unfold Builtin.Frozenset.addrOf setAdd
  refine wpAny_bind (wpAny_pure ?_)
  try dsimp only
  refine wpAny_bind (wpAny_pure ?_)
  try dsimp only
  refine wpAny_bind (wpAny_holding (wpAny_bind ((PySem.strKind P w).pyHash (is_str k u) ?_)))
  by_cases hk : k ∈ l
  · refine add_old (s := { s with toks := s.toks + 1 }) h0 tx hk (by omega) ?_
    have z := q s.heap (Heap.SameBut.refl a s.heap) (by rw [if_pos hk]; exact ⟨D, h0, tx, nd, r, ld⟩)
    exact wpAny_pure ⟨_, rfl, z⟩
  · refine add_x (s := { s with toks := s.toks + 1 }) h0 tx hk room ?_
    have z := q (s.heap.update a fun _ => sObj "set" (addTx (hashStr w k) (.str k u) D)) (Heap.SameBut.update s.heap a _) (by
      rw [if_neg hk]
      exact ⟨_, get_upd _ h0 rfl, add_ok u tx, List.nodup_cons.mpr ⟨hk, nd⟩, add_ris r, ld.imp id fun z => add_led.trans z⟩)
    exact wpAny_pure ⟨_, rfl, z⟩
end
section
variable {X : Cx}
theorem tsO_get {pins : List (Addr × Obj)} {σ : L2.St} {H : Hp} {s : Shared} {a : Addr} {l : List Str} (I : Inv X pins σ H s) (h : H a = some (TsO X.prog X.w a l)) : TsAt X.prog X.w s.heap a l := (I.hok a _ h).1
theorem ts_addI {pins : List (Addr × Obj)} {σ : L2.St} {H : Hp} {s : Shared} {E : Value → Shared → Prop} {a : Addr} {l : List Str} {y : Str} {u : Tok} {Q : Value → Shared → Prop} (I : Inv X pins σ H s) (h : H a = some (TsO X.prog X.w a l)) (room : l.length + 1 < scanBound)
    (q : ∀ s', Inv X pins σ (upd H a (TsO X.prog X.w a (if y ∈ l then l else y :: l))) s' → Q .none s') : wpAny (model X.prog X.w) X.A (call (.builtin "set.add") [.ref a, .str y u]) Q E s :=
  ts_add (tsO_get I h) room fun h' sb R => q _ (I.write (e := a) (t' := s.toks + 1) (by rw [h]; trivial) (.inl rfl) (fun b o hb ho => (sb.2 b hb).trans ho) (by
    have ⟨D, h1, _⟩ := R
    exact ⟨_, h1⟩) (tsO_new R))
/-- sorted of a set of fewer than 64 texts: some list of as many texts -/
def rSortTs (P : Program) (w : World) : List V → Hp → VK → Prop := fun xs H Q => ∃ (a : Addr) (l : List Str), xs = [.ref a] ∧ H a = some (TsO P w a l) ∧ l.length < 64 ∧ ∀ (ys : List Str) p, ys.length = l.length → H p = none → Q (.ref p) (upd H p (.lst (ys.map V.str)))
theorem cr_sortTs (hc : X.calm = true) : CallR X (.builtin "sorted") (rSortTs X.prog X.w) := by
  intro pins s σ H xs us Q I rv ⟨a, l, e, ha, h64, q⟩
  subst e
  rw [Vals.ref1 rv]
  obtain ⟨⟨es, ep, t⟩, h0, tx, nd, ri, ld⟩ := tsO_get I ha
  have hsz : es.size = l.length := tx.sz
  refine Calls.call_function_entry kind_sorted plain_sorted entry_sorted (args_sorted1 _) ?_
  unfold Builtin.«sorted»
  refine wpAny_bind (m := checkCount "sorted" 1 1 _) (wpAny_pure (wpAny_bind (collect_set (A := X.A.in1) (I.ok.hd hc) ⟨_, h0, rfl, rfl⟩ tx.fit (by show es.size < scanBound; unfold scanBound; omega) ri ld fun s1 vs k1 hz g1 o1 pm => ?_)))
  have hvl : vs.length = l.length := by rw [pm.length_eq, List.length_map, Array.length_toList]; exact hsz
  have hS : StrsAre vs (vs.map strOf) := strsAre_map vs fun v hv => by
    obtain ⟨e, he, hev⟩ := List.mem_map.mp (pm.mem_iff.mp hv)
    obtain ⟨⟨k, hk, _⟩, _⟩ := tx.el e he
    obtain ⟨t, et⟩ := Value.isStrOf_shape (x := k) (v := e.2) hk
    exact ⟨k, t, hev.symm.trans et⟩
  refine wpAny_bind (wpAny_newList ?_ (by rw [hvl, sizeLine_eq]; omega))
  have hL : (s1.heap.push (seqObj "list" vs.toArray 0)).get? s1.heap.objs.size = some (seqObj "list" vs.toArray 0) := Heap.get?_push_size _ rfl
  refine wpAny_bind (wpAny_holding (wpAny_call_entry slot_list_sort ⟨_, hL, rfl⟩ entry_list_sort (list_sort_treeK strKind_oneLt hL hS.keysOf (fun v₁ v₂ r e => keyKind_strs (by rw [← e]; exact hS)) (by omega) fun st hp hs => ⟨_, rfl, ?_⟩) (args_list_sort _)))
  obtain ⟨ys, y1, y2, _⟩ := sorted_out_str hS hp hs
  obtain ⟨ec, hec⟩ := sortedHeap_at (vs := vs) (out := (arrOf st).map (·.2)) hL
  have hyl : ys.length = l.length := by rw [y2.length_eq, List.length_map, hvl]
  have hlen : (ys.map V.str).length ≤ sizeLine := by rw [List.length_map, hyl, sizeLine_eq]; omega
  have hn : H s1.heap.objs.size = none := I.hok.fresh hz
  have old : ∀ b o, s.heap.get? b = some o → (sortedHeap (s1.heap.push (seqObj "list" vs.toArray 0)) s1.heap.objs.size vs ((arrOf st).map (·.2))).get? b = some o := fun b o hb => by
    have hb1 := k1 b o hb
    have lt := Heap.lt_size hb1
    rw [sortedHeap_old (Nat.ne_of_lt lt) (by rw [size_push']; exact Nat.lt_succ_of_lt lt)]
    exact Heap.get?_push_of_some _ hb1
  have J : Inv X pins σ (upd H s1.heap.objs.size (.lst (ys.map V.str))) { s with heap := sortedHeap (s1.heap.push (seqObj "list" vs.toArray 0)) s1.heap.objs.size vs ((arrOf st).map (·.2)), gens := s1.gens, drawn := s1.drawn, toks := s1.toks } :=
    I.call (ch := []) (Un.laid old hz hn) (I.hok.laid old hz ⟨hlen, ((arrOf st).map (·.2)).toList, ec, vals_of_strs y1, by rw [Array.toArray_toList]; exact hec⟩) (by rw [g1]; exact I.bare) fun _ z => nomatch z
  have es1 : ({ s1 with heap := sortedHeap (s1.heap.push (seqObj "list" vs.toArray 0)) s1.heap.objs.size vs ((arrOf st).map (·.2)) } : Shared) = { s with heap := sortedHeap (s1.heap.push (seqObj "list" vs.toArray 0)) s1.heap.objs.size vs ((arrOf st).map (·.2)), gens := s1.gens, drawn := s1.drawn, toks := s1.toks } := by
    cases s1
    cases s
    cases o1
    rfl
  refine wpAny_pure ⟨_, rfl, .ref s1.heap.objs.size, _, ?_, rfl, q ys s1.heap.objs.size hyl hn⟩
  show Inv X pins σ _ { s1 with heap := sortedHeap (s1.heap.push (seqObj "list" vs.toArray 0)) s1.heap.objs.size vs ((arrOf st).map (·.2)) }
  rw [es1]
  exact J
end
/-! ### {e for x in .. if ..} with texts -/
section
variable {X : Cx}
/-- what one turn asks; Go: what holds behind it -/
def turnT (P : Program) (w : World) (g : TG) (tt : TT) (te : TE) (vs : List Nat) (σ : L2.St) (D : Addr) (Go : Hp → Prop) (x : V) (H : Hp) : Prop := g x (wipe σ vs) H fun σ2 H2 => wipe σ2 vs = wipe σ vs ∧ tt σ2 H2 fun b H3 =>
  if b = true then te σ2 H3 fun y H4 => ∃ (c : Str) (l : List Str), y = .str c ∧ H4 D = some (TsO P w D l) ∧ l.length + 1 < scanBound ∧ Go (upd H4 D (TsO P w D (if c ∈ l then l else c :: l))) else Go H3
def tScT (P : Program) (w : World) (wi : TI) (g : TG) (tt : TT) (te : TE) (vs : List Nat) : TE := fun σ H Q => wi σ H fun J H1 => ∀ D, H1 D = none → ∃ W : Nat → Nat → Hp → Prop, (∃ m, W 0 m (upd H1 D (TsO P w D []))) ∧ ∀ i m H, W i m H →
  (J.stop i H ∧ Q (.ref D) H) ∨ (J.go i H ∧ ∃ Go : Hp → Prop, (∀ H', Go H' → ∃ m', m' < m ∧ W (i + 1) m' H') ∧ ∀ x H', J.yld i H x H' → turnT P w g tt te vs σ D Go x H')
theorem scT_core {pins : List (Addr × Obj)} {s : Shared} {σ : L2.St} {H : Hp} {Q : VK} {elt tg iter : Expr} {ifs : List Expr} {scope : Scope} {own : List (PySem.Str × Nat)} {pos pos' : Pos} {wi : TI} {g : TG} {tt : TT} {te : TE} {use : Option (Value → Sem Unit)} {Qf : Value → Shared → Prop}
    (hc : X.calm = true) (nd : X.N.Nodup) (I : Inv X pins σ H s) (pi : PI X tg iter wi) (ok : BlkOk X.N X.env.scope scope own)
    (pg : ∀ (s : Shared) (H : Hp) (C : Addr) (cl : List (PySem.Str × Addr)) (fp : List Addr), PG (X.blk s H scope (compEnvC scope cl C X.env) fp) tg g)
    (pt : ∀ (s : Shared) (H : Hp) (C : Addr) (cl : List (PySem.Str × Addr)) (fp : List Addr), PTs (X.blk s H scope (compEnvC scope cl C X.env) fp) ifs tt)
    (pe : ∀ (s : Shared) (H : Hp) (C : Addr) (cl : List (PySem.Str × Addr)) (fp : List Addr), PE (X.blk s H scope (compEnvC scope cl C X.env) fp) elt te) (fold : ∀ x, foldedSetIterable iter X.env x = pure x)
    (q : tScT X.prog X.w wi g tt te (own.map (·.2)) σ H Q)
    (last : ∀ D C s' m H', Inv X pins σ H' s' → Q (.ref D) H' → s'.heap.Ns C m → FpOk X pins H' C → compPost (model X.prog X.w) X.A X.xe use Qf (.ref D) C (.ok .next) s') :
    wpAny (model X.prog X.w) X.A (comprehension (.SetComp elt [⟨tg, iter, ifs, 0⟩] scope pos) scope X.env pos' (newSet (.type "set")) false (eval iter X.env) use) Qf X.xe s := by
  have fr : ∀ y ∈ scope.names, y.2 = .free → ∃ c, X.env.cells.lookup y.1 = some c := fun y hy e => (ok.free y hy e).elim (fun z => I.ok.has _ (.inl z)) fun z => I.ok.has _ (.inr z)
  refine wpAny_comprehension_free (use := use) rfl fold (closure_ok fr) ok.kind (fun y hy e => by rw [ok.uniq y hy, e]) (thn (pi.run pins s σ H _ I q) fun xv s1 hx => thn hx fun itv s2 h2 => ?_)
  obtain ⟨it, fp, tn, J, H2, e, I2, T, st2, f2, q2⟩ := h2
  subst e
  refine PpSet.newSet_ok (newEnv_comp ?_)
  generalize eD : s2.heap.objs.size = D
  obtain ⟨W, ⟨m0, w0⟩, turn⟩ := q2 D (I2.hok.fresh (Nat.le_of_eq eD))
  generalize e3 : ({ s2 with heap := s2.heap.push { cls := .type "set", dict := none, data := .set #[] 0 (.fresh 0 0 (!X.w.params.followText "set-order")) } } : Shared) = s3
  have h3 : s3.heap = s2.heap.push { cls := .type "set", dict := none, data := .set #[] 0 (.fresh 0 0 (!X.w.params.followText "set-order")) } := by rw [← e3]
  have I3 : Inv X pins σ (upd H2 D (TsO X.prog X.w D [])) s3 := by
    rw [← e3]
    refine I2.laid (t' := s2.toks) (fun b o z => Heap.get?_push_of_some _ z) (Nat.le_of_eq eD) ?_
    rw [← eD]
    exact tsO_new (tsAt_none s2.heap)
  have f3 : ∀ b ∈ fp, FpOk X pins (upd H2 D (TsO X.prog X.w D [])) b ∧ b < s3.heap.objs.size := fun b hb => by
    obtain ⟨o, z, _⟩ := T.obj _ _ st2 b hb
    have lt : b < s2.heap.objs.size := Heap.lt_size z
    refine ⟨⟨?_, (f2 b hb).2⟩, by rw [h3, Heap.size_push]; exact Nat.lt_succ_of_lt lt⟩
    rw [upd_ne (by rw [← eD]; exact Nat.ne_of_lt lt)]
    exact (f2 b hb).1
  have st3 : tn 0 s3.heap := T.keep _ _ _ st2 fun b _ o z => by rw [h3]; exact Heap.get?_push_of_some _ z
  have I4 := block_start I3 ok nd f3
  have pg1 := pg s3 (upd H2 D (TsO X.prog X.w D [])) s3.heap.objs.size (cellsFrom (s3.heap.objs.size + 1) scope.names (cloFrom X.env.cells scope.names [])) fp
  have pt1 := pt s3 (upd H2 D (TsO X.prog X.w D [])) s3.heap.objs.size (cellsFrom (s3.heap.objs.size + 1) scope.names (cloFrom X.env.cells scope.names [])) fp
  have pe1 := pe s3 (upd H2 D (TsO X.prog X.w D [])) s3.heap.objs.size (cellsFrom (s3.heap.objs.size + 1) scope.names (cloFrom X.env.cells scope.names [])) fp
  show codeAny _ _ (.compStart (.SetComp elt [⟨tg, iter, ifs, 0⟩] scope pos) 0 (.ref it) (.ref D) (compEnvC scope (cellsFrom (s3.heap.objs.size + 1) scope.names (cloFrom X.env.cells scope.names [])) s3.heap.objs.size X.env))
    (compPost (model X.prog X.w) X.A X.xe use Qf (.ref D) s3.heap.objs.size) { s3 with heap := pushCells (s3.heap.push { cls := .type "dict", data := .dict #[] }) scope.names }
  have none3 : ∀ b ∈ fp, (upd H2 D (TsO X.prog X.w D [])) b = none := fun b hb => (f3 b hb).1.1
  generalize eC : compEnvC scope (cellsFrom (s3.heap.objs.size + 1) scope.names (cloFrom X.env.cells scope.names [])) s3.heap.objs.size X.env = C at I4 pg1 pt1 pe1 ⊢
  have lC : C.locals = s3.heap.objs.size := by subst eC; rfl
  generalize upd H2 D (TsO X.prog X.w D []) = H3 at I3 I4 pg1 pt1 pe1 w0 none3 f3
  generalize e4 : ({ s3 with heap := pushCells (s3.heap.push { cls := .type "dict", data := .dict #[] }) scope.names } : Shared) = s4 at I4 ⊢
  have st4 : tn 0 s4.heap := T.keep _ _ _ st3 fun b _ o z => by rw [← e4]; exact pushCells_keeps _ _ _ _ (Heap.get?_push_of_some _ z)
  have pin : ∀ {σ' : L2.St} {H' : Hp} {s' : Shared}, Inv (X.blk s3 H3 scope C fp) [] σ' H' s' → (∀ b ∈ fp, H' b = none) → ∀ b ∈ fp, FpOk (X.blk s3 H3 scope C fp) [] H' b := fun {σ' H' s'} I' hn b hb =>
    ⟨hn b hb, (I'.ok.exf b hb).1, I'.ok.exfs b hb, .inl hb, fun x c z => (I'.ok.exf b hb).2 x c z, fun p hp => absurd (show p ∈ ([] : List (Addr × Obj)) ++ [] from hp) (by simp)⟩
  have loop : codeAny (model X.prog X.w) X.A (.compLoop (.SetComp elt [⟨tg, iter, ifs, 0⟩] scope pos) 0 (.ref it) (.ref D) C) (compPost (model X.prog X.w) X.A X.xe use Qf (.ref D) s3.heap.objs.size) s4 := by
    refine PpSet.compLoopS_any (fun n s' => ∃ i H', Inv (X.blk s3 H3 scope C fp) [] (wipe σ (own.map (·.2))) H' s' ∧ tn i s'.heap ∧ (∀ b ∈ fp, H' b = none) ∧ W i n H') ?_ m0 ⟨0, H3, I4, st4, none3, w0⟩
    rintro n s5 ⟨i, H5, I5, st5, n5, w5⟩
    rcases turn i n H5 w5 with ⟨stop, qq⟩ | ⟨go, Go, less, step⟩
    · refine thnF (T.done (X.blk s3 H3 scope C fp) rfl rfl rfl hc i [] s5 _ H5 (fun _ _ => False) I5 (pin I5 n5) st5 stop) fun r s6 ⟨hr, I6⟩ => ?_
      subst hr
      have I7 : Inv X pins σ H5 s6 := I3.call' (ch := fp) I6.os I6.base I6.hok I6.bare fun b hb => ⟨(f3 b hb).1.2.2.2.1, (f3 b hb).1.2.1, (f3 b hb).1.2.2.2.2.1, (f3 b hb).1.2.2.2.2.2⟩
      have nC : H5 s3.heap.objs.size = none := lC ▸ (show H5 C.locals = none from I6.free)
      obtain ⟨m, hn, _⟩ := I6.loc
      exact last D s3.heap.objs.size s6 m H5 I7 qq (lC ▸ (show s6.heap.Ns C.locals m from hn)) (I3.fpOk (Nat.le_refl _) nC)
    · refine thnF (T.item (X.blk s3 H3 scope C fp) rfl rfl rfl hc i [] s5 _ H5 (fun _ _ => False) I5 (pin I5 n5) st5 go) fun r s6 ⟨u, hr, h6⟩ => ?_
      subst hr
      refine thnF h6 fun _ s7 ⟨x, H7, I7, r7, y7, st7, n7⟩ => ?_
      refine thnF (pg1.run _ s7 _ H7 x u _ (I7.pinned (pin I7 n7) (T.obj _ _ st7)) r7 (step x H7 y7)) fun _ s8 ⟨σ8, H8, I8, hw8, q8⟩ => ?_
      refine thnF (pt1.run _ s8 σ8 H8 _ I8 q8) fun b s9 ⟨H9, I9, q9⟩ => ?_
      have back : ∀ {s' : Shared} {H' : Hp}, Inv (X.blk s3 H3 scope C fp) ([] ++ pinsAt fp s7.heap) σ8 H' s' → Go H' → ∃ m, m < n ∧ ∃ i H', Inv (X.blk s3 H3 scope C fp) [] (wipe σ (own.map (·.2))) H' s' ∧ tn i s'.heap ∧ (∀ b ∈ fp, H' b = none) ∧ W i m H' := fun {s' H'} I' nx => by
        obtain ⟨m', hm, w'⟩ := less H' nx
        have still : ∀ b ∈ fp, ∀ o, s7.heap.get? b = some o → s'.heap.get? b = some o ∧ H' b = none := fun b hb o z =>
          let y := I'.pin (b, o) (List.mem_append_right _ (List.mem_append_right _ (mem_pinsAt hb z)))
          ⟨y.1, y.2.1⟩
        refine ⟨m', hm, i + 1, H', (I'.unpinned (pins := [])).weak (by rw [← hw8, wipe_length]) (fun j v z => ?_), T.keep _ _ _ st7 fun b hb o z => (still b hb o z).1, fun b hb => ?_, w'⟩
        · rw [← hw8] at z
          exact (wipe_some z).1
        · obtain ⟨o, z, _⟩ := T.obj _ _ st7 b hb
          exact (still b hb o z).2
      cases b with
      | false => exact back I9 q9
      | true =>
        simp only [if_true] at q9 ⊢
        refine thnF (pe1.run _ s9 σ8 H9 _ I9 q9) fun z s10 ⟨yv, H10, I10, r10, c, l, ey, hD, room, nx⟩ => ?_
        subst ey
        obtain ⟨tk, ez⟩ := (show ∃ tk, z = Value.str c tk from r10)
        subst ez
        exact ts_addI (X := X.blk s3 H3 scope C fp) I10 hD room fun s11 I11 => back I11 nx
  exact PpSet.codeAny_compStart_set loop (T.self X.A 0 _ _ _ st4 loop)
theorem pe_scT {elt tg iter : Expr} {ifs : List Expr} {scope : Scope} {own : List (PySem.Str × Nat)} {pos : Pos} {wi : TI} {g : TG} {tt : TT} {te : TE} (hc : X.calm = true) (nd : X.N.Nodup) (pi : PI X tg iter wi) (ok : BlkOk X.N X.env.scope scope own)
    (pg : ∀ (s : Shared) (H : Hp) (C : Addr) (cl : List (PySem.Str × Addr)) (fp : List Addr), PG (X.blk s H scope (compEnvC scope cl C X.env) fp) tg g)
    (pt : ∀ (s : Shared) (H : Hp) (C : Addr) (cl : List (PySem.Str × Addr)) (fp : List Addr), PTs (X.blk s H scope (compEnvC scope cl C X.env) fp) ifs tt)
    (pe : ∀ (s : Shared) (H : Hp) (C : Addr) (cl : List (PySem.Str × Addr)) (fp : List Addr), PE (X.blk s H scope (compEnvC scope cl C X.env) fp) elt te) (fold : ∀ x, foldedSetIterable iter X.env x = pure x := by intro _; rfl) :
    PE X (.SetComp elt [⟨tg, iter, ifs, 0⟩] scope pos) (tScT X.prog X.w wi g tt te (own.map (·.2))) := ⟨fun pins s σ H Q I h => by
  rw [PpSet.eval_SetComp]
  refine scT_core hc nd I pi ok pg pt pe fold h fun D C s' m H' I' q hn f => ⟨m, hn, fun h2 sb => ?_⟩
  obtain ⟨f0, f1, _, f3, f4, f5⟩ := f
  exact ⟨.ref D, H', I'.turned (t' := s'.toks) (fun b o hb z => (sb.2 b hb).trans z) f0 f1 f3 f4 f5, rfl, q⟩⟩
end
end K7
set_option maxHeartbeats 4000000
/-! wishes_of, program_error -/
namespace K7
open PySem PySem.Spec PyProof.Rows L2 Evl
section
variable {P : Program} {w : World} {K : PySem.W.Frag} {σ : L2.St} {H H' : Hp} {ta te tl : TE} {tt : TT} {R : List V → Hp → Prop}
/-- a set of texts out of ws -/
def SetIn (P : Program) (w : World) (ws : List Str) : V → Hp → Prop := fun v H => ∃ a l, v = .ref a ∧ H a = some (TsO P w a l) ∧ l.length ≤ ws.length
theorem ep_scT {j : Nat} {vs : List Nat} (ws : List Str) (hws : ws.length ≤ 50) (h : EvLP tl σ H R) (hw : ∀ x, wipe ((wipe σ vs).set j (some x)) vs = wipe σ vs)
    (hR : ∀ xs H1, Ex H H1 → R xs H1 → ∀ (i : Nat) (x : V), xs[i]? = some x → ∃ b, EvT tt ((wipe σ vs).set j (some x)) H1 b ∧ (b = true → ∃ c, c ∈ ws ∧ Ev te ((wipe σ vs).set j (some x)) H1 (.str c))) :
    EvP (tScT P w (iList K tl) (gName j) tt te vs) σ H (SetIn P w ws) := fun H0 e Q q => h H0 e _ fun a H1 xs ha e1 hs hr => by
  refine ⟨a, rfl, ⟨xs, sq_of hs⟩, fun Dl hD => ?_⟩
  refine ⟨fun i m H' => m = xs.length - i ∧ i ≤ xs.length ∧ Ex H1 H' ∧ ∃ l, H' Dl = some (TsO P w Dl l) ∧ l.Nodup ∧ ∀ x ∈ l, x ∈ ws, ⟨xs.length, by simp, Nat.zero_le _, Ex.new hD, [], upd_same, List.nodup_nil, fun x hx => by cases hx⟩, ?_⟩
  rintro i m H2 ⟨rfl, hi, e2, l, hl, hnd, hsub⟩
  have hq : SqL K H2 a xs := ex_l e2 (sq_of hs)
  have hlen : l.length ≤ ws.length := nodup_le hnd hsub
  by_cases hlt : i < xs.length
  · refine .inr ⟨⟨xs, xs[i], hq, by simp [hlt]⟩, fun H' => Ex H1 H' ∧ ∃ l, H' Dl = some (TsO P w Dl l) ∧ l.Nodup ∧ ∀ x ∈ l, x ∈ ws, fun H' ⟨p1, p2⟩ => ⟨xs.length - (i + 1), by omega, rfl, hlt, p1, p2⟩, fun x H3 y => ?_⟩
    obtain ⟨rfl, y⟩ := y
    obtain ⟨b, hb, hc⟩ := hR xs H1 (e.trans e1) hr i x (y xs hq)
    refine ⟨hw _, hb H3 e2 _ fun H4 e4 => ?_⟩
    have hl4 := e4 Dl _ hl
    cases b with
    | false => exact ⟨e2.trans e4, l, hl4, hnd, hsub⟩
    | true =>
      obtain ⟨c, hcw, hev⟩ := hc rfl
      show te _ H4 _
      refine hev H4 (e2.trans e4) _ fun H5 e5 => ⟨c, l, rfl, e5 Dl _ hl4, by unfold scanBound; omega, Ex.mut ((e2.trans e4).trans e5) hD, _, upd_same, ?_, ?_⟩
      · split
        · exact hnd
        · exact List.nodup_cons.mpr ⟨by assumption, hnd⟩
      · split
        · exact hsub
        · intro x hx
          rcases List.mem_cons.mp hx with rfl | hx
          · exact hcw
          · exact hsub x hx
  · have ei : i = xs.length := by omega
    subst ei
    exact .inl ⟨⟨xs, hq, Nat.le_refl _⟩, q _ H2 (e1.trans e2) ⟨Dl, l, rfl, hl, hlen⟩⟩
/-- sorted of it: a new list of at most so many -/
theorem elp_sortT {ws : List Str} (hws : ws.length ≤ 50) (h : EvP te σ H (SetIn P w ws)) : EvLP (tCB (rSortTs P w) (tCons te tNil)) σ H (fun xs _ => xs.length ≤ ws.length) := fun H1 e Q q => h H1 e _ fun v H2 e2 ⟨a, l, ev, ha, hl⟩ => by
  subst ev
  refine ⟨a, l, rfl, ha, by omega, fun ys p hy hp => ?_⟩
  exact q p _ _ (fresh_back e2 hp) (e2.trans (Ex.new hp)) upd_same (by show (ys.map V.str).length ≤ _; rw [List.length_map]; omega)
/-- tuple of a new list -/
theorem ep_tupOfL (h : EvLP te σ H R) : EvP (tCB (fun xs H Q => ∃ p ys, xs = [.ref p] ∧ ((SqL K H p ys ∧ ∀ l, H l = none → Q (.ref l) (upd H l (.tup ys))) ∨ (SqT K H p ys ∧ Q (.ref p) H))) (tCons te tNil)) σ H
    (fun v H' => ∃ p xs H1, v = .ref p ∧ H' p = some (.tup xs) ∧ R xs H1 ∧ Ex H1 H') := fun H1 e Q q => h H1 e _ fun p H2 xs hp e2 h2 hr => ⟨p, xs, rfl, .inl ⟨sq_of h2, fun l hl => q _ _ (e2.trans (Ex.new hl)) ⟨l, xs, H2, rfl, upd_same, hr, Ex.new hl⟩⟩⟩
theorem ep_lenP {N : Nat} (h : EvP te σ H (fun v H' => ∃ p xs, v = .ref p ∧ H' p = some (.tup xs) ∧ xs.length ≤ N)) : EvP (tCB (rLenS K) (tCons te tNil)) σ H (fun v _ => ∃ n : Nat, v = .int n ∧ n ≤ N) := fun H1 e Q q =>
  h H1 e _ fun v H2 e2 ⟨p, xs, ev, hp, hl⟩ => ⟨p, xs, by rw [ev], .inr (st_of hp), q _ H2 e2 ⟨xs.length, rfl, hl⟩⟩
theorem et_gtP {N : Nat} {M : Int} (h : EvP te σ H (fun v _ => ∃ n : Nat, v = .int n ∧ n ≤ N)) (hM : (N : Int) ≤ M) : EvT (tTest (tOp (rI0 fun i j => .bl (decide (i > j))) te (tC (.int M)))) σ H false := fun H1 e Q q =>
  h H1 e _ fun v H2 e2 ⟨n, ev, hn⟩ => ⟨n, M, ev, rfl, false, congrArg V.bl (decide_eq_false (by omega)), q H2 e2⟩
end
section
variable {P : Program} {w : World} {K : PySem.W.Frag} {mg : Str → Option Value} {base : Heap}
def spWishes (K : PySem.W.Frag) (n : Nat) : Sp := fun vs H Q _ => ∃ (v : V) (g : Nat) (b : List Stm) (ws : List Str), vs = [v] ∧ Dp K H v (enc g b) ∧ htL b < n ∧ cnL b ≤ 1000 ∧ ws.length ≤ 50 ∧ (∀ x ∈ wishes b, x ∈ ws) ∧
  RetP (fun v H' => ∃ p xs, v = .ref p ∧ H' p = some (.tup xs) ∧ xs.length ≤ ws.length) H Q
theorem wish_at {K : PySem.W.Frag} {H : Hp} {v : V} {s : Stm} (h : Dp K H v (encS s)) : ∃ a kw r, v = .ref a ∧ SqT K H a (.str kw :: r) ∧ (kw = "wish" → ∃ x z, wishOf s = [z] ∧ r = [x, .str z]) := by
  cases s with
  | iff t y n =>
    obtain ⟨a, u, b, c, rfl, hs, _⟩ := dp_iff h
    exact ⟨a, _, _, rfl, hs, fun e => absurd e (by decide +kernel)⟩
  | rep k y =>
    obtain ⟨a, b, rfl, hs, hb⟩ := dp_rep h
    exact ⟨a, _, _, rfl, hs, fun e => absurd e (by decide +kernel)⟩
  | pln p =>
    rw [encS] at h
    obtain ⟨a, u, rfl, hs, _⟩ := dp_pln h
    cases p with
    | wish x z => exact ⟨a, _, _, rfl, hs, fun _ => ⟨_, z, rfl, rfl⟩⟩
    | _ => exact ⟨a, _, _, rfl, hs, fun e => absurd e (by decide +kernel)⟩
theorem ok_wishes_of (T : Txt w K mg) (n : Nat) : FOk P w K mg base (n + 3) "wishes_of" (spWishes K n) := by
  have G_statements_of : FOk P w K mg base (n + 2) "statements_of" (spStms K n) := ok_statements_of T n
  refine fok T.f_wishes_of T.g_wishes_of sc_wishes_of (fun _ _ _ _ _ _ us hl => match us, hl with | [_], _ => rfl) (fun vs H Q E h => ?_) (fun cdv A outer s H vs Q E hr h => ?_)
  · obtain ⟨v, _, _, _, rfl, _⟩ := h
    rfl
  obtain ⟨v, g, b, ws, rfl, hd, hht, hcn, hws, hsub, k⟩ := h
  have nd := sc_wishes_of.nd
  refine ⟨_, (pss_one (ps_ret (pe_callTy call_tuple_of (by rfl) T.z_tuple (by decide +kernel) (pa_cons (pe_callB (cr_sortTs rfl) (by rfl) T.z_sorted (by decide +kernel) (pa_cons (pe_scT (own := [("statement", 1)]) (g := gName 1) rfl nd (pi_list (pe_f G_statements_of (hr.mono (by omega)) (pa_cons (pv 0) pa_nil))) (blkOk_by (own := [("statement", 1)]) (N := N_wishes_of) (sc := defScope s_wishes_of) (by decide +kernel)) (fun _ _ _ _ _ => (pg_name (i := 1) nd rfl (Or.inl rfl))) (fun _ _ _ _ _ => (pts_one (pt_cmpR op_eq (pe_ix (ix_tupK K) (pv 1) pe_int (fun _ _ => rfl)) pe_str (nomark _)))) (fun _ _ _ _ _ => (pe_ix (ix_tupK K) (pv 1) pe_int (fun _ _ => rfl)))) pa_nil)) pa_nil)))), ?_⟩
  refine s_retP (ep_tupOfL (elp_sortT hws (ep_scT ws hws (elp_call (ea_cons (ev_var rfl) ea_nil) fun H1 e1 Q' q E' => ⟨v, g, b, rfl, same_dp e1 hd, hht, hcn, q⟩) (fun _ => rfl) fun xs H1 e1 hxs i x hi => ?_))) fun v H1 e1 ⟨p, xs, H2, ev, hp, hl, _⟩ => k v H1 e1 ⟨p, xs, ev, hp, hl⟩
  obtain ⟨d, hdd, hx⟩ := dpAll_get hxs hi
  rw [List.getElem?_map] at hdd
  obtain ⟨st, hst, rfl⟩ := Option.map_eq_some_iff.mp hdd
  have hmem := List.mem_of_getElem? hst
  obtain ⟨a, kw, r, rfl, hs, hwi⟩ := wish_at hx
  by_cases hk : kw = "wish"
  · obtain ⟨x, z, hz, rfl⟩ := hwi hk
    subst hk
    exact ⟨true, et_test (ev_eqY (ev_at 0 (ev_var rfl) hs) ev_c rfl), fun _ => ⟨z, hsub z (List.mem_flatMap.mpr ⟨st, hmem, by rw [hz]; exact List.mem_singleton.mpr rfl⟩), ev_at 2 (ev_var rfl) hs⟩⟩
  · exact ⟨false, et_test (ev_eqN (ev_at 0 (ev_var rfl) hs) ev_c hk), fun h => Bool.noConfusion h⟩
/-! ### program_error -/
def spPErr (K : PySem.W.Frag) : Sp := fun vs H Q _ => ∃ (v : V) (g : Nat) (b : List Stm), vs = [v] ∧ Dp K H v (enc g b) ∧ Wd g b ∧ RetV .non H Q
theorem ok_program_error (T : Txt w K mg) : FOk P w K mg base 15 "program_error" (spPErr K) := by
  have G_is_number : FOk P w K mg base 1 "is_number" spNumber := ok_is_number T
  have G_first_error : FOk P w K mg base 14 "first_error" (spErr K 6) := ok_first_error T 6
  have G_weight_of : FOk P w K mg base 7 "weight_of" (spWeight K 6) := ok_weight_of T 6
  have G_wishes_of : FOk P w K mg base 9 "wishes_of" (spWishes K 6) := ok_wishes_of T 6
  refine fok T.f_program_error T.g_program_error sc_program_error (fun _ _ _ _ _ _ us hl => match us, hl with | [_], _ => rfl) (fun vs H Q E h => ?_) (fun cdv A outer s H vs Q E hr h => ?_)
  · obtain ⟨v, _, _, rfl, _⟩ := h
    rfl
  obtain ⟨v, g, b, rfl, hd, wd, k⟩ := h
  have nd := sc_program_error.nd
  refine ⟨_, (pss_cons (ps_if (PW.pt (pw_or (pt_not (pt_val (pe_isi T.z_isinstance T.z_tuple boot_tupleT (pv 0)))) (pw_or (pt_cmpR op_ne (pe_callB call_len_seq (by rfl) T.z_len PySem.boot_len (pa_cons (pv 0) pa_nil)) pe_int (nomark _)) (pw_or1 (pt_not (pt_val (pe_f G_is_number (hr.mono (by omega)) (pa_cons (pe_ix ix_tup (pv 0) pe_int (fun _ _ => rfl)) (pa_cons pe_int (pa_cons (pe_gi T.i_MAX_GIVENS) pa_nil)))))))))) (pss_one (ps_ret (pe_tup (pa_cons pe_non (pa_cons pe_str pa_nil))))) pss_nil) (pss_cons (ps_if (pt_not (pt_val (pe_isi T.z_isinstance T.z_tuple boot_tupleT (pe_ix ix_tup (pv 0) pe_int (fun _ _ => rfl))))) (pss_one (ps_ret (pe_tup (pa_cons pe_non (pa_cons pe_str pa_nil))))) pss_nil) (pss_cons (ps_set (i := 1) nd rfl (Or.inl rfl) (pe_lst pa_nil)) (pss_cons (ps_set (i := 2) nd rfl (Or.inl rfl) (pe_f G_first_error (hr.mono (by omega)) (pa_cons (pe_ix ix_tup (pv 0) pe_int (fun _ _ => rfl)) (pa_cons (pe_ix ix_tup (pv 0) pe_int (fun _ _ => rfl)) (pa_cons (pv 1) (pa_cons pe_int pa_nil)))))) (pss_cons (ps_if (pt_cmpR op_notN (pv 2) pe_non (nomark _)) (pss_one (ps_ret (pv 2))) pss_nil) (pss_cons (ps_if (pt_cmpR op_gt (pe_callB call_len_seq (by rfl) T.z_len PySem.boot_len (pa_cons (pv 1) pa_nil)) (pe_gi T.i_MAX_PLACES) (nomark _)) (pss_one (ps_ret (pe_tup (pa_cons pe_non (pa_cons pe_str pa_nil))))) pss_nil) (pss_cons (ps_if (pt_cmpR op_gt (pe_f G_weight_of (hr.mono (by omega)) (pa_cons (pe_ix ix_tup (pv 0) pe_int (fun _ _ => rfl)) pa_nil)) (pe_gi T.i_MAX_WEIGHT) (nomark _)) (pss_one (ps_ret (pe_tup (pa_cons pe_non (pa_cons pe_str pa_nil))))) pss_nil) (pss_one (ps_ret (pe_ifExp (pt_cmpR op_gt (pe_callB call_len_seq (by rfl) T.z_len PySem.boot_len (pa_cons (pe_f G_wishes_of (hr.mono (by omega)) (pa_cons (pv 0) pa_nil)) pa_nil)) (pe_gi T.i_MAX_WISHES) (nomark _)) (pe_tup (pa_cons pe_non (pa_cons pe_str pa_nil))) pe_non)))))))))), ?_⟩
  obtain ⟨a, u, rfl, hs, hu⟩ := dp_enc hd
  obtain ⟨ws, hws, hsub⟩ := wd.wi
  have hg := wd.g3
  have hht := wd.ht
  have hcn := wd.cn
  have hwt := wd.wt
  obtain ⟨ua, uxs, rfl, hus, _⟩ := dp_tup hu
  refine q_when (b := false) (et_is (et_or (a := false) (et_not (a := true) (et_B (ev_isTup (ev_var rfl) hs))) fun _ => et_or (a := false) (b := false) (et_test (ev_is (ev_op (ev_lenT (ev_var rfl) hs) ev_c (rv_ne rfl)) (show V.bl (!decide (V.int 2 = V.int 2)) = V.bl false by decide +kernel))) fun _ =>
    et_not (a := true) (et_B (ev_call (ea_cons (ev_at 0 (ev_var rfl) hs) (ea_cons ev_c (ea_cons ev_c ea_nil))) fun H1 e1 Q' q E' => ⟨g, 0, 3, rfl, by omega, by omega, q⟩))) rfl) (fun h => Bool.noConfusion h) fun _ H1 e1 => ?_
  refine q_when (b := false) (et_not (a := true) (et_B (ev_isTup (ev_at 1 (ev_var rfl) (ex_t e1 hs)) (ex_t e1 hus)))) (fun h => Bool.noConfusion h) fun _ H2 e2 => ?_
  have e02 := e1.trans e2
  refine q_asgL (el_lst ea_nil (by decide)) fun F H3 hF e3 hF3 => ?_
  have e03 := e02.trans e3
  have hF0 := fresh_back e02 hF
  have hs3 := ex_t e03 hs
  refine q_asgC (vs := [.ref ua, .int g, .ref F, .int 0]) (ea_cons (ev_at 1 (ev_var rfl) hs3) (ea_cons (ev_at 0 (ev_var rfl) hs3) (ea_cons (ev_var rfl) (ea_cons ev_c ea_nil)))) fun H4 e4 => ?_
  refine ⟨.ref ua, g, 0, F, [], b, rfl, same_dp (e03.trans e4) hu, hg, wd.ok, by omega, by omega, e4 F _ hF3, by show 0 + _ ≤ _; omega, fun ys H5 hys b5 hF5 => ?_⟩
  have k5 : Keep H H5 := (keep_ex (e03.trans e4)).trans (b5.keep (e4 F _ hF3))
  have e05 : Ex H H5 := fun c o hc => b5 c o (ne_of_none hc hF0) ((e03.trans e4) c o hc)
  have hs5 := ex_t e05 hs
  refine q_when (b := false) (et_test (ev_is (ev_op (ev_var rfl) ev_c (rv_notN (x := .non))) (by decide +kernel))) (fun h => Bool.noConfusion h) fun _ H6 e6 => ?_
  refine q_when (b := false) (et_is (et_test (ev_op (ev_len (ev_var rfl) (sq_of (e6 F _ hF5))) ev_c rv_I0)) (decide_eq_false (by show ¬ ((30 : Int) < _); rw [List.nil_append, hys]; omega))) (fun h => Bool.noConfusion h) fun _ H7 e7 => ?_
  have e07 := (e05.trans e6).trans e7
  refine q_when (b := false) (et_is (et_test (ev_op (ev_call (ea_cons (ev_at 1 (ev_var rfl) (ex_t e07 hs)) ea_nil) (fun H8 e8 Q' q E' => ⟨.ref ua, g, b, rfl, same_dp (e07.trans e8) hu, wd.ok, by omega, q⟩)) ev_c rv_I0)) (decide_eq_false (by show ¬ ((200 : Int) < (wtL b : Int)); omega))) (fun h => Bool.noConfusion h) fun _ H8 e8 => ?_
  have e08 := e07.trans e8
  refine s_ret (ev_if (b := false) (et_gtP (N := ws.length) (ep_lenP (ep_call (ea_cons (ev_var rfl) ea_nil) fun H9 e9 Q' q E' => ⟨.ref a, g, b, ws, rfl, same_dp (e08.trans e9) hd, by omega, by omega, by omega, hsub, q⟩)) (by omega)) (fun h => Bool.noConfusion h) fun _ => ev_c) fun H9 e9 => k H9 (e08.trans e9)
end
end K7
set_option maxHeartbeats 4000000
/-! whole_of, spot_of -/
namespace K7
open PySem PySem.Spec PyProof.Rows L2 Evl
/-! ### numbers as texts -/
theorem num_head : ∀ n : Nat, n < 100 → ∃ c r, TL.tl (num n) = c :: r ∧ 48 ≤ c ∧ c ≤ 57 ∧ (c = 48 → n = 0) := by
  intro n h
  rw [tl_numS]
  by_cases h10 : n < 10
  · rw [TL.numL_lt h10]
    exact ⟨_, _, rfl, by omega, by omega, by omega⟩
  · rw [TL.numL_step (by omega), TL.numL_lt (by omega)]
    exact ⟨_, _, rfl, by omega, by omega, by omega⟩
theorem num_zero : num 0 = "0" := by decide +kernel
theorem starts_not {x : Str} {c : Nat} {r : List Nat} (e : TL.tl x = c :: r) (h : c ≠ 45) : Txt.startswith x "-" = false := by
  cases q : Txt.startswith x "-" with
  | false => rfl
  | true =>
    unfold Txt.startswith at q
    rw [Bool.and_eq_true, decide_eq_true_iff] at q
    have z := (PySem.StrLaws.subAt_one x 45 0).mp q
    have z2 : (TL.tl x)[0]? = some 45 := z
    rw [e] at z2
    exact absurd (Option.some.inj z2) h
section
variable {K : PySem.W.Frag} {σ : L2.St} {H : Hp} {to te : TE}
theorem ev_starts {a b : Str} (ho : Ev to σ H (.str a)) (he : Ev te σ H (.str b)) : Ev (tM1 (fun x xs H Q => ∃ a b, x = .str a ∧ xs = [.str b] ∧ Q (.bl (Txt.startswith a b)) H) to te) σ H (.bl (Txt.startswith a b)) := fun H1 e Q q =>
  ho H1 e _ fun H2 e2 => ⟨⟨a, rfl⟩, he H2 (e.trans e2) _ fun H3 e3 => ⟨a, b, rfl, rfl, q H3 (e2.trans e3)⟩⟩
theorem el_split {a b : Str} (ho : Ev to σ H (.str a)) (he : Ev te σ H (.str b)) (hb : (b.length == 0) = false) (ha : a.length ≤ 90000) :
    EvL (tM1 (fun x xs H Q => ∃ a b, x = .str a ∧ xs = [.str b] ∧ (b.length == 0) = false ∧ a.length + 2 ≤ sizeLine ∧ rNewStrs (Txt.split a b) H Q) to te) σ H ((Txt.split a b).map V.str) := fun H1 e Q q =>
  ho H1 e _ fun H2 e2 => ⟨⟨a, rfl⟩, he H2 (e.trans e2) _ fun H3 e3 => ⟨a, b, rfl, rfl, hb, sz_of (by omega), fun p hp => q p _ (fresh_back (e2.trans e3) hp) ((e2.trans e3).trans (Ex.new hp)) upd_same⟩⟩
theorem ev_slS {tl th : TO} {z : Str} {lo hi : Option Int} (h : Ev te σ H (.str z)) (h1 : EvO tl σ H lo) (h2 : EvO th σ H hi) (hz : z.length ≤ 100000) : Ev (tSl rSlS te tl th) σ H (.str (cutS z lo hi)) := fun H1 e Q q =>
  h H1 e _ fun H2 e2 => h1 H2 (e.trans e2) _ fun H3 e3 => h2 H3 ((e.trans e2).trans e3) _ fun H4 e4 => ⟨z, rfl, sz_of hz, q H4 ((e2.trans e3).trans e4)⟩
theorem ev_intS {n : Nat} (h : Ev te σ H (.str (num n))) (hn : n < 100) : Ev (tCB (fun xs H Q => ∃ a n, xs = [V.str a] ∧ PySem.intText? a = some n ∧ a.length ≤ 640 ∧ Q (.int n) H) (tCons te tNil)) σ H (.int (n : Int)) := fun H1 e Q q =>
  h H1 e _ fun H2 e2 => ⟨num n, n, rfl, TL.int_num (by have := (numL_small n hn).1; omega), by
    have := (num_solid hn).2.1
    rw [TL.len_tl]
    omega, q H2 e2⟩
end
section
variable {P : Program} {w : World} {K : PySem.W.Frag} {mg : Str → Option Value} {base : Heap}
def spWhole : Sp := fun vs H Q _ => ∃ n m : Nat, vs = [.str (num n), .int m] ∧ n < 100 ∧ 2 ≤ m ∧ RetV (.int n) H Q
theorem ok_whole_of (T : Txt w K mg) : FOk P w K mg base 1 "whole_of" spWhole := by
  refine fok T.f_whole_of T.g_whole_of sc_whole_of (fun _ _ _ _ _ _ us hl => match us, hl with | [_, _], _ => rfl) (fun vs H Q E h => ?_) (fun cdv A outer s H vs Q E hr h => ?_)
  · obtain ⟨n, m, rfl, _⟩ := h
    rfl
  obtain ⟨n, m, rfl, hn, hm, k⟩ := h
  have nd := sc_whole_of.nd
  refine ⟨_, (pss_cons (ps_set (i := 2) nd rfl (Or.inl rfl) (pe_ifExp (pt_val (pe_m1 PySem.F.slot_str_startswith PySem.F.type_str_startswith mt_startswith (pv 0) pe_str)) (pe_slice sl_str (pv 0) (po_some pe_int) po_none) (pv 0))) (pss_cons (ps_if (PW.pt (pw_or (pt_not (pt_chain op_le op_le pe_int (pe_callB call_len_str (by rfl) T.z_len PySem.boot_len (pa_cons (pv 2) pa_nil)) (pv 1))) (pw_or1 (pt_not (pt_val (pe_callB (cr_all rfl) (by rfl) T.z_all (by decide +kernel) (pa_cons (pe_lc (own := [("sign", 3)]) (g := gName 3) rfl nd (pi_str (pv 2)) (blkOk_by (own := [("sign", 3)]) (N := N_whole_of) (sc := defScope s_whole_of) (by decide +kernel)) (fun _ _ _ _ _ => (pg_name (i := 3) nd rfl (Or.inl rfl))) (fun _ _ _ _ _ => pts_nil) (fun _ _ _ _ _ => (pe_cmpR op_in_sign (pv 3) (pe_gs T.t_DIGITS) (by rfl)))) pa_nil))))))) (pss_one (ps_ret pe_non)) pss_nil) (pss_cons (ps_if (PW.pt (pw_and (pt_cmpR op_eq (pe_ix ix_str (pv 2) pe_int (fun _ _ => rfl)) pe_str (nomark _)) (pw_and1 (pt_cmpR op_ne (pv 0) pe_str (nomark _))))) (pss_one (ps_ret pe_non)) pss_nil) (pss_one (ps_ret (pe_callTy call_int_str (by rfl) T.z_int (by decide +kernel) (pa_cons (pv 0) pa_nil))))))), ?_⟩
  obtain ⟨c, r, hc, h48, h57, hz⟩ := num_head n hn
  have hs := num_solid hn
  have hlen : (num n).length = (TL.tl (num n)).length := TL.len_tl _
  have hl1 := hs.1
  have hl2 : (num n).length ≤ 2 := by
    rw [hlen, tl_numS]
    exact (numL_small n hn).1
  have hst := starts_not hc (by omega)
  have hdg : (TL.tl (num n)).all (fun c => decide (c ∈ TL.tl digitS)) = true := by
    rw [tl_numS]
    refine List.all_eq_true.mpr fun x hx => decide_eq_true (digit_iff.mpr ?_)
    exact of_decide_eq_true (List.all_eq_true.mp (numL_small n hn).2.2 x hx)
  refine q_asg (v := .str (num n)) (ev_if (b := false) (et_is (et_B (ev_starts (ev_var rfl) ev_c)) hst) (fun h => Bool.noConfusion h) fun _ => ev_var rfl) fun H1 e1 => ?_
  refine q_when (b := false) (et_is (et_or (a := false) (b := false) (et_is (et_not (a := true) (et_is (et_test (ev_chain ev_c (ev_lenStr (ev_var rfl) (by omega)) (ev_var rfl) rv_I0 rv_I0)) (by
      rw [decide_eq_true (by omega), decide_eq_true (by omega)]
      rfl))) rfl) fun _ => et_not (a := true) (et_B ?_)) rfl) (fun h => Bool.noConfusion h) fun _ H2 e2 => ?_
  · have ev := ev_all (K := K) (bs := (TL.tl (num n)).map fun c => decide (c ∈ TL.tl digitS)) (te := tLc (iStr (tVar 2)) (gName 3) tYes (tOp _ (tVar 3) (tC (.str digitS))) [3]) (σ := [some (.str (num n)), some (.int m), some (.str (num n)), none]) (H := H1) (by
      have q := el_lcS (σ := [some (.str (num n)), some (.int m), some (.str (num n)), none]) (H := H1) (tl := tVar 2) (j := 3) (vs := [3]) (z := num n) (te := tOp _ (tVar 3) (tC (.str digitS))) (fun i => .bl (decide ((TL.tl (num n)).getD i 0 ∈ TL.tl digitS))) (ev_var rfl) (by omega) (fun _ => rfl) (fun i c H2 e2 hc => by
        have e : (TL.tl (num n)).getD i 0 = c := by
          rw [List.getD_eq_getElem?_getD, hc]
          rfl
        rw [e]
        exact ev_op (ev_var rfl) ev_c rv_inC)
      rw [TL.len_tl (num n), given_all (xs := TL.tl (num n)) (f := fun c => .bl (decide (c ∈ TL.tl digitS))) (fun i c hc => by
        rw [List.getD_eq_getElem?_getD, hc]
        rfl)] at q
      rw [List.map_map]
      exact q)
    refine ev_is ev ?_
    rw [List.all_map]
    exact congrArg V.bl hdg
  · refine q_when (b := false) (et_is (et_and (a := decide ((⟨#[c]⟩ : Str) = "0")) (b := !decide (num n = "0")) (et_test (ev_eqS (ev_op (ev_var rfl) ev_c (rv_ixS (c := c) (by omega) (atI_nat (j := 0) (by
      show (TL.tl (num n))[0]? = some c
      rw [hc]
      rfl)))) ev_c)) fun _ => et_test (ev_is (ev_op (ev_var rfl) ev_c (rv_ne rfl)) (by
        congr 2
        by_cases e : num n = "0"
        · rw [e]
          simp
        · rw [decide_eq_false e, decide_eq_false fun z => e (V.str.inj z)]))) ?_) (fun h => Bool.noConfusion h) fun _ H3 e3 => ?_
    · by_cases e0 : c = 48
      · rw [hz e0, num_zero, decide_eq_true rfl, Bool.not_true, Bool.and_false]
      · rw [decide_eq_false (fun z => e0 ?_), Bool.false_and]
        have z2 := congrArg TL.tl z
        have z3 : TL.tl ("0" : Str) = [48] := by decide +kernel
        rw [z3] at z2
        exact (List.cons.inj z2).1
    · exact s_ret (ev_intS (ev_var rfl) hn) fun H4 e4 => k H4 (((e1.trans e2).trans e3).trans e4)
/-! ### spot_of -/
theorem split_dot {a f : Str} (ha : isName a = true) (hf : isName f = true) : Txt.split (dot a f) "." = [a, f] := by
  have e : dot a f = Txt.join "." [a, f] := by
    rw [TL.join_eq]
    rfl
  rw [e]
  refine TL.split_join (s := 46) (S := []) (by decide +kernel) (by decide +kernel) (by simp) fun p hp => ?_
  simp only [List.mem_cons, List.not_mem_nil, or_false] at hp
  rcases hp with rfl | rfl
  · exact word_nodot (name_word ha)
  · exact word_nodot (name_word hf)
theorem split_word {x : Str} (hx : isWord x = true) : Txt.split x "." = [x] := by
  have e : x = Txt.join "." [x] := by
    rw [TL.join_eq]
    rfl
  conv => lhs; rw [e]
  refine TL.split_join (s := 46) (S := []) (by decide +kernel) (by decide +kernel) (by simp) fun p hp => ?_
  simp only [List.mem_cons, List.not_mem_nil, or_false] at hp
  subst hp
  exact word_nodot hx
theorem eu_tupOfL {σ : L2.St} {H : Hp} {te : TE} {xs : List V} (h : EvL te σ H xs) : EvU (tCB (fun xs H Q => ∃ p ys, xs = [.ref p] ∧ ((SqL K H p ys ∧ ∀ l, H l = none → Q (.ref l) (upd H l (.tup ys))) ∨ (SqT K H p ys ∧ Q (.ref p) H))) (tCons te tNil)) σ H xs := fun H1 e Q q =>
  h H1 e _ fun p H2 hp e2 h2 => ⟨p, xs, rfl, .inl ⟨sq_of h2, fun l hl => q l _ (fresh_back e2 hl) (e2.trans (Ex.new hl)) upd_same⟩⟩
def spSpot (K : PySem.W.Frag) : Sp := fun vs H Q _ => ∃ x : Str, vs = [.str x] ∧ ((∃ a f, x = dot a f ∧ isName a = true ∧ isName f = true ∧ RetP (TupAt K [.str a, .str f]) H Q) ∨ (isWord x = true ∧ RetP (TupAt K []) H Q))
theorem ok_spot_of (T : Txt w K mg) : FOk P w K mg base 3 "spot_of" (spSpot K) := by
  have G_is_name : FOk P w K mg base 2 "is_name" spIsName := ok_is_name T
  refine fok T.f_spot_of T.g_spot_of sc_spot_of (fun _ _ _ _ _ _ us hl => match us, hl with | [_], _ => rfl) (fun vs H Q E h => ?_) (fun cdv A outer s H vs Q E hr h => ?_)
  · obtain ⟨x, rfl, _⟩ := h
    rfl
  obtain ⟨x, rfl, k⟩ := h
  have nd := sc_spot_of.nd
  refine ⟨_, (pss_cons (ps_set (i := 1) nd rfl (Or.inl rfl) (pe_callTy call_tuple_of (by rfl) T.z_tuple (by decide +kernel) (pa_cons (pe_split (pv 0) pe_str) pa_nil))) (pss_one (ps_ret (pe_ifExp (PW.pt (pw_and (pt_cmpR op_eq (pe_callB call_len_seq (by rfl) T.z_len PySem.boot_len (pa_cons (pv 1) pa_nil)) pe_int (nomark _)) (pw_and1 (pt_val (pe_callB (cr_all rfl) (by rfl) T.z_all (by decide +kernel) (pa_cons (pe_lc (own := [("part", 2)]) (g := gName 2) rfl nd (pi_tup (pv 1)) (blkOk_by (own := [("part", 2)]) (N := N_spot_of) (sc := defScope s_spot_of) (by decide +kernel)) (fun _ _ _ _ _ => (pg_name (i := 2) nd rfl (Or.inl rfl))) (fun _ _ _ _ _ => pts_nil) (fun _ _ _ _ _ => (pe_f G_is_name (hr.mono (by omega)) (pa_cons (pv 2) pa_nil)))) pa_nil)))))) (pv 1) (pe_tup pa_nil))))), ?_⟩
  have l1 : (("." : Str).length == 0) = false := by decide +kernel
  rcases k with ⟨a, f, rfl, ha, hf, k⟩ | ⟨hw, k⟩
  · have na := word_len (name_word ha)
    have nf := word_len (name_word hf)
    have hl : (dot a f).length ≤ 90000 := by
      have := (dot_solid ha hf).2.1
      rw [TL.len_tl]
      omega
    have q := eu_tupOfL (K := K) (el_split (σ := [some (.str (dot a f)), none, none]) (H := H) (to := tVar 0) (te := tC (.str ".")) (ev_var rfl) ev_c l1 hl)
    rw [split_dot ha hf] at q
    refine q_asgU q fun p H1 hp e1 h1 => ?_
    refine s_retP (R := TupAt K [.str a, .str f]) (ep_if (b := true) (et_and (a := true) (b := true) (et_test (ev_is (ev_op (ev_lenT (ev_var rfl) (st_of h1)) ev_c (rv_eq rfl)) (show V.bl (decide (V.int 2 = V.int 2)) = V.bl true by decide +kernel))) fun _ => et_B (ev_all (K := K) (bs := [true, true]) ?_)) (fun _ => ep_imp (ep_of (ev_var (v := .ref p) rfl)) fun v H2 e2 ev => ⟨p, ev, st_of (e2 p _ h1)⟩) fun h => Bool.noConfusion h) fun v H2 e2 hv => k v H2 (e1.trans e2) hv
    refine el_lcTP (K := K) (R := fun v _ => v = .ref p) [V.bl true, V.bl true] (ep_of (ev_var rfl)) (by show 2 ≤ 40000; decide) (fun _ => rfl) fun v H2 e2 ev => ⟨p, [.str a, .str f], ev, st_of (e2 p _ h1), rfl, fun i x y hx hy => ?_⟩
    have hx2 : (i = 0 ∧ x = .str a ∧ y = .bl true) ∨ (i = 1 ∧ x = .str f ∧ y = .bl true) := by
      match i, hx, hy with
      | 0, hx, hy => exact .inl ⟨rfl, (Option.some.inj hx).symm, (Option.some.inj hy).symm⟩
      | 1, hx, hy => exact .inr ⟨rfl, (Option.some.inj hx).symm, (Option.some.inj hy).symm⟩
      | n + 2, hx, hy => simp at hx
    rcases hx2 with ⟨_, rfl, rfl⟩ | ⟨_, rfl, rfl⟩
    · exact ev_call (ea_cons (ev_var rfl) ea_nil) fun H3 e3 Q' q E' => ⟨a, rfl, by omega, by rw [ha]; exact q⟩
    · exact ev_call (ea_cons (ev_var rfl) ea_nil) fun H3 e3 Q' q E' => ⟨f, rfl, by omega, by rw [hf]; exact q⟩
  · have hx := word_len hw
    have q := eu_tupOfL (K := K) (el_split (σ := [some (.str x), none, none]) (H := H) (to := tVar 0) (te := tC (.str ".")) (ev_var rfl) ev_c l1 (by omega))
    rw [split_word hw] at q
    refine q_asgU q fun p H1 hp e1 h1 => ?_
    refine s_retP (R := TupAt K []) (ep_if (b := false) (et_and (a := false) (b := true) (et_test (ev_is (ev_op (ev_lenT (ev_var rfl) (st_of h1)) ev_c (rv_eq rfl)) (show V.bl (decide (V.int 1 = V.int 2)) = V.bl false by decide +kernel))) fun h => Bool.noConfusion h) (fun h => Bool.noConfusion h) fun _ => ep_imp (ep_tup ea_nil (by decide)) fun v H2 e2 ⟨r, ev, hr⟩ => ⟨r, ev, st_of hr⟩) fun v H2 e2 hv => k v H2 (e1.trans e2) hv
end
end K7
set_option maxHeartbeats 4000000
/-! plain_test, test_of -/
namespace K7
open PySem PySem.Spec PyProof.Rows L2 Evl
section
variable {K : PySem.W.Frag} {σ : L2.St} {H H' : Hp} {ta tb te tl : TE} {D : Ends} {tu tz : TS}
theorem ev_atL {a : Addr} {xs : List V} {v : V} {i : Int} (n : Nat) (ha : Ev ta σ H (.ref a)) (hs : SqL K H a xs) (h : xs[n]? = some v := by rfl) (hi : i = (n : Int) := by rfl) : Ev (tOp (rIxL K) ta (tC (.int i))) σ H v := by
  subst hi
  exact ev_op ha ev_c (rv_ixL hs (atI_nat h))
theorem q_unpL2 {i j : Nat} {a : Addr} {x y : V} (h : Ev te σ H (.ref a)) (hs : SqL K H a [x, y]) (k : ∀ H1, Ex H H1 → tz D ((σ.set i (some x)).set j (some y)) H1) : tSeq (tAsg te (gLst K 2 (gCons (gName i) (gCons (gName j) gNil)))) tz D σ H :=
  h H (Ex.refl H) _ fun H1 e1 => ⟨a, [x, y], rfl, ex_l e1 hs, rfl, x, [y], rfl, y, [], rfl, rfl, k H1 e1⟩
/-- (..) + u, both not empty -/
theorem ep_catU {xs ys : List V} (ha : EvU ta σ H xs) (hb : ∀ H1, Ex H H1 → EvP tb σ H1 (TupAt K ys)) (hx : xs ≠ []) (hy : ys ≠ []) (hz : xs.length + ys.length ≤ 100000) : EvP (tOp (rCatA K) ta tb) σ H (TupAt K (xs ++ ys)) := fun H1 e Q q =>
  ha H1 e _ fun p H2 hp e2 h2 => hb H2 (e.trans e2) H2 (Ex.refl H2) _ fun v H3 e3 ⟨r, ev, hr⟩ => ⟨p, r, xs, ys, rfl, ev, st_of (e3 p _ h2), hr, sz_of hz, fun z => absurd z hx, fun _ z => absurd z hy, fun _ _ o ho => q _ _ ((e2.trans e3).trans (Ex.new ho)) ⟨o, rfl, st_of upd_same⟩⟩
/-- a call with one new list -/
theorem ep_callL {sp : Sp} {xs : List V} {R : V → Hp → Prop} (h : EvL te σ H xs) (hs : ∀ p H1, Ex H H1 → H1 p = some (.lst xs) → SpP sp [.ref p] H1 R) : EvP (tCall sp [] E0 (tCons te tNil)) σ H R := fun H1 e Q q =>
  h H1 e _ fun p H2 hp e2 h2 => hs p H2 (e.trans e2) h2 H2 (Ex.refl H2) Q (fun v H3 e3 hr => q v H3 (e2.trans e3) hr) E0
theorem tupAt_dp {ds : List PyData} {xs : List V} {v : V} (h : TupAt K xs v H) (a : DpAll K H xs ds) : Dp K H v (.tuple ds) := by
  obtain ⟨p, rfl, hs⟩ := h
  exact .tup hs a
theorem bt_dp {b : Bt} {v : V} (h : TupAt K (btV b) v H) : Dp K H v (encBt b) := by
  cases b with
  | giv i => exact tupAt_dp h (.cons (.str _) (.cons (.int _) .nil))
  | set x => exact tupAt_dp h (.cons (.str _) (.cons (.str _) .nil))
  | same x y => exact tupAt_dp h (.cons (.str _) (.cons (.str _) (.cons (.str _) .nil)))
  | full x f => exact tupAt_dp h (.cons (.str _) (.cons (.str _) (.cons (.str _) .nil)))
  | wished w => exact tupAt_dp h (.cons (.str _) (.cons (.str _) .nil))
theorem ep_tupA {t : TA} {vs : List V} (h : EvA t σ H vs) (hl : vs.length ≤ 100000) : EvP (tTup t) σ H (TupAt K vs) := ep_imp (ep_tup h hl) fun v H1 e ⟨p, ev, hp⟩ => ⟨p, ev, st_of hp⟩
end
section
variable {P : Program} {w : World} {K : PySem.W.Frag} {mg : Str → Option Value} {base : Heap}
def spPlainT (K : PySem.W.Frag) : Sp := fun vs H Q _ => ∃ (p : Addr) (g : Nat) (b : Bt), vs = [.ref p] ∧ SqL K H p ((btW b).map V.str) ∧ g ≤ 3 ∧ b.ok g ∧ RetP (fun v H' => Dp K H' v (encBt b)) H Q
theorem ok_plain_test (T : Txt w K mg) : FOk P w K mg base 4 "plain_test" (spPlainT K) := by
  have G_is_name : FOk P w K mg base 2 "is_name" spIsName := ok_is_name T
  have G_is_word : FOk P w K mg base 1 "is_word" spIsWord := ok_is_word T
  have G_whole_of : FOk P w K mg base 1 "whole_of" spWhole := ok_whole_of T
  have G_spot_of : FOk P w K mg base 3 "spot_of" (spSpot K) := ok_spot_of T
  refine fok T.f_plain_test T.g_plain_test sc_plain_test (fun _ _ _ _ _ _ us hl => match us, hl with | [_], _ => rfl) (fun vs H Q E h => ?_) (fun cdv A outer s H vs Q E hr h => ?_)
  · obtain ⟨p, _, _, rfl, _⟩ := h
    rfl
  obtain ⟨p, g, b, rfl, hp, hg, hb, k⟩ := h
  have nd := sc_plain_test.nd
  refine ⟨_, (pss_cons (ps_if (PW.pt (pw_and (pt_cmpR op_eq (pe_callB call_len_seq (by rfl) T.z_len PySem.boot_len (pa_cons (pv 0) pa_nil)) pe_int (nomark _)) (pw_and (pt_cmpR op_eq (pe_ix ix_list (pv 0) pe_int (fun _ _ => rfl)) pe_str (nomark _)) (pw_and (pt_val (pe_f G_is_name (hr.mono (by omega)) (pa_cons (pe_ix ix_list (pv 0) pe_int (fun _ _ => rfl)) pa_nil))) (pw_and1 (pt_val (pe_f G_is_name (hr.mono (by omega)) (pa_cons (pe_ix ix_list (pv 0) pe_int (fun _ _ => rfl)) pa_nil)))))))) (pss_one (ps_ret (pe_tup (pa_cons pe_str (pa_cons (pe_ix ix_list (pv 0) pe_int (fun _ _ => rfl)) (pa_cons (pe_ix ix_list (pv 0) pe_int (fun _ _ => rfl)) pa_nil)))))) pss_nil) (pss_cons (ps_if (pt_cmpR op_ne (pe_callB call_len_seq (by rfl) T.z_len PySem.boot_len (pa_cons (pv 0) pa_nil)) pe_int (nomark _)) (pss_one (ps_ret pe_non)) pss_nil) (pss_cons (ps_asg (pv 0) (pg_lst rfl (pgs_cons (pg_name (i := 1) nd rfl (Or.inl rfl)) (pgs_cons (pg_name (i := 2) nd rfl (Or.inl rfl)) pgs_nil)))) (pss_cons (ps_if (pt_cmpR op_eq (pv 1) pe_str (nomark _)) (pss_cons (ps_set (i := 3) nd rfl (Or.inl rfl) (pe_f G_whole_of (hr.mono (by omega)) (pa_cons (pv 2) (pa_cons (pe_gi T.i_MOST_DIGITS) pa_nil)))) (pss_one (ps_ret (pe_ifExp (pt_cmpR op_isN (pv 3) pe_non (nomark _)) pe_non (pe_tup (pa_cons pe_str (pa_cons (pv 3) pa_nil))))))) pss_nil) (pss_cons (ps_if (pt_cmpR op_eq (pv 1) pe_str (nomark _)) (pss_cons (ps_set (i := 4) nd rfl (Or.inl rfl) (pe_f G_spot_of (hr.mono (by omega)) (pa_cons (pv 2) pa_nil))) (pss_one (ps_ret (pe_ifExp (pt_cmpR (op_eqD hr.units) (pv 4) (pe_tup pa_nil) (nomark _)) pe_non (pe_op op_catA (pe_tup (pa_cons pe_str pa_nil)) (pv 4)))))) pss_nil) (pss_cons (ps_set (i := 5) nd rfl (Or.inl rfl) (pe_or (pe_and (pe_cmpR op_eq (pv 1) pe_str (nomark _)) (pe_one (pe_f G_is_name (hr.mono (by omega)) (pa_cons (pv 2) pa_nil)))) (pe_one (pe_and (pe_cmpR op_eq (pv 1) pe_str (nomark _)) (pe_one (pe_f G_is_word (hr.mono (by omega)) (pa_cons (pv 2) pa_nil))))))) (pss_one (ps_ret (pe_ifExp (pt_val (pv 5)) (pe_tup (pa_cons (pv 1) (pa_cons (pv 2) pa_nil))) pe_non))))))))), ?_⟩
  have len2 : ∀ {H1 : Hp} {σ : L2.St} {x y : V}, SqL K H1 p [x, y] → σ[0]? = some (some (.ref p)) → Ev (tOp rEq (tCB (rLenS K) (tCons (tVar 0) tNil)) (tC (.int 3))) σ H1 (.bl false) := fun hs h0 => ev_is (ev_op (ev_len (ev_var h0) hs) ev_c (rv_eq rfl)) (show V.bl (decide (V.int 2 = V.int 3)) = V.bl false by decide +kernel)
  have ne2 : ∀ {H1 : Hp} {σ : L2.St} {x y : V}, SqL K H1 p [x, y] → σ[0]? = some (some (.ref p)) → Ev (tOp rNe (tCB (rLenS K) (tCons (tVar 0) tNil)) (tC (.int 2))) σ H1 (.bl false) := fun hs h0 => ev_is (ev_op (ev_len (ev_var h0) hs) ev_c (rv_ne rfl)) (show V.bl (!decide (V.int 2 = V.int 2)) = V.bl false by decide +kernel)
  cases b with
  | same x y =>
    have hx := name8 hb.1
    have hxw := word_len (name_word hb.1)
    have hyw := word_len (name_word hb.2)
    refine q_when (b := true) (et_is (et_and (a := true) (b := true) (et_test (ev_is (ev_op (ev_len (ev_var rfl) hp) ev_c (rv_eq rfl)) (show V.bl (decide (V.int 3 = V.int 3)) = V.bl true by decide +kernel))) fun _ => et_and (a := true) (b := true) (et_test (ev_eqY (ev_atL 1 (ev_var rfl) hp) ev_c rfl)) fun _ =>
      et_and (a := true) (b := true) (et_B (ev_call (ea_cons (ev_atL 0 (ev_var rfl) hp) ea_nil) fun H3 e3 Q' q E' => ⟨x, rfl, by omega, by rw [hb.1]; exact q⟩)) fun _ => et_B (ev_call (ea_cons (ev_atL 2 (ev_var rfl) hp) ea_nil) fun H3 e3 Q' q E' => ⟨y, rfl, by omega, by rw [hb.2]; exact q⟩)) rfl) (fun _ H1 e1 => ?_) fun h => Bool.noConfusion h
    exact s_retP (ep_tupA (K := K) (ea_cons ev_c (ea_cons (ev_atL 0 (ev_var rfl) (ex_l e1 hp)) (ea_cons (ev_atL 2 (ev_var rfl) (ex_l e1 hp)) ea_nil))) (by show 3 ≤ 100000; decide)) fun v H2 e2 hv => k v H2 (e1.trans e2) (bt_dp hv)
  | giv i =>
    have hi : i < g := hb
    refine q_when (b := false) (et_and (a := false) (b := true) (et_test (len2 hp rfl)) fun h => Bool.noConfusion h) (fun h => Bool.noConfusion h) fun _ H1 e1 => ?_
    refine q_when (b := false) (et_test (ne2 (ex_l e1 hp) rfl)) (fun h => Bool.noConfusion h) fun _ H2 e2 => ?_
    refine q_unpL2 (ev_var rfl) (ex_l (e1.trans e2) hp) fun H3 e3 => ?_
    refine q_when (b := true) (et_test (ev_eqY (ev_var rfl) ev_c rfl)) (fun _ H4 e4 => ?_) fun h => Bool.noConfusion h
    refine q_asg (v := .int i) (ev_call (ea_cons (ev_var rfl) (ea_cons ev_c ea_nil)) fun H3 e3 Q' q E' => ⟨i, 20, rfl, by omega, by omega, q⟩) fun H5 e5 => ?_
    exact s_retP (ep_if (b := false) (et_test (ev_is (ev_op (ev_var rfl) ev_c rv_isN) (congrArg V.bl (decide_eq_false (by simp))))) (fun h => Bool.noConfusion h) fun _ => ep_tupA (K := K) (ea_cons ev_c (ea_cons (ev_var rfl) ea_nil)) (by show 2 ≤ 100000; decide)) fun v H6 e6 hv => k v H6 (((((e1.trans e2).trans e3).trans e4).trans e5).trans e6) (bt_dp (b := .giv i) hv)
  | full x f =>
    refine q_when (b := false) (et_and (a := false) (b := true) (et_test (len2 hp rfl)) fun h => Bool.noConfusion h) (fun h => Bool.noConfusion h) fun _ H1 e1 => ?_
    refine q_when (b := false) (et_test (ne2 (ex_l e1 hp) rfl)) (fun h => Bool.noConfusion h) fun _ H2 e2 => ?_
    refine q_unpL2 (ev_var rfl) (ex_l (e1.trans e2) hp) fun H3 e3 => ?_
    refine q_when (b := false) (et_test (ev_eqN (ev_var rfl) ev_c (by decide +kernel))) (fun h => Bool.noConfusion h) fun _ H4 e4 => ?_
    refine q_when (b := true) (et_test (ev_eqY (ev_var rfl) ev_c rfl)) (fun _ H5 e5 => ?_) fun h => Bool.noConfusion h
    refine q_asgP (R := TupAt K [.str x, .str f]) (ep_call (ea_cons (ev_var rfl) ea_nil) fun H6 e6 Q' q E' => ⟨dot x f, rfl, .inl ⟨x, f, rfl, hb.1, hb.2, q⟩⟩) fun v H6 e6 ⟨r, ev, hr⟩ => ?_
    subst ev
    have sh : SeqAt.shaped (.tuple [.str x, .str f]) = true := by
      have z := good_tup (n := 0) (good_cons (good_name (n := 0) hb.1) (good_cons (good_name hb.2) (good_nil (m := 0))))
      unfold SeqAt.shaped
      rw [Bool.and_eq_true, decide_eq_true_iff]
      exact ⟨z.lay, Nat.le_trans z.dep (by decide)⟩
    exact s_retP (ep_if (b := false) (et_test (ev_eqU (ds := [.str x, .str f]) (ev_var rfl) (.tup hr (.cons (.str _) (.cons (.str _) .nil))) sh)) (fun h => Bool.noConfusion h) fun _ => ep_catU (xs := [.str "full"]) (ys := [.str x, .str f]) (eu_tup (ea_cons ev_c ea_nil) (by show 1 ≤ 100000; decide)) (fun H7 e7 => ep_imp (ep_of (ev_var rfl)) fun v H8 e8 ev => ⟨r, ev, ex_t (e7.trans e8) hr⟩) (by simp) (by simp) (by show 3 ≤ 100000; decide))
      fun v H7 e7 hv => k v H7 ((((((e1.trans e2).trans e3).trans e4).trans e5).trans e6).trans e7) (bt_dp (b := .full x f) hv)
  | set x =>
    have hxw := word_len (name_word hb)
    refine q_when (b := false) (et_and (a := false) (b := true) (et_test (len2 hp rfl)) fun h => Bool.noConfusion h) (fun h => Bool.noConfusion h) fun _ H1 e1 => ?_
    refine q_when (b := false) (et_test (ne2 (ex_l e1 hp) rfl)) (fun h => Bool.noConfusion h) fun _ H2 e2 => ?_
    refine q_unpL2 (ev_var rfl) (ex_l (e1.trans e2) hp) fun H3 e3 => ?_
    refine q_when (b := false) (et_test (ev_eqN (ev_var rfl) ev_c (by decide +kernel))) (fun h => Bool.noConfusion h) fun _ H4 e4 => ?_
    refine q_when (b := false) (et_test (ev_eqN (ev_var rfl) ev_c (by decide +kernel))) (fun h => Bool.noConfusion h) fun _ H5 e5 => ?_
    refine q_asg (v := .bl true) (ev_is (ev_orV (a := true) (b := false) (ev_is (ev_andV (a := true) (b := true) (ev_eqY (ev_var rfl) ev_c rfl) fun _ => ev_call (ea_cons (ev_var rfl) ea_nil) fun H6 e6 Q' q E' => ⟨x, rfl, by omega, by rw [show isName x = true from hb]; exact q⟩) rfl) fun h => Bool.noConfusion h) rfl) fun H6 e6 => ?_
    exact s_retP (ep_if (b := true) (et_B (ev_var rfl)) (fun _ => ep_tupA (K := K) (ea_cons (ev_var rfl) (ea_cons (ev_var rfl) ea_nil)) (by show 2 ≤ 100000; decide)) fun h => Bool.noConfusion h) fun v H7 e7 hv => k v H7 ((((((e1.trans e2).trans e3).trans e4).trans e5).trans e6).trans e7) (bt_dp (b := .set x) hv)
  | wished x =>
    have hxw := word_len (show isWord x = true from hb)
    refine q_when (b := false) (et_and (a := false) (b := true) (et_test (len2 hp rfl)) fun h => Bool.noConfusion h) (fun h => Bool.noConfusion h) fun _ H1 e1 => ?_
    refine q_when (b := false) (et_test (ne2 (ex_l e1 hp) rfl)) (fun h => Bool.noConfusion h) fun _ H2 e2 => ?_
    refine q_unpL2 (ev_var rfl) (ex_l (e1.trans e2) hp) fun H3 e3 => ?_
    refine q_when (b := false) (et_test (ev_eqN (ev_var rfl) ev_c (by decide +kernel))) (fun h => Bool.noConfusion h) fun _ H4 e4 => ?_
    refine q_when (b := false) (et_test (ev_eqN (ev_var rfl) ev_c (by decide +kernel))) (fun h => Bool.noConfusion h) fun _ H5 e5 => ?_
    refine q_asg (v := .bl true) (ev_is (ev_orV (a := false) (b := true) (ev_is (ev_andV (a := false) (b := true) (ev_eqN (ev_var rfl) ev_c (by decide +kernel)) fun h => Bool.noConfusion h) rfl) fun _ => ev_is (ev_andV (a := true) (b := true) (ev_eqY (ev_var rfl) ev_c rfl) fun _ => ev_call (ea_cons (ev_var rfl) ea_nil) fun H6 e6 Q' q E' => ⟨x, rfl, by omega, by rw [show isWord x = true from hb]; exact q⟩) rfl) rfl) fun H6 e6 => ?_
    exact s_retP (ep_if (b := true) (et_B (ev_var rfl)) (fun _ => ep_tupA (K := K) (ea_cons (ev_var rfl) (ea_cons (ev_var rfl) ea_nil)) (by show 2 ≤ 100000; decide)) fun h => Bool.noConfusion h) fun v H7 e7 hv => k v H7 ((((((e1.trans e2).trans e3).trans e4).trans e5).trans e6).trans e7) (bt_dp (b := .wished x) hv)
/-! ### test_of -/
theorem cut_from {xs : List V} {j : Nat} (h : j ≤ xs.length) : cutV xs (some (j : Int)) none = xs.drop j := by
  unfold cutV
  rw [HT.sIx_nat, HT.sIx_none, Nat.min_eq_left h, List.take_of_length_le (by rw [List.length_drop]; omega)]
theorem bt_head {g : Nat} {b : Bt} (h : b.ok g) : ∃ x r, btW b = x :: r ∧ x ≠ "not" := by
  cases b with
  | giv i => exact ⟨_, _, rfl, by decide +kernel⟩
  | set x => exact ⟨_, _, rfl, by decide +kernel⟩
  | full x f => exact ⟨_, _, rfl, by decide +kernel⟩
  | wished w => exact ⟨_, _, rfl, by decide +kernel⟩
  | same x y => exact ⟨_, _, rfl, name_ne h.1⟩
def spTestOf (K : PySem.W.Frag) : Sp := fun vs H Q _ => ∃ (p : Addr) (g : Nat) (t : Tst), vs = [.ref p] ∧ SqL K H p ((tstW t).map V.str) ∧ g ≤ 3 ∧ t.ok g ∧ RetP (fun v H' => Dp K H' v (encT t)) H Q
theorem ok_test_of (T : Txt w K mg) : FOk P w K mg base 5 "test_of" (spTestOf K) := by
  have G_plain_test : FOk P w K mg base 4 "plain_test" (spPlainT K) := ok_plain_test T
  refine fok T.f_test_of T.g_test_of sc_test_of (fun _ _ _ _ _ _ us hl => match us, hl with | [_], _ => rfl) (fun vs H Q E h => ?_) (fun cdv A outer s H vs Q E hr h => ?_)
  · obtain ⟨p, _, _, rfl, _⟩ := h
    rfl
  obtain ⟨p, g, t, rfl, hp, hg, ht, k⟩ := h
  have nd := sc_test_of.nd
  refine ⟨_, (pss_cons (ps_set (i := 1) nd rfl (Or.inl rfl) pe_int) (pss_cons (ps_while PassesOwn.never (PW.pt (pw_and (pt_cmpR op_lt (pv 1) (pe_callB call_len_seq (by rfl) T.z_len PySem.boot_len (pa_cons (pv 0) pa_nil)) (nomark _)) (pw_and1 (pt_cmpR op_eq (pe_ix ix_list (pv 0) (pv 1) (fun _ _ => rfl)) pe_str (nomark _))))) (pss_one (ps_aug (i := 1) nd rfl (Or.inl rfl) pe_int ip_add))) (pss_cons (ps_set (i := 2) nd rfl (Or.inl rfl) (pe_f G_plain_test (hr.mono (by omega)) (pa_cons (pe_slice sl_list (pv 0) (po_some (pv 1)) po_none) pa_nil))) (pss_cons (ps_if (PW.pt (pw_or (pt_cmpR op_isN (pv 2) pe_non (nomark _)) (pw_or1 (pt_cmpR op_gt (pv 1) (pe_gi T.i_MOST_NOTS_texts) (nomark _))))) (pss_one (ps_ret pe_non)) pss_nil) (pss_cons (ps_for PassesOwn.never rfl (pi_range1 (by rfl) T.z_range (pa_cons (pv 1) pa_nil)) (pg_name (i := 3) nd rfl (Or.inl rfl)) (pss_one (ps_set (i := 2) nd rfl (Or.inl rfl) (pe_tup (pa_cons pe_str (pa_cons (pv 2) pa_nil)))))) (pss_one (ps_ret (pv 2)))))))), ?_⟩
  have hn := ht.1
  obtain ⟨x, r, hbt, hx⟩ := bt_head ht.2
  have hlen : (tstW t).length = t.nots + (r.length + 1) := by
    unfold tstW
    rw [List.length_append, List.length_replicate, hbt]
    rfl
  have hrl : r.length ≤ 10 := by
    have z : (btW t.bt).length ≤ 10 := by
      cases t.bt <;> simp [btW]
    rw [hbt, List.length_cons] at z
    omega
  refine q_asg ev_c fun H1 e1 => ?_
  refine q_while (fun m σ' H' => ∃ j : Nat, m = t.nots - j ∧ j ≤ t.nots ∧ σ' = [some (.ref p), some (.int j), none, none] ∧ Ex H H') t.nots ⟨0, rfl, Nat.zero_le _, rfl, e1⟩ ?_
  rintro m σ' H' ⟨j, rfl, hj, rfl, e⟩
  have hp' := ex_l e hp
  have hcond : ∀ b : Bool, (b = decide (j < t.nots)) → EvT (tAnd (tTest (tOp (rI0 fun i j => .bl (decide (i < j))) (tVar 1) (tCB (rLenS K) (tCons (tVar 0) tNil)))) (tTest (tOp rEq (tOp (rIxL K) (tVar 0) (tVar 1)) (tC (.str "not"))))) [some (.ref p), some (.int j), none, none] H' b := by
    rintro b rfl
    refine et_is (et_and (a := true) (b := decide (j < t.nots)) (et_is (et_test (ev_op (ev_var rfl) (ev_len (ev_var rfl) hp') rv_I0)) (decide_eq_true (by rw [List.length_map, hlen]; omega))) fun _ => ?_) (Bool.true_and _)
    by_cases h : j < t.nots
    · have hat : ((tstW t).map V.str)[j]? = some (V.str "not") := by
        rw [List.getElem?_map]
        unfold tstW
        rw [List.getElem?_append_left (by rw [List.length_replicate]; exact h), List.getElem?_replicate, if_pos h]
        rfl
      rw [decide_eq_true h]
      exact et_test (ev_eqY (ev_op (ev_var rfl) (ev_var rfl) (rv_ixL hp' (atI_nat hat))) ev_c rfl)
    · have ej : j = t.nots := by omega
      have hat : ((tstW t).map V.str)[j]? = some (V.str x) := by
        rw [List.getElem?_map]
        unfold tstW
        rw [List.getElem?_append_right (by rw [List.length_replicate]; omega), List.length_replicate, ej, Nat.sub_self, hbt]
        rfl
      rw [decide_eq_false h]
      exact et_test (ev_eqN (ev_op (ev_var rfl) (ev_var rfl) (rv_ixL hp' (atI_nat hat))) ev_c hx)
  by_cases hlt : j < t.nots
  · refine ⟨true, hcond true (decide_eq_true hlt).symm, fun _ H2 e2 => ⟨fun σ2 H3 => σ2 = [some (.ref p), some (.int (j + 1 : Nat)), none, none] ∧ Ex H H3, fun σ2 H3 ⟨h1, h2⟩ => ⟨t.nots - (j + 1), by omega, j + 1, rfl, hlt, h1, h2⟩, ?_⟩, fun h => Bool.noConfusion h⟩
    exact s_aug (a := (j : Int)) (b := 1) rfl ev_c fun H3 e3 => ⟨rfl, (e.trans e2).trans e3⟩
  · have ej : j = t.nots := by omega
    subst ej
    refine ⟨false, hcond false (decide_eq_false hlt).symm, fun h => Bool.noConfusion h, fun _ H2 e2 => ?_⟩
    have e02 := e.trans e2
    have hdrop : ((tstW t).map V.str).drop t.nots = (btW t.bt).map V.str := by
      rw [← List.map_drop]
      unfold tstW
      rw [List.drop_append_of_le_length (by rw [List.length_replicate]; exact Nat.le_refl _), List.drop_of_length_le (by rw [List.length_replicate]; exact Nat.le_refl _), List.nil_append]
    have hsl := el_sl (K := K) (σ := [some (.ref p), some (.int t.nots), none, none]) (H := H2) (te := tVar 0) (tl := tPart (tVar 1)) (th := tNoPart) (ev_var rfl) (eo_some (i := (t.nots : Int)) (ev_var rfl)) eo_none (ex_l e02 hp)
    rw [cut_from (by rw [List.length_map, hlen]; omega), hdrop] at hsl
    refine q_asgP (R := fun v H' => Dp K H' v (encBt t.bt)) (ep_callL hsl fun sp H3 e3 h3 H4 e4 Q' q E' => ⟨sp, g, t.bt, rfl, sq_of (e4 sp _ h3), hg, ht.2, q⟩) fun v H3 e3 hv => ?_
    obtain ⟨bp, rfl, hbs⟩ := dp_bt hv
    refine q_when (b := false) (et_or (a := false) (b := false) (et_test (ev_is (ev_op (ev_var rfl) ev_c rv_isN) (congrArg V.bl (decide_eq_false (by simp))))) fun _ => et_is (et_test (ev_op (ev_var rfl) ev_c rv_I0)) (decide_eq_false (by show ¬ ((20 : Int) < _); omega))) (fun h => Bool.noConfusion h) fun _ H4 e4 => ?_
    refine q_forR1 (n := (t.nots : Int)) (ea_cons (ev_var rfl) ea_nil) ⟨by omega, by omega⟩ (fun i σ2 H5 => ∃ u y, σ2 = [some (.ref p), some (.int t.nots), some u, y] ∧ Ex H H5 ∧ Dp K H5 u (encN i (encBt t.bt))) (fun H5 e5 => ⟨_, _, rfl, ((e02.trans e3).trans e4).trans e5, same_dp (e4.trans e5) hv⟩) (fun i σ2 H5 hi p2 => ?_) (fun σ2 H5 p2 => ?_)
    · obtain ⟨u, y, rfl, e5, hu⟩ := p2
      refine s_asgU (eu_tup (ea_cons ev_c (ea_cons (ev_var rfl) ea_nil)) (by show 2 ≤ 100000; decide)) fun r6 H6 hr6 e6 h6 => ?_
      exact ⟨_, _, rfl, e5.trans e6, .tup (st_of h6) (.cons (.str _) (.cons (same_dp e6 hu) .nil))⟩
    · obtain ⟨u, y, rfl, e5, hu⟩ := p2
      exact s_ret (ev_var rfl) fun H6 e6 => k u H6 (e5.trans e6) (same_dp e6 hu)
end
end K7
set_option maxHeartbeats 4000000
/-! filled_of, statement_of, head_of -/
namespace K7
open PySem PySem.Spec PyProof.Rows L2 Evl
/-! ### the words of a line -/
theorem dot_noname (x f : Str) : isName (dot x f) = false := by
  cases q : isName (dot x f) with
  | false => rfl
  | true =>
    have z := word_nodot (name_word q)
    rw [tl_dot] at z
    exact absurd (List.mem_append_right _ List.mem_cons_self) z
theorem dot_ne (x f y : Str) (h : (TL.tl y).all (fun c => decide (c ≠ 46)) = true := by decide +kernel) : dot x f ≠ y := fun e => by
  have z : 46 ∈ TL.tl y := by
    rw [← e, tl_dot]
    exact List.mem_append_right _ List.mem_cons_self
  exact of_decide_eq_true (List.all_eq_true.mp h 46 z) rfl
theorem bt_solid {g : Nat} (hg : g ≤ 3) {b : Bt} (h : b.ok g) : ∀ x ∈ btW b, Solid x := by
  have lit : ∀ {x : Str}, isWord x = true → Solid x := fun h => word_solid h
  have l1 : isWord "given" = true := by decide +kernel
  have l2 : isWord "set" = true := by decide +kernel
  have l3 : isWord "is" = true := by decide +kernel
  have l4 : isWord "full" = true := by decide +kernel
  have l5 : isWord "wished" = true := by decide +kernel
  intro x hx
  cases b with
  | giv i =>
    have z : i < g := h
    simp only [btW, List.mem_cons, List.not_mem_nil, or_false] at hx
    rcases hx with rfl | rfl
    · exact lit l1
    · exact num_solid (by omega)
  | set y =>
    simp only [btW, List.mem_cons, List.not_mem_nil, or_false] at hx
    rcases hx with rfl | rfl
    · exact lit l2
    · exact name_solid h
  | same y z =>
    simp only [btW, List.mem_cons, List.not_mem_nil, or_false] at hx
    rcases hx with rfl | rfl | rfl
    · exact name_solid h.1
    · exact lit l3
    · exact name_solid h.2
  | full y z =>
    simp only [btW, List.mem_cons, List.not_mem_nil, or_false] at hx
    rcases hx with rfl | rfl
    · exact lit l4
    · exact dot_solid h.1 h.2
  | wished y =>
    simp only [btW, List.mem_cons, List.not_mem_nil, or_false] at hx
    rcases hx with rfl | rfl
    · exact lit l5
    · exact word_solid h
theorem tst_solid {g : Nat} (hg : g ≤ 3) {t : Tst} (h : t.ok g) : ∀ x ∈ tstW t, Solid x := by
  intro x hx
  rcases List.mem_append.mp hx with hx | hx
  · rw [(List.mem_replicate.mp hx).2]
    exact word_solid (by decide +kernel)
  · exact bt_solid hg h.2 x hx
theorem pln_solid {g : Nat} (hg : g ≤ 3) {p : Pln} (h : p.ok g) : ∀ x ∈ plnW p, Solid x := by
  have s1 : Solid "=" := ⟨by decide +kernel, by decide +kernel, by decide +kernel⟩
  have s2 : Solid "~" := ⟨by decide +kernel, by decide +kernel, by decide +kernel⟩
  have lit : ∀ {x : Str}, isWord x = true → Solid x := fun h => word_solid h
  have w1 : isWord "make" = true := by decide +kernel
  have w2 : isWord "keep" = true := by decide +kernel
  have w3 : isWord "drop" = true := by decide +kernel
  have w4 : isWord "wish" = true := by decide +kernel
  have w5 : isWord "cut" = true := by decide +kernel
  have w6 : isWord "say" = true := by decide +kernel
  have w7 : isWord "ask" = true := by decide +kernel
  intro x hx
  cases p with
  | make y =>
    simp only [plnW, List.mem_cons, List.not_mem_nil, or_false] at hx
    rcases hx with rfl | rfl
    · exact lit w1
    · exact name_solid h
  | keep y =>
    simp only [plnW, List.mem_cons, List.not_mem_nil, or_false] at hx
    rcases hx with rfl | rfl
    · exact lit w2
    · exact name_solid h
  | drop y =>
    simp only [plnW, List.mem_cons, List.not_mem_nil, or_false] at hx
    rcases hx with rfl | rfl
    · exact lit w3
    · exact name_solid h
  | wish y z =>
    simp only [plnW, List.mem_cons, List.not_mem_nil, or_false] at hx
    rcases hx with rfl | rfl | rfl
    · exact lit w4
    · exact name_solid h.1
    · exact word_solid h.2
  | name y z =>
    simp only [plnW, List.mem_cons, List.not_mem_nil, or_false] at hx
    rcases hx with rfl | rfl | rfl
    · exact name_solid h.1
    · exact s1
    · exact name_solid h.2
  | hold y f z =>
    simp only [plnW, List.mem_cons, List.not_mem_nil, or_false] at hx
    rcases hx with rfl | rfl | rfl
    · exact dot_solid h.1 h.2.1
    · exact s1
    · exact name_solid h.2.2
  | weak y f z =>
    simp only [plnW, List.mem_cons, List.not_mem_nil, or_false] at hx
    rcases hx with rfl | rfl | rfl
    · exact dot_solid h.1 h.2.1
    · exact s2
    · exact name_solid h.2.2
  | cut y f =>
    simp only [plnW, List.mem_cons, List.not_mem_nil, or_false] at hx
    rcases hx with rfl | rfl
    · exact lit w5
    · exact dot_solid h.1 h.2
  | take z y f =>
    simp only [plnW, List.mem_cons, List.not_mem_nil, or_false] at hx
    rcases hx with rfl | rfl | rfl
    · exact name_solid h.1
    · exact s1
    · exact dot_solid h.2.1 h.2.2
  | say y =>
    simp only [plnW, List.mem_cons, List.not_mem_nil, or_false] at hx
    rcases hx with rfl | rfl
    · exact lit w6
    · exact word_solid h
  | ask t =>
    rcases List.mem_cons.mp hx with rfl | hx
    · exact lit w7
    · exact tst_solid hg h x hx
theorem head_solid {g : Nat} (hg : g ≤ 3) {s : Stm} (h : okS g s) : ∀ x ∈ headW s, Solid x := by
  intro x hx
  cases s with
  | pln p => exact pln_solid hg h x hx
  | iff t y n =>
    rcases List.mem_cons.mp hx with rfl | hx
    · exact word_solid (by decide +kernel)
    · exact tst_solid hg h.1 x hx
  | rep k b =>
    have z : k ≤ 12 := h.1
    simp only [headW, List.mem_cons, List.not_mem_nil, or_false] at hx
    rcases hx with rfl | rfl
    · exact word_solid (by decide +kernel)
    · exact num_solid (by omega)
/-- a line of words is read back as these words -/
theorem split_jn {ws : List Str} (hn : ws ≠ []) (h : ∀ x ∈ ws, Solid x) : Txt.split (jn ws) " " = ws := by
  have e : jn ws = Txt.join " " ws := by
    rw [TL.join_eq]
    rfl
  rw [e]
  refine TL.split_join (s := 32) (S := []) (by decide +kernel) (by decide +kernel) hn fun p hp hc => ?_
  have := (h p hp).2.2 32 hc
  omega
theorem head_two (s : Stm) : ∃ a b r, headW s = a :: b :: r := by
  have ht : ∀ t : Tst, ∃ b r, tstW t = b :: r := fun t => by
    cases q : tstW t with
    | nil =>
      unfold tstW at q
      exact absurd (List.append_eq_nil_iff.mp q).2 (bt_kw_ne t.bt)
    | cons b r => exact ⟨b, r, rfl⟩
  cases s with
  | iff t y n =>
    obtain ⟨b, r, e⟩ := ht t
    exact ⟨_, b, r, by rw [headW, e]⟩
  | rep k b => exact ⟨_, _, _, rfl⟩
  | pln p =>
    cases p with
    | ask t =>
      obtain ⟨b, r, e⟩ := ht t
      exact ⟨_, b, r, by rw [headW, plnW, e]⟩
    | _ => exact ⟨_, _, _, rfl⟩
section
variable {P : Program} {w : World} {K : PySem.W.Frag} {mg : Str → Option Value} {base : Heap}
theorem pln_dp {p : Pln} {u : V} {v : V} {H : Hp} (h : TupAt K (plnV u p) v H) (ha : askOf K H u p) : Dp K H v (encP p) := by
  cases p with
  | make x => exact tupAt_dp h (.cons (.str _) (.cons (.str _) .nil))
  | keep x => exact tupAt_dp h (.cons (.str _) (.cons (.str _) .nil))
  | drop x => exact tupAt_dp h (.cons (.str _) (.cons (.str _) .nil))
  | wish x z => exact tupAt_dp h (.cons (.str _) (.cons (.str _) (.cons (.str _) .nil)))
  | name x z => exact tupAt_dp h (.cons (.str _) (.cons (.str _) (.cons (.str _) .nil)))
  | hold x f z => exact tupAt_dp h (.cons (.str _) (.cons (.str _) (.cons (.str _) (.cons (.str _) .nil))))
  | weak x f z => exact tupAt_dp h (.cons (.str _) (.cons (.str _) (.cons (.str _) (.cons (.str _) .nil))))
  | take x f z => exact tupAt_dp h (.cons (.str _) (.cons (.str _) (.cons (.str _) (.cons (.str _) .nil))))
  | cut x z => exact tupAt_dp h (.cons (.str _) (.cons (.str _) (.cons (.str _) .nil)))
  | say x => exact tupAt_dp h (.cons (.str _) (.cons (.str _) .nil))
  | ask t => exact tupAt_dp h (.cons (.str _) (.cons ha .nil))
theorem sh2 {x f : Str} (hx : isName x = true) (hf : isName f = true) : SeqAt.shaped (.tuple [.str x, .str f]) = true := by
  have z := good_tup (n := 0) (good_cons (good_name (n := 0) hx) (good_cons (good_name hf) (good_nil (m := 0))))
  unfold SeqAt.shaped
  rw [Bool.and_eq_true, decide_eq_true_iff]
  exact ⟨z.lay, Nat.le_trans z.dep (by decide)⟩
theorem ep_catP {σ : L2.St} {H : Hp} {ta tb : TE} {xs ys : List V} (ha : EvP ta σ H (TupAt K xs)) (hb : EvP tb σ H (TupAt K ys)) (hx : xs ≠ []) (hy : ys ≠ []) (hz : xs.length + ys.length ≤ 100000) : EvP (tOp (rCatA K) ta tb) σ H (TupAt K (xs ++ ys)) := fun H1 e Q q =>
  ha H1 e _ fun v H2 e2 ⟨p, ev, hp⟩ => hb H2 (e.trans e2) _ fun u H3 e3 ⟨r, eu, hr⟩ => ⟨p, r, xs, ys, ev, eu, ex_t e3 hp, hr, sz_of hz, fun z => absurd z hx, fun _ z => absurd z hy, fun _ _ o ho => q _ _ ((e2.trans e3).trans (Ex.new ho)) ⟨o, rfl, st_of upd_same⟩⟩
theorem ep_varT {σ : L2.St} {H : Hp} {i : Nat} {r : Addr} {xs : List V} (h : σ[i]? = some (some (.ref r))) (hs : SqT K H r xs) : EvP (tVar i) σ H (TupAt K xs) := ep_imp (ep_of (ev_var h)) fun v H1 e ev => ⟨r, ev, ex_t e hs⟩
/-- the statements with a sign between two sides -/
def Fill : Pln → Prop
  | .name _ _ | .hold _ _ _ | .weak _ _ _ | .take _ _ _ => True
  | _ => False
def spFilled (K : PySem.W.Frag) : Sp := fun vs H Q _ => ∃ (l sg r : Str) (p : Pln) (g : Nat), vs = [.str l, .str sg, .str r] ∧ Fill p ∧ plnW p = [l, sg, r] ∧ p.ok g ∧ RetP (fun v H' => Dp K H' v (encP p)) H Q
theorem ok_filled_of (T : Txt w K mg) : FOk P w K mg base 4 "filled_of" (spFilled K) := by
  have G_is_name : FOk P w K mg base 2 "is_name" spIsName := ok_is_name T
  have G_spot_of : FOk P w K mg base 3 "spot_of" (spSpot K) := ok_spot_of T
  refine fok T.f_filled_of T.g_filled_of sc_filled_of (fun _ _ _ _ _ _ us hl => match us, hl with | [_, _, _], _ => rfl) (fun vs H Q E h => ?_) (fun cdv A outer s H vs Q E hr h => ?_)
  · obtain ⟨l, sg, r, p, _, rfl, _⟩ := h
    rfl
  obtain ⟨l, sg, r, p, g, rfl, hf, hw, hp, k⟩ := h
  have nd := sc_filled_of.nd
  refine ⟨_, (pss_cons (ps_set (i := 3) nd rfl (Or.inl rfl) (pe_f G_spot_of (hr.mono (by omega)) (pa_cons (pv 0) pa_nil))) (pss_cons (ps_if (pt_cmpR (op_neD hr.units) (pv 3) (pe_tup pa_nil) (nomark _)) (pss_one (ps_ret (pe_ifExp (pt_val (pe_f G_is_name (hr.mono (by omega)) (pa_cons (pv 2) pa_nil))) (pe_op op_catA (pe_op op_catA (pe_tup (pa_cons (pe_ifExp (pt_cmpR op_eq (pv 1) pe_str (nomark _)) pe_str pe_str) pa_nil)) (pv 3)) (pe_tup (pa_cons (pv 2) pa_nil))) pe_non))) pss_nil) (pss_cons (ps_if (PW.pt (pw_or (pt_cmpR op_ne (pv 1) pe_str (nomark _)) (pw_or1 (pt_not (pt_val (pe_f G_is_name (hr.mono (by omega)) (pa_cons (pv 0) pa_nil))))))) (pss_one (ps_ret pe_non)) pss_nil) (pss_cons (ps_if (pt_val (pe_f G_is_name (hr.mono (by omega)) (pa_cons (pv 2) pa_nil))) (pss_one (ps_ret (pe_tup (pa_cons pe_str (pa_cons (pv 0) (pa_cons (pv 2) pa_nil)))))) pss_nil) (pss_cons (ps_set (i := 4) nd rfl (Or.inl rfl) (pe_f G_spot_of (hr.mono (by omega)) (pa_cons (pv 2) pa_nil))) (pss_one (ps_ret (pe_ifExp (pt_cmpR (op_eqD hr.units) (pv 4) (pe_tup pa_nil) (nomark _)) pe_non (pe_op op_catA (pe_tup (pa_cons pe_str (pa_cons (pv 0) pa_nil))) (pv 4)))))))))), ?_⟩
  have nodots : ∀ {a : Str}, isName a = true → a.length ≤ 1000 := fun h => by
    have := word_len (name_word h)
    omega
  cases p with
  | hold x f y =>
    simp only [plnW, List.cons.injEq, and_true] at hw
    obtain ⟨rfl, rfl, rfl⟩ := hw
    refine q_asgP (R := TupAt K [.str x, .str f]) (ep_call (ea_cons (ev_var rfl) ea_nil) fun H6 e6 Q' q E' => ⟨dot x f, rfl, .inl ⟨x, f, rfl, hp.1, hp.2.1, q⟩⟩) fun v H1 e1 ⟨o, ev, ho⟩ => ?_
    subst ev
    refine q_when (b := true) (et_test (ev_neU (ds := [.str x, .str f]) (ev_var rfl) (.tup ho (.cons (.str _) (.cons (.str _) .nil))) (sh2 hp.1 hp.2.1))) (fun _ H2 e2 => ?_) fun h => Bool.noConfusion h
    refine s_retP (ep_if (b := true) (et_B (ev_call (ea_cons (ev_var rfl) ea_nil) fun H3 e3 Q' q E' => ⟨y, rfl, nodots hp.2.2, by rw [hp.2.2]; exact q⟩)) (fun _ => ep_catP (xs := [.str "hold", .str x, .str f]) (ys := [.str y]) (ep_catP (xs := [.str "hold"]) (ys := [.str x, .str f]) (ep_tupA (ea_cons (ev_if (b := true) (et_test (ev_eqY (ev_var rfl) ev_c rfl)) (fun _ => ev_c) fun h => Bool.noConfusion h) ea_nil) (by show 1 ≤ 100000; decide)) (ep_varT rfl (ex_t e2 ho)) (by simp) (by simp) (by show 3 ≤ 100000; decide)) (ep_tupA (ea_cons (ev_var rfl) ea_nil) (by show 1 ≤ 100000; decide)) (by simp) (by simp) (by show 4 ≤ 100000; decide)) fun h => Bool.noConfusion h)
      fun v H3 e3 hv => k v H3 ((e1.trans e2).trans e3) (pln_dp (p := .hold x f y) (u := .non) hv trivial)
  | weak x f y =>
    simp only [plnW, List.cons.injEq, and_true] at hw
    obtain ⟨rfl, rfl, rfl⟩ := hw
    refine q_asgP (R := TupAt K [.str x, .str f]) (ep_call (ea_cons (ev_var rfl) ea_nil) fun H6 e6 Q' q E' => ⟨dot x f, rfl, .inl ⟨x, f, rfl, hp.1, hp.2.1, q⟩⟩) fun v H1 e1 ⟨o, ev, ho⟩ => ?_
    subst ev
    refine q_when (b := true) (et_test (ev_neU (ds := [.str x, .str f]) (ev_var rfl) (.tup ho (.cons (.str _) (.cons (.str _) .nil))) (sh2 hp.1 hp.2.1))) (fun _ H2 e2 => ?_) fun h => Bool.noConfusion h
    refine s_retP (ep_if (b := true) (et_B (ev_call (ea_cons (ev_var rfl) ea_nil) fun H3 e3 Q' q E' => ⟨y, rfl, nodots hp.2.2, by rw [hp.2.2]; exact q⟩)) (fun _ => ep_catP (xs := [.str "weak", .str x, .str f]) (ys := [.str y]) (ep_catP (xs := [.str "weak"]) (ys := [.str x, .str f]) (ep_tupA (ea_cons (ev_if (b := false) (et_test (ev_eqN (ev_var rfl) ev_c (by decide +kernel))) (fun h => Bool.noConfusion h) fun _ => ev_c) ea_nil) (by show 1 ≤ 100000; decide)) (ep_varT rfl (ex_t e2 ho)) (by simp) (by simp) (by show 3 ≤ 100000; decide)) (ep_tupA (ea_cons (ev_var rfl) ea_nil) (by show 1 ≤ 100000; decide)) (by simp) (by simp) (by show 4 ≤ 100000; decide)) fun h => Bool.noConfusion h)
      fun v H3 e3 hv => k v H3 ((e1.trans e2).trans e3) (pln_dp (p := .weak x f y) (u := .non) hv trivial)
  | name x y =>
    simp only [plnW, List.cons.injEq, and_true] at hw
    obtain ⟨rfl, rfl, rfl⟩ := hw
    refine q_asgP (R := TupAt K []) (ep_call (ea_cons (ev_var rfl) ea_nil) fun H6 e6 Q' q E' => ⟨x, rfl, .inr ⟨name_word hp.1, q⟩⟩) fun v H1 e1 ⟨o, ev, ho⟩ => ?_
    subst ev
    refine q_when (b := false) (et_test (ev_neU (ds := []) (ev_var rfl) (.tup ho .nil) (by decide +kernel))) (fun h => Bool.noConfusion h) fun _ H2 e2 => ?_
    refine q_when (b := false) (et_or (a := false) (b := false) (et_test (ev_is (ev_op (ev_var rfl) ev_c (rv_ne rfl)) (by decide +kernel))) fun _ => et_not (a := true) (et_B (ev_call (ea_cons (ev_var rfl) ea_nil) fun H3 e3 Q' q E' => ⟨x, rfl, nodots hp.1, by rw [hp.1]; exact q⟩))) (fun h => Bool.noConfusion h) fun _ H3 e3 => ?_
    refine q_when (b := true) (et_B (ev_call (ea_cons (ev_var rfl) ea_nil) fun H3 e3 Q' q E' => ⟨y, rfl, nodots hp.2, by rw [hp.2]; exact q⟩)) (fun _ H4 e4 => ?_) fun h => Bool.noConfusion h
    exact s_retP (ep_tupA (K := K) (ea_cons ev_c (ea_cons (ev_var rfl) (ea_cons (ev_var rfl) ea_nil))) (by show 3 ≤ 100000; decide)) fun v H5 e5 hv => k v H5 ((((e1.trans e2).trans e3).trans e4).trans e5) (pln_dp (p := .name x y) (u := .non) hv trivial)
  | take z x f =>
    simp only [plnW, List.cons.injEq, and_true] at hw
    obtain ⟨rfl, rfl, rfl⟩ := hw
    refine q_asgP (R := TupAt K []) (ep_call (ea_cons (ev_var rfl) ea_nil) fun H6 e6 Q' q E' => ⟨z, rfl, .inr ⟨name_word hp.1, q⟩⟩) fun v H1 e1 ⟨o, ev, ho⟩ => ?_
    subst ev
    refine q_when (b := false) (et_test (ev_neU (ds := []) (ev_var rfl) (.tup ho .nil) (by decide +kernel))) (fun h => Bool.noConfusion h) fun _ H2 e2 => ?_
    refine q_when (b := false) (et_or (a := false) (b := false) (et_test (ev_is (ev_op (ev_var rfl) ev_c (rv_ne rfl)) (by decide +kernel))) fun _ => et_not (a := true) (et_B (ev_call (ea_cons (ev_var rfl) ea_nil) fun H3 e3 Q' q E' => ⟨z, rfl, nodots hp.1, by rw [hp.1]; exact q⟩))) (fun h => Bool.noConfusion h) fun _ H3 e3 => ?_
    have hdl : (dot x f).length ≤ 1000 := by
      have := (dot_solid hp.2.1 hp.2.2).2.1
      rw [TL.len_tl]
      omega
    refine q_when (b := false) (et_B (ev_call (ea_cons (ev_var rfl) ea_nil) fun H3 e3 Q' q E' => ⟨dot x f, rfl, hdl, by rw [dot_noname]; exact q⟩)) (fun h => Bool.noConfusion h) fun _ H4 e4 => ?_
    refine q_asgP (R := TupAt K [.str x, .str f]) (ep_call (ea_cons (ev_var rfl) ea_nil) fun H6 e6 Q' q E' => ⟨dot x f, rfl, .inl ⟨x, f, rfl, hp.2.1, hp.2.2, q⟩⟩) fun v H5 e5 ⟨o2, ev, ho2⟩ => ?_
    subst ev
    exact s_retP (ep_if (b := false) (et_test (ev_eqU (ds := [.str x, .str f]) (ev_var rfl) (.tup ho2 (.cons (.str _) (.cons (.str _) .nil))) (sh2 hp.2.1 hp.2.2))) (fun h => Bool.noConfusion h) fun _ => ep_catP (xs := [.str "take", .str z]) (ys := [.str x, .str f]) (ep_tupA (ea_cons ev_c (ea_cons (ev_var rfl) ea_nil)) (by show 2 ≤ 100000; decide)) (ep_varT rfl ho2) (by simp) (by simp) (by show 4 ≤ 100000; decide))
      fun v H6 e6 hv => k v H6 (((((e1.trans e2).trans e3).trans e4).trans e5).trans e6) (pln_dp (p := .take z x f) (u := .non) hv trivial)
  | _ => exact absurd hf (by simp [Fill])
end
end K7
set_option maxHeartbeats 4000000
/-! statement_of, head_of -/
namespace K7
open PySem PySem.Spec PyProof.Rows L2 Evl
def kwS : List Str := ["ask", "make", "keep", "drop", "say", "wish", "cut"]
/-- what a line's words are, by the first of them -/
theorem head_cases {g : Nat} {s : Stm} (h : okS g s) : ∃ kw rest, headW s = kw :: rest ∧
    ((kw = "ask" ∧ ∃ t, s = .pln (.ask t) ∧ rest = tstW t ∧ t.ok g) ∨
     (kw ∈ (["make", "keep", "drop"] : List Str) ∧ kw ≠ "ask" ∧ ∃ x, isName x = true ∧ rest = [x] ∧ ∃ p, s = .pln p ∧ plnV .non p = [.str kw, .str x] ∧ ∀ H K, askOf K H .non p) ∨
     (kw = "say" ∧ ∃ x, isWord x = true ∧ s = .pln (.say x) ∧ rest = [x]) ∨
     (kw = "wish" ∧ ∃ x z, isName x = true ∧ isWord z = true ∧ s = .pln (.wish x z) ∧ rest = [x, z]) ∨
     (kw = "cut" ∧ ∃ x f, isName x = true ∧ isName f = true ∧ s = .pln (.cut x f) ∧ rest = [dot x f]) ∨
     (kw ∉ kwS ∧ ((∃ p a b, Fill p ∧ s = .pln p ∧ rest = [a, b] ∧ (a = "=" ∨ a = "~") ∧ p.ok g) ∨ ((∀ p, s ≠ .pln p) ∧ ∃ a r, rest = a :: r ∧ a ≠ "=" ∧ a ≠ "~")))) := by
  have nk : ∀ {x : Str}, isName x = true → x ∉ kwS := fun h hm => by
    have z : ∀ y ∈ kwS, y ∈ nameBar := by decide +kernel
    exact name_bar h (z _ hm)
  have dk : ∀ x f : Str, dot x f ∉ kwS := fun x f hm => by
    unfold kwS at hm
    simp only [List.mem_cons, List.not_mem_nil, or_false] at hm
    rcases hm with e | e | e | e | e | e | e <;> exact dot_ne x f _ (by decide +kernel) e
  cases s with
  | pln p =>
    have hp : p.ok g := h
    cases p with
    | make x => exact ⟨_, _, rfl, .inr (.inl ⟨by decide +kernel, by decide +kernel, x, hp, rfl, _, rfl, rfl, fun _ _ => trivial⟩)⟩
    | keep x => exact ⟨_, _, rfl, .inr (.inl ⟨by decide +kernel, by decide +kernel, x, hp, rfl, _, rfl, rfl, fun _ _ => trivial⟩)⟩
    | drop x => exact ⟨_, _, rfl, .inr (.inl ⟨by decide +kernel, by decide +kernel, x, hp, rfl, _, rfl, rfl, fun _ _ => trivial⟩)⟩
    | wish x z => exact ⟨_, _, rfl, .inr (.inr (.inr (.inl ⟨rfl, x, z, hp.1, hp.2, rfl, rfl⟩)))⟩
    | name x y => exact ⟨_, _, rfl, .inr (.inr (.inr (.inr (.inr ⟨nk hp.1, .inl ⟨.name x y, _, _, trivial, rfl, rfl, .inl rfl, hp⟩⟩))))⟩
    | hold x f y => exact ⟨_, _, rfl, .inr (.inr (.inr (.inr (.inr ⟨dk x f, .inl ⟨.hold x f y, _, _, trivial, rfl, rfl, .inl rfl, hp⟩⟩))))⟩
    | weak x f y => exact ⟨_, _, rfl, .inr (.inr (.inr (.inr (.inr ⟨dk x f, .inl ⟨.weak x f y, _, _, trivial, rfl, rfl, .inr rfl, hp⟩⟩))))⟩
    | cut x f => exact ⟨_, _, rfl, .inr (.inr (.inr (.inr (.inl ⟨rfl, x, f, hp.1, hp.2, rfl, rfl⟩))))⟩
    | take z x f => exact ⟨_, _, rfl, .inr (.inr (.inr (.inr (.inr ⟨nk hp.1, .inl ⟨.take z x f, _, _, trivial, rfl, rfl, .inl rfl, hp⟩⟩))))⟩
    | say x => exact ⟨_, _, rfl, .inr (.inr (.inl ⟨rfl, x, hp, rfl, rfl⟩))⟩
    | ask t => exact ⟨_, _, rfl, .inl ⟨rfl, t, rfl, rfl, hp⟩⟩
  | rep k b =>
    have hk : k ≤ 12 := h.1
    refine ⟨_, _, rfl, .inr (.inr (.inr (.inr (.inr ⟨by decide +kernel, .inr ⟨fun p e => Stm.noConfusion e, _, _, rfl, ?_, ?_⟩⟩))))⟩
    · intro e
      obtain ⟨c, r, hc, h1, h2, _⟩ := num_head k (by omega)
      have z : TL.tl ("=" : Str) = [61] := by decide +kernel
      rw [e, z] at hc
      have := (List.cons.inj hc).1
      omega
    · intro e
      obtain ⟨c, r, hc, h1, h2, _⟩ := num_head k (by omega)
      have z : TL.tl ("~" : Str) = [126] := by decide +kernel
      rw [e, z] at hc
      have := (List.cons.inj hc).1
      omega
  | iff t y n =>
    have ht : t.ok g := h.1
    have w : ∃ a r, tstW t = a :: r ∧ isWord a = true := by
      unfold tstW
      cases t.nots with
      | succ k => exact ⟨_, _, rfl, by decide +kernel⟩
      | zero =>
        have hb := ht.2
        generalize t.bt = b at *
        cases b with
        | giv i => exact ⟨_, _, rfl, by decide +kernel⟩
        | set x => exact ⟨_, _, rfl, by decide +kernel⟩
        | full x f => exact ⟨_, _, rfl, by decide +kernel⟩
        | wished x => exact ⟨_, _, rfl, by decide +kernel⟩
        | same x f => exact ⟨_, _, rfl, name_word hb.1⟩
    obtain ⟨a, r, e, ha⟩ := w
    exact ⟨_, _, rfl, .inr (.inr (.inr (.inr (.inr ⟨by decide +kernel, .inr ⟨fun p e => Stm.noConfusion e, a, r, e, word_noeq ha "=", word_noeq ha "~"⟩⟩))))⟩
theorem headW_len {g : Nat} {s : Stm} (h : okS g s) : (headW s).length ≤ 10 := by
  have ht : ∀ {t : Tst}, t.ok g → (tstW t).length ≤ 6 := fun {t} h => by
    unfold tstW
    have z : (btW t.bt).length ≤ 3 := by
      cases t.bt <;> simp [btW]
    rw [List.length_append, List.length_replicate]
    have := h.1
    omega
  cases s with
  | pln p =>
    have hp : p.ok g := h
    cases p with
    | ask t =>
      have := ht (t := t) hp
      simp only [headW, plnW, List.length_cons]
      omega
    | _ => simp [headW, plnW]
  | rep k b => simp [headW]
  | iff t y n =>
    have := ht (t := t) h.1
    simp only [headW, List.length_cons]
    omega
section
variable {K : PySem.W.Frag} {σ : L2.St} {H H' : Hp} {ta tb te tl : TE} {D : Ends} {tu tz : TS}
theorem q_parVL {i j : Nat} {x : V} {ys : List V} (ha : Ev ta σ H x) (hb : EvL tb σ H ys) (k : ∀ p H1, H p = none → Ex H H1 → H1 p = some (.lst ys) → tz D ((σ.set i (some x)).set j (some (.ref p))) H1) : tSeq (tPar i j (tCons ta (tCons tb tNil))) tz D σ H :=
  ha H (Ex.refl H) _ fun H1 e1 => hb H1 e1 _ fun p H2 hp e2 h2 => ⟨x, .ref p, rfl, k p H2 (fresh_back e1 hp) (e1.trans e2) h2⟩
theorem ev_in3 {x a b c : Str} (h : Ev te σ H (.str x)) : Ev (tOp (rIn K false) te (tTup (tCons (tC (.str a)) (tCons (tC (.str b)) (tCons (tC (.str c)) tNil))))) σ H (.bl (decide (x ∈ [a, b, c]))) := by
  rw [← inV_str x [a, b, c]]
  exact ev_inU h (eu_tup (ea_cons ev_c (ea_cons ev_c (ea_cons ev_c ea_nil))) (by show 3 ≤ 100000; decide)) rfl rfl
theorem ev_in2 {x a b : Str} (h : Ev te σ H (.str x)) : Ev (tOp (rIn K false) te (tTup (tCons (tC (.str a)) (tCons (tC (.str b)) tNil)))) σ H (.bl (decide (x ∈ [a, b]))) := by
  rw [← inV_str x [a, b]]
  exact ev_inU h (eu_tup (ea_cons ev_c (ea_cons ev_c ea_nil)) (by show 2 ≤ 100000; decide)) rfl rfl
theorem tst_ref {t : Tst} {v : V} (h : Dp K H v (encT t)) : ∃ a, v = .ref a := by
  have z : ∃ ds, encT t = .tuple ds := by
    unfold encT
    cases t.nots with
    | zero => cases t.bt <;> exact ⟨_, rfl⟩
    | succ k => exact ⟨_, rfl⟩
  obtain ⟨ds, e⟩ := z
  rw [e] at h
  obtain ⟨a, xs, ev, _⟩ := dp_tup h
  exact ⟨a, ev⟩
theorem ev_lenL {a : Addr} {ws : List Str} {n : Int} (h : Ev te σ H (.ref a)) (hs : SqL K H a (ws.map V.str)) (b : Bool) (hb : decide ((ws.length : Int) = n) = b) : Ev (tOp rEq (tCB (rLenS K) (tCons te tNil)) (tC (.int n))) σ H (.bl b) := by
  refine ev_is (ev_op (ev_len h hs) ev_c (rv_eq rfl)) ?_
  rw [List.length_map, ← hb]
  congr 1
  by_cases e : (ws.length : Int) = n
  · rw [e, decide_eq_true rfl, decide_eq_true rfl]
  · rw [decide_eq_false e, decide_eq_false fun z => e (V.int.inj z)]
theorem el_cut1 {a : Addr} {x : V} {xs : List V} (h : Ev te σ H (.ref a)) (hs : SqL K H a (x :: xs)) : EvL (tSl (rSlL K) te (tPart (tC (.int 1))) tNoPart) σ H xs := by
  have q := el_sl (K := K) (th := tNoPart) h (eo_some (i := ((1 : Nat) : Int)) ev_c) eo_none hs
  rw [cut_from (by rw [List.length_cons]; omega)] at q
  exact q
end
section
variable {P : Program} {w : World} {K : PySem.W.Frag} {mg : Str → Option Value} {base : Heap}
def spStmOf (K : PySem.W.Frag) : Sp := fun vs H Q _ => ∃ (s : Stm) (g : Nat), vs = [.str (jn (headW s))] ∧ g ≤ 3 ∧ okS g s ∧ RetP (fun v H' => (∀ p, s = .pln p → Dp K H' v (encP p)) ∧ ((∀ p, s ≠ .pln p) → v = .non)) H Q
theorem ok_statement_of (T : Txt w K mg) : FOk P w K mg base 6 "statement_of" (spStmOf K) := by
  have G_is_name : FOk P w K mg base 2 "is_name" spIsName := ok_is_name T
  have G_is_word : FOk P w K mg base 1 "is_word" spIsWord := ok_is_word T
  have G_spot_of : FOk P w K mg base 3 "spot_of" (spSpot K) := ok_spot_of T
  have G_test_of : FOk P w K mg base 5 "test_of" (spTestOf K) := ok_test_of T
  have G_filled_of : FOk P w K mg base 4 "filled_of" (spFilled K) := ok_filled_of T
  refine fok T.f_statement_of T.g_statement_of sc_statement_of (fun _ _ _ _ _ _ us hl => match us, hl with | [_], _ => rfl) (fun vs H Q E h => ?_) (fun cdv A outer s H vs Q E hr h => ?_)
  · obtain ⟨s, _, rfl, _⟩ := h
    rfl
  obtain ⟨st, g, rfl, hg, hok, k⟩ := h
  have nd := sc_statement_of.nd
  refine ⟨_, (pss_cons (ps_set (i := 1) nd rfl (Or.inl rfl) (pe_split (pv 0) pe_str)) (pss_cons (ps_par (i := 2) (j := 3) (by rfl) nd rfl rfl (by decide) rfl rfl (pa_cons (pe_ix ix_list (pv 1) pe_int (fun _ _ => rfl)) (pa_cons (pe_slice sl_list (pv 1) (po_some pe_int) po_none) pa_nil)) (by rfl)) (pss_cons (ps_if (pt_cmpR op_eq (pv 2) pe_str (nomark _)) (pss_cons (ps_set (i := 4) nd rfl (Or.inl rfl) (pe_f G_test_of (hr.mono (by omega)) (pa_cons (pv 3) pa_nil))) (pss_one (ps_ret (pe_ifExp (pt_cmpR op_isN (pv 4) pe_non (nomark _)) pe_non (pe_tup (pa_cons pe_str (pa_cons (pv 4) pa_nil))))))) pss_nil) (pss_cons (ps_if (PW.pt (pw_and (pt_cmpR op_in_seq (pv 2) (pe_tup (pa_cons pe_str (pa_cons pe_str (pa_cons pe_str pa_nil)))) (by rfl)) (pw_and (pt_cmpR op_eq (pe_callB call_len_seq (by rfl) T.z_len PySem.boot_len (pa_cons (pv 3) pa_nil)) pe_int (nomark _)) (pw_and1 (pt_val (pe_f G_is_name (hr.mono (by omega)) (pa_cons (pe_ix ix_list (pv 3) pe_int (fun _ _ => rfl)) pa_nil))))))) (pss_one (ps_ret (pe_tup (pa_cons (pv 2) (pa_cons (pe_ix ix_list (pv 3) pe_int (fun _ _ => rfl)) pa_nil))))) pss_nil) (pss_cons (ps_if (PW.pt (pw_and (pt_cmpR op_eq (pv 2) pe_str (nomark _)) (pw_and (pt_cmpR op_eq (pe_callB call_len_seq (by rfl) T.z_len PySem.boot_len (pa_cons (pv 3) pa_nil)) pe_int (nomark _)) (pw_and1 (pt_val (pe_f G_is_word (hr.mono (by omega)) (pa_cons (pe_ix ix_list (pv 3) pe_int (fun _ _ => rfl)) pa_nil))))))) (pss_one (ps_ret (pe_tup (pa_cons pe_str (pa_cons (pe_ix ix_list (pv 3) pe_int (fun _ _ => rfl)) pa_nil))))) pss_nil) (pss_cons (ps_if (PW.pt (pw_and (pt_cmpR op_eq (pv 2) pe_str (nomark _)) (pw_and (pt_cmpR op_eq (pe_callB call_len_seq (by rfl) T.z_len PySem.boot_len (pa_cons (pv 3) pa_nil)) pe_int (nomark _)) (pw_and (pt_val (pe_f G_is_name (hr.mono (by omega)) (pa_cons (pe_ix ix_list (pv 3) pe_int (fun _ _ => rfl)) pa_nil))) (pw_and1 (pt_val (pe_f G_is_word (hr.mono (by omega)) (pa_cons (pe_ix ix_list (pv 3) pe_int (fun _ _ => rfl)) pa_nil)))))))) (pss_one (ps_ret (pe_tup (pa_cons pe_str (pa_cons (pe_ix ix_list (pv 3) pe_int (fun _ _ => rfl)) (pa_cons (pe_ix ix_list (pv 3) pe_int (fun _ _ => rfl)) pa_nil)))))) pss_nil) (pss_cons (ps_if (PW.pt (pw_and (pt_cmpR op_eq (pv 2) pe_str (nomark _)) (pw_and1 (pt_cmpR op_eq (pe_callB call_len_seq (by rfl) T.z_len PySem.boot_len (pa_cons (pv 3) pa_nil)) pe_int (nomark _))))) (pss_cons (ps_set (i := 5) nd rfl (Or.inl rfl) (pe_f G_spot_of (hr.mono (by omega)) (pa_cons (pe_ix ix_list (pv 3) pe_int (fun _ _ => rfl)) pa_nil))) (pss_one (ps_ret (pe_ifExp (pt_cmpR (op_eqD hr.units) (pv 5) (pe_tup pa_nil) (nomark _)) pe_non (pe_op op_catA (pe_tup (pa_cons pe_str pa_nil)) (pv 5)))))) pss_nil) (pss_cons (ps_if (PW.pt (pw_and (pt_cmpR op_eq (pe_callB call_len_seq (by rfl) T.z_len PySem.boot_len (pa_cons (pv 1) pa_nil)) pe_int (nomark _)) (pw_and1 (pt_cmpR op_in_seq (pe_ix ix_list (pv 1) pe_int (fun _ _ => rfl)) (pe_tup (pa_cons pe_str (pa_cons pe_str pa_nil))) (by rfl))))) (pss_one (ps_ret (pe_f G_filled_of (hr.mono (by omega)) (pa_cons (pe_ix ix_list (pv 1) pe_int (fun _ _ => rfl)) (pa_cons (pe_ix ix_list (pv 1) pe_int (fun _ _ => rfl)) (pa_cons (pe_ix ix_list (pv 1) pe_int (fun _ _ => rfl)) pa_nil)))))) pss_nil) (pss_one (ps_ret pe_non)))))))))), ?_⟩
  obtain ⟨kw, rest, hws, hc⟩ := head_cases hok
  have hsol := head_solid hg hok
  have hll := headW_len hok
  have hhl := head_len hg hok
  have l1 : ((" " : Str).length == 0) = false := by decide +kernel
  have hsplit : Txt.split (jn (headW st)) " " = kw :: rest := by rw [split_jn (by rw [hws]; exact List.cons_ne_nil _ _) hsol, hws]
  generalize jn (headW st) = tx at *
  have hsp := el_split (σ := start N_statement_of [.str tx]) (H := H) (to := tVar 0) (te := tC (.str " ")) (ev_var rfl) ev_c l1 (by omega)
  rw [hsplit] at hsp
  have hrl : rest.length ≤ 9 := by
    rw [hws, List.length_cons] at hll
    omega
  have nl : ∀ {a : Str}, isName a = true → a.length ≤ 1000 := fun h => by
    have := word_len (name_word h)
    omega
  have wl : ∀ {a : Str}, isWord a = true → a.length ≤ 1000 := fun h => by
    have := word_len h
    omega
  refine q_asgL hsp fun p H1 hp e1 h1 => ?_
  have hW := sq_of (K := K) h1
  refine q_parVL (ev_atL 0 (ev_var rfl) hW) (el_cut1 (x := .str kw) (xs := rest.map V.str) (ev_var rfl) hW) fun r H2 hr2 e2 h2 => ?_
  have e02 := e1.trans e2
  have hW := ex_l e2 hW
  have hR := sq_of (K := K) h2
  clear hsp
  rcases hc with ⟨rfl, t, rfl, rfl, ht⟩ | ⟨hk, hna, x, hx, rfl, pl, rfl, hpl, hask⟩ | ⟨rfl, x, hx, rfl, rfl⟩ | ⟨rfl, x, z, hx, hz, rfl, rfl⟩ | ⟨rfl, x, f, hx, hf, rfl, rfl⟩ | ⟨hk, hc⟩
  · refine q_when (b := true) (et_test (ev_eqY (ev_var rfl) ev_c rfl)) (fun _ H3 e3 => ?_) fun h => Bool.noConfusion h
    refine q_asgP (R := fun v H' => Dp K H' v (encT t)) (ep_call (ea_cons (ev_var rfl) ea_nil) fun H4 e4 Q' q E' => ⟨r, g, t, rfl, ex_l (e3.trans e4) hR, hg, ht, q⟩) fun v H4 e4 hv => ?_
    obtain ⟨va, rfl⟩ := tst_ref hv
    refine s_retP (ep_if (b := false) (et_test (ev_is (ev_op (ev_var rfl) ev_c rv_isN) (congrArg V.bl (decide_eq_false (by simp))))) (fun h => Bool.noConfusion h) fun _ => ep_tupA (K := K) (ea_cons ev_c (ea_cons (ev_var rfl) ea_nil)) (by show 2 ≤ 100000; decide)) fun v H5 e5 hv5 => k v H5 (((e02.trans e3).trans e4).trans e5) ⟨fun p hp => ?_, fun h => absurd rfl (h _)⟩
    cases hp
    exact pln_dp (p := .ask t) (u := .ref va) hv5 (same_dp e5 hv)
  · refine q_when (b := false) (et_test (ev_eqN (ev_var rfl) ev_c hna)) (fun h => Bool.noConfusion h) fun _ H3 e3 => ?_
    refine q_when (b := true) (et_and (a := true) (b := true) (et_test (ev_is (ev_in3 (ev_var rfl)) (congrArg V.bl (decide_eq_true hk)))) fun _ => et_and (a := true) (b := true) (et_test (ev_lenL (ev_var rfl) (ex_l e3 hR) true rfl)) fun _ => et_B (ev_call (ea_cons (ev_atL 0 (ev_var rfl) (ex_l e3 hR)) ea_nil) fun H4 e4 Q' q E' => ⟨x, rfl, nl hx, by rw [hx]; exact q⟩)) (fun _ H4 e4 => ?_) fun h => Bool.noConfusion h
    refine s_retP (ep_tupA (K := K) (ea_cons (ev_var rfl) (ea_cons (ev_atL 0 (ev_var rfl) (ex_l (e3.trans e4) hR)) ea_nil)) (by show 2 ≤ 100000; decide)) fun v H5 e5 hv5 => k v H5 (((e02.trans e3).trans e4).trans e5) ⟨fun p hp => ?_, fun h => absurd rfl (h _)⟩
    cases hp
    exact pln_dp (u := .non) (by rw [hpl]; exact hv5) (hask _ _)
  · refine q_when (b := false) (et_test (ev_eqN (ev_var rfl) ev_c (by decide +kernel))) (fun h => Bool.noConfusion h) fun _ H3 e3 => ?_
    refine q_when (b := false) (et_and (a := false) (b := true) (et_test (ev_is (ev_in3 (ev_var rfl)) (by decide +kernel))) fun h => Bool.noConfusion h) (fun h => Bool.noConfusion h) fun _ H4 e4 => ?_
    have e24 := e3.trans e4
    refine q_when (b := true) (et_and (a := true) (b := true) (et_test (ev_eqY (ev_var rfl) ev_c rfl)) fun _ => et_and (a := true) (b := true) (et_test (ev_lenL (ev_var rfl) (ex_l e24 hR) true rfl)) fun _ => et_B (ev_call (ea_cons (ev_atL 0 (ev_var rfl) (ex_l e24 hR)) ea_nil) fun H4 e4 Q' q E' => ⟨x, rfl, wl hx, by rw [hx]; exact q⟩)) (fun _ H5 e5 => ?_) fun h => Bool.noConfusion h
    refine s_retP (ep_tupA (K := K) (ea_cons ev_c (ea_cons (ev_atL 0 (ev_var rfl) (ex_l (e24.trans e5) hR)) ea_nil)) (by show 2 ≤ 100000; decide)) fun v H6 e6 hv5 => k v H6 (((e02.trans e24).trans e5).trans e6) ⟨fun p hp => ?_, fun h => absurd rfl (h _)⟩
    cases hp
    exact pln_dp (p := .say x) (u := .non) hv5 trivial
  · refine q_when (b := false) (et_test (ev_eqN (ev_var rfl) ev_c (by decide +kernel))) (fun h => Bool.noConfusion h) fun _ H3 e3 => ?_
    refine q_when (b := false) (et_and (a := false) (b := true) (et_test (ev_is (ev_in3 (ev_var rfl)) (by decide +kernel))) fun h => Bool.noConfusion h) (fun h => Bool.noConfusion h) fun _ H4 e4 => ?_
    refine q_when (b := false) (et_and (a := false) (b := true) (et_test (ev_eqN (ev_var rfl) ev_c (by decide +kernel))) fun h => Bool.noConfusion h) (fun h => Bool.noConfusion h) fun _ H5 e5 => ?_
    have e25 := (e3.trans e4).trans e5
    refine q_when (b := true) (et_and (a := true) (b := true) (et_test (ev_eqY (ev_var rfl) ev_c rfl)) fun _ => et_and (a := true) (b := true) (et_test (ev_lenL (ev_var rfl) (ex_l e25 hR) true rfl)) fun _ => et_and (a := true) (b := true) (et_B (ev_call (ea_cons (ev_atL 0 (ev_var rfl) (ex_l e25 hR)) ea_nil) fun H4 e4 Q' q E' => ⟨x, rfl, nl hx, by rw [hx]; exact q⟩)) fun _ => et_B (ev_call (ea_cons (ev_atL 1 (ev_var rfl) (ex_l e25 hR)) ea_nil) fun H4 e4 Q' q E' => ⟨z, rfl, wl hz, by rw [hz]; exact q⟩)) (fun _ H6 e6 => ?_) fun h => Bool.noConfusion h
    refine s_retP (ep_tupA (K := K) (ea_cons ev_c (ea_cons (ev_atL 0 (ev_var rfl) (ex_l (e25.trans e6) hR)) (ea_cons (ev_atL 1 (ev_var rfl) (ex_l (e25.trans e6) hR)) ea_nil))) (by show 3 ≤ 100000; decide)) fun v H7 e7 hv5 => k v H7 (((e02.trans e25).trans e6).trans e7) ⟨fun p hp => ?_, fun h => absurd rfl (h _)⟩
    cases hp
    exact pln_dp (p := .wish x z) (u := .non) hv5 trivial
  · refine q_when (b := false) (et_test (ev_eqN (ev_var rfl) ev_c (by decide +kernel))) (fun h => Bool.noConfusion h) fun _ H3 e3 => ?_
    refine q_when (b := false) (et_and (a := false) (b := true) (et_test (ev_is (ev_in3 (ev_var rfl)) (by decide +kernel))) fun h => Bool.noConfusion h) (fun h => Bool.noConfusion h) fun _ H4 e4 => ?_
    refine q_when (b := false) (et_and (a := false) (b := true) (et_test (ev_eqN (ev_var rfl) ev_c (by decide +kernel))) fun h => Bool.noConfusion h) (fun h => Bool.noConfusion h) fun _ H5 e5 => ?_
    refine q_when (b := false) (et_and (a := false) (b := true) (et_test (ev_eqN (ev_var rfl) ev_c (by decide +kernel))) fun h => Bool.noConfusion h) (fun h => Bool.noConfusion h) fun _ H6 e6 => ?_
    have e26 := ((e3.trans e4).trans e5).trans e6
    refine q_when (b := true) (et_and (a := true) (b := true) (et_test (ev_eqY (ev_var rfl) ev_c rfl)) fun _ => et_test (ev_lenL (ev_var rfl) (ex_l e26 hR) true rfl)) (fun _ H7 e7 => ?_) fun h => Bool.noConfusion h
    refine q_asgP (R := TupAt K [.str x, .str f]) (ep_call (ea_cons (ev_atL 0 (ev_var rfl) (ex_l (e26.trans e7) hR)) ea_nil) fun H8 e8 Q' q E' => ⟨dot x f, rfl, .inl ⟨x, f, rfl, hx, hf, q⟩⟩) fun v H8 e8 ⟨o, ev, ho⟩ => ?_
    subst ev
    refine s_retP (ep_if (b := false) (et_test (ev_eqU (ds := [.str x, .str f]) (ev_var rfl) (.tup ho (.cons (.str _) (.cons (.str _) .nil))) (sh2 hx hf))) (fun h => Bool.noConfusion h) fun _ => ep_catP (xs := [.str "cut"]) (ys := [.str x, .str f]) (ep_tupA (ea_cons ev_c ea_nil) (by show 1 ≤ 100000; decide)) (ep_varT rfl ho) (by simp) (by simp) (by show 3 ≤ 100000; decide))
      fun v H9 e9 hv5 => k v H9 (((e02.trans e26).trans (e7.trans e8)).trans e9) ⟨fun p hp => ?_, fun h => absurd rfl (h _)⟩
    cases hp
    exact pln_dp (p := .cut x f) (u := .non) hv5 trivial
  · have ne : ∀ y ∈ kwS, kw ≠ y := fun y hy e => hk (e ▸ hy)
    refine q_when (b := false) (et_test (ev_eqN (ev_var rfl) ev_c (ne _ (by decide +kernel)))) (fun h => Bool.noConfusion h) fun _ H3 e3 => ?_
    refine q_when (b := false) (et_and (a := false) (b := true) (et_test (ev_is (ev_in3 (ev_var rfl)) (congrArg V.bl (decide_eq_false fun hm => ?_)))) fun h => Bool.noConfusion h) (fun h => Bool.noConfusion h) fun _ H4 e4 => ?_
    · have z : ∀ y ∈ (["make", "keep", "drop"] : List Str), y ∈ kwS := by decide +kernel
      exact hk (z _ hm)
    refine q_when (b := false) (et_and (a := false) (b := true) (et_test (ev_eqN (ev_var rfl) ev_c (ne _ (by decide +kernel)))) fun h => Bool.noConfusion h) (fun h => Bool.noConfusion h) fun _ H5 e5 => ?_
    refine q_when (b := false) (et_and (a := false) (b := true) (et_test (ev_eqN (ev_var rfl) ev_c (ne _ (by decide +kernel)))) fun h => Bool.noConfusion h) (fun h => Bool.noConfusion h) fun _ H6 e6 => ?_
    refine q_when (b := false) (et_and (a := false) (b := true) (et_test (ev_eqN (ev_var rfl) ev_c (ne _ (by decide +kernel)))) fun h => Bool.noConfusion h) (fun h => Bool.noConfusion h) fun _ H7 e7 => ?_
    have e27 := (((e3.trans e4).trans e5).trans e6).trans e7
    have hW7 : SqL K H7 p ((kw :: rest).map V.str) := ex_l e27 hW
    rcases hc with ⟨pl, a, b, hfl, rfl, rfl, hab, hpok⟩ | ⟨hnp, a, rr, rfl, ha1, ha2⟩
    · refine q_when (b := true) (et_and (a := true) (b := true) (et_test (ev_lenL (ev_var rfl) hW7 true rfl)) fun _ => et_test (ev_is (ev_in2 (ev_atL 1 (ev_var rfl) hW7)) (congrArg V.bl (decide_eq_true (by
        rcases hab with rfl | rfl <;> decide +kernel))))) (fun _ H8 e8 => ?_) fun h => Bool.noConfusion h
      refine s_retP (ep_call (R := fun v H' => Dp K H' v (encP pl)) (ea_cons (ev_atL 0 (ev_var rfl) (ex_l e8 hW7)) (ea_cons (ev_atL 1 (ev_var rfl) (ex_l e8 hW7)) (ea_cons (ev_atL 2 (ev_var rfl) (ex_l e8 hW7)) ea_nil))) fun H9 e9 Q' q E' => ⟨kw, a, b, pl, g, rfl, hfl, hws, hpok, q⟩) fun v H9 e9 hv => k v H9 ((e02.trans e27).trans (e8.trans e9)) ⟨fun p hp => ?_, fun h => absurd rfl (h _)⟩
      cases hp
      exact hv
    · refine q_when (b := false) (et_is (et_and (a := decide ((((kw :: a :: rr).length : Nat) : Int) = 3)) (b := false) (et_test (ev_lenL (ev_var rfl) hW7 _ rfl)) fun _ => et_test (ev_is (ev_in2 (ev_atL 1 (ev_var rfl) hW7)) (congrArg V.bl (decide_eq_false fun hm => ?_)))) (Bool.and_false _)) (fun h => Bool.noConfusion h) fun _ H8 e8 => ?_
      · simp only [List.mem_cons, List.not_mem_nil, or_false] at hm
        exact hm.elim ha1 ha2
      · exact s_ret ev_c fun H9 e9 => k .non H9 ((e02.trans e27).trans (e8.trans e9)) ⟨fun p hp => absurd hp (hnp p), fun _ => rfl⟩
def spHeadOf (K : PySem.W.Frag) : Sp := fun vs H Q _ => ∃ (s : Stm) (g : Nat), vs = [.str (jn (headW s))] ∧ g ≤ 3 ∧ okS g s ∧
  RetP (fun v H' => (∀ p, s = .pln p → v = .non) ∧ (∀ t y n, s = .iff t y n → ∃ a u, v = .ref a ∧ SqT K H' a [.str "if", u] ∧ Dp K H' u (encT t)) ∧ ∀ n b, s = .rep n b → TupAt K [.str "repeat", .int n] v H') H Q
theorem ok_head_of (T : Txt w K mg) : FOk P w K mg base 6 "head_of" (spHeadOf K) := by
  have G_test_of : FOk P w K mg base 5 "test_of" (spTestOf K) := ok_test_of T
  have G_whole_of : FOk P w K mg base 1 "whole_of" spWhole := ok_whole_of T
  refine fok T.f_head_of T.g_head_of sc_head_of (fun _ _ _ _ _ _ us hl => match us, hl with | [_], _ => rfl) (fun vs H Q E h => ?_) (fun cdv A outer s H vs Q E hr h => ?_)
  · obtain ⟨s, _, rfl, _⟩ := h
    rfl
  obtain ⟨st, g, rfl, hg, hok, k⟩ := h
  have nd := sc_head_of.nd
  refine ⟨_, (pss_cons (ps_set (i := 1) nd rfl (Or.inl rfl) (pe_split (pv 0) pe_str)) (pss_cons (ps_if (pt_cmpR op_eq (pe_ix ix_list (pv 1) pe_int (fun _ _ => rfl)) pe_str (nomark _)) (pss_cons (ps_set (i := 2) nd rfl (Or.inl rfl) (pe_f G_test_of (hr.mono (by omega)) (pa_cons (pe_slice sl_list (pv 1) (po_some pe_int) po_none) pa_nil))) (pss_one (ps_ret (pe_ifExp (pt_cmpR op_isN (pv 2) pe_non (nomark _)) pe_non (pe_tup (pa_cons pe_str (pa_cons (pv 2) pa_nil))))))) pss_nil) (pss_cons (ps_if (PW.pt (pw_and (pt_cmpR op_eq (pe_ix ix_list (pv 1) pe_int (fun _ _ => rfl)) pe_str (nomark _)) (pw_and1 (pt_cmpR op_eq (pe_callB call_len_seq (by rfl) T.z_len PySem.boot_len (pa_cons (pv 1) pa_nil)) pe_int (nomark _))))) (pss_cons (ps_set (i := 3) nd rfl (Or.inl rfl) (pe_f G_whole_of (hr.mono (by omega)) (pa_cons (pe_ix ix_list (pv 1) pe_int (fun _ _ => rfl)) (pa_cons (pe_gi T.i_MOST_DIGITS) pa_nil)))) (pss_one (ps_ret (pe_ifExp (pt_cmpR op_isN (pv 3) pe_non (nomark _)) pe_non (pe_tup (pa_cons pe_str (pa_cons (pv 3) pa_nil))))))) pss_nil) (pss_one (ps_ret pe_non))))), ?_⟩
  obtain ⟨kw, b0, rest, hws⟩ := head_two st
  have hsol := head_solid hg hok
  have hll := headW_len hok
  have hhl := head_len hg hok
  have l1 : ((" " : Str).length == 0) = false := by decide +kernel
  have hsplit : Txt.split (jn (headW st)) " " = kw :: b0 :: rest := by rw [split_jn (by rw [hws]; exact List.cons_ne_nil _ _) hsol, hws]
  generalize jn (headW st) = tx at *
  have hsp := el_split (σ := start N_head_of [.str tx]) (H := H) (to := tVar 0) (te := tC (.str " ")) (ev_var rfl) ev_c l1 (by omega)
  rw [hsplit] at hsp
  refine q_asgL hsp fun p H1 hp e1 h1 => ?_
  have hW : SqL K H1 p ((kw :: b0 :: rest).map V.str) := sq_of h1
  clear hsp
  cases st with
  | iff t y n =>
    have ht : t.ok g := hok.1
    have hw2 : ("if" : Str) :: tstW t = kw :: b0 :: rest := hws
    obtain ⟨rfl, hrest⟩ := List.cons.inj hw2
    rw [← hrest] at hW
    refine q_when (b := true) (et_test (ev_eqY (ev_atL 0 (ev_var rfl) hW) ev_c rfl)) (fun _ H2 e2 => ?_) fun h => Bool.noConfusion h
    refine q_asgP (R := fun v H' => Dp K H' v (encT t)) (ep_callL (el_cut1 (x := .str "if") (xs := (tstW t).map V.str) (ev_var rfl) (ex_l e2 hW)) fun sp H3 e3 h3 H4 e4 Q' q E' => ⟨sp, g, t, rfl, sq_of (e4 sp _ h3), hg, ht, q⟩) fun v H3 e3 hv => ?_
    obtain ⟨va, rfl⟩ := tst_ref hv
    refine s_retP (ep_if (b := false) (et_test (ev_is (ev_op (ev_var rfl) ev_c rv_isN) (congrArg V.bl (decide_eq_false (by simp))))) (fun h => Bool.noConfusion h) fun _ => ep_tupA (K := K) (ea_cons ev_c (ea_cons (ev_var rfl) ea_nil)) (by show 2 ≤ 100000; decide)) fun v H4 e4 ⟨r, ev, hr4⟩ => k v H4 (((e1.trans e2).trans e3).trans e4) ⟨fun p hp => Stm.noConfusion hp, fun t2 y2 n2 he => ?_, fun n b hb => Stm.noConfusion hb⟩
    cases he
    exact ⟨r, _, ev, hr4, same_dp e4 hv⟩
  | rep n b =>
    have hn : n ≤ 12 := hok.1
    have hw2 : [("repeat" : Str), num n] = kw :: b0 :: rest := hws
    obtain ⟨rfl, h2⟩ := List.cons.inj hw2
    obtain ⟨rfl, h3⟩ := List.cons.inj h2
    subst h3
    refine q_when (b := false) (et_test (ev_eqN (ev_atL 0 (ev_var rfl) hW) ev_c (by decide +kernel))) (fun h => Bool.noConfusion h) fun _ H2 e2 => ?_
    refine q_when (b := true) (et_and (a := true) (b := true) (et_test (ev_eqY (ev_atL 0 (ev_var rfl) (ex_l e2 hW)) ev_c rfl)) fun _ => et_test (ev_lenL (ev_var rfl) (ex_l e2 hW) true rfl)) (fun _ H3 e3 => ?_) fun h => Bool.noConfusion h
    refine q_asg (v := .int n) (ev_call (ea_cons (ev_atL 1 (ev_var rfl) (ex_l (e2.trans e3) hW)) (ea_cons ev_c ea_nil)) fun H3 e3 Q' q E' => ⟨n, 20, rfl, by omega, by omega, q⟩) fun H4 e4 => ?_
    refine s_retP (ep_if (b := false) (et_test (ev_is (ev_op (ev_var rfl) ev_c rv_isN) (congrArg V.bl (decide_eq_false (by simp))))) (fun h => Bool.noConfusion h) fun _ => ep_tupA (K := K) (ea_cons ev_c (ea_cons (ev_var rfl) ea_nil)) (by show 2 ≤ 100000; decide)) fun v H5 e5 hv => k v H5 ((((e1.trans e2).trans e3).trans e4).trans e5) ⟨fun p hp => Stm.noConfusion hp, fun t2 y2 n2 he => Stm.noConfusion he, fun n2 b2 hb => ?_⟩
    cases hb
    exact hv
  | pln pp =>
    have hne : kw ≠ "if" ∧ kw ≠ "repeat" := by
      have hpp : pp.ok g := hok
      have hw2 : plnW pp = kw :: b0 :: rest := hws
      cases pp with
      | make x => obtain ⟨rfl, _⟩ := List.cons.inj hw2; exact ⟨by decide +kernel, by decide +kernel⟩
      | keep x => obtain ⟨rfl, _⟩ := List.cons.inj hw2; exact ⟨by decide +kernel, by decide +kernel⟩
      | drop x => obtain ⟨rfl, _⟩ := List.cons.inj hw2; exact ⟨by decide +kernel, by decide +kernel⟩
      | wish x z => obtain ⟨rfl, _⟩ := List.cons.inj hw2; exact ⟨by decide +kernel, by decide +kernel⟩
      | cut x z => obtain ⟨rfl, _⟩ := List.cons.inj hw2; exact ⟨by decide +kernel, by decide +kernel⟩
      | say x => obtain ⟨rfl, _⟩ := List.cons.inj hw2; exact ⟨by decide +kernel, by decide +kernel⟩
      | ask x => obtain ⟨rfl, _⟩ := List.cons.inj hw2; exact ⟨by decide +kernel, by decide +kernel⟩
      | name x y => obtain ⟨rfl, _⟩ := List.cons.inj hw2; exact ⟨name_ne hpp.1, name_ne hpp.1⟩
      | take z x f => obtain ⟨rfl, _⟩ := List.cons.inj hw2; exact ⟨name_ne hpp.1, name_ne hpp.1⟩
      | hold x f y => obtain ⟨rfl, _⟩ := List.cons.inj hw2; exact ⟨dot_ne x f _, dot_ne x f _⟩
      | weak x f y => obtain ⟨rfl, _⟩ := List.cons.inj hw2; exact ⟨dot_ne x f _, dot_ne x f _⟩
    refine q_when (b := false) (et_test (ev_eqN (ev_atL 0 (ev_var rfl) hW) ev_c hne.1)) (fun h => Bool.noConfusion h) fun _ H2 e2 => ?_
    refine q_when (b := false) (et_and (a := false) (b := true) (et_test (ev_eqN (ev_atL 0 (ev_var rfl) (ex_l e2 hW)) ev_c hne.2)) fun h => Bool.noConfusion h) (fun h => Bool.noConfusion h) fun _ H3 e3 => ?_
    exact s_ret ev_c fun H4 e4 => k .non H4 (((e1.trans e2).trans e3).trans e4) ⟨fun _ _ => rfl, fun t2 y2 n2 he => Stm.noConfusion he, fun n2 b2 hb => Stm.noConfusion hb⟩
end
end K7
set_option maxHeartbeats 4000000
/-! the class Lines: is_end, spaces, is_next -/
namespace K7
open PySem PySem.Spec PyProof.Rows L2 Evl
/-! ### rules: text times number, tuple += tuple, what is never reached -/
section
variable {X : Cx}
theorem ps_never {s : Stmt} : PS X s (fun _ _ _ => False) := ⟨fun pins s σ H D I h => h.elim⟩
def rMulS : R2 := fun x y H Q => ∃ (z : Str) (n : Nat), x = .str z ∧ y = .int n ∧ n ≤ 1000 ∧ z.length ≤ 1000 ∧ Q (.str (Txt.mul z n)) H
theorem op_mulS : OpR X (binaryOp .Mult) rMulS := by
  intro pins s σ H x y v u Q I rx ry h
  obtain ⟨z, n, rfl, rfl, hn, hz, q⟩ := h
  obtain ⟨t, rfl⟩ := rx
  obtain ⟨t', rfl⟩ := ry
  have hp : z.length * n ≤ 1000 * 1000 := Nat.mul_le_mul hz hn
  refine PySem.SB.mul ⟨?_, fun h1 _ => ?_, fun _ _ => ?_⟩ fun t2 k => ⟨.str _, H, I.tok _, ⟨t2, rfl⟩, q⟩
  · rw [Bool.or_eq_false_iff]
    exact ⟨decide_eq_false (by omega), decide_eq_false (by omega)⟩
  · have hpos : 0 < (n : Int) := by omega
    have : (z.length : Int) ≤ (2 ^ 63 - 1) / (n : Int) := by
      refine (Int.le_ediv_iff_mul_le hpos).mpr ?_
      have e : (z.length : Int) * (n : Int) = ((z.length * n : Nat) : Int) := by rw [Int.natCast_mul]
      rw [e]
      omega
    omega
  · show decide (z.length * ((n : Int)).toNat > sizeLine) = false
    refine decide_eq_false ?_
    have e : ((n : Int)).toNat = n := by omega
    rw [e]
    have : (1000 * 1000 : Nat) ≤ sizeLine := by decide
    omega
theorem no_iadd : typeLookup (.type "tuple") (dunderI "add") = pure none := by
  rw [typeLookup_type, builtinLookup_eq_fast]
  kernel_rfl
def rIcat (K : PySem.W.Frag) : R2 := fun x y H Q => ∃ a b xs ys, x = .ref a ∧ y = .ref b ∧ SqT K H a xs ∧ SqT K H b ys ∧ xs ≠ [] ∧ ys ≠ [] ∧ xs.length + ys.length ≤ sizeLine ∧ ∀ p, H p = none → Q (.ref p) (upd H p (.tup (xs ++ ys)))
theorem ip_catT : PIp X .Add (rIcat X.K) := by
  intro pins s σ H x y v u Q I rx ry h
  obtain ⟨a, b, xs, ys, rfl, rfl, ha, hb, hx, hy, hz, q⟩ := h
  cases rx
  cases ry
  obtain ⟨its, r1, p1, _⟩ := I.tuple ha
  obtain ⟨its2, r2, p2, _⟩ := I.tuple hb
  obtain ⟨⟨c1, d1, t1, l1⟩, ho, hc1, n, hd1⟩ := id p1
  obtain ⟨⟨c2, d2, t2, l2⟩, ho2, hc2, n2, hd2⟩ := id p2
  simp only at hc1 hd1 hc2 hd2
  subst hc1 hd1 hc2 hd2
  have hv : its ≠ [] := fun z => hx (r1.nil_iff.mp z)
  have hw : its2 ≠ [] := fun z => hy (r2.nil_iff.mp z)
  have hsz : its.length + its2.length ≤ sizeLine := by rw [← r1.length, ← r2.length]; exact hz
  refine wpAny_inplaceOp_concat ⟨_, ho, rfl⟩ ⟨_, ho2, rfl⟩ no_iadd noFill_tuple_add seq_tuple_add (call_meets PySem.F.slot_tuple_add ⟨_, ho, rfl⟩ PySem.F.entry_tuple_add (PySem.F.args_tuple_add_2 _ _)
    (tuple_addW2 a b its.toArray its2.toArray n n2 d1 d2 l1 l2 (by simpa using hv) (by simpa using hw) (by rw [List.size_toArray, List.size_toArray]; exact hsz)) ⟨ho, ho2, ?_⟩)
  have e : its.toArray ++ its2.toArray = (its ++ its2).toArray := by simp
  rw [e]
  refine ⟨.ref s.heap.objs.size, _, I.laid (t' := s.toks) (o := .tup (xs ++ ys)) (fun b ob q => Heap.get?_push_of_some _ q) (Nat.le_refl _) ?_, rfl, q _ (I.hok.fresh (Nat.le_refl _))⟩
  exact ⟨by rw [List.length_append]; exact hz, _, r1.append r2, IsTup.new _ _⟩
end
/-! ### rows: spaces and words -/
theorem mul_ind : ∀ d : Nat, d ≤ 11 → Txt.mul "  " (d : Int) = ind d := by
  have h : ∀ d : Fin 12, Txt.mul "  " ((d : Nat) : Int) = ind d := by decide +kernel
  intro d hd
  exact h ⟨d, by omega⟩
/-- words that stand in a line -/
def Ws (ws : List Str) : Prop := ws ≠ [] ∧ ∀ x ∈ ws, Solid x
theorem jn_first {ws : List Str} (h : Ws ws) : ∃ c r, TL.tl (jn ws) = c :: r ∧ 32 < c := by
  obtain ⟨h1, h2⟩ := h
  cases ws with
  | nil => exact absurd rfl h1
  | cons x r =>
    have hx := h2 x List.mem_cons_self
    cases e : TL.tl x with
    | nil =>
      have := hx.1
      rw [e] at this
      simp at this
    | cons c t =>
      have hc := (hx.2.2 c (by rw [e]; exact List.mem_cons_self)).1
      cases r with
      | nil => exact ⟨c, t, by rw [tl_jn1, e], hc⟩
      | cons y q => exact ⟨c, t ++ 32 :: TL.tl (jn (y :: q)), by rw [tl_jn, e]; rfl, hc⟩
theorem tl_row (d : Nat) (ws : List Str) : TL.tl (ind d ++ jn ws) = List.replicate (2 * d) 32 ++ TL.tl (jn ws) := by rw [TL.tl_append, tl_ind]
theorem while_rep (n : Nat) {c : Nat} {r : List Nat} (h : 32 < c) : ((List.replicate n 32 ++ c :: r).takeWhile fun x => (#[32] : Array Nat).contains x) = List.replicate n 32 := by
  induction n with
  | zero =>
    show (c :: r).takeWhile _ = []
    rw [List.takeWhile_cons]
    have : (#[32] : Array Nat).contains c = false := by
      simp
      omega
    rw [this]
    rfl
  | succ n ih =>
    show (32 :: (List.replicate n 32 ++ c :: r)).takeWhile _ = _
    have z : (#[32] : Array Nat).contains 32 = true := by decide +kernel
    rw [List.takeWhile_cons, ih, z]
    rfl
theorem row_strip {d : Nat} {ws : List Str} (h : Ws ws) : (Txt.lstripChars (ind d ++ jn ws) " ").length + 2 * d = (ind d ++ jn ws).length := by
  obtain ⟨c, r, e, hc⟩ := jn_first h
  unfold Txt.lstripChars
  rw [PySem.W.stripBy_eq]
  show (Builtin.Str.strSub (ind d ++ jn ws) ((TL.tl (ind d ++ jn ws)).takeWhile fun x => (" " : Str).cps.contains x).length (ind d ++ jn ws).length).length + 2 * d = _
  have e1 : (" " : Str).cps = #[32] := by decide +kernel
  rw [e1, tl_row, e, while_rep _ hc, List.length_replicate, TL.len_tl, TL.tl_strSub_end, List.length_drop, TL.len_tl, tl_row, e, List.length_append, List.length_replicate, List.length_cons]
  omega
theorem row_cut {d : Nat} {ws : List Str} : cutS (ind d ++ jn ws) (some ((2 * d : Nat) : Int)) none = jn ws := by
  refine TL.ext_tl ?_
  unfold cutS
  show ((TL.tl (ind d ++ jn ws)).drop _).take _ = _
  have hl : 2 * d ≤ (ind d ++ jn ws).length := by
    rw [strLen_append, ind_len]
    omega
  rw [HT.sIx_nat, HT.sIx_none, Nat.min_eq_left hl, tl_row, List.drop_append_of_le_length (by rw [List.length_replicate]; exact Nat.le_refl _), List.drop_of_length_le (by rw [List.length_replicate]; exact Nat.le_refl _), List.nil_append, List.take_of_length_le]
  rw [strLen_append, ind_len, TL.len_tl]
  omega
theorem rep_inj {a b : Nat} {c e : Nat} {r t : List Nat} (hc : 32 < c) (he : 32 < e) (h : List.replicate a 32 ++ c :: r = List.replicate b 32 ++ e :: t) : a = b ∧ c :: r = e :: t := by
  have h1 := congrArg (List.takeWhile fun x => (#[32] : Array Nat).contains x) h
  rw [while_rep _ hc, while_rep _ he] at h1
  have h2 := congrArg List.length h1
  rw [List.length_replicate, List.length_replicate] at h2
  subst h2
  exact ⟨rfl, List.append_cancel_left h⟩
theorem row_inj {d e : Nat} {ws us : List Str} (hw : Ws ws) (hu : Ws us) (h : ind d ++ jn ws = ind e ++ jn us) : d = e ∧ ws = us := by
  obtain ⟨c, r, h1, hc⟩ := jn_first hw
  obtain ⟨b, t, h2, hb⟩ := jn_first hu
  have h3 := congrArg TL.tl h
  rw [tl_row, tl_row, h1, h2] at h3
  obtain ⟨h4, h5⟩ := rep_inj hc hb h3
  refine ⟨by omega, ?_⟩
  have h6 : jn ws = jn us := TL.ext_tl (by rw [h1, h2, h5])
  rw [← split_jn hw.1 hw.2, h6, split_jn hu.1 hu.2]
theorem ws_pass : Ws ["pass"] := ⟨by simp, fun x hx => by
  rw [List.mem_singleton.mp hx]
  exact word_solid (by decide +kernel)⟩
theorem ws_else : Ws ["else"] := ⟨by simp, fun x hx => by
  rw [List.mem_singleton.mp hx]
  exact word_solid (by decide +kernel)⟩
theorem ws_head {g : Nat} (hg : g ≤ 3) {s : Stm} (h : okS g s) : Ws (headW s) := ⟨by
  obtain ⟨a, b, r, e⟩ := head_two s
  rw [e]
  exact List.cons_ne_nil _ _, head_solid hg h⟩
theorem head_ne1 (s : Stm) (x : Str) : headW s ≠ [x] := by
  obtain ⟨a, b, r, e⟩ := head_two s
  rw [e]
  intro z
  cases z
theorem at_rows : (("at" : Str) == ("rows" : Str)) = false := by decide +kernel
/-! ### an instance of Lines -/
/-- o: an instance of Lines with these rows that stands at the place i -/
def Ln (K : PySem.W.Frag) (o R : Addr) (rows : List Str) (i : Nat) (H : Hp) : Prop :=
  ∃ dx, H o = some (.ins (He.ga K "Lines") dx [("rows", .ref R), ("at", .int i)]) ∧ H R = some (.lst (rows.map V.str)) ∧ rows.length ≤ 200 ∧ ∀ x ∈ rows, x.length ≤ 230
section
variable {K : PySem.W.Frag} {σ : L2.St} {H H' : Hp} {ta tb te tl : TE} {D : Ends} {tu tz : TS} {o R : Addr} {rows : List Str} {i : Nat} {t : TA} {vs : List V} {sp : Sp} {Q : VK} {z : V}
theorem Ln.ex (h : Ln K o R rows i H) (e : Ex H H') : Ln K o R rows i H' := by
  obtain ⟨dx, h1, h2, h3⟩ := h
  exact ⟨dx, e _ _ h1, e _ _ h2, h3⟩
theorem Ln.row (h : Ln K o R rows i H) {x : Str} (hx : rows[i]? = some x) : x.length ≤ 230 := by
  obtain ⟨dx, h1, h2, h3, h4⟩ := h
  exact h4 x (List.mem_of_getElem? hx)
theorem Ln.keep (h : Ln K o R rows i H) (e : Exb o H H') : Keep H H' := by
  obtain ⟨dx, h1, _⟩ := h
  exact fun b => ⟨fun ys hb => e b _ (ne_of hb h1 (by intro z; cases z)) hb, fun u v hb => e b _ (ne_of hb h1 (by intro z; cases z)) hb⟩
theorem ev_rows (T : NoAttr K (He.ga K "Lines") "rows") (c : Cls K (He.ga K "Lines")) (h : Ln K o R rows i H) (ho : Ev ta σ H (.ref o)) : Ev (tFld K ta "rows") σ H (.ref R) := fun H1 e Q q => ho H1 e _ fun H2 e2 => by
  obtain ⟨dx, h1, _⟩ := h.ex (e.trans e2)
  exact ⟨o, _, dx, _, .ref R, rfl, h1, c, T, rfl, q H2 e2⟩
theorem ev_atF (T : NoAttr K (He.ga K "Lines") "at") (c : Cls K (He.ga K "Lines")) (h : Ln K o R rows i H) (ho : Ev ta σ H (.ref o)) : Ev (tFld K ta "at") σ H (.int i) := fun H1 e Q q => ho H1 e _ fun H2 e2 => by
  obtain ⟨dx, h1, _⟩ := h.ex (e.trans e2)
  refine ⟨o, _, dx, _, .int i, rfl, h1, c, T, ?_, q H2 e2⟩
  simp [List.lookup, at_rows]
theorem Ln.sq (h : Ln K o R rows i H) : SqL K H R (rows.map V.str) := by
  obtain ⟨dx, _, h2, _⟩ := h
  exact sq_of h2
/-- a call of a method -/
theorem t_meth {m : Str} (h : Ln K o R rows i H) (ho : Ev ta σ H (.ref o)) (ha : EvA t σ H vs) (k : ∀ H1, Ex H H1 → sp (.ref o :: vs) H1 Q E0) (hm : (m == "rows") = false := by decide +kernel) (hm2 : (m == "at") = false := by decide +kernel) :
    tMeth (He.ga K "Lines") m sp [] E0 ta t σ H Q := ho H (Ex.refl H) _ fun H1 e1 => by
  obtain ⟨dx, h1, _⟩ := h.ex e1
  refine ⟨o, dx, _, rfl, h1, ?_, ha H1 e1 _ fun H2 e2 => ?_⟩
  · simp [List.lookup, hm, hm2]
  · rw [List.append_nil]
    exact k H2 (e1.trans e2)
theorem ev_meth {m : Str} (h : Ln K o R rows i H) (ho : Ev ta σ H (.ref o)) (ha : EvA t σ H vs) (k : SpV sp (.ref o :: vs) H z) (hm : (m == "rows") = false := by decide +kernel) (hm2 : (m == "at") = false := by decide +kernel) :
    Ev (tMeth (He.ga K "Lines") m sp [] E0 ta t) σ H z := fun H1 e Q q => ho H1 e _ fun H2 e2 => by
  obtain ⟨dx, h1, _⟩ := h.ex (e.trans e2)
  refine ⟨o, dx, _, rfl, h1, ?_, ha H2 (e.trans e2) _ fun H3 e3 => ?_⟩
  · simp [List.lookup, hm, hm2]
  · rw [List.append_nil]
    exact k H3 ((e.trans e2).trans e3) Q (fun H4 e4 => q H4 ((e2.trans e3).trans e4)) E0
/-- self.at += 1 -/
theorem s_next (T : NoAttr K (He.ga K "Lines") "at") (c : Cls K (He.ga K "Lines")) (h : Ln K o R rows i H) (ho : Ev ta σ H (.ref o)) (k : ∀ H1, Exb o H H1 → Ln K o R rows (i + 1) H1 → D.nx σ H1) : sFldAug K ta (tC (.int 1)) rAdd "at" D σ H := ho H (Ex.refl H) _ fun H1 e1 => by
  obtain ⟨dx, h1, h2, h3⟩ := h.ex e1
  refine ⟨o, _, dx, _, .int i, rfl, h1, c, T, by simp [List.lookup, at_rows], i, 1, rfl, rfl, dx, _, h1, by show 2 < 1000; decide, k _ ((Exb.ex e1).trans Exb.upd) ⟨dx, ?_, ?_, h3⟩⟩
  · rw [upd_same]
    rfl
  · rw [upd_ne (ne_of h2 h1 (by intro z; cases z))]
    exact h2
theorem q_next (T : NoAttr K (He.ga K "Lines") "at") (c : Cls K (He.ga K "Lines")) (h : Ln K o R rows i H) (ho : Ev ta σ H (.ref o)) (k : ∀ H1, Exb o H H1 → Ln K o R rows (i + 1) H1 → tz D σ H1) : tSeq (sFldAug K ta (tC (.int 1)) rAdd "at") tz D σ H := s_next (D := { D with nx := tz D }) T c h ho k
theorem ev_lstrip {a b : Str} (ho : Ev ta σ H (.str a)) (he : Ev te σ H (.str b)) (ha : a.length ≤ 90000) : Ev (tM1 (fun x xs H Q => ∃ a b, x = .str a ∧ xs = [.str b] ∧ a.length ≤ sizeLine ∧ Q (.str (Txt.lstripChars a b)) H) ta te) σ H (.str (Txt.lstripChars a b)) := fun H1 e Q q =>
  ho H1 e _ fun H2 e2 => ⟨⟨a, rfl⟩, he H2 (e.trans e2) _ fun H3 e3 => ⟨a, b, rfl, rfl, sz_of (by omega), q H3 (e2.trans e3)⟩⟩
end
section
variable {P : Program} {w : World} {K : PySem.W.Frag} {mg : Str → Option Value} {base : Heap}
def spIsEnd (K : PySem.W.Frag) : Sp := fun vs H Q _ => ∃ (o R : Addr) (rows : List Str) (i : Nat), vs = [.ref o] ∧ Ln K o R rows i H ∧ RetV (.bl (decide (i = rows.length))) H Q
theorem ok_is_end (T : Txt w K mg) : MOk P w K mg base 1 "is_end" (spIsEnd K) := by
  refine mok T.f_L_is_end sc_L_is_end (fun _ _ _ _ _ _ us hl => match us, hl with | [_], _ => rfl) (fun vs H Q E h => ?_) (fun cdv A outer s H vs Q E hr h => ?_)
  · obtain ⟨o, _, _, _, rfl, _⟩ := h
    rfl
  obtain ⟨o, R, rows, i, rfl, h, k⟩ := h
  have nd := sc_L_is_end.nd
  refine ⟨_, (pss_one (ps_ret (pe_cmpR op_eq (pe_fld (pv 0) rfl) (pe_callB call_len_seq (by rfl) T.z_len PySem.boot_len (pa_cons (pe_fld (pv 0) rfl) pa_nil)) (nomark _)))), ?_⟩
  refine s_ret (ev_is (ev_op (ev_atF T.no_at T.cl h (ev_var rfl)) (ev_len (ev_rows T.no_rows T.cl h (ev_var rfl)) h.sq) (rv_eq rfl)) ?_) k
  rw [List.length_map]
  congr 1
  by_cases e : i = rows.length
  · rw [e, decide_eq_true rfl, decide_eq_true rfl]
  · rw [decide_eq_false e, decide_eq_false fun z => e (by have := V.int.inj z; omega)]
def spSpaces (K : PySem.W.Frag) : Sp := fun vs H Q _ => ∃ (o R : Addr) (rows : List Str) (i d : Nat) (ws : List Str), vs = [.ref o] ∧ Ln K o R rows i H ∧ rows[i]? = some (ind d ++ jn ws) ∧ Ws ws ∧ RetV (.int (2 * d)) H Q
theorem ok_spaces (T : Txt w K mg) : MOk P w K mg base 1 "spaces" (spSpaces K) := by
  refine mok T.f_L_spaces sc_L_spaces (fun _ _ _ _ _ _ us hl => match us, hl with | [_], _ => rfl) (fun vs H Q E h => ?_) (fun cdv A outer s H vs Q E hr h => ?_)
  · obtain ⟨o, _, _, _, _, _, rfl, _⟩ := h
    rfl
  obtain ⟨o, R, rows, i, d, ws, rfl, h, hrow, hws, k⟩ := h
  have nd := sc_L_spaces.nd
  refine ⟨_, (pss_cons (ps_set (i := 1) nd rfl (Or.inl rfl) (pe_ix ix_list (pe_fld (pv 0) rfl) (pe_fld (pv 0) rfl) (fun _ _ => rfl))) (pss_one (ps_ret (pe_op op_sub (pe_callB call_len_str (by rfl) T.z_len PySem.boot_len (pa_cons (pv 1) pa_nil)) (pe_callB call_len_str (by rfl) T.z_len PySem.boot_len (pa_cons (pe_m1 PySem.F.slot_str_lstrip PySem.F.type_str_lstrip mt_lstripChars (pv 1) pe_str) pa_nil)))))), ?_⟩
  have hl := h.row hrow
  have hst := row_strip (d := d) hws
  refine q_asg (v := .str (ind d ++ jn ws)) (ev_op (ev_rows T.no_rows T.cl h (ev_var rfl)) (ev_atF T.no_at T.cl h (ev_var rfl)) (rv_ixL h.sq (atI_nat (by rw [List.getElem?_map, hrow]; rfl)))) fun H1 e1 => ?_
  refine s_ret (ev_is (ev_op (ev_lenStr (ev_var rfl) (by omega)) (ev_lenStr (ev_lstrip (ev_var rfl) ev_c (by omega)) (by omega)) rv_I0) ?_) fun H2 e2 => k H2 (e1.trans e2)
  congr 1
  omega
def spIsNext (K : PySem.W.Frag) : Sp := fun vs H Q _ => ∃ (o R : Addr) (rows : List Str) (i d : Nat) (wd : Str), vs = [.ref o, .int d, .str wd] ∧ Ln K o R rows i H ∧ i ≤ rows.length ∧ d ≤ 11 ∧ wd.length ≤ 8 ∧ RetV (.bl (decide (rows[i]? = some (ind d ++ wd)))) H Q
theorem ok_is_next (T : Txt w K mg) : MOk P w K mg base 2 "is_next" (spIsNext K) := by
  have G_is_end : MOk P w K mg base 1 "is_end" (spIsEnd K) := ok_is_end T
  refine mok T.f_L_is_next sc_L_is_next (fun _ _ _ _ _ _ us hl => match us, hl with | [_, _, _], _ => rfl) (fun vs H Q E h => ?_) (fun cdv A outer s H vs Q E hr h => ?_)
  · obtain ⟨o, _, _, _, _, _, rfl, _⟩ := h
    rfl
  obtain ⟨o, R, rows, i, d, wd, rfl, h, hi, hd, hwd, k⟩ := h
  have nd := sc_L_is_next.nd
  refine ⟨_, (pss_one (ps_ret (pe_and (pe_not (pe_m0 G_is_end T.cl T.m_is_end (hr.mono (by omega)) (pv 0))) (pe_one (pe_cmpR op_eq (pe_ix ix_list (pe_fld (pv 0) rfl) (pe_fld (pv 0) rfl) (fun _ _ => rfl)) (pe_op op_add_str (pe_op op_mulS (pe_gs T.t_STEP) (pv 1)) (pv 2)) (nomark _)))))), ?_⟩
  have hind := ind_len d
  refine s_ret (ev_is (ev_andV (a := !decide (i = rows.length)) (b := decide (rows[i]? = some (ind d ++ wd))) (ev_notV (ev_meth h (ev_var rfl) ea_nil fun H1 e1 Q' q E' => ⟨o, R, rows, i, rfl, h.ex e1, q⟩)) fun hne => ?_) ?_) k
  · have hlt : i < rows.length := by
      rw [Bool.not_eq_true', decide_eq_false_iff_not] at hne
      omega
    rw [List.getElem?_eq_getElem hlt]
    have hl := h.row (List.getElem?_eq_getElem hlt)
    refine ev_is (ev_eqS (x := rows[i]) (ev_op (ev_rows T.no_rows T.cl h (ev_var rfl)) (ev_atF T.no_at T.cl h (ev_var rfl)) (rv_ixL h.sq (atI_nat (by rw [List.getElem?_map, List.getElem?_eq_getElem hlt]; rfl)))) (ev_addS (x := ind d) (y := wd) (ev_op (x := .str "  ") (y := .int d) ev_c (ev_var rfl) fun H1 e1 Q' q => ?_) (ev_var rfl) (by omega))) ?_
    · refine ⟨"  ", d, rfl, rfl, by omega, by decide +kernel, ?_⟩
      rw [mul_ind d hd]
      exact q H1 (Ex.refl H1)
    · congr 1
      by_cases e : rows[i] = ind d ++ wd
      · rw [decide_eq_true e, decide_eq_true (congrArg some e)]
      · rw [decide_eq_false e, decide_eq_false fun z => e (Option.some.inj z)]
  · congr 1
    by_cases e : i = rows.length
    · rw [decide_eq_true e, Bool.not_true, Bool.false_and, decide_eq_false]
      rw [e, List.getElem?_eq_none (Nat.le_refl _)]
      intro z
      cases z
    · rw [decide_eq_false e, Bool.not_false, Bool.true_and]
end
end K7
set_option maxHeartbeats 4000000
/-! reading blocks: read_inner, read_block, read_statement, read_other -/
namespace K7
open PySem PySem.Spec PyProof.Rows L2 Evl
/-! ### what follows a block, a statement -/
def PostB (d : Nat) (post : List Str) : Prop := post = [] ∨ ∃ d' ws r, post = (ind d' ++ jn ws) :: r ∧ Ws ws ∧ d' < d
def PostS (d : Nat) (post : List Str) : Prop := post = [] ∨ ∃ d' ws r, post = (ind d' ++ jn ws) :: r ∧ Ws ws ∧ d' ≤ d ∧ (d' = d → ws ≠ [("else" : Str)])
theorem PostB.s {d : Nat} {post : List Str} (h : PostB d post) : PostS d post := by
  rcases h with h | ⟨d', ws, r, h1, h2, h3⟩
  · exact .inl h
  · exact .inr ⟨d', ws, r, h1, h2, by omega, by omega⟩
theorem PostS.b {d : Nat} {post : List Str} (h : PostS d post) : PostB (d + 1) post := by
  rcases h with h | ⟨d', ws, r, h1, h2, h3, _⟩
  · exact .inl h
  · exact .inr ⟨d', ws, r, h1, h2, by omega⟩
theorem linesS_head (d : Nat) (s : Stm) : ∃ r, linesS d s = (ind d ++ jn (headW s)) :: r := by
  cases s with
  | pln p => exact ⟨_, by rw [linesS]; rfl⟩
  | iff t y n => exact ⟨_, by rw [linesS]; rfl⟩
  | rep k b => exact ⟨_, by rw [linesS]; rfl⟩
theorem linesL_head {d : Nat} {s : Stm} {r : List Stm} : ∃ q, linesL d (s :: r) = (ind d ++ jn (headW s)) :: q := by
  obtain ⟨q, e⟩ := linesS_head d s
  exact ⟨q ++ linesL d r, by rw [linesL, e]; rfl⟩
theorem post_next {g d : Nat} (hg : g ≤ 3) {r : List Stm} {post : List Str} (hr : okL g r) (h : PostB d post) : PostS d (linesL d r ++ post) := by
  cases r with
  | nil =>
    rw [linesL]
    exact h.s
  | cons s q =>
    obtain ⟨u, e⟩ := linesL_head (d := d) (s := s) (r := q)
    rw [e]
    exact .inr ⟨d, headW s, u ++ post, rfl, ws_head hg hr.1, Nat.le_refl _, fun _ => head_ne1 s _⟩
theorem post_else {d : Nat} {l post : List Str} (h : PostS d post) : PostB (d + 1) (elseOf d l ++ post) := by
  cases l with
  | nil => exact h.b
  | cons a r => exact .inr ⟨d, ["else"], (a :: r) ++ post, rfl, ws_else, by omega⟩
theorem drop_cons {l : List Str} {i : Nat} {x : Str} {r : List Str} (h : l.drop i = x :: r) : l[i]? = some x ∧ l.drop (i + 1) = r ∧ i < l.length := by
  have h1 : i < l.length := by
    by_cases hlt : i < l.length
    · exact hlt
    · rw [List.drop_of_length_le (by omega)] at h
      cases h
  refine ⟨?_, ?_, h1⟩
  · have := congrArg (·[0]?) h
    simpa using this
  · have := congrArg List.tail h
    simpa using this
theorem drop_nil {l : List Str} {i : Nat} (h : l.drop i = []) (hi : i ≤ l.length) : i = l.length := by
  have := List.drop_eq_nil_iff.mp h
  omega
theorem lines_ge (d : Nat) : ∀ b : List Stm, b.length ≤ (linesL d b).length
  | [] => Nat.zero_le _
  | s :: r => by
    obtain ⟨q, e⟩ := linesS_head d s
    have := lines_ge d r
    rw [linesL, e, List.length_append, List.length_cons, List.length_cons]
    omega
theorem Exb.keepI {F C dx : Addr} {fs : List (Str × V)} {H H1 : Hp} (a : Exb F H H1) (h : H F = some (.ins C dx fs)) : Keep H H1 := fun b => ⟨fun ys hb => a b _ (ne_of hb h (by intro z; cases z)) hb, fun o u hb => a b _ (ne_of hb h (by intro z; cases z)) hb⟩
/-! ### contracts -/
section
variable {P : Program} {w : World} {K : PySem.W.Frag} {mg : Str → Option Value} {base : Heap}
def RdK (K : PySem.W.Frag) (o R : Addr) (rows : List Str) (j : Nat) (d : PyData) (H : Hp) (Q : VK) : Prop := ∀ v H', Exb o H H' → Ln K o R rows j H' → Dp K H' v d → Q v H'
def spBlockR (K : PySem.W.Frag) (n : Nat) : Sp := fun vs H Q _ => ∃ (o R : Addr) (rows : List Str) (i d g : Nat) (b : List Stm) (post : List Str), vs = [.ref o, .int d] ∧ Ln K o R rows i H ∧ g ≤ 3 ∧ okL g b ∧ htL b < n ∧ d + htL b ≤ 10 ∧ i ≤ rows.length ∧
  rows.drop i = linesL d b ++ post ∧ PostB d post ∧ RdK K o R rows (i + (linesL d b).length) (.tuple (encL b)) H Q
def spStmR (K : PySem.W.Frag) (n : Nat) : Sp := fun vs H Q _ => ∃ (o R : Addr) (rows : List Str) (i d g : Nat) (s : Stm) (post : List Str), vs = [.ref o, .int d] ∧ Ln K o R rows i H ∧ g ≤ 3 ∧ okS g s ∧ htS s < n ∧ d + htS s ≤ 10 ∧
  rows.drop i = linesS d s ++ post ∧ PostS d post ∧ RdK K o R rows (i + (linesS d s).length) (encS s) H Q
def inL (cp : Bool) (d : Nat) (b : List Stm) : List Str := if cp = true then passOr d (linesL d b) else linesL d b
def spInnerR (K : PySem.W.Frag) (n : Nat) : Sp := fun vs H Q _ => ∃ (o R : Addr) (rows : List Str) (i d g : Nat) (cp : Bool) (b : List Stm) (post : List Str), vs = [.ref o, .int d, .bl cp] ∧ Ln K o R rows i H ∧ g ≤ 3 ∧ okL g b ∧ htL b < n ∧ d + htL b ≤ 10 ∧
  (cp = false → b ≠ []) ∧ rows.drop i = inL cp d b ++ post ∧ PostB d post ∧ RdK K o R rows (i + (inL cp d b).length) (.tuple (encL b)) H Q
def spOtherR (K : PySem.W.Frag) (n : Nat) : Sp := fun vs H Q _ => ∃ (o R : Addr) (rows : List Str) (i d g : Nat) (b : List Stm) (post : List Str), vs = [.ref o, .int d] ∧ Ln K o R rows i H ∧ i ≤ rows.length ∧ g ≤ 3 ∧ okL g b ∧ htL b < n ∧ d + 1 + htL b ≤ 10 ∧
  rows.drop i = elseOf d (linesL (d + 1) b) ++ post ∧ PostS d post ∧ RdK K o R rows (i + (elseOf d (linesL (d + 1) b)).length) (.tuple (encL b)) H Q
theorem ev_2d {σ : L2.St} {H : Hp} {k d : Nat} (h : σ[k]? = some (some (.int d))) (hd : d ≤ 10) : Ev (tOp (rI CMul fun i j => .int (i * j)) (tC (.int 2)) (tVar k)) σ H (.int ((2 * d : Nat) : Int)) :=
  ev_is (ev_op ev_c (ev_var h) (rv_I (.inl ⟨by omega, by omega⟩))) (by congr 1)
section
variable {σ : L2.St} {H : Hp} {ta te : TE} {D : Ends}
theorem s_appQ {l : Addr} {xs : List V} (hl : H l = some (.lst xs)) (ha : Ev ta σ H (.ref l)) (h : ∀ H1, Ex H H1 → te σ H1 (fun v H2 => rAppend (.ref l) [v] H2 (fun _ H3 => D.nx σ H3))) : tDrop (tBM K "list" rAppend ta (tCons te tNil)) D σ H :=
  ha H (Ex.refl H) _ fun H1 e1 => ⟨Or.inl ⟨rfl, xs, sq_of (e1 l _ hl)⟩, h H1 e1⟩
theorem q_parPP {i j : Nat} {ta tb : TE} {R1 R2 : V → Hp → Prop} {tz : TS} (ha : EvP ta σ H R1) (hb : EvP tb σ H R2) (k : ∀ v u H1 H2, Ex H H1 → R1 v H1 → Ex H1 H2 → R2 u H2 → tz D ((σ.set i (some v)).set j (some u)) H2) : tSeq (tPar i j (tCons ta (tCons tb tNil))) tz D σ H :=
  ha H (Ex.refl H) _ fun v H1 e1 h1 => hb H1 e1 _ fun u H2 e2 h2 => ⟨v, u, rfl, k v u H1 H2 e1 h1 e2 h2⟩
theorem q_asgT1 {i : Nat} {tz : TS} (h : te σ H (fun x H1 => [x].length ≤ sizeLine ∧ ∀ p, H1 p = none → tz D (σ.set i (some (.ref p))) (upd H1 p (.tup [x])))) : tSeq (tAsg (tTup (tCons te tNil)) (gName i)) tz D σ H := h
theorem s_augT1 {i : Nat} {x : V} {r : R2} (hx : σ[i]? = some (some x)) (h : te σ H (fun v H1 => [v].length ≤ sizeLine ∧ ∀ p, H1 p = none → r x (.ref p) (upd H1 p (.tup [v])) fun z H2 => D.nx (σ.set i (some z)) H2)) : tAug i (tTup (tCons te tNil)) r D σ H := ⟨x, hx, h⟩
theorem eu_tupOf {l : Addr} {xs : List V} (ha : Ev te σ H (.ref l)) (hs : SqL K H l xs) : EvU (tCB (fun xs H Q => ∃ p ys, xs = [.ref p] ∧ ((SqL K H p ys ∧ ∀ l, H l = none → Q (.ref l) (upd H l (.tup ys))) ∨ (SqT K H p ys ∧ Q (.ref p) H))) (tCons te tNil)) σ H xs := fun H1 e Q q =>
  ha H1 e _ fun H2 e2 => ⟨l, xs, rfl, .inl ⟨ex_l (e.trans e2) hs, fun o ho => q o _ (fresh_back e2 ho) (e2.trans (Ex.new ho)) upd_same⟩⟩
end
theorem encL_take {j : Nat} {b : List Stm} {s : Stm} (h : b[j]? = some s) : encL (b.take (j + 1)) = encL (b.take j) ++ [encS s] := by
  rw [encL_map, encL_map, List.take_add_one, h, List.map_append]
  rfl
theorem okL_drop {g : Nat} : ∀ {b : List Stm} (j : Nat), okL g b → okL g (b.drop j)
  | b, 0, h => by rw [List.drop_zero]; exact h
  | [], j + 1, _ => by rw [List.drop_nil]; trivial
  | s :: r, j + 1, h => okL_drop (b := r) j h.2
theorem ok_read_block (T : Txt w K mg) {n : Nat} (h : MOk P w K mg base (4 * n + 7) "read_statement" (spStmR K n)) : MOk P w K mg base (4 * n + 8) "read_block" (spBlockR K n) := by
  have G_is_end : MOk P w K mg base 1 "is_end" (spIsEnd K) := ok_is_end T
  have G_spaces : MOk P w K mg base 1 "spaces" (spSpaces K) := ok_spaces T
  have G_read_statement := h
  refine mok T.f_L_read_block sc_L_read_block (fun _ _ _ _ _ _ us hl => match us, hl with | [_, _], _ => rfl) (fun vs H Q E h => ?_) (fun cdv A outer s H vs Q E hr h => ?_)
  · obtain ⟨o, _, _, _, _, _, _, _, rfl, _⟩ := h
    rfl
  obtain ⟨o, R, rows, i, d, g, b, post, rfl, hln, hg, hok, hht, hd, hi, hrem, hpost, k⟩ := h
  have nd := sc_L_read_block.nd
  refine ⟨_, (pss_cons (ps_set (i := 2) nd rfl (Or.inl rfl) (pe_lst pa_nil)) (pss_cons (ps_while PassesOwn.never (PW.pt (pw_and (pt_not (pt_val (pe_m0 G_is_end T.cl T.m_is_end (hr.mono (by omega)) (pv 0)))) (pw_and1 (pt_cmpR op_ge (pe_m0 G_spaces T.cl T.m_spaces (hr.mono (by omega)) (pv 0)) (pe_op op_mul pe_int (pv 1)) (nomark _))))) (pss_cons (ps_if (pt_cmpR op_gt (pe_m0 G_spaces T.cl T.m_spaces (hr.mono (by omega)) (pv 0)) (pe_op op_mul pe_int (pv 1)) (nomark _)) (pss_one ps_never) pss_nil) (pss_one (ps_expr (pe_bm PySem.F.plainAttrs_list PySem.F.slot_list_append PySem.F.type_list_append mt_append (pv 2) (pa_cons (pe_m G_read_statement T.cl T.m_read_statement (hr.mono (by omega)) (pv 0) (pa_cons (pv 1) pa_nil)) pa_nil)))))) (pss_one (ps_ret (pe_callTy call_tuple_of (by rfl) T.z_tuple (by decide +kernel) (pa_cons (pv 2) pa_nil)))))), ?_⟩
  have hlenR : rows.length ≤ 200 := by
    obtain ⟨_, _, _, h3, _⟩ := hln
    exact h3
  have hll : (linesL d b).length + post.length = rows.length - i := by
    have := congrArg List.length hrem
    rw [List.length_drop, List.length_append] at this
    omega
  have hbl := lines_ge d b
  refine q_asgL (el_lst ea_nil (by decide)) fun L H1 hL e1 hL1 => ?_
  refine q_while (fun m σ' H' => ∃ (j : Nat) (us : List V), m = b.length - j ∧ j ≤ b.length ∧ σ' = [some (.ref o), some (.int d), some (.ref L)] ∧ Exb o H H' ∧ Ln K o R rows (i + (linesL d (b.take j)).length) H' ∧ H' L = some (.lst us) ∧ DpAll K H' us (encL (b.take j))) b.length
    ⟨0, [], rfl, Nat.zero_le _, rfl, Exb.ex e1, by rw [List.take_zero, linesL]; exact hln.ex e1, hL1, by rw [List.take_zero, encL]; exact .nil⟩ ?_
  rintro m σ' H' ⟨j, us, rfl, hj, rfl, e, hln', hLs, hus⟩
  have hsplit : linesL d b = linesL d (b.take j) ++ linesL d (b.drop j) := by rw [← linesL_append, List.take_append_drop]
  have hrem' : rows.drop (i + (linesL d (b.take j)).length) = linesL d (b.drop j) ++ post := by rw [← List.drop_drop, hrem, hsplit, List.append_assoc, List.drop_left]
  have hul : us.length = j := by
    rw [dpAll_len hus, encL_map, List.length_map, List.length_take]
    omega
  by_cases hlt : j < b.length
  · have hst : b[j]? = some b[j] := List.getElem?_eq_getElem hlt
    have hdr := List.drop_eq_getElem_cons hlt
    generalize b[j] = s at *
    have hokS := get_ok hok hst
    have hcS := get_cn hst
    rw [hdr] at hrem'
    obtain ⟨q, hq⟩ := linesL_head (d := d) (s := s) (r := b.drop (j + 1))
    have hrow := drop_cons (by rw [hrem', hq]; rfl)
    have hws := ws_head hg hokS
    have hne : i + (linesL d (b.take j)).length ≠ rows.length := by omega
    refine ⟨true, et_and (a := true) (b := true) (et_not (a := false) (et_is (et_B (ev_meth hln' (ev_var rfl) ea_nil fun H2 e2 Q' q E' => ⟨o, R, rows, _, rfl, hln'.ex e2, q⟩)) (decide_eq_false hne))) fun _ => et_is (et_test (ev_op (ev_meth hln' (ev_var rfl) ea_nil fun H2 e2 Q' q E' => ⟨o, R, rows, _, d, _, rfl, hln'.ex e2, hrow.1, hws, q⟩) (ev_2d rfl (by omega)) rv_I0)) (decide_eq_true (by omega)), fun _ H2 e2 =>
      ⟨fun σ2 H3 => ∃ (us : List V), σ2 = [some (.ref o), some (.int d), some (.ref L)] ∧ Exb o H H3 ∧ Ln K o R rows (i + (linesL d (b.take (j + 1))).length) H3 ∧ H3 L = some (.lst us) ∧ DpAll K H3 us (encL (b.take (j + 1))), fun σ2 H3 ⟨us2, h1, h2, h3, h4, h5⟩ => ⟨b.length - (j + 1), by omega, j + 1, us2, rfl, hlt, h1, h2, h3, h4, h5⟩, ?_⟩, fun h => Bool.noConfusion h⟩
    have hln2 := hln'.ex e2
    refine q_when (b := false) (et_is (et_test (ev_op (ev_meth hln2 (ev_var rfl) ea_nil fun H3 e3 Q' q E' => ⟨o, R, rows, _, d, _, rfl, hln2.ex e3, hrow.1, hws, q⟩) (ev_2d rfl (by omega)) rv_I0)) (decide_eq_false (by omega))) (fun h => Bool.noConfusion h) fun _ H3 e3 => ?_
    refine s_appQ (K := K) (l := L) (xs := us) (e3 L _ (e2 L _ hLs)) (ev_var rfl) fun H4 e4 => ?_
    have e24 := (e2.trans e3).trans e4
    refine t_meth (hln'.ex e24) (ev_var rfl) (ea_cons (ev_var rfl) ea_nil) fun H5 e5 => ?_
    have hln5 := (hln'.ex e24).ex e5
    have hL5 := e5 L _ (e24 L _ hLs)
    refine ⟨o, R, rows, _, d, g, s, linesL d (b.drop (j + 1)) ++ post, rfl, hln5, hg, hokS, by omega, by omega, by rw [hrem', linesL, List.append_assoc], post_next hg (okL_drop (j + 1) hok) hpost, fun v H6 e6 hln6 hv => ?_⟩
    have k56 : Keep H5 H6 := hln5.keep e6
    have hLo : L ≠ o := by
      obtain ⟨dx, h1, _⟩ := hln5
      exact ne_of hL5 h1 (by intro z; cases z)
    have hL6 := e6 L _ hLo hL5
    have kU : Keep H6 (upd H6 L (.lst (us ++ [v]))) := keep_upd hL6
    have hnoA : noLA (encL (b.take j)) = true := noL_L _
    refine ⟨L, us, v, rfl, rfl, hL6, sz_lt (by omega), us ++ [v], rfl, ?_, ?_, upd_same, ?_⟩
    · intro c ob hc hh
      have hcL : c ≠ L := ne_of_none hh hL
      rw [upd_ne hcL]
      exact ((e.trans (Exb.ex (e24.trans e5))).trans e6) c ob hc hh
    · rw [linesL_take hst, List.length_append, ← Nat.add_assoc]
      obtain ⟨dx, h1, h2, h3⟩ := hln6
      refine ⟨dx, ?_, ?_, h3⟩
      · rw [upd_ne hLo.symm]
        exact h1
      · have hRL : R ≠ L := by
          intro z
          subst z
          obtain ⟨_, _, hR0, _⟩ := hln
          rw [hL] at hR0
          cases hR0
        rw [upd_ne hRL]
        exact h2
    · rw [encL_take hst]
      exact dpAll_app (keep_dpA kU hnoA (keep_dpA k56 hnoA (same_dpAll (e24.trans e5) hus))) (.cons (keep_dp kU (noL_S s) hv) .nil)
  · have ej : j = b.length := by omega
    subst ej
    rw [List.drop_length, linesL, List.nil_append] at hrem'
    rw [List.take_length] at hln' hus hrem'
    refine ⟨false, ?_, fun h => Bool.noConfusion h, fun _ H2 e2 => s_retU (eu_tupOf (K := K) (ev_var rfl) (sq_of (e2 L _ hLs))) fun p H3 hp e3 h3 => k (.ref p) H3 ((e.trans (Exb.ex e2)).trans (Exb.ex e3)) ((hln'.ex e2).ex e3) (.tup (st_of h3) (same_dpAll (e2.trans e3) hus))⟩
    rcases hpost with rfl | ⟨d', ws, r, rfl, hws, hlt2⟩
    · have hen := drop_nil hrem' (by rw [List.length_nil] at hll; omega)
      exact et_and (a := false) (b := true) (et_not (a := true) (et_is (et_B (ev_meth hln' (ev_var rfl) ea_nil fun H2 e2 Q' q E' => ⟨o, R, rows, _, rfl, hln'.ex e2, q⟩)) (decide_eq_true hen))) fun h => Bool.noConfusion h
    · have hrow := drop_cons hrem'
      exact et_and (a := true) (b := false) (et_not (a := false) (et_is (et_B (ev_meth hln' (ev_var rfl) ea_nil fun H2 e2 Q' q E' => ⟨o, R, rows, _, rfl, hln'.ex e2, q⟩)) (decide_eq_false (by omega)))) fun _ => et_is (et_test (ev_op (ev_meth hln' (ev_var rfl) ea_nil fun H2 e2 Q' q E' => ⟨o, R, rows, _, d', ws, rfl, hln'.ex e2, hrow.1, hws, q⟩) (ev_2d rfl (by omega)) rv_I0)) (decide_eq_false (by omega))
theorem ok_read_inner (T : Txt w K mg) {n : Nat} (h : MOk P w K mg base (4 * n + 8) "read_block" (spBlockR K n)) : MOk P w K mg base (4 * n + 9) "read_inner" (spInnerR K n) := by
  have G_is_end : MOk P w K mg base 1 "is_end" (spIsEnd K) := ok_is_end T
  have G_spaces : MOk P w K mg base 1 "spaces" (spSpaces K) := ok_spaces T
  have G_is_next : MOk P w K mg base 2 "is_next" (spIsNext K) := ok_is_next T
  have G_read_block := h
  refine mok T.f_L_read_inner sc_L_read_inner (fun _ _ _ _ _ _ us hl => match us, hl with | [_, _, _], _ => rfl) (fun vs H Q E h => ?_) (fun cdv A outer s H vs Q E hr h => ?_)
  · obtain ⟨o, _, _, _, _, _, _, _, _, rfl, _⟩ := h
    rfl
  obtain ⟨o, R, rows, i, d, g, cp, b, post, rfl, hln, hg, hok, hht, hd, hcp, hrem, hpost, k⟩ := h
  have nd := sc_L_read_inner.nd
  refine ⟨_, (pss_cons (ps_if (PW.pt (pw_and (pt_val (pv 2)) (pw_and1 (pt_val (pe_m G_is_next T.cl T.m_is_next (hr.mono (by omega)) (pv 0) (pa_cons (pv 1) (pa_cons pe_str pa_nil))))))) (pss_cons (ps_fldaug (pv 0) pe_int in_add) (pss_one (ps_ret (pe_tup pa_nil)))) pss_nil) (pss_cons (ps_if (PW.pt (pw_or (pt_val (pe_m0 G_is_end T.cl T.m_is_end (hr.mono (by omega)) (pv 0))) (pw_or1 (pt_cmpR op_ne (pe_m0 G_spaces T.cl T.m_spaces (hr.mono (by omega)) (pv 0)) (pe_op op_mul pe_int (pv 1)) (nomark _))))) (pss_one ps_never) pss_nil) (pss_one (ps_ret (pe_m G_read_block T.cl T.m_read_block (hr.mono (by omega)) (pv 0) (pa_cons (pv 1) pa_nil)))))), ?_⟩
  have h11 : d ≤ 10 := by omega
  have hpl : ("pass" : Str).length = 4 := by decide +kernel
  have hp1 : ("pass" : Str) = jn ["pass"] := rfl
  have hi : i < rows.length ∧ ∃ x q, inL cp d b = x :: q := by
    cases b with
    | nil =>
      cases cp with
      | false => exact absurd rfl (hcp rfl)
      | true =>
        have e : inL true d [] = [ind d ++ "pass"] := by
          unfold inL
          rw [if_pos rfl, linesL]
          rfl
        rw [e] at hrem
        exact ⟨(drop_cons hrem).2.2, _, _, e⟩
    | cons s r =>
      obtain ⟨q, hq⟩ := linesL_head (d := d) (s := s) (r := r)
      have e : inL cp d (s :: r) = (ind d ++ jn (headW s)) :: q := by
        unfold inL
        rw [hq]
        cases cp <;> rfl
      rw [e] at hrem
      exact ⟨(drop_cons hrem).2.2, _, _, e⟩
  have hnext : ∀ {σ : L2.St} {H1 : Hp}, Ex H H1 → σ[0]? = some (some (.ref o)) → σ[1]? = some (some (.int d)) → EvT (tB (tMeth (He.ga K "Lines") "is_next" (spIsNext K) [] E0 (tVar 0) (tCons (tVar 1) (tCons (tC (.str "pass")) tNil)))) σ H1 (decide (rows[i]? = some (ind d ++ "pass"))) := fun e1 h0 h1 =>
    et_B (ev_meth (hln.ex e1) (ev_var h0) (ea_cons (ev_var h1) (ea_cons ev_c ea_nil)) fun H2 e2 Q' q E' => ⟨o, R, rows, i, d, "pass", rfl, (hln.ex e1).ex e2, by omega, by omega, by omega, q⟩)
  cases b with
  | nil =>
    cases cp with
    | false => exact absurd rfl (hcp rfl)
    | true =>
      have e : inL true d [] = [ind d ++ "pass"] := by
        unfold inL
        rw [if_pos rfl, linesL]
        rfl
      rw [e] at hrem k
      have hrow := drop_cons hrem
      refine q_when (b := true) (et_and (a := true) (b := true) (et_B (ev_var rfl)) fun _ => et_is (hnext (Ex.refl H) rfl rfl) (decide_eq_true hrow.1)) (fun _ H1 e1 => ?_) fun h => Bool.noConfusion h
      refine q_next T.no_at T.cl (hln.ex e1) (ev_var rfl) fun H2 e2 hln2 => ?_
      exact s_retU (eu_tup ea_nil (by decide)) fun p H3 hp e3 h3 => k (.ref p) H3 (((Exb.ex e1).trans e2).trans (Exb.ex e3)) (hln2.ex e3) (by rw [encL]; exact .tup (st_of h3) .nil)
  | cons s r =>
    obtain ⟨q, hq⟩ := linesL_head (d := d) (s := s) (r := r)
    have hws := ws_head hg hok.1
    have e : inL cp d (s :: r) = linesL d (s :: r) := by
      unfold inL
      rw [hq]
      cases cp <;> rfl
    rw [e] at hrem k
    have hrow := drop_cons (by rw [hrem, hq]; rfl)
    have hno : decide (rows[i]? = some (ind d ++ "pass")) = false := by
      rw [hrow.1]
      refine decide_eq_false fun z => ?_
      have z1 := Option.some.inj z
      rw [hp1] at z1
      exact head_ne1 s _ (row_inj hws ws_pass z1).2
    refine q_when (b := false) (et_is (et_and (a := cp) (b := false) (et_B (ev_var rfl)) fun _ => et_is (hnext (Ex.refl H) rfl rfl) hno) (Bool.and_false _)) (fun h => Bool.noConfusion h) fun _ H1 e1 => ?_
    have hln1 := hln.ex e1
    refine q_when (b := false) ?_ (fun h => Bool.noConfusion h) fun _ H2 e2 => ?_
    · refine et_is (et_or (a := false) (b := false) ?_ fun _ => ?_) rfl
      · exact et_is (et_B (ev_meth hln1 (ev_var rfl) ea_nil fun H2 e2 Q' q E' => ⟨o, R, rows, _, rfl, hln1.ex e2, q⟩)) (decide_eq_false (by omega))
      · refine et_test (ev_is (ev_op (x := .int (2 * d)) (ev_meth hln1 (ev_var rfl) ea_nil fun H2 e2 Q' q E' => ⟨o, R, rows, _, d, _, rfl, hln1.ex e2, hrow.1, hws, q⟩) (ev_2d rfl h11) (rv_ne rfl)) ?_)
        have e2 : (V.int (2 * (d : Int))) = V.int ((2 * d : Nat) : Int) := by rw [Int.natCast_mul]; rfl
        rw [e2, decide_eq_true rfl]
        rfl
    refine t_meth (hln1.ex e2) (ev_var rfl) (ea_cons (ev_var rfl) ea_nil) fun H3 e3 => ?_
    exact ⟨o, R, rows, i, d, g, s :: r, post, rfl, (hln1.ex e2).ex e3, hg, hok, hht, hd, by omega, hrem, hpost, fun v H4 e4 hln4 hv => k v H4 ((Exb.ex ((e1.trans e2).trans e3)).trans e4) hln4 hv⟩
theorem ok_read_other (T : Txt w K mg) {n : Nat} (h : MOk P w K mg base (4 * n + 9) "read_inner" (spInnerR K n)) : MOk P w K mg base (4 * n + 10) "read_other" (spOtherR K n) := by
  have G_is_next : MOk P w K mg base 2 "is_next" (spIsNext K) := ok_is_next T
  have G_read_inner := h
  refine mok T.f_L_read_other sc_L_read_other (fun _ _ _ _ _ _ us hl => match us, hl with | [_, _], _ => rfl) (fun vs H Q E h => ?_) (fun cdv A outer s H vs Q E hr h => ?_)
  · obtain ⟨o, _, _, _, _, _, _, _, rfl, _⟩ := h
    rfl
  obtain ⟨o, R, rows, i, d, g, b, post, rfl, hln, hi, hg, hok, hht, hd, hrem, hpost, k⟩ := h
  have nd := sc_L_read_other.nd
  refine ⟨_, (pss_cons (ps_if (pt_not (pt_val (pe_m G_is_next T.cl T.m_is_next (hr.mono (by omega)) (pv 0) (pa_cons (pv 1) (pa_cons pe_str pa_nil))))) (pss_one (ps_ret (pe_tup pa_nil))) pss_nil) (pss_cons (ps_fldaug (pv 0) pe_int in_add) (pss_one (ps_ret (pe_m G_read_inner T.cl T.m_read_inner (hr.mono (by omega)) (pv 0) (pa_cons (pe_op op_add (pv 1) pe_int) (pa_cons pe_bl pa_nil))))))), ?_⟩
  have h11 : d ≤ 11 := by omega
  have hpl : ("else" : Str).length = 4 := by decide +kernel
  have hp1 : ("else" : Str) = jn ["else"] := rfl
  have hnext : EvT (tB (tMeth (He.ga K "Lines") "is_next" (spIsNext K) [] E0 (tVar 0) (tCons (tVar 1) (tCons (tC (.str "else")) tNil)))) [some (.ref o), some (.int d)] H (decide (rows[i]? = some (ind d ++ "else"))) :=
    et_B (ev_meth hln (ev_var rfl) (ea_cons (ev_var rfl) (ea_cons ev_c ea_nil)) fun H2 e2 Q' q E' => ⟨o, R, rows, i, d, "else", rfl, hln.ex e2, hi, by omega, by omega, q⟩)
  cases b with
  | nil =>
    have e0 : elseOf d (linesL (d + 1) []) = [] := by rw [linesL]; rfl
    rw [e0] at hrem k
    have hno : decide (rows[i]? = some (ind d ++ "else")) = false := by
      refine decide_eq_false fun z => ?_
      rcases hpost with rfl | ⟨d', ws, r, rfl, hws, hle, hne⟩
      · have := drop_nil hrem hi
        rw [this, List.getElem?_eq_none (Nat.le_refl _)] at z
        cases z
      · have hrow := drop_cons hrem
        rw [hrow.1] at z
        have z1 := Option.some.inj z
        rw [hp1] at z1
        obtain ⟨h1, h2⟩ := row_inj hws ws_else z1
        exact hne h1 h2
    refine q_when (b := true) (et_not (a := false) (et_is hnext hno)) (fun _ H1 e1 => ?_) fun h => Bool.noConfusion h
    exact s_retU (eu_tup ea_nil (by decide)) fun p H3 hp e3 h3 => k (.ref p) H3 ((Exb.ex e1).trans (Exb.ex e3)) ((hln.ex e1).ex e3) (by rw [encL]; exact .tup (st_of h3) .nil)
  | cons s r =>
    obtain ⟨q, hq⟩ := linesL_head (d := d + 1) (s := s) (r := r)
    have e0 : elseOf d (linesL (d + 1) (s :: r)) = (ind d ++ "else") :: linesL (d + 1) (s :: r) := by rw [hq]; rfl
    rw [e0] at hrem k
    have hrow := drop_cons hrem
    refine q_when (b := false) (et_not (a := true) (et_is hnext (decide_eq_true hrow.1))) (fun h => Bool.noConfusion h) fun _ H1 e1 => ?_
    refine q_next T.no_at T.cl (hln.ex e1) (ev_var rfl) fun H2 e2 hln2 => ?_
    refine t_meth hln2 (ev_var rfl) (ea_cons (ev_op (ev_var rfl) ev_c rv_I0) (ea_cons ev_c ea_nil)) fun H3 e3 => ?_
    refine ⟨o, R, rows, i + 1, d + 1, g, false, s :: r, post, rfl, hln2.ex e3, hg, hok, hht, by omega, fun _ => List.cons_ne_nil _ _, hrow.2.1, hpost.b, fun v H4 e4 hln4 hv => k v H4 ((((Exb.ex e1).trans e2).trans (Exb.ex e3)).trans e4) ?_ hv⟩
    rw [List.length_cons]
    have e5 : i + ((linesL (d + 1) (s :: r)).length + 1) = i + 1 + (inL false (d + 1) (s :: r)).length := by
      show _ = i + 1 + (linesL (d + 1) (s :: r)).length
      omega
    rw [e5]
    exact hln4
theorem ok_read_statement (T : Txt w K mg) : ∀ n : Nat, MOk P w K mg base (4 * n + 7) "read_statement" (spStmR K n)
  | 0 => mok_none T.f_L_read_statement (ps := ["self", "depth"]) (fun _ _ _ _ _ _ us hl => match us, hl with | [_, _], _ => rfl) (fun vs H Q E ⟨o, R, rows, i, d, g, s, post, _, _, _, _, h, _⟩ => by omega) _
  | n + 1 => by
    have G_statement_of : FOk P w K mg base 6 "statement_of" (spStmOf K) := ok_statement_of T
    have G_head_of : FOk P w K mg base 6 "head_of" (spHeadOf K) := ok_head_of T
    have G_read_inner := ok_read_inner (P := P) (base := base) T (ok_read_block T (ok_read_statement T n))
    have G_read_other := ok_read_other (P := P) (base := base) T G_read_inner
    refine mok T.f_L_read_statement sc_L_read_statement (fun _ _ _ _ _ _ us hl => match us, hl with | [_, _], _ => rfl) (fun vs H Q E h => ?_) (fun cdv A outer s H vs Q E hr h => ?_)
    · obtain ⟨o, _, _, _, _, _, _, _, rfl, _⟩ := h
      rfl
    obtain ⟨o, R, rows, i, d, g, st, post, rfl, hln, hg, hok, hht, hd, hrem, hpost, k⟩ := h
    have nd := sc_L_read_statement.nd
    refine ⟨_, (pss_cons (ps_set (i := 2) nd rfl (Or.inl rfl) (pe_slice sl_str (pe_ix ix_list (pe_fld (pv 0) rfl) (pe_fld (pv 0) rfl) (fun _ _ => rfl)) (po_some (pe_op op_mul pe_int (pv 1))) po_none)) (pss_cons (ps_par (i := 3) (j := 4) (by rfl) nd rfl rfl (by decide) rfl rfl (pa_cons (pe_f G_statement_of (hr.mono (by omega)) (pa_cons (pv 2) pa_nil)) (pa_cons (pe_f G_head_of (hr.mono (by omega)) (pa_cons (pv 2) pa_nil)) pa_nil)) (by rfl)) (pss_cons (ps_if (PW.pt (pw_and (pt_cmpR op_isN (pv 3) pe_non (nomark _)) (pw_and1 (pt_cmpR op_isN (pv 4) pe_non (nomark _))))) (pss_one ps_never) pss_nil) (pss_cons (ps_fldaug (pv 0) pe_int in_add) (pss_cons (ps_if (pt_cmpR op_isN (pv 4) pe_non (nomark _)) (pss_one (ps_ret (pv 3))) pss_nil) (pss_cons (ps_set (i := 5) nd rfl (Or.inl rfl) (pe_tup (pa_cons (pe_m G_read_inner T.cl T.m_read_inner (hr.mono (by omega)) (pv 0) (pa_cons (pe_op op_add (pv 1) pe_int) (pa_cons pe_bl pa_nil))) pa_nil))) (pss_cons (ps_if (pt_cmpR op_eq (pe_ix ix_tup (pv 4) pe_int (fun _ _ => rfl)) pe_str (nomark _)) (pss_one (ps_aug (i := 5) nd rfl (Or.inl rfl) (pe_tup (pa_cons (pe_m G_read_other T.cl T.m_read_other (hr.mono (by omega)) (pv 0) (pa_cons (pv 1) pa_nil)) pa_nil)) ip_catT)) pss_nil) (pss_one (ps_ret (pe_op op_catA (pv 4) (pv 5))))))))))), ?_⟩
    have hd10 : d ≤ 9 := by
      have : 1 ≤ htS st := by cases st <;> simp [htS]
      omega
    obtain ⟨tl0, htl⟩ := linesS_head d st
    have hrow := drop_cons (by rw [hrem, htl]; rfl)
    have hws := ws_head hg hok
    have hrl := hln.row hrow.1
    have h2d := ev_2d (σ := start N_L_read_statement [.ref o, .int d]) (H := H) (k := 1) rfl (by omega)
    have htx := ev_slS (σ := start N_L_read_statement [.ref o, .int d]) (H := H) (th := tNoPart) (te := tOp (rIxL K) (tFld K (tVar 0) "rows") (tFld K (tVar 0) "at")) (ev_op (ev_rows T.no_rows T.cl hln (ev_var rfl)) (ev_atF T.no_at T.cl hln (ev_var rfl)) (rv_ixL hln.sq (atI_nat (by rw [List.getElem?_map, hrow.1]; rfl)))) (eo_some h2d) eo_none (by omega)
    rw [row_cut] at htx
    refine q_asg htx fun H1 e1 => ?_
    refine q_parPP (ep_call (ea_cons (ev_var rfl) ea_nil) fun H2 e2 Q' q E' => ⟨st, g, rfl, hg, hok, q⟩) (ep_call (ea_cons (ev_var rfl) ea_nil) fun H2 e2 Q' q E' => ⟨st, g, rfl, hg, hok, q⟩) fun v u H2 H3 e2 hv e3 hu => ?_
    have e03 := (e1.trans e2).trans e3
    have hln3 := hln.ex e03
    clear htx h2d
    generalize jn (headW st) = tx at *
    cases st with
    | pln p =>
      have hd3 := same_dp e3 (hv.1 p rfl)
      obtain rfl := hu.1 p rfl
      obtain ⟨va, ux, rfl, _⟩ := dp_pln hd3
      refine q_when (b := false) (et_and (a := false) (b := true) (et_test (ev_is (ev_op (ev_var rfl) ev_c rv_isN) (congrArg V.bl (decide_eq_false (by simp))))) fun h => Bool.noConfusion h) (fun h => Bool.noConfusion h) fun _ H4 e4 => ?_
      refine q_next T.no_at T.cl (hln3.ex e4) (ev_var rfl) fun H5 e5 hln5 => ?_
      refine q_when (b := true) (et_test (ev_is (ev_op (ev_var rfl) ev_c rv_isN) (by decide +kernel))) (fun _ H6 e6 => ?_) fun h => Bool.noConfusion h
      refine s_ret (ev_var rfl) fun H7 e7 => k _ H7 (((Exb.ex (e03.trans e4)).trans e5).trans (Exb.ex (e6.trans e7))) ?_ ?_
      · have el : (linesS d (.pln p)).length = 1 := by rw [linesS]; rfl
        rw [el]
        exact hln5.ex (e6.trans e7)
      · rw [encS]
        exact same_dp (e6.trans e7) (keep_dp ((hln3.ex e4).keep e5) (noL_P p) (same_dp e4 hd3))
    | rep m b =>
      obtain rfl := hv.2 fun p h => Stm.noConfusion h
      obtain ⟨ua, rfl, hua⟩ := hu.2.2 m b rfl
      have hokI : m ≤ 12 ∧ okL g b := hok
      have hht2 : htL b < n ∧ d + 1 + htL b ≤ 10 := by
        rw [htS] at hht hd
        omega
      have el : linesS d (.rep m b) = (ind d ++ jn (headW (.rep m b))) :: inL true (d + 1) b := by rw [linesS]; rfl
      refine q_when (b := false) (et_and (a := true) (b := false) (et_test (ev_is (ev_op (ev_var rfl) ev_c rv_isN) (by decide +kernel))) fun _ => et_test (ev_is (ev_op (ev_var rfl) ev_c rv_isN) (congrArg V.bl (decide_eq_false (by simp))))) (fun h => Bool.noConfusion h) fun _ H4 e4 => ?_
      refine q_next T.no_at T.cl (hln3.ex e4) (ev_var rfl) fun H5 e5 hln5 => ?_
      have hua5 := ((hln3.ex e4).keep e5).sq (ex_t e4 hua)
      refine q_when (b := false) (et_test (ev_is (ev_op (ev_var rfl) ev_c rv_isN) (congrArg V.bl (decide_eq_false (by simp))))) (fun h => Bool.noConfusion h) fun _ H6 e6 => ?_
      refine q_asgT1 ?_
      refine t_meth (hln5.ex e6) (ev_var rfl) (ea_cons (ev_op (ev_var rfl) ev_c rv_I0) (ea_cons ev_c ea_nil)) fun H7 e7 => ?_
      have hln7 := (hln5.ex e6).ex e7
      have hua7 := ex_t (e6.trans e7) hua5
      rw [el] at hrem k
      refine ⟨o, R, rows, i + 1, d + 1, g, true, b, post, rfl, hln7, hg, hokI.2, hht2.1, hht2.2, fun h => Bool.noConfusion h, (drop_cons hrem).2.1, hpost.b, fun w H8 e8 hln8 hw => ⟨by show 1 ≤ sizeLine; decide, fun bp hbp => ?_⟩⟩
      have hua8 := (hln7.keep e8).sq hua7
      have eN : Ex H8 (upd H8 bp (.tup [w])) := Ex.new hbp
      have hbs : (upd H8 bp (.tup [w])) bp = some (.tup [w]) := upd_same
      generalize upd H8 bp (.tup [w]) = H9 at *
      refine q_when (b := false) (et_test (ev_eqN (ev_at 0 (ev_var rfl) (ex_t eN hua8)) ev_c (by decide +kernel))) (fun h => Bool.noConfusion h) fun _ H10 e10 => ?_
      refine s_retP (ep_catP (xs := [.str "repeat", .int m]) (ys := [w]) (ep_varT rfl (ex_t (eN.trans e10) hua8)) (ep_varT rfl (st_of (e10 bp _ hbs))) (by simp) (by simp) (by show 3 ≤ 100000; decide)) fun v H11 e11 ⟨r, ev, hr11⟩ => ?_
      subst ev
      refine k _ H11 (((((Exb.ex (e03.trans e4)).trans e5).trans (Exb.ex (e6.trans e7))).trans e8).trans (Exb.ex ((eN.trans e10).trans e11))) ?_ ?_
      · rw [List.length_cons]
        have e9 : i + ((inL true (d + 1) b).length + 1) = i + 1 + (inL true (d + 1) b).length := by omega
        rw [e9]
        exact hln8.ex ((eN.trans e10).trans e11)
      · rw [encS]
        exact .tup hr11 (.cons (.str _) (.cons (.int _) (.cons (same_dp ((eN.trans e10).trans e11) hw) .nil)))
    | iff t y nn =>
      obtain rfl := hv.2 fun p h => Stm.noConfusion h
      obtain ⟨ua, ut, rfl, hua, hut⟩ := hu.2.1 t y nn rfl
      have hokI : t.ok g ∧ okL g y ∧ okL g nn := hok
      have hht2 : htL y < n ∧ htL nn < n ∧ d + 1 + htL y ≤ 10 ∧ d + 1 + htL nn ≤ 10 := by
        rw [htS] at hht hd
        omega
      have el : linesS d (.iff t y nn) = (ind d ++ jn (headW (.iff t y nn))) :: (inL true (d + 1) y ++ elseOf d (linesL (d + 1) nn)) := by rw [linesS]; rfl
      refine q_when (b := false) (et_and (a := true) (b := false) (et_test (ev_is (ev_op (ev_var rfl) ev_c rv_isN) (by decide +kernel))) fun _ => et_test (ev_is (ev_op (ev_var rfl) ev_c rv_isN) (congrArg V.bl (decide_eq_false (by simp))))) (fun h => Bool.noConfusion h) fun _ H4 e4 => ?_
      refine q_next T.no_at T.cl (hln3.ex e4) (ev_var rfl) fun H5 e5 hln5 => ?_
      have k35 := (keep_ex e4).trans ((hln3.ex e4).keep e5)
      have hua5 := k35.sq hua
      have hut5 := keep_dp k35 (noL_T t) hut
      refine q_when (b := false) (et_test (ev_is (ev_op (ev_var rfl) ev_c rv_isN) (congrArg V.bl (decide_eq_false (by simp))))) (fun h => Bool.noConfusion h) fun _ H6 e6 => ?_
      refine q_asgT1 ?_
      refine t_meth (hln5.ex e6) (ev_var rfl) (ea_cons (ev_op (ev_var rfl) ev_c rv_I0) (ea_cons ev_c ea_nil)) fun H7 e7 => ?_
      have hln7 := (hln5.ex e6).ex e7
      rw [el] at hrem k
      have hr1 : rows.drop (i + 1) = inL true (d + 1) y ++ (elseOf d (linesL (d + 1) nn) ++ post) := by
        rw [← List.append_assoc]
        exact (drop_cons hrem).2.1
      refine ⟨o, R, rows, i + 1, d + 1, g, true, y, _, rfl, hln7, hg, hokI.2.1, hht2.1, hht2.2.2.1, fun h => Bool.noConfusion h, hr1, post_else hpost, fun w H8 e8 hln8 hw => ⟨by show 1 ≤ sizeLine; decide, fun bp hbp => ?_⟩⟩
      have k58 := (keep_ex (e6.trans e7)).trans (hln7.keep e8)
      have hua8 := k58.sq hua5
      have hut8 := keep_dp k58 (noL_T t) hut5
      have eN : Ex H8 (upd H8 bp (.tup [w])) := Ex.new hbp
      have hbs : (upd H8 bp (.tup [w])) bp = some (.tup [w]) := upd_same
      generalize upd H8 bp (.tup [w]) = H9 at *
      refine q_when (b := true) (et_test (ev_eqY (ev_at 0 (ev_var rfl) (ex_t eN hua8)) ev_c rfl)) (fun _ H10 e10 => ?_) fun h => Bool.noConfusion h
      refine s_augT1 (x := .ref bp) rfl ?_
      have hln10 := hln8.ex (eN.trans e10)
      refine t_meth hln10 (ev_var rfl) (ea_cons (ev_var rfl) ea_nil) fun H11 e11 => ?_
      have hln11 := hln10.ex e11
      have hr2 : rows.drop (i + 1 + (inL true (d + 1) y).length) = elseOf d (linesL (d + 1) nn) ++ post := by
        rw [← List.drop_drop, hr1, List.drop_left]
      have hle : i + 1 + (inL true (d + 1) y).length ≤ rows.length := by
        have z := congrArg List.length hr1
        rw [List.length_drop, List.length_append] at z
        have z2 := (drop_cons hrem).2.2
        omega
      refine ⟨o, R, rows, _, d, g, nn, post, rfl, hln11, hle, hg, hokI.2.2, hht2.2.1, hht2.2.2.2, hr2, hpost, fun x H12 e12 hln12 hx => ⟨by show 1 ≤ sizeLine; decide, fun cp hcp => ?_⟩⟩
      have e911 := e10.trans e11
      have k812 := (keep_ex (eN.trans e911)).trans (hln11.keep e12)
      have hbs12 := ((keep_ex e911).trans (hln11.keep e12) bp).1 _ hbs
      have eM : Ex H12 (upd H12 cp (.tup [x])) := Ex.new hcp
      have hcs : (upd H12 cp (.tup [x])) cp = some (.tup [x]) := upd_same
      generalize upd H12 cp (.tup [x]) = H13 at *
      refine ⟨bp, cp, [w], [x], rfl, rfl, st_of (eM bp _ hbs12), st_of hcs, by simp, by simp, by show 2 ≤ sizeLine; decide, fun dp hdp => ?_⟩
      have eO : Ex H13 (upd H13 dp (.tup [w, x])) := Ex.new hdp
      have hds : (upd H13 dp (.tup ([w] ++ [x]))) dp = some (.tup [w, x]) := upd_same
      have eO2 : Ex H13 (upd H13 dp (.tup ([w] ++ [x]))) := eO
      generalize upd H13 dp (.tup ([w] ++ [x])) = H14 at *
      have e1214 := eM.trans eO2
      have hua14 := ex_t e1214 (k812.sq hua8)
      have hut14 := same_dp e1214 (keep_dp k812 (noL_T t) hut8)
      have hw14 := same_dp e1214 (keep_dp k812 (noL_B y) hw)
      have hx14 := same_dp e1214 hx
      refine s_retP (ep_catP (xs := [.str "if", ut]) (ys := [w, x]) (ep_varT rfl hua14) (ep_varT rfl (st_of hds)) (by simp) (by simp) (by show 4 ≤ 100000; decide)) fun v H15 e15 ⟨r, ev, hr15⟩ => ?_
      subst ev
      refine k _ H15 (((((((Exb.ex (e03.trans e4)).trans e5).trans (Exb.ex (e6.trans e7))).trans e8).trans (Exb.ex ((eN.trans e10).trans e11))).trans e12).trans (Exb.ex (e1214.trans e15))) ?_ ?_
      · rw [List.length_cons, List.length_append]
        have e9 : i + ((inL true (d + 1) y).length + (elseOf d (linesL (d + 1) nn)).length + 1) = i + 1 + (inL true (d + 1) y).length + (elseOf d (linesL (d + 1) nn)).length := by omega
        rw [e9]
        exact hln12.ex (e1214.trans e15)
      · rw [encS]
        exact .tup hr15 (.cons (.str _) (.cons (same_dp e15 hut14) (.cons (same_dp e15 hw14) (.cons (same_dp e15 hx14) .nil))))
end
end K7
set_option maxHeartbeats 4000000
/-! givens_of, Lines(..), parse_program -/
namespace K7
open PySem PySem.Spec PyProof.Rows L2 Evl
section
variable {X : Cx} {k : Nat} {sp : Sp} {p pos : Pos} {e : Expr} {es : List Expr} {t : TA}
theorem pe_lines (F : MOk X.prog X.w X.K X.mg X.base k "__init__" sp) (M : Mk X.K (He.ga X.K "Lines") (He.ma X.K (He.ga X.K "Lines") "__init__")) (hr : Room (k + 1) X.A) (hm : X.mg "Lines" = some (.ref (He.ga X.K "Lines"))) (ha : PA X (e :: es) t) (hg : Gl X "Lines" := by rfl)
    (he : starEach (e :: es) X.env = (false, eval e X.env) :: starEach es X.env := by rfl) (hpl : (backTo pos (starEach es X.env)).any (·.1) = false := by rfl) : PE X (.Call (.Name "Lines" p) (e :: es) [] pos) (tMake (He.ga X.K "Lines") sp [] E0 t) := by
  obtain ⟨⟨fd, ps, h1, h2⟩⟩ := F
  exact pe_make M h1 hr hg hm h2 .nil pass0 ha (by decide +kernel) he hpl
end
/-! ### the lines of a program -/
theorem passOr_rows {d : Nat} {l : List Str} (h : ∀ x ∈ l, ∃ d' ws, x = ind d' ++ jn ws ∧ Ws ws) : ∀ x ∈ passOr d l, ∃ d' ws, x = ind d' ++ jn ws ∧ Ws ws := fun x hx => by
  rcases passOr_mem hx with hx | rfl
  · exact h x hx
  · exact ⟨d, ["pass"], rfl, ws_pass⟩
theorem elseOf_rows {d : Nat} {l : List Str} (h : ∀ x ∈ l, ∃ d' ws, x = ind d' ++ jn ws ∧ Ws ws) : ∀ x ∈ elseOf d l, ∃ d' ws, x = ind d' ++ jn ws ∧ Ws ws := fun x hx => by
  rcases elseOf_mem hx with hx | rfl
  · exact h x hx
  · exact ⟨d, ["else"], rfl, ws_else⟩
mutual
theorem linesS_rows {g : Nat} (hg : g ≤ 3) (d : Nat) : ∀ s : Stm, okS g s → ∀ x ∈ linesS d s, ∃ d' ws, x = ind d' ++ jn ws ∧ Ws ws
  | .pln p, hk => fun x hx => by
    rw [linesS] at hx
    rw [List.mem_singleton.mp hx]
    exact ⟨d, plnW p, rfl, ws_head (s := .pln p) hg hk⟩
  | .iff t y n, hk => fun x hx => by
    have hh : t.ok g ∧ okL g y ∧ okL g n := hk
    rw [linesS] at hx
    rcases List.mem_cons.mp hx with rfl | hx
    · exact ⟨d, _, rfl, ws_head (s := .iff t y n) hg hk⟩
    · rcases List.mem_append.mp hx with hx | hx
      · exact passOr_rows (linesL_rows hg (d + 1) y hh.2.1) x hx
      · exact elseOf_rows (linesL_rows hg (d + 1) n hh.2.2) x hx
  | .rep k b, hk => fun x hx => by
    have hh : k ≤ 12 ∧ okL g b := hk
    rw [linesS] at hx
    rcases List.mem_cons.mp hx with rfl | hx
    · exact ⟨d, _, rfl, ws_head (s := .rep k b) hg hk⟩
    · exact passOr_rows (linesL_rows hg (d + 1) b hh.2) x hx
theorem linesL_rows {g : Nat} (hg : g ≤ 3) (d : Nat) : ∀ b : List Stm, okL g b → ∀ x ∈ linesL d b, ∃ d' ws, x = ind d' ++ jn ws ∧ Ws ws
  | [], _ => fun x hx => by
    rw [linesL] at hx
    cases hx
  | s :: r, hk => fun x hx => by
    have hh : okS g s ∧ okL g r := hk
    rw [linesL] at hx
    rcases List.mem_append.mp hx with hx | hx
    · exact linesS_rows hg d s hh.1 x hx
    · exact linesL_rows hg d r hh.2 x hx
end
theorem jn_signs : ∀ {ws : List Str}, (∀ x ∈ ws, Solid x) → ∀ c ∈ TL.tl (jn ws), 32 ≤ c ∧ c < 127
  | [], _, c, hc => by
    have e : TL.tl (jn []) = [] := by decide +kernel
    rw [e] at hc
    cases hc
  | [x], h, c, hc => by
    rw [tl_jn1] at hc
    have := (h x List.mem_cons_self).2.2 c hc
    omega
  | x :: y :: r, h, c, hc => by
    rw [tl_jn] at hc
    rcases List.mem_append.mp hc with hc | hc
    · have := (h x List.mem_cons_self).2.2 c hc
      omega
    · rcases List.mem_cons.mp hc with rfl | hc
      · omega
      · exact jn_signs (fun z hz => h z (List.mem_cons_of_mem _ hz)) c hc
theorem row_signs {d : Nat} {ws : List Str} (h : Ws ws) : ∀ c ∈ TL.tl (ind d ++ jn ws), 32 ≤ c ∧ c < 127 := fun c hc => by
  rw [tl_row] at hc
  rcases List.mem_append.mp hc with hc | hc
  · have := (List.mem_replicate.mp hc).2
    omega
  · exact jn_signs h.2 c hc
theorem giv_row (g : Nat) : giv g = ind 0 ++ jn ["givens", num g] := by
  refine TL.ext_tl ?_
  have e : TL.tl ("givens " : Str) = TL.tl ("givens" : Str) ++ [32] := by decide +kernel
  unfold giv
  rw [tl_cat, tl_row, tl_jn, tl_jn1]
  simp [e]
theorem ws_giv {g : Nat} (hg : g < 100) : Ws ["givens", num g] := ⟨by simp, fun x hx => by
  simp only [List.mem_cons, List.not_mem_nil, or_false] at hx
  rcases hx with rfl | rfl
  · exact word_solid (by decide +kernel)
  · exact num_solid hg⟩
theorem prog_split {g : Nat} {b : List Stm} (hg : g ≤ 3) (hb : okL g b) : Txt.split (progText g b) "\n" = progLines g b := by
  have e : progText g b = Txt.join "\n" (progLines g b) := by
    rw [TL.join_eq]
    rfl
  rw [e]
  refine TL.split_join (s := 10) (S := []) (by decide +kernel) (by decide +kernel) (List.cons_ne_nil _ _) fun x hx hc => ?_
  rcases List.mem_cons.mp hx with rfl | hx
  · rw [giv_row] at hc
    have := row_signs (ws_giv (by omega)) 10 hc
    omega
  · obtain ⟨d', ws, rfl, hws⟩ := linesL_rows hg 0 b hb x hx
    have := row_signs hws 10 hc
    omega
section
variable {P : Program} {w : World} {K : PySem.W.Frag} {mg : Str → Option Value} {base : Heap}
def spGivens : Sp := fun vs H Q _ => ∃ g : Nat, vs = [.str (giv g)] ∧ g < 100 ∧ RetV (.int g) H Q
theorem ok_givens_of (T : Txt w K mg) : FOk P w K mg base 2 "givens_of" spGivens := by
  have G_whole_of : FOk P w K mg base 1 "whole_of" spWhole := ok_whole_of T
  refine fok T.f_givens_of T.g_givens_of sc_givens_of (fun _ _ _ _ _ _ us hl => match us, hl with | [_], _ => rfl) (fun vs H Q E h => ?_) (fun cdv A outer s H vs Q E hr h => ?_)
  · obtain ⟨g, rfl, _⟩ := h
    rfl
  obtain ⟨g, rfl, hg, k⟩ := h
  have nd := sc_givens_of.nd
  refine ⟨_, (pss_cons (ps_set (i := 1) nd rfl (Or.inl rfl) (pe_split (pv 0) pe_str)) (pss_cons (ps_set (i := 2) nd rfl (Or.inl rfl) (pe_ifExp (PW.pt (pw_and (pt_cmpR op_eq (pe_callB call_len_seq (by rfl) T.z_len PySem.boot_len (pa_cons (pv 1) pa_nil)) pe_int (nomark _)) (pw_and1 (pt_cmpR op_eq (pe_ix ix_list (pv 1) pe_int (fun _ _ => rfl)) pe_str (nomark _))))) (pe_f G_whole_of (hr.mono (by omega)) (pa_cons (pe_ix ix_list (pv 1) pe_int (fun _ _ => rfl)) (pa_cons (pe_gi T.i_MOST_DIGITS) pa_nil))) pe_non)) (pss_cons (ps_if (pt_cmpR op_isN (pv 2) pe_non (nomark _)) (pss_one ps_never) pss_nil) (pss_one (ps_ret (pv 2)))))), ?_⟩
  have hl := giv_len hg
  have l1 : ((" " : Str).length == 0) = false := by decide +kernel
  have hsp := el_split (σ := start N_givens_of [.str (giv g)]) (H := H) (to := tVar 0) (te := tC (.str " ")) (ev_var rfl) ev_c l1 (by omega)
  have ei : giv g = jn ["givens", num g] := by
    rw [giv_row]
    refine TL.ext_tl ?_
    rw [tl_row]
    rfl
  have hs : Txt.split (giv g) " " = [("givens" : Str), num g] := by rw [ei, split_jn (ws_giv hg).1 (ws_giv hg).2]
  rw [hs] at hsp
  refine q_asgL hsp fun p H1 hp e1 h1 => ?_
  have hW : SqL K H1 p (([("givens" : Str), num g] : List Str).map V.str) := sq_of h1
  refine q_asg (v := .int g) (ev_if (b := true) (et_and (a := true) (b := true) (et_test (ev_lenL (ev_var rfl) hW true rfl)) fun _ => et_test (ev_eqY (ev_atL 0 (ev_var rfl) hW) ev_c rfl)) (fun _ => ev_call (ea_cons (ev_atL 1 (ev_var rfl) hW) (ea_cons ev_c ea_nil)) fun H2 e2 Q' q E' => ⟨g, 20, rfl, hg, by omega, q⟩) fun h => Bool.noConfusion h) fun H2 e2 => ?_
  refine q_when (b := false) (et_test (ev_is (ev_op (ev_var rfl) ev_c rv_isN) (congrArg V.bl (decide_eq_false (by simp))))) (fun h => Bool.noConfusion h) fun _ H3 e3 => ?_
  exact s_ret (ev_var rfl) fun H4 e4 => k H4 (((e1.trans e2).trans e3).trans e4)
def spLnInit (K : PySem.W.Frag) : Sp := fun vs H Q _ => ∃ (x R dx : Addr), vs = [.ref x, .ref R] ∧ H x = some (.ins (He.ga K "Lines") dx []) ∧ ∀ H', Exb x H H' → H' x = some (.ins (He.ga K "Lines") dx [("rows", .ref R), ("at", .int 0)]) → Q .non H'
theorem ok_init (T : Txt w K mg) : MOk P w K mg base 1 "__init__" (spLnInit K) := by
  refine mok T.f_L___init__ sc_L___init__ (fun _ _ _ _ _ _ us hl => match us, hl with | [_, _], _ => rfl) (fun vs H Q E h => ?_) (fun cdv A outer s H vs Q E hr h => ?_)
  · obtain ⟨x, _, _, rfl, _⟩ := h
    rfl
  obtain ⟨x, R, dx, rfl, h, k⟩ := h
  have nd := sc_L___init__.nd
  refine ⟨_, (pss_cons (ps_fld (pv 0) (pv 1) rfl) (pss_one (ps_fld (pv 0) pe_int rfl))), ?_⟩
  refine ⟨_, rfl, _, rfl, x, _, dx, _, rfl, h, T.cl, T.no_rows, by show 0 < 1000; decide, ?_⟩
  refine ⟨_, rfl, x, _, dx, _, rfl, upd_same, T.cl, T.no_at, by show 1 < 1000; decide, ?_⟩
  exact k _ (Exb.upd.trans Exb.upd) upd_same
def spParse (K : PySem.W.Frag) : Sp := fun vs H Q _ => ∃ (g : Nat) (b : List Stm), vs = [.str (progText g b)] ∧ Wd g b ∧ RetP (fun v H' => Dp K H' v (enc g b)) H Q
section
variable {σ : L2.St} {H : Hp} {te : TE} {D : Ends} {tz : TS}
theorem q_make {i : Nat} {sp : Sp} {xs : List V} (h : EvL te σ H xs) (k : ∀ R x dx H1, H R = none → Ex H H1 → H1 R = some (.lst xs) → H1 x = none → H1 dx = none → dx ≠ x → sp [.ref x, .ref R] (upd (upd H1 dx (.own x)) x (.ins (He.ga K "Lines") dx [])) (fun v H2 => v = .non ∧ tz D (σ.set i (some (.ref x))) H2) E0) :
    tSeq (tAsg (tMake (He.ga K "Lines") sp [] E0 (tCons te tNil)) (gName i)) tz D σ H := h H (Ex.refl H) _ fun R H1 hR e1 h1 x dx hx hdx hne => k R x dx H1 hR e1 h1 hx hdx hne
theorem q_asgT2 {i j : Nat} {y : V} (hy : σ[j]? = some (some y)) (h : te σ H (fun x H1 => [y, x].length ≤ sizeLine ∧ ∀ p, H1 p = none → tz D (σ.set i (some (.ref p))) (upd H1 p (.tup [y, x])))) : tSeq (tAsg (tTup (tCons (tVar j) (tCons te tNil))) (gName i)) tz D σ H := ⟨y, hy, h⟩
theorem q_setAt {ta : TE} {o R : Addr} {rows : List Str} {i j : Nat} (T : NoAttr K (He.ga K "Lines") "at") (c : Cls K (He.ga K "Lines")) (h : Ln K o R rows i H) (ho : Ev ta σ H (.ref o)) (k : ∀ H1, Exb o H H1 → Ln K o R rows j H1 → tz D σ H1) : tSeq (sFld K ta (tC (.int j)) "at") tz D σ H :=
  ho H (Ex.refl H) _ fun H1 e1 => by
    obtain ⟨dx, h1, h2, h3⟩ := h.ex e1
    refine ⟨o, _, dx, _, rfl, h1, c, T, by show 2 < 1000; decide, k _ ((Exb.ex e1).trans Exb.upd) ⟨dx, ?_, ?_, h3⟩⟩
    · rw [upd_same]
      rfl
    · rw [upd_ne (ne_of h2 h1 (by intro z; cases z))]
      exact h2
end
theorem ok_parse_program (T : Txt w K mg) : FOk P w K mg base 40 "parse_program" (spParse K) := by
  have G___init__ : MOk P w K mg base 1 "__init__" (spLnInit K) := ok_init T
  have G_givens_of : FOk P w K mg base 2 "givens_of" spGivens := ok_givens_of T
  have G_program_error : FOk P w K mg base 15 "program_error" (spPErr K) := ok_program_error T
  have G_read_block : MOk P w K mg base 32 "read_block" (spBlockR K 6) := ok_read_block T (ok_read_statement T 6)
  refine fok T.f_parse_program T.g_parse_program sc_parse_program (fun _ _ _ _ _ _ us hl => match us, hl with | [_], _ => rfl) (fun vs H Q E h => ?_) (fun cdv A outer s H vs Q E hr h => ?_)
  · obtain ⟨g, b, rfl, _⟩ := h
    rfl
  obtain ⟨g, b, rfl, wd, k⟩ := h
  have nd := sc_parse_program.nd
  refine ⟨_, (pss_cons (ps_if (pt_not (pt_val (pe_isi T.z_isinstance T.z_str boot_strT (pv 0)))) (pss_one ps_never) pss_nil) (pss_cons (ps_set (i := 1) nd rfl (Or.inl rfl) (pe_lines G___init__ T.mk (hr.mono (by omega)) T.g_Lines (pa_cons (pe_split (pv 0) pe_str) pa_nil))) (pss_cons (ps_set (i := 2) nd rfl (Or.inl rfl) (pe_f G_givens_of (hr.mono (by omega)) (pa_cons (pe_ix ix_list (pe_fld (pv 1) rfl) pe_int (fun _ _ => rfl)) pa_nil))) (pss_cons (ps_fld (pv 1) pe_int rfl) (pss_cons (ps_set (i := 3) nd rfl (Or.inl rfl) (pe_tup (pa_cons (pv 2) (pa_cons (pe_m G_read_block T.cl T.m_read_block (hr.mono (by omega)) (pv 1) (pa_cons pe_int pa_nil)) pa_nil)))) (pss_cons (ps_set (i := 4) nd rfl (Or.inl rfl) (pe_f G_program_error (hr.mono (by omega)) (pa_cons (pv 3) pa_nil))) (pss_cons (ps_if (pt_cmpR op_notN (pv 4) pe_non (nomark _)) (pss_one ps_never) pss_nil) (pss_one (ps_ret (pv 3)))))))))), ?_⟩
  have hz := prog_sum wd.g3 wd.ok (by have := wd.ht; omega) wd.cn
  have hea := prog_each wd.g3 wd.ok (by have := wd.ht; omega)
  have hg3 := wd.g3
  have hht := wd.ht
  have l1 : (("\n" : Str).length == 0) = false := by decide +kernel
  have hjl : (progText g b).length ≤ 90000 := by
    have e : ∀ (l : List Str), (Str.join "\n" l).length ≤ (l.map (·.length)).sum + l.length := by
      have l2 : ("\n" : Str).length = 1 := by decide +kernel
      intro l
      induction l with
      | nil => exact Nat.zero_le _
      | cons x r ih =>
        cases r with
        | nil =>
          show x.length ≤ _
          simp
        | cons y q =>
          show (x ++ "\n" ++ Str.join "\n" (y :: q)).length ≤ _
          rw [strLen_append, strLen_append, l2, List.map_cons, List.sum_cons, List.length_cons]
          omega
    have := e (progLines g b)
    show (Str.join "\n" (progLines g b)).length ≤ _
    omega
  have hsplit := prog_split wd.g3 wd.ok
  generalize progText g b = tx at *
  have hsp := el_split (σ := start N_parse_program [.str tx]) (te := tC (.str "\n")) (to := tVar 0) (H := H) (ev_var rfl) ev_c l1 hjl
  rw [hsplit] at hsp
  refine q_when (b := false) (et_not (a := true) (et_B (ev_isStr (ev_var rfl)))) (fun h => Bool.noConfusion h) fun _ H1 e1 => ?_
  refine q_make (hsp.mono e1) fun R o dx H2 hR e2 h2 ho hdx hne => ?_
  have hRx : R ≠ o := ne_of_none h2 ho
  have hRd : R ≠ dx := ne_of_none h2 hdx
  refine ⟨o, R, dx, rfl, upd_same, fun H3 e3 h3 => ⟨rfl, ?_⟩⟩
  have hln3 : Ln K o R (progLines g b) 0 H3 := ⟨dx, h3, e3 R _ hRx (by rw [upd_ne hRx, upd_ne hRd]; exact h2), by omega, hea⟩
  have e03 : Ex H H3 := fun c u hc => by
    have hc2 := (e1.trans e2) c u hc
    have n1 : c ≠ o := ne_of_none hc2 ho
    have n2 : c ≠ dx := ne_of_none hc2 hdx
    exact e3 c u n1 (by rw [upd_ne n1, upd_ne n2]; exact hc2)
  have ho0 : H o = none := fresh_back (e1.trans e2) ho
  refine q_asg (v := .int g) (ev_call (ea_cons (ev_atL 0 (ev_rows T.no_rows T.cl hln3 (ev_var rfl)) hln3.sq) ea_nil) fun H4 e4 Q' q E' => ⟨g, rfl, by omega, q⟩) fun H4 e4 => ?_
  refine q_setAt (j := 1) T.no_at T.cl (hln3.ex e4) (ev_var rfl) fun H5 e5 hln5 => ?_
  refine q_asgT2 (y := .int g) rfl ?_
  refine t_meth hln5 (ev_var rfl) (ea_cons ev_c ea_nil) fun H6 e6 => ?_
  have hln6 := hln5.ex e6
  refine ⟨o, R, progLines g b, 1, 0, g, b, [], rfl, hln6, hg3, wd.ok, by omega, by omega, by show 1 ≤ (linesL 0 b).length + 1; omega, by show linesL 0 b = linesL 0 b ++ []; rw [List.append_nil], .inl rfl, fun v H7 e7 hln7 hv => ⟨by show 2 ≤ sizeLine; decide, fun p hp => ?_⟩⟩
  have eN : Ex H7 (upd H7 p (.tup [.int g, v])) := Ex.new hp
  have hps : (upd H7 p (.tup [.int g, v])) p = some (.tup [.int g, v]) := upd_same
  generalize upd H7 p (.tup [.int g, v]) = H8 at *
  have hdp : Dp K H8 (.ref p) (enc g b) := .tup (st_of hps) (.cons (.int _) (.cons (same_dp eN hv) .nil))
  have e08 : Ex H H8 := fun c u hc => by
    have n1 : c ≠ o := ne_of_none hc ho0
    exact ((((Exb.ex (e03.trans e4)).trans e5).trans (Exb.ex e6)).trans e7).trans (Exb.ex eN) c u n1 hc
  refine q_asgC (ea_cons (ev_var rfl) ea_nil) fun H9 e9 => ⟨.ref p, g, b, rfl, same_dp e9 hdp, wd, fun H10 e10 => ?_⟩
  refine q_when (b := false) (et_test (ev_is (ev_op (ev_var rfl) ev_c (rv_notN (x := .non))) (by decide +kernel))) (fun h => Bool.noConfusion h) fun _ H11 e11 => ?_
  have e811 := (e9.trans e10).trans e11
  exact s_ret (ev_var rfl) fun H12 e12 => k (.ref p) H12 ((e08.trans e811).trans e12) (same_dp (e811.trans e12) hdp)
end
end K7
set_option maxHeartbeats 4000000
/-! the law's deck: _law_deck, _law_draw, _law_one -/
namespace K7
open PySem PySem.Spec PyProof.Rows L2 Evl
/-- the deck at D: its cells at C, so many drawn -/
def Deck (K : PySem.W.Frag) (D C : Addr) (m : Nat) (H : Hp) : Prop := ∃ cs : List Nat, H D = some (.lst [.ref C, .int m]) ∧ H C = some (.lst (cs.map fun (c : Nat) => V.int (c : Int))) ∧ cs.length ≤ 100 ∧ D ≠ C
/-- all stands but the deck -/
def Frd (D C : Addr) (H H' : Hp) : Prop := ∀ b o, b ≠ D → b ≠ C → H b = some o → H' b = some o
theorem Frd.refl (D C : Addr) (H : Hp) : Frd D C H H := fun _ _ _ _ h => h
theorem Frd.trans {D C : Addr} {H H1 H2 : Hp} (a : Frd D C H H1) (b : Frd D C H1 H2) : Frd D C H H2 := fun c o n n2 h => b c o n n2 (a c o n n2 h)
theorem Frd.ex {D C : Addr} {H H1 : Hp} (a : Ex H H1) : Frd D C H H1 := fun c o _ _ h => a c o h
theorem Deck.ex {K : PySem.W.Frag} {D C : Addr} {m : Nat} {H H1 : Hp} (h : Deck K D C m H) (e : Ex H H1) : Deck K D C m H1 := by
  obtain ⟨cs, h1, h2, h3⟩ := h
  exact ⟨cs, e _ _ h1, e _ _ h2, h3⟩
theorem Deck.keep {K : PySem.W.Frag} {D C : Addr} {m : Nat} {H H1 : Hp} (h : Deck K D C m H) (e : Frd D C H H1) : Keep H H1 := by
  obtain ⟨cs, h1, h2, _⟩ := h
  exact fun b => ⟨fun ys hb => e b _ (ne_of hb h1 (by intro z; cases z)) (ne_of hb h2 (by intro z; cases z)) hb, fun u v hb => e b _ (ne_of hb h1 (by intro z; cases z)) (ne_of hb h2 (by intro z; cases z)) hb⟩
theorem Frd.upd {D C : Addr} {H H' : Hp} (e : Frd D C H H') {a : Addr} {o : HO} (h : a = D ∨ a = C ∨ H a = none) : Frd D C H (upd H' a o) := fun b u n1 n2 hb => by
  have ne : b ≠ a := by
    rcases h with h | h | h
    · rw [h]; exact n1
    · rw [h]; exact n2
    · exact ne_of_none hb h
  rw [upd_ne ne]
  exact e b u n1 n2 hb
abbrev Lim : Nat := 1099511627776
/-- a promise that draws at most n times and gives a value of R -/
def DrR (K : PySem.W.Frag) (D C : Addr) (m n : Nat) (R : V → Hp → Prop) (H : Hp) (Q : VK) : Prop := ∀ v H' m', Frd D C H H' → Deck K D C m' H' → m ≤ m' → m' ≤ m + n → R v H' → Q v H'
theorem DrR.ext {K : PySem.W.Frag} {D C : Addr} {m n : Nat} {R : V → Hp → Prop} {H H1 : Hp} {Q : VK} (k : DrR K D C m n R H Q) (e : Frd D C H H1) : DrR K D C m n R H1 Q := fun v H' m' f d h1 h2 r => k v H' m' (e.trans f) d h1 h2 r
section
variable {K : PySem.W.Frag} {σ : L2.St} {H : Hp} {te : TE} {D : Ends} {tz : TS}
theorem q_unpU2 {i j : Nat} {x y : V} (h : EvU te σ H [x, y]) (k : ∀ H1, Ex H H1 → tz D ((σ.set i (some x)).set j (some y)) H1) : tSeq (tAsg te (gTup K 2 (gCons (gName i) (gCons (gName j) gNil)))) tz D σ H :=
  h H (Ex.refl H) _ fun p H1 hp e1 h1 => ⟨p, [x, y], rfl, st_of h1, rfl, x, [y], rfl, y, [], rfl, rfl, k H1 e1⟩
theorem ev_int1 {i : Int} (h : Ev te σ H (.int i)) : Ev (tCB (fun xs H Q => (∃ i, xs = [V.int i] ∧ Q (.int i) H) ∨ ∃ k, xs = [V.bl k] ∧ Q (.int (if k then 1 else 0)) H) (tCons te tNil)) σ H (.int i) := fun H1 e Q q => h H1 e _ fun H2 e2 => .inl ⟨i, rfl, q H2 e2⟩
end
section
variable {P : Program} {w : World} {K : PySem.W.Frag} {mg : Str → Option Value} {base : Heap}
def spDraw (K : PySem.W.Frag) : Sp := fun vs H Q _ => ∃ (D C : Addr) (m many : Nat), vs = [.ref D, .int many] ∧ Deck K D C m H ∧ 1 ≤ many ∧ many ≤ 100000 ∧ m < Lim ∧ DrR K D C m 1 (fun v _ => ∃ j : Nat, j < many ∧ v = .int j) H Q
theorem ok_draw (T : Txt w K mg) : FOk P w K mg base 1 "_law_draw" (spDraw K) := by
  refine fok T.f__law_draw T.g__law_draw sc__law_draw (fun _ _ _ _ _ _ us hl => match us, hl with | [_, _], _ => rfl) (fun vs H Q E h => ?_) (fun cdv A outer s H vs Q E hr h => ?_)
  · obtain ⟨D, C, m, n, rfl, _⟩ := h
    rfl
  obtain ⟨D, C, m, many, rfl, hdk, h1, h2, hm, k⟩ := h
  have nd := sc__law_draw.nd
  refine ⟨_, (pss_cons (ps_asg (pe_op op_add (pe_ix ix_list (pv 0) pe_int (fun _ _ => rfl)) pe_int) (pg_sub (pv 0) pe_int set_list)) (pss_cons (ps_asg (pe_tup (pa_cons pe_int (pa_cons (pe_un un_neg pe_int) pa_nil))) (pg_tup rfl (pgs_cons (pg_name (i := 2) nd rfl (Or.inl rfl)) (pgs_cons (pg_name (i := 3) nd rfl (Or.inl rfl)) pgs_nil)))) (pss_cut (ps_if (pt_cmpR op_gt (pe_callB call_len_seq (by rfl) T.z_len PySem.boot_len (pa_cons (pe_ix ix_list (pv 0) pe_int (fun _ _ => rfl)) pa_nil)) pe_int (nomark _)) (pss_cons (ps_set (i := 3) nd rfl (Or.inl rfl) (pe_op op_modN (pe_callTy call_int1 (by rfl) T.z_int (by decide +kernel) (pa_cons (pe_ix ix_list (pv 0) pe_int (fun _ _ => rfl)) pa_nil)) (pe_callB call_len_seq (by rfl) T.z_len PySem.boot_len (pa_cons (pe_ix ix_list (pv 0) pe_int (fun _ _ => rfl)) pa_nil)))) (pss_one (ps_set (i := 2) nd rfl (Or.inl rfl) (pe_ix ix_list (pe_ix ix_list (pv 0) pe_int (fun _ _ => rfl)) (pv 3) (fun _ _ => rfl))))) pss_nil) (pss_cons (ps_if (pt_cmpR op_ge (pv 2) (pe_op op_pow pe_int pe_int) (nomark _)) (pss_cons (ps_asg (pe_op op_fdivW (pe_callTy call_int1 (by rfl) T.z_int (by decide +kernel) (pa_cons (pv 2) pa_nil)) (pv 1)) (pg_sub (pe_ix ix_list (pv 0) pe_int (fun _ _ => rfl)) (pv 3) set_list)) (pss_one (ps_ret (pe_op op_modN (pe_callTy call_int1 (by rfl) T.z_int (by decide +kernel) (pa_cons (pv 2) pa_nil)) (pv 1))))) pss_nil) (pss_cons (ps_set (i := 4) nd rfl (Or.inl rfl) (pe_op op_add (pe_op op_add (pe_op op_modN (pe_callTy call_int1 (by rfl) T.z_int (by decide +kernel) (pa_cons (pv 2) pa_nil)) pe_int) (pe_op op_mul pe_int (pe_ix ix_list (pv 0) pe_int (fun _ _ => rfl)))) pe_int)) (pss_one (ps_ret (pe_op op_modN (pe_callTy call_int1 (by rfl) T.z_int (by decide +kernel) (pa_cons (pe_op op_modN (pe_callTy call_int1 (by rfl) T.z_int (by decide +kernel) (pa_cons (pe_op op_pow (pv 4) pe_int) pa_nil)) pe_int) pa_nil)) (pv 1))))))))), ?_⟩
  obtain ⟨cs, hD, hC, hcl, hDC⟩ := hdk
  refine q_setL (l := D) (xs := [.ref C, .int m]) (j := 1) (v := .int ((m + 1 : Nat) : Int)) hD (ev_is (ev_op (ev_atL 1 (ev_var rfl) (sq_of hD)) ev_c rv_I0) (by congr 1)) (ev_var rfl) ev_c (by show 1 < 2; decide) fun H1 e1 => ?_
  have hD2 : (upd H1 D (.lst [.ref C, .int ((m + 1 : Nat) : Int)])) D = some (.lst [.ref C, .int ((m + 1 : Nat) : Int)]) := upd_same
  have hC2 : (upd H1 D (.lst [.ref C, .int ((m + 1 : Nat) : Int)])) C = some (.lst (cs.map fun (c : Nat) => V.int (c : Int))) := by
    rw [upd_ne hDC.symm]
    exact e1 C _ hC
  have f2 : Frd D C H (upd H1 D (.lst [.ref C, .int ((m + 1 : Nat) : Int)])) := (Frd.ex e1).upd (.inl rfl)
  show tSeq _ _ _ _ (upd H1 D (.lst [.ref C, .int ((m + 1 : Nat) : Int)]))
  generalize upd H1 D (.lst [.ref C, .int ((m + 1 : Nat) : Int)]) = H2 at *
  refine q_unpU2 (K := K) (x := .int 0) (y := .int (-1)) (eu_tup (ea_cons ev_c (ea_cons (ev_un ev_c ru_neg) ea_nil)) (by show 2 ≤ 100000; decide)) fun H3 e3 => ?_
  have hD3 := e3 D _ hD2
  have hC3 := e3 C _ hC2
  refine q_cut (M := fun σ' H' => ∃ (c : Nat) (i : Int), σ' = [some (.ref D), some (.int many), some (.int c), some (.int i), none] ∧ Ex H3 H' ∧ ((c = 0) ∨ ∃ j : Nat, i = j ∧ cs[j]? = some c)) ?_ ?_
  · by_cases hz : cs = []
    · refine s_when (b := false) (et_is (et_test (ev_op (ev_len (ev_atL 0 (ev_var rfl) (sq_of hD3)) (sq_of hC3)) ev_c rv_I0)) (decide_eq_false (by rw [hz]; decide))) (fun h => Bool.noConfusion h) fun _ H4 e4 => ⟨0, -1, rfl, e4, .inl rfl⟩
    · have hpos : 0 < cs.length := List.length_pos_iff.mpr hz
      refine s_when (b := true) (et_is (et_test (ev_op (ev_len (ev_atL 0 (ev_var rfl) (sq_of hD3)) (sq_of hC3)) ev_c rv_I0)) (decide_eq_true (by rw [List.length_map]; omega))) (fun _ H4 e4 => ?_) fun h => Bool.noConfusion h
      have hD4 := e4 D _ hD3
      have hC4 := e4 C _ hC3
      have hlt : (m + 1) % cs.length < cs.length := Nat.mod_lt _ hpos
      refine q_asg (v := .int (((m + 1) % cs.length : Nat) : Int)) (ev_is (ev_op (ev_int1 (ev_atL 1 (ev_var rfl) (sq_of hD4))) (ev_len (ev_atL 0 (ev_var rfl) (sq_of hD4)) (sq_of hC4)) (rv_I (by rw [List.length_map]; omega))) ?_) fun H5 e5 => ?_
      · rw [List.length_map]
        congr 1
      · refine s_asg (v := .int (cs[(m + 1) % cs.length] : Nat)) (ev_op (ev_atL 0 (ev_var rfl) (sq_of (e5 D _ hD4))) (ev_var rfl) (rv_ixL (sq_of (e5 C _ hC4)) (atI_nat (by
          rw [List.getElem?_map, List.getElem?_eq_getElem hlt]
          rfl)))) fun H6 e6 => ⟨_, _, rfl, (e4.trans e5).trans e6, .inr ⟨_, rfl, List.getElem?_eq_getElem hlt⟩⟩
  rintro σ' H4 ⟨c, i, rfl, e4, hci⟩
  have hD4 := e4 D _ hD3
  have hC4 := e4 C _ hC3
  have f4 := f2.trans (Frd.ex (e3.trans e4))
  have hmany : (many : Int) ≠ 0 := by omega
  have hpow : ∀ {H5 : Hp}, Ev (tOp (rI CPow fun i j => .int (i ^ j.toNat)) (tC (.int 10)) (tC (.int 18))) [some (.ref D), some (.int many), some (.int c), some (.int i), none] H5 (.int 1000000000000000000) := fun {H5} =>
    ev_is (ev_op ev_c ev_c (rv_I ⟨by decide, by decide, by decide⟩)) (by decide)
  by_cases hbig : 1000000000000000000 ≤ c
  · rcases hci with h0 | ⟨j, rfl, hj⟩
    · omega
    have hjl := (List.getElem?_eq_some_iff.mp hj).1
    refine q_when (b := true) (et_is (et_test (ev_op (ev_var rfl) hpow rv_I0)) (decide_eq_true (by omega))) (fun _ H5 e5 => ?_) fun h => Bool.noConfusion h
    have hD5 := e5 D _ hD4
    have hC5 := e5 C _ hC4
    have hdv : CDivW (c : Int) (many : Int) := wide_div (b := 64) (by omega) (by omega) (by decide) (by decide)
    refine q_setL (l := C) (xs := cs.map fun (c : Nat) => V.int (c : Int)) (j := j) (v := .int ((c / many : Nat) : Int)) hC5 (ev_is (ev_op (ev_int1 (ev_var rfl)) (ev_var rfl) (rv_I hdv)) rfl) (ev_atL 0 (ev_var rfl) (sq_of hD5)) (ev_var rfl) (by rw [List.length_map]; exact hjl) fun H6 e6 => ?_
    have f7 : Frd D C H (upd H6 C (.lst ((cs.map fun (c : Nat) => V.int (c : Int)).set j (.int ((c / many : Nat) : Int))))) := (f4.trans (Frd.ex (e5.trans e6))).upd (.inr (.inl rfl))
    have d7 : Deck K D C (m + 1) (upd H6 C (.lst ((cs.map fun (c : Nat) => V.int (c : Int)).set j (.int ((c / many : Nat) : Int))))) := ⟨cs.set j (c / many), by rw [upd_ne hDC]; exact e6 D _ hD5, by
      rw [upd_same, List.map_set], by rw [List.length_set]; exact hcl, hDC⟩
    generalize upd H6 C (.lst ((cs.map fun (c : Nat) => V.int (c : Int)).set j (.int ((c / many : Nat) : Int)))) = H7 at *
    refine s_ret (v := .int ((c % many : Nat) : Int)) (ev_is (ev_op (ev_int1 (ev_var rfl)) (ev_var rfl) (rv_I hmany)) ?_) fun H8 e8 => k _ H8 (m + 1) (f7.trans (Frd.ex e8)) (d7.ex e8) (by omega) (by omega) ⟨c % many, Nat.mod_lt _ (by omega), rfl⟩
    congr 1
    rw [Int.fmod_eq_emod_of_nonneg _ (by omega)]
    rfl
  · refine q_when (b := false) (et_is (et_test (ev_op (ev_var rfl) hpow rv_I0)) (decide_eq_false (by omega))) (fun h => Bool.noConfusion h) fun _ H5 e5 => ?_
    have hD5 := e5 D _ hD4
    have hmod : c % 2147483563 < 2147483563 := Nat.mod_lt _ (by decide)
    refine q_asg (v := .int ((c % 2147483563 + 8117 * (m + 1) + 3 : Nat) : Int)) (ev_is (ev_op (ev_op (ev_op (ev_int1 (ev_var rfl)) ev_c (rv_I (by decide))) (ev_op ev_c (ev_atL 1 (ev_var rfl) (sq_of hD5)) (rv_I (.inl ⟨by decide, by decide⟩))) rv_I0) ev_c rv_I0) ?_) fun H6 e6 => ?_
    · congr 1
      rw [Int.fmod_eq_emod_of_nonneg _ (by omega)]
      omega
    · generalize hN : c % 2147483563 + 8117 * (m + 1) + 3 = N at *
      have hNb : N < 2 ^ 64 := by
        have : m < 1099511627776 := hm
        omega
      refine s_ret (ev_op (ev_int1 (ev_op (ev_int1 (ev_op (ev_var rfl) ev_c (rv_I ⟨by decide, by decide, by omega⟩))) ev_c (rv_I (by decide)))) (ev_var rfl) (rv_I hmany)) fun H7 e7 => ?_
      generalize (Int.fmod ((N : Int) ^ (Int.toNat 5)) 2147483629) = z
      have z1 : 0 ≤ z.fmod (many : Int) := Int.fmod_nonneg_of_pos _ (by omega)
      have z2 : z.fmod (many : Int) < many := Int.fmod_lt_of_pos _ (by omega)
      refine k _ H7 (m + 1) (f4.trans (Frd.ex ((e5.trans e6).trans e7))) ⟨cs, ((e5.trans e6).trans e7) D _ hD4, ((e5.trans e6).trans e7) C _ hC4, hcl, hDC⟩ (by omega) (by omega) ⟨(z.fmod many).toNat, by omega, ?_⟩
      congr 1
      omega
end
end K7
set_option maxHeartbeats 4000000
/-! readings of what draws; _law_one, _law_kept, _law_name, _law_word -/
namespace K7
open PySem PySem.Spec PyProof.Rows L2 Evl
/-! ### readings: A, B the deck -/
theorem sql_frd {K : PySem.W.Frag} {A B L : Addr} {H H' : Hp} {xs : List V} (h : SqL K H L xs) (h1 : L ≠ A) (h2 : L ≠ B) (f : Frd A B H H') : SqL K H' L xs := by
  rcases h with (h | ⟨o, h⟩) | h
  · exact .inl (.inl (f _ _ h1 h2 h))
  · exact .inl (.inr ⟨o, f _ _ h1 h2 h⟩)
  · exact .inr h
def EvD (K : PySem.W.Frag) (A B : Addr) (te : TE) (σ : L2.St) (H : Hp) (n : Nat) (R : V → Hp → Prop) : Prop := ∀ H1 m, Frd A B H H1 → Deck K A B m H1 → m + n ≤ Lim → ∀ Q : VK, DrR K A B m n R H1 Q → te σ H1 Q
def EvDA (K : PySem.W.Frag) (A B : Addr) (ta : TA) (σ : L2.St) (H : Hp) (n : Nat) (R : List V → Hp → Prop) : Prop := ∀ H1 m, Frd A B H H1 → Deck K A B m H1 → m + n ≤ Lim → ∀ Q : List V → Hp → Prop, (∀ v H' m', Frd A B H1 H' → Deck K A B m' H' → m ≤ m' → m' ≤ m + n → R v H' → Q v H') → ta σ H1 Q
def Stb {α : Type} (K : PySem.W.Frag) (A B : Addr) (R : α → Hp → Prop) : Prop := ∀ v H H' m, Deck K A B m H → Frd A B H H' → R v H → R v H'
def LstOf (A B : Addr) (R : List V → Hp → Prop) : V → Hp → Prop := fun v H => ∃ L xs, v = .ref L ∧ H L = some (.lst xs) ∧ L ≠ A ∧ L ≠ B ∧ R xs H
def Cons2 (R : V → Hp → Prop) (R2 : List V → Hp → Prop) : List V → Hp → Prop := fun xs H => ∃ x vs, xs = x :: vs ∧ R x H ∧ R2 vs H
section
variable {K : PySem.W.Frag} {A B : Addr} {σ : L2.St} {H H' : Hp} {te tl ta tb : TE} {ts : TA} {n n' m : Nat} {R R' R2 : V → Hp → Prop} {S S' : List V → Hp → Prop} {D : Ends} {tz : TS} {v : V}
theorem stb_pure {α : Type} {p : α → Prop} : Stb K A B (fun v _ => p v) := fun _ _ _ _ _ _ h => h
theorem stb_dp {d : PyData} (h : noL d = true) : Stb K A B (fun v H => Dp K H v d) := fun v H H' m hd f r => keep_dp (hd.keep f) h r
theorem stb_lst (h : Stb K A B S) : Stb K A B (LstOf A B S) := fun v H H' m hd f ⟨L, xs, h1, h2, h3, h4, h5⟩ => ⟨L, xs, h1, f _ _ h3 h4 h2, h3, h4, h xs H H' m hd f h5⟩
theorem stb_cons (h : Stb K A B R) (h2 : Stb K A B S) : Stb K A B (Cons2 R S) := fun v H H' m hd f ⟨x, vs, h3, h4, h5⟩ => ⟨x, vs, h3, h x H H' m hd f h4, h2 vs H H' m hd f h5⟩
theorem EvD.mono (h : EvD K A B te σ H n R) (f : Frd A B H H') : EvD K A B te σ H' n R := fun H1 m f1 => h H1 m (f.trans f1)
theorem ed_le (h : EvD K A B te σ H n R) (hn : n ≤ n') : EvD K A B te σ H n' R := fun H1 m f d hl Q k => h H1 m f d (by omega) Q fun v H2 m2 f2 d2 l1 l2 r => k v H2 m2 f2 d2 l1 (by omega) r
theorem ed_imp (h : EvD K A B te σ H n R) (hi : ∀ v H1 m, Frd A B H H1 → Deck K A B m H1 → R v H1 → R' v H1) : EvD K A B te σ H n R' := fun H1 m f d hl Q k => h H1 m f d hl Q fun v H2 m2 f2 d2 l1 l2 r => k v H2 m2 f2 d2 l1 l2 (hi v H2 m2 (f.trans f2) d2 r)
theorem ed_ev (h : ∀ H1, Frd A B H H1 → Ev te σ H1 v) : EvD K A B te σ H 0 (fun x _ => x = v) := fun H1 m f d hl Q k => h H1 f H1 (Ex.refl H1) Q fun H2 e2 => k v H2 m (Frd.ex e2) (d.ex e2) (Nat.le_refl _) (Nat.le_refl _) rfl
theorem ed_var {i : Nat} (h : σ[i]? = some (some v)) : EvD K A B (tVar i) σ H 0 (fun x _ => x = v) := ed_ev fun _ _ => ev_var h
theorem ed_c : EvD K A B (tC v) σ H 0 (fun x _ => x = v) := ed_ev fun _ _ => ev_c
theorem eda_nil : EvDA K A B tNil σ H 0 (fun xs _ => xs = []) := fun H1 m f d hl Q k => k [] H1 m (Frd.refl _ _ _) d (Nat.le_refl _) (Nat.le_refl _) rfl
theorem eda_cons (st : Stb K A B R) (h : EvD K A B te σ H n R) (hr : EvDA K A B ts σ H n' S) : EvDA K A B (tCons te ts) σ H (n + n') (Cons2 R S) := fun H1 m f d hl Q k =>
  h H1 m f d (by omega) _ fun x H2 m2 f2 d2 l1 l2 r => hr H2 m2 (f.trans f2) d2 (by omega) _ fun vs H3 m3 f3 d3 l3 l4 r2 => k (x :: vs) H3 m3 (f2.trans f3) d3 (by omega) (by omega) ⟨x, vs, rfl, st x H2 H3 m2 d2 f3 r, r2⟩
theorem eda_imp (h : EvDA K A B ts σ H n S) (hi : ∀ v H1, S v H1 → S' v H1) : EvDA K A B ts σ H n S' := fun H1 m f d hl Q k => h H1 m f d hl Q fun v H2 m2 f2 d2 l1 l2 r => k v H2 m2 f2 d2 l1 l2 (hi v H2 r)
/-- a call -/
theorem ed_call {sp : Sp} (h : EvDA K A B ts σ H n S) (hs : ∀ vs H1 m, Frd A B H H1 → Deck K A B m H1 → m + n' ≤ Lim → S vs H1 → ∀ Q, DrR K A B m n' R H1 Q → sp vs H1 Q E0) : EvD K A B (tCall sp [] E0 ts) σ H (n + n') R := fun H1 m f d hl Q k =>
  h H1 m f d (by omega) _ fun vs H2 m2 f2 d2 l1 l2 r => by
    rw [List.append_nil]
    exact hs vs H2 m2 (f.trans f2) d2 (by omega) r Q fun v H3 m3 f3 d3 l3 l4 r3 => k v H3 m3 (f2.trans f3) d3 (by omega) (by omega) r3
theorem ed_callE {sp : Sp} {vs : List V} (h : ∀ H1, Frd A B H H1 → EvA ts σ H1 vs) (hs : ∀ H1 m, Frd A B H H1 → Deck K A B m H1 → m + n ≤ Lim → ∀ Q, DrR K A B m n R H1 Q → sp vs H1 Q E0) : EvD K A B (tCall sp [] E0 ts) σ H n R := fun H1 m f d hl Q k =>
  h H1 f H1 (Ex.refl H1) _ fun H2 e2 => by
    rw [List.append_nil]
    exact hs H2 m (f.trans (Frd.ex e2)) (d.ex e2) hl Q fun v H3 m3 f3 d3 l3 l4 r3 => k v H3 m3 ((Frd.ex e2).trans f3) d3 l3 l4 r3
theorem fresh_ne {p : Addr} (d : Deck K A B m H) (h : H p = none) : p ≠ A ∧ p ≠ B := by
  obtain ⟨cs, h1, h2, _⟩ := d
  exact ⟨(ne_of_none h1 h).symm, (ne_of_none h2 h).symm⟩
/-- a new list -/
theorem ed_lst (st : Stb K A B S) (h : EvDA K A B ts σ H n S) (hl : ∀ xs H1, S xs H1 → xs.length ≤ 100000) : EvD K A B (tLst ts) σ H n (LstOf A B S) := fun H1 m f d hm Q k =>
  h H1 m f d hm _ fun xs H2 m2 f2 d2 l1 l2 r => ⟨sz_of (hl xs H2 r), fun p hp => by
    have hn := fresh_ne d2 hp
    have e := Ex.new (o := .lst xs) hp
    exact k _ _ m2 (f2.trans (Frd.ex e)) (d2.ex e) l1 l2 ⟨p, xs, rfl, upd_same, hn.1, hn.2, st xs H2 _ m2 d2 (Frd.ex e) r⟩⟩
/-- a new tuple -/
theorem ed_tup (st : Stb K A B S) (h : EvDA K A B ts σ H n S) (hl : ∀ xs H1, S xs H1 → xs.length ≤ 100000) : EvD K A B (tTup ts) σ H n (fun v H1 => ∃ p xs, v = .ref p ∧ H1 p = some (.tup xs) ∧ S xs H1) := fun H1 m f d hm Q k =>
  h H1 m f d hm _ fun xs H2 m2 f2 d2 l1 l2 r => ⟨sz_of (hl xs H2 r), fun p hp => by
    have e := Ex.new (o := .tup xs) hp
    exact k _ _ m2 (f2.trans (Frd.ex e)) (d2.ex e) l1 l2 ⟨p, xs, rfl, upd_same, st xs H2 _ m2 d2 (Frd.ex e) r⟩⟩
theorem q_asgD {i : Nat} (h : EvD K A B te σ H n R) (hd : Deck K A B m H) (hm : m + n ≤ Lim) (k : ∀ v H1 m1, Frd A B H H1 → Deck K A B m1 H1 → m ≤ m1 → m1 ≤ m + n → R v H1 → tz D (σ.set i (some v)) H1) : tSeq (tAsg te (gName i)) tz D σ H := h H m (Frd.refl _ _ _) hd hm _ k
theorem s_asgD {i : Nat} (h : EvD K A B te σ H n R) (hd : Deck K A B m H) (hm : m + n ≤ Lim) (k : ∀ v H1 m1, Frd A B H H1 → Deck K A B m1 H1 → m ≤ m1 → m1 ≤ m + n → R v H1 → D.nx (σ.set i (some v)) H1) : tAsg te (gName i) D σ H := h H m (Frd.refl _ _ _) hd hm _ k
theorem s_retD (h : EvD K A B te σ H n R) (hd : Deck K A B m H) (hm : m + n ≤ Lim) (k : DrR K A B m n R H D.rt) : tRet te D σ H := h H m (Frd.refl _ _ _) hd hm _ k
end
/-! ### _law_one -/
section
variable {P : Program} {w : World} {K : PySem.W.Frag} {mg : Str → Option Value} {base : Heap}
def spOne (K : PySem.W.Frag) : Sp := fun vs H Q _ => ∃ (A B : Addr) (m : Nat) (x : V), vs = [.ref A, x] ∧ Deck K A B m H ∧ m + 1 ≤ Lim ∧
  ((∃ L xs, x = .ref L ∧ SqL K H L xs ∧ L ≠ A ∧ L ≠ B ∧ 1 ≤ xs.length ∧ xs.length ≤ 1000 ∧ DrR K A B m 1 (fun v _ => v ∈ xs) H Q) ∨ (∃ z : Str, x = .str z ∧ 1 ≤ z.length ∧ z.length ≤ 1000 ∧ DrR K A B m 1 (fun v _ => ∃ c ∈ TL.tl z, v = .str ⟨#[c]⟩) H Q))
theorem ok_one (T : Txt w K mg) : FOk P w K mg base 2 "_law_one" (spOne K) := by
  have G__law_draw : FOk P w K mg base 1 "_law_draw" (spDraw K) := ok_draw T
  refine fok T.f__law_one T.g__law_one sc__law_one (fun _ _ _ _ _ _ us hl => match us, hl with | [_, _], _ => rfl) (fun vs H Q E h => ?_) (fun cdv A outer s H vs Q E hr h => ?_)
  · obtain ⟨A, B, m, x, rfl, _⟩ := h
    rfl
  obtain ⟨A, B, m, x, rfl, hd, hm, h⟩ := h
  have nd := sc__law_one.nd
  rcases h with ⟨L, xs, rfl, hs, hA, hB, h1, h2, k⟩ | ⟨z, rfl, h1, h2, k⟩
  · refine ⟨_, (pss_one (ps_ret (pe_ix ix_list (pv 1) (pe_f G__law_draw (hr.mono (by omega)) (pa_cons (pv 0) (pa_cons (pe_callB call_len_seq (by rfl) T.z_len PySem.boot_len (pa_cons (pv 1) pa_nil)) pa_nil))) (fun _ _ => rfl)))), ?_⟩
    refine ⟨.ref L, rfl, ?_⟩
    refine t_call (vs := [.ref A, .int xs.length]) (ea_cons (ev_var rfl) (ea_cons (ev_len (ev_var rfl) hs) ea_nil)) fun H1 e1 => ?_
    refine ⟨A, B, m, xs.length, rfl, hd.ex e1, h1, by omega, by omega, fun v H2 m2 f2 d2 l1 l2 ⟨j, hj, ev⟩ => ?_⟩
    subst ev
    have hs2 := sql_frd hs hA hB ((Frd.ex e1).trans f2)
    exact ⟨L, xs, j, xs[j], rfl, rfl, hs2, atI_nat (List.getElem?_eq_getElem hj), k _ H2 m2 ((Frd.ex e1).trans f2) d2 l1 l2 (List.getElem_mem hj)⟩
  · refine ⟨_, (pss_one (ps_ret (pe_ix ix_str (pv 1) (pe_f G__law_draw (hr.mono (by omega)) (pa_cons (pv 0) (pa_cons (pe_callB call_len_str (by rfl) T.z_len PySem.boot_len (pa_cons (pv 1) pa_nil)) pa_nil))) (fun _ _ => rfl)))), ?_⟩
    refine ⟨.str z, rfl, ?_⟩
    refine t_call (vs := [.ref A, .int z.length]) (ea_cons (ev_var rfl) (ea_cons (ev_lenStr (ev_var rfl) (by omega)) ea_nil)) fun H1 e1 => ?_
    refine ⟨A, B, m, z.length, rfl, hd.ex e1, h1, by omega, by omega, fun v H2 m2 f2 d2 l1 l2 ⟨j, hj, ev⟩ => ?_⟩
    subst ev
    have hj2 : j < (TL.tl z).length := by rw [← TL.len_tl]; exact hj
    exact ⟨z, j, (TL.tl z)[j], rfl, rfl, sz_of (by omega), atI_nat (List.getElem?_eq_getElem hj2), k _ H2 m2 ((Frd.ex e1).trans f2) d2 l1 l2 ⟨_, List.getElem_mem hj2, rfl⟩⟩
section
variable {A B : Addr} {σ : L2.St} {H H' : Hp} {te tl ta tb : TE} {n : Nat} {S : List V → Hp → Prop}
/-- a draw, one of a new list, one of a list that stands, one sign -/
theorem ed_draw {many i : Nat} (hi : σ[i]? = some (some (.ref A))) (h : ∀ H1, Frd A B H H1 → Ev te σ H1 (.int many)) (h1 : 1 ≤ many) (h2 : many ≤ 100000) : EvD K A B (tCall (spDraw K) [] E0 (tCons (tVar i) (tCons te tNil))) σ H 1 (fun v _ => ∃ j : Nat, j < many ∧ v = .int j) :=
  ed_callE (vs := [.ref A, .int many]) (fun H1 f => ea_cons (ev_var hi) (ea_cons (h H1 f) ea_nil)) fun H1 m f d hl Q k => ⟨A, B, m, many, rfl, d, h1, h2, by omega, k⟩
theorem ed_oneN {i : Nat} (hi : σ[i]? = some (some (.ref A))) (st : Stb K A B S) (h : EvD K A B tl σ H n (LstOf A B S)) (hl : ∀ xs H1, S xs H1 → 1 ≤ xs.length ∧ xs.length ≤ 1000) : EvD K A B (tCall (spOne K) [] E0 (tCons (tVar i) (tCons tl tNil))) σ H (n + 1) (fun v H' => ∃ xs, S xs H' ∧ v ∈ xs) := by
  have q := eda_cons (K := K) (A := A) (B := B) stb_pure (ed_var (H := H) hi) (eda_cons (stb_lst st) h eda_nil)
  refine ed_le (ed_call (n' := 1) q fun vs H1 m f d hm hv Q k => ?_) (by omega)
  obtain ⟨x, us, rfl, rfl, y, ws, rfl, ⟨L, xs, rfl, hL, hA, hB, hS⟩, rfl⟩ := hv
  have hz := hl xs H1 hS
  exact ⟨A, B, m, .ref L, rfl, d, hm, .inl ⟨L, xs, rfl, sq_of hL, hA, hB, hz.1, hz.2, fun v H2 m2 f2 d2 l1 l2 r => k v H2 m2 f2 d2 l1 l2 ⟨xs, st xs H1 H2 m d f2 hS, r⟩⟩⟩
theorem ed_oneL {i : Nat} {L : Addr} {xs : List V} (hi : σ[i]? = some (some (.ref A))) (h : ∀ H1, Frd A B H H1 → Ev tl σ H1 (.ref L)) (hs : SqL K H L xs) (hA : L ≠ A) (hB : L ≠ B) (h1 : 1 ≤ xs.length) (h2 : xs.length ≤ 1000) : EvD K A B (tCall (spOne K) [] E0 (tCons (tVar i) (tCons tl tNil))) σ H 1 (fun v _ => v ∈ xs) :=
  ed_callE (vs := [.ref A, .ref L]) (fun H1 f => ea_cons (ev_var hi) (ea_cons (h H1 f) ea_nil)) fun H1 m f d hl Q k => ⟨A, B, m, .ref L, rfl, d, hl, .inl ⟨L, xs, rfl, sql_frd hs hA hB f, hA, hB, h1, h2, k⟩⟩
theorem ed_oneS {i : Nat} {z : Str} (hi : σ[i]? = some (some (.ref A))) (h : ∀ H1, Frd A B H H1 → Ev tl σ H1 (.str z)) (h1 : 1 ≤ z.length) (h2 : z.length ≤ 1000) : EvD K A B (tCall (spOne K) [] E0 (tCons (tVar i) (tCons tl tNil))) σ H 1 (fun v _ => ∃ c ∈ TL.tl z, v = .str ⟨#[c]⟩) :=
  ed_callE (vs := [.ref A, .str z]) (fun H1 f => ea_cons (ev_var hi) (ea_cons (h H1 f) ea_nil)) fun H1 m f d hl Q k => ⟨A, B, m, .str z, rfl, d, hl, .inr ⟨z, rfl, h1, h2, k⟩⟩
end
/-! ### _law_kept -/
def keptT : Str := "as ask cut drop else full given hold if keep make not pass repeat same say set take weak wish wished"
theorem kept_eq : Txt.words keptT = nameBar := by decide +kernel
def spKept : Sp := fun vs H Q _ => vs = [] ∧ RetL (nameBar.map V.str) H Q
theorem ok_kept (T : Txt w K mg) : FOk P w K mg base 1 "_law_kept" spKept := by
  refine fok T.f__law_kept T.g__law_kept sc__law_kept (ps := []) (fun _ _ _ _ _ _ us hl => match us, hl with | [], _ => rfl) (fun vs H Q E h => ?_) (fun cdv A outer s H vs Q E hr h => ?_)
  · rw [h.1]
    rfl
  obtain ⟨rfl, k⟩ := h
  have nd := sc__law_kept.nd
  refine ⟨_, (pss_cons (ps_set (i := 0) nd rfl (Or.inl rfl) pe_str) (pss_one (ps_ret (pe_words (pv 0))))), ?_⟩
  refine q_asg (v := .str keptT) ev_c fun H1 e1 => ?_
  refine ⟨.str keptT, rfl, ⟨keptT, rfl⟩, keptT, rfl, rfl, by decide +kernel, fun p hp => ?_⟩
  rw [kept_eq]
  exact k p _ (fresh_back e1 hp) (e1.trans (Ex.new hp)) upd_same
end
end K7
set_option maxHeartbeats 4000000
/-! _law_name, _law_word -/
namespace K7
open PySem PySem.Spec PyProof.Rows L2 Evl
section
variable {K : PySem.W.Frag} {A B : Addr} {σ : L2.St} {H H' : Hp} {te tl ta tb : TE} {n n' m N : Nat} {D : Ends} {tz tu : TS} {p : V → Prop}
theorem mem_c2 {R : V → Hp → Prop} {S : List V → Hp → Prop} {xs : List V} {v : V} (h : Cons2 R S xs H) (hv : v ∈ xs) : R v H ∨ ∃ vs, S vs H ∧ v ∈ vs := by
  obtain ⟨x, vs, rfl, h1, h2⟩ := h
  rcases List.mem_cons.mp hv with rfl | hv
  · exact .inl h1
  · exact .inr ⟨vs, h2, hv⟩
theorem len_c2 {R : V → Hp → Prop} {S : List V → Hp → Prop} {l : Nat} {xs : List V} (h : Cons2 R S xs H) (hl : ∀ vs, S vs H → vs.length = l) : xs.length = l + 1 := by
  obtain ⟨x, vs, rfl, h1, h2⟩ := h
  rw [List.length_cons, hl vs h2]
theorem len_nil {xs : List V} (h : xs = []) : xs.length = 0 := by rw [h]; rfl
/-- for .. in range of what is drawn -/
theorem s_forRD {j : Nat} (h : EvD K A B te σ H n (fun v _ => ∃ c : Nat, c ≤ N ∧ v = .int c)) (hN : N ≤ 10000) (hd : Deck K A B m H) (hm : m + n ≤ Lim)
    (k : ∀ c H1 m1, c ≤ N → Frd A B H H1 → Deck K A B m1 H1 → m ≤ m1 → m1 ≤ m + n → ∃ Pv : Nat → L2.St → Hp → Prop, Pv 0 σ H1 ∧ (∀ i σ' H', i < c → Pv i σ' H' → tu { D with nx := Pv (i + 1), ct := Pv (i + 1), bk := D.nx } (σ'.set j (some (.int (i : Nat)))) H') ∧ ∀ σ' H', Pv c σ' H' → D.nx σ' H') :
    tFor (iRng1 (tCons te tNil)) (gName j) tu D σ H := h H m (Frd.refl _ _ _) hd hm _ fun v H1 m1 f1 d1 l1 l2 ⟨c, hc, ev⟩ => by
  subst ev
  obtain ⟨Pv, h0, hs, hdn⟩ := k c H1 m1 hc f1 d1 l1 l2
  refine ⟨(c : Int), rfl, by omega, by omega, ?_⟩
  have e : ((c : Int)).toNat = c := by omega
  refine for_range (lo := 0) (n := ((c : Int)).toNat) Pv h0 (fun i σ' H' hi q => ?_) (fun σ' H' q => by rw [e] at q; exact hdn σ' H' q)
  have e0 : (0 : Int) + (i : Int) = (i : Int) := Int.zero_add _
  show tu { D with nx := Pv (i + 1), ct := Pv (i + 1), bk := D.nx } (σ'.set j (some (.int ((0 : Int) + (i : Int))))) H'
  rw [e0]
  exact hs i σ' H' (by omega) q
theorem q_forRD {j : Nat} (h : EvD K A B te σ H n (fun v _ => ∃ c : Nat, c ≤ N ∧ v = .int c)) (hN : N ≤ 10000) (hd : Deck K A B m H) (hm : m + n ≤ Lim)
    (k : ∀ c H1 m1, c ≤ N → Frd A B H H1 → Deck K A B m1 H1 → m ≤ m1 → m1 ≤ m + n → ∃ Pv : Nat → L2.St → Hp → Prop, Pv 0 σ H1 ∧ (∀ i σ' H', i < c → Pv i σ' H' → tu { D with nx := Pv (i + 1), ct := Pv (i + 1), bk := tz D } (σ'.set j (some (.int (i : Nat)))) H') ∧ ∀ σ' H', Pv c σ' H' → tz D σ' H') :
    tSeq (tFor (iRng1 (tCons te tNil)) (gName j) tu) tz D σ H := s_forRD (D := { D with nx := tz D }) h hN hd hm k
/-- [e for .. in range of what is drawn] -/
theorem ed_lcR {j : Nat} {vs : List Nat} {Cn : Nat → Prop} (h : EvD K A B tl σ H n (fun v _ => ∃ c : Nat, c ≤ N ∧ Cn c ∧ v = .int c)) (hN : N ≤ 10000) (hw : ∀ x, wipe ((wipe σ vs).set j (some x)) vs = wipe σ vs)
    (he : ∀ i, i < N → EvD K A B te ((wipe σ vs).set j (some (.int (i : Nat)))) H n' (fun v _ => p v)) : EvD K A B (tLc (iRng1 (tCons tl tNil)) (gName j) tYes te vs) σ H (n + N * n') (LstOf A B (fun xs _ => Cn xs.length ∧ xs.length ≤ N ∧ ∀ x ∈ xs, p x)) := fun H1 m f d hl Q k => h H1 m f d (by omega) _ fun v H2 m2 f2 d2 l1 l2 ⟨c, hc, hcn, ev⟩ => by
  subst ev
  refine ⟨(c : Int), rfl, by omega, by omega, fun Dl hD => ?_⟩
  have e : ((c : Int)).toNat = c := by omega
  have hne := fresh_ne d2 hD
  refine lc_range (lo := 0) (n := ((c : Int)).toNat) (fun i H' => ∃ m' xs, Frd A B H2 H' ∧ Deck K A B m' H' ∧ m2 ≤ m' ∧ m' ≤ m2 + i * n' ∧ H' Dl = some (.lst xs) ∧ xs.length = i ∧ ∀ x ∈ xs, p x) ⟨m2, [], Frd.ex (Ex.new hD), d2.ex (Ex.new hD), Nat.le_refl _, by omega, upd_same, rfl, fun x hx => by cases hx⟩ (fun i H' hi q => ?_) (fun H' q => ?_)
  · have e0 : (0 : Int) + (i : Int) = (i : Int) := Int.zero_add _
    rw [e0]
    obtain ⟨m', xs, f3, d3, l3, l4, hx, hxl, hp⟩ := q
    have hiN : i + 1 ≤ N := by omega
    have hmul := Nat.mul_le_mul_right n' hiN
    rw [Nat.succ_mul] at hmul
    refine ⟨hw _, ?_⟩
    show te _ _ _
    refine he i (by omega) H' m' ((f.trans f2).trans f3) d3 (by omega) _ fun y H4 m4 f4 d4 l5 l6 hy => ⟨xs, f4 Dl _ hne.1 hne.2 hx, sz_lt (by omega), m4, xs ++ [y], (f3.trans f4).upd (.inr (.inr hD)), ?_, by omega, by rw [Nat.succ_mul]; omega, upd_same, by rw [List.length_append, hxl]; rfl, fun z hz => ?_⟩
    · obtain ⟨cs, a1, a2, a3⟩ := d4
      exact ⟨cs, by rw [upd_ne hne.1.symm]; exact a1, by rw [upd_ne hne.2.symm]; exact a2, a3⟩
    · rcases List.mem_append.mp hz with hz | hz
      · exact hp z hz
      · rw [List.mem_singleton.mp hz]
        exact hy
  · obtain ⟨m', xs, f3, d3, l3, l4, hx, hxl, hp⟩ := q
    rw [e] at l4 hxl
    have hmul := Nat.mul_le_mul_right n' hc
    exact k _ H' m' (f2.trans f3) d3 (by omega) (by omega) ⟨Dl, xs, rfl, hx, hne.1, hne.2, by rw [hxl]; exact hcn, by omega, hp⟩
theorem ed_add1 (h : EvD K A B te σ H n (fun v _ => ∃ j : Nat, j < N ∧ v = .int j)) : EvD K A B (tOp (rI0 fun i j => .int (i + j)) (tC (.int 1)) te) σ H n (fun v _ => ∃ c : Nat, c ≤ N ∧ 1 ≤ c ∧ v = .int c) := fun H1 m f d hl Q k =>
  h H1 m f d hl _ fun v H2 m2 f2 d2 l1 l2 ⟨j, hj, ev⟩ => ⟨1, j, rfl, ev, k _ H2 m2 f2 d2 l1 l2 ⟨j + 1, by omega, by omega, congrArg V.int (by omega)⟩⟩
end
section
variable {P : Program} {w : World} {K : PySem.W.Frag} {mg : Str → Option Value} {base : Heap}
theorem stbC {A B : Addr} {R : V → Hp → Prop} {S : List V → Hp → Prop} (h : Stb K A B R) (h2 : Stb K A B S) : Stb K A B (Cons2 R S) := stb_cons h h2
/-- what a name is in the making -/
def Mk1 (i : Nat) (x : Str) : Prop := x.length = i + 1 ∧ headSmall x = true ∧ (TL.tl x).all sgnB = true
theorem mk1_app {i : Nat} {x : Str} {c : Nat} (h : Mk1 i x) (hc : sgnB c = true) : Mk1 (i + 1) (x ++ ⟨#[c]⟩) := by
  obtain ⟨h1, h2, h3⟩ := h
  have e : TL.tl (x ++ ⟨#[c]⟩) = TL.tl x ++ [c] := by
    rw [TL.tl_append]
  refine ⟨?_, ?_, ?_⟩
  · rw [TL.len_tl, e, List.length_append, ← TL.len_tl, h1, List.length_singleton]
  · unfold headSmall at *
    rw [e]
    cases q : TL.tl x with
    | nil => rw [q] at h2; cases h2
    | cons a r =>
      rw [q] at h2
      exact h2
  · rw [e, List.all_append, h3]
    simp [hc]
theorem mk1_name {i : Nat} {x : Str} (h : Mk1 i x) (hi : i ≤ 7) (hb : x ∉ nameBar) : isName x = true := by
  obtain ⟨h1, h2, h3⟩ := h
  unfold isName isWord
  rw [h2, h3, decide_eq_false hb, decide_eq_true (by omega), decide_eq_true (by omega)]
  rfl
theorem kept_name : ∀ y ∈ nameBar, isName (cutS y none (some 7) ++ "0") = true := by decide +kernel
def spName (K : PySem.W.Frag) : Sp := fun vs H Q _ => ∃ (A B : Addr) (m : Nat), vs = [.ref A] ∧ Deck K A B m H ∧ m + 10 ≤ Lim ∧ DrR K A B m 10 (fun v _ => ∃ x, v = .str x ∧ isName x = true) H Q
theorem ok_name (T : Txt w K mg) : FOk P w K mg base 3 "_law_name" (spName K) := by
  have G__law_draw : FOk P w K mg base 1 "_law_draw" (spDraw K) := ok_draw T
  have G__law_one : FOk P w K mg base 2 "_law_one" (spOne K) := ok_one T
  have G__law_kept : FOk P w K mg base 1 "_law_kept" spKept := ok_kept T
  refine fok T.f__law_name T.g__law_name sc__law_name (fun _ _ _ _ _ _ us hl => match us, hl with | [_], _ => rfl) (fun vs H Q E h => ?_) (fun cdv A outer s H vs Q E hr h => ?_)
  · obtain ⟨A, B, m, rfl, _⟩ := h
    rfl
  obtain ⟨A, B, m, rfl, hd, hm, k⟩ := h
  have nd := sc__law_name.nd
  refine ⟨_, (pss_cons (ps_set (i := 1) nd rfl (Or.inl rfl) pe_str) (pss_cons (ps_set (i := 2) nd rfl (Or.inl rfl) (pe_f G__law_one (hr.mono (by omega)) (pa_cons (pv 0) (pa_cons (pv 1) pa_nil)))) (pss_cons (ps_for PassesOwn.never rfl (pi_range1 (by rfl) T.z_range (pa_cons (pe_f G__law_one (hr.mono (by omega)) (pa_cons (pv 0) (pa_cons (pe_lst (pa_cons pe_int (pa_cons pe_int (pa_cons pe_int (pa_cons (pe_f G__law_draw (hr.mono (by omega)) (pa_cons (pv 0) (pa_cons pe_int pa_nil))) pa_nil))))) pa_nil))) pa_nil)) (pg_name (i := 3) nd rfl (Or.inl rfl)) (pss_one (ps_set (i := 2) nd rfl (Or.inl rfl) (pe_op op_add_str (pv 2) (pe_f G__law_one (hr.mono (by omega)) (pa_cons (pv 0) (pa_cons (pe_op op_add_str (pv 1) pe_str) pa_nil))))))) (pss_one (ps_ret (pe_ifExp (pt_cmpR op_notIn_seq (pv 2) (pe_f0 G__law_kept (hr.mono (by omega))) (by rfl)) (pv 2) (pe_op op_add_str (pe_slice sl_str (pv 2) po_none (po_some pe_int)) pe_str))))))), ?_⟩
  have hl26 : (smallS : Str).length = 26 := by decide +kernel
  have hl10 : (digitS : Str).length = 10 := by decide +kernel
  refine q_asg (v := .str smallS) ev_c fun H1 e1 => ?_
  refine q_asgD (ed_oneS (K := K) (B := B) (z := smallS) rfl (fun _ _ => ev_var rfl) (by omega) (by omega)) (hd.ex e1) (by omega) fun v H2 m2 f2 d2 l1 l2 ⟨c, hc, ev⟩ => ?_
  subst ev
  have hmk : Mk1 0 ⟨#[c]⟩ := by
    refine ⟨rfl, decide_eq_true hc, ?_⟩
    show [c].all sgnB = true
    have : sgnB c = true := by
      unfold sgnB
      rw [decide_eq_true hc]
      rfl
    simp [this]
  have hcount : EvD K A B (tCall (spOne K) [] E0 (tCons (tVar 0) (tCons (tLst (tCons (tC (.int 0)) (tCons (tC (.int 1)) (tCons (tC (.int 7)) (tCons (tCall (spDraw K) [] E0 (tCons (tVar 0) (tCons (tC (.int 8)) tNil))) tNil))))) tNil))) [some (.ref A), some (.str smallS), some (.str ⟨#[c]⟩), none] H2 2 (fun v _ => ∃ c : Nat, c ≤ 7 ∧ v = .int c) := by
    have q := eda_cons (K := K) (A := A) (B := B) stb_pure (ed_c (v := .int 0)) (eda_cons stb_pure (ed_c (v := .int 1)) (eda_cons stb_pure (ed_c (v := .int 7)) (eda_cons stb_pure (ed_draw (σ := [some (.ref A), some (.str smallS), some (.str ⟨#[c]⟩), none]) (H := H2) (te := tC (.int 8)) (many := 8) (i := 0) rfl (fun _ _ => ev_c) (by decide) (by decide)) eda_nil)))
    have st := stbC (K := K) (A := A) (B := B) (R := fun x _ => x = V.int 0) stb_pure (stbC (R := fun x _ => x = V.int 1) stb_pure (stbC (R := fun x _ => x = V.int 7) stb_pure (stbC (R := fun v _ => ∃ j : Nat, j < 8 ∧ v = V.int j) stb_pure (stb_pure (p := fun xs : List V => xs = [])))))
    have ln : ∀ xs (H1 : Hp), Cons2 (fun x _ => x = V.int 0) (Cons2 (fun x _ => x = V.int 1) (Cons2 (fun x _ => x = V.int 7) (Cons2 (fun v _ => ∃ j : Nat, j < 8 ∧ v = V.int j) fun xs _ => xs = []))) xs H1 → xs.length = 4 := fun xs H1 h => len_c2 h fun _ h => len_c2 h fun _ h => len_c2 h fun _ h => len_c2 h fun _ h => len_nil h
    refine ed_imp (ed_oneN rfl st (ed_lst st q fun xs H1 h => by rw [ln xs H1 h]; decide) fun xs H1 h => by rw [ln xs H1 h]; decide) fun v H3 m3 f3 d3 ⟨xs, hS, hv⟩ => ?_
    rcases mem_c2 hS hv with h | ⟨_, hS, hv⟩
    · exact ⟨0, by decide, h⟩
    rcases mem_c2 hS hv with h | ⟨_, hS, hv⟩
    · exact ⟨1, by decide, h⟩
    rcases mem_c2 hS hv with h | ⟨_, hS, hv⟩
    · exact ⟨7, by decide, h⟩
    rcases mem_c2 hS hv with ⟨j, hj, h⟩ | ⟨_, hS, hv⟩
    · exact ⟨j, by omega, h⟩
    · rw [hS] at hv
      cases hv
  refine q_forRD hcount (by decide) d2 (by omega) fun cn H3 m3 hcn f3 d3 l3 l4 => ?_
  refine ⟨fun i σ' H' => ∃ x y m', σ' = [some (.ref A), some (.str smallS), some (.str x), y] ∧ Mk1 i x ∧ Frd A B H H' ∧ Deck K A B m' H' ∧ m ≤ m' ∧ m' ≤ m3 + i, ⟨_, _, m3, rfl, hmk, (Frd.ex e1).trans (f2.trans f3), d3, by omega, by omega⟩, fun i σ' H' hi q => ?_, fun σ' H' q => ?_⟩
  · obtain ⟨x, y, m', rfl, hx, f4, d4, l5, l6⟩ := q
    have hxl := hx.1
    have hboth : (smallS ++ digitS : Str).length = 36 := by rw [strLen_append, hl26, hl10]
    have hadd : ∀ {σ : L2.St} {H4 : Hp}, σ[1]? = some (some (.str smallS)) → Ev (tOp (fun x y H Q => ∃ i j, x = .str i ∧ y = .str j ∧ i.length + j.length ≤ sizeLine ∧ Q (.str (i ++ j)) H) (tVar 1) (tC (.str digitS))) σ H4 (.str (smallS ++ digitS)) := fun h => ev_addS (ev_var h) ev_c (by rw [hl26, hl10]; decide)
    refine ⟨_, rfl, ?_⟩
    refine ed_oneS (K := K) (A := A) (B := B) (i := 0) (z := smallS ++ digitS) rfl (fun _ _ => hadd rfl) (by omega) (by omega) H' m' (Frd.refl _ _ _) d4 (by omega) _ fun v H5 m5 f5 d5 l7 l8 ⟨c2, hc2, ev⟩ => ?_
    subst ev
    have hsg : sgnB c2 = true := by
      rw [TL.tl_append] at hc2
      unfold sgnB
      rcases List.mem_append.mp hc2 with h | h
      · rw [decide_eq_true h]; rfl
      · rw [decide_eq_true h, Bool.or_true]
    exact ⟨x, _, rfl, rfl, sz_of (by have e1 : (⟨#[c2]⟩ : Str).length = 1 := rfl; rw [e1]; omega), _, _, m5, rfl, mk1_app hx hsg, f4.trans f5, d5, by omega, by omega⟩
  · obtain ⟨x, y, m', rfl, hx, f4, d4, l5, l6⟩ := q
    have hkept : EvL (tCall spKept [] E0 tNil) [some (.ref A), some (.str smallS), some (.str x), y] H' (nameBar.map V.str) := el_call ea_nil fun H5 e5 Q' q E' => ⟨rfl, q⟩
    have hxl := hx.1
    by_cases hb : x ∈ nameBar
    · refine s_ret (v := .str (cutS x none (some 7) ++ "0")) (ev_if (b := false) (et_is (et_test (ev_opL (ev_var rfl) hkept fun p H5 h5 e5 => rv_niL (sq_of h5) rfl (by decide +kernel))) ?_) (fun h => Bool.noConfusion h) fun _ => ev_addS (ev_slS (ev_var rfl) eo_none (eo_some (i := 7) ev_c) (by omega)) ev_c ?_) fun H5 e5 => k _ H5 m' (f4.trans (Frd.ex e5)) (d4.ex e5) l5 (by omega) ⟨_, rfl, kept_name x hb⟩
      · rw [inV_str, decide_eq_true hb]
        rfl
      · have h1 := cutS_length x none (some 7)
        have h2 : ("0" : Str).length = 1 := by decide +kernel
        omega
    · refine s_ret (v := .str x) (ev_if (b := true) (et_is (et_test (ev_opL (ev_var rfl) hkept fun p H5 h5 e5 => rv_niL (sq_of h5) rfl (by decide +kernel))) ?_) (fun _ => ev_var rfl) fun h => Bool.noConfusion h) fun H5 e5 => k _ H5 m' (f4.trans (Frd.ex e5)) (d4.ex e5) l5 (by omega) ⟨_, rfl, mk1_name hx (by omega) hb⟩
      rw [inV_str, decide_eq_false hb]
      rfl
end
end K7
set_option maxHeartbeats 4000000
/-! _law_word, _law_pool -/
namespace K7
open PySem PySem.Spec PyProof.Rows L2 Evl
theorem join_signs : ∀ cs : List Nat, TL.tl (Txt.join "" (cs.map fun c => (⟨#[c]⟩ : Str))) = cs := fun cs => by
  rw [TL.join_eq]
  have e0 : TL.tl ("" : Str) = [] := by decide +kernel
  induction cs with
  | nil => decide +kernel
  | cons c r ih =>
    cases r with
    | nil => rfl
    | cons d q =>
      show TL.tl ((⟨#[c]⟩ : Str) ++ "" ++ Str.join "" ((d :: q).map fun c => (⟨#[c]⟩ : Str))) = _
      rw [TL.tl_append, TL.tl_append, ih, e0]
      rfl
theorem signs_list {xs : List V} (h : ∀ x ∈ xs, ∃ c, sgnB c = true ∧ x = V.str ⟨#[c]⟩) : ∃ cs : List Nat, xs = cs.map (fun c => V.str ⟨#[c]⟩) ∧ cs.all sgnB = true := by
  induction xs with
  | nil => exact ⟨[], rfl, rfl⟩
  | cons x r ih =>
    obtain ⟨cs, h1, h2⟩ := ih fun y hy => h y (List.mem_cons_of_mem _ hy)
    obtain ⟨c, hc, rfl⟩ := h x List.mem_cons_self
    exact ⟨c :: cs, by rw [h1]; rfl, by rw [List.all_cons, hc, h2]; rfl⟩
section
variable {P : Program} {w : World} {K : PySem.W.Frag} {mg : Str → Option Value} {base : Heap}
def spWord (K : PySem.W.Frag) : Sp := fun vs H Q _ => ∃ (A B : Addr) (m : Nat), vs = [.ref A] ∧ Deck K A B m H ∧ m + 10 ≤ Lim ∧ DrR K A B m 10 (fun v _ => ∃ x, v = .str x ∧ isWord x = true) H Q
abbrev bothS : Str := "0123456789abcdefghijklmnopqrstuvwxyz"
theorem both_sgn : ∀ c ∈ TL.tl bothS, sgnB c = true := by decide +kernel
theorem ok_word (T : Txt w K mg) : FOk P w K mg base 3 "_law_word" (spWord K) := by
  have G__law_draw : FOk P w K mg base 1 "_law_draw" (spDraw K) := ok_draw T
  have G__law_one : FOk P w K mg base 2 "_law_one" (spOne K) := ok_one T
  refine fok T.f__law_word T.g__law_word sc__law_word (fun _ _ _ _ _ _ us hl => match us, hl with | [_], _ => rfl) (fun vs H Q E h => ?_) (fun cdv A outer s H vs Q E hr h => ?_)
  · obtain ⟨A, B, m, rfl, _⟩ := h
    rfl
  obtain ⟨A, B, m, rfl, hd, hm, k⟩ := h
  have nd := sc__law_word.nd
  refine ⟨_, (pss_cons (ps_set (i := 1) nd rfl (Or.inr rfl) pe_str) (pss_one (ps_ret (pe_join pe_str (pe_lc (own := [("_law_k", 2)]) (g := gName 2) rfl nd (pi_range1 (by rfl) T.z_range (pa_cons (pe_f G__law_one (hr.mono (by omega)) (pa_cons (pv 0) (pa_cons (pe_lst (pa_cons pe_int (pa_cons pe_int (pa_cons pe_int (pa_cons (pe_op op_add pe_int (pe_f G__law_draw (hr.mono (by omega)) (pa_cons (pv 0) (pa_cons pe_int pa_nil)))) pa_nil))))) pa_nil))) pa_nil)) (blkOk_by (own := [("_law_k", 2)]) (N := N__law_word) (sc := defScope s__law_word) (by decide +kernel)) (fun _ _ _ _ _ => (pg_name (i := 2) nd rfl (Or.inl rfl))) (fun _ _ _ _ _ => pts_nil) (fun _ _ _ _ _ => (pe_f G__law_one (hr.mono (by omega)) (pa_cons (pv 0) (pa_cons (pv 1) pa_nil))))))))), ?_⟩
  have hl36 : (bothS : Str).length = 36 := by decide +kernel
  refine q_asg (v := .str bothS) ev_c fun H1 e1 => ?_
  have st := stbC (K := K) (A := A) (B := B) (R := fun x _ => x = V.int 1) stb_pure (stbC (R := fun x _ => x = V.int 2) stb_pure (stbC (R := fun x _ => x = V.int 8) stb_pure (stbC (R := fun v _ => ∃ c : Nat, c ≤ 8 ∧ 1 ≤ c ∧ v = V.int c) stb_pure (stb_pure (p := fun xs : List V => xs = [])))))
  have ln : ∀ xs (H1 : Hp), Cons2 (fun x _ => x = V.int 1) (Cons2 (fun x _ => x = V.int 2) (Cons2 (fun x _ => x = V.int 8) (Cons2 (fun v _ => ∃ c : Nat, c ≤ 8 ∧ 1 ≤ c ∧ v = V.int c) fun xs _ => xs = []))) xs H1 → xs.length = 4 := fun xs H1 h => len_c2 h fun _ h => len_c2 h fun _ h => len_c2 h fun _ h => len_c2 h fun _ h => len_nil h
  have hcount : EvD K A B (tCall (spOne K) [] E0 (tCons (tVar 0) (tCons (tLst (tCons (tC (.int 1)) (tCons (tC (.int 2)) (tCons (tC (.int 8)) (tCons (tOp (rI0 fun i j => .int (i + j)) (tC (.int 1)) (tCall (spDraw K) [] E0 (tCons (tVar 0) (tCons (tC (.int 8)) tNil)))) tNil))))) tNil))) [some (.ref A), some (.str bothS), none] H1 2 (fun v _ => ∃ c : Nat, c ≤ 8 ∧ (1 ≤ c ∧ c ≤ 8) ∧ v = .int c) := by
    have q := eda_cons (K := K) (A := A) (B := B) stb_pure (ed_c (v := .int 1)) (eda_cons stb_pure (ed_c (v := .int 2)) (eda_cons stb_pure (ed_c (v := .int 8)) (eda_cons stb_pure (ed_add1 (ed_draw (σ := [some (.ref A), some (.str bothS), none]) (H := H1) (te := tC (.int 8)) (many := 8) (i := 0) rfl (fun _ _ => ev_c) (by decide) (by decide))) eda_nil)))
    refine ed_imp (ed_oneN rfl st (ed_lst st q fun xs H1 h => by rw [ln xs H1 h]; decide) fun xs H1 h => by rw [ln xs H1 h]; decide) fun v H3 m3 f3 d3 ⟨xs, hS, hv⟩ => ?_
    rcases mem_c2 hS hv with h | ⟨_, hS, hv⟩
    · exact ⟨1, by decide, by decide, h⟩
    rcases mem_c2 hS hv with h | ⟨_, hS, hv⟩
    · exact ⟨2, by decide, by decide, h⟩
    rcases mem_c2 hS hv with h | ⟨_, hS, hv⟩
    · exact ⟨8, by decide, by decide, h⟩
    rcases mem_c2 hS hv with ⟨c, h1, h2, h⟩ | ⟨_, hS, hv⟩
    · exact ⟨c, h1, ⟨h2, h1⟩, h⟩
    · rw [hS] at hv
      cases hv
  have hlc := ed_lcR (K := K) (j := 2) (vs := [2]) (te := tCall (spOne K) [] E0 (tCons (tVar 0) (tCons (tVar 1) tNil))) (p := fun x => ∃ c, sgnB c = true ∧ x = V.str ⟨#[c]⟩) (Cn := fun c => 1 ≤ c ∧ c ≤ 8) hcount (by decide) (fun _ => rfl) (fun i hi => ed_imp (ed_oneS (K := K) (A := A) (B := B) (i := 0) (z := bothS) (tl := tVar 1) rfl (fun _ _ => ev_var rfl) (by omega) (by omega)) fun v _ _ _ _ ⟨c, hc, ev⟩ => ⟨c, both_sgn c hc, ev⟩)
  refine ⟨⟨"", rfl⟩, hlc H1 m (Frd.refl _ _ _) (hd.ex e1) (by omega) _ fun v H2 m2 f2 d2 l1 l2 ⟨L, xs, ev, hL, hA, hB, hc, hN, hp⟩ => ?_⟩
  subst ev
  obtain ⟨cs, hcs, hall⟩ := signs_list hp
  have hl : xs.length = cs.length := by rw [hcs, List.length_map]
  have hj := join_signs cs
  refine ⟨"", L, cs.map fun c => (⟨#[c]⟩ : Str), rfl, rfl, .inl (sq_of (by rw [hL, hcs, List.map_map]; rfl)), ?_, k _ H2 m2 ((Frd.ex e1).trans f2) d2 l1 (by omega) ⟨_, rfl, ?_⟩⟩
  · have h0 : ("" : Str).length = 0 := by decide +kernel
    have h1 : ((cs.map fun c => (⟨#[c]⟩ : Str)).map (·.length)).sum = cs.length := by
      rw [List.map_map]
      clear hj hcs hall hl
      induction cs with
      | nil => rfl
      | cons c r ih =>
        rw [List.map_cons, List.sum_cons, ih, List.length_cons]
        show 1 + _ = _
        omega
    rw [h0, h1]
    omega
  · unfold isWord
    rw [TL.len_tl, hj, hall, decide_eq_true (by omega), decide_eq_true (by omega)]
    rfl
end
end K7
set_option maxHeartbeats 4000000
/-! _law_pool, _law_any_test -/
namespace K7
open PySem PySem.Spec PyProof.Rows L2 Evl
/-- so many, each of R -/
def LOf (l : Nat) (R : V → Hp → Prop) : List V → Hp → Prop := fun xs H => xs.length = l ∧ ∀ x ∈ xs, R x H
/-- the pool at P: its names at N, its words at W, its number of givens -/
structure Pl (K : PySem.W.Frag) (A B P N W : Addr) (names words : List Str) (g : Nat) (H : Hp) : Prop where
  p : H P = some (.lst [.ref N, .ref W, .int g])
  n : H N = some (.lst (names.map V.str))
  w : H W = some (.lst (words.map V.str))
  pA : P ≠ A
  pB : P ≠ B
  nA : N ≠ A
  nB : N ≠ B
  wA : W ≠ A
  wB : W ≠ B
  okN : ∀ x ∈ names, isName x = true
  okW : ∀ x ∈ words, isWord x = true
  nl : 1 ≤ names.length ∧ names.length ≤ 5
  wl : 1 ≤ words.length ∧ words.length ≤ 4
  g4 : g < 4
theorem Pl.frd {K : PySem.W.Frag} {A B P N W : Addr} {names words : List Str} {g : Nat} {H H' : Hp} (h : Pl K A B P N W names words g H) (f : Frd A B H H') : Pl K A B P N W names words g H' :=
  ⟨f _ _ h.pA h.pB h.p, f _ _ h.nA h.nB h.n, f _ _ h.wA h.wB h.w, h.pA, h.pB, h.nA, h.nB, h.wA, h.wB, h.okN, h.okW, h.nl, h.wl, h.g4⟩
section
variable {K : PySem.W.Frag} {A B : Addr} {σ : L2.St} {H H' : Hp} {te tl ta tb tc : TE} {ts : TA} {n n' n2 n3 m N l l' : Nat} {D : Ends} {tz tu : TS} {R R1 R2 R3 : V → Hp → Prop} {S S' : List V → Hp → Prop}
theorem stb_all (h : Stb K A B R) : Stb K A B (LOf l R) := fun v H H' m hd f ⟨h1, h2⟩ => ⟨h1, fun x hx => h x H H' m hd f (h2 x hx)⟩
theorem eda_nilL : EvDA K A B tNil σ H 0 (LOf 0 R) := eda_imp eda_nil fun v H1 h => ⟨by rw [h]; rfl, fun x hx => by rw [h] at hx; cases hx⟩
theorem eda_consL (st : Stb K A B R) (h : EvD K A B te σ H n R) (hr : EvDA K A B ts σ H n' (LOf l R)) : EvDA K A B (tCons te ts) σ H (n + n') (LOf (l + 1) R) := eda_imp (eda_cons st h hr) fun v H1 ⟨x, vs, e, h1, h2, h3⟩ => ⟨by rw [e, List.length_cons, h2], fun y hy => by
  rw [e] at hy
  rcases List.mem_cons.mp hy with rfl | hy
  · exact h1
  · exact h3 y hy⟩
theorem q_par2D {i j : Nat} (st : Stb K A B R1) (h1 : EvD K A B ta σ H n R1) (h2 : EvD K A B tb σ H n2 R2) (hd : Deck K A B m H) (hm : m + (n + n2) ≤ Lim) (k : ∀ v u H1 m1, Frd A B H H1 → Deck K A B m1 H1 → m ≤ m1 → m1 ≤ m + (n + n2) → R1 v H1 → R2 u H1 → tz D ((σ.set i (some v)).set j (some u)) H1) :
    tSeq (tPar i j (tCons ta (tCons tb tNil))) tz D σ H := h1 H m (Frd.refl _ _ _) hd (by omega) _ fun v H1 m1 f1 d1 l1 l2 r1 => h2 H1 m1 f1 d1 (by omega) _ fun u H2 m2 f2 d2 l3 l4 r2 => ⟨v, u, rfl, k v u H2 m2 (f1.trans f2) d2 (by omega) (by omega) (st v H1 H2 m1 d1 f2 r1) r2⟩
theorem q_par3D {i j q : Nat} (st : Stb K A B R1) (st2 : Stb K A B R2) (h1 : EvD K A B ta σ H n R1) (h2 : EvD K A B tb σ H n2 R2) (h3 : EvD K A B tc σ H n3 R3) (hd : Deck K A B m H) (hm : m + (n + n2 + n3) ≤ Lim)
    (k : ∀ v u w H1 m1, Frd A B H H1 → Deck K A B m1 H1 → m ≤ m1 → m1 ≤ m + (n + n2 + n3) → R1 v H1 → R2 u H1 → R3 w H1 → tz D (((σ.set i (some v)).set j (some u)).set q (some w)) H1) :
    tSeq (tPar3 i j q (tCons ta (tCons tb (tCons tc tNil)))) tz D σ H := h1 H m (Frd.refl _ _ _) hd (by omega) _ fun v H1 m1 f1 d1 l1 l2 r1 => h2 H1 m1 f1 d1 (by omega) _ fun u H2 m2 f2 d2 l3 l4 r2 => h3 H2 m2 (f1.trans f2) d2 (by omega) _ fun w H3 m3 f3 d3 l5 l6 r3 =>
      ⟨v, u, w, rfl, k v u w H3 m3 ((f1.trans f2).trans f3) d3 (by omega) (by omega) (st v H1 H3 m1 d1 (f2.trans f3) r1) (st2 u H2 H3 m2 d2 f3 r2) r3⟩
theorem s_appD {L : Addr} {xs : List V} (hl : H L = some (.lst xs)) (hA : L ≠ A) (hB : L ≠ B) (ha : Ev ta σ H (.ref L)) (h : EvD K A B te σ H n R) (hd : Deck K A B m H) (hm : m + n ≤ Lim) (hz : xs.length < 100000)
    (k : ∀ v H1 m1, Frd A B H H1 → Deck K A B m1 H1 → m ≤ m1 → m1 ≤ m + n → R v H1 → H1 L = some (.lst xs) → D.nx σ (upd H1 L (.lst (xs ++ [v])))) : tDrop (tBM K "list" rAppend ta (tCons te tNil)) D σ H := ha H (Ex.refl H) _ fun H1 e1 => ⟨Or.inl ⟨rfl, xs, sq_of (e1 L _ hl)⟩, h H1 m (Frd.ex e1) (hd.ex e1) hm _ fun v H2 m2 f2 d2 l1 l2 r =>
      have h2 := f2 L _ hA hB (e1 L _ hl)
      ⟨L, xs, v, rfl, rfl, h2, sz_lt hz, k v H2 m2 ((Frd.ex e1).trans f2) d2 l1 l2 r h2⟩⟩
theorem deck_upd {L : Addr} {o : HO} (hd : Deck K A B m H) (hA : L ≠ A) (hB : L ≠ B) : Deck K A B m (upd H L o) := by
  obtain ⟨cs, h1, h2, h3⟩ := hd
  exact ⟨cs, by rw [upd_ne hA.symm]; exact h1, by rw [upd_ne hB.symm]; exact h2, h3⟩
theorem Frd.back {p : Addr} (f : Frd A B H H') (d : Deck K A B m H') (h : H' p = none) : H p = none := by
  have hn := fresh_ne d h
  cases e : H p with
  | none => rfl
  | some o =>
    rw [f p o hn.1 hn.2 e] at h
    cases h
theorem q_asgLst {i : Nat} (st : Stb K A B S) (h : EvDA K A B ts σ H n S) (hl : ∀ xs H1, S xs H1 → xs.length ≤ 100000) (hd : Deck K A B m H) (hm : m + n ≤ Lim)
    (k : ∀ L xs H1 m1, H L = none → L ≠ A → L ≠ B → Frd A B H H1 → Deck K A B m1 H1 → m ≤ m1 → m1 ≤ m + n → H1 L = some (.lst xs) → S xs H1 → tz D (σ.set i (some (.ref L))) H1) : tSeq (tAsg (tLst ts) (gName i)) tz D σ H :=
  h H m (Frd.refl _ _ _) hd hm _ fun xs H2 m2 f2 d2 l1 l2 r => ⟨sz_of (hl xs H2 r), fun p hp => by
    have hn := fresh_ne d2 hp
    have e := Ex.new (o := .lst xs) hp
    exact k p xs _ m2 (f2.back d2 hp) hn.1 hn.2 (f2.trans (Frd.ex e)) (d2.ex e) l1 l2 upd_same (st xs H2 _ m2 d2 (Frd.ex e) r)⟩
/-- a list of texts that stands in the pool -/
theorem ed_pool {i j : Nat} {P N W : Addr} {names words : List Str} {g : Nat} (hp : Pl K A B P N W names words g H) (hi : σ[i]? = some (some (.ref A))) (hj : σ[j]? = some (some (.ref P))) :
    EvD K A B (tCall (spOne K) [] E0 (tCons (tVar i) (tCons (tOp (rIxL K) (tVar j) (tC (.int 0))) tNil))) σ H 1 (fun v _ => ∃ x, v = .str x ∧ isName x = true) ∧
    EvD K A B (tCall (spOne K) [] E0 (tCons (tVar i) (tCons (tOp (rIxL K) (tVar j) (tC (.int 1))) tNil))) σ H 1 (fun v _ => ∃ x, v = .str x ∧ isWord x = true ∧ x ∈ words) := by
  refine ⟨ed_imp (ed_oneL (L := N) (xs := names.map V.str) hi (fun H1 f => ev_atL 0 (ev_var hj) (sq_of (hp.frd f).p)) (sq_of hp.n) hp.nA hp.nB (by rw [List.length_map]; exact hp.nl.1) (by rw [List.length_map]; have := hp.nl.2; omega)) fun v H1 m1 f1 d1 hv => ?_,
    ed_imp (ed_oneL (L := W) (xs := words.map V.str) hi (fun H1 f => ev_atL 1 (ev_var hj) (sq_of (hp.frd f).p)) (sq_of hp.w) hp.wA hp.wB (by rw [List.length_map]; exact hp.wl.1) (by rw [List.length_map]; have := hp.wl.2; omega)) fun v H1 m1 f1 d1 hv => ?_⟩
  · obtain ⟨x, hx, rfl⟩ := List.mem_map.mp hv
    exact ⟨x, rfl, hp.okN x hx⟩
  · obtain ⟨x, hx, rfl⟩ := List.mem_map.mp hv
    exact ⟨x, rfl, hp.okW x hx, hx⟩
end
theorem strs_list {p : Str → Bool} {xs : List V} (h : ∀ x ∈ xs, ∃ s, x = V.str s ∧ p s = true) : ∃ ss : List Str, xs = ss.map V.str ∧ ∀ s ∈ ss, p s = true := by
  induction xs with
  | nil => exact ⟨[], rfl, fun s hs => by cases hs⟩
  | cons x r ih =>
    obtain ⟨ss, h1, h2⟩ := ih fun y hy => h y (List.mem_cons_of_mem _ hy)
    obtain ⟨s, rfl, hs⟩ := h x List.mem_cons_self
    refine ⟨s :: ss, by rw [h1]; rfl, fun t ht => ?_⟩
    rcases List.mem_cons.mp ht with rfl | ht
    · exact hs
    · exact h2 t ht
section
variable {P : Program} {w : World} {K : PySem.W.Frag} {mg : Str → Option Value} {base : Heap}
def spPool (K : PySem.W.Frag) : Sp := fun vs H Q _ => ∃ (A B : Addr) (m : Nat), vs = [.ref A] ∧ Deck K A B m H ∧ m + 100 ≤ Lim ∧ DrR K A B m 100 (fun v H' => ∃ P N W names words g, v = .ref P ∧ Pl K A B P N W names words g H') H Q
theorem ok_pool (T : Txt w K mg) : FOk P w K mg base 4 "_law_pool" (spPool K) := by
  have G__law_draw : FOk P w K mg base 1 "_law_draw" (spDraw K) := ok_draw T
  have G__law_name : FOk P w K mg base 3 "_law_name" (spName K) := ok_name T
  have G__law_word : FOk P w K mg base 3 "_law_word" (spWord K) := ok_word T
  refine fok T.f__law_pool T.g__law_pool sc__law_pool (fun _ _ _ _ _ _ us hl => match us, hl with | [_], _ => rfl) (fun vs H Q E h => ?_) (fun cdv A outer s H vs Q E hr h => ?_)
  · obtain ⟨A, B, m, rfl, _⟩ := h
    rfl
  obtain ⟨A, B, m, rfl, hd, hm, k⟩ := h
  have nd := sc__law_pool.nd
  refine ⟨_, (pss_cons (ps_setLc (i := 2) (own := [("_law_k", 1)]) (g := gName 1) rfl nd rfl rfl (sw_true rfl rfl rfl (by decide +kernel)) (pi_range1 (by rfl) T.z_range (pa_cons (pe_op op_add pe_int (pe_f G__law_draw (hr.mono (by omega)) (pa_cons (pv 0) (pa_cons pe_int pa_nil)))) pa_nil)) (blkOk_by (own := [("_law_k", 1)]) (N := N__law_pool) (sc := defScope s__law_pool) (by decide +kernel)) (fun _ _ _ _ _ => (pg_name (i := 1) nd rfl (Or.inl rfl))) (fun _ _ _ _ _ => pts_nil) (fun _ _ _ _ _ => (pe_f G__law_name (hr.mono (by omega)) (pa_cons (pv 0) pa_nil)))) (pss_one (ps_ret (pe_lst (pa_cons (pv 2) (pa_cons (pe_lc (own := [("_law_k", 1)]) (g := gName 1) rfl nd (pi_range1 (by rfl) T.z_range (pa_cons (pe_op op_add pe_int (pe_f G__law_draw (hr.mono (by omega)) (pa_cons (pv 0) (pa_cons pe_int pa_nil)))) pa_nil)) (blkOk_by (own := [("_law_k", 1)]) (N := N__law_pool) (sc := defScope s__law_pool) (by decide +kernel)) (fun _ _ _ _ _ => (pg_name (i := 1) nd rfl (Or.inl rfl))) (fun _ _ _ _ _ => pts_nil) (fun _ _ _ _ _ => (pe_f G__law_word (hr.mono (by omega)) (pa_cons (pv 0) pa_nil)))) (pa_cons (pe_f G__law_draw (hr.mono (by omega)) (pa_cons (pv 0) (pa_cons pe_int pa_nil))) pa_nil))))))), ?_⟩
  have hn := ed_lcR (K := K) (A := A) (B := B) (H := H) (σ := [some (.ref A), none, none]) (j := 1) (vs := [1]) (N := 5) (tl := tOp (rI0 fun i j => .int (i + j)) (tC (.int 1)) (tCall (spDraw K) [] E0 (tCons (tVar 0) (tCons (tC (.int 5)) tNil)))) (te := tCall (spName K) [] E0 (tCons (tVar 0) tNil)) (p := fun v => ∃ s, v = V.str s ∧ isName s = true) (Cn := fun c => 1 ≤ c) (n' := 10)
    (ed_add1 (ed_draw (many := 5) rfl (fun _ _ => ev_c) (by decide) (by decide))) (by decide) (fun _ => rfl) (fun i hi => ed_callE (vs := [.ref A]) (fun H1 f => ea_cons (ev_var rfl) ea_nil) fun H1 m f d hl Q k => ⟨A, B, m, rfl, d, hl, k⟩)
  refine q_asgD hn hd (by omega) fun v H1 m1 f1 d1 l1 l2 ⟨N, xs, ev, hN, hNA, hNB, hc, hl5, hx⟩ => ?_
  subst ev
  obtain ⟨names, rfl, hnames⟩ := strs_list hx
  rw [List.length_map] at hc hl5
  have hw := ed_lcR (K := K) (A := A) (B := B) (H := H1) (σ := [some (.ref A), none, some (.ref N)]) (j := 1) (vs := [1]) (N := 4) (tl := tOp (rI0 fun i j => .int (i + j)) (tC (.int 1)) (tCall (spDraw K) [] E0 (tCons (tVar 0) (tCons (tC (.int 4)) tNil)))) (te := tCall (spWord K) [] E0 (tCons (tVar 0) tNil)) (p := fun v => ∃ s, v = V.str s ∧ isWord s = true) (Cn := fun c => 1 ≤ c) (n' := 10)
    (ed_add1 (ed_draw (many := 4) rfl (fun _ _ => ev_c) (by decide) (by decide))) (by decide) (fun _ => rfl) (fun i hi => ed_callE (vs := [.ref A]) (fun H1 f => ea_cons (ev_var rfl) ea_nil) fun H1 m f d hl Q k => ⟨A, B, m, rfl, d, hl, k⟩)
  have st : Stb K A B (LstOf A B (fun xs _ => 1 ≤ xs.length ∧ xs.length ≤ 4 ∧ ∀ x ∈ xs, ∃ s, x = V.str s ∧ isWord s = true)) := stb_lst stb_pure
  have hl := eda_cons (K := K) (A := A) (B := B) stb_pure (ed_var (σ := [some (.ref A), none, some (.ref N)]) (H := H1) (i := 2) (v := .ref N) rfl) (eda_cons st hw (eda_cons stb_pure (ed_draw (σ := [some (.ref A), none, some (.ref N)]) (H := H1) (te := tC (.int 4)) (many := 4) (i := 0) rfl (fun _ _ => ev_c) (by decide) (by decide)) eda_nil))
  have ln : ∀ xs (H1 : Hp), Cons2 (fun x _ => x = V.ref N) (Cons2 (LstOf A B (fun xs _ => 1 ≤ xs.length ∧ xs.length ≤ 4 ∧ ∀ x ∈ xs, ∃ s, x = V.str s ∧ isWord s = true)) (Cons2 (fun v _ => ∃ j : Nat, j < 4 ∧ v = V.int j) fun xs _ => xs = [])) xs H1 → xs.length = 3 := fun xs H1 h => len_c2 h fun _ h => len_c2 h fun _ h => len_c2 h fun _ h => len_nil h
  refine s_retD (ed_lst (stbC stb_pure (stbC st (stbC stb_pure (stb_pure (p := fun xs : List V => xs = []))))) hl fun xs H1 h => by rw [ln xs H1 h]; decide) d1 (by omega) fun v H2 m2 f2 d2 l3 l4 ⟨L, xs, ev, hL, hA, hB, x1, r1, e1, ex1, x2, r2, e2, hx2, x3, r3, e3, hx3, e4⟩ => ?_
  obtain ⟨W, ws, rfl, hW, hWA, hWB, hc2, hl4, hws⟩ := hx2
  obtain ⟨g, hg, rfl⟩ := hx3
  subst e4
  subst e3
  subst e2
  subst ex1
  subst e1
  obtain ⟨words, rfl, hwords⟩ := strs_list hws
  rw [List.length_map] at hc2 hl4
  exact k v H2 m2 (f1.trans f2) d2 (by omega) (by omega) ⟨L, N, W, names, words, g, ev, hL, f2 N _ hNA hNB hN, hW, hA, hB, hNA, hNB, hWA, hWB, hnames, hwords, ⟨hc, hl5⟩, ⟨hc2, hl4⟩, hg⟩
def BtR (K : PySem.W.Frag) (g : Nat) : V → Hp → Prop := fun v H => ∃ b : Bt, b.ok g ∧ Dp K H v (encBt b)
theorem noL_bt (b : Bt) : noL (encBt b) = true := by cases b <;> simp [encBt, noL, noLA]
theorem btR_keep {g : Nat} {v : V} {H H' : Hp} (h : BtR K g v H) (e : Keep H H') : BtR K g v H' := by
  obtain ⟨b, h1, h2⟩ := h
  exact ⟨b, h1, keep_dp e (noL_bt b) h2⟩
theorem stb_bt {A B : Addr} {g : Nat} : Stb K A B (BtR K g) := fun v H H' m hd f h => btR_keep h (hd.keep f)
theorem ed_bt {A B : Addr} {σ : L2.St} {H : Hp} {ts : TA} {g : Nat} {b : Bt} (hb : b.ok g) (h : ∀ H1, Frd A B H H1 → EvA ts σ H1 (btV b)) : EvD K A B (tTup ts) σ H 0 (BtR K g) := fun H1 m f d hl Q k => h H1 f H1 (Ex.refl H1) _ fun H2 e2 =>
  ⟨sz_of (by cases b <;> simp [btV]), fun p hp => k _ _ m (Frd.ex (e2.trans (Ex.new hp))) (d.ex (e2.trans (Ex.new hp))) (Nat.le_refl _) (Nat.le_refl _) ⟨b, hb, bt_dp ⟨p, rfl, st_of upd_same⟩⟩⟩
def spAnyT (K : PySem.W.Frag) : Sp := fun vs H Q _ => ∃ (A B : Addr) (m : Nat) (P N W : Addr) (names words : List Str) (g : Nat), vs = [.ref A, .ref P] ∧ Deck K A B m H ∧ m + 20 ≤ Lim ∧ Pl K A B P N W names words g H ∧ DrR K A B m 20 (fun v H' => ∃ t : Tst, t.ok g ∧ Dp K H' v (encT t)) H Q
theorem ok_any_test (T : Txt w K mg) : FOk P w K mg base 3 "_law_any_test" (spAnyT K) := by
  have G__law_draw : FOk P w K mg base 1 "_law_draw" (spDraw K) := ok_draw T
  have G__law_one : FOk P w K mg base 2 "_law_one" (spOne K) := ok_one T
  refine fok T.f__law_any_test T.g__law_any_test sc__law_any_test (fun _ _ _ _ _ _ us hl => match us, hl with | [_, _], _ => rfl) (fun vs H Q E h => ?_) (fun cdv A outer s H vs Q E hr h => ?_)
  · obtain ⟨A, B, m, _, _, _, _, _, _, rfl, _⟩ := h
    rfl
  obtain ⟨A, B, m, PP, N, W, names, words, g, rfl, hd, hm, hp, k⟩ := h
  have nd := sc__law_any_test.nd
  refine ⟨_, (pss_cons (ps_par3 (i := 2) (j := 3) (l := 4) (by rfl) nd rfl rfl rfl (by decide) (by decide) (by decide) rfl rfl rfl (pa_cons (pe_f G__law_one (hr.mono (by omega)) (pa_cons (pv 0) (pa_cons (pe_ix ix_list (pv 1) pe_int (fun _ _ => rfl)) pa_nil))) (pa_cons (pe_f G__law_one (hr.mono (by omega)) (pa_cons (pv 0) (pa_cons (pe_ix ix_list (pv 1) pe_int (fun _ _ => rfl)) pa_nil))) (pa_cons (pe_f G__law_one (hr.mono (by omega)) (pa_cons (pv 0) (pa_cons (pe_ix ix_list (pv 1) pe_int (fun _ _ => rfl)) pa_nil))) pa_nil))) (by rfl)) (pss_cons (ps_set (i := 5) nd rfl (Or.inl rfl) (pe_lst (pa_cons (pe_tup (pa_cons pe_str (pa_cons (pv 2) pa_nil))) (pa_cons (pe_tup (pa_cons pe_str (pa_cons (pv 2) (pa_cons (pv 3) pa_nil)))) (pa_cons (pe_tup (pa_cons pe_str (pa_cons (pv 2) (pa_cons (pv 3) pa_nil)))) (pa_cons (pe_tup (pa_cons pe_str (pa_cons (pv 4) pa_nil))) pa_nil)))))) (pss_cut (ps_if (pt_cmpR op_gt (pe_ix ix_list (pv 1) pe_int (fun _ _ => rfl)) pe_int (nomark _)) (pss_one (ps_expr (pe_bm PySem.F.plainAttrs_list PySem.F.slot_list_append PySem.F.type_list_append mt_append (pv 5) (pa_cons (pe_tup (pa_cons pe_str (pa_cons (pe_f G__law_draw (hr.mono (by omega)) (pa_cons (pv 0) (pa_cons (pe_ix ix_list (pv 1) pe_int (fun _ _ => rfl)) pa_nil))) pa_nil))) pa_nil)))) pss_nil) (pss_cons (ps_set (i := 6) nd rfl (Or.inl rfl) (pe_f G__law_one (hr.mono (by omega)) (pa_cons (pv 0) (pa_cons (pv 5) pa_nil)))) (pss_cons (ps_for PassesOwn.never rfl (pi_range1 (by rfl) T.z_range (pa_cons (pe_f G__law_one (hr.mono (by omega)) (pa_cons (pv 0) (pa_cons (pe_lst (pa_cons pe_int (pa_cons pe_int (pa_cons pe_int (pa_cons pe_int (pa_cons pe_int pa_nil)))))) pa_nil))) pa_nil)) (pg_name (i := 7) nd rfl (Or.inl rfl)) (pss_one (ps_set (i := 6) nd rfl (Or.inl rfl) (pe_tup (pa_cons pe_str (pa_cons (pv 6) pa_nil)))))) (pss_one (ps_ret (pv 6)))))))), ?_⟩
  have hpo := ed_pool (σ := start N__law_any_test [.ref A, .ref PP]) (i := 0) (j := 1) hp rfl rfl
  refine q_par3D stb_pure stb_pure hpo.1 hpo.1 hpo.2 hd (by omega) fun v u s H1 m1 f1 d1 l1 l2 ⟨x, ex, hx⟩ ⟨y, ey, hy⟩ ⟨z, ez, hz, hzw⟩ => ?_
  subst ex
  subst ey
  subst ez
  have hp1 := hp.frd f1
  have hlist : EvDA K A B (tCons (tTup (tCons (tC (.str "set")) (tCons (tVar 2) tNil))) (tCons (tTup (tCons (tC (.str "same")) (tCons (tVar 2) (tCons (tVar 3) tNil)))) (tCons (tTup (tCons (tC (.str "full")) (tCons (tVar 2) (tCons (tVar 3) tNil)))) (tCons (tTup (tCons (tC (.str "wished")) (tCons (tVar 4) tNil))) tNil))))
      [some (.ref A), some (.ref PP), some (.str x), some (.str y), some (.str z), none, none, none] H1 0 (LOf 4 (BtR K g)) :=
    eda_consL stb_bt (ed_bt (b := .set x) hx fun _ _ => ea_cons ev_c (ea_cons (ev_var rfl) ea_nil)) (eda_consL stb_bt (ed_bt (b := .same x y) ⟨hx, hy⟩ fun _ _ => ea_cons ev_c (ea_cons (ev_var rfl) (ea_cons (ev_var rfl) ea_nil))) (eda_consL stb_bt (ed_bt (b := .full x y) ⟨hx, hy⟩ fun _ _ => ea_cons ev_c (ea_cons (ev_var rfl) (ea_cons (ev_var rfl) ea_nil))) (eda_consL stb_bt (ed_bt (b := .wished z) hz fun _ _ => ea_cons ev_c (ea_cons (ev_var rfl) ea_nil)) eda_nilL)))
  refine q_asgLst (stb_all stb_bt) hlist (fun xs H1 h => by rw [h.1]; decide) d1 (by omega) fun L xs H2 m2 hL0 hLA hLB f2 d2 l3 l4 hL hxs => ?_
  have hp2 := hp1.frd f2
  refine q_cut (M := fun σ' H' => ∃ xs m', σ' = [some (.ref A), some (.ref PP), some (.str x), some (.str y), some (.str z), some (.ref L), none, none] ∧ Frd A B H1 H' ∧ Deck K A B m' H' ∧ m ≤ m' ∧ m' ≤ m + 4 ∧ H' L = some (.lst xs) ∧ 1 ≤ xs.length ∧ xs.length ≤ 5 ∧ ∀ x ∈ xs, BtR K g x H') ?_ ?_
  · by_cases hg0 : 0 < g
    · refine s_when (b := true) (et_is (et_test (ev_op (ev_atL 2 (ev_var rfl) (sq_of hp2.p)) ev_c rv_I0)) (decide_eq_true (by omega))) (fun _ H3 e3 => ?_) fun h => Bool.noConfusion h
      have hp3 := hp2.frd (Frd.ex e3)
      have hgiv : EvD K A B (tTup (tCons (tC (.str "given")) (tCons (tCall (spDraw K) [] E0 (tCons (tVar 0) (tCons (tOp (rIxL K) (tVar 1) (tC (.int 2))) tNil))) tNil))) [some (.ref A), some (.ref PP), some (.str x), some (.str y), some (.str z), some (.ref L), none, none] H3 1 (BtR K g) := by
        have q := eda_cons (K := K) (A := A) (B := B) (R := fun v _ => v = V.str "given") stb_pure (ed_c (v := .str "given")) (eda_cons stb_pure (ed_draw (σ := [some (.ref A), some (.ref PP), some (.str x), some (.str y), some (.str z), some (.ref L), none, none]) (H := H3) (te := tOp (rIxL K) (tVar 1) (tC (.int 2))) (many := g) (i := 0) rfl (fun H4 f4 => ev_atL 2 (ev_var rfl) (sq_of (hp3.frd f4).p)) hg0 (by have := hp.g4; omega)) eda_nil)
        have st := stbC (K := K) (A := A) (B := B) (R := fun x _ => x = V.str "given") stb_pure (stbC (R := fun v _ => ∃ j : Nat, j < g ∧ v = V.int j) stb_pure (stb_pure (p := fun xs : List V => xs = [])))
        have ln : ∀ xs (H1 : Hp), Cons2 (fun x _ => x = V.str "given") (Cons2 (fun v _ => ∃ j : Nat, j < g ∧ v = V.int j) fun xs _ => xs = []) xs H1 → xs.length = 2 := fun xs H1 h => len_c2 h fun _ h => len_c2 h fun _ h => len_nil h
        refine ed_imp (ed_le (ed_tup st q fun xs H1 h => by rw [ln xs H1 h]; decide) (by omega)) fun v H4 m4 f4 d4 ⟨p, us, ev, hp4, a, r, e1, ea, b, r2, e2, ⟨j, hj, eb⟩, e3⟩ => ?_
        subst e3
        subst eb
        subst e2
        subst ea
        subst e1
        exact ⟨.giv j, hj, bt_dp ⟨p, ev, st_of hp4⟩⟩
      refine s_appD (L := L) (xs := xs) (e3 L _ hL) hLA hLB (ev_var rfl) hgiv (d2.ex e3) (by omega) (by rw [hxs.1]; decide) fun v H4 m4 f4 d4 l5 l6 hv hL4 => ?_
      have kU : Keep H4 (upd H4 L (.lst (xs ++ [v]))) := keep_upd hL4
      refine ⟨xs ++ [v], m4, rfl, (f2.trans ((Frd.ex e3).trans f4)).upd (.inr (.inr hL0)), deck_upd d4 hLA hLB, by omega, by omega, upd_same, by rw [List.length_append, hxs.1]; show 1 ≤ 4 + 1; omega, by rw [List.length_append, hxs.1]; show 4 + 1 ≤ 5; omega, fun w hw => ?_⟩
      rcases List.mem_append.mp hw with hw | hw
      · exact btR_keep (stb_bt w H2 H4 m2 d2 ((Frd.ex e3).trans f4) (hxs.2 w hw)) kU
      · rw [List.mem_singleton.mp hw]
        exact btR_keep hv kU
    · refine s_when (b := false) (et_is (et_test (ev_op (ev_atL 2 (ev_var rfl) (sq_of hp2.p)) ev_c rv_I0)) (decide_eq_false (by omega))) (fun h => Bool.noConfusion h) fun _ H3 e3 => ?_
      exact ⟨xs, m2, rfl, f2.trans (Frd.ex e3), d2.ex e3, by omega, by omega, e3 L _ hL, by rw [hxs.1]; decide, by rw [hxs.1]; decide, fun w hw => stb_bt w H2 H3 m2 d2 (Frd.ex e3) (hxs.2 w hw)⟩
  rintro σ' H3 ⟨xs, m3, rfl, f3, d3, l5, l6, hL3, hn1, hn5, hx3⟩
  refine q_asgD (ed_oneL (L := L) (xs := xs) (i := 0) (tl := tVar 5) rfl (fun _ _ => ev_var rfl) (sq_of hL3) hLA hLB hn1 (by omega)) d3 (by omega) fun v H4 m4 f4 d4 l7 l8 hv => ?_
  obtain ⟨b, hb, hdb⟩ := stb_bt v H3 H4 m3 d3 f4 (hx3 v hv)
  have hci : ∀ c : Nat, c ≤ 3 → EvD K A B (tC (.int (c : Int))) [some (.ref A), some (.ref PP), some (.str x), some (.str y), some (.str z), some (.ref L), some v, none] H4 0 (fun v _ => ∃ c : Nat, c ≤ 3 ∧ v = .int c) := fun c hc => ed_imp ed_c fun v _ _ _ _ e => ⟨c, hc, e⟩
  have hcount : EvD K A B (tCall (spOne K) [] E0 (tCons (tVar 0) (tCons (tLst (tCons (tC (.int 0)) (tCons (tC (.int 0)) (tCons (tC (.int 1)) (tCons (tC (.int 2)) (tCons (tC (.int 3)) tNil)))))) tNil))) [some (.ref A), some (.ref PP), some (.str x), some (.str y), some (.str z), some (.ref L), some v, none] H4 1 (fun v _ => ∃ c : Nat, c ≤ 3 ∧ v = .int c) :=
    ed_imp (ed_oneN (S := LOf 5 (fun v _ => ∃ c : Nat, c ≤ 3 ∧ v = .int c)) rfl (stb_all stb_pure) (ed_lst (stb_all stb_pure) (eda_consL stb_pure (hci 0 (by decide)) (eda_consL stb_pure (hci 0 (by decide)) (eda_consL stb_pure (hci 1 (by decide)) (eda_consL stb_pure (hci 2 (by decide)) (eda_consL stb_pure (hci 3 (by decide)) eda_nilL))))) fun xs H1 h => by rw [h.1]; decide) fun xs H1 h => by rw [h.1]; decide) fun w _ _ _ _ ⟨us, h1, h2⟩ => h1.2 w h2
  refine q_forRD hcount (by decide) d4 (by omega) fun cn H5 m5 hcn f5 d5 l9 l10 => ?_
  refine ⟨fun i σ' H' => ∃ u y', σ' = [some (.ref A), some (.ref PP), some (.str x), some (.str y), some (.str z), some (.ref L), some u, y'] ∧ Frd A B H5 H' ∧ Deck K A B m5 H' ∧ Dp K H' u (encN i (encBt b)), ⟨_, _, rfl, Frd.refl _ _ _, d5, keep_dp (d4.keep f5) (noL_bt b) hdb⟩, fun i σ' H' hi q => ?_, fun σ' H' q => ?_⟩
  · obtain ⟨u, y', rfl, f6, d6, hu⟩ := q
    refine s_asgU (eu_tup (ea_cons ev_c (ea_cons (ev_var rfl) ea_nil)) (by show 2 ≤ 100000; decide)) fun r6 H6 hr6 e6 h6 => ?_
    exact ⟨_, _, rfl, f6.trans (Frd.ex e6), d6.ex e6, .tup (st_of h6) (.cons (.str _) (.cons (same_dp e6 hu) .nil))⟩
  · obtain ⟨u, y', rfl, f6, d6, hu⟩ := q
    exact s_ret (ev_var rfl) fun H6 e6 => k u H6 m5 ((f1.trans f3).trans ((f4.trans f5).trans (f6.trans (Frd.ex e6)))) (d6.ex e6) (by omega) (by omega) ⟨⟨cn, b⟩, ⟨hcn, hb⟩, same_dp e6 hu⟩
end
end K7
set_option maxHeartbeats 4000000
/-! _law_row -/
namespace K7
open PySem PySem.Spec PyProof.Rows L2 Evl
section
variable {K : PySem.W.Frag} {A B : Addr} {σ : L2.St} {H H' : Hp} {te tl ta tb tc : TE} {ts : TA} {n n' n2 n3 m N l l' : Nat} {D : Ends} {tz tu : TS} {R R1 R2 R3 : V → Hp → Prop} {S S' : List V → Hp → Prop}
theorem ed_varL {i : Nat} {L : Addr} {xs : List V} (hi : σ[i]? = some (some (.ref L))) (hd : Deck K A B m H) (st : Stb K A B S) (hL : H L = some (.lst xs)) (hA : L ≠ A) (hB : L ≠ B) (hS : S xs H) : EvD K A B (tVar i) σ H 0 (LstOf A B S) := fun H1 m1 f d hl Q k =>
  ⟨_, hi, k _ H1 m1 (Frd.refl _ _ _) d (Nat.le_refl _) (Nat.le_refl _) ⟨L, xs, rfl, f L _ hA hB hL, hA, hB, st xs H H1 m hd f hS⟩⟩
theorem ed_cat (st : Stb K A B S) (st2 : Stb K A B S') (ha : EvD K A B ta σ H n (LstOf A B S)) (hb : EvD K A B tb σ H n' (LstOf A B S')) (hz : ∀ xs ys H1 H2, S xs H1 → S' ys H2 → xs.length + ys.length ≤ 100000) : EvD K A B (tOp rCat ta tb) σ H (n + n') (LstOf A B (fun zs H => ∃ xs ys, zs = xs ++ ys ∧ S xs H ∧ S' ys H)) := fun H1 m f d hl Q k =>
  ha H1 m f d (by omega) _ fun v H2 m2 f2 d2 l1 l2 ⟨L, xs, ev, hL, hA, hB, hS⟩ => hb H2 m2 (f.trans f2) d2 (by omega) _ fun u H3 m3 f3 d3 l3 l4 ⟨M, ys, eu, hM, hA2, hB2, hS2⟩ =>
    ⟨L, M, xs, ys, ev, eu, f3 L _ hA hB hL, hM, sz_of (hz xs ys H2 H3 hS hS2), fun p hp => by
      have hn := fresh_ne d3 hp
      have e := Ex.new (o := .lst (xs ++ ys)) hp
      exact k _ _ m3 ((f2.trans f3).trans (Frd.ex e)) (d3.ex e) (by omega) (by omega) ⟨p, _, rfl, upd_same, hn.1, hn.2, xs, ys, rfl, st xs H2 _ m2 d2 (f3.trans (Frd.ex e)) hS, st2 ys H3 _ m3 d3 (Frd.ex e) hS2⟩⟩
end
section
variable {P : Program} {w : World} {K : PySem.W.Frag} {mg : Str → Option Value} {base : Heap}
def PlR (K : PySem.W.Frag) (g : Nat) (words : List Str) : V → Hp → Prop := fun v H => ∃ p : Pln, p.ok g ∧ Dp K H v (encP p) ∧ ∀ x ∈ wishOf (.pln p), x ∈ words
theorem stb_pl {A B : Addr} {g : Nat} {words : List Str} : Stb K A B (PlR K g words) := fun v H H' m hd f ⟨p, h1, h2, h3⟩ => ⟨p, h1, keep_dp (hd.keep f) (noL_P p) h2, h3⟩
theorem ed_pl {A B : Addr} {σ : L2.St} {H : Hp} {ts : TA} {g : Nat} {words : List Str} {p : Pln} (hp : p.ok g) (ha : ∀ H1, askOf K H1 .non p) (hw : ∀ x ∈ wishOf (.pln p), x ∈ words) (h : ∀ H1, Frd A B H H1 → EvA ts σ H1 (plnV .non p)) : EvD K A B (tTup ts) σ H 0 (PlR K g words) := fun H1 m f d hl Q k => h H1 f H1 (Ex.refl H1) _ fun H2 e2 =>
  ⟨sz_of (by cases p <;> simp [plnV]), fun q hq => k _ _ m (Frd.ex (e2.trans (Ex.new hq))) (d.ex (e2.trans (Ex.new hq))) (Nat.le_refl _) (Nat.le_refl _) ⟨p, hp, pln_dp (u := .non) ⟨q, rfl, st_of upd_same⟩ (ha _), hw⟩⟩
theorem ln2 {R1 R2 : V → Hp → Prop} : ∀ xs (H1 : Hp), Cons2 R1 (Cons2 R2 fun xs _ => xs = []) xs H1 → xs.length = 2 := fun xs H1 h => len_c2 h fun _ h => len_c2 h fun _ h => len_nil h
def TsR (K : PySem.W.Frag) (g : Nat) : V → Hp → Prop := fun v H => ∃ t : Tst, t.ok g ∧ Dp K H v (encT t)
theorem stb_ts {A B : Addr} {g : Nat} : Stb K A B (TsR K g) := fun v H H' m hd f ⟨t, h1, h2⟩ => ⟨t, h1, keep_dp (hd.keep f) (noL_T t) h2⟩
def spRow (K : PySem.W.Frag) : Sp := fun vs H Q _ => ∃ (A B : Addr) (m : Nat) (P N W : Addr) (names words : List Str) (g : Nat), vs = [.ref A, .ref P] ∧ Deck K A B m H ∧ m + 60 ≤ Lim ∧ Pl K A B P N W names words g H ∧ DrR K A B m 60 (PlR K g words) H Q
theorem ok_row (T : Txt w K mg) : FOk P w K mg base 4 "_law_row" (spRow K) := by
  have G__law_one : FOk P w K mg base 2 "_law_one" (spOne K) := ok_one T
  have G__law_any_test : FOk P w K mg base 3 "_law_any_test" (spAnyT K) := ok_any_test T
  refine fok T.f__law_row T.g__law_row sc__law_row (fun _ _ _ _ _ _ us hl => match us, hl with | [_, _], _ => rfl) (fun vs H Q E h => ?_) (fun cdv A outer s H vs Q E hr h => ?_)
  · obtain ⟨A, B, m, _, _, _, _, _, _, rfl, _⟩ := h
    rfl
  obtain ⟨A, B, m, PP, N, W, names, words, g, rfl, hd, hm, hp, k⟩ := h
  have nd := sc__law_row.nd
  refine ⟨_, (pss_cons (ps_par3 (i := 2) (j := 3) (l := 4) (by rfl) nd rfl rfl rfl (by decide) (by decide) (by decide) rfl rfl rfl (pa_cons (pe_f G__law_one (hr.mono (by omega)) (pa_cons (pv 0) (pa_cons (pe_ix ix_list (pv 1) pe_int (fun _ _ => rfl)) pa_nil))) (pa_cons (pe_f G__law_one (hr.mono (by omega)) (pa_cons (pv 0) (pa_cons (pe_ix ix_list (pv 1) pe_int (fun _ _ => rfl)) pa_nil))) (pa_cons (pe_f G__law_one (hr.mono (by omega)) (pa_cons (pv 0) (pa_cons (pe_ix ix_list (pv 1) pe_int (fun _ _ => rfl)) pa_nil))) pa_nil))) (by rfl)) (pss_cons (ps_par (i := 5) (j := 6) (by rfl) nd rfl rfl (by decide) rfl rfl (pa_cons (pe_f G__law_one (hr.mono (by omega)) (pa_cons (pv 0) (pa_cons (pe_ix ix_list (pv 1) pe_int (fun _ _ => rfl)) pa_nil))) (pa_cons (pe_f G__law_one (hr.mono (by omega)) (pa_cons (pv 0) (pa_cons (pe_ix ix_list (pv 1) pe_int (fun _ _ => rfl)) pa_nil))) pa_nil)) (by rfl)) (pss_cons (ps_set (i := 7) nd rfl (Or.inl rfl) (pe_lst (pa_cons (pe_tup (pa_cons pe_str (pa_cons (pv 2) pa_nil))) (pa_cons (pe_tup (pa_cons pe_str (pa_cons (pv 2) pa_nil))) (pa_cons (pe_tup (pa_cons pe_str (pa_cons (pv 2) pa_nil))) (pa_cons (pe_tup (pa_cons pe_str (pa_cons (pv 2) (pa_cons (pv 6) pa_nil)))) (pa_cons (pe_tup (pa_cons pe_str (pa_cons (pv 2) (pa_cons (pv 3) pa_nil)))) (pa_cons (pe_tup (pa_cons pe_str (pa_cons (pv 2) (pa_cons (pv 5) (pa_cons (pv 3) pa_nil))))) pa_nil)))))))) (pss_cons (ps_set (i := 7) nd rfl (Or.inl rfl) (pe_op op_cat (pv 7) (pe_lst (pa_cons (pe_tup (pa_cons pe_str (pa_cons (pv 2) (pa_cons (pv 5) (pa_cons (pv 3) pa_nil))))) (pa_cons (pe_tup (pa_cons pe_str (pa_cons (pv 2) (pa_cons (pv 5) pa_nil)))) (pa_cons (pe_tup (pa_cons pe_str (pa_cons (pv 4) (pa_cons (pv 2) (pa_cons (pv 5) pa_nil))))) (pa_cons (pe_tup (pa_cons pe_str (pa_cons (pv 6) pa_nil))) pa_nil))))))) (pss_one (ps_ret (pe_f G__law_one (hr.mono (by omega)) (pa_cons (pv 0) (pa_cons (pe_op op_cat (pv 7) (pe_lst (pa_cons (pe_tup (pa_cons pe_str (pa_cons (pe_f G__law_any_test (hr.mono (by omega)) (pa_cons (pv 0) (pa_cons (pv 1) pa_nil))) pa_nil))) pa_nil))) pa_nil))))))))), ?_⟩
  have hpo := ed_pool (σ := start N__law_row [.ref A, .ref PP]) (i := 0) (j := 1) hp rfl rfl
  refine q_par3D stb_pure stb_pure hpo.1 hpo.1 hpo.1 hd (by omega) fun v u s H1 m1 f1 d1 l1 l2 ⟨x, ex, hx⟩ ⟨y, ey, hy⟩ ⟨z, ez, hz⟩ => ?_
  subst ex
  subst ey
  subst ez
  have hp1 := hp.frd f1
  have hpo2 := ed_pool (σ := [some (.ref A), some (.ref PP), some (.str x), some (.str y), some (.str z), none, none, none]) (i := 0) (j := 1) hp1 rfl rfl
  refine q_par2D stb_pure hpo2.1 hpo2.2 d1 (by omega) fun v u H2 m2 f2 d2 l3 l4 ⟨f, ef, hf⟩ ⟨wd, ew, hwd, hwm⟩ => ?_
  subst ef
  subst ew
  have hp2 := hp1.frd f2
  have now : ∀ x ∈ ([] : List Str), x ∈ words := fun _ h => by cases h
  have hl1 : EvDA K A B (tCons (tTup (tCons (tC (.str "make")) (tCons (tVar 2) tNil))) (tCons (tTup (tCons (tC (.str "keep")) (tCons (tVar 2) tNil))) (tCons (tTup (tCons (tC (.str "drop")) (tCons (tVar 2) tNil))) (tCons (tTup (tCons (tC (.str "wish")) (tCons (tVar 2) (tCons (tVar 6) tNil)))) (tCons (tTup (tCons (tC (.str "name")) (tCons (tVar 2) (tCons (tVar 3) tNil)))) (tCons (tTup (tCons (tC (.str "hold")) (tCons (tVar 2) (tCons (tVar 5) (tCons (tVar 3) tNil))))) tNil))))))
      [some (.ref A), some (.ref PP), some (.str x), some (.str y), some (.str z), some (.str f), some (.str wd), none] H2 0 (LOf 6 (PlR K g words)) :=
    eda_consL stb_pl (ed_pl (p := .make x) hx (fun _ => trivial) now fun _ _ => ea_cons ev_c (ea_cons (ev_var rfl) ea_nil)) (eda_consL stb_pl (ed_pl (p := .keep x) hx (fun _ => trivial) now fun _ _ => ea_cons ev_c (ea_cons (ev_var rfl) ea_nil)) (eda_consL stb_pl (ed_pl (p := .drop x) hx (fun _ => trivial) now fun _ _ => ea_cons ev_c (ea_cons (ev_var rfl) ea_nil))
      (eda_consL stb_pl (ed_pl (p := .wish x wd) ⟨hx, hwd⟩ (fun _ => trivial) (fun q hq => by rw [List.mem_singleton.mp hq]; exact hwm) fun _ _ => ea_cons ev_c (ea_cons (ev_var rfl) (ea_cons (ev_var rfl) ea_nil))) (eda_consL stb_pl (ed_pl (p := .name x y) ⟨hx, hy⟩ (fun _ => trivial) now fun _ _ => ea_cons ev_c (ea_cons (ev_var rfl) (ea_cons (ev_var rfl) ea_nil)))
      (eda_consL stb_pl (ed_pl (p := .hold x f y) ⟨hx, hf, hy⟩ (fun _ => trivial) now fun _ _ => ea_cons ev_c (ea_cons (ev_var rfl) (ea_cons (ev_var rfl) (ea_cons (ev_var rfl) ea_nil)))) eda_nilL)))))
  refine q_asgLst (stb_all stb_pl) hl1 (fun xs H1 h => by rw [h.1]; decide) d2 (by omega) fun L xs H3 m3 hL0 hLA hLB f3 d3 l5 l6 hL hxs => ?_
  have hl2 : EvDA K A B (tCons (tTup (tCons (tC (.str "weak")) (tCons (tVar 2) (tCons (tVar 5) (tCons (tVar 3) tNil))))) (tCons (tTup (tCons (tC (.str "cut")) (tCons (tVar 2) (tCons (tVar 5) tNil)))) (tCons (tTup (tCons (tC (.str "take")) (tCons (tVar 4) (tCons (tVar 2) (tCons (tVar 5) tNil))))) (tCons (tTup (tCons (tC (.str "say")) (tCons (tVar 6) tNil))) tNil))))
      [some (.ref A), some (.ref PP), some (.str x), some (.str y), some (.str z), some (.str f), some (.str wd), some (.ref L)] H3 0 (LOf 4 (PlR K g words)) :=
    eda_consL stb_pl (ed_pl (p := .weak x f y) ⟨hx, hf, hy⟩ (fun _ => trivial) now fun _ _ => ea_cons ev_c (ea_cons (ev_var rfl) (ea_cons (ev_var rfl) (ea_cons (ev_var rfl) ea_nil)))) (eda_consL stb_pl (ed_pl (p := .cut x f) ⟨hx, hf⟩ (fun _ => trivial) now fun _ _ => ea_cons ev_c (ea_cons (ev_var rfl) (ea_cons (ev_var rfl) ea_nil)))
      (eda_consL stb_pl (ed_pl (p := .take z x f) ⟨hz, hx, hf⟩ (fun _ => trivial) now fun _ _ => ea_cons ev_c (ea_cons (ev_var rfl) (ea_cons (ev_var rfl) (ea_cons (ev_var rfl) ea_nil)))) (eda_consL stb_pl (ed_pl (p := .say wd) hwd (fun _ => trivial) now fun _ _ => ea_cons ev_c (ea_cons (ev_var rfl) ea_nil)) eda_nilL)))
  refine q_asgD (ed_cat (stb_all stb_pl) (stb_all stb_pl) (ed_varL (S := LOf 6 (PlR K g words)) rfl d3 (stb_all stb_pl) hL hLA hLB hxs) (ed_lst (stb_all stb_pl) hl2 fun xs H1 h => by rw [h.1]; decide) fun xs ys H1 H2 h1 h2 => by rw [h1.1, h2.1]; decide) d3 (by omega) fun v H4 m4 f4 d4 l7 l8 ⟨M, zs, ev, hM, hMA, hMB, xs1, ys1, ez, h6, h4⟩ => ?_
  subst ev
  have hp4 := (hp2.frd f3).frd f4
  have hz10 : LOf 10 (PlR K g words) zs H4 := ⟨by rw [ez, List.length_append, h6.1, h4.1], fun q hq => by
    rw [ez] at hq
    rcases List.mem_append.mp hq with hq | hq
    · exact h6.2 q hq
    · exact h4.2 q hq⟩
  have hask : EvD K A B (tTup (tCons (tC (.str "ask")) (tCons (tCall (spAnyT K) [] E0 (tCons (tVar 0) (tCons (tVar 1) tNil))) tNil))) [some (.ref A), some (.ref PP), some (.str x), some (.str y), some (.str z), some (.str f), some (.str wd), some (.ref M)] H4 20 (PlR K g words) := by
    have q := eda_cons (K := K) (A := A) (B := B) (R := fun v _ => v = V.str "ask") stb_pure (ed_c (v := .str "ask")) (eda_cons (R := TsR K g) stb_ts (ed_callE (n := 20) (sp := spAnyT K) (vs := [.ref A, .ref PP]) (σ := [some (.ref A), some (.ref PP), some (.str x), some (.str y), some (.str z), some (.str f), some (.str wd), some (.ref M)]) (H := H4) (ts := tCons (tVar 0) (tCons (tVar 1) tNil)) (fun _ _ => ea_cons (ev_var rfl) (ea_cons (ev_var rfl) ea_nil)) fun H5 m5 f5 d5 hl Q k => ⟨A, B, m5, PP, N, W, names, words, g, rfl, d5, hl, hp4.frd f5, k⟩) eda_nil)
    refine ed_imp (ed_le (ed_tup (stbC stb_pure (stbC stb_ts (stb_pure (p := fun xs : List V => xs = [])))) q fun xs H1 h => by rw [ln2 xs H1 h]; decide) (by omega)) fun v H5 m5 f5 d5 ⟨p, us, ev, hp5, a, r, e1, ea, b, r2, e2, ⟨t, ht, hdt⟩, e3⟩ => ?_
    subst e3
    subst e2
    subst ea
    subst e1
    exact ⟨.ask t, ht, pln_dp (p := .ask t) (u := b) ⟨p, ev, st_of hp5⟩ hdt, now⟩
  refine s_retD (n := 50) (ed_le (ed_imp (ed_oneN (S := fun zs H => ∃ xs ys, zs = xs ++ ys ∧ LOf 10 (PlR K g words) xs H ∧ LOf 1 (PlR K g words) ys H) rfl (fun zs H H' m hd f ⟨xs, ys, e, h1, h2⟩ => ⟨xs, ys, e, stb_all stb_pl xs H H' m hd f h1, stb_all stb_pl ys H H' m hd f h2⟩)
    (ed_cat (stb_all stb_pl) (stb_all stb_pl) (ed_varL (S := LOf 10 (PlR K g words)) rfl d4 (stb_all stb_pl) hM hMA hMB hz10) (ed_lst (stb_all stb_pl) (eda_consL stb_pl hask eda_nilL) fun xs H1 h => by rw [h.1]; decide) fun xs ys H1 H2 h1 h2 => by rw [h1.1, h2.1]; decide) fun xs H1 ⟨a, b, e, h1, h2⟩ => by rw [e, List.length_append, h1.1, h2.1]; decide) fun v H5 m5 f5 d5 ⟨us, ⟨a, b, e, h1, h2⟩, hv⟩ => ?_) (by omega)) d4 (by omega) fun v H5 m5 f5 d5 l9 l10 r => k v H5 m5 (((f1.trans f2).trans (f3.trans f4)).trans f5) d5 (by omega) (by omega) r
  · rw [e] at hv
    rcases List.mem_append.mp hv with hv | hv
    · exact h1.2 v hv
    · exact h2.2 v hv
end
end K7
set_option maxHeartbeats 4000000
/-! _law_rows, _law_inner -/
namespace K7
open PySem PySem.Spec PyProof.Rows L2 Evl
/-- all stands but the deck and what is left -/
def Fr3 (A B C : Addr) (H H' : Hp) : Prop := ∀ b o, b ≠ A → b ≠ B → b ≠ C → H b = some o → H' b = some o
theorem Fr3.refl (A B C : Addr) (H : Hp) : Fr3 A B C H H := fun _ _ _ _ _ h => h
theorem Fr3.trans {A B C : Addr} {H H1 H2 : Hp} (a : Fr3 A B C H H1) (b : Fr3 A B C H1 H2) : Fr3 A B C H H2 := fun c o n n2 n3 h => b c o n n2 n3 (a c o n n2 n3 h)
theorem Fr3.frd {A B C : Addr} {H H1 : Hp} (a : Frd A B H H1) : Fr3 A B C H H1 := fun c o n n2 _ h => a c o n n2 h
theorem Fr3.ex {A B C : Addr} {H H1 : Hp} (a : Ex H H1) : Fr3 A B C H H1 := fun c o _ _ _ h => a c o h
theorem Fr3.upd {A B C : Addr} {H H' : Hp} (e : Fr3 A B C H H') {a : Addr} {o : HO} (h : a = C ∨ H a = none) : Fr3 A B C H (L2.upd H' a o) := fun b u n1 n2 n3 hb => by
  have ne : b ≠ a := by
    rcases h with h | h
    · rw [h]; exact n3
    · exact ne_of_none hb h
  rw [upd_ne ne]
  exact e b u n1 n2 n3 hb
/-- what is left: so many statements, so much weight -/
def Lft (C : Addr) (c w : Nat) (H : Hp) : Prop := H C = some (.lst [.int c, .int w])
theorem Fr3.keep {K : PySem.W.Frag} {A B C : Addr} {m c w : Nat} {H H1 : Hp} (e : Fr3 A B C H H1) (h : Deck K A B m H) (hl : Lft C c w H) : Keep H H1 := by
  obtain ⟨cs, h1, h2, _⟩ := h
  exact fun b => ⟨fun ys hb => e b _ (ne_of hb h1 (by intro z; cases z)) (ne_of hb h2 (by intro z; cases z)) (ne_of hb hl (by intro z; cases z)) hb, fun u v hb => e b _ (ne_of hb h1 (by intro z; cases z)) (ne_of hb h2 (by intro z; cases z)) (ne_of hb hl (by intro z; cases z)) hb⟩
theorem Pl.fr3 {K : PySem.W.Frag} {A B C P N W : Addr} {names words : List Str} {g : Nat} {H H' : Hp} (h : Pl K A B P N W names words g H) (hC : C ≠ P ∧ C ≠ N ∧ C ≠ W) (f : Fr3 A B C H H') : Pl K A B P N W names words g H' :=
  ⟨f _ _ h.pA h.pB hC.1.symm h.p, f _ _ h.nA h.nB hC.2.1.symm h.n, f _ _ h.wA h.wB hC.2.2.symm h.w, h.pA, h.pB, h.nA, h.nB, h.wA, h.wB, h.okN, h.okW, h.nl, h.wl, h.g4⟩
def cost : Nat → Nat
  | 0 => 0
  | n + 1 => 2 + 31 * (90 + 2 * cost n)
section
variable {P : Program} {w : World} {K : PySem.W.Frag} {mg : Str → Option Value} {base : Heap}
/-- what a block is made within: e how deep it may be -/
structure Blk (g : Nat) (words : List Str) (e c w t c' w' : Nat) (b : List Stm) : Prop where
  ok : okL g b
  ht : htL b ≤ e
  cn : c' + cnL b = c
  wt : w' + t * wtL b ≤ w
  wi : ∀ x ∈ wishes b, x ∈ words
def BlkR (K : PySem.W.Frag) (A B C : Addr) (m n g e c w t : Nat) (words : List Str) (H : Hp) (Q : VK) : Prop := ∀ v H' m' c' w' b, Fr3 A B C H H' → Deck K A B m' H' → m ≤ m' → m' ≤ m + n → Lft C c' w' H' → Blk g words e c w t c' w' b → Dp K H' v (.tuple (encL b)) → Q v H'
def spRows (K : PySem.W.Frag) (n : Nat) : Sp := fun vs H Q _ => ∃ (A B : Addr) (m : Nat) (P N W C : Addr) (names words : List Str) (g d t c w : Nat), vs = [.ref A, .ref P, .ref C, .int d, .int t] ∧ Deck K A B m H ∧ m + cost n ≤ Lim ∧ Pl K A B P N W names words g H ∧ (C ≠ P ∧ C ≠ N ∧ C ≠ W) ∧ (C ≠ A ∧ C ≠ B) ∧ Lft C c w H ∧
  d + n = 5 ∧ d ≤ 4 ∧ c ≤ 1000 ∧ BlkR K A B C m (cost n) g n c w t words H Q
def spInL (K : PySem.W.Frag) (n : Nat) : Sp := fun vs H Q _ => ∃ (A B : Addr) (m : Nat) (P N W C : Addr) (names words : List Str) (g d t c w : Nat), vs = [.ref A, .ref P, .ref C, .int d, .int t] ∧ Deck K A B m H ∧ m + cost n ≤ Lim ∧ Pl K A B P N W names words g H ∧ (C ≠ P ∧ C ≠ N ∧ C ≠ W) ∧ (C ≠ A ∧ C ≠ B) ∧ Lft C c w H ∧
  d + n = 4 ∧ c ≤ 1000 ∧ BlkR K A B C m (cost n) g n c w t words H Q
theorem blk_nil {g e c w t : Nat} {words : List Str} : Blk g words e c w t c w [] := ⟨trivial, by rw [htL]; omega, by rw [cnL]; omega, by rw [wtL]; omega, fun x hx => by simp [wishes, flL] at hx⟩
theorem flL_append : ∀ b c : List Stm, flL (b ++ c) = flL b ++ flL c
  | [], c => by
    rw [List.nil_append]
    conv => rhs; rw [flL]
    rfl
  | s :: r, c => by
    show flL (s :: (r ++ c)) = _
    rw [flL, flL_append r c]
    conv => rhs; rw [flL]
    rw [List.append_assoc]
theorem okL_append {g : Nat} : ∀ {b c : List Stm}, okL g b → okL g c → okL g (b ++ c)
  | [], c, _, h => h
  | s :: r, c, h1, h2 => ⟨h1.1, okL_append (b := r) h1.2 h2⟩
theorem htL_append : ∀ b c : List Stm, htL (b ++ c) = max (htL b) (htL c)
  | [], c => by
    rw [List.nil_append]
    have e : htL [] = 0 := by rw [htL]
    rw [e]
    omega
  | s :: r, c => by
    show htL (s :: (r ++ c)) = _
    rw [htL, htL_append r c]
    conv => rhs; rw [htL]
    omega
theorem blk_add {g e c w t c1 w1 c2 w2 : Nat} {words : List Str} {b : List Stm} {s : Stm} (h : Blk g words e c w t c1 w1 b) (hs : okS g s) (hht : htS s ≤ e) (hcn : c2 + cnS s = c1) (hwt : w2 + t * wtS s ≤ w1) (hwi : ∀ x ∈ (flS s).flatMap wishOf, x ∈ words) : Blk g words e c w t c2 w2 (b ++ [s]) := by
  refine ⟨okL_append h.ok ⟨hs, trivial⟩, ?_, ?_, ?_, fun x hx => ?_⟩
  · have := h.ht
    rw [htL_append, htL, htL]
    omega
  · have := h.cn
    rw [cnL_append, cnL, cnL]
    omega
  · have := h.wt
    rw [wtL_append, wtL, wtL, Nat.mul_add, Nat.add_zero]
    omega
  · unfold wishes at hx
    rw [flL_append, List.flatMap_append] at hx
    rcases List.mem_append.mp hx with hx | hx
    · exact h.wi x hx
    · refine hwi x ?_
      rw [flL, flL, List.append_nil] at hx
      exact hx
theorem len_cn : ∀ b : List Stm, b.length ≤ cnL b
  | [] => Nat.zero_le _
  | s :: r => by
    have := cn1 s
    have := len_cn r
    rw [cnL, List.length_cons]
    omega
section
variable {σ : L2.St} {H : Hp} {te : TE} {D : Ends} {tz : TS}
theorem q_two {C : Addr} {i : Nat} {x0 y0 x y : V} (hl : H C = some (.lst [x0, y0])) (h : EvU te σ H [x, y]) (ho : σ[i]? = some (some (.ref C))) (k : ∀ H1, Ex H H1 → tz D σ (upd (upd H1 C (.lst [x, y0])) C (.lst [x, y]))) :
    tSeq (tAsg te (gTup K 2 (gCons (gSub (tVar i) (tC (.int 0)) rSetL) (gCons (gSub (tVar i) (tC (.int 1)) rSetL) gNil)))) tz D σ H := h H (Ex.refl H) _ fun p H1 hp e1 h1 =>
  ⟨p, [x, y], rfl, st_of h1, rfl, x, [y], rfl, _, ho, C, [x0, y0], 0, 0, rfl, rfl, e1 C _ hl, rfl, y, [], rfl, _, ho, C, [x, y0], 1, 1, rfl, rfl, upd_same, rfl, rfl, k H1 e1⟩
theorem q_parCC {i j : Nat} {sp1 sp2 : Sp} {t1 t2 : TA} (h : tCall sp1 [] E0 t1 σ H (fun x H1 => tCall sp2 [] E0 t2 σ H1 (fun y H2 => ∃ v w, [x, y] = [v, w] ∧ tz D ((σ.set i (some v)).set j (some w)) H2))) : tSeq (tPar i j (tCons (tCall sp1 [] E0 t1) (tCons (tCall sp2 [] E0 t2) tNil))) tz D σ H := h
end
theorem ok_inner (T : Txt w K mg) {n : Nat} (h : FOk P w K mg base (2 * n + 5) "_law_rows" (spRows K n)) : FOk P w K mg base (2 * n + 6) "_law_inner" (spInL K n) := by
  have G__law_rows := h
  refine fok T.f__law_inner T.g__law_inner sc__law_inner (fun _ _ _ _ _ _ us hl => match us, hl with | [_, _, _, _, _], _ => rfl) (fun vs H Q E h => ?_) (fun cdv A outer s H vs Q E hr h => ?_)
  · obtain ⟨A, B, m, PP, N, W, C, _, _, _, _, _, _, _, rfl, _⟩ := h
    rfl
  obtain ⟨A, B, m, PP, N, W, C, names, words, g, d, t, c, w, rfl, hd, hm, hp, hC, hCA, hl, hdn, hc, k⟩ := h
  have nd := sc__law_inner.nd
  refine ⟨_, (pss_one (ps_ret (pe_ifExp (pt_cmpR op_lt (pv 3) pe_int (nomark _)) (pe_f G__law_rows (hr.mono (by omega)) (pa_cons (pv 0) (pa_cons (pv 1) (pa_cons (pv 2) (pa_cons (pe_op op_add (pv 3) pe_int) (pa_cons (pv 4) pa_nil)))))) (pe_tup pa_nil)))), ?_⟩
  by_cases h4 : d < 4
  · have et : EvT (tTest (tOp (rI0 fun i j => .bl (decide (i < j))) (tVar 3) (tC (.int 4)))) [some (.ref A), some (.ref PP), some (.ref C), some (.int d), some (.int t)] H true := et_is (et_test (ev_op (ev_var rfl) ev_c rv_I0)) (decide_eq_true (by omega))
    refine et H (Ex.refl H) _ fun H1 e1 => ?_
    refine t_call (vs := [.ref A, .ref PP, .ref C, .int ((d + 1 : Nat) : Int), .int t]) (ea_cons (ev_var rfl) (ea_cons (ev_var rfl) (ea_cons (ev_var rfl) (ea_cons (ev_is (ev_op (ev_var rfl) ev_c rv_I0) (by congr 1)) (ea_cons (ev_var rfl) ea_nil))))) fun H2 e2 => ?_
    have e02 := e1.trans e2
    exact ⟨A, B, m, PP, N, W, C, names, words, g, d + 1, t, c, w, rfl, hd.ex e02, hm, hp.frd (Frd.ex e02), hC, hCA, e02 _ _ hl, by omega, by omega, hc, fun v H' m' c' w' b f d' l1 l2 hl' hb hv => k v H' m' c' w' b ((Fr3.ex e02).trans f) d' l1 l2 hl' hb hv⟩
  · have et : EvT (tTest (tOp (rI0 fun i j => .bl (decide (i < j))) (tVar 3) (tC (.int 4)))) [some (.ref A), some (.ref PP), some (.ref C), some (.int d), some (.int t)] H false := et_is (et_test (ev_op (ev_var rfl) ev_c rv_I0)) (decide_eq_false (by omega))
    refine et H (Ex.refl H) _ fun H1 e1 => ?_
    refine ⟨by show 0 ≤ sizeLine; decide, fun p hp => ?_⟩
    have e := e1.trans (Ex.new (o := .tup []) hp)
    exact k _ _ m c w [] (Fr3.ex e) (hd.ex e) (Nat.le_refl _) (by omega) (e _ _ hl) blk_nil (by rw [encL]; exact .tup (st_of upd_same) .nil)
theorem ok_rows (T : Txt w K mg) : ∀ n : Nat, FOk P w K mg base (2 * n + 5) "_law_rows" (spRows K n)
  | 0 => fok_none T.f__law_rows T.g__law_rows (ps := ["_law_deck_here", "_law_pool_here", "_law_left", "_law_depth", "_law_times"]) (fun _ _ _ _ _ _ us hl => match us, hl with | [_, _, _, _, _], _ => rfl) (fun vs H Q E ⟨A, B, m, PP, N, W, C, names, words, g, d, t, c, w, _, _, _, _, _, _, _, h1, h2, _⟩ => by omega) _
  | n + 1 => by
    have G__law_draw : FOk P w K mg base 1 "_law_draw" (spDraw K) := ok_draw T
    have G__law_one : FOk P w K mg base 2 "_law_one" (spOne K) := ok_one T
    have G__law_row : FOk P w K mg base 4 "_law_row" (spRow K) := ok_row T
    have G__law_any_test : FOk P w K mg base 3 "_law_any_test" (spAnyT K) := ok_any_test T
    have G__law_inner := ok_inner (P := P) (base := base) T (ok_rows T n)
    refine fok T.f__law_rows T.g__law_rows sc__law_rows (fun _ _ _ _ _ _ us hl => match us, hl with | [_, _, _, _, _], _ => rfl) (fun vs H Q E h => ?_) (fun cdv A outer s H vs Q E hr h => ?_)
    · obtain ⟨A, B, m, PP, N, W, C, _, _, _, _, _, _, _, rfl, _⟩ := h
      rfl
    obtain ⟨A, B, m, PP, N, W, C, names, words, g, d, t, c, w, rfl, hd, hm, hp, hC, hCA, hl, hdn, hd4, hc, k⟩ := h
    have nd := sc__law_rows.nd
    refine ⟨_, (pss_cons (ps_set (i := 5) nd rfl (Or.inl rfl) (pe_lst pa_nil)) (pss_cons (ps_for PassesOwn.never rfl (pi_range1 (by rfl) T.z_range (pa_cons (pe_f G__law_draw (hr.mono (by omega)) (pa_cons (pv 0) (pa_cons (pe_ifExp (pt_cmpR op_eq (pv 3) pe_int (nomark _)) (pe_f G__law_one (hr.mono (by omega)) (pa_cons (pv 0) (pa_cons (pe_lst (pa_cons pe_int (pa_cons pe_int (pa_cons pe_int pa_nil)))) pa_nil))) pe_int) pa_nil))) pa_nil)) (pg_name (i := 6) nd rfl (Or.inl rfl)) (pss_cons (ps_set (i := 7) nd rfl (Or.inl rfl) (pe_f G__law_draw (hr.mono (by omega)) (pa_cons (pv 0) (pa_cons pe_int pa_nil)))) (pss_one (ps_if (PW.pt (pw_and (pt_cmpR op_gt (pe_ix ix_list (pv 2) pe_int (fun _ _ => rfl)) pe_int (nomark _)) (pw_and1 (pt_cmpR op_ge (pe_ix ix_list (pv 2) pe_int (fun _ _ => rfl)) (pv 4) (nomark _))))) (pss_cons (ps_asg (pe_tup (pa_cons (pe_op op_sub (pe_ix ix_list (pv 2) pe_int (fun _ _ => rfl)) pe_int) (pa_cons (pe_op op_sub (pe_ix ix_list (pv 2) pe_int (fun _ _ => rfl)) (pv 4)) pa_nil))) (pg_tup rfl (pgs_cons (pg_sub (pv 2) pe_int set_list) (pgs_cons (pg_sub (pv 2) pe_int set_list) pgs_nil)))) (pss_one (ps_if (pt_cmpR op_lt (pv 7) pe_int (nomark _)) (pss_one (ps_expr (pe_bm PySem.F.plainAttrs_list PySem.F.slot_list_append PySem.F.type_list_append mt_append (pv 5) (pa_cons (pe_f G__law_row (hr.mono (by omega)) (pa_cons (pv 0) (pa_cons (pv 1) pa_nil))) pa_nil)))) (pss_one (ps_if (pt_cmpR op_eq (pv 7) pe_int (nomark _)) (pss_cons (ps_set (i := 8) nd rfl (Or.inl rfl) (pe_f G__law_draw (hr.mono (by omega)) (pa_cons (pv 0) (pa_cons pe_int pa_nil)))) (pss_one (ps_expr (pe_bm PySem.F.plainAttrs_list PySem.F.slot_list_append PySem.F.type_list_append mt_append (pv 5) (pa_cons (pe_tup (pa_cons pe_str (pa_cons (pv 8) (pa_cons (pe_f G__law_inner (hr.mono (by omega)) (pa_cons (pv 0) (pa_cons (pv 1) (pa_cons (pv 2) (pa_cons (pv 3) (pa_cons (pe_op op_mul (pv 4) (pv 8)) pa_nil)))))) pa_nil)))) pa_nil))))) (pss_cons (ps_par (i := 9) (j := 10) (by rfl) nd rfl rfl (by decide) rfl rfl (pa_cons (pe_f G__law_any_test (hr.mono (by omega)) (pa_cons (pv 0) (pa_cons (pv 1) pa_nil))) (pa_cons (pe_f G__law_inner (hr.mono (by omega)) (pa_cons (pv 0) (pa_cons (pv 1) (pa_cons (pv 2) (pa_cons (pv 3) (pa_cons (pv 4) pa_nil)))))) pa_nil)) (by rfl)) (pss_one (ps_expr (pe_bm PySem.F.plainAttrs_list PySem.F.slot_list_append PySem.F.type_list_append mt_append (pv 5) (pa_cons (pe_tup (pa_cons pe_str (pa_cons (pv 9) (pa_cons (pv 10) (pa_cons (pe_f G__law_inner (hr.mono (by omega)) (pa_cons (pv 0) (pa_cons (pv 1) (pa_cons (pv 2) (pa_cons (pv 3) (pa_cons (pv 4) pa_nil)))))) pa_nil))))) pa_nil)))))))))) pss_nil)))) (pss_one (ps_ret (pe_callTy call_tuple_of (by rfl) T.z_tuple (by decide +kernel) (pa_cons (pv 5) pa_nil)))))), ?_⟩
    have hcost : cost (n + 1) = 2 + 31 * (90 + 2 * cost n) := rfl
    generalize hU : 90 + 2 * cost n = U at hcost
    rw [hcost] at hm k
    refine q_asgL (el_lst ea_nil (by decide)) fun L H1 hL0 e1 hL1 => ?_
    have hd1 := hd.ex e1
    have hLC : L ≠ C := (ne_of_none hl hL0).symm
    have hLn := fresh_ne hd hL0
    have h3 : ∀ c : Nat, 1 ≤ c → c ≤ 31 → EvD K A B (tC (.int (c : Int))) [some (.ref A), some (.ref PP), some (.ref C), some (.int d), some (.int t), some (.ref L), none, none, none, none, none] H1 0 (fun v _ => ∃ c : Nat, 1 ≤ c ∧ c ≤ 31 ∧ v = .int c) := fun c h1 h2 => ed_imp ed_c fun v _ _ _ _ e => ⟨c, h1, h2, e⟩
    have hmany : EvD K A B (tIf (tTest (tOp rEq (tVar 3) (tC (.int 0)))) (tCall (spOne K) [] E0 (tCons (tVar 0) (tCons (tLst (tCons (tC (.int 3)) (tCons (tC (.int 6)) (tCons (tC (.int 31)) tNil)))) tNil))) (tC (.int 4))) [some (.ref A), some (.ref PP), some (.ref C), some (.int d), some (.int t), some (.ref L), none, none, none, none, none] H1 1 (fun v _ => ∃ c : Nat, 1 ≤ c ∧ c ≤ 31 ∧ v = .int c) := fun H2 m2 f2 d2 hl2 Q2 k2 => by
      have ev0 : ∀ b : Bool, decide (V.int (d : Int) = V.int 0) = b → EvT (tTest (tOp rEq (tVar 3) (tC (.int 0)))) [some (.ref A), some (.ref PP), some (.ref C), some (.int d), some (.int t), some (.ref L), none, none, none, none, none] H2 b := fun b hb => et_test (ev_is (ev_op (ev_var rfl) ev_c (rv_eq rfl)) (congrArg V.bl hb))
      cases hb : decide (V.int (d : Int) = V.int 0) with
      | true => exact ev0 true hb H2 (Ex.refl H2) _ fun H3 e3 => (ed_imp (ed_oneN (S := LOf 3 (fun v _ => ∃ c : Nat, 1 ≤ c ∧ c ≤ 31 ∧ v = .int c)) rfl (stb_all stb_pure) (ed_lst (stb_all stb_pure) (eda_consL stb_pure (h3 3 (by decide) (by decide)) (eda_consL stb_pure (h3 6 (by decide) (by decide)) (eda_consL stb_pure (h3 31 (by decide) (by decide)) eda_nilL))) fun xs H1 h => by rw [h.1]; decide) fun xs H1 h => by rw [h.1]; decide) fun w _ _ _ _ ⟨us, h1, h2⟩ => h1.2 w h2) H3 m2 (f2.trans (Frd.ex e3)) (d2.ex e3) hl2 Q2 (k2.ext (Frd.ex e3))
      | false => exact ev0 false hb H2 (Ex.refl H2) _ fun H3 e3 => (ed_le (h3 4 (by decide) (by decide)) (Nat.zero_le 1)) H3 m2 (f2.trans (Frd.ex e3)) (d2.ex e3) hl2 Q2 (k2.ext (Frd.ex e3))
    have hcount : EvD K A B (tCall (spDraw K) [] E0 (tCons (tVar 0) (tCons (tIf (tTest (tOp rEq (tVar 3) (tC (.int 0)))) (tCall (spOne K) [] E0 (tCons (tVar 0) (tCons (tLst (tCons (tC (.int 3)) (tCons (tC (.int 6)) (tCons (tC (.int 31)) tNil)))) tNil))) (tC (.int 4))) tNil))) [some (.ref A), some (.ref PP), some (.ref C), some (.int d), some (.int t), some (.ref L), none, none, none, none, none] H1 2 (fun v _ => ∃ c : Nat, c ≤ 31 ∧ v = .int c) := by
      refine ed_le (ed_call (n' := 1) (eda_cons (K := K) (A := A) (B := B) stb_pure (ed_var (H := H1) (i := 0) (v := .ref A) rfl) (eda_cons stb_pure hmany eda_nil)) fun vs H2 m2 f2 d2 hm2 hv Q2 k2 => ?_) (by omega)
      obtain ⟨x1, r1, e1, ex1, x2, r2, e2, ⟨c, hc1, hc2, ex2⟩, e3⟩ := hv
      subst e3
      subst ex2
      subst e2
      subst ex1
      subst e1
      exact ⟨A, B, m2, c, rfl, d2, hc1, by omega, by omega, fun v H3 m3 f3 d3 l1 l2 ⟨j, hj, ev⟩ => k2 v H3 m3 f3 d3 l1 l2 ⟨j, by omega, ev⟩⟩
    refine q_forRD hcount (by decide) hd1 (by omega) fun cn H2 m2 hcn f2 d2 l1 l2 => ?_
    have Pdef : ∃ Pv : Nat → L2.St → Hp → Prop, Pv = fun i σ' H' => ∃ x6 x7 x8 x9 x10 us m' c' w' b, σ' = [some (.ref A), some (.ref PP), some (.ref C), some (.int d), some (.int t), some (.ref L), x6, x7, x8, x9, x10] ∧ Fr3 A B C H H' ∧ Deck K A B m' H' ∧ m ≤ m' ∧ m' ≤ m + 2 + i * U ∧ Lft C c' w' H' ∧ Blk g words (n + 1) c w t c' w' b ∧ H' L = some (.lst us) ∧ DpAll K H' us (encL b) := ⟨_, rfl⟩
    obtain ⟨Pv, hPv⟩ := Pdef
    refine ⟨Pv, ?_, fun i σ' H' hi q => ?_, fun σ' H' q => ?_⟩
    · rw [hPv]
      exact ⟨_, _, _, _, _, [], m2, c, w, [], rfl, (Fr3.ex e1).trans (Fr3.frd f2), d2, l1, by omega, f2 C _ hCA.1 hCA.2 (e1 C _ hl), blk_nil, f2 L _ hLn.1 hLn.2 hL1, by rw [encL]; exact .nil⟩
    · rw [hPv] at q
      obtain ⟨x6, x7, x8, x9, x10, us, m', c', w', b, rfl, f3, d3, l3, l4, hl3, hb, hL3, hus⟩ := q
      have hiU : (i + 1) * U ≤ 31 * U := Nat.mul_le_mul_right U (by omega)
      rw [Nat.succ_mul] at hiU
      have hcb : us.length = b.length ∧ b.length ≤ cnL b := by
        exact ⟨by rw [dpAll_len hus, encL_map, List.length_map], len_cn b⟩
      have hcn3 := hb.cn
      -- what ends a turn
      have fin : ∀ (y6 y7 y8 y9 y10 : Option V) (s : Stm) (v : V) (H4 : Hp) (m4 c2 w2 : Nat), Fr3 A B C H H4 → Deck K A B m4 H4 → m ≤ m4 → m4 ≤ m' + U → Lft C c2 w2 H4 → Blk g words (n + 1) c w t c2 w2 (b ++ [s]) → H4 L = some (.lst us) → DpAll K H4 us (encL b) → Dp K H4 v (encS s) →
          rAppend (.ref L) [v] H4 (fun _ H5 => Pv (i + 1) [some (.ref A), some (.ref PP), some (.ref C), some (.int d), some (.int t), some (.ref L), y6, y7, y8, y9, y10] H5) := fun y6 y7 y8 y9 y10 s v H4 m4 c2 w2 f4 d4 l5 l6 hl4 hb4 hL4 hus4 hv => by
        have kU : Keep H4 (upd H4 L (.lst (us ++ [v]))) := keep_upd hL4
        refine ⟨L, us, v, rfl, rfl, hL4, sz_lt (by omega), ?_⟩
        rw [hPv]
        refine ⟨_, _, _, _, _, us ++ [v], m4, c2, w2, b ++ [s], rfl, f4.upd (.inr hL0), deck_upd d4 hLn.1 hLn.2, l5, by rw [Nat.succ_mul]; omega, ?_, hb4, upd_same, ?_⟩
        · show (upd H4 L (.lst (us ++ [v]))) C = _
          rw [upd_ne hLC.symm]
          exact hl4
        · rw [encL_map, List.map_append, ← encL_map]
          exact dpAll_app (keep_dpA kU (noL_L b) hus4) (.cons (keep_dp kU (noL_S s) hv) .nil)
      refine q_asgD (ed_draw (K := K) (A := A) (B := B) (many := 6) (i := 0) rfl (fun _ _ => ev_c) (by decide) (by decide)) d3 (by omega) fun v H4 m4 f4 d4 l5 l6 ⟨way, hway, ev⟩ => ?_
      subst ev
      have hl4 : Lft C c' w' H4 := f4 C _ hCA.1 hCA.2 hl3
      have hL4 := f4 L _ hLn.1 hLn.2 hL3
      have hus4 := keep_dpA (d3.keep f4) (noL_L b) hus
      have f04 := f3.trans (Fr3.frd f4)
      by_cases hgo : 0 < c' ∧ t ≤ w'
      · refine s_when (b := true) (et_and (a := true) (b := true) (et_is (et_test (ev_op (ev_atL 0 (ev_var rfl) (sq_of hl4)) ev_c rv_I0)) (decide_eq_true (by omega))) fun _ => et_is (et_test (ev_op (ev_atL 1 (ev_var rfl) (sq_of hl4)) (ev_var rfl) rv_I0)) (decide_eq_true (by omega))) (fun _ H5 e5 => ?_) fun h => Bool.noConfusion h
        have hl5 : Lft C c' w' H5 := e5 C _ hl4
        refine q_two (K := K) (C := C) (x := .int ((c' - 1 : Nat) : Int)) (y := .int ((w' - t : Nat) : Int)) hl5 (eu_tup (ea_cons (ev_is (ev_op (ev_atL 0 (ev_var rfl) (sq_of hl5)) ev_c rv_I0) (by congr 1; omega)) (ea_cons (ev_is (ev_op (ev_atL 1 (ev_var rfl) (sq_of hl5)) (ev_var rfl) rv_I0) (by congr 1; omega)) ea_nil)) (by show 2 ≤ 100000; decide)) rfl fun H6 e6 => ?_
        have e46 := e5.trans e6
        have hl6 : Lft C (c' - 1) (w' - t) (upd (upd H6 C (.lst [.int ((c' - 1 : Nat) : Int), .int (w' : Int)])) C (.lst [.int ((c' - 1 : Nat) : Int), .int ((w' - t : Nat) : Int)])) := upd_same
        have f46 : Fr3 A B C H4 (upd (upd H6 C (.lst [.int ((c' - 1 : Nat) : Int), .int (w' : Int)])) C (.lst [.int ((c' - 1 : Nat) : Int), .int ((w' - t : Nat) : Int)])) := ((Fr3.ex e46).upd (.inl rfl)).upd (.inl rfl)
        have d6 : Deck K A B m4 (upd (upd H6 C (.lst [.int ((c' - 1 : Nat) : Int), .int (w' : Int)])) C (.lst [.int ((c' - 1 : Nat) : Int), .int ((w' - t : Nat) : Int)])) := deck_upd (deck_upd (d4.ex e46) hCA.1 hCA.2) hCA.1 hCA.2
        show tIfS _ _ _ _ _ (upd (upd H6 C (.lst [.int ((c' - 1 : Nat) : Int), .int (w' : Int)])) C (.lst [.int ((c' - 1 : Nat) : Int), .int ((w' - t : Nat) : Int)]))
        generalize (upd (upd H6 C (.lst [.int ((c' - 1 : Nat) : Int), .int (w' : Int)])) C (.lst [.int ((c' - 1 : Nat) : Int), .int ((w' - t : Nat) : Int)])) = H7 at *
        have f07 := f04.trans f46
        have hL7 := f46 L _ hLn.1 hLn.2 hLC hL4
        have hus7 := keep_dpA (f46.keep d4 hl4) (noL_L b) hus4
        have hp7 := hp.fr3 hC f07
        by_cases hw4 : way < 4
        · refine s_if (b := true) (et_is (et_test (ev_op (ev_var rfl) ev_c rv_I0)) (decide_eq_true (by omega))) (fun _ H8 e8 => ?_) fun h => Bool.noConfusion h
          refine s_appQ (K := K) (l := L) (xs := us) (e8 L _ hL7) (ev_var rfl) fun H9 e9 => ?_
          have e79 := e8.trans e9
          refine t_call (ea_cons (ev_var rfl) (ea_cons (ev_var rfl) ea_nil)) fun H10 e10 => ?_
          have e710 := e79.trans e10
          refine ⟨A, B, m4, PP, N, W, names, words, g, rfl, d6.ex e710, by omega, hp7.frd (Frd.ex e710), fun v H11 m11 f11 d11 l7 l8 ⟨p, hpo, hdp, hwi⟩ => ?_⟩
          have hL11 := f11 L _ hLn.1 hLn.2 (e710 L _ hL7)
          have k711 := (keep_ex e710).trans ((d6.ex e710).keep f11)
          refine fin _ _ _ _ _ (.pln p) v H11 m11 (c' - 1) (w' - t) (f07.trans ((Fr3.ex e710).trans (Fr3.frd f11))) d11 (by omega) (by omega) (f11 C _ hCA.1 hCA.2 (e710 C _ hl6)) ?_ hL11 (keep_dpA k711 (noL_L b) hus7) (by rw [encS]; exact hdp)
          exact blk_add hb hpo (by rw [htS]; omega) (by rw [cnS]; omega) (by rw [wtS]; omega) fun x hx => hwi x (by rw [flS] at hx; simpa using hx)
        · refine s_if (b := false) (et_is (et_test (ev_op (ev_var rfl) ev_c rv_I0)) (decide_eq_false (by omega))) (fun h => Bool.noConfusion h) fun _ H8 e8 => ?_
          have hl8 : Lft C (c' - 1) (w' - t) H8 := e8 C _ hl6
          have f08 := f07.trans (Fr3.ex e8)
          have hL8 := e8 L _ hL7
          have hus8 := same_dpAll e8 hus7
          have hp8 := hp7.frd (Frd.ex e8)
          have d8 := d6.ex e8
          by_cases hw5 : way = 4
          · subst hw5
            refine s_if (b := true) (et_test (ev_is (ev_op (ev_var rfl) ev_c (rv_eq rfl)) (show V.bl (decide (V.int 4 = V.int 4)) = V.bl true by decide +kernel))) (fun _ H9 e9 => ?_) fun h => Bool.noConfusion h
            refine q_asgD (ed_draw (K := K) (A := A) (B := B) (many := 13) (i := 0) rfl (fun _ _ => ev_c) (by decide) (by decide)) (d8.ex e9) (by omega) fun v H10 m10 f10 d10 l7 l8 ⟨kk, hkk, ev⟩ => ?_
            subst ev
            have f810 : Frd A B H8 H10 := (Frd.ex e9).trans f10
            have hL10 := f810 L _ hLn.1 hLn.2 hL8
            refine s_appQ (K := K) (l := L) (xs := us) hL10 (ev_var rfl) fun H11 e11 => ?_
            refine ⟨_, rfl, ?_⟩
            refine t_call (vs := [.ref A, .ref PP, .ref C, .int d, .int ((t * kk : Nat) : Int)]) (ea_cons (ev_var rfl) (ea_cons (ev_var rfl) (ea_cons (ev_var rfl) (ea_cons (ev_var rfl) (ea_cons (ev_is (ev_op (ev_var rfl) (ev_var rfl) (rv_I (.inr ⟨by omega, by omega⟩))) (by rw [Int.natCast_mul])) ea_nil))))) fun H12 e12 => ?_
            have f812 := f810.trans (Frd.ex (e11.trans e12))
            have d12 := d10.ex (e11.trans e12)
            have hl12 : Lft C (c' - 1) (w' - t) H12 := f812 C _ hCA.1 hCA.2 hl8
            refine ⟨A, B, m10, PP, N, W, C, names, words, g, d, t * kk, c' - 1, w' - t, rfl, d12, by omega, hp8.frd f812, hC, hCA, hl12, by omega, by omega, fun v H13 m13 c3 w3 bb f13 d13 l9 l10 hl13 hb13 hv => ⟨by show 3 ≤ sizeLine; decide, fun p hp => ?_⟩⟩
            have eN : Ex H13 (upd H13 p (.tup [.str "repeat", .int kk, v])) := Ex.new hp
            have hps : (upd H13 p (.tup [.str "repeat", .int kk, v])) p = some (.tup [.str "repeat", .int kk, v]) := upd_same
            generalize (upd H13 p (.tup [.str "repeat", .int kk, v])) = H14 at *
            have f814 := ((Fr3.frd f812).trans f13).trans (Fr3.ex eN)
            have k814 := f814.keep d8 hl8
            refine fin _ _ _ _ _ (.rep kk bb) (.ref p) H14 m13 c3 w3 (f08.trans f814) (d13.ex eN) (by omega) (by omega) (eN C _ hl13) ?_ (f814 L _ hLn.1 hLn.2 hLC hL8) (keep_dpA k814 (noL_L b) hus8) ?_
            · have h1 := hb13.ht
              have h2 := hb13.cn
              have h3 := hb13.wt
              refine blk_add hb ⟨by omega, hb13.ok⟩ (by rw [htS]; omega) (by rw [cnS]; omega) ?_ fun x hx => ?_
              · rw [wtS, Nat.mul_add, Nat.mul_one, ← Nat.mul_assoc]
                omega
              · rw [flS] at hx
                exact hb13.wi x (by simpa [wishOf, wishes] using hx)
            · rw [encS]
              exact .tup (st_of hps) (.cons (.str _) (.cons (.int _) (.cons (same_dp eN hv) .nil)))
          · refine s_if (b := false) (et_test (ev_is (ev_op (ev_var rfl) ev_c (rv_eq rfl)) (congrArg V.bl (decide_eq_false fun z => hw5 (by have := V.int.inj z; omega))))) (fun h => Bool.noConfusion h) fun _ H9 e9 => ?_
            refine q_parCC ?_
            refine t_call (ea_cons (ev_var rfl) (ea_cons (ev_var rfl) ea_nil)) fun H10 e10 => ?_
            have e810 := e9.trans e10
            refine ⟨A, B, m4, PP, N, W, names, words, g, rfl, d8.ex e810, by omega, hp8.frd (Frd.ex e810), fun tv H11 m11 f11 d11 l7 l8 ⟨tt, htt, hdt⟩ => ?_⟩
            have f811 := (Frd.ex e810).trans f11
            refine t_call (vs := [.ref A, .ref PP, .ref C, .int d, .int t]) (ea_cons (ev_var rfl) (ea_cons (ev_var rfl) (ea_cons (ev_var rfl) (ea_cons (ev_var rfl) (ea_cons (ev_var rfl) ea_nil))))) fun H12 e12 => ?_
            have f812 := f811.trans (Frd.ex e12)
            have d12 := d11.ex e12
            have hl12 : Lft C (c' - 1) (w' - t) H12 := f812 C _ hCA.1 hCA.2 hl8
            refine ⟨A, B, m11, PP, N, W, C, names, words, g, d, t, c' - 1, w' - t, rfl, d12, by omega, hp8.frd f812, hC, hCA, hl12, by omega, by omega, fun yv H13 m13 c3 w3 yb f13 d13 l9 l10 hl13 hb13 hyv => ⟨tv, yv, rfl, ?_⟩⟩
            have f813 := (Fr3.frd f812).trans f13
            have hdt13 := keep_dp ((keep_ex e12).trans (f13.keep d12 hl12)) (noL_T tt) hdt
            have hL13 := f813 L _ hLn.1 hLn.2 hLC hL8
            refine s_appQ (K := K) (l := L) (xs := us) hL13 (ev_var rfl) fun H14 e14 => ?_
            refine ⟨_, rfl, _, rfl, ?_⟩
            refine t_call (vs := [.ref A, .ref PP, .ref C, .int d, .int t]) (ea_cons (ev_var rfl) (ea_cons (ev_var rfl) (ea_cons (ev_var rfl) (ea_cons (ev_var rfl) (ea_cons (ev_var rfl) ea_nil))))) fun H15 e15 => ?_
            have e1315 := e14.trans e15
            have f815 := f813.trans (Fr3.ex e1315)
            have d15 := d13.ex e1315
            have hl15 : Lft C c3 w3 H15 := e1315 C _ hl13
            have hcn13 := hb13.cn
            refine ⟨A, B, m13, PP, N, W, C, names, words, g, d, t, c3, w3, rfl, d15, by omega, hp8.fr3 hC f815, hC, hCA, hl15, by omega, by omega, fun nv H16 m16 c5 w5 nb f16 d16 l11 l12 hl16 hb16 hnv => ⟨by show 4 ≤ sizeLine; decide, fun p hp => ?_⟩⟩
            have k1316 := (keep_ex e1315).trans (f16.keep d15 hl15)
            have eN : Ex H16 (upd H16 p (.tup [.str "if", tv, yv, nv])) := Ex.new hp
            have hps : (upd H16 p (.tup [.str "if", tv, yv, nv])) p = some (.tup [.str "if", tv, yv, nv]) := upd_same
            generalize (upd H16 p (.tup [.str "if", tv, yv, nv])) = H17 at *
            have f817 := (f815.trans f16).trans (Fr3.ex eN)
            have k817 := f817.keep d8 hl8
            refine fin _ _ _ _ _ (.iff tt yb nb) (.ref p) H17 m16 c5 w5 (f08.trans f817) (d16.ex eN) (by omega) (by omega) (eN C _ hl16) ?_ (f817 L _ hLn.1 hLn.2 hLC hL8) (keep_dpA k817 (noL_L b) hus8) ?_
            · have h1 := hb13.ht
              have h2 := hb13.cn
              have h3 := hb13.wt
              have h4 := hb16.ht
              have h5 := hb16.cn
              have h6 := hb16.wt
              refine blk_add hb ⟨htt, hb13.ok, hb16.ok⟩ (by rw [htS]; omega) (by rw [cnS]; omega) ?_ fun x hx => ?_
              · rw [wtS, Nat.mul_add, Nat.mul_one, Nat.mul_add]
                omega
              · rw [flS, List.flatMap_cons, List.flatMap_append] at hx
                rcases List.mem_append.mp hx with hx | hx
                · simp [wishOf] at hx
                · rcases List.mem_append.mp hx with hx | hx
                  · exact hb13.wi x hx
                  · exact hb16.wi x hx
            · rw [encS]
              exact .tup (st_of hps) (.cons (.str _) (.cons (same_dp eN (keep_dp k1316 (noL_T tt) hdt13)) (.cons (same_dp eN (keep_dp k1316 (noL_B yb) hyv)) (.cons (same_dp eN hnv) .nil))))
      · refine s_when (b := false) ?_ (fun h => Bool.noConfusion h) fun _ H5 e5 => ?_
        · by_cases h0 : 0 < c'
          · exact et_and (a := true) (b := false) (et_is (et_test (ev_op (ev_atL 0 (ev_var rfl) (sq_of hl4)) ev_c rv_I0)) (decide_eq_true (by omega))) fun _ => et_is (et_test (ev_op (ev_atL 1 (ev_var rfl) (sq_of hl4)) (ev_var rfl) rv_I0)) (decide_eq_false (by omega))
          · exact et_and (a := false) (b := true) (et_is (et_test (ev_op (ev_atL 0 (ev_var rfl) (sq_of hl4)) ev_c rv_I0)) (decide_eq_false (by omega))) fun h => Bool.noConfusion h
        · show Pv (i + 1) _ _
          rw [hPv]
          exact ⟨_, _, _, _, _, us, m4, c', w', b, rfl, f04.trans (Fr3.ex e5), d4.ex e5, by omega, by rw [Nat.succ_mul]; omega, e5 C _ hl4, hb, e5 L _ hL4, same_dpAll e5 hus4⟩
    · rw [hPv] at q
      obtain ⟨x6, x7, x8, x9, x10, us, m', c', w', b, rfl, f3, d3, l3, l4, hl3, hb, hL3, hus⟩ := q
      have hiU : cn * U ≤ 31 * U := Nat.mul_le_mul_right U (by omega)
      exact s_retU (eu_tupOf (K := K) (ev_var rfl) (sq_of hL3)) fun p H4 hp e4 h4 => k (.ref p) H4 m' c' w' b (f3.trans (Fr3.ex e4)) (d3.ex e4) l3 (by omega) (e4 C _ hl3) hb (.tup (st_of h4) (same_dpAll e4 hus))
end
end K7
set_option maxHeartbeats 4000000
/-! _law_free, _law_blocks, _law_flat -/
namespace K7
open PySem PySem.Spec PyProof.Rows L2 Evl
theorem pe_isiK {X : Cx} (K : PySem.W.Frag) {e : Expr} {te : TE} {y : Str} {n : String} {p q pos : Pos} (hm : X.mg "isinstance" = none) (hy : X.mg y = none) (hb : bootBuiltins y = some (.type n)) (he : PE X e te) (hK : X.K = K := by rfl) (hg : Gl X "isinstance" := by rfl) (hgy : Gl X y := by rfl)
    (hn : y ≠ "__name__" := by decide +kernel) (hdb : (y == ("__debug__" : Str)) = false := by decide +kernel) (hs : starEach [e, .Name y q] X.env = (false, eval e X.env) :: starEach [.Name y q] X.env := by rfl)
    (hs2 : starEach [.Name y q] X.env = (false, eval (.Name y q) X.env) :: starEach [] X.env := by rfl) (hpl : (backTo pos (starEach [.Name y q] X.env)).any (·.1) = false := by rfl) :
    PE X (.Call (.Name "isinstance" p) [e, .Name y q] [] pos) (tCB (rIsiB K) (tCons te (tCons (tC (.ty n)) tNil))) := by
  subst hK
  exact pe_isi hm hy hb he hg hgy hn hdb hs hs2 hpl
section
variable {σ : L2.St} {H : Hp} {ts tr : TA} {xs : List V} {Q : List V → Hp → Prop}
theorem t_consLst (h : EvA ts σ H xs) (hl : xs.length ≤ 100000) (k : ∀ C H1, H1 C = none → Ex H H1 → tr σ (upd H1 C (.lst xs)) fun ys H2 => Q (.ref C :: ys) H2) : tCons (tLst ts) tr σ H Q := h H (Ex.refl H) _ fun H1 e1 => ⟨sz_of hl, fun C hC => k C H1 hC e1⟩
end
section
variable {P : Program} {w : World} {K : PySem.W.Frag} {mg : Str → Option Value} {base : Heap}
/-- a program that was drawn, with its pool -/
def FreeR (K : PySem.W.Frag) (A B : Addr) : V → Hp → Prop := fun v H => ∃ r pv PP N W names words g b, v = .ref r ∧ SqT K H r [pv, .ref PP] ∧ Dp K H pv (enc g b) ∧ Wd g b ∧ (∀ x ∈ wishes b, x ∈ words) ∧ Pl K A B PP N W names words g H
def spFree (K : PySem.W.Frag) : Sp := fun vs H Q _ => ∃ (A B : Addr) (m most : Nat), vs = [.ref A, .int most] ∧ Deck K A B m H ∧ m + (100 + cost 5) ≤ Lim ∧ most ≤ 30 ∧ DrR K A B m (100 + cost 5) (FreeR K A B) H Q
theorem ok_free (T : Txt w K mg) : FOk P w K mg base 16 "_law_free" (spFree K) := by
  have G__law_pool : FOk P w K mg base 4 "_law_pool" (spPool K) := ok_pool T
  have G__law_rows : FOk P w K mg base 15 "_law_rows" (spRows K 5) := ok_rows T 5
  refine fok T.f__law_free T.g__law_free sc__law_free (fun _ _ _ _ _ _ us hl => match us, hl with | [_, _], _ => rfl) (fun vs H Q E h => ?_) (fun cdv A outer s H vs Q E hr h => ?_)
  · obtain ⟨A, B, m, _, rfl, _⟩ := h
    rfl
  obtain ⟨A, B, m, most, rfl, hd, hm, h30, k⟩ := h
  have nd := sc__law_free.nd
  refine ⟨_, (pss_cons (ps_set (i := 2) nd rfl (Or.inl rfl) (pe_f G__law_pool (hr.mono (by omega)) (pa_cons (pv 0) pa_nil))) (pss_one (ps_ret (pe_tup (pa_cons (pe_tup (pa_cons (pe_ix ix_list (pv 2) pe_int (fun _ _ => rfl)) (pa_cons (pe_f G__law_rows (hr.mono (by omega)) (pa_cons (pv 0) (pa_cons (pv 2) (pa_cons (pe_lst (pa_cons (pv 1) (pa_cons pe_int pa_nil))) (pa_cons pe_int (pa_cons pe_int pa_nil)))))) pa_nil))) (pa_cons (pv 2) pa_nil)))))), ?_⟩
  refine q_asgC (vs := [.ref A]) (ea_cons (ev_var rfl) ea_nil) fun H1 e1 => ⟨A, B, m, rfl, hd.ex e1, by omega, fun v H2 m2 f2 d2 l1 l2 ⟨PP, N, W, names, words, g, ev, hp⟩ => ?_⟩
  subst ev
  have hgv : Ev (tOp (rIxL K) (tVar 2) (tC (.int 2))) [some (.ref A), some (.int most), some (.ref PP)] H2 (.int g) := ev_atL 2 (ev_var rfl) (sq_of hp.p)
  refine hgv H2 (Ex.refl H2) _ fun H3 e3 => ?_
  refine ⟨_, rfl, _, rfl, ?_⟩
  refine t_consLst (xs := [.int most, .int 200]) (ea_cons (ev_var rfl) (ea_cons ev_c ea_nil)) (by show 2 ≤ 100000; decide) fun C H4 hC e4 => ?_
  have e24 := e3.trans e4
  have eC : Ex H4 (upd H4 C (.lst [.int (most : Int), .int ((200 : Nat) : Int)])) := Ex.new hC
  have hl : Lft C most 200 (upd H4 C (.lst [.int (most : Int), .int ((200 : Nat) : Int)])) := upd_same
  have hp4 := hp.frd (Frd.ex e24)
  have hCn := fresh_ne (d2.ex e24) hC
  have hCP : C ≠ PP ∧ C ≠ N ∧ C ≠ W := ⟨(ne_of_none hp4.p hC).symm, (ne_of_none hp4.n hC).symm, (ne_of_none hp4.w hC).symm⟩
  have e25 := e24.trans eC
  have hC2 : H2 C = none := fresh_back e24 hC
  show spRows K 5 [.ref A, .ref PP, .ref C, .int ((0 : Nat) : Int), .int ((1 : Nat) : Int)] (upd H4 C (.lst [.int (most : Int), .int ((200 : Nat) : Int)])) _ E0
  generalize upd H4 C (.lst [.int (most : Int), .int ((200 : Nat) : Int)]) = H5 at *
  refine ⟨A, B, m2, PP, N, W, C, names, words, g, 0, 1, most, 200, rfl, d2.ex e25, by omega, hp.frd (Frd.ex e25), hCP, hCn, hl, by omega, by omega, by omega, fun v H6 m6 c' w' b f6 d6 l3 l4 hl6 hb hv => ⟨by show 2 ≤ sizeLine; decide, fun p hp6 => ?_⟩⟩
  have f26 : Frd A B H2 H6 := fun x o n1 n2 hx => f6 x o n1 n2 (ne_of_none hx hC2) (e25 x o hx)
  have eN : Ex H6 (upd H6 p (.tup [.int g, v])) := Ex.new hp6
  have hps : (upd H6 p (.tup [.int g, v])) p = some (.tup [.int g, v]) := upd_same
  generalize (upd H6 p (.tup [.int g, v])) = H7 at *
  refine ⟨_, rfl, by show 2 ≤ sizeLine; decide, fun r hr7 => ?_⟩
  have eM : Ex H7 (upd H7 r (.tup [.ref p, .ref PP])) := Ex.new hr7
  have hrs : (upd H7 r (.tup [.ref p, .ref PP])) r = some (.tup [.ref p, .ref PP]) := upd_same
  generalize (upd H7 r (.tup [.ref p, .ref PP])) = H8 at *
  have e68 := eN.trans eM
  have h1 := hb.cn
  have h2 := hb.wt
  exact k _ H8 m6 ((Frd.ex e1).trans (f2.trans (f26.trans (Frd.ex e68)))) (d6.ex e68) (by omega) (by omega) ⟨r, .ref p, PP, N, W, names, words, g, b, rfl, st_of hrs, .tup (st_of (eM p _ hps)) (.cons (.int _) (.cons (same_dp e68 hv) .nil)),
    ⟨by have := hp.g4; omega, hb.ok, hb.ht, by omega, by omega, words, hp.wl.2, hb.wi⟩, hb.wi, hp.frd (f26.trans (Frd.ex e68))⟩
/-! ### _law_blocks -/
section
variable {σ : L2.St} {H H' : Hp} {te tl : TE} {tt : TT} {R : V → Hp → Prop}
/-- [e for x in tuple if ..], the tuple some value of R, the test true of each -/
theorem elp_lcTt {j : Nat} {vs : List Nat} {S : List V → Hp → Prop} (h : EvP tl σ H R) (hw : ∀ x, wipe ((wipe σ vs).set j (some x)) vs = wipe σ vs)
    (hR : ∀ v H1, Ex H H1 → R v H1 → ∃ (a : Addr) (xs vals : List V), v = .ref a ∧ SqT K H1 a xs ∧ xs.length = vals.length ∧ vals.length ≤ 40000 ∧ (∀ (i : Nat) (x y : V), xs[i]? = some x → vals[i]? = some y → EvT tt ((wipe σ vs).set j (some x)) H1 true ∧ Ev te ((wipe σ vs).set j (some x)) H1 y) ∧ ∀ H2, Ex H1 H2 → S vals H2) :
    EvLP (tLc (iTup K tl) (gName j) tt te vs) σ H S := fun H0 e Q q => h H0 e _ fun v H1 e1 hr => by
  obtain ⟨a, xs, vals, rfl, hs, hl, hz, he, hS⟩ := hR v H1 (e.trans e1) hr
  refine ⟨a, rfl, ⟨xs, hs⟩, fun Dl hD => ?_⟩
  refine lc_it (te := te) (tt := tt) (g := gName j) (vs := vs) (σ := σ) (walk_tup (xs := xs)) (fun i H' => H1 Dl = none ∧ Ex H1 H' ∧ H' Dl = some (.lst (vals.take i))) ⟨hD, Ex.new hD, upd_same⟩ (fun i H' _ hP => ex_t hP.2.1 hs) (fun i x H2 H3 hi hP y => ?_) (fun H2 hP => ?_)
  · obtain ⟨hd, hex, hlst⟩ := hP
    obtain ⟨rfl, hx⟩ := y
    have hi2 : i < vals.length := by omega
    obtain ⟨h1, h2⟩ := he i x vals[i] hx (List.getElem?_eq_getElem hi2)
    refine ⟨hw _, ?_⟩
    refine h1 _ hex _ fun H4 e4 => ?_
    show te _ H4 _
    refine h2 _ (hex.trans e4) _ fun H5 e5 => ⟨_, e5 Dl _ (e4 Dl _ hlst), sz_lt (by rw [List.length_take]; omega), hd, Ex.mut ((hex.trans e4).trans e5) hd, ?_⟩
    rw [upd_same, List.take_add_one, List.getElem?_eq_getElem hi2]
    rfl
  · rw [hl, List.take_length] at hP
    exact q Dl H2 _ (fresh_back e1 hP.1) (e1.trans hP.2.1) hP.2.2 (hS H2 hP.2.1)
theorem elp_if {ta tb : TE} {S : List V → Hp → Prop} {b : Bool} (h : EvT tt σ H b) (h1 : b = true → EvLP ta σ H S) (h2 : b = false → EvLP tb σ H S) : EvLP (tIf tt ta tb) σ H S := fun H1 e Q q => h H1 e _ fun H2 e2 => by
  cases b with
  | true =>
    show ta σ H2 Q
    exact h1 rfl H2 (e.trans e2) Q fun p H3 xs hp e3 => q p H3 xs (fresh_back e2 hp) (e2.trans e3)
  | false =>
    show tb σ H2 Q
    exact h2 rfl H2 (e.trans e2) Q fun p H3 xs hp e3 => q p H3 xs (fresh_back e2 hp) (e2.trans e3)
theorem elp_of {xs : List V} {S : List V → Hp → Prop} (h : EvL te σ H xs) (hS : ∀ H1, Ex H H1 → S xs H1) : EvLP te σ H S := fun H1 e Q q => h H1 e Q fun p H2 hp e2 h2 => q p H2 xs hp e2 h2 (hS H2 (e.trans e2))
end
def spLBlocks (K : PySem.W.Frag) : Sp := fun vs H Q _ => ∃ (v : V) (s : Stm), vs = [v] ∧ Dp K H v (encS s) ∧ RetLP (fun xs H' => DpAll K H' xs (encBs s)) H Q
theorem ok_blocksL (T : Txt w K mg) : FOk P w K mg base 1 "_law_blocks" (spLBlocks K) := by
  refine fok T.f__law_blocks T.g__law_blocks sc__law_blocks (fun _ _ _ _ _ _ us hl => match us, hl with | [_], _ => rfl) (fun vs H Q E h => ?_) (fun cdv A outer s H vs Q E hr h => ?_)
  · obtain ⟨v, s, rfl, _⟩ := h
    rfl
  obtain ⟨v, st, rfl, hd, k⟩ := h
  have nd := sc__law_blocks.nd
  refine ⟨_, (pss_cons (ps_set (i := 1) nd rfl (Or.inl rfl) (pe_and (pe_isi T.z_isinstance T.z_tuple boot_tupleT (pv 0)) (pe_and (pe_cmpR op_gt (pe_callB call_len_seq (by rfl) T.z_len PySem.boot_len (pa_cons (pv 0) pa_nil)) pe_int (nomark _)) (pe_one (pe_or (pe_cmpR op_eq (pe_ix ix_tup (pv 0) pe_int (fun _ _ => rfl)) pe_str (nomark _)) (pe_one (pe_cmpR op_eq (pe_ix ix_tup (pv 0) pe_int (fun _ _ => rfl)) pe_str (nomark _)))))))) (pss_one (ps_ret (pe_ifExp (pt_val (pv 1)) (pe_lc (own := [("_law_part", 2)]) (g := gName 2) rfl nd (pi_tup (pe_slice sl_tupA (pv 0) (po_some pe_int) po_none)) (blkOk_by (own := [("_law_part", 2)]) (N := N__law_blocks) (sc := defScope s__law_blocks) (by decide +kernel)) (fun _ _ _ _ _ => (pg_name (i := 2) nd rfl (Or.inl rfl))) (fun _ _ _ _ _ => (pts_one (pt_val (pe_isiK K T.z_isinstance T.z_tuple boot_tupleT (pv 2))))) (fun _ _ _ _ _ => (pv 2))) (pe_lst pa_nil))))), ?_⟩
  have hcomp : ∀ (a : Addr) (x0 x1 : V) (bs : List V), SqT K H a (x0 :: x1 :: bs) → DpAll K H bs (encBs st) → ∀ H1, Ex H H1 →
      EvLP (tLc (iTup K (tSl (rSlA K) (tVar 0) (tPart (tC (.int 2))) tNoPart)) (gName 2) (tB (tCB (rIsiB K) (tCons (tVar 2) (tCons (tC (.ty "tuple")) tNil)))) (tVar 2) [2]) [some (.ref a), some (.bl true), none] H1 (fun xs H' => DpAll K H' xs (encBs st)) := fun a x0 x1 bs hs hbs H1 e1 => by
    refine elp_lcTt (K := K) (ep_slT (ev_var rfl) (eo_some ev_c) eo_none (ex_t e1 hs)) (fun _ => rfl) fun v H2 e2 hv => ?_
    rw [cut2] at hv
    obtain ⟨p, rfl, hps⟩ := hv
    have hbs2 := same_dpAll (e1.trans e2) hbs
    refine ⟨p, bs, bs, rfl, hps, rfl, ?_, fun i x y hx hy => ?_, fun H3 e3 => same_dpAll e3 hbs2⟩
    · rw [dpAll_len hbs]
      unfold encBs
      rw [List.length_map]
      cases st <;> simp [blocks]
    · have exy : x = y := Option.some.inj (hx.symm.trans hy)
      subst exy
      obtain ⟨d, hd1, hd2⟩ := dpAll_get hbs2 hx
      unfold encBs at hd1
      rw [List.getElem?_map] at hd1
      obtain ⟨c, hc, rfl⟩ := Option.map_eq_some_iff.mp hd1
      obtain ⟨ca, cx, rfl, hcs, _⟩ := dp_tup hd2
      exact ⟨et_B (ev_isTup (ev_var rfl) hcs), ev_var rfl⟩
  cases st with
  | iff t y n =>
    obtain ⟨a, u, b, c, rfl, hs, hu, hb, hc⟩ := dp_iff hd
    refine q_asg (v := .bl true) (ev_andV (a := true) (b := true) (ev_isTup (ev_var rfl) hs) fun _ => ev_andV (a := true) (b := true) (ev_is (ev_op (ev_lenT (ev_var rfl) hs) ev_c rv_I0) (show V.bl (decide ((2 : Int) < 4)) = V.bl true by decide +kernel)) fun _ => ev_orV (a := true) (b := true) (ev_eqY (ev_at 0 (ev_var rfl) hs) ev_c rfl) fun h => Bool.noConfusion h) fun H1 e1 => ?_
    exact s_retLP (elp_if (b := true) (et_B (ev_var rfl)) (fun _ => hcomp a _ _ _ hs (.cons hb (.cons hc .nil)) H1 e1) fun h => Bool.noConfusion h) fun p H2 xs hp e2 h2 hr => k p H2 xs (fresh_back e1 hp) (e1.trans e2) h2 hr
  | rep kk y =>
    obtain ⟨a, b, rfl, hs, hb⟩ := dp_rep hd
    refine q_asg (v := .bl true) (ev_andV (a := true) (b := true) (ev_isTup (ev_var rfl) hs) fun _ => ev_andV (a := true) (b := true) (ev_is (ev_op (ev_lenT (ev_var rfl) hs) ev_c rv_I0) (show V.bl (decide ((2 : Int) < 3)) = V.bl true by decide +kernel)) fun _ => ev_orV (a := false) (b := true) (ev_eqN (ev_at 0 (ev_var rfl) hs) ev_c (by decide +kernel)) fun _ => ev_eqY (ev_at 0 (ev_var rfl) hs) ev_c rfl) fun H1 e1 => ?_
    exact s_retLP (elp_if (b := true) (et_B (ev_var rfl)) (fun _ => hcomp a _ _ _ hs (.cons hb .nil) H1 e1) fun h => Bool.noConfusion h) fun p H2 xs hp e2 h2 hr => k p H2 xs (fresh_back e1 hp) (e1.trans e2) h2 hr
  | pln p =>
    obtain ⟨a, kw, r, rfl, hs, hk1, hk2⟩ : ∃ a kw r, v = .ref a ∧ SqT K H a (.str kw :: r) ∧ kw ≠ "if" ∧ kw ≠ "repeat" := by
      rw [encS] at hd
      obtain ⟨a, u, rfl, hs, _⟩ := dp_pln hd
      cases p <;> exact ⟨a, _, _, rfl, hs, by decide +kernel, by decide +kernel⟩
    refine q_asg (v := .bl false) (ev_is (ev_andV (a := true) (b := false) (ev_isTup (ev_var rfl) hs) fun _ => ev_is (ev_andV (a := decide ((2 : Int) < ((V.str kw :: r).length : Int))) (b := false) (ev_op (ev_lenT (ev_var rfl) hs) ev_c rv_I0) fun _ => ev_orV (a := false) (b := false) (ev_eqN (ev_at 0 (ev_var rfl) hs) ev_c hk1) fun _ => ev_eqN (ev_at 0 (ev_var rfl) hs) ev_c hk2) (congrArg V.bl (Bool.and_false _))) rfl) fun H1 e1 => ?_
    exact s_retLP (elp_if (b := false) (et_B (ev_var rfl)) (fun h => Bool.noConfusion h) fun _ => elp_of (el_lst ea_nil (by decide)) fun _ _ => .nil) fun p H2 xs hp e2 h2 hr => k p H2 xs (fresh_back e1 hp) (e1.trans e2) h2 hr
end
end K7
set_option maxHeartbeats 4000000
/-! _law_flat, _law_put -/
namespace K7
open PySem PySem.Spec PyProof.Rows L2 Evl
section
variable {K : PySem.W.Frag} {σ : L2.St} {H H' : Hp} {ta tb te tl : TE} {R : List V → Hp → Prop} {D : Ends} {tu tz : TS}
theorem s_forLP {j : Nat} (h : EvLP tl σ H R) (hR : ∀ p xs H1, H p = none → Ex H H1 → H1 p = some (.lst xs) → R xs H1 → ∃ Pv : Nat → L2.St → Hp → Prop, Pv 0 σ H1 ∧ (∀ i σ' H', i ≤ xs.length → Pv i σ' H' → SqL K H' p xs) ∧
      (∀ (i : Nat) (x : V) (σ' : L2.St) (H' : Hp), xs[i]? = some x → Pv i σ' H' → tu { D with nx := Pv (i + 1), ct := Pv (i + 1), bk := D.nx } (σ'.set j (some x)) H') ∧ ∀ σ' H', Pv xs.length σ' H' → D.nx σ' H') : tFor (iList K tl) (gName j) tu D σ H :=
  h H (Ex.refl H) _ fun p H1 xs hp e hs hr => by
    obtain ⟨Pv, h0, hk, hb, hd⟩ := hR p xs H1 hp e hs hr
    exact ⟨p, rfl, ⟨xs, sq_of hs⟩, for_list (xs := xs) Pv h0 hk hb hd⟩
theorem q_forLP {j : Nat} (h : EvLP tl σ H R) (hR : ∀ p xs H1, H p = none → Ex H H1 → H1 p = some (.lst xs) → R xs H1 → ∃ Pv : Nat → L2.St → Hp → Prop, Pv 0 σ H1 ∧ (∀ i σ' H', i ≤ xs.length → Pv i σ' H' → SqL K H' p xs) ∧
      (∀ (i : Nat) (x : V) (σ' : L2.St) (H' : Hp), xs[i]? = some x → Pv i σ' H' → tu { D with nx := Pv (i + 1), ct := Pv (i + 1), bk := tz D } (σ'.set j (some x)) H') ∧ ∀ σ' H', Pv xs.length σ' H' → tz D σ' H') : tSeq (tFor (iList K tl) (gName j) tu) tz D σ H := s_forLP (D := { D with nx := tz D }) h hR
/-- L + new list -/
theorem elp_catV {i : Nat} {L : Addr} {xs : List V} {S : List V → Hp → Prop} (hi : σ[i]? = some (some (.ref L))) (hL : H L = some (.lst xs)) (h : EvLP tb σ H R) (hz : ∀ ys H1, R ys H1 → xs.length + ys.length ≤ 100000) (hS : ∀ ys H1 H2, Ex H H1 → R ys H1 → Ex H1 H2 → S (xs ++ ys) H2) : EvLP (tOp rCat (tVar i) tb) σ H S := fun H1 e Q q =>
  ⟨_, hi, h H1 e _ fun p H2 ys hp e2 h2 hr => ⟨L, p, xs, ys, rfl, rfl, e2 L _ (e L _ hL), h2, sz_of (hz ys H2 hr), fun o ho => q o _ _ (fresh_back e2 ho) (e2.trans (Ex.new ho)) upd_same (hS ys H2 _ (e.trans e2) hr (Ex.new ho))⟩⟩
theorem ev_lenLP {n : Nat} (h : EvLP te σ H R) (hn : ∀ xs H1, R xs H1 → xs.length = n) : Ev (tCB (rLenS K) (tCons te tNil)) σ H (.int n) := fun H1 e Q q => h H1 e _ fun p H2 xs hp e2 h2 hr => ⟨p, xs, rfl, .inl (sq_of h2), by rw [hn xs H2 hr]; exact q H2 e2⟩
theorem elp_callU {sp : Sp} {c : V} {xs : List V} (h : EvU te σ H xs) (hs : ∀ p H1, Ex H H1 → H1 p = some (.tup xs) → SpLP sp [.ref p, c] H1 R) : EvLP (tCall sp [] E0 (tCons te (tCons (tC c) tNil))) σ H R := fun H1 e Q q =>
  h H1 e _ fun p H2 hp e2 h2 => hs p H2 (e.trans e2) h2 H2 (Ex.refl H2) Q (fun r H3 ys hr e3 h3 r3 => q r H3 ys (fresh_back e2 hr) (e2.trans e3) h3 r3) E0
end
section
variable {P : Program} {w : World} {K : PySem.W.Frag} {mg : Str → Option Value} {base : Heap}
theorem Prs.ex {H H' : Hp} {l : List (Nat × Stm)} {xs : List V} (h : Prs K l xs H) (e : Ex H H') : Prs K l xs H' := h.keep (keep_ex e)
def spFlat (K : PySem.W.Frag) (n : Nat) : Sp := fun vs H Q _ => ∃ (v : V) (d : Nat) (b : List Stm), vs = [v, .int d] ∧ Dp K H v (.tuple (encL b)) ∧ htL b < n ∧ cnL b ≤ 1000 ∧ RetLP (Prs K (dfL d b)) H Q
theorem ok_flat (T : Txt w K mg) : ∀ n : Nat, FOk P w K mg base (n + 2) "_law_flat" (spFlat K n)
  | 0 => fok_none T.f__law_flat T.g__law_flat (ps := ["_law_block", "_law_depth"]) (fun _ _ _ _ _ _ us hl => match us, hl with | [_, _], _ => rfl) (fun vs H Q E ⟨v, d, b, _, _, h, _⟩ => by omega) _
  | n + 1 => by
    have G__law_blocks : FOk P w K mg base 1 "_law_blocks" (spLBlocks K) := ok_blocksL T
    have G__law_flat : FOk P w K mg base (n + 2) "_law_flat" (spFlat K n) := ok_flat T n
    refine fok T.f__law_flat T.g__law_flat sc__law_flat (fun _ _ _ _ _ _ us hl => match us, hl with | [_, _], _ => rfl) (fun vs H Q E h => ?_) (fun cdv A outer s H vs Q E hr h => ?_)
    · obtain ⟨v, _, _, rfl, _⟩ := h
      rfl
    obtain ⟨v, d, b, rfl, hd, hht, hcn, k⟩ := h
    have nd := sc__law_flat.nd
    refine ⟨_, (pss_cons (ps_set (i := 2) nd rfl (Or.inl rfl) (pe_lst pa_nil)) (pss_cons (ps_for PassesOwn.never rfl (pi_tup (pv 0)) (pg_name (i := 3) nd rfl (Or.inl rfl)) (pss_cons (ps_expr (pe_bm PySem.F.plainAttrs_list PySem.F.slot_list_append PySem.F.type_list_append mt_append (pv 2) (pa_cons (pe_tup (pa_cons (pv 1) (pa_cons (pv 3) pa_nil))) pa_nil))) (pss_one (ps_for PassesOwn.never rfl (pi_list (pe_f G__law_blocks (hr.mono (by omega)) (pa_cons (pv 3) pa_nil))) (pg_name (i := 4) nd rfl (Or.inl rfl)) (pss_one (ps_set (i := 2) nd rfl (Or.inl rfl) (pe_op op_cat (pv 2) (pe_f G__law_flat (hr.mono (by omega)) (pa_cons (pv 4) (pa_cons (pe_op op_add (pv 1) pe_int) pa_nil)))))))))) (pss_one (ps_ret (pv 2))))), ?_⟩
    obtain ⟨a, xs, rfl, hs, hxs⟩ := dp_tup hd
    have hlen : xs.length = b.length := by rw [dpAll_len hxs, encL_map, List.length_map]
    refine q_asgL (el_lst ea_nil (by decide)) fun L0 H1 hL0 e1 hL1 => ?_
    refine q_forT (K := K) (a := a) (xs := xs) (ev_var rfl) (ex_t e1 hs) (fun i σ' H' => ∃ L ps x y, σ' = [some (.ref a), some (.int d), some (.ref L), x, y] ∧ Ex H H' ∧ H L = none ∧ H' L = some (.lst ps) ∧ Prs K (dfL d (b.take i)) ps H')
      (fun H2 e2 => ⟨L0, [], none, none, rfl, e1.trans e2, hL0, e2 L0 _ hL1, by rw [List.take_zero, dfL]; exact .nil⟩) (fun i σ' H' _ ⟨_, _, x, y, _, e, _⟩ => ex_t e hs) (fun i x σ' H' hi p => ?_) (fun σ' H' p => ?_)
    · obtain ⟨L, ps, x0, y0, rfl, e, hL, hLs, hps⟩ := p
      obtain ⟨st, hst, hx⟩ := stm_at hxs hi
      have hcS := get_cn hst
      have hpl := hps.len
      rw [dfL_len] at hpl
      have hx2 := same_dp e hx
      refine q_appU (K := K) (l := L) (xs := ps) (ys := [.int d, x]) hLs (ev_var rfl) (eu_tup (ea_cons (ev_var rfl) (ea_cons (ev_var rfl) ea_nil)) (by show 2 ≤ 100000; decide)) (by omega) fun tp H3 htp e3 h3 => ?_
      have eU : Ex H (upd H3 L (.lst (ps ++ [.ref tp]))) := Ex.mut (e.trans e3) hL
      have kU : Keep H3 (upd H3 L (.lst (ps ++ [.ref tp]))) := keep_upd (e3 L _ hLs)
      have hq : Prs K (dfL d (b.take i) ++ [(d, st)]) (ps ++ [.ref tp]) (upd H3 L (.lst (ps ++ [.ref tp]))) := (((hps.keep (keep_ex e3)).keep kU)).app (.cons (.tup (st_of ((kU tp).1 _ h3)) (.cons (.int _) (.cons (keep_dp kU (noL_S st) (same_dp e3 hx2)) .nil))) .nil)
      have hU : (upd H3 L (.lst (ps ++ [.ref tp]))) L = some (.lst (ps ++ [.ref tp])) := upd_same
      have hpl2 : (ps ++ [V.ref tp]).length = cnL (b.take i) + 1 := by rw [List.length_append, hpl]; rfl
      generalize upd H3 L (.lst (ps ++ [.ref tp])) = H4 at *
      generalize ps ++ [V.ref tp] = ps4 at *
      have hx5 := same_dp eU hx
      refine s_forLP (R := fun us H' => DpAll K H' us (encBs st)) (elp_call (ea_cons (ev_var rfl) ea_nil) fun H6 e6 Q' q E' => ⟨x, st, rfl, same_dp e6 hx5, q⟩) fun bp bxs H6 hbp e6 hb6 hbx => ?_
      have e06 := eU.trans e6
      have hbl : bxs.length = (blocks st).length := by rw [dpAll_len hbx]; simp [encBs]
      have hcn2 := cn_blocks st
      refine ⟨fun j σ' H' => ∃ M qs y, σ' = [some (.ref a), some (.int d), some (.ref M), some x, y] ∧ Ex H6 H' ∧ H M = none ∧ H' M = some (.lst qs) ∧ Prs K (dfL d (b.take i) ++ [(d, st)] ++ ((blocks st).take j).flatMap (dfL (d + 1))) qs H' ∧ qs.length = cnL (b.take i) + 1 + (((blocks st).take j).map cnL).sum,
        ⟨L, ps4, _, rfl, Ex.refl _, hL, e6 L _ hU, by rw [List.take_zero, List.flatMap_nil, List.append_nil]; exact hq.ex e6, hpl2⟩, fun j σ' H' hj p => ?_, fun j u σ' H' hu p => ?_, fun σ' H' p => ?_⟩
      · obtain ⟨M, qs, y1, rfl, e7, _⟩ := p
        exact sq_of (e7 bp _ hb6)
      · obtain ⟨M, qs, y1, rfl, e7, hM, hqs, hPq, hql⟩ := p
        obtain ⟨c, hc, hdc⟩ := blk_at hbx hu
        have hmem := List.mem_of_getElem? hc
        have hsum : (((blocks st).take (j + 1)).map cnL).sum = (((blocks st).take j).map cnL).sum + cnL c := by
          rw [List.take_add_one, hc, List.map_append, List.sum_append]
          simp
        have hle : (((blocks st).take (j + 1)).map cnL).sum ≤ ((blocks st).map cnL).sum := by
          conv => rhs; rw [← List.take_append_drop (j + 1) (blocks st), List.map_append, List.sum_append]
          omega
        have htb := ht_blocks c hmem
        have hdc7 := same_dp e7 hdc
        refine s_asgLP (R := fun zs H' => Prs K (dfL d (b.take i) ++ [(d, st)] ++ ((blocks st).take (j + 1)).flatMap (dfL (d + 1))) zs H' ∧ zs.length = cnL (b.take i) + 1 + (((blocks st).take (j + 1)).map cnL).sum) (elp_catV (L := M) (xs := qs) (R := Prs K (dfL (d + 1) c)) rfl hqs (elp_call (ea_cons (ev_var rfl) (ea_cons (ev_op (ev_var rfl) ev_c rv_I0) ea_nil)) fun H8 e8 Q' q E' => ⟨u, d + 1, c, rfl, same_dp e8 hdc7, by omega, by omega, q⟩) (fun ys H8 hy => by have := hy.len; rw [dfL_len] at this; omega) fun ys H8 H9 e8 hy e9 => ?_) fun o H8 zs ho e8 h8 hz => ?_
        · have hyl := hy.len
          rw [dfL_len] at hyl
          refine ⟨?_, by rw [List.length_append, hsum]; omega⟩
          rw [List.take_add_one, hc, List.flatMap_append, ← List.append_assoc]
          exact (hPq.ex (e8.trans e9)).app (by simpa using hy.ex e9)
        · exact ⟨o, zs, _, rfl, e7.trans e8, fresh_back (e06.trans e7) ho, h8, hz.1, hz.2⟩
      · obtain ⟨M, qs, y1, rfl, e7, hM, hqs, hPq, hql⟩ := p
        refine ⟨M, qs, _, _, rfl, e06.trans e7, hM, hqs, ?_⟩
        rw [hbl, List.take_length] at hPq
        rw [dfL_take hst, dfS_eq]
        simpa using hPq
    · obtain ⟨L, ps, x0, y0, rfl, e, hL, hLs, hps⟩ := p
      rw [hlen, List.take_length] at hps
      exact s_ret (ev_var rfl) fun H2 e2 => k L H2 ps hL (e.trans e2) (e2 L _ hLs) (hps.ex e2)
/-! ### _law_put -/
structure Put (g : Nat) (p : Pln) (b b' : List Stm) : Prop where
  ok : okL g b'
  ht : htL b' ≤ htL b
  cn : cnL b' ≤ cnL b
  wt : wtL b' ≤ wtL b
  wi : ∀ x ∈ wishes b', x ∈ wishes b ∨ x ∈ wishOf (.pln p)
theorem put_nil {g : Nat} {p : Pln} : Put g p [] [] := ⟨trivial, Nat.le_refl _, Nat.le_refl _, Nat.le_refl _, fun x h => .inl h⟩
theorem wishes_app (b c : List Stm) : wishes (b ++ c) = wishes b ++ wishes c := by
  unfold wishes
  rw [flL_append, List.flatMap_append]
theorem wishes_one (s : Stm) : wishes [s] = (flS s).flatMap wishOf := by
  unfold wishes
  rw [flL, flL, List.append_nil]
theorem put_add {g : Nat} {p : Pln} {b b' : List Stm} {s s' : Stm} (h : Put g p b b') (hs : okS g s') (h1 : htS s' ≤ htS s) (h2 : cnS s' ≤ cnS s) (h3 : wtS s' ≤ wtS s) (h4 : ∀ x ∈ wishes [s'], x ∈ wishes [s] ∨ x ∈ wishOf (.pln p)) : Put g p (b ++ [s]) (b' ++ [s']) := by
  have a := h.ht
  have c := h.cn
  have d := h.wt
  refine ⟨okL_append h.ok ⟨hs, trivial⟩, ?_, ?_, ?_, fun x hx => ?_⟩
  · rw [htL_append, htL_append, htL, htL, htL, htL]
    omega
  · rw [cnL_append, cnL_append, cnL, cnL, cnL, cnL]
    omega
  · rw [wtL_append, wtL_append, wtL, wtL, wtL, wtL]
    omega
  · rw [wishes_app] at hx ⊢
    rcases List.mem_append.mp hx with hx | hx
    · exact (h.wi x hx).imp (List.mem_append_left _) id
    · exact (h4 x hx).imp (List.mem_append_right _) id
theorem le_sum_mem : ∀ {l : List Nat} {x : Nat}, x ∈ l → x ≤ l.sum
  | [], _, h => by cases h
  | a :: r, x, h => by
    rw [List.sum_cons]
    rcases List.mem_cons.mp h with rfl | h
    · omega
    · have := le_sum_mem (l := r) h
      omega
def PutS (g : Nat) (p : Pln) (s s' : Stm) : Prop := okS g s' ∧ htS s' ≤ htS s ∧ cnS s' ≤ cnS s ∧ wtS s' ≤ wtS s ∧ ∀ x ∈ wishes [s'], x ∈ wishes [s] ∨ x ∈ wishOf (.pln p)
def Puts (g : Nat) (p : Pln) : List (List Stm) → List (List Stm) → Prop
  | [], [] => True
  | b :: r, c :: q => Put g p b c ∧ Puts g p r q
  | _, _ => False
theorem puts_add {g : Nat} {p : Pln} {b c : List Stm} (h : Put g p b c) : ∀ {r q : List (List Stm)}, Puts g p r q → Puts g p (r ++ [b]) (q ++ [c])
  | [], [], _ => ⟨h, trivial⟩
  | _ :: r, _ :: q, h2 => ⟨h2.1, puts_add h (r := r) (q := q) h2.2⟩
  | [], _ :: _, h2 => h2.elim
  | _ :: _, [], h2 => h2.elim
theorem wt1 : ∀ s : Stm, 1 ≤ wtS s := fun s => by cases s <;> simp [wtS]
theorem ht1 : ∀ s : Stm, 1 ≤ htS s := fun s => by cases s <;> simp [htS]
theorem putS_row {g : Nat} {p : Pln} {s : Stm} (hp : p.ok g) : PutS g p s (.pln p) := ⟨hp, by have := ht1 s; rw [htS]; omega, by have := cn1 s; rw [cnS]; omega, by have := wt1 s; rw [wtS]; omega, fun x hx => .inr (by
  rw [wishes_one, flS] at hx
  simpa using hx)⟩
theorem putS_same {g : Nat} {p : Pln} {s : Stm} (hs : okS g s) : PutS g p s s := ⟨hs, Nat.le_refl _, Nat.le_refl _, Nat.le_refl _, fun x hx => .inl hx⟩
theorem wishes_iff (t : Tst) (y n : List Stm) : wishes [.iff t y n] = wishes y ++ wishes n := by
  rw [wishes_one, flS]
  simp [wishOf, wishes]
theorem wishes_rep (k : Nat) (b : List Stm) : wishes [.rep k b] = wishes b := by
  rw [wishes_one, flS]
  simp [wishOf, wishes]
theorem putS_iff {g : Nat} {p : Pln} {t : Tst} {y n y' n' : List Stm} (ht : t.ok g) (h1 : Put g p y y') (h2 : Put g p n n') : PutS g p (.iff t y n) (.iff t y' n') := by
  have a := h1.ht
  have b := h2.ht
  have c := h1.cn
  have d := h2.cn
  have e := h1.wt
  have f := h2.wt
  refine ⟨⟨ht, h1.ok, h2.ok⟩, by rw [htS, htS]; omega, by rw [cnS, cnS]; omega, by rw [wtS, wtS]; omega, fun x hx => ?_⟩
  rw [wishes_iff] at hx ⊢
  rcases List.mem_append.mp hx with hx | hx
  · exact (h1.wi x hx).imp (List.mem_append_left _) id
  · exact (h2.wi x hx).imp (List.mem_append_right _) id
theorem putS_rep {g : Nat} {p : Pln} {k : Nat} {b b' : List Stm} (hk : k ≤ 12) (h1 : Put g p b b') : PutS g p (.rep k b) (.rep k b') := by
  have a := h1.ht
  have c := h1.cn
  have e := Nat.mul_le_mul_left k h1.wt
  refine ⟨⟨hk, h1.ok⟩, by rw [htS, htS]; omega, by rw [cnS, cnS]; omega, by rw [wtS, wtS]; omega, fun x hx => ?_⟩
  rw [wishes_rep] at hx ⊢
  exact h1.wi x hx
theorem cutE2 {x y : V} {r : List V} : cutV (x :: y :: r) none (some 2) = [x, y] := by
  unfold cutV HT.sIx
  simp
section
variable {σ : L2.St} {H : Hp} {ta te tb : TE} {D : Ends} {tz : TS}
theorem q_appQ {l : Addr} {xs : List V} (hl : H l = some (.lst xs)) (ha : Ev ta σ H (.ref l)) (h : ∀ H1, Ex H H1 → te σ H1 (fun v H2 => rAppend (.ref l) [v] H2 (fun _ H3 => tz D σ H3))) : tSeq (tDrop (tBM K "list" rAppend ta (tCons te tNil))) tz D σ H := s_appQ (D := { D with nx := tz D }) hl ha h
theorem q_parLV {i j : Nat} {xs : List V} {y : V} (ha : EvL ta σ H xs) (hb : Ev tb σ H y) (k : ∀ p H1, H p = none → Ex H H1 → H1 p = some (.lst xs) → tz D ((σ.set i (some (.ref p))).set j (some y)) H1) : tSeq (tPar i j (tCons ta (tCons tb tNil))) tz D σ H :=
  ha H (Ex.refl H) _ fun p H1 hp e1 h1 => hb H1 e1 _ fun H2 e2 => ⟨.ref p, y, rfl, k p H2 hp (e1.trans e2) (e2 p _ h1)⟩
theorem ep_ofU {xs : List V} (h : EvU te σ H xs) : EvP te σ H (TupAt K xs) := fun H1 e Q q => h H1 e _ fun p H2 _ e2 h2 => q _ H2 e2 ⟨p, rfl, st_of h2⟩
end
def spPut (K : PySem.W.Frag) (n : Nat) : Sp := fun vs H Q _ => ∃ (v rv : V) (pl : Int) (g : Nat) (b : List Stm) (p : Pln), vs = [v, .int pl, rv] ∧ Dp K H v (.tuple (encL b)) ∧ Dp K H rv (encP p) ∧ okL g b ∧ p.ok g ∧ htL b < n ∧ cnL b ≤ 1000 ∧
  RetP (fun u H' => ∃ b', Put g p b b' ∧ Dp K H' u (.tuple (encL b'))) H Q
theorem ok_put (T : Txt w K mg) : ∀ n : Nat, FOk P w K mg base (n + 5) "_law_put" (spPut K n)
  | 0 => fok_none T.f__law_put T.g__law_put (ps := ["_law_block", "_law_place", "_law_row_here"]) (fun _ _ _ _ _ _ us hl => match us, hl with | [_, _, _], _ => rfl) (fun vs H Q E ⟨v, rv, pl, g, b, p, _, _, _, _, _, h, _⟩ => by omega) _
  | n + 1 => by
    have G__law_blocks : FOk P w K mg base 1 "_law_blocks" (spLBlocks K) := ok_blocksL T
    have G__law_flat : FOk P w K mg base (n + 3) "_law_flat" (spFlat K (n + 1)) := ok_flat T (n + 1)
    have G__law_put : FOk P w K mg base (n + 5) "_law_put" (spPut K n) := ok_put T n
    refine fok T.f__law_put T.g__law_put sc__law_put (fun _ _ _ _ _ _ us hl => match us, hl with | [_, _, _], _ => rfl) (fun vs H Q E h => ?_) (fun cdv A outer s H vs Q E hr h => ?_)
    · obtain ⟨v, _, _, _, _, _, rfl, _⟩ := h
      rfl
    obtain ⟨v, rv, pl, g, b, p, rfl, hd, hrv, hok, hp, hht, hcn, k⟩ := h
    have nd := sc__law_put.nd
    refine ⟨_, (pss_cons (ps_set (i := 3) nd rfl (Or.inl rfl) (pe_lst pa_nil)) (pss_cons (ps_for PassesOwn.never rfl (pi_tup (pv 0)) (pg_name (i := 4) nd rfl (Or.inl rfl)) (pss_cons (ps_set (i := 5) nd rfl (Or.inl rfl) (pe_callB call_len_seq (by rfl) T.z_len PySem.boot_len (pa_cons (pe_f G__law_flat (hr.mono (by omega)) (pa_cons (pe_tup (pa_cons (pv 4) pa_nil)) (pa_cons pe_int pa_nil))) pa_nil))) (pss_cut (ps_if (pt_cmpR op_eq (pv 1) pe_int (nomark _)) (pss_one (ps_expr (pe_bm PySem.F.plainAttrs_list PySem.F.slot_list_append PySem.F.type_list_append mt_append (pv 3) (pa_cons (pv 2) pa_nil)))) (pss_one (ps_if (pt_chain op_lt op_lt pe_int (pv 1) (pv 5)) (pss_cons (ps_par (i := 6) (j := 7) (by rfl) nd rfl rfl (by decide) rfl rfl (pa_cons (pe_lst pa_nil) (pa_cons (pe_op op_sub (pv 1) pe_int) pa_nil)) (by rfl)) (pss_cons (ps_for PassesOwn.never rfl (pi_list (pe_f G__law_blocks (hr.mono (by omega)) (pa_cons (pv 4) pa_nil))) (pg_name (i := 8) nd rfl (Or.inl rfl)) (pss_cons (ps_expr (pe_bm PySem.F.plainAttrs_list PySem.F.slot_list_append PySem.F.type_list_append mt_append (pv 6) (pa_cons (pe_f G__law_put (hr.mono (by omega)) (pa_cons (pv 8) (pa_cons (pv 7) (pa_cons (pv 2) pa_nil)))) pa_nil))) (pss_one (ps_set (i := 7) nd rfl (Or.inl rfl) (pe_op op_sub (pv 7) (pe_callB call_len_seq (by rfl) T.z_len PySem.boot_len (pa_cons (pe_f G__law_flat (hr.mono (by omega)) (pa_cons (pv 8) (pa_cons pe_int pa_nil))) pa_nil))))))) (pss_one (ps_expr (pe_bm PySem.F.plainAttrs_list PySem.F.slot_list_append PySem.F.type_list_append mt_append (pv 3) (pa_cons (pe_op op_catA (pe_slice sl_tupA (pv 4) po_none (po_some pe_int)) (pe_callTy call_tuple_of (by rfl) T.z_tuple (by decide +kernel) (pa_cons (pv 6) pa_nil))) pa_nil)))))) (pss_one (ps_expr (pe_bm PySem.F.plainAttrs_list PySem.F.slot_list_append PySem.F.type_list_append mt_append (pv 3) (pa_cons (pv 4) pa_nil))))))) (pss_one (ps_set (i := 1) nd rfl (Or.inl rfl) (pe_op op_sub (pv 1) (pv 5))))))) (pss_one (ps_ret (pe_callTy call_tuple_of (by rfl) T.z_tuple (by decide +kernel) (pa_cons (pv 3) pa_nil)))))), ?_⟩
    obtain ⟨a, xs, rfl, hs, hxs⟩ := dp_tup hd
    have hlen : xs.length = b.length := by rw [dpAll_len hxs, encL_map, List.length_map]
    have hlcn := len_cn b
    refine q_asgL (el_lst ea_nil (by decide)) fun L H1 hL e1 hL1 => ?_
    refine q_forT (K := K) (a := a) (xs := xs) (ev_var rfl) (ex_t e1 hs) (fun i σ' H' => ∃ pl us b' x4 x5 x6 x7 x8, σ' = [some (.ref a), some (.int pl), some rv, some (.ref L), x4, x5, x6, x7, x8] ∧ Ex H H' ∧ H' L = some (.lst us) ∧ Put g p (b.take i) b' ∧ us.length = i ∧ DpAll K H' us (encL b'))
      (fun H2 e2 => ⟨pl, [], [], none, none, none, none, none, rfl, e1.trans e2, e2 L _ hL1, by rw [List.take_zero]; exact put_nil, rfl, by rw [encL]; exact .nil⟩) (fun i σ' H' _ ⟨_, _, _, _, _, _, _, _, _, e, _⟩ => ex_t e hs) (fun i x σ' H' hi q => ?_) (fun σ' H' q => ?_)
    · obtain ⟨pl, us, b', x4, x5, x6, x7, x8, rfl, e, hLs, hput, hul, hus⟩ := q
      obtain ⟨st, hst, hx⟩ := stm_at hxs hi
      have hcS := get_cn hst
      have hokS := get_ok hok hst
      have hi2 := (List.getElem?_eq_some_iff.mp hst).1
      have hx2 := same_dp e hx
      have hrv2 := same_dp e hrv
      have hcount : Ev (tCB (rLenS K) (tCons (tCall (spFlat K (n + 1)) [] E0 (tCons (tTup (tCons (tVar 4) tNil)) (tCons (tC (.int 0)) tNil))) tNil)) [some (.ref a), some (.int pl), some rv, some (.ref L), some x, x5, x6, x7, x8] H' (.int (cnS st : Nat)) :=
        ev_lenLP (R := Prs K (dfL 0 [st])) (elp_callU (xs := [x]) (eu_tup (ea_cons (ev_var rfl) ea_nil) (by show 1 ≤ 100000; decide)) fun tp H3 e3 h3 H4 e4 Q' q E' => ⟨.ref tp, 0, [st], rfl, .tup (st_of (e4 tp _ h3)) (by rw [encL, encL]; exact .cons (same_dp (e3.trans e4) hx2) .nil), by rw [htL, htL]; omega, by rw [cnL, cnL]; omega, q⟩) fun zs H3 hz => by
          rw [hz.len, dfL_len, cnL, cnL, Nat.add_zero]
      refine q_asg hcount fun H3 e3 => ?_
      have hLs3 := e3 L _ hLs
      have e03 := e.trans e3
      refine q_cut (M := fun σ' H' => ∃ s' us' y6 y7 y8, σ' = [some (.ref a), some (.int pl), some rv, some (.ref L), some x, some (.int (cnS st : Nat)), y6, y7, y8] ∧ Ex H H' ∧ H' L = some (.lst us') ∧ us'.length = i + 1 ∧ PutS g p st s' ∧ DpAll K H' us' (encL (b' ++ [s']))) ?_ ?_
      · -- what ends each way
        have fin : ∀ (y6 y7 y8 : Option V) (s' : Stm) (u : V) (H4 : Hp), Ex H H4 → H4 L = some (.lst us) → DpAll K H4 us (encL b') → PutS g p st s' → Dp K H4 u (encS s') →
            rAppend (.ref L) [u] H4 (fun _ H5 => ∃ s' us' z6 z7 z8, [some (.ref a), some (.int pl), some rv, some (.ref L), some x, some (.int (cnS st : Nat)), y6, y7, y8] = [some (.ref a), some (.int pl), some rv, some (.ref L), some x, some (.int (cnS st : Nat)), z6, z7, z8] ∧ Ex H H5 ∧ H5 L = some (.lst us') ∧ us'.length = i + 1 ∧ PutS g p st s' ∧ DpAll K H5 us' (encL (b' ++ [s']))) := fun y6 y7 y8 s' u H4 e4 hL4 hus4 hs' hu => by
          have kU : Keep H4 (upd H4 L (.lst (us ++ [u]))) := keep_upd hL4
          refine ⟨L, us, u, rfl, rfl, hL4, sz_lt (by omega), s', us ++ [u], _, _, _, rfl, Ex.mut e4 hL, upd_same, by rw [List.length_append, hul]; rfl, hs', ?_⟩
          rw [encL_map, List.map_append, ← encL_map]
          exact dpAll_app (keep_dpA kU (noL_L b') hus4) (.cons (keep_dp kU (noL_S s') hu) .nil)
        by_cases h0 : pl = 0
        · refine s_if (b := true) (et_test (ev_is (ev_op (ev_var rfl) ev_c (rv_eq rfl)) (congrArg V.bl (decide_eq_true (congrArg V.int h0))))) (fun _ H4 e4 => ?_) fun h => Bool.noConfusion h
          refine s_appQ (K := K) (l := L) (xs := us) (e4 L _ hLs3) (ev_var rfl) fun H5 e5 => ⟨_, rfl, ?_⟩
          have e35 := e4.trans e5
          exact fin _ _ _ (.pln p) rv H5 (e03.trans e35) (e35 L _ hLs3) (same_dpAll (e3.trans e35) hus) (putS_row hp) (by rw [encS]; exact same_dp (e3.trans e35) hrv2)
        · refine s_if (b := false) (et_test (ev_is (ev_op (ev_var rfl) ev_c (rv_eq rfl)) (congrArg V.bl (decide_eq_false fun z => h0 (V.int.inj z))))) (fun h => Bool.noConfusion h) fun _ H4 e4 => ?_
          have hLs4 := e4 L _ hLs3
          have e04 := e03.trans e4
          have hx4 := same_dp (e3.trans e4) hx2
          have hrv4 := same_dp (e3.trans e4) hrv2
          by_cases hin : 0 < pl ∧ pl < (cnS st : Nat)
          · have hch : EvT (tTest (tChain (rI0 fun i j => .bl (decide (i < j))) (rI0 fun i j => .bl (decide (i < j))) (tC (.int 0)) (tVar 1) (tVar 5))) [some (.ref a), some (.int pl), some rv, some (.ref L), some x, some (.int (cnS st : Nat)), x6, x7, x8] H4 true := et_is (et_test (ev_chain ev_c (ev_var rfl) (ev_var rfl) rv_I0 rv_I0)) (by rw [decide_eq_true hin.1, decide_eq_true hin.2]; rfl)
            refine s_if hch (fun _ H5 e5 => ?_) fun h => Bool.noConfusion h
            refine q_parLV (el_lst ea_nil (by decide)) (ev_op (ev_var rfl) ev_c rv_I0) fun Ih H6 hIh e6 hIh6 => ?_
            have e46 := e5.trans e6
            have hx6 := same_dp e46 hx4
            refine q_forLP (R := fun us H' => DpAll K H' us (encBs st)) (elp_call (ea_cons (ev_var rfl) ea_nil) fun H7 e7 Q' q E' => ⟨x, st, rfl, same_dp e7 hx6, q⟩) fun bp bxs H7 hbp e7 hb7 hbx => ?_
            have hbl : bxs.length = (blocks st).length := by rw [dpAll_len hbx]; simp [encBs]
            have e07 := (e04.trans e46).trans e7
            have hIh0 : H Ih = none := fresh_back (e04.trans e5) hIh
            have hIh7 := e7 Ih _ hIh6
            have hne : bp ≠ Ih := by
              intro z
              rw [z] at hbp
              rw [hbp] at hIh6
              cases hIh6
            have hrv7 := same_dp (e46.trans e7) hrv4
            have hbl4 : (blocks st).length ≤ 2 := by cases st <;> simp [blocks]
            refine ⟨fun j σ' H' => ∃ at_ y8 ws bs', σ' = [some (.ref a), some (.int pl), some rv, some (.ref L), some x, some (.int (cnS st : Nat)), some (.ref Ih), some (.int at_), y8] ∧ Exb Ih H7 H' ∧ H' Ih = some (.lst ws) ∧ ws.length = j ∧ Puts g p ((blocks st).take j) bs' ∧ DpAll K H' ws (bs'.map fun c => .tuple (encL c)),
              ⟨_, _, [], [], rfl, Exb.refl _ _, hIh7, rfl, by rw [List.take_zero]; trivial, .nil⟩, fun j σ' H' hj q => ?_, fun j u σ' H' hu q => ?_, fun σ' H' q => ?_⟩
            · obtain ⟨_, _, _, _, rfl, e8, _⟩ := q
              exact sq_of (e8 bp _ hne hb7)
            · obtain ⟨at_, y8, ws, bs', rfl, e8, hws, hwl, hps, hwd⟩ := q
              obtain ⟨c, hc, hdc⟩ := blk_at hbx hu
              have hmem := List.mem_of_getElem? hc
              have htb := ht_blocks c hmem
              have hcb : cnL c ≤ cnS st := by
                have h1 := cn_blocks st
                have h2 : cnL c ≤ ((blocks st).map cnL).sum := le_sum_mem (List.mem_map.mpr ⟨c, hmem, rfl⟩)
                omega
              have hj2 : j < 2 := by
                have := (List.getElem?_eq_some_iff.mp hu).1
                omega
              have k8 : Keep H7 H' := Exb.keep e8 hIh7
              have hdc8 := keep_dp k8 (noL_B c) hdc
              have hrv8 := keep_dp k8 (noL_P p) hrv7
              refine q_appQ (K := K) (l := Ih) (xs := ws) hws (ev_var rfl) fun H9 e9 => ?_
              refine t_call (vs := [u, .int at_, rv]) (ea_cons (ev_var rfl) (ea_cons (ev_var rfl) (ea_cons (ev_var rfl) ea_nil))) fun H10 e10 => ?_
              have e810 := e9.trans e10
              refine ⟨u, rv, at_, g, c, p, rfl, same_dp e810 hdc8, same_dp e810 hrv8, ok_blocks hokS c hmem, hp, by omega, by omega, fun v H11 e11 ⟨c', hc', hv⟩ => ?_⟩
              have e811 := e810.trans e11
              have hws11 := e811 Ih _ hws
              have kU : Keep H11 (upd H11 Ih (.lst (ws ++ [v]))) := keep_upd hws11
              have hnb : ∀ l : List (List Stm), noLA (l.map fun c => PyData.tuple (encL c)) = true := fun l => by
                induction l with
                | nil => simp [noLA]
                | cons q r ih => simp [noLA, noL_B, ih]
              refine ⟨Ih, ws, v, rfl, rfl, hws11, sz_lt (by omega), ?_⟩
              have hwd12 : DpAll K (upd H11 Ih (.lst (ws ++ [v]))) (ws ++ [v]) ((bs' ++ [c']).map fun c => PyData.tuple (encL c)) := by
                rw [List.map_append]
                exact dpAll_app (keep_dpA kU (hnb bs') (same_dpAll e811 hwd)) (.cons (keep_dp kU (noL_B c') hv) .nil)
              have e812 : Exb Ih H7 (upd H11 Ih (.lst (ws ++ [v]))) := (e8.trans (Exb.ex e811)).trans Exb.upd
              have hI12 : (upd H11 Ih (.lst (ws ++ [v]))) Ih = some (.lst (ws ++ [v])) := upd_same
              have hdc12 := keep_dp kU (noL_B c) (same_dp e811 hdc8)
              show tAsg _ _ _ _ (upd H11 Ih (.lst (ws ++ [v])))
              generalize upd H11 Ih (.lst (ws ++ [v])) = H12 at *
              refine s_asg (ev_op (ev_var rfl) (ev_lenLP (R := Prs K (dfL 0 c)) (n := cnL c) (elp_call (ea_cons (ev_var rfl) (ea_cons ev_c ea_nil)) fun H13 e13 Q' q E' => ⟨u, 0, c, rfl, same_dp e13 hdc12, by omega, by omega, q⟩) fun zs H3 hz => by rw [hz.len, dfL_len]) rv_I0) fun H13 e13 => ?_
              refine ⟨_, _, ws ++ [v], bs' ++ [c'], rfl, e812.trans (Exb.ex e13), e13 Ih _ hI12, by rw [List.length_append, hwl]; rfl, ?_, same_dpAll e13 hwd12⟩
              rw [List.take_add_one, hc]
              exact puts_add hc' hps
            · obtain ⟨at_, y8, ws, bs', rfl, e8, hws, hwl, hps, hwd⟩ := q
              rw [hbl, List.take_length] at hps
              have e08 : Ex H H' := fun z o hz => e8 z o (ne_of_none hz hIh0) (e07 z o hz)
              have k8 : Keep H7 H' := Exb.keep e8 hIh7
              have hLI : L ≠ Ih := by
                intro z
                have hLn := e46.trans e7 L _ hLs4
                rw [z] at hLs4
                have h5 := e5 Ih _ hLs4
                rw [hIh] at h5
                cases h5
              have hL8 := e8 L _ hLI (e46.trans e7 L _ hLs4)
              have hus8 : DpAll K H' us (encL b') := keep_dpA k8 (noL_L b') (same_dpAll (((e3.trans e4).trans e46).trans e7) hus)
              have hx8 := keep_dp k8 (noL_S st) (same_dp e7 hx6)
              refine s_appQ (K := K) (l := L) (xs := us) hL8 (ev_var rfl) fun H9 e9 => ?_
              have hx9 := same_dp e9 hx8
              have hws9 := e9 Ih _ hws
              have hwd9 := same_dpAll e9 hwd
              cases st with
              | pln q =>
                have := hin.2
                rw [cnS] at this
                omega
              | iff t y nn =>
                obtain ⟨xa, u, y0, n0, rfl, hxs0, hu, _⟩ := dp_iff hx9
                match bs', hps with
                | [y', n'], ⟨hy, hn, _⟩ =>
                  obtain ⟨yv, r1, rfl, hyv, hr1⟩ := dpAll_cons hwd9
                  obtain ⟨nv, r2, rfl, hnv, hr2⟩ := dpAll_cons hr1
                  obtain rfl := dpAll_nil hr2
                  refine ep_catP (K := K) (xs := [.str "if", u]) (ys := [yv, nv]) (by
                    have q := ep_slT (K := K) (σ := [some (.ref a), some (.int pl), some rv, some (.ref L), some (.ref xa), some (.int (cnS (.iff t y nn) : Nat)), some (.ref Ih), some (.int at_), y8]) (H := H9) (te := tVar 4) (tl := tNoPart) (th := tPart (tC (.int 2))) (ev_var rfl) eo_none (eo_some ev_c) hxs0
                    rw [cutE2] at q
                    exact q) (ep_ofU (eu_tupOf (K := K) (ev_var rfl) (sq_of hws9))) (by simp) (by simp) (by show 4 ≤ 100000; decide) H9 (Ex.refl H9) _ fun v H10 e10 ⟨r, ev, hr⟩ => ?_
                  subst ev
                  exact fin _ _ _ (.iff t y' n') (.ref r) H10 (e08.trans (e9.trans e10)) ((e9.trans e10) L _ hL8) (same_dpAll (e9.trans e10) hus8) (putS_iff hokS.1 hy hn) (by rw [encS]; exact .tup hr (.cons (.str _) (.cons (same_dp e10 hu) (.cons (same_dp e10 hyv) (.cons (same_dp e10 hnv) .nil)))))
              | rep kk y =>
                obtain ⟨xa, y0, rfl, hxs0, _⟩ := dp_rep hx9
                match bs', hps with
                | [y'], ⟨hy, _⟩ =>
                  obtain ⟨yv, r1, rfl, hyv, hr1⟩ := dpAll_cons hwd9
                  obtain rfl := dpAll_nil hr1
                  refine ep_catP (K := K) (xs := [.str "repeat", .int kk]) (ys := [yv]) (by
                    have q := ep_slT (K := K) (σ := [some (.ref a), some (.int pl), some rv, some (.ref L), some (.ref xa), some (.int (cnS (.rep kk y) : Nat)), some (.ref Ih), some (.int at_), y8]) (H := H9) (te := tVar 4) (tl := tNoPart) (th := tPart (tC (.int 2))) (ev_var rfl) eo_none (eo_some ev_c) hxs0
                    rw [cutE2] at q
                    exact q) (ep_ofU (eu_tupOf (K := K) (ev_var rfl) (sq_of hws9))) (by simp) (by simp) (by show 3 ≤ 100000; decide) H9 (Ex.refl H9) _ fun v H10 e10 ⟨r, ev, hr⟩ => ?_
                  subst ev
                  exact fin _ _ _ (.rep kk y') (.ref r) H10 (e08.trans (e9.trans e10)) ((e9.trans e10) L _ hL8) (same_dpAll (e9.trans e10) hus8) (putS_rep hokS.1 hy) (by rw [encS]; exact .tup hr (.cons (.str _) (.cons (.int _) (.cons (same_dp e10 hyv) .nil))))
          · have hch : EvT (tTest (tChain (rI0 fun i j => .bl (decide (i < j))) (rI0 fun i j => .bl (decide (i < j))) (tC (.int 0)) (tVar 1) (tVar 5))) [some (.ref a), some (.int pl), some rv, some (.ref L), some x, some (.int (cnS st : Nat)), x6, x7, x8] H4 false := et_is (et_test (ev_chain ev_c (ev_var rfl) (ev_var rfl) rv_I0 rv_I0)) (by
              by_cases h1 : 0 < pl
              · rw [decide_eq_true h1, decide_eq_false fun z => hin ⟨h1, z⟩]
                rfl
              · rw [decide_eq_false h1]
                rfl)
            refine s_if hch (fun h => Bool.noConfusion h) fun _ H5 e5 => ?_
            refine s_appQ (K := K) (l := L) (xs := us) (e5 L _ hLs4) (ev_var rfl) fun H6 e6 => ⟨_, rfl, ?_⟩
            have e46 := e5.trans e6
            exact fin _ _ _ st x H6 (e04.trans e46) (e46 L _ hLs4) (same_dpAll ((e3.trans e4).trans e46) hus) (putS_same hokS) (same_dp e46 hx4)
      · rintro σ' H4 ⟨s', us', y6, y7, y8, rfl, e4, hL4, hul4, hs', hus4⟩
        refine s_asg (ev_op (ev_var rfl) (ev_var rfl) rv_I0) fun H5 e5 => ?_
        refine ⟨_, us', b' ++ [s'], _, _, _, _, _, rfl, e4.trans e5, e5 L _ hL4, ?_, hul4, same_dpAll e5 hus4⟩
        have et : b.take (i + 1) = b.take i ++ [st] := by
          rw [List.take_add_one, hst]
          rfl
        rw [et]
        exact put_add hput hs'.1 hs'.2.1 hs'.2.2.1 hs'.2.2.2.1 hs'.2.2.2.2
    · obtain ⟨pl, us, b', x4, x5, x6, x7, x8, rfl, e, hLs, hput, hul, hus⟩ := q
      rw [hlen, List.take_length] at hput
      exact s_retU (eu_tupOf (K := K) (ev_var rfl) (sq_of hLs)) fun p' H2 hp' e2 h2 => k (.ref p') H2 (e.trans e2) ⟨b', hput, .tup (st_of h2) (same_dpAll e2 hus)⟩
end
end K7
set_option maxHeartbeats 4000000
/-! repr of data; a def that the top alone calls -/
namespace K7
open PySem PySem.Spec PyProof.Rows L2 Evl
def rRepr (K : PySem.W.Frag) : List V → Hp → VK → Prop := fun xs H Q => ∃ (a : Addr) (d : PyData), xs = [.ref a] ∧ Dp K H (.ref a) d ∧ d.canLay0 = true ∧ d.depth ≤ 64 ∧ d.showable = true ∧ d.shown.length ≤ sizeLine ∧ Q (.str d.shown) H
/-- repr of tuples and the like, where no repr runs -/
theorem cr_reprD {X : Cx} (hg : X.A.guards = some []) (hu : X.A.units + 100 < cLine) : CallR X (.builtin "repr") (rRepr X.K) := by
  intro pins s σ H xs us Q I r ⟨a, d, e, hd, lay, dep, sh, sz, q⟩
  subst e
  rw [Vals.ref1 r]
  obtain ⟨as, rr⟩ := Dp.reads I d (.ref a) (.ref a) hd rfl
  exact repr_of_reads' rr sh (PyData.noDict_hsm (PyData.hasDict_of_canLay d lay)) hg (by omega) (fun _ _ e => e) (fun h' u tk hk => ⟨.str d.shown, H, I.kept hk, ⟨u, rfl⟩, q⟩) sz
section
variable {P : Program} {w : World} {K : PySem.W.Frag} {mg : Str → Option Value} {base : Heap} {A : Around} {outer : List Env} {s : Shared} {H : Hp}
/-- a def that runs under A and nothing else -/
theorem run_under {x qual : Str} {params : Arguments} {body : List Stmt} {scope : Scope} {f : Addr} {fd : FuncData} {N ps : List Str} {k : Nat} {args : Args} {us : List Value} {vs : List V} {Q : VK} {E : XK} (F : FunD K x qual params body scope [] [] f fd) (S : FnScope N ps scope) (hr : Room (k + 1) A)
    (env : Env0 P w K mg base A outer s H) (bd : BindsTo s fd args (ps.zip us)) (rv : Vals vs us) (hl : vs.length = ps.length)
    (hb : ∀ cdv : Value, ∃ t, PSs (cxOf CX0 P w K mg base N qual scope f cdv A outer s H E) body t ∧ t { nx := fun _ H' => Q .non H', rt := Q } (start N vs) H) : codeAny (model P w) A (.call (.ref f) args) (CR CX0 outer P w H s Q E) s := by
  obtain ⟨oc, od, dV, kV, doc, pm, an, cdv, ct, osl, rfl, lk, hcd, _, _⟩ := F.ex
  have inH : K.In s.heap := env.mod.kin.keeps fun b o e => (env.bs b o e).1
  have kinds : ∀ y ∈ ps.zip us, scope.names.lookup y.1 = some .local ∨ (scope.names.lookup y.1 = some .cell ∧ ((cellsFrom (s.heap.objs.size + 1) scope.names []).lookup y.1).isSome = true) := by
    rintro ⟨n, u⟩ hy
    exact (S.par n (List.of_mem_zip hy).1).imp id fun q => ⟨q, PySem.W.cellsFrom_some _ _ _ (.inl q)⟩
  refine codeAny_call_function hr.depth (inH _ _ lk) rfl S.co S.gen rfl (PySem.W.codeRec_of inH hcd) (bd _ _ _ _ (wpAny_newFunctionEnv_cells S.kind kinds fun en he s1 y => ?_))
  subst he
  obtain ⟨t, ht, hq⟩ := hb cdv
  have lim : s.heap.NoLimit := env.mod.nolimit.keeps fun b o e => (env.bs b o e).1
  refine ⟨lim.keeps y.toInCall.keep, codeAny_func (wpAny_mono (ht.run [] s1 (start N vs) H _ (inv_start S hr.hd env hl rv y) hq) (fun fl s' z => ?_) fun _ _ z => z)⟩
  cases fl with
  | next =>
    obtain ⟨σ', H', J, q⟩ := z
    exact ⟨.non, H', J.os, J.bare, J.base, J.hok, rfl, q⟩
  | ret u =>
    obtain ⟨v, σ', H', J, r', q⟩ := z
    exact ⟨v, H', J.os, J.bare, J.base, J.hok, r', q⟩
  | brk => exact z.choose_spec.choose_spec.2.elim
  | cont => exact z.choose_spec.choose_spec.2.elim
end
end K7
set_option maxHeartbeats 4000000
/-! the top's call of the law, the law's run told at the top's own frame -/
namespace K7
open PySem PySem.Spec PyProof.Rows L2
/-- what the law's run must show -/
abbrev TopRun (P : Program) (w : World) (K : PySem.W.Frag) (mg : Str → Option Value) (fa a : Addr) (s : Shared) (ns : List Int) : Prop := ∀ (base : Heap) (H : Hp), Env0 P w K mg base callerA [] s H → SqL K H a (ns.map V.int) →
  codeAny (model P w) callerA (.call (.ref fa) ⟨[.ref a], []⟩) (CR CX0 [] P w H s (fun v _ => v = .bl true) fun _ _ _ => False) s
section
variable {P : Program} {w : World} {K : PySem.W.Frag} {mg mb : Str → Option Value} {fa a : Addr} {s : Shared} {vs : List Value} {ns : List Int}
/-- over a heap in which at most the script is tracked -/
theorem top_core (inK : K.In s.heap) (gl : s.heap.Ns mainGlobals mg) (bl : s.heap.Ns builtinsNs mb) (bb : ∀ x : Str, x ≠ "__name__" → mb x = bootBuiltins x) (lim : s.heap.NoLimit) (gens : s.gens = #[])
    (obj : s.heap.get? a = some { cls := .type "list", data := .seq vs.toArray }) (run : TopRun P w K mg fa a s ns) (H : Hp) (only : Only H) (sq : SqL K H a (ns.map V.int)) (hok : HOk P w H s.heap) (at_ : ∀ b, H b ≠ none → b = a) (out : H a ≠ none → K.lookup a = none) :
    codeAny (model P w) callerA (.call (.ref fa) ⟨[.ref a], []⟩) (fun r s' => r = .ok (.ret (.bool true)) ∧ OldK s.heap s'.heap ∧ s'.os = s.os ∧ AllBare s'.gens) s := by
  -- what is not the script stands in the base
  have low : ∀ {b : Addr} {o : Obj}, s.heap.get? b = some o → H b = none → (hidT s.heap H).get? b = some o := fun e n => hidT_get e n
  have dic : ∀ {b : Addr} {o : Obj} {es : Array DictEntry} {ep : Nat}, s.heap.get? b = some o → o.data = .dict es ep → H b = none := fun {b o es ep} e de => by
    by_cases hb : H b = none
    · exact hb
    · have eb := at_ b hb
      rw [eb, obj] at e
      cases e
      exact absurd (show Data.seq vs.toArray _ = Data.dict es ep from de) (by intro z; cases z)
  have ns_ : ∀ {b : Addr} {m : Str → Option Value}, s.heap.Ns b m → (hidT s.heap H).Ns b m := by
    rintro b m ⟨o, es, ep, e, de, r⟩
    exact ⟨o, es, ep, low e (dic e de), de, r⟩
  have inB : K.In (hidT s.heap H) := fun b o e => by
    refine low (inK b o e) ?_
    by_cases hb : H b = none
    · exact hb
    · have eb := at_ b hb
      rw [eb] at e hb
      rw [out hb] at e
      cases e
  obtain ⟨mc, c1, c2⟩ := lim
  have env : Env0 P w K mg (hidT s.heap H) callerA [] s H :=
    ⟨rfl, ⟨inB, ns_ gl, ⟨mb, ns_ bl, bb⟩, ⟨mc, ns_ c1, c2⟩⟩, fun b o e => of_hidT e, Nat.le_of_eq (hidT_size _ _), trivial, fun b hb => (by cases hb), hok, .of_eq gens⟩
  refine codeAny_mono (run _ H env sq) fun r s' z => ?_
  cases r with
  | error e => exact (show False from z).elim
  | ok fl =>
    cases fl with
    | ret u =>
      obtain ⟨v, H', os, bare, un, hok', ru, q⟩ := z
      have q' : v = .bl true := q
      rw [q'] at ru
      have eu : u = Value.bool true := ru
      refine ⟨by rw [eu], OldK.of_keep fun b o e => ?_, os, bare⟩
      rcases only b with hb | ⟨ob, xs, hb⟩
      · exact un.keep b o e hb (by intro z; cases z) (by simp)
      · have e1 := (hok b _ hb).1
        have e2 := (hok' b _ (un.frzs b ob _ hb)).1
        rw [e] at e1
        cases e1
        exact e2
    | next => exact (show False from z).elim
    | brk => exact (show False from z).elim
    | cont => exact (show False from z).elim
theorem top_call (inK : K.In s.heap) (gl : s.heap.Ns mainGlobals mg) (bl : s.heap.Ns builtinsNs mb) (bb : ∀ x : Str, x ≠ "__name__" → mb x = bootBuiltins x) (lim : s.heap.NoLimit) (gens : s.gens = #[])
    (obj : s.heap.get? a = some { cls := .type "list", data := .seq vs.toArray }) (hints : IntsAre vs ns) (len : ns.length ≤ sizeLine) (run : TopRun P w K mg fa a s ns) :
    codeAny (model P w) callerA (.call (.ref fa) ⟨[.ref a], []⟩) (fun r s' => r = .ok (.ret (.bool true)) ∧ OldK s.heap s'.heap ∧ s'.os = s.os ∧ AllBare s'.gens) s := by
  have rv := vals_ints hints
  have el := hints.length
  by_cases hk : K.lookup a = none
  · let F : HO := .frz { cls := .type "list", data := .seq vs.toArray } (.lst (ns.map V.int))
    have one : ∀ b, (fun b => if b = a then some F else none : Hp) b ≠ none → b = a := fun b z => by
      by_cases hb : b = a
      · exact hb
      · exact absurd (if_neg hb) z
    refine top_core inK gl bl bb lim gens obj run (fun b => if b = a then some F else none) (fun b => ?_) (.inl (.inr ⟨_, if_pos rfl⟩)) (fun b u z => ?_) one fun _ => hk
    · by_cases hb : b = a
      · exact .inr ⟨_, _, if_pos hb⟩
      · exact .inl (if_neg hb)
    · by_cases hb : b = a
      · have z2 : some F = some u := (if_pos hb).symm.trans z
        cases z2
        subst hb
        exact ⟨obj, by rw [List.length_map]; exact len, vs, _, rv, obj⟩
      · have z2 : (none : Option HO) = some u := (if_neg hb).symm.trans z
        cases z2
  · obtain ⟨o, hk⟩ := Option.ne_none_iff_exists'.mp hk
    have e := inK a o hk
    rw [obj] at e
    cases e
    exact top_core inK gl bl bb lim gens obj run (fun _ => none) (fun _ => .inl rfl) (.inr ⟨_, vs.toArray, _, hk, rfl, rfl, rfl, by rw [List.size_toArray, el]; exact len, by simpa using rv⟩) (fun b u z => by cases (show (none : Option HO) = some u from z)) (fun b z => absurd rfl z) fun z => absurd rfl z
end
/-- what the head leaves of a law -/
theorem walk_top {l : PySem.W.OpenLaw} {n : Nat} {q : Program} {loose : List Str} {XP : (Str → Option Value) → Heap → Prop} {YP : World → Heap → Prop} {d : DefRec} (hn : l.most = some n) (hn2 : n ≤ sizeLine) (hdf : d.params.defaults = [])
    (F : ∀ (w : World) (mg : Str → Option Value) (fa : Addr) (h : Heap), YP w h → h.Ns mainGlobals mg → mg d.name = some (.ref fa) → ∃ K : PySem.W.Frag, K.In h ∧ ∀ (a : Addr) (s : Shared) (ns : List Int), ns.length ≤ n → TopRun l.prog w K mg fa a s ns) : PySem.W.WalkO q loose XP YP l.row.toRowW d [] (fun f vs => PySem.call f vs) := by
  refine Att.attach_call hn hdf fun w s₀ s₁ mg mb fa o pm cd doc a vs ns G Y ho hd hcd hmg hobj hints hlen hg => ?_
  obtain ⟨K, inK, run⟩ := F w mg fa _ Y G.T.g hmg
  exact top_call inK G.T.g G.T.b G.T.builtins G.T.nolimit hg hobj hints (Nat.le_trans hlen hn2) (run a s₁ ns hlen)
end K7
set_option maxHeartbeats 4000000
/-! texts of unlike programs are unlike -/
namespace K7
open PySem PySem.Spec PyProof.Rows L2 Evl
theorem num_inj {a b : Nat} (h : num a = num b) : a = b := TL.numL_inj (by rw [← tl_numS, ← tl_numS, h])
theorem dot_inj {x f y e : Str} (hx : isName x = true) (hf : isName f = true) (hy : isName y = true) (he : isName e = true) (h : dot x f = dot y e) : x = y ∧ f = e := by
  have h1 := split_dot hx hf
  rw [h, split_dot hy he] at h1
  simp only [List.cons.injEq, and_true] at h1
  exact ⟨h1.1.symm, h1.2.symm⟩
def cd (x : Str) : Nat := if x = "make" then 1 else if x = "keep" then 2 else if x = "drop" then 3 else if x = "wish" then 4 else if x = "say" then 5 else if x = "cut" then 6 else if x = "ask" then 7 else if 46 ∈ TL.tl x then 8 else 9
theorem cd_name {x : Str} (h : isName x = true) : cd x = 9 := by
  unfold cd
  rw [if_neg (name_ne h), if_neg (name_ne h), if_neg (name_ne h), if_neg (name_ne h), if_neg (name_ne h), if_neg (name_ne h), if_neg (name_ne h), if_neg (word_nodot (name_word h))]
theorem cd_dot (x f : Str) : cd (dot x f) = 8 := by
  unfold cd
  rw [if_neg (dot_ne x f _), if_neg (dot_ne x f _), if_neg (dot_ne x f _), if_neg (dot_ne x f _), if_neg (dot_ne x f _), if_neg (dot_ne x f _), if_neg (dot_ne x f _), if_pos]
  rw [tl_dot]
  exact List.mem_append_right _ List.mem_cons_self
def pc : Pln → Nat
  | .make _ => 1 | .keep _ => 2 | .drop _ => 3 | .wish _ _ => 4 | .say _ => 5 | .cut _ _ => 6 | .ask _ => 7 | .hold _ _ _ => 8 | .weak _ _ _ => 8 | .name _ _ => 9 | .take _ _ _ => 9
theorem cd_pln {g : Nat} {p : Pln} (h : p.ok g) : cd ((plnW p).headD "") = pc p := by
  cases p with
  | name x y => exact cd_name h.1
  | take z x f => exact cd_name h.1
  | hold x f y => exact cd_dot x f
  | weak x f y => exact cd_dot x f
  | make x => show cd "make" = 1; decide +kernel
  | keep x => show cd "keep" = 2; decide +kernel
  | drop x => show cd "drop" = 3; decide +kernel
  | wish x z => show cd "wish" = 4; decide +kernel
  | say x => show cd "say" = 5; decide +kernel
  | cut x z => show cd "cut" = 6; decide +kernel
  | ask x => show cd "ask" = 7; decide +kernel
def cb (x : Str) : Nat := if x = "given" then 1 else if x = "set" then 2 else if x = "full" then 3 else if x = "wished" then 4 else 5
theorem cb_name {x : Str} (h : isName x = true) : cb x = 5 := by
  unfold cb
  rw [if_neg (name_ne h), if_neg (name_ne h), if_neg (name_ne h), if_neg (name_ne h)]
def bc : Bt → Nat
  | .giv _ => 1 | .set _ => 2 | .full _ _ => 3 | .wished _ => 4 | .same _ _ => 5
theorem cb_bt {g : Nat} {b : Bt} (h : b.ok g) : cb ((btW b).headD "") = bc b := by
  cases b with
  | same x y => exact cb_name h.1
  | giv i => show cb "given" = 1; decide +kernel
  | set i => show cb "set" = 2; decide +kernel
  | full i j => show cb "full" = 3; decide +kernel
  | wished i => show cb "wished" = 4; decide +kernel
theorem btW_inj {g g' : Nat} {b c : Bt} (hb : b.ok g) (hc : c.ok g') (h : btW b = btW c) : b = c := by
  have h1 : bc b = bc c := by rw [← cb_bt hb, ← cb_bt hc, h]
  cases b <;> cases c <;> first
    | (exfalso; simp [bc] at h1; done)
    | skip
  · simp only [btW, List.cons.injEq, and_true, true_and] at h
    rw [num_inj h]
  · simp only [btW, List.cons.injEq, and_true, true_and] at h
    rw [h]
  · simp only [btW, List.cons.injEq, and_true, true_and] at h
    rw [h.1, h.2]
  · simp only [btW, List.cons.injEq, and_true, true_and] at h
    obtain ⟨e1, e2⟩ := dot_inj hb.1 hb.2 hc.1 hc.2 h
    rw [e1, e2]
  · simp only [btW, List.cons.injEq, and_true, true_and] at h
    rw [h]
theorem nots_inj {x y : Str} {r q : List Str} (hx : x ≠ "not") (hy : y ≠ "not") : ∀ {a b : Nat}, List.replicate a ("not" : Str) ++ x :: r = List.replicate b ("not" : Str) ++ y :: q → a = b ∧ x :: r = y :: q
  | 0, 0, h => ⟨rfl, h⟩
  | a + 1, 0, h => absurd (List.cons.inj h).1.symm hy
  | 0, b + 1, h => absurd (List.cons.inj h).1 hx
  | a + 1, b + 1, h => by
    have := nots_inj hx hy (a := a) (b := b) (List.cons.inj h).2
    exact ⟨by omega, this.2⟩
theorem tstW_inj {g g' : Nat} {t u : Tst} (ht : t.ok g) (hu : u.ok g') (h : tstW t = tstW u) : t = u := by
  obtain ⟨x, r, e1, h1⟩ := bt_head ht.2
  obtain ⟨y, q, e2, h2⟩ := bt_head hu.2
  unfold tstW at h
  rw [e1, e2] at h
  obtain ⟨h3, h4⟩ := nots_inj h1 h2 h
  have h5 := btW_inj ht.2 hu.2 (by rw [e1, e2, h4])
  cases t
  cases u
  simp only at h3 h5
  rw [h3, h5]
theorem plnW_inj {g g' : Nat} {p q : Pln} (hp : p.ok g) (hq : q.ok g') (h : plnW p = plnW q) : p = q := by
  have h1 : pc p = pc q := by rw [← cd_pln hp, ← cd_pln hq, h]
  have sg : ("=" : Str) ≠ "~" := by decide +kernel
  cases p with
  | make x =>
    cases q <;> first
      | (exfalso; simp [pc] at h1; done)
      | (simp only [plnW, List.cons.injEq, and_true, true_and] at h; rw [h])
  | keep x =>
    cases q <;> first
      | (exfalso; simp [pc] at h1; done)
      | (simp only [plnW, List.cons.injEq, and_true, true_and] at h; rw [h])
  | drop x =>
    cases q <;> first
      | (exfalso; simp [pc] at h1; done)
      | (simp only [plnW, List.cons.injEq, and_true, true_and] at h; rw [h])
  | say x =>
    cases q <;> first
      | (exfalso; simp [pc] at h1; done)
      | (simp only [plnW, List.cons.injEq, and_true, true_and] at h; rw [h])
  | wish x z =>
    cases q <;> first
      | (exfalso; simp [pc] at h1; done)
      | (simp only [plnW, List.cons.injEq, and_true, true_and] at h; rw [h.1, h.2])
  | cut x z =>
    cases q <;> first
      | (exfalso; simp [pc] at h1; done)
      | (simp only [plnW, List.cons.injEq, and_true, true_and] at h; obtain ⟨e1, e2⟩ := dot_inj hp.1 hp.2 hq.1 hq.2 h; rw [e1, e2])
  | ask t =>
    cases q <;> first
      | (exfalso; simp [pc] at h1; done)
      | (simp only [plnW, List.cons.injEq, and_true, true_and] at h; rw [tstW_inj (t := t) hp hq h])
  | name x y =>
    cases q <;> first
      | (exfalso; simp [pc] at h1; done)
      | skip
    · simp only [plnW, List.cons.injEq, and_true, true_and] at h
      rw [h.1, h.2]
    · simp only [plnW, List.cons.injEq, and_true, true_and] at h
      have z := dot_noname _ _ ▸ (h.2 ▸ hp.2)
      cases z
  | take z x f =>
    cases q <;> first
      | (exfalso; simp [pc] at h1; done)
      | skip
    · simp only [plnW, List.cons.injEq, and_true, true_and] at h
      have z := hq.2
      rw [← h.2, dot_noname] at z
      cases z
    · simp only [plnW, List.cons.injEq, and_true, true_and] at h
      obtain ⟨e1, e2⟩ := dot_inj hp.2.1 hp.2.2 hq.2.1 hq.2.2 h.2
      rw [h.1, e1, e2]
  | hold x f y =>
    cases q <;> first
      | (exfalso; simp [pc] at h1; done)
      | skip
    · simp only [plnW, List.cons.injEq, and_true, true_and] at h
      obtain ⟨e1, e2⟩ := dot_inj hp.1 hp.2.1 hq.1 hq.2.1 h.1
      rw [h.2, e1, e2]
    · simp only [plnW, List.cons.injEq, and_true, true_and] at h
      exact absurd h.2.1 sg
  | weak x f y =>
    cases q <;> first
      | (exfalso; simp [pc] at h1; done)
      | skip
    · simp only [plnW, List.cons.injEq, and_true, true_and] at h
      exact absurd h.2.1.symm sg
    · simp only [plnW, List.cons.injEq, and_true, true_and] at h
      obtain ⟨e1, e2⟩ := dot_inj hp.1 hp.2.1 hq.1 hq.2.1 h.1
      rw [h.2, e1, e2]
theorem pln_kw {g : Nat} {p : Pln} (h : p.ok g) : ∀ {kw : Str} {r : List Str}, plnW p = kw :: r → kw ≠ "if" ∧ kw ≠ "repeat" := by
  intro kw r e
  cases p with
  | name x y => obtain ⟨rfl, _⟩ := List.cons.inj e; exact ⟨name_ne h.1, name_ne h.1⟩
  | take z x f => obtain ⟨rfl, _⟩ := List.cons.inj e; exact ⟨name_ne h.1, name_ne h.1⟩
  | hold x f y => obtain ⟨rfl, _⟩ := List.cons.inj e; exact ⟨dot_ne x f _, dot_ne x f _⟩
  | weak x f y => obtain ⟨rfl, _⟩ := List.cons.inj e; exact ⟨dot_ne x f _, dot_ne x f _⟩
  | _ => obtain ⟨rfl, _⟩ := List.cons.inj e; exact ⟨by decide +kernel, by decide +kernel⟩
/-- the same first line: the same statement, but for its blocks -/
theorem head_inj {g g' : Nat} {s s' : Stm} (h : okS g s) (h' : okS g' s') (e : headW s = headW s') : (∃ p, s = .pln p ∧ s' = .pln p) ∨ (∃ t y n y' n', s = .iff t y n ∧ s' = .iff t y' n') ∨ ∃ k b b', s = .rep k b ∧ s' = .rep k b' := by
  have ir : ("if" : Str) ≠ "repeat" := by decide +kernel
  cases s with
  | pln p =>
    cases s' with
    | pln q => exact .inl ⟨p, rfl, by rw [plnW_inj (p := p) (q := q) h h' e]⟩
    | iff t y n => exact absurd rfl (pln_kw (p := p) h (show plnW p = ("if" : Str) :: tstW t from e)).1
    | rep k b => exact absurd rfl (pln_kw (p := p) h (show plnW p = ("repeat" : Str) :: [num k] from e)).2
  | iff t y n =>
    cases s' with
    | pln q => exact absurd rfl (pln_kw (p := q) h' (show plnW q = ("if" : Str) :: tstW t from e.symm)).1
    | iff u y' n' =>
      have q := tstW_inj h.1 h'.1 (List.cons.inj (show ("if" : Str) :: tstW t = ("if" : Str) :: tstW u from e)).2
      exact .inr (.inl ⟨t, y, n, y', n', rfl, by rw [q]⟩)
    | rep k b => exact absurd (List.cons.inj (show ("if" : Str) :: tstW t = ("repeat" : Str) :: [num k] from e)).1 ir
  | rep k b =>
    cases s' with
    | pln q => exact absurd rfl (pln_kw (p := q) h' (show plnW q = ("repeat" : Str) :: [num k] from e.symm)).2
    | iff u y' n' => exact absurd (List.cons.inj (show ("repeat" : Str) :: [num k] = ("if" : Str) :: tstW u from e)).1.symm ir
    | rep m c =>
      have q := (List.cons.inj (List.cons.inj (show ("repeat" : Str) :: [num k] = ("repeat" : Str) :: [num m] from e)).2).1
      exact .inr (.inr ⟨k, b, c, rfl, by rw [num_inj q]⟩)
section
variable {g g' : Nat} (hg : g ≤ 3) (hg' : g' ≤ 3)
include hg hg'
/-- blocks up to a height are read off their lines in one way -/
def InjL (g g' n : Nat) : Prop := ∀ (b b' : List Stm) (d : Nat) (P P' : List Str), okL g b → okL g' b' → htL b < n → PostB d P → PostB d P' → linesL d b ++ P = linesL d b' ++ P' → b = b' ∧ P = P'
omit hg hg' in
theorem post_no {d : Nat} {s : Stm} {r : List Stm} {P Q : List Str} {gg : Nat} (h3 : gg ≤ 3) (hs : okS gg s) (hP : PostB d P) (h : P = linesL d (s :: r) ++ Q) : False := by
  obtain ⟨q, e⟩ := linesL_head (d := d) (s := s) (r := r)
  rw [e] at h
  rcases hP with hP | ⟨d', ws, u, hP, hw, hlt⟩
  · rw [hP] at h
    cases h
  · rw [hP] at h
    have := row_inj hw (ws_head h3 hs) (List.cons.inj h).1
    omega
theorem inj_in {n : Nat} (ih : InjL g g' n) {d : Nat} {y y' : List Stm} {P P' : List Str} (hy : okL g y) (hy' : okL g' y') (hn : htL y < n) (hP : PostB d P) (hP' : PostB d P') (h : inL true d y ++ P = inL true d y' ++ P') : y = y' ∧ P = P' := by
  have h0 : inL true d [] = [ind d ++ "pass"] := by
    unfold inL
    rw [if_pos rfl, linesL]
    rfl
  have h1 : ∀ (s : Stm) (r : List Stm), inL true d (s :: r) = linesL d (s :: r) := fun s r => by
    obtain ⟨q, e⟩ := linesL_head (d := d) (s := s) (r := r)
    unfold inL
    rw [if_pos rfl, e]
    rfl
  have no : ∀ {gg : Nat} (s : Stm) (r : List Stm) (Q Q' : List Str), gg ≤ 3 → okS gg s → linesL d (s :: r) ++ Q = [ind d ++ "pass"] ++ Q' → False := fun s r Q Q' h3 hs h => by
    obtain ⟨q, e⟩ := linesL_head (d := d) (s := s) (r := r)
    rw [e] at h
    have z : ind d ++ jn (headW s) = ind d ++ jn ["pass"] := (List.cons.inj h).1
    exact head_ne1 s _ (row_inj (ws_head h3 hs) ws_pass z).2
  cases y with
  | nil =>
    cases y' with
    | nil => exact ⟨rfl, List.append_cancel_left h⟩
    | cons s r =>
      rw [h0, h1] at h
      exact (no s r P' P hg' hy'.1 h.symm).elim
  | cons s r =>
    cases y' with
    | nil =>
      rw [h0, h1] at h
      exact (no s r P P' hg hy.1 h).elim
    | cons s' r' =>
      rw [h1, h1] at h
      exact ih _ _ d P P' hy hy' hn hP hP' h
theorem inj_S {n : Nat} (ih : InjL g g' n) {d : Nat} {s s' : Stm} {P P' : List Str} (hs : okS g s) (hs' : okS g' s') (hn : htS s < n + 1) (hP : PostS d P) (hP' : PostS d P') (h : linesS d s ++ P = linesS d s' ++ P') : s = s' ∧ P = P' := by
  have hrow : headW s = headW s' := by
    obtain ⟨q, e1⟩ := linesS_head d s
    obtain ⟨q', e2⟩ := linesS_head d s'
    rw [e1, e2] at h
    exact (row_inj (ws_head hg hs) (ws_head hg' hs') (List.cons.inj h).1).2
  rcases head_inj hs hs' hrow with ⟨p, rfl, rfl⟩ | ⟨t, y, nn, y', nn', rfl, rfl⟩ | ⟨k, b, b', rfl, rfl⟩
  · exact ⟨rfl, List.append_cancel_left h⟩
  · rw [htS] at hn
    have el : ∀ y nn, linesS d (.iff t y nn) = (ind d ++ jn (headW (.iff t y nn))) :: (inL true (d + 1) y ++ elseOf d (linesL (d + 1) nn)) := fun y nn => by rw [linesS]; rfl
    rw [el, el] at h
    have h2 : inL true (d + 1) y ++ elseOf d (linesL (d + 1) nn) ++ P = inL true (d + 1) y' ++ elseOf d (linesL (d + 1) nn') ++ P' := (List.cons.inj h).2
    rw [List.append_assoc, List.append_assoc] at h2
    obtain ⟨e1, e2⟩ := inj_in hg hg' ih hs.2.1 hs'.2.1 (by omega) (post_else hP) (post_else hP') h2
    subst e1
    have el0 : ∀ d, elseOf d (linesL (d + 1) []) = [] := fun d => by rw [linesL]; rfl
    have el1 : ∀ (d : Nat) (s : Stm) (r : List Stm), elseOf d (linesL (d + 1) (s :: r)) = (ind d ++ "else") :: linesL (d + 1) (s :: r) := fun d s r => by
      obtain ⟨q, e⟩ := linesL_head (d := d + 1) (s := s) (r := r)
      rw [e]
      rfl
    have noE : ∀ {Q R : List Str}, PostS d Q → Q = (ind d ++ "else") :: R → False := fun hQ e => by
      rcases hQ with hQ | ⟨d', ws, u, hQ, hw, hle, hne⟩
      · rw [hQ] at e
        cases e
      · rw [hQ] at e
        have z : ind d' ++ jn ws = ind d ++ jn ["else"] := (List.cons.inj e).1
        obtain ⟨z1, z2⟩ := row_inj hw ws_else z
        exact hne z1 z2
    cases nn with
    | nil =>
      cases nn' with
      | nil => exact ⟨rfl, by rw [el0] at e2; exact e2⟩
      | cons s r =>
        rw [el0, el1] at e2
        exact (noE hP e2).elim
    | cons s r =>
      cases nn' with
      | nil =>
        rw [el0, el1] at e2
        exact (noE hP' e2.symm).elim
      | cons s' r' =>
        rw [el1, el1] at e2
        obtain ⟨e3, e4⟩ := ih _ _ (d + 1) P P' hs.2.2 hs'.2.2 (by omega) hP.b hP'.b (List.cons.inj e2).2
        exact ⟨by rw [e3], e4⟩
  · rw [htS] at hn
    have el : ∀ b, linesS d (.rep k b) = (ind d ++ jn (headW (.rep k b))) :: inL true (d + 1) b := fun b => by rw [linesS]; rfl
    rw [el, el] at h
    obtain ⟨e1, e2⟩ := inj_in hg hg' ih hs.2 hs'.2 (by omega) hP.b hP'.b (List.cons.inj h).2
    exact ⟨by rw [e1], e2⟩
theorem inj_L : ∀ n : Nat, InjL g g' n
  | 0 => fun b b' d P P' _ _ h => by omega
  | n + 1 => by
    have ih := inj_L n
    intro b
    induction b with
    | nil =>
      intro b' d P P' hb hb' hn hP hP' h
      cases b' with
      | nil => exact ⟨rfl, List.append_cancel_left h⟩
      | cons s r =>
        have e0 : linesL d [] = [] := by rw [linesL]
        rw [e0, List.nil_append] at h
        exact (post_no hg' hb'.1 hP h).elim
    | cons s r ihb =>
      intro b' d P P' hb hb' hn hP hP' h
      rw [htL] at hn
      cases b' with
      | nil =>
        have e0 : linesL d [] = [] := by rw [linesL]
        rw [e0, List.nil_append] at h
        exact (post_no hg hb.1 hP' h.symm).elim
      | cons s' r' =>
        rw [linesL, linesL, List.append_assoc, List.append_assoc] at h
        obtain ⟨e1, e2⟩ := inj_S hg hg' ih hb.1 hb'.1 (by omega) (post_next hg hb.2 hP) (post_next hg' hb'.2 hP') h
        obtain ⟨e3, e4⟩ := ihb r' d P P' hb.2 hb'.2 (by omega) hP hP' e2
        exact ⟨by rw [e1, e3], e4⟩
theorem text_inj {b b' : List Stm} (hb : okL g b) (hb' : okL g' b') (h : progText g b = progText g' b') : g = g' ∧ b = b' := by
  have h1 := prog_split hg hb
  rw [h, prog_split hg' hb'] at h1
  obtain ⟨h2, h3⟩ := List.cons.inj (show giv g' :: linesL 0 b' = giv g :: linesL 0 b from h1)
  rw [giv_row, giv_row] at h2
  have h4 := (row_inj (ws_giv (by omega)) (ws_giv (by omega)) h2).2
  simp only [List.cons.injEq, and_true, true_and] at h4
  refine ⟨(num_inj h4).symm, ?_⟩
  exact (inj_L hg hg' (htL b + 1) b b' 0 [] [] hb hb' (Nat.lt_succ_self _) (.inl rfl) (.inl rfl) (by rw [List.append_nil, List.append_nil, h3])).1
end
end K7
set_option maxHeartbeats 4000000
/-! which statements show the word «given» -/
namespace K7
open PySem PySem.Spec PyProof.Rows L2 Evl
def Inf (y x : Str) : Prop := ∃ a b, TL.tl x = a ++ TL.tl y ++ b
theorem Inf.refl (x : Str) : Inf x x := ⟨[], [], by simp⟩
theorem Inf.trans {x y z : Str} (h : Inf x y) (k : Inf y z) : Inf x z := by
  obtain ⟨a, b, h⟩ := h
  obtain ⟨c, d, k⟩ := k
  exact ⟨c ++ a, b ++ d, by rw [k, h]; simp⟩
theorem inf_left {x y z : Str} (h : Inf x y) : Inf x (y ++ z) := by
  obtain ⟨a, b, h⟩ := h
  exact ⟨a, b ++ TL.tl z, by rw [TL.tl_append, h]; simp⟩
theorem inf_right {x y z : Str} (h : Inf x z) : Inf x (y ++ z) := by
  obtain ⟨a, b, h⟩ := h
  exact ⟨TL.tl y ++ a, b, by rw [TL.tl_append, h]; simp⟩
theorem found_of {x y : Str} (h : Inf y x) : (!(Builtin.Str.occurrences x y 0 x.length 1).isEmpty) = true := by
  obtain ⟨a, b, h⟩ := h
  refine (PySem.StrLaws.found_iff x y).mpr ⟨a.length, ?_, ?_⟩
  · rw [TL.len_tl, TL.len_tl, h, List.length_append, List.length_append]
    omega
  · rw [PySem.StrLaws.subAt_eq]
    have e : x.cps.toList = a ++ TL.tl y ++ b := h
    rw [e, List.append_assoc, List.drop_left, TL.len_tl y, List.take_left]
    exact beq_self_eq_true _
theorem inf_join {s x : Str} : ∀ {ts : List Str}, x ∈ ts → Inf x (Str.join s ts)
  | [], h => by cases h
  | [y], h => by
    rw [List.mem_singleton.mp h]
    exact Inf.refl y
  | y :: z :: r, h => by
    show Inf x (y ++ s ++ Str.join s (z :: r))
    rcases List.mem_cons.mp h with rfl | h
    · exact inf_left (inf_left (Inf.refl x))
    · exact inf_right (inf_join h)
theorem inf_tuple {x : Str} {ts : List Str} (h : x ∈ ts) : Inf x (tupleText ts) := by
  unfold tupleText
  exact inf_left (inf_right (inf_join h))
theorem mem_shown : ∀ {ds : List PyData} {d : PyData}, d ∈ ds → d.shown ∈ PyData.shownAll ds
  | [], d, h => by cases h
  | e :: r, d, h => by
    rw [PyData.shownAll]
    rcases List.mem_cons.mp h with rfl | h
    · exact List.mem_cons_self
    · exact List.mem_cons_of_mem _ (mem_shown h)
theorem inf_item {d : PyData} {ds : List PyData} {x : Str} (h : Inf x d.shown) (hd : d ∈ ds) : Inf x (PyData.tuple ds).shown := by
  rw [PyData.shown]
  exact h.trans (inf_tuple (mem_shown hd))
theorem inf_given : Inf "given" (PyData.str "given").shown := by
  rw [PyData.shown]
  exact ⟨[39], [39], by decide +kernel⟩
theorem inf_tst {t : Tst} {i : Nat} (h : t.bt = .giv i) : Inf "given" (encT t).shown := by
  unfold encT
  rw [h]
  generalize t.nots = n
  induction n with
  | zero => exact inf_item (ds := [.str "given", .int i]) inf_given List.mem_cons_self
  | succ n ih => exact inf_item (ds := [.str "not", encN n (encBt (.giv i))]) ih (List.mem_cons_of_mem _ List.mem_cons_self)
/-- statements without «given» are right for any number of givens -/
theorem tst_any {g g' : Nat} {t : Tst} (h : t.ok g) (hn : ¬ Inf "given" (encT t).shown) : t.ok g' := by
  refine ⟨h.1, ?_⟩
  have h2 := h.2
  cases e : t.bt with
  | giv i => exact absurd (inf_tst e) hn
  | set x => rw [e] at h2; exact h2
  | same x y => rw [e] at h2; exact h2
  | full x f => rw [e] at h2; exact h2
  | wished w => rw [e] at h2; exact h2
mutual
theorem okS_any {g g' : Nat} : ∀ s : Stm, okS g s → (∀ u ∈ flS s, ¬ Inf "given" (encS u).shown) → okS g' s
  | .pln p, h, hn => by
    have h1 : p.ok g := h
    have hn1 := hn (.pln p) (by rw [flS]; exact List.mem_cons_self)
    rw [encS] at hn1
    show p.ok g'
    cases p with
    | ask t => exact tst_any (t := t) h1 fun z => hn1 (inf_item (ds := [.str "ask", encT t]) z (List.mem_cons_of_mem _ List.mem_cons_self))
    | make x => exact h1
    | keep x => exact h1
    | drop x => exact h1
    | wish x w => exact h1
    | name x y => exact h1
    | hold x f y => exact h1
    | weak x f y => exact h1
    | cut x f => exact h1
    | take z x f => exact h1
    | say w => exact h1
  | .iff t y n, h, hn => by
    have hh : t.ok g ∧ okL g y ∧ okL g n := h
    have hn1 := hn (.iff t y n) (by rw [flS]; exact List.mem_cons_self)
    rw [encS] at hn1
    refine ⟨tst_any hh.1 fun z => hn1 (inf_item z (List.mem_cons_of_mem _ List.mem_cons_self)), okL_any y hh.2.1 fun u hu => hn u ?_, okL_any n hh.2.2 fun u hu => hn u ?_⟩
    · rw [flS]
      exact List.mem_cons_of_mem _ (List.mem_append_left _ hu)
    · rw [flS]
      exact List.mem_cons_of_mem _ (List.mem_append_right _ hu)
  | .rep k b, h, hn => by
    have hh : k ≤ 12 ∧ okL g b := h
    refine ⟨hh.1, okL_any b hh.2 fun u hu => hn u ?_⟩
    rw [flS]
    exact List.mem_cons_of_mem _ hu
theorem okL_any {g g' : Nat} : ∀ b : List Stm, okL g b → (∀ u ∈ flL b, ¬ Inf "given" (encS u).shown) → okL g' b
  | [], _, _ => trivial
  | s :: r, h, hn => by
    have hh : okS g s ∧ okL g r := h
    refine ⟨okS_any s hh.1 fun u hu => hn u ?_, okL_any r hh.2 fun u hu => hn u ?_⟩
    · rw [flL]
      exact List.mem_append_left _ hu
    · rw [flL]
      exact List.mem_append_right _ hu
end
/-! ### the size of what is shown -/
theorem good_shown {d : PyData} {n m : Nat} (h : Good d n m) (hn : n ≤ 64) (hm : m ≤ 1048576) : SeqAt.shaped d = true ∧ d.shown.length ≤ sizeLine := by
  refine ⟨?_, ?_⟩
  · unfold SeqAt.shaped
    rw [Bool.and_eq_true, decide_eq_true_iff]
    exact ⟨h.lay, Nat.le_trans h.dep hn⟩
  · refine Nat.le_trans (shown_le13 ?_ h.sho) (by decide)
    unfold PyData.layable0
    rw [h.lay, decide_eq_true (Nat.le_trans h.dep hn), decide_eq_true (Nat.le_trans h.wt hm)]
    rfl
theorem good_enc {g : Nat} {b : List Stm} (wd : Wd g b) : Good (enc g b) 20 4000 := by
  have h1 := good_L wd.g3 wd.ok
  have h2 := wd.ht
  have h3 := wd.cn
  have h4 := wd.g3
  exact (good_tup (good_cons (good_num (i := g) (n := 15) (by omega)) (good_cons ((good_tup h1).mono (by omega) (Nat.le_refl _)) (good_nil (m := 0))))).mono (by omega) (by omega)
end K7
set_option maxHeartbeats 4000000
/-! programs as data: like data, like programs -/
namespace K7
open PySem PySem.Spec PyProof.Rows L2 Evl
def kws : List Str := ["given", "set", "same", "full", "wished", "not", "make", "keep", "drop", "wish", "name", "hold", "weak", "cut", "take", "say", "ask", "if", "repeat"]
def kc (x : Str) : Nat := kws.idxOf x
/-- the place of the first word of a tuple -/
def fw : PyData → Nat
  | .tuple (.str x :: _) => kc x
  | _ => 99
theorem fw_bt (b : Bt) : fw (encBt b) = (match b with | .giv _ => 0 | .set _ => 1 | .same _ _ => 2 | .full _ _ => 3 | .wished _ => 4) := by
  cases b with
  | giv i => show kc "given" = 0; decide +kernel
  | set x => show kc "set" = 1; decide +kernel
  | same x y => show kc "same" = 2; decide +kernel
  | full x y => show kc "full" = 3; decide +kernel
  | wished x => show kc "wished" = 4; decide +kernel
theorem bt_inj {b c : Bt} (h : encBt b = encBt c) : b = c := by
  have h1 := congrArg fw h
  rw [fw_bt, fw_bt] at h1
  cases b <;> cases c <;> first
    | (exfalso; simp at h1; done)
    | skip
  · simp only [encBt, PyData.tuple.injEq, List.cons.injEq, PyData.int.injEq, and_true, true_and] at h
    rw [show (_ : Nat) = _ from Int.ofNat.inj h]
  · simp only [encBt, PyData.tuple.injEq, List.cons.injEq, PyData.str.injEq, and_true, true_and] at h
    rw [h]
  · simp only [encBt, PyData.tuple.injEq, List.cons.injEq, PyData.str.injEq, and_true, true_and] at h
    rw [h.1, h.2]
  · simp only [encBt, PyData.tuple.injEq, List.cons.injEq, PyData.str.injEq, and_true, true_and] at h
    rw [h.1, h.2]
  · simp only [encBt, PyData.tuple.injEq, List.cons.injEq, PyData.str.injEq, and_true, true_and] at h
    rw [h]
theorem fw_not (d : PyData) : fw (.tuple [.str "not", d]) = 5 := by
  show kc "not" = 5
  decide +kernel
theorem fw_lt (b : Bt) : fw (encBt b) < 5 := by
  rw [fw_bt]
  cases b <;> simp
theorem encN_inj {b c : Bt} : ∀ {m n : Nat}, encN m (encBt b) = encN n (encBt c) → m = n ∧ b = c
  | 0, 0, h => ⟨rfl, bt_inj h⟩
  | m + 1, 0, h => by
    have h1 := congrArg fw h
    have h2 := fw_lt c
    have h3 := fw_not (encN m (encBt b))
    have h4 : fw (encN (m + 1) (encBt b)) = 5 := h3
    have h5 : fw (encN 0 (encBt c)) = fw (encBt c) := rfl
    omega
  | 0, n + 1, h => by
    have h1 := congrArg fw h
    have h2 := fw_lt b
    have h4 : fw (encN (n + 1) (encBt c)) = 5 := fw_not _
    have h5 : fw (encN 0 (encBt b)) = fw (encBt b) := rfl
    omega
  | m + 1, n + 1, h => by
    have h1 : PyData.tuple [.str "not", encN m (encBt b)] = .tuple [.str "not", encN n (encBt c)] := h
    simp only [PyData.tuple.injEq, List.cons.injEq, and_true, true_and] at h1
    obtain ⟨e1, e2⟩ := encN_inj h1
    exact ⟨by omega, e2⟩
theorem encT_inj {t u : Tst} (h : encT t = encT u) : t = u := by
  obtain ⟨h1, h2⟩ := encN_inj (show encN t.nots (encBt t.bt) = encN u.nots (encBt u.bt) from h)
  cases t
  cases u
  simp only at h1 h2
  rw [h1, h2]
def pwc (p : Pln) : Nat := match p with
  | .make _ => 6 | .keep _ => 7 | .drop _ => 8 | .wish _ _ => 9 | .name _ _ => 10 | .hold _ _ _ => 11 | .weak _ _ _ => 12 | .cut _ _ => 13 | .take _ _ _ => 14 | .say _ => 15 | .ask _ => 16
theorem fw_pln (p : Pln) : fw (encP p) = pwc p := by
  cases p with
  | make x => show kc "make" = 6; decide +kernel
  | keep x => show kc "keep" = 7; decide +kernel
  | drop x => show kc "drop" = 8; decide +kernel
  | wish x y => show kc "wish" = 9; decide +kernel
  | name x y => show kc "name" = 10; decide +kernel
  | hold x y z => show kc "hold" = 11; decide +kernel
  | weak x y z => show kc "weak" = 12; decide +kernel
  | cut x y => show kc "cut" = 13; decide +kernel
  | take x y z => show kc "take" = 14; decide +kernel
  | say x => show kc "say" = 15; decide +kernel
  | ask x => show kc "ask" = 16; decide +kernel
theorem encP_inj {p q : Pln} (h : encP p = encP q) : p = q := by
  have h1 := congrArg fw h
  rw [fw_pln, fw_pln] at h1
  cases p <;> cases q <;> first
    | (exfalso; simp [pwc] at h1; done)
    | (simp only [encP, PyData.tuple.injEq, List.cons.injEq, PyData.str.injEq, and_true, true_and] at h; rw [h]; done)
    | (simp only [encP, PyData.tuple.injEq, List.cons.injEq, PyData.str.injEq, and_true, true_and] at h; rw [h.1, h.2]; done)
    | (simp only [encP, PyData.tuple.injEq, List.cons.injEq, PyData.str.injEq, and_true, true_and] at h; rw [h.1, h.2.1, h.2.2]; done)
    | (simp only [encP, PyData.tuple.injEq, List.cons.injEq, and_true, true_and] at h; rw [encT_inj h]; done)
theorem fw_iff (t : Tst) (y n : List Stm) : fw (encS (.iff t y n)) = 17 := by
  rw [encS]
  show kc "if" = 17
  decide +kernel
theorem fw_rep (k : Nat) (b : List Stm) : fw (encS (.rep k b)) = 18 := by
  rw [encS]
  show kc "repeat" = 18
  decide +kernel
theorem pwc_lt (p : Pln) : pwc p < 17 := by cases p <;> simp [pwc]
mutual
theorem encS_inj : ∀ (s u : Stm), encS s = encS u → s = u
  | .pln p, .pln q, h => by
    rw [encS, encS] at h
    rw [encP_inj h]
  | .iff t y n, .iff t' y' n', h => by
    rw [encS, encS] at h
    simp only [PyData.tuple.injEq, List.cons.injEq, and_true, true_and] at h
    rw [encT_inj h.1, encL_inj y y' h.2.1, encL_inj n n' h.2.2]
  | .rep k b, .rep k' b', h => by
    rw [encS, encS] at h
    simp only [PyData.tuple.injEq, List.cons.injEq, PyData.int.injEq, and_true, true_and] at h
    rw [encL_inj b b' h.2, show k = k' from Int.ofNat.inj h.1]
  | .pln p, .iff t y n, h => by
    have h1 := congrArg fw h
    rw [fw_iff] at h1
    have h2 := fw_pln p
    have h3 := pwc_lt p
    rw [encS] at h1
    omega
  | .pln p, .rep k b, h => by
    have h1 := congrArg fw h
    rw [fw_rep] at h1
    have h2 := fw_pln p
    have h3 := pwc_lt p
    rw [encS] at h1
    omega
  | .iff t y n, .pln p, h => by
    have h1 := congrArg fw h
    rw [fw_iff] at h1
    have h2 := fw_pln p
    have h3 := pwc_lt p
    rw [encS] at h1
    omega
  | .rep k b, .pln p, h => by
    have h1 := congrArg fw h
    rw [fw_rep] at h1
    have h2 := fw_pln p
    have h3 := pwc_lt p
    rw [encS] at h1
    omega
  | .iff t y n, .rep k b, h => by
    have h1 := congrArg fw h
    rw [fw_rep, fw_iff] at h1
    omega
  | .rep k b, .iff t y n, h => by
    have h1 := congrArg fw h
    rw [fw_rep, fw_iff] at h1
    omega
theorem encL_inj : ∀ (b c : List Stm), encL b = encL c → b = c
  | [], [], _ => rfl
  | s :: r, u :: q, h => by
    rw [encL, encL] at h
    obtain ⟨h1, h2⟩ := List.cons.inj h
    rw [encS_inj s u h1, encL_inj r q h2]
  | [], u :: q, h => by
    rw [encL, encL] at h
    cases h
  | s :: r, [], h => by
    rw [encL, encL] at h
    cases h
end
/-! ### equal as Python says -/
mutual
def pl : PyData → Bool
  | .tuple xs => plA xs
  | .int _ | .str _ => true
  | .none | .bool _ | .list _ | .dict _ => false
def plA : List PyData → Bool
  | [] => true
  | x :: xs => pl x && plA xs
end
mutual
theorem eqv_eq : ∀ (d e : PyData), pl d = true → pl e = true → PyData.eqv d e = true → d = e
  | .int i, .int j, _, _, h => by
    simp only [PyData.eqv, beq_iff_eq] at h
    rw [h]
  | .str x, .str y, _, _, h => by
    simp only [PyData.eqv, beq_iff_eq] at h
    rw [h]
  | .tuple xs, .tuple ys, h1, h2, h => by
    simp only [PyData.eqv] at h
    simp only [pl] at h1 h2
    rw [eqvA_eq xs ys h1 h2 h]
  | .int _, .str _, _, _, h | .int _, .tuple _, _, _, h | .str _, .int _, _, _, h | .str _, .tuple _, _, _, h | .tuple _, .int _, _, _, h | .tuple _, .str _, _, _, h => by simp [PyData.eqv] at h
  | .none, _, h, _, _ | .bool _, _, h, _, _ | .list _, _, h, _, _ | .dict _, _, h, _, _ => by simp [pl] at h
  | .int _, .none, _, h, _ | .int _, .bool _, _, h, _ | .int _, .list _, _, h, _ | .int _, .dict _, _, h, _ => by simp [pl] at h
  | .str _, .none, _, h, _ | .str _, .bool _, _, h, _ | .str _, .list _, _, h, _ | .str _, .dict _, _, h, _ => by simp [pl] at h
  | .tuple _, .none, _, h, _ | .tuple _, .bool _, _, h, _ | .tuple _, .list _, _, h, _ | .tuple _, .dict _, _, h, _ => by simp [pl] at h
theorem eqvA_eq : ∀ (xs ys : List PyData), plA xs = true → plA ys = true → PyData.eqvAll xs ys = true → xs = ys
  | [], [], _, _, _ => rfl
  | x :: xs, y :: ys, h1, h2, h => by
    simp only [PyData.eqvAll, Bool.and_eq_true] at h
    simp only [plA, Bool.and_eq_true] at h1 h2
    rw [eqv_eq x y h1.1 h2.1 h.1, eqvA_eq xs ys h1.2 h2.2 h.2]
  | [], _ :: _, _, _, h => by simp [PyData.eqvAll] at h
  | _ :: _, [], _, _, h => by simp [PyData.eqvAll] at h
end
theorem pl_T (t : Tst) : pl (encT t) = true := by
  have hb : pl (encBt t.bt) = true := by cases t.bt <;> simp [encBt, pl, plA]
  unfold encT
  generalize t.nots = n
  induction n with
  | zero => exact hb
  | succ n ih => simp [encN, pl, plA, ih]
theorem pl_P (p : Pln) : pl (encP p) = true := by cases p <;> simp [encP, pl, plA, pl_T]
mutual
theorem pl_S : ∀ s : Stm, pl (encS s) = true
  | .pln p => by
    rw [encS]
    exact pl_P p
  | .iff t y n => by
    rw [encS]
    simp [pl, plA, pl_T, pl_L y, pl_L n]
  | .rep k b => by
    rw [encS]
    simp [pl, plA, pl_L b]
theorem pl_L : ∀ b : List Stm, plA (encL b) = true
  | [] => by
    rw [encL]
    simp [plA]
  | s :: r => by
    rw [encL]
    simp [plA, pl_S s, pl_L r]
end
theorem pl_enc (g : Nat) (b : List Stm) : pl (enc g b) = true := by
  unfold enc
  simp [pl, plA, pl_L]
/-- the texts are alike just where the programs are -/
theorem text_eqv {g : Nat} {b b' : List Stm} (wd : Wd g b) (wd' : Wd g b') : decide (progText g b' = progText g b) = PyData.eqv (enc g b') (enc g b) := by
  by_cases e : b' = b
  · rw [e, decide_eq_true rfl, SeqAt.eqv_refl _ (good_enc wd).lay]
  · rw [decide_eq_false fun z => e (text_inj wd'.g3 wd.g3 wd'.ok wd.ok z).2]
    cases q : PyData.eqv (enc g b') (enc g b) with
    | false => rfl
    | true =>
      have z := eqv_eq _ _ (pl_enc g b') (pl_enc g b) q
      unfold enc at z
      simp only [PyData.tuple.injEq, List.cons.injEq, and_true, true_and] at z
      exact absurd (encL_inj b' b z) e
end K7
set_option maxHeartbeats 4000000
/-! _law_deck, law -/
namespace K7
open PySem PySem.Spec PyProof.Rows L2 Evl
theorem cr_reprK {X : Cx} (K : PySem.W.Frag) (hK : X.K = K := by rfl) (hg : X.A.guards = some [] := by rfl) (hu : X.A.units + 100 < cLine := by first | (show callerA.units + 3 + 100 < cLine; decide)) : CallR X (.builtin "repr") (rRepr K) := by
  subst hK
  exact cr_reprD hg hu
theorem s_retLst2 {σ : L2.St} {H : Hp} {te : TE} {xs : List V} {c : V} {D : Ends} (h : EvL te σ H xs) (k : ∀ C H1, H C = none → Ex H H1 → H1 C = some (.lst xs) → ∀ p, H1 p = none → D.rt (.ref p) (upd H1 p (.lst [.ref C, c]))) : tRet (tLst (tCons te (tCons (tC c) tNil))) D σ H :=
  h H (Ex.refl H) _ fun C H1 hC e1 h1 => ⟨by show 2 ≤ sizeLine; decide, fun p hp => k C H1 hC e1 h1 p hp⟩
section
variable {P : Program} {w : World} {K : PySem.W.Frag} {mg : Str → Option Value} {base : Heap}
def spDeck (K : PySem.W.Frag) : Sp := fun vs H Q _ => ∃ (a : Addr) (ns : List Int), vs = [.ref a] ∧ SqL K H a (ns.map V.int) ∧ ns.length ≤ 1000 ∧ ∀ D C H', H D = none → H C = none → Ex H H' → Deck K D C 0 H' → Q (.ref D) H'
theorem ok_deck (T : Txt w K mg) : FOk P w K mg base 1 "_law_deck" (spDeck K) := by
  refine fok T.f__law_deck T.g__law_deck sc__law_deck (fun _ _ _ _ _ _ us hl => match us, hl with | [_], _ => rfl) (fun vs H Q E h => ?_) (fun cdv A outer s H vs Q E hr h => ?_)
  · obtain ⟨a, ns, rfl, _⟩ := h
    rfl
  obtain ⟨a, ns, rfl, hs, hn, k⟩ := h
  have nd := sc__law_deck.nd
  refine ⟨_, (pss_one (ps_ret (pe_lst (pa_cons (pe_lc (own := [("_law_cell", 1)]) (g := gName 1) rfl nd (pi_list (pe_slice sl_list (pv 0) po_none (po_some pe_int))) (blkOk_by (own := [("_law_cell", 1)]) (N := N__law_deck) (sc := defScope s__law_deck) (by decide +kernel)) (fun _ _ _ _ _ => (pg_name (i := 1) nd rfl (Or.inl rfl))) (fun _ _ _ _ _ => pts_nil) (fun _ _ _ _ _ => (pe_callB call_abs (by rfl) T.z_abs (by decide +kernel) (pa_cons (pv 1) pa_nil)))) (pa_cons pe_int pa_nil))))), ?_⟩
  have hcut : ∃ ms : List Int, cutV (ns.map V.int) none (some 63) = ms.map V.int ∧ ms.length ≤ 63 := by
    refine ⟨(ns.drop 0).take 63, ?_, by rw [List.length_take]; omega⟩
    unfold cutV
    rw [HT.sIx_none, List.drop_zero, List.drop_zero, Nat.sub_zero, List.map_take]
    show (ns.map V.int).take (HT.sIx (ns.map V.int).length (ns.map V.int).length (some ((63 : Nat) : Int))) = _
    rw [HT.sIx_nat]
    by_cases h : 63 ≤ (ns.map V.int).length
    · rw [Nat.min_eq_left h]
    · rw [Nat.min_eq_right (by omega), List.take_of_length_le (Nat.le_refl _), List.take_of_length_le (by omega)]
  obtain ⟨ms, hms, hml⟩ := hcut
  have hsl := el_sl (K := K) (σ := start N__law_deck [.ref a]) (H := H) (te := tVar 0) (tl := tNoPart) (th := tPart (tC (.int 63))) (ev_var rfl) eo_none (eo_some (i := 63) ev_c) hs
  rw [hms] at hsl
  have hlc := el_lcNL (K := K) (σ := start N__law_deck [.ref a]) (H := H) (j := 1) (vs := [1]) (t := tYes) (te := tCB (fun xs H Q => ∃ i, xs = [V.int i] ∧ Q (.int (if i < 0 then -i else i)) H) (tCons (tVar 1) tNil)) (fun _ => true) (fun i => .int (((ms.getD i 0).natAbs : Nat) : Int)) hsl (by rw [List.length_map]; omega) (fun _ => rfl) (fun _ _ _ _ _ => et_yes) (fun i x H1 e1 hx _ => by
    rw [List.getElem?_map] at hx
    obtain ⟨z, hz, rfl⟩ := Option.map_eq_some_iff.mp hx
    have e : ms.getD i 0 = z := by rw [List.getD_eq_getElem?_getD, hz]; rfl
    rw [e]
    refine fun H2 e2 Q q => ⟨_, rfl, z, rfl, ?_⟩
    have e3 : (if z < 0 then -z else z) = ((z.natAbs : Nat) : Int) := by split <;> omega
    rw [e3]
    exact q H2 (Ex.refl H2))
  rw [List.length_map, given_all (xs := ms) (f := fun z => V.int ((z.natAbs : Nat) : Int)) (fun i z hz => by
    have e : ms.getD i 0 = z := by rw [List.getD_eq_getElem?_getD, hz]; rfl
    rw [e])] at hlc
  refine s_retLst2 hlc fun C H1 hC e1 h1 D hD => ?_
  have hne : D ≠ C := fun z => by
    rw [z, h1] at hD
    cases hD
  refine k D C _ (fresh_back e1 hD) hC (e1.trans (Ex.new hD)) ⟨ms.map Int.natAbs, upd_same, ?_, by rw [List.length_map]; omega, hne⟩
  rw [upd_ne hne.symm, h1, List.map_map]
  rfl
/-! ### law: readings -/
mutual
theorem fl_S {g : Nat} : ∀ (s : Stm), okS g s → ∀ u ∈ flS s, okS g u ∧ htS u ≤ htS s ∧ cnS u ≤ cnS s
  | .pln p, h, u, hu => by
    rw [flS] at hu
    rw [List.mem_singleton.mp hu]
    exact ⟨h, Nat.le_refl _, Nat.le_refl _⟩
  | .iff t y n, h, u, hu => by
    have hh : t.ok g ∧ okL g y ∧ okL g n := h
    rw [flS] at hu
    rcases List.mem_cons.mp hu with rfl | hu
    · exact ⟨h, Nat.le_refl _, Nat.le_refl _⟩
    · rw [htS, cnS]
      rcases List.mem_append.mp hu with hu | hu
      · obtain ⟨a, b, c⟩ := fl_L y hh.2.1 u hu
        exact ⟨a, by omega, by omega⟩
      · obtain ⟨a, b, c⟩ := fl_L n hh.2.2 u hu
        exact ⟨a, by omega, by omega⟩
  | .rep k b, h, u, hu => by
    have hh : k ≤ 12 ∧ okL g b := h
    rw [flS] at hu
    rcases List.mem_cons.mp hu with rfl | hu
    · exact ⟨h, Nat.le_refl _, Nat.le_refl _⟩
    · rw [htS, cnS]
      obtain ⟨a, b, c⟩ := fl_L b hh.2 u hu
      exact ⟨a, by omega, by omega⟩
theorem fl_L {g : Nat} : ∀ (b : List Stm), okL g b → ∀ u ∈ flL b, okS g u ∧ htS u ≤ htL b ∧ cnS u ≤ cnL b
  | [], _, u, hu => by
    rw [flL] at hu
    cases hu
  | s :: r, h, u, hu => by
    have hh : okS g s ∧ okL g r := h
    rw [flL] at hu
    rw [htL, cnL]
    rcases List.mem_append.mp hu with hu | hu
    · obtain ⟨a, b, c⟩ := fl_S s hh.1 u hu
      exact ⟨a, by omega, by omega⟩
    · obtain ⟨a, b, c⟩ := fl_L r hh.2 u hu
      exact ⟨a, by omega, by omega⟩
end
theorem fl_len (b : List Stm) : (flL b).length = cnL b := by rw [← dfL_snd 0 b, List.length_map, dfL_len]
theorem goodAll_of {n m : Nat} : ∀ {ds : List PyData}, (∀ d ∈ ds, Good d n m) → GoodAll ds n (ds.length * (m + 1))
  | [], _ => by
    exact good_nil.mono (Nat.le_refl _) (Nat.zero_le _)
  | d :: r, h => (good_cons (h d List.mem_cons_self) (goodAll_of fun e he => h e (List.mem_cons_of_mem _ he))).mono (Nat.le_refl _) (by rw [List.length_cons, Nat.succ_mul]; omega)
theorem shaped_list {ds : List PyData} {n m : Nat} (h : GoodAll ds n m) (hn : n ≤ 60) : SeqAt.shaped (.list ds) = true := by
  have h1 := h.lay
  have h2 := h.dep
  unfold SeqAt.shaped
  rw [Bool.and_eq_true, decide_eq_true_iff]
  refine ⟨by simp [PyData.canLay0, h1], ?_⟩
  simp only [PyData.depth]
  omega
/-- does a statement show the word -/
def hasB (s : Stm) : Bool := !(Builtin.Str.occurrences (encS s).shown "given" 0 (encS s).shown.length 1).isEmpty
theorem good_flat {g : Nat} {b : List Stm} (wd : Wd g b) : ∀ u ∈ flL b, Good (encS u) 20 4000 := fun u hu => by
  obtain ⟨h1, h2, h3⟩ := fl_L b wd.ok u hu
  have h4 := wd.ht
  have h5 := wd.cn
  exact (good_S wd.g3 h1).mono (by omega) (by omega)
theorem no_inf {u : Stm} (h : hasB u = false) : ¬ Inf "given" (encS u).shown := fun hi => by
  have z := found_of hi
  unfold hasB at h
  rw [z] at h
  cases h
theorem wd_any {g g' : Nat} {b : List Stm} (wd : Wd g b) (hg : g' ≤ 3) (h : ∀ u ∈ flL b, hasB u = false) : Wd g' b := ⟨hg, okL_any b wd.ok fun u hu => no_inf (h u hu), wd.ht, wd.cn, wd.wt, wd.wi⟩
theorem encS_tup (s : Stm) : ∃ ds, encS s = .tuple ds := by
  cases s with
  | iff t y n => exact ⟨_, by rw [encS]⟩
  | rep k b => exact ⟨_, by rw [encS]⟩
  | pln p => cases p <;> exact ⟨_, by rw [encS, encP]⟩
def sel (vals : List V) (bs : List Bool) : List V := ((vals.zip bs).filter (·.2)).map (·.1)
theorem sel_dp {K : PySem.W.Frag} {H : Hp} {f : Stm → Bool} : ∀ {ss : List Stm} {vals : List V}, DpAll K H vals (ss.map encS) → DpAll K H (sel vals (ss.map f)) ((ss.filter f).map encS)
  | [], _, h => by
    rw [dpAll_nil h]
    exact .nil
  | s :: r, vals, h => by
    obtain ⟨v, us, rfl, h1, h2⟩ := dpAll_cons (show DpAll K H vals (encS s :: r.map encS) from h)
    have ih := sel_dp (f := f) h2
    unfold sel at *
    cases hf : f s with
    | true =>
      rw [List.filter_cons_of_pos hf]
      simp only [List.map_cons, List.zip_cons_cons, hf]
      rw [List.filter_cons_of_pos rfl]
      exact .cons h1 ih
    | false =>
      rw [List.filter_cons_of_neg (by simp [hf])]
      simp only [List.map_cons, List.zip_cons_cons, hf]
      rw [List.filter_cons_of_neg (by simp)]
      exact ih
section
variable {K : PySem.W.Frag} {σ : L2.St} {H H' : Hp} {ta tb te tl : TE} {tt : TT} {R R' : List V → Hp → Prop} {D : Ends} {tz : TS}
theorem ev_reprP {ds : List PyData} {n m : Nat} (h : EvP te σ H (fun v H' => Dp K H' v (.tuple ds))) (gd : Good (.tuple ds) n m) (hn : n ≤ 64) (hm : m ≤ 1048576) : Ev (tCB (rRepr K) (tCons te tNil)) σ H (.str (PyData.tuple ds).shown) := fun H1 e Q q => h H1 e _ fun v H2 e2 hd => by
  obtain ⟨a, xs, rfl, hs, _⟩ := dp_tup hd
  exact ⟨a, _, rfl, hd, gd.lay, Nat.le_trans gd.dep hn, gd.sh, (good_shown gd hn hm).2, q H2 e2⟩
theorem ep_varD {i : Nat} {v : V} {d : PyData} (h : σ[i]? = some (some v)) (hd : Dp K H v d) : EvP (tVar i) σ H (fun v H' => Dp K H' v d) := ep_imp (ep_of (ev_var h)) fun u H1 e eu => by
  rw [eu]
  exact same_dp e hd
theorem ev_neSS {x : Str} (ha : Ev ta σ H (.str x)) (hb : Ev tb σ H (.str x)) : Ev (tOp rNe ta tb) σ H (.bl false) := ev_is (ev_op ha hb (rv_ne rfl)) (by rw [decide_eq_true rfl]; rfl)
theorem ev_eqD {x y : V} {d e : PyData} (ha : Ev ta σ H x) (hb : Ev tb σ H y) (hx : Dp K H x d) (hy : Dp K H y e) (sd : SeqAt.shaped d = true) (se : SeqAt.shaped e = true) : Ev (tOp (rEqD K) ta tb) σ H (.bl (PyData.eqv d e)) :=
  ev_op ha hb fun H1 e1 Q q => ⟨d, e, same_dp e1 hx, same_dp e1 hy, sd, se, q H1 (Ex.refl H1)⟩
theorem ev_neDP {y : V} {d : PyData} (ha : EvP ta σ H (fun v H' => Dp K H' v d)) (hb : ∀ H1, Ex H H1 → Ev tb σ H1 y) (hy : Dp K H y d) (sd : SeqAt.shaped d = true) (lay : d.canLay0 = true) : Ev (tOp (rNeD K) ta tb) σ H (.bl false) := fun H1 e Q q =>
  ha H1 e _ fun v H2 e2 hv => hb H2 (e.trans e2) H2 (Ex.refl H2) _ fun H3 e3 => ⟨d, d, same_dp e3 hv, same_dp ((e.trans e2).trans e3) hy, sd, sd, by rw [SeqAt.eqv_refl d lay]; exact q H3 (e2.trans e3)⟩
/-- [e for x, y in list of pairs if ..] -/
theorem elp_lcPT {j l : Nat} (h : EvLP tl σ H R) (hw : ∀ x y, wipe (((wipe σ [j, l]).set j (some x)).set l (some y)) [j, l] = wipe σ [j, l])
    (hR : ∀ ps H1, Ex H H1 → R ps H1 → ∃ (vals : List V) (bs : List Bool), vals.length = ps.length ∧ bs.length = ps.length ∧ ps.length ≤ 40000 ∧ (∀ (i : Nat) (p v : V) (b : Bool), ps[i]? = some p → vals[i]? = some v → bs[i]? = some b → ∃ a x y, p = .ref a ∧ SqT K H1 a [x, y] ∧ EvT tt (((wipe σ [j, l]).set j (some x)).set l (some y)) H1 b ∧ Ev te (((wipe σ [j, l]).set j (some x)).set l (some y)) H1 v) ∧ ∀ H2, Ex H1 H2 → R' (sel vals bs) H2) :
    EvLP (tLc (iList K tl) (gTup K 2 (gCons (gName j) (gCons (gName l) gNil))) tt te [j, l]) σ H R' := fun H0 e Q q => h H0 e _ fun a H1 xs ha e1 hs hr => by
  obtain ⟨vals, bs, hl, hbl, hz, hev, hR'⟩ := hR xs H1 (e.trans e1) hr
  refine ⟨a, rfl, ⟨xs, sq_of hs⟩, fun Dl hD => ?_⟩
  refine lc_it (te := te) (tt := tt) (vs := [j, l]) (σ := σ) (walk_list (xs := xs)) (fun i H' => H1 Dl = none ∧ Ex H1 H' ∧ H' Dl = some (.lst ((((vals.zip bs).take i).filter (·.2)).map (·.1)))) ⟨hD, Ex.new hD, upd_same⟩ (fun i H' _ hP => ex_l hP.2.1 (sq_of hs)) (fun i x H2 H3 hi hP y => ?_) (fun H2 hP => ?_)
  · obtain ⟨hd, hex, hlst⟩ := hP
    obtain ⟨rfl, hx⟩ := y
    have hv : i < vals.length := by omega
    have hb : i < bs.length := by omega
    obtain ⟨ap, x1, y1, rfl, hap, ht, hev⟩ := hev i x _ _ hx (List.getElem?_eq_getElem hv) (List.getElem?_eq_getElem hb)
    have hzip : (vals.zip bs)[i]? = some (vals[i], bs[i]) := by
      rw [List.getElem?_zip_eq_some]
      exact ⟨List.getElem?_eq_getElem hv, List.getElem?_eq_getElem hb⟩
    refine ⟨ap, _, rfl, ex_t hex hap, rfl, _, _, rfl, _, _, rfl, rfl, hw _ _, ?_⟩
    refine ht _ hex _ fun H4 e4 => ?_
    have e14 := hex.trans e4
    cases hbi : bs[i] with
    | true =>
      show te _ H4 _
      refine hev _ e14 _ fun H5 e5 => ⟨_, e5 Dl _ (e4 Dl _ hlst), sz_lt ?_, hd, Ex.mut (e14.trans e5) hd, ?_⟩
      · rw [List.length_map]
        have h1 := List.length_filter_le (fun x : V × Bool => x.2) ((vals.zip bs).take i)
        rw [List.length_take] at h1
        omega
      · rw [upd_same, List.take_add_one, hzip, hbi, List.filter_append, List.map_append]
        rfl
    | false =>
      show _ ∧ _ ∧ _
      refine ⟨hd, e14, ?_⟩
      rw [e4 Dl _ hlst, List.take_add_one, hzip, hbi, List.filter_append, List.map_append]
      simp
  · have e2 : (vals.zip bs).take xs.length = vals.zip bs := List.take_of_length_le (by rw [List.length_zip]; omega)
    rw [e2] at hP
    exact q Dl H2 _ (fresh_back e1 hP.1) (e1.trans hP.2.1) hP.2.2 (hR' H2 hP.2.1)
end
/-! ### law -/
theorem law_body (T : Txt w K mg) {f : Addr} {cdv : Value} {s : Shared} {H : Hp} {a : Addr} {ns : List Int} {Q : VK} {E : XK} (hr : Room 41 (callerA.deeper (envOfC "law" (defScope s_law) s.heap.objs.size f cdv))) (hs : SqL K H a (ns.map V.int)) (hn : ns.length ≤ 1000)
    (k : ∀ H', Q (.bl true) H') : ∃ t, PSs (cxOf CX0 P w K mg base N_law "law" (defScope s_law) f cdv callerA [] s H E).nox (defBody s_law) t ∧ t { nx := fun _ H' => Q .non H', rt := Q } (start N_law [.ref a]) H := by
  have G__law_deck : FOk P w K mg base 1 "_law_deck" (spDeck K) := ok_deck T
  have G__law_draw : FOk P w K mg base 1 "_law_draw" (spDraw K) := ok_draw T
  have G__law_free : FOk P w K mg base 16 "_law_free" (spFree K) := ok_free T
  have G__law_row : FOk P w K mg base 4 "_law_row" (spRow K) := ok_row T
  have G__law_flat : FOk P w K mg base 8 "_law_flat" (spFlat K 6) := ok_flat T 6
  have G__law_put : FOk P w K mg base 11 "_law_put" (spPut K 6) := ok_put T 6
  have G_program_text : FOk P w K mg base 10 "program_text" (spProgText K) := ok_program_text T
  have G_parse_program : FOk P w K mg base 40 "parse_program" (spParse K) := ok_parse_program T
  have nd := sc_law.nd
  refine ⟨_, (pss_cons (ps_set (i := 1) nd rfl (Or.inl rfl) (pe_f G__law_deck (hr.mono (by omega)) (pa_cons (pv 0) pa_nil))) (pss_cons (ps_for PassesOwn.never rfl (pi_range1 (by rfl) T.z_range (pa_cons pe_int pa_nil)) (pg_name (i := 2) nd rfl (Or.inl rfl)) (pss_cons (ps_asg (pe_f G__law_free (hr.mono (by omega)) (pa_cons (pv 1) (pa_cons (pe_op op_add pe_int (pe_f G__law_draw (hr.mono (by omega)) (pa_cons (pv 1) (pa_cons pe_int pa_nil)))) pa_nil))) (pg_tup rfl (pgs_cons (pg_name (i := 3) nd rfl (Or.inl rfl)) (pgs_cons (pg_name (i := 4) nd rfl (Or.inl rfl)) pgs_nil)))) (pss_cons (ps_set (i := 5) nd rfl (Or.inl rfl) (pe_f G_program_text (hr.mono (by omega)) (pa_cons (pv 3) pa_nil))) (pss_cons (ps_set (i := 6) nd rfl (Or.inl rfl) (pe_f G_parse_program (hr.mono (by omega)) (pa_cons (pv 5) pa_nil))) (pss_cons (ps_if (PW.pt (pw_or (pt_cmpR op_ne (pe_callB (cr_reprK K) (by rfl) T.z_repr (by decide +kernel) (pa_cons (pv 6) pa_nil)) (pe_callB (cr_reprK K) (by rfl) T.z_repr (by decide +kernel) (pa_cons (pv 3) pa_nil)) (nomark _)) (pw_or (pt_cmpR op_ne (pe_f G_program_text (hr.mono (by omega)) (pa_cons (pv 6) pa_nil)) (pv 5) (nomark _)) (pw_or1 (pt_cmpR op_ne (pe_callB (cr_reprK K) (by rfl) T.z_repr (by decide +kernel) (pa_cons (pe_f G_parse_program (hr.mono (by omega)) (pa_cons (pv 5) pa_nil)) pa_nil)) (pe_callB (cr_reprK K) (by rfl) T.z_repr (by decide +kernel) (pa_cons (pv 3) pa_nil)) (nomark _)))))) (pss_one (ps_ret pe_bl)) pss_nil) (pss_cons (ps_set (i := 7) nd rfl (Or.inl rfl) (pe_callB call_len_seq (by rfl) T.z_len PySem.boot_len (pa_cons (pe_f G__law_flat (hr.mono (by omega)) (pa_cons (pe_ix ix_tup (pv 3) pe_int (fun _ _ => rfl)) (pa_cons pe_int pa_nil))) pa_nil))) (pss_cut (ps_if (pt_cmpR op_gt (pv 7) pe_int (nomark _)) (pss_cons (ps_set (i := 8) nd rfl (Or.inl rfl) (pe_tup (pa_cons (pe_ix ix_tup (pv 3) pe_int (fun _ _ => rfl)) (pa_cons (pe_f G__law_put (hr.mono (by omega)) (pa_cons (pe_ix ix_tup (pv 3) pe_int (fun _ _ => rfl)) (pa_cons (pe_f G__law_draw (hr.mono (by omega)) (pa_cons (pv 1) (pa_cons (pv 7) pa_nil))) (pa_cons (pe_f G__law_row (hr.mono (by omega)) (pa_cons (pv 1) (pa_cons (pv 4) pa_nil))) pa_nil)))) pa_nil)))) (pss_cons (ps_set (i := 9) nd rfl (Or.inl rfl) (pe_f G_program_text (hr.mono (by omega)) (pa_cons (pv 8) pa_nil))) (pss_one (ps_if (PW.pt (pw_or (pt_cmpR op_ne (pe_cmpR op_eq (pv 9) (pv 5) (nomark _)) (pe_cmpR (op_eqD hr.units) (pv 8) (pv 3) (nomark _)) (nomark _)) (pw_or1 (pt_cmpR op_ne (pe_callB (cr_reprK K) (by rfl) T.z_repr (by decide +kernel) (pa_cons (pe_f G_parse_program (hr.mono (by omega)) (pa_cons (pv 9) pa_nil)) pa_nil)) (pe_callB (cr_reprK K) (by rfl) T.z_repr (by decide +kernel) (pa_cons (pv 8) pa_nil)) (nomark _))))) (pss_one (ps_ret pe_bl)) pss_nil)))) pss_nil) (pss_cons (ps_set (i := 8) nd rfl (Or.inl rfl) (pe_tup (pa_cons (pe_op op_modN (pe_op op_add (pe_ix ix_tup (pv 3) pe_int (fun _ _ => rfl)) pe_int) pe_int) (pa_cons (pe_ix ix_tup (pv 3) pe_int (fun _ _ => rfl)) pa_nil)))) (pss_cons (ps_setLc (i := 12) (own := [("_law_depth", 10), ("_law_row_here", 11)]) (g := gTup K 2 (gCons (gName 10) (gCons (gName 11) gNil))) rfl nd rfl rfl (sw_true rfl rfl rfl (by decide +kernel)) (pi_list (pe_f G__law_flat (hr.mono (by omega)) (pa_cons (pe_ix ix_tup (pv 3) pe_int (fun _ _ => rfl)) (pa_cons pe_int pa_nil)))) (blkOk_by (own := [("_law_depth", 10), ("_law_row_here", 11)]) (N := N_law) (sc := defScope s_law) (by decide +kernel)) (fun _ _ _ _ _ => (pg_tup rfl (pgs_cons (pg_name (i := 10) nd rfl (Or.inl rfl)) (pgs_cons (pg_name (i := 11) nd rfl (Or.inl rfl)) pgs_nil)))) (fun _ _ _ _ _ => (pts_one (pt_cmpR op_in_str pe_str (pe_callB (cr_reprK K) (by rfl) T.z_repr (by decide +kernel) (pa_cons (pv 11) pa_nil)) (by rfl)))) (fun _ _ _ _ _ => (pv 11))) (pss_one (ps_if (PW.pt (pw_and (pt_cmpR (op_eqD hr.units) (pv 12) (pe_lst pa_nil) (nomark _)) (pw_and1 (PW.pt (pw_or (pt_cmpR op_eq (pe_f G_program_text (hr.mono (by omega)) (pa_cons (pv 8) pa_nil)) (pv 5) (nomark _)) (pw_or1 (pt_cmpR (op_neD hr.units) (pe_f G_parse_program (hr.mono (by omega)) (pa_cons (pe_f G_program_text (hr.mono (by omega)) (pa_cons (pv 8) pa_nil)) pa_nil)) (pv 8) (nomark _)))))))) (pss_one (ps_ret pe_bl)) pss_nil))))))))))) (pss_one (ps_ret pe_bl)))), ?_⟩
  have hc5 : cost 5 ≤ 50000000000 := by decide +kernel
  have hLim : Lim = 1099511627776 := rfl
  generalize hC : 200 + cost 5 = TC at *
  refine q_asgC (vs := [.ref a]) (ea_cons (ev_var rfl) ea_nil) fun H1 e1 => ⟨a, ns, rfl, ex_l e1 hs, hn, fun A B H2 hA hB e2 hd2 => ?_⟩
  refine q_forR1 (n := 3) (ea_cons ev_c ea_nil) ⟨by decide, by decide⟩ (fun i σ' H' => ∃ m x2 x3 x4 x5 x6 x7 x8 x9 x10 x11 x12, σ' = [some (.ref a), some (.ref A), x2, x3, x4, x5, x6, x7, x8, x9, x10, x11, x12] ∧ Deck K A B m H' ∧ m ≤ i * TC)
    (fun H3 e3 => ⟨0, _, _, _, _, _, _, _, _, _, _, _, rfl, hd2.ex e3, by omega⟩) (fun i σ' H3 hi q => ?_) (fun σ' H3 q => s_ret ev_c fun H4 _ => k H4)
  obtain ⟨m, x2, x3, x4, x5, x6, x7, x8, x9, x10, x11, x12, rfl, hd3, hm⟩ := q
  have hi2 : (i + 1) * TC ≤ 3 * TC := Nat.mul_le_mul_right TC (by omega)
  rw [Nat.succ_mul] at hi2 ⊢
  -- _law_program, _law_pool_here = _law_free(..)
  have hfree : EvD K A B (tCall (spFree K) [] E0 (tCons (tVar 1) (tCons (tOp (rI0 fun i j => .int (i + j)) (tC (.int 1)) (tCall (spDraw K) [] E0 (tCons (tVar 1) (tCons (tC (.int 30)) tNil)))) tNil))) [some (.ref a), some (.ref A), some (.int (i : Nat)), x3, x4, x5, x6, x7, x8, x9, x10, x11, x12] H3 (101 + cost 5) (FreeR K A B) := by
    refine ed_le (ed_call (n' := 100 + cost 5) (eda_cons (K := K) (A := A) (B := B) stb_pure (ed_var (H := H3) (i := 1) (v := .ref A) rfl) (eda_cons stb_pure (ed_add1 (ed_draw (σ := [some (.ref a), some (.ref A), some (.int (i : Nat)), x3, x4, x5, x6, x7, x8, x9, x10, x11, x12]) (H := H3) (te := tC (.int 30)) (many := 30) (i := 1) rfl (fun _ _ => ev_c) (by decide) (by decide))) eda_nil)) fun vs H4 m4 f4 d4 hm4 hv Q2 k2 => ?_) (by omega)
    obtain ⟨y1, r1, z1, ey1, y2, r2, z2, ⟨c, hc1, hc2, ey2⟩, z3⟩ := hv
    subst z3
    subst ey2
    subst z2
    subst ey1
    subst z1
    exact ⟨A, B, m4, c, rfl, d4, hm4, hc1, k2⟩
  refine hfree H3 m (Frd.refl _ _ _) hd3 (by omega) _ fun fv H4 m4 f4 hd4 l1 l2 hfv => ?_
  obtain ⟨r, pv, PP, N, W, names, words, g, b, rfl, hr4, hpv, wd, hwi, hp4⟩ := hfv
  refine ⟨r, [pv, .ref PP], rfl, hr4, rfl, pv, [.ref PP], rfl, .ref PP, [], rfl, rfl, ?_⟩
  have gd := good_enc wd
  have sd := (good_shown gd (by decide) (by decide)).1
  have hg3 := wd.g3
  have hht := wd.ht
  have hcn := wd.cn
  -- the text, and what is read of it
  refine q_asg (v := .str (progText g b)) (ev_call (ea_cons (ev_var rfl) ea_nil) fun H5 e5 Q' q E' => ⟨pv, g, b, rfl, same_dp e5 hpv, wd, q⟩) fun H5 e5 => ?_
  refine q_asgP (R := fun v H' => Dp K H' v (enc g b)) (ep_call (ea_cons (ev_var rfl) ea_nil) fun H6 e6 Q' q E' => ⟨g, b, rfl, wd, q⟩) fun bv H6 e6 hbv => ?_
  have e46 := e5.trans e6
  have hpv6 := same_dp e46 hpv
  refine q_when (b := false) (et_is (et_or (a := false) (b := false) (et_test (ev_neSS (ev_reprP (ep_varD rfl hbv) gd (by decide) (by decide)) (ev_reprP (ep_varD rfl hpv6) gd (by decide) (by decide)))) fun _ =>
    et_or (a := false) (b := false) (et_test (ev_neSS (x := progText g b) (ev_call (ea_cons (ev_var rfl) ea_nil) fun H7 e7 Q' q E' => ⟨bv, g, b, rfl, same_dp e7 hbv, wd, q⟩) (ev_var rfl))) fun _ =>
      et_test (ev_neSS (ev_reprP (ep_call (R := fun v H' => Dp K H' v (enc g b)) (ea_cons (ev_var rfl) ea_nil) fun H7 e7 Q' q E' => ⟨g, b, rfl, wd, q⟩) gd (by decide) (by decide)) (ev_reprP (ep_varD rfl hpv6) gd (by decide) (by decide)))) rfl) (fun h => Bool.noConfusion h) fun _ H7 e7 => ?_
  have hpv7 := same_dp e7 hpv6
  obtain ⟨pa, u, rfl, hps7, hu7⟩ := dp_enc hpv7
  have f47 : Frd A B H4 H7 := Frd.ex (e46.trans e7)
  have hd7 := hd4.ex (e46.trans e7)
  have hp7 := hp4.frd f47
  refine q_asg (v := .int (cnL b : Nat)) (ev_lenLP (R := Prs K (dfL 0 b)) (elp_call (ea_cons (ev_at 1 (ev_var rfl) hps7) (ea_cons ev_c ea_nil)) fun H8 e8 Q' q E' => ⟨u, 0, b, rfl, same_dp e8 hu7, by omega, by omega, q⟩) fun zs H8 hz => by rw [hz.len, dfL_len]) fun H8 e8 => ?_
  have hps8 := ex_t e8 hps7
  have hu8 := same_dp e8 hu7
  have hpv8 := same_dp e8 hpv7
  have hd8 := hd7.ex e8
  have hp8 := hp7.frd (Frd.ex e8)
  refine q_cut (M := fun σ' H' => ∃ m' y8 y9, σ' = [some (.ref a), some (.ref A), some (.int (i : Nat)), some (.ref pa), some (.ref PP), some (.str (progText g b)), some bv, some (.int (cnL b : Nat)), y8, y9, x10, x11, x12] ∧ Frd A B H8 H' ∧ Deck K A B m' H' ∧ m' ≤ m4 + 61) ?_ ?_
  · by_cases h0 : 0 < cnL b
    · refine s_when (b := true) (et_is (et_test (ev_op (ev_var rfl) ev_c rv_I0)) (decide_eq_true (by omega))) (fun _ H9 e9 => ?_) fun h => Bool.noConfusion h
      have hps9 := ex_t e9 hps8
      have hu9 := same_dp e9 hu8
      have hd9 := hd8.ex e9
      have hp9 := hp8.frd (Frd.ex e9)
      -- _law_other
      let OR : V → Hp → Prop := fun v H' => ∃ b', Wd g b' ∧ Dp K H' v (.tuple (encL b'))
      have stO : Stb K A B OR := fun v Ha Hb mm hd f ⟨b', h1, h2⟩ => ⟨b', h1, keep_dp (hd.keep f) (noL_B b') h2⟩
      have hat0 : ∀ H', Frd A B H9 H' → Ev (tOp (rIxT K) (tVar 3) (tC (.int 0))) [some (.ref a), some (.ref A), some (.int (i : Nat)), some (.ref pa), some (.ref PP), some (.str (progText g b)), some bv, some (.int (cnL b : Nat)), x8, x9, x10, x11, x12] H' (.int g) := fun H' f => ev_at 0 (ev_var rfl) ((hd9.keep f).sq hps9)
      have hat1 : ∀ H', Frd A B H9 H' → Ev (tOp (rIxT K) (tVar 3) (tC (.int 1))) [some (.ref a), some (.ref A), some (.int (i : Nat)), some (.ref pa), some (.ref PP), some (.str (progText g b)), some bv, some (.int (cnL b : Nat)), x8, x9, x10, x11, x12] H' u := fun H' f => ev_at 1 (ev_var rfl) ((hd9.keep f).sq hps9)
      have hput : EvD K A B (tCall (spPut K 6) [] E0 (tCons (tOp (rIxT K) (tVar 3) (tC (.int 1))) (tCons (tCall (spDraw K) [] E0 (tCons (tVar 1) (tCons (tVar 7) tNil))) (tCons (tCall (spRow K) [] E0 (tCons (tVar 1) (tCons (tVar 4) tNil))) tNil)))) [some (.ref a), some (.ref A), some (.int (i : Nat)), some (.ref pa), some (.ref PP), some (.str (progText g b)), some bv, some (.int (cnL b : Nat)), x8, x9, x10, x11, x12] H9 61 OR := by
        refine ed_le (ed_call (n' := 0) (eda_cons (K := K) (A := A) (B := B) stb_pure (ed_ev hat1) (eda_cons stb_pure (ed_draw (te := tVar 7) (many := cnL b) (i := 1) rfl (fun _ _ => ev_var rfl) (by omega) (by omega)) (eda_cons (R := PlR K g words) stb_pl (ed_callE (n := 60) (sp := spRow K) (vs := [.ref A, .ref PP]) (fun _ _ => ea_cons (ev_var rfl) (ea_cons (ev_var rfl) ea_nil)) fun H10 m10 f10 d10 hl Q2 k2 => ⟨A, B, m10, PP, N, W, names, words, g, rfl, d10, hl, hp9.frd f10, k2⟩) eda_nil))) fun vs H10 m10 f10 d10 hm10 hv Q2 k2 => ?_) (by omega)
        obtain ⟨y1, r1, z1, ey1, y2, r2, z2, ⟨j, hj, ey2⟩, y3, r3, z3, ⟨p, hpo, hpd, hpw⟩, z4⟩ := hv
        subst z4
        subst z3
        subst ey2
        subst z2
        subst ey1
        subst z1
        refine ⟨y1, y3, j, g, b, p, rfl, keep_dp (hd9.keep f10) (noL_B b) hu9, hpd, wd.ok, hpo, by omega, by omega, fun v H11 e11 ⟨b', hb', hv⟩ => k2 v H11 m10 (Frd.ex e11) (d10.ex e11) (Nat.le_refl _) (Nat.le_refl _) ⟨b', ?_, hv⟩⟩
        have q1 := hb'.ht
        have q2 := hb'.cn
        have q3 := hb'.wt
        have q4 := wd.wt
        exact ⟨hg3, hb'.ok, by omega, by omega, by omega, words, hp9.wl.2, fun x hx => (hb'.wi x hx).elim (hwi x) (hpw x)⟩
      have hoth := eda_cons (K := K) (A := A) (B := B) (R := fun v _ => v = V.int (g : Int)) stb_pure (ed_ev hat0) (eda_cons stO hput eda_nil)
      refine q_asgD (ed_tup (stbC stb_pure (stbC stO (stb_pure (p := fun xs : List V => xs = [])))) hoth fun xs Hx h => by rw [ln2 xs Hx h]; decide) hd9 (by omega) fun ov H10 m10 f10 d10 l3 l4 ⟨op, os, eov, hop, y1, r1, z1, ey1, y2, r2, z2, ⟨b', wd', hy2⟩, z3⟩ => ?_
      subst z3
      subst z2
      subst ey1
      subst z1
      subst eov
      have hov : Dp K H10 (.ref op) (enc g b') := .tup (st_of hop) (.cons (.int _) (.cons hy2 .nil))
      have hpv10 := keep_dp (hd9.keep f10) (by unfold enc; simp [noL, noLA, noL_L]) (same_dp e9 hpv8)
      have gd' := good_enc wd'
      have sd' := (good_shown gd' (by decide) (by decide)).1
      refine q_asg (v := .str (progText g b')) (ev_call (ea_cons (ev_var rfl) ea_nil) fun H11 e11 Q' q E' => ⟨.ref op, g, b', rfl, same_dp e11 hov, wd', q⟩) fun H11 e11 => ?_
      have hov11 := same_dp e11 hov
      have hpv11 := same_dp e11 hpv10
      refine s_when (b := false) (et_is (et_or (a := false) (b := false) (et_test ?_) fun _ => et_test (ev_neSS (ev_reprP (ep_call (R := fun v H' => Dp K H' v (enc g b')) (ea_cons (ev_var rfl) ea_nil) fun H12 e12 Q' q E' => ⟨g, b', rfl, wd', q⟩) gd' (by decide) (by decide)) (ev_reprP (ep_varD rfl hov11) gd' (by decide) (by decide)))) rfl) (fun h => Bool.noConfusion h) fun _ H12 e12 => ?_
      · refine ev_is (ev_op (ev_eqS (ev_var rfl) (ev_var rfl)) (ev_eqD (ev_var rfl) (ev_var rfl) hov11 hpv11 sd' sd) (rv_ne rfl)) ?_
        rw [text_eqv wd wd', decide_eq_true rfl]
        rfl
      · exact ⟨m10, _, _, rfl, (Frd.ex e9).trans (f10.trans (Frd.ex (e11.trans e12))), d10.ex (e11.trans e12), by omega⟩
    · refine s_when (b := false) (et_is (et_test (ev_op (ev_var rfl) ev_c rv_I0)) (decide_eq_false (by omega))) (fun h => Bool.noConfusion h) fun _ H9 e9 => ?_
      exact ⟨m4, _, _, rfl, Frd.ex e9, hd8.ex e9, by omega⟩
  rintro σ' H9 ⟨m9, y8, y9, rfl, f9, hd9, hm9⟩
  have k9 := hd8.keep f9
  have hps9 := k9.sq hps8
  have hu9 := keep_dp k9 (noL_B b) hu8
  have hg4 : (g + 1) % 4 < 4 := Nat.mod_lt _ (by decide)
  -- other givens
  refine q_asgU (xs := [.int (((g + 1) % 4 : Nat) : Int), u]) (eu_tup (ea_cons (ev_is (ev_op (ev_op (ev_at 0 (ev_var rfl) hps9) ev_c rv_I0) ev_c (rv_I (by decide))) (by
    congr 1)) (ea_cons (ev_at 1 (ev_var rfl) hps9) ea_nil)) (by show 2 ≤ 100000; decide)) fun op H10 hop e10 h10 => ?_
  have hov : Dp K H10 (.ref op) (enc ((g + 1) % 4) b) := .tup (st_of h10) (.cons (.int _) (.cons (same_dp e10 hu9) .nil))
  have hps10 := ex_t e10 hps9
  have hu10 := same_dp e10 hu9
  refine q_asgLP (R := fun xs H' => DpAll K H' xs (((flL b).filter hasB).map encS)) (elp_lcPT (K := K) (R := Prs K (dfL 0 b)) (elp_call (ea_cons (ev_at 1 (ev_var rfl) hps10) (ea_cons ev_c ea_nil)) fun H11 e11 Q' q E' => ⟨u, 0, b, rfl, same_dp e11 hu10, by omega, by omega, q⟩) (fun _ _ => rfl) fun ps H11 e11 hps => ?_) fun gl H11 gs hgl e11 h11 hgs => ?_
  · obtain ⟨vs, v1, v2, v3⟩ := prs_snd hps
    rw [dfL_snd] at v1
    have hpl := hps.len
    rw [dfL_len] at hpl
    refine ⟨vs, (flL b).map hasB, v2, by rw [List.length_map, fl_len, hpl], by omega, fun j p v c hp hv hc => ?_, fun H12 e12 => sel_dp (same_dpAll e12 v1)⟩
    obtain ⟨pa2, x, rfl, hs2⟩ := v3 j p v hp hv
    obtain ⟨d, hdd, hdv⟩ := dpAll_get v1 hv
    rw [List.getElem?_map] at hdd hc
    obtain ⟨st, hst, rfl⟩ := Option.map_eq_some_iff.mp hdd
    rw [hst] at hc
    have ec : hasB st = c := Option.some.inj hc
    have gst := good_flat wd st (List.mem_of_getElem? hst)
    obtain ⟨ds, eds⟩ := encS_tup st
    refine ⟨pa2, x, v, rfl, hs2, et_test ?_, ev_var rfl⟩
    rw [← ec]
    unfold hasB
    rw [eds] at hdv gst ⊢
    exact ev_op ev_c (ev_reprP (ep_varD rfl hdv) gst (by decide) (by decide)) fun H12 e12 Q' q => ⟨_, _, rfl, rfl, q H12 (Ex.refl H12)⟩
  · have e911 := e10.trans e11
    have hov11 := same_dp e11 hov
    have gall : GoodAll (((flL b).filter hasB).map encS) 20 ((((flL b).filter hasB).map encS).length * 4001) := goodAll_of fun d hd => by
      obtain ⟨st, hst, rfl⟩ := List.mem_map.mp hd
      exact good_flat wd st (List.mem_filter.mp hst).1
    have hlst : Dp K H11 (.ref gl) (.list (((flL b).filter hasB).map encS)) := .lst (sq_of h11) hgs
    have hemp : Ev (tOp (rEqD K) (tVar 12) (tLst tNil)) [some (.ref a), some (.ref A), some (.int (i : Nat)), some (.ref pa), some (.ref PP), some (.str (progText g b)), some bv, some (.int (cnL b : Nat)), some (.ref op), y9, x10, x11, some (.ref gl)] H11 (.bl ((flL b).filter hasB).isEmpty) := by
      refine ev_opL (ev_var rfl) (el_lst ea_nil (by decide)) fun p H12 h12 e12 => fun H13 e13 Q' q => ⟨_, .list [], same_dp (e12.trans e13) hlst, .lst (sq_of (e13 p _ h12)) .nil, shaped_list gall (by decide), by decide +kernel, ?_⟩
      have e : PyData.eqv (.list (((flL b).filter hasB).map encS)) (.list []) = ((flL b).filter hasB).isEmpty := by
        cases (flL b).filter hasB <;> simp [PyData.eqv, PyData.eqvAll]
      rw [e]
      exact q H13 (Ex.refl H13)
    have hend : ∀ H12, Ex H11 H12 → ∃ m' x2 x3 x4 x5 x6 x7 x8 x9 x10' x11' x12', [some (.ref a), some (.ref A), some (.int (i : Nat)), some (.ref pa), some (.ref PP), some (.str (progText g b)), some bv, some (.int (cnL b : Nat)), some (.ref op), y9, x10, x11, some (.ref gl)] = [some (.ref a), some (.ref A), x2, x3, x4, x5, x6, x7, x8, x9, x10', x11', x12'] ∧ Deck K A B m' H12 ∧ m' ≤ i * TC + TC := fun H12 e12 =>
      ⟨m9, _, _, _, _, _, _, _, _, _, _, _, rfl, hd9.ex (e911.trans e12), by omega⟩
    cases hq : ((flL b).filter hasB).isEmpty with
    | false =>
      rw [hq] at hemp
      exact s_when (b := false) (et_and (a := false) (b := true) (et_test hemp) fun h => Bool.noConfusion h) (fun h => Bool.noConfusion h) fun _ H12 e12 => hend H12 e12
    | true =>
      rw [hq] at hemp
      have hnone : ∀ u ∈ flL b, hasB u = false := fun v hv => by
        have z : (flL b).filter hasB = [] := List.isEmpty_iff.mp hq
        have z2 := List.filter_eq_nil_iff.mp z v hv
        simpa using z2
      have wd' := wd_any (g' := (g + 1) % 4) wd (by omega) hnone
      have gd' := good_enc wd'
      have sd' := (good_shown gd' (by decide) (by decide)).1
      have hne : progText ((g + 1) % 4) b ≠ progText g b := fun z => by
        have := (text_inj wd'.g3 wd.g3 wd'.ok wd.ok z).1
        omega
      have htext : ∀ H12, Ex H11 H12 → Ev (tCall (spProgText K) [] E0 (tCons (tVar 8) tNil)) [some (.ref a), some (.ref A), some (.int (i : Nat)), some (.ref pa), some (.ref PP), some (.str (progText g b)), some bv, some (.int (cnL b : Nat)), some (.ref op), y9, x10, x11, some (.ref gl)] H12 (.str (progText ((g + 1) % 4) b)) := fun H12 e12 =>
        ev_call (ea_cons (ev_var rfl) ea_nil) fun H13 e13 Q' q E' => ⟨.ref op, (g + 1) % 4, b, rfl, same_dp (e12.trans e13) hov11, wd', q⟩
      refine s_when (b := false) (et_and (a := true) (b := false) (et_test hemp) fun _ => et_is (et_or (a := false) (b := false) (et_test (ev_eqN (htext H11 (Ex.refl _)) (ev_var rfl) hne)) fun _ => et_test (ev_neDP (d := enc ((g + 1) % 4) b) (y := .ref op) (ep_call (R := fun v H' => Dp K H' v (enc ((g + 1) % 4) b)) (ea_cons (htext H11 (Ex.refl _)) ea_nil) fun H12 e12 Q' q E' => ⟨(g + 1) % 4, b, rfl, wd', q⟩) (fun _ _ => ev_var rfl) hov11 sd' gd'.lay)) rfl) (fun h => Bool.noConfusion h) fun _ H12 e12 => hend H12 e12
end
end K7
set_option maxHeartbeats 0
/-! the head's run, with its facts -/
namespace K7
open PySem PySem.Spec PyProof.Rows L2
abbrev R : PySem.W.OpenRow := PySem.W.OpenLaw.row PySem.Challenge.rw_maybegone_k07_whole_texts_there_and_back
abbrev hk : PySem.W.Hook := He.hookX 5 faL fnL tsL [] exB
def ob (s : PySem.W.SharedT) : He.AlX := He.obsX 5 faL fnL tsL [] exB (HandSHeadRun.getT s)
theorem ob_eq (s : PySem.W.SharedT) : ob s = hk.obs s.abs := He.obsX_eq (HandSHeadRun.getT_eq s)
theorem runF (w : World) : HandSHeadRun.RunEq R (PySem.W.view R.prog [66]) hk ob 3200 looseL (w.withFollow "special-get-raises" false) := by
  intro os
  kernel_rfl
theorem runT (w : World) : HandSHeadRun.RunEq R (PySem.W.view R.prog [66]) hk ob 3200 looseL (w.withFollow "special-get-raises" true) := by
  intro os
  kernel_rfl
theorem run (w : World) : HandSHeadRun.RunEq R (PySem.W.view R.prog [66]) hk ob 3200 looseL w := PySem.W.byRow2 "special-get-raises" (P := fun w => HandSHeadRun.RunEq R (PySem.W.view R.prog [66]) hk ob 3200 looseL w) runF runT w
end K7
set_option maxHeartbeats 0
/-! the row -/
namespace K7
open PySem PySem.Spec PyProof.Rows L2
theorem law_run {P : Program} {w : World} {K : PySem.W.Frag} {mg : Str → Option Value} {fa a : Addr} {s : Shared} {ns : List Int} (T : Txt w K mg) (hfa : mg "law" = some (.ref fa)) (hn : ns.length ≤ 63) : TopRun P w K mg fa a s ns := by
  intro base H env sq
  obtain ⟨fd, F⟩ := T.f_law
  have e : fa = He.ga K "law" := by
    have z := hfa.symm.trans T.g_law
    cases z
    rfl
  subst e
  have hr : Room (41 + 1) callerA := ⟨rfl, by decide, by decide⟩
  have bd := FunD.bindsA (ps := ["_law_script"]) F (fun _ _ _ _ _ _ us hl => match us, hl with | [_], _ => rfl) s [.ref a] rfl
  refine run_under (vs := [.ref a]) F sc_law hr env bd (.cons rfl .nil) rfl fun cdv => ?_
  obtain ⟨t, h1, h2⟩ := law_body (P := P) (base := base) (f := He.ga K "law") (cdv := cdv) (s := s) (H := H) (Q := fun v _ => v = .bl true) (E := fun _ _ _ => False) T (hr.deeper _) sq (by omega) (fun _ => rfl)
  exact ⟨t, h1.nox, h2⟩
end K7
open PySem PySem.W PySem.Calls PyProof.Rows
theorem PySem.Challenge.cw_maybegone_k07_whole_texts_there_and_back_holds : PySem.Challenge.rw_maybegone_k07_whole_texts_there_and_back.Holds := by
  w_on; o_law
  refine HandSHeadRun.head_any (r := OpenLaw.row PySem.Challenge.rw_maybegone_k07_whole_texts_there_and_back) (q := view (OpenLaw.row PySem.Challenge.rw_maybegone_k07_whole_texts_there_and_back).prog [66]) (H := K7.hk) (ob := K7.ob) (M := 3200) (loose := K7.looseL)
    (d := HandSHeadRun.topDef (OpenLaw.row PySem.Challenge.rw_maybegone_k07_whole_texts_there_and_back).prog 66) (kwd := []) K7.ob_eq (by kernel_rfl) (fun s => by kernel_rfl) K7.run (by kernel_rfl) (by kernel_rfl) (by kernel_rfl) (by rfl) (by first | assumption | decide +kernel) (by decide +kernel) ⟨rfl, rfl, rfl, rfl, rfl, by decide +kernel⟩ ?hw ?hc
  case hw => w_witness2
  case hc =>
    refine K7.walk_top (l := PySem.Challenge.rw_maybegone_k07_whole_texts_there_and_back) (n := 63) rfl (by decide) (by kernel_rfl) fun w mg fa h Y G hmg0 => ?_
    obtain ⟨K, KX, c⟩ := Y
    have hmg : mg ("law" : PySem.Str) = some (.ref fa) := by
      have e : (HandSHeadRun.topDef (OpenLaw.row PySem.Challenge.rw_maybegone_k07_whole_texts_there_and_back).prog 66).name = ("law" : PySem.Str) := by kernel_rfl
      rw [← e]
      exact hmg0
    exact ⟨K, KX, fun a s ns hl => K7.law_run ⟨h, KX, G, c⟩ hmg hl⟩
