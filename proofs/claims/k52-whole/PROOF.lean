import PyProof.Rows.All
import Wide.All
import OpenK.AllK
import Wide.FinOn
import KE.KStateDown
import Lean
import HandS.ForMost
import HandS.More
import HandS.WordsExc
import HandS.Defaults
import HandS.Conv
import HandS.TupAny
import HandS.Deep
import HandS.Steps
import HandS.Evl
import HandS.Wide
import HandS.SortOrd
import HandS.SortRule
import HandS.Head0
import HandS.Head1
import HandS.Head2
import HandS.HeadEnd
import HandS.HeadHook1
import HandS.HeadHook2
import KE.SortData
import KE.KDictSum
import KE.KDictKeyed
import KE.KeyNested
import PySem.Challenge.RW_textshards_k52_whole_from_noisy_pieces_t
set_option Elab.async false
set_option linter.all false
set_option maxRecDepth 100000
set_option maxHeartbeats 4000000
namespace K52
section
open PySem PySem.Spec PyProof.Rows L2
def top (i : Nat) : Stmt := PySem.Challenge.pw_textshards_k52_whole_from_noisy_pieces_t.main.body.getD i (.Pass ⟨0, 0, 0, 0⟩)
abbrev s_following : Stmt := top 21
abbrev s_check_shards : Stmt := top 16
abbrev s_check_shape : Stmt := top 17
abbrev s_check_word : Stmt := top 26
abbrev s_check_line : Stmt := top 32
abbrev s_advance : Stmt := top 23
abbrev s_window_list : Stmt := top 18
abbrev s_windows_of : Stmt := top 19
abbrev s_gram_list : Stmt := top 20
abbrev s_way : Stmt := top 28
abbrev s_state_list : Stmt := top 27
abbrev s_ways_from : Stmt := top 29
abbrev s_read_within : Stmt := top 38
abbrev s_can_read : Stmt := top 39
abbrev s_finished_from : Stmt := top 1
abbrev s_turned_around : Stmt := top 2
abbrev s_components_of : Stmt := top 3
abbrev s_grouped : Stmt := top 44
abbrev s_path_to : Stmt := top 42
abbrev s_circle_within : Stmt := top 43
abbrev s_circle_decision : Stmt := top 45
abbrev s_tail_after : Stmt := top 33
abbrev s_state_after : Stmt := top 34
abbrev s_line_way_of : Stmt := top 36
abbrev s_first_list : Stmt := top 35
abbrev s_line_decision : Stmt := top 46
abbrev s_decided : Stmt := top 47
abbrev s_check_question : Stmt := top 48
abbrev s_decide : Stmt := top 49
abbrev s_example : Stmt := top 50
abbrev s_check_alphabet : Stmt := top 52
abbrev s_check_placed : Stmt := top 55
abbrev s_column_at : Stmt := top 56
abbrev s_wrong_with : Stmt := top 57
abbrev s_least_at : Stmt := top 58
abbrev s_least_total : Stmt := top 59
abbrev s_check_budget : Stmt := top 60
abbrev s_letters_within : Stmt := top 61
abbrev s_possible_letters : Stmt := top 62
abbrev s_best_letters : Stmt := top 64
abbrev s_voted : Stmt := top 65
abbrev s_corrected : Stmt := top 66
abbrev s_plain_grams : Stmt := top 68
abbrev s_next_window : Stmt := top 69
abbrev s_strand_from : Stmt := top 70
abbrev s_spelled_row : Stmt := top 71
abbrev s_strands : Stmt := top 72
abbrev s_findings_of : Stmt := top 75
abbrev s_sample_of : Stmt := top 76
abbrev s_Report_init : Stmt := inClass (top 74) 0
abbrev s_Report_paper : Stmt := inClass (top 74) 1
abbrev s_assemble : Stmt := top 77
abbrev s__law_begin : Stmt := top 79
abbrev s__law_take : Stmt := top 80
abbrev s__law_text : Stmt := top 81
abbrev s__law_rich : Stmt := top 82
abbrev s__law_round : Stmt := top 83
abbrev s__law_on_circle : Stmt := top 84
abbrev s__law_windows : Stmt := top 85
abbrev s__law_explains : Stmt := top 86
abbrev s__law_wrong : Stmt := top 87
abbrev s__law_alphabet : Stmt := top 88
abbrev s__law_many : Stmt := top 89
abbrev s_law : Stmt := top 90
namespace Hd
/-! the head: the run of the top, what it leaves. -/
def d_following : He.DefD := ⟨("following", none), "following", "following", defArgs s_following, defBody s_following, defScope s_following, [], []⟩
def d_check_shards : He.DefD := ⟨("check_shards", none), "check_shards", "check_shards", defArgs s_check_shards, defBody s_check_shards, defScope s_check_shards, [], []⟩
def d_check_shape : He.DefD := ⟨("check_shape", none), "check_shape", "check_shape", defArgs s_check_shape, defBody s_check_shape, defScope s_check_shape, [], []⟩
def d_check_word : He.DefD := ⟨("check_word", none), "check_word", "check_word", defArgs s_check_word, defBody s_check_word, defScope s_check_word, [], []⟩
def d_check_line : He.DefD := ⟨("check_line", none), "check_line", "check_line", defArgs s_check_line, defBody s_check_line, defScope s_check_line, [], []⟩
def d_advance : He.DefD := ⟨("advance", none), "advance", "advance", defArgs s_advance, defBody s_advance, defScope s_advance, [], []⟩
def d_window_list : He.DefD := ⟨("window_list", none), "window_list", "window_list", defArgs s_window_list, defBody s_window_list, defScope s_window_list, [], []⟩
def d_windows_of : He.DefD := ⟨("windows_of", none), "windows_of", "windows_of", defArgs s_windows_of, defBody s_windows_of, defScope s_windows_of, [], []⟩
def d_gram_list : He.DefD := ⟨("gram_list", none), "gram_list", "gram_list", defArgs s_gram_list, defBody s_gram_list, defScope s_gram_list, [], []⟩
def d_way : He.DefD := ⟨("way", none), "way", "way", defArgs s_way, defBody s_way, defScope s_way, [], []⟩
def d_state_list : He.DefD := ⟨("state_list", none), "state_list", "state_list", defArgs s_state_list, defBody s_state_list, defScope s_state_list, [], []⟩
def d_ways_from : He.DefD := ⟨("ways_from", none), "ways_from", "ways_from", defArgs s_ways_from, defBody s_ways_from, defScope s_ways_from, [], []⟩
def d_read_within : He.DefD := ⟨("read_within", none), "read_within", "read_within", defArgs s_read_within, defBody s_read_within, defScope s_read_within, [], []⟩
def d_can_read : He.DefD := ⟨("can_read", none), "can_read", "can_read", defArgs s_can_read, defBody s_can_read, defScope s_can_read, [], []⟩
def d_finished_from : He.DefD := ⟨("finished_from", none), "finished_from", "finished_from", defArgs s_finished_from, defBody s_finished_from, defScope s_finished_from, [], []⟩
def d_turned_around : He.DefD := ⟨("turned_around", none), "turned_around", "turned_around", defArgs s_turned_around, defBody s_turned_around, defScope s_turned_around, [], []⟩
def d_components_of : He.DefD := ⟨("components_of", none), "components_of", "components_of", defArgs s_components_of, defBody s_components_of, defScope s_components_of, [], []⟩
def d_grouped : He.DefD := ⟨("grouped", none), "grouped", "grouped", defArgs s_grouped, defBody s_grouped, defScope s_grouped, [], []⟩
def d_path_to : He.DefD := ⟨("path_to", none), "path_to", "path_to", defArgs s_path_to, defBody s_path_to, defScope s_path_to, [], []⟩
def d_circle_within : He.DefD := ⟨("circle_within", none), "circle_within", "circle_within", defArgs s_circle_within, defBody s_circle_within, defScope s_circle_within, [], []⟩
def d_circle_decision : He.DefD := ⟨("circle_decision", none), "circle_decision", "circle_decision", defArgs s_circle_decision, defBody s_circle_decision, defScope s_circle_decision, [], []⟩
def d_tail_after : He.DefD := ⟨("tail_after", none), "tail_after", "tail_after", defArgs s_tail_after, defBody s_tail_after, defScope s_tail_after, [], []⟩
def d_state_after : He.DefD := ⟨("state_after", none), "state_after", "state_after", defArgs s_state_after, defBody s_state_after, defScope s_state_after, [], []⟩
def d_line_way_of : He.DefD := ⟨("line_way_of", none), "line_way_of", "line_way_of", defArgs s_line_way_of, defBody s_line_way_of, defScope s_line_way_of, [], []⟩
def d_first_list : He.DefD := ⟨("first_list", none), "first_list", "first_list", defArgs s_first_list, defBody s_first_list, defScope s_first_list, [], []⟩
def d_line_decision : He.DefD := ⟨("line_decision", none), "line_decision", "line_decision", defArgs s_line_decision, defBody s_line_decision, defScope s_line_decision, [], []⟩
def d_decided : He.DefD := ⟨("decided", none), "decided", "decided", defArgs s_decided, defBody s_decided, defScope s_decided, [], []⟩
def d_check_question : He.DefD := ⟨("check_question", none), "check_question", "check_question", defArgs s_check_question, defBody s_check_question, defScope s_check_question, [], []⟩
def d_decide : He.DefD := ⟨("decide", none), "decide", "decide", defArgs s_decide, defBody s_decide, defScope s_decide, [], []⟩
def d_example : He.DefD := ⟨("example", none), "example", "example", defArgs s_example, defBody s_example, defScope s_example, [], []⟩
def d_check_alphabet : He.DefD := ⟨("check_alphabet", none), "check_alphabet", "check_alphabet", defArgs s_check_alphabet, defBody s_check_alphabet, defScope s_check_alphabet, [], []⟩
def d_check_placed : He.DefD := ⟨("check_placed", none), "check_placed", "check_placed", defArgs s_check_placed, defBody s_check_placed, defScope s_check_placed, [], []⟩
def d_column_at : He.DefD := ⟨("column_at", none), "column_at", "column_at", defArgs s_column_at, defBody s_column_at, defScope s_column_at, [], []⟩
def d_wrong_with : He.DefD := ⟨("wrong_with", none), "wrong_with", "wrong_with", defArgs s_wrong_with, defBody s_wrong_with, defScope s_wrong_with, [], []⟩
def d_least_at : He.DefD := ⟨("least_at", none), "least_at", "least_at", defArgs s_least_at, defBody s_least_at, defScope s_least_at, [], []⟩
def d_least_total : He.DefD := ⟨("least_total", none), "least_total", "least_total", defArgs s_least_total, defBody s_least_total, defScope s_least_total, [], []⟩
def d_check_budget : He.DefD := ⟨("check_budget", none), "check_budget", "check_budget", defArgs s_check_budget, defBody s_check_budget, defScope s_check_budget, [], []⟩
def d_letters_within : He.DefD := ⟨("letters_within", none), "letters_within", "letters_within", defArgs s_letters_within, defBody s_letters_within, defScope s_letters_within, [], []⟩
def d_possible_letters : He.DefD := ⟨("possible_letters", none), "possible_letters", "possible_letters", defArgs s_possible_letters, defBody s_possible_letters, defScope s_possible_letters, [], []⟩
def d_best_letters : He.DefD := ⟨("best_letters", none), "best_letters", "best_letters", defArgs s_best_letters, defBody s_best_letters, defScope s_best_letters, [], []⟩
def d_voted : He.DefD := ⟨("voted", none), "voted", "voted", defArgs s_voted, defBody s_voted, defScope s_voted, [], []⟩
def d_corrected : He.DefD := ⟨("corrected", none), "corrected", "corrected", defArgs s_corrected, defBody s_corrected, defScope s_corrected, [], []⟩
def d_plain_grams : He.DefD := ⟨("plain_grams", none), "plain_grams", "plain_grams", defArgs s_plain_grams, defBody s_plain_grams, defScope s_plain_grams, [], []⟩
def d_next_window : He.DefD := ⟨("next_window", none), "next_window", "next_window", defArgs s_next_window, defBody s_next_window, defScope s_next_window, [], []⟩
def d_strand_from : He.DefD := ⟨("strand_from", none), "strand_from", "strand_from", defArgs s_strand_from, defBody s_strand_from, defScope s_strand_from, [], []⟩
def d_spelled_row : He.DefD := ⟨("spelled_row", none), "spelled_row", "spelled_row", defArgs s_spelled_row, defBody s_spelled_row, defScope s_spelled_row, [], []⟩
def d_strands : He.DefD := ⟨("strands", none), "strands", "strands", defArgs s_strands, defBody s_strands, defScope s_strands, [], []⟩
def d_findings_of : He.DefD := ⟨("findings_of", none), "findings_of", "findings_of", defArgs s_findings_of, defBody s_findings_of, defScope s_findings_of, [], []⟩
def d_sample_of : He.DefD := ⟨("sample_of", none), "sample_of", "sample_of", defArgs s_sample_of, defBody s_sample_of, defScope s_sample_of, [], []⟩
def d_Report_init : He.DefD := ⟨("Report", some "__init__"), "__init__", "Report.__init__", defArgs s_Report_init, defBody s_Report_init, defScope s_Report_init, [], []⟩
def d_Report_paper : He.DefD := ⟨("Report", some "paper"), "paper", "Report.paper", defArgs s_Report_paper, defBody s_Report_paper, defScope s_Report_paper, [], []⟩
def d_assemble : He.DefD := ⟨("assemble", none), "assemble", "assemble", defArgs s_assemble, defBody s_assemble, defScope s_assemble, [], []⟩
def d__law_begin : He.DefD := ⟨("_law_begin", none), "_law_begin", "_law_begin", defArgs s__law_begin, defBody s__law_begin, defScope s__law_begin, [], []⟩
def d__law_take : He.DefD := ⟨("_law_take", none), "_law_take", "_law_take", defArgs s__law_take, defBody s__law_take, defScope s__law_take, [], []⟩
def d__law_text : He.DefD := ⟨("_law_text", none), "_law_text", "_law_text", defArgs s__law_text, defBody s__law_text, defScope s__law_text, [], []⟩
def d__law_rich : He.DefD := ⟨("_law_rich", none), "_law_rich", "_law_rich", defArgs s__law_rich, defBody s__law_rich, defScope s__law_rich, [], []⟩
def d__law_round : He.DefD := ⟨("_law_round", none), "_law_round", "_law_round", defArgs s__law_round, defBody s__law_round, defScope s__law_round, [], []⟩
def d__law_on_circle : He.DefD := ⟨("_law_on_circle", none), "_law_on_circle", "_law_on_circle", defArgs s__law_on_circle, defBody s__law_on_circle, defScope s__law_on_circle, [], []⟩
def d__law_windows : He.DefD := ⟨("_law_windows", none), "_law_windows", "_law_windows", defArgs s__law_windows, defBody s__law_windows, defScope s__law_windows, [], []⟩
def d__law_explains : He.DefD := ⟨("_law_explains", none), "_law_explains", "_law_explains", defArgs s__law_explains, defBody s__law_explains, defScope s__law_explains, [], []⟩
def d__law_wrong : He.DefD := ⟨("_law_wrong", none), "_law_wrong", "_law_wrong", defArgs s__law_wrong, defBody s__law_wrong, defScope s__law_wrong, [], []⟩
def d__law_alphabet : He.DefD := ⟨("_law_alphabet", none), "_law_alphabet", "_law_alphabet", defArgs s__law_alphabet, defBody s__law_alphabet, defScope s__law_alphabet, [], []⟩
def d__law_many : He.DefD := ⟨("_law_many", none), "_law_many", "_law_many", defArgs s__law_many, defBody s__law_many, defScope s__law_many, [], []⟩
def d_law : He.DefD := ⟨("law", none), "law", "law", defArgs s_law, defBody s_law, defScope s_law, [], []⟩
def fn0 : List He.DefD := [d_following, d_check_shards, d_check_shape, d_check_word, d_check_line, d_advance, d_window_list, d_windows_of, d_gram_list, d_way, d_state_list, d_ways_from, d_read_within, d_can_read, d_finished_from, d_turned_around, d_components_of, d_grouped, d_path_to, d_circle_within, d_circle_decision, d_tail_after, d_state_after, d_line_way_of, d_first_list, d_line_decision, d_decided, d_check_question, d_decide, d_example]
def fn1 : List He.DefD := [d_check_alphabet, d_check_placed, d_column_at, d_wrong_with, d_least_at, d_least_total, d_check_budget, d_letters_within, d_possible_letters, d_best_letters, d_voted, d_corrected, d_plain_grams, d_next_window, d_strand_from, d_spelled_row, d_strands, d_findings_of, d_sample_of, d_Report_init, d_Report_paper, d_assemble, d__law_begin, d__law_take, d__law_text, d__law_rich, d__law_round, d__law_on_circle, d__law_windows, d__law_explains]
def fn2 : List He.DefD := [d__law_wrong, d__law_alphabet, d__law_many, d_law]
def fn : List He.DefD := fn0 ++ fn1 ++ fn2
def fa0 : List He.Fa := [.glo "following", .glo "check_shards", .glo "check_shape", .glo "check_word", .glo "check_line", .glo "advance", .glo "window_list", .glo "windows_of", .glo "gram_list", .glo "way", .glo "state_list", .glo "ways_from", .glo "read_within", .glo "can_read", .glo "finished_from", .glo "turned_around", .glo "components_of", .glo "grouped", .glo "path_to", .glo "circle_within", .glo "circle_decision", .glo "tail_after", .glo "state_after", .glo "line_way_of", .glo "first_list", .glo "line_decision", .glo "decided", .glo "check_question", .glo "decide", .glo "example"]
def fa1 : List He.Fa := [.glo "check_alphabet", .glo "check_placed", .glo "column_at", .glo "wrong_with", .glo "least_at", .glo "least_total", .glo "check_budget", .glo "letters_within", .glo "possible_letters", .glo "best_letters", .glo "voted", .glo "corrected", .glo "plain_grams", .glo "next_window", .glo "strand_from", .glo "spelled_row", .glo "strands", .glo "findings_of", .glo "sample_of", .glo "assemble", .glo "_law_begin", .glo "_law_take", .glo "_law_text", .glo "_law_rich", .glo "_law_round", .glo "_law_on_circle", .glo "_law_windows", .glo "_law_explains", .glo "_law_wrong", .glo "_law_alphabet"]
def fa2 : List He.Fa := [.glo "_law_many", .glo "law", .glo "Report", .cls "Report", .mkr "Report", .meth "Report" "paper", .noat "Report" "consensus", .noat "Report" "sure", .noat "Report" "pieces", .noat "Report" "grain", .noat "Report" "shape", .noat "Report" "example", .noat "Report" "findings", .free "len", .free "range", .free "min", .free "any", .free "all", .free "sum", .free "sorted", .free "tuple", .free "list", .free "int", .free "abs", .free "reversed", .int "GRAIN_LIMIT" 12, .int "PIECE_LIMIT" 40, .int "LETTER_LIMIT" 60, .int "WORD_LIMIT" 60, .int "LINE_LIMIT" 8]
def fa3 : List He.Fa := [.int "SIZE_LIMIT" 400, .str "NOWHERE" " "]
def fa : List He.Fa := fa0 ++ fa1 ++ fa2 ++ fa3
def loose0 : List PySem.Str := ["finished_from", "turned_around", "components_of", "ShardError", "EmptyText", "RangeError", "TooLarge", "GrainError", "ShapeError", "BudgetError", "GRAIN_LIMIT", "PIECE_LIMIT", "LETTER_LIMIT", "check_shards", "check_shape", "window_list", "windows_of", "gram_list", "following", "advance", "WORD_LIMIT", "check_word", "state_list", "way", "ways_from", "LINE_LIMIT", "check_line", "tail_after", "state_after", "first_list"]
def loose1 : List PySem.Str := ["line_way_of", "read_within", "can_read", "NOWHERE", "path_to", "circle_within", "grouped", "circle_decision", "line_decision", "decided", "check_question", "decide", "example", "check_alphabet", "SIZE_LIMIT", "check_placed", "column_at", "wrong_with", "least_at", "least_total", "check_budget", "letters_within", "possible_letters", "best_letters", "voted", "corrected", "plain_grams", "next_window", "strand_from", "spelled_row"]
def loose2 : List PySem.Str := ["strands", "Report", "findings_of", "sample_of", "assemble", "_law_begin", "_law_take", "_law_text", "_law_rich", "_law_round", "_law_on_circle", "_law_windows", "_law_explains", "_law_wrong", "_law_alphabet", "_law_many"]
def loose : List PySem.Str := loose0 ++ loose1 ++ loose2
abbrev RR : PySem.W.OpenRow := PySem.W.OpenLaw.row PySem.Challenge.rw_textshards_k52_whole_from_noisy_pieces_t
abbrev hk : PySem.W.Hook := He.hookD 4 fa fn
def ob (s : PySem.W.SharedT) : He.AlD := He.obsDG 4 fa fn (HandSHeadRun.getT s)
theorem ob_eq (s : PySem.W.SharedT) : ob s = hk.obs s.abs := He.obsDG_eq (HandSHeadRun.getT_eq s)
set_option maxHeartbeats 0 in
theorem run (w : World) : HandSHeadRun.RunEq RR (PySem.W.view RR.prog [90]) hk ob 4000 loose w := by
  intro os
  kernel_rfl
end Hd
end
/-! M1: texts as lists of numbers: the longest beginning of a word that is an end of what was read. -/

/-- the greatest k from 1 to n at which P holds, else 0 -/
def lastK (P : Nat → Bool) : Nat → Nat
  | 0 => 0
  | n + 1 => if P (n + 1) then n + 1 else lastK P n

theorem lastK_le (P : Nat → Bool) : ∀ n, lastK P n ≤ n
  | 0 => Nat.le_refl 0
  | n + 1 => by
    unfold lastK
    split
    · exact Nat.le_refl _
    · exact Nat.le_succ_of_le (lastK_le P n)
theorem lastK_ok (P : Nat → Bool) : ∀ n, lastK P n = 0 ∨ P (lastK P n) = true
  | 0 => .inl rfl
  | n + 1 => by
    unfold lastK
    split
    · rename_i h; exact .inr h
    · exact lastK_ok P n
theorem lastK_ge (P : Nat → Bool) : ∀ n k, k ≤ n → P k = true → k ≤ lastK P n
  | 0, k, h, _ => by omega
  | n + 1, k, h, hp => by
    unfold lastK
    split
    · exact h
    · rename_i hn
      by_cases e : k = n + 1
      · subst e; exact absurd hp hn
      · exact lastK_ge P n k (by omega) hp

/-- the longest k such that the first k of w are an end of x -/
def mat (w x : List Nat) : Nat := lastK (fun k => decide (x.drop (x.length - k) = w.take k)) (min x.length w.length)

theorem suf_iff {x y : List Nat} : y <:+ x ↔ y.length ≤ x.length ∧ x.drop (x.length - y.length) = y := by
  constructor
  · rintro ⟨t, rfl⟩
    refine ⟨by simp, ?_⟩
    have e : (t ++ y).length - y.length = t.length := by simp
    rw [e, List.drop_left]
  · rintro ⟨_, h⟩
    exact ⟨_, by conv => lhs; rhs; rw [← h]
                 exact List.take_append_drop _ _⟩

theorem mat_le (w x : List Nat) : mat w x ≤ w.length := Nat.le_trans (lastK_le _ _) (Nat.min_le_right _ _)
theorem mat_lex (w x : List Nat) : mat w x ≤ x.length := Nat.le_trans (lastK_le _ _) (Nat.min_le_left _ _)
theorem mat_suf (w x : List Nat) : w.take (mat w x) <:+ x := by
  have hle := mat_le w x
  have hlx := mat_lex w x
  rcases lastK_ok (fun k => decide (x.drop (x.length - k) = w.take k)) (min x.length w.length) with h | h
  · have : mat w x = 0 := h
    rw [this]; simp
  · have h : x.drop (x.length - mat w x) = w.take (mat w x) := of_decide_eq_true h
    rw [← h]; exact List.drop_suffix _ _
theorem mat_max {w x : List Nat} {k : Nat} (hk : k ≤ w.length) (h : w.take k <:+ x) : k ≤ mat w x := by
  have h' := suf_iff.mp h
  have hl : (w.take k).length = k := by rw [List.length_take]; omega
  rw [hl] at h'
  refine lastK_ge _ _ k (by omega) (decide_eq_true h'.2)
theorem mat_uniq {w x : List Nat} {k : Nat} (hk : k ≤ w.length) (h : w.take k <:+ x) (hm : ∀ j, j ≤ w.length → w.take j <:+ x → j ≤ k) : mat w x = k :=
  Nat.le_antisymm (hm _ (mat_le w x) (mat_suf w x)) (mat_max hk h)
theorem mat_take {w : List Nat} {m : Nat} (h : m ≤ w.length) : mat w (w.take m) = m := by
  refine mat_uniq h (List.suffix_refl _) fun j hj hs => ?_
  have := hs.length_le
  rw [List.length_take, List.length_take] at this
  omega
theorem mat_nil (w : List Nat) : mat w [] = 0 := by
  have := mat_lex w []
  simpa using this
theorem mat_full {w x : List Nat} : mat w x = w.length ↔ w <:+ x := by
  constructor
  · intro h
    have := mat_suf w x
    rw [h, List.take_length] at this
    exact this
  · intro h
    refine Nat.le_antisymm (mat_le _ _) (mat_max (Nat.le_refl _) (by rw [List.take_length]; exact h))

/-- one step of reading -/
def adv (w : List Nat) (m c : Nat) : Nat := mat w (w.take m ++ [c])

theorem suf_snoc {a x : List Nat} {c d : Nat} : a ++ [d] <:+ x ++ [c] ↔ d = c ∧ a <:+ x := by
  constructor
  · rintro ⟨t, ht⟩
    rw [← List.append_assoc] at ht
    have h := List.append_inj' ht rfl
    exact ⟨by simpa using h.2, t, h.1⟩
  · rintro ⟨rfl, t, rfl⟩
    exact ⟨t, by simp⟩
theorem take_succ_snoc {w : List Nat} {k : Nat} (h : k < w.length) : w.take (k + 1) = w.take k ++ [w[k]] := by
  rw [List.take_succ_eq_append_getElem h]
theorem suf_of_len {a b x : List Nat} (ha : a <:+ x) (hb : b <:+ x) (h : a.length ≤ b.length) : a <:+ b := List.suffix_of_suffix_length_le ha hb h

theorem mat_snoc (w x : List Nat) (c : Nat) : adv w (mat w x) c = mat w (x ++ [c]) := by
  unfold adv
  refine mat_uniq (mat_le _ _) ?_ ?_
  · -- the longest beginning at x ++ [c] is an end of the shorter one
    generalize hk : mat w (x ++ [c]) = k
    cases k with
    | zero => simp
    | succ k =>
      have hle := mat_le w (x ++ [c])
      rw [hk] at hle
      have hs := mat_suf w (x ++ [c])
      rw [hk, take_succ_snoc (by omega)] at hs
      obtain ⟨e, hs⟩ := suf_snoc.mp hs
      rw [take_succ_snoc (by omega)]
      refine suf_snoc.mpr ⟨e, suf_of_len hs (mat_suf w x) ?_⟩
      have := mat_max (by omega) hs
      rw [List.length_take, List.length_take]; omega
  · intro j hj hs
    refine mat_max hj ?_
    refine List.IsSuffix.trans hs ?_
    obtain ⟨t, ht⟩ := mat_suf w x
    exact ⟨t, by rw [← List.append_assoc, ht]⟩

/-- reading a whole text -/
def advs (w : List Nat) (m : Nat) (z : List Nat) : Nat := z.foldl (adv w) m
theorem mat_app (w x z : List Nat) : advs w (mat w x) z = mat w (x ++ z) := by
  induction z generalizing x with
  | nil => simp [advs]
  | cons c z ih =>
    show advs w (adv w (mat w x) c) z = _
    rw [mat_snoc, ih]; simp
theorem occurs_iff {w x : List Nat} : w <:+: x ↔ ∃ y, y <+: x ∧ mat w y = w.length := by
  constructor
  · rintro ⟨s, t, h⟩
    exact ⟨s ++ w, ⟨t, h⟩, mat_full.mpr ⟨s, rfl⟩⟩
  · rintro ⟨y, ⟨t, rfl⟩, h⟩
    obtain ⟨s, rfl⟩ := mat_full.mp h
    exact ⟨s, t, by simp⟩

/-! ### several words: the longest end that is a beginning of a piece -/
def isBeg (ps : List (List Nat)) (t : List Nat) : Bool := ps.any fun p => decide (t <+: p)
theorem isBeg_iff {ps : List (List Nat)} {t : List Nat} : isBeg ps t = true ↔ ∃ p ∈ ps, t <+: p := by
  simp [isBeg, List.any_eq_true]
/-- the first end, from the longest on, that is a beginning of a piece -/
def tl (ps : List (List Nat)) : List Nat → List Nat
  | [] => []
  | c :: x => if isBeg ps (c :: x) then c :: x else tl ps x
theorem tl_suf (ps : List (List Nat)) : ∀ x, tl ps x <:+ x
  | [] => List.suffix_refl _
  | c :: x => by
    unfold tl
    split
    · exact List.suffix_refl _
    · exact (tl_suf ps x).trans (List.suffix_cons c x)
theorem tl_beg (ps : List (List Nat)) : ∀ x, tl ps x = [] ∨ isBeg ps (tl ps x) = true
  | [] => .inl rfl
  | c :: x => by
    unfold tl
    split
    · rename_i h; exact .inr h
    · exact tl_beg ps x
theorem tl_max (ps : List (List Nat)) : ∀ (x s : List Nat), s <:+ x → isBeg ps s = true → s.length ≤ (tl ps x).length
  | [], s, h, _ => h.length_le
  | c :: x, s, h, hs => by
    unfold tl
    split
    · exact h.length_le
    · rename_i hn
      rcases List.suffix_cons_iff.mp h with e | h'
      · subst e; exact absurd hs hn
      · exact tl_max ps x s h' hs
theorem tl_uniq {ps : List (List Nat)} {x t : List Nat} (h : t <:+ x) (hb : t = [] ∨ isBeg ps t = true) (hm : ∀ s, s <:+ x → isBeg ps s = true → s.length ≤ t.length) : tl ps x = t := by
  have h1 := tl_suf ps x
  have h2 : (tl ps x).length = t.length := by
    refine Nat.le_antisymm ?_ ?_
    · rcases tl_beg ps x with e | e
      · rw [e]; exact Nat.zero_le _
      · exact hm _ h1 e
    · rcases hb with e | e
      · rw [e]; exact Nat.zero_le _
      · exact tl_max ps x t h e
  have h3 := List.suffix_of_suffix_length_le h1 h (Nat.le_of_eq h2)
  exact h3.eq_of_length h2
theorem isBeg_init {ps : List (List Nat)} {a : List Nat} {d : Nat} (h : isBeg ps (a ++ [d]) = true) : isBeg ps a = true := by
  obtain ⟨p, hp, q⟩ := isBeg_iff.mp h
  exact isBeg_iff.mpr ⟨p, hp, (List.prefix_append a [d]).trans q⟩
theorem tl_snoc (ps : List (List Nat)) (x : List Nat) (c : Nat) : tl ps (tl ps x ++ [c]) = tl ps (x ++ [c]) := by
  refine tl_uniq ?_ (tl_beg _ _) ?_
  · rcases List.eq_nil_or_concat (tl ps (x ++ [c])) with e | ⟨a, d, e⟩
    · rw [e]; exact List.nil_suffix
    · have hs := tl_suf ps (x ++ [c])
      have hb := tl_beg ps (x ++ [c])
      rw [e] at hs hb ⊢
      rw [List.concat_eq_append] at hs hb ⊢
      obtain ⟨e1, hs1⟩ := suf_snoc.mp hs
      have hb : isBeg ps (a ++ [d]) = true := hb.resolve_left (by simp)
      exact suf_snoc.mpr ⟨e1, suf_of_len hs1 (tl_suf ps x) (tl_max ps x a hs1 (isBeg_init hb))⟩
  · intro s hs hb
    refine tl_max ps _ s (hs.trans ?_) hb
    obtain ⟨t, ht⟩ := tl_suf ps x
    exact ⟨t, by rw [← List.append_assoc, ht]⟩
/-- a piece that is an end of what was read is an end of the tail -/
theorem tl_piece {ps : List (List Nat)} {x p : List Nat} (hp : p ∈ ps) (h : p <:+ x) : p <:+ tl ps x :=
  suf_of_len h (tl_suf ps x) (tl_max ps x p h (isBeg_iff.mpr ⟨p, hp, List.prefix_refl p⟩))
/-! M2: graphs: reachability, the two passes that number the components. -/
section
variable {α : Type} [DecidableEq α]

inductive Reach (succ : α → List α) : α → α → Prop where
  | refl (x : α) : Reach succ x x
  | step {x y z : α} : y ∈ succ x → Reach succ y z → Reach succ x z
theorem Reach.trans {succ : α → List α} {x y z : α} (h : Reach succ x y) (k : Reach succ y z) : Reach succ x z := by
  induction h with
  | refl => exact k
  | step a _ ih => exact .step a (ih k)
theorem Reach.one {succ : α → List α} {x y : α} (h : y ∈ succ x) : Reach succ x y := .step h (.refl y)
def Mut (succ : α → List α) (x y : α) : Prop := Reach succ x y ∧ Reach succ y x
theorem Mut.refl {succ : α → List α} (x : α) : Mut succ x x := ⟨.refl x, .refl x⟩
theorem Mut.symm {succ : α → List α} {x y : α} (h : Mut succ x y) : Mut succ y x := ⟨h.2, h.1⟩
theorem Mut.trans {succ : α → List α} {x y z : α} (h : Mut succ x y) (k : Mut succ y z) : Mut succ x z := ⟨h.1.trans k.1, k.2.trans h.2⟩
/-- y stands at x or before it -/
def Bef (l : List α) (y x : α) : Prop := ∃ A B, l = A ++ x :: B ∧ (y ∈ A ∨ y = x)
theorem Bef.snoc {l : List α} {y x v : α} (h : Bef l y x) : Bef (l ++ [v]) y x := by
  obtain ⟨A, B, rfl, h⟩ := h
  exact ⟨A, B ++ [v], by simp, h⟩
theorem Bef.last {l : List α} {y v : α} (h : y ∈ l ∨ y = v) : Bef (l ++ [v]) y v := ⟨l, [], rfl, h⟩

/-! ### the first pass -/
structure Dfs (succ : α → List α) (seen order : List α) (stk : List (α × Nat)) : Prop where
  nd : (order ++ stk.map (·.1)).Nodup
  sn : ∀ x, x ∈ seen ↔ x ∈ order ∨ x ∈ stk.map (·.1)
  black : ∀ x ∈ order, ∀ y ∈ succ x, y ∈ seen
  gray : ∀ p ∈ stk, ∀ y ∈ (succ p.1).take p.2, y ∈ seen
  path : (stk.map (·.1)).Pairwise (Reach succ)
  done : ∀ x ∈ order, ∀ y, Reach succ x y → (∃ g ∈ stk.map (·.1), Mut succ x g) ∨ (y ∈ order ∧ ∃ x', Mut succ x x' ∧ Bef order y x')
variable {succ : α → List α} {seen order : List α} {stk : List (α × Nat)} {v x y : α} {i : Nat}
theorem Dfs.init : Dfs succ [] [] [] := ⟨by simp, by simp, by simp, by simp, by simp, by simp⟩
theorem Dfs.root (h : Dfs succ seen order []) (hx : x ∉ seen) : Dfs succ (seen ++ [x]) order [(x, 0)] := by
  have hs : ∀ z, z ∈ seen ↔ z ∈ order := fun z => by simpa using h.sn z
  refine ⟨?_, ?_, ?_, ?_, ?_, ?_⟩
  · have h1 : order.Nodup := by simpa using h.nd
    have h2 : x ∉ order := fun q => hx ((hs x).mpr q)
    rw [List.nodup_append]
    refine ⟨h1, by simp, ?_⟩
    intro a ha b hb e
    simp at hb
    subst hb e
    exact h2 ha
  · intro z; simp [hs z]
  · intro z hz y hy
    exact List.mem_append_left _ (h.black z hz y hy)
  · intro p hp y hy
    simp at hp
    subst hp
    simp at hy
  · simp
  · intro z hz y hy
    rcases h.done z hz y hy with ⟨g, hg, _⟩ | q
    · simp at hg
    · exact .inr q
theorem Dfs.push (h : Dfs succ seen order (stk ++ [(v, i)])) (hy : (succ v)[i]? = some y) (hn : y ∉ seen) : Dfs succ (seen ++ [y]) order (stk ++ [(v, i + 1), (y, 0)]) := by
  have hno : y ∉ order ∧ y ∉ (stk ++ [(v, i)]).map (·.1) := by
    refine ⟨fun q => hn ((h.sn y).mpr (.inl q)), fun q => hn ((h.sn y).mpr (.inr q))⟩
  have hm : (stk ++ [(v, i + 1), (y, 0)]).map (·.1) = (stk ++ [(v, i)]).map (·.1) ++ [y] := by simp
  refine ⟨?_, ?_, ?_, ?_, ?_, ?_⟩
  · rw [hm, ← List.append_assoc, List.nodup_append]
    refine ⟨h.nd, by simp, ?_⟩
    intro a ha b hb e
    simp only [List.mem_singleton] at hb
    subst hb e
    rcases List.mem_append.mp ha with q | q
    · exact hno.1 q
    · exact hno.2 q
  · intro z
    rw [hm]
    simp only [List.mem_append, List.mem_singleton]
    have := h.sn z
    rw [List.map_append] at this
    simp only [List.mem_append] at this
    rw [this, List.map_append, List.mem_append]
    constructor
    · rintro ((q | q) | q)
      · exact .inl q
      · exact .inr (.inl q)
      · exact .inr (.inr q)
    · rintro (q | q | q)
      · exact .inl (.inl q)
      · exact .inl (.inr q)
      · exact .inr q
  · intro z hz u hu
    exact List.mem_append_left _ (h.black z hz u hu)
  · intro p hp u hu
    rcases List.mem_append.mp hp with q | q
    · exact List.mem_append_left _ (h.gray p (List.mem_append_left _ q) u hu)
    · simp only [List.mem_cons, List.not_mem_nil, or_false] at q
      rcases q with rfl | rfl
      · simp only [List.take_add_one, hy] at hu
        rcases List.mem_append.mp hu with r | r
        · exact List.mem_append_left _ (h.gray (v, i) (by simp) u r)
        · simp only [Option.toList_some, List.mem_singleton] at r
          subst r
          simp
      · simp at hu
  · rw [hm, List.pairwise_append]
    refine ⟨h.path, by simp, ?_⟩
    intro a ha b hb
    simp only [List.mem_singleton] at hb
    subst hb
    have hvy : b ∈ succ v := List.mem_of_getElem? hy
    have hav : Reach succ a v := by
      rw [List.map_append] at ha
      have hp := h.path
      rw [List.map_append, List.pairwise_append] at hp
      rcases List.mem_append.mp ha with q | q
      · exact hp.2.2 a q v (by simp)
      · simp at q; subst q; exact .refl _
    exact hav.trans (.one hvy)
  · intro z hz u hu
    rcases h.done z hz u hu with ⟨g, hg, hg2⟩ | q
    · refine .inl ⟨g, ?_, hg2⟩
      rw [hm]; exact List.mem_append_left _ hg
    · exact .inr q
theorem Dfs.skip (h : Dfs succ seen order (stk ++ [(v, i)])) (hy : (succ v)[i]? = some y) (hn : y ∈ seen) : Dfs succ seen order (stk ++ [(v, i + 1)]) := by
  have hm : (stk ++ [(v, i + 1)]).map (·.1) = (stk ++ [(v, i)]).map (·.1) := by simp
  refine ⟨by rw [hm]; exact h.nd, by rw [hm]; exact h.sn, h.black, ?_, by rw [hm]; exact h.path, by rw [hm]; exact h.done⟩
  intro p hp u hu
  rcases List.mem_append.mp hp with q | q
  · exact h.gray p (List.mem_append_left _ q) u hu
  · simp only [List.mem_singleton] at q
    subst q
    simp only [List.take_add_one, hy] at hu
    rcases List.mem_append.mp hu with r | r
    · exact h.gray (v, i) (by simp) u r
    · simp only [Option.toList_some, List.mem_singleton] at r
      subst r
      exact hn
theorem Dfs.pop (h : Dfs succ seen order (stk ++ [(v, i)])) (hi : (succ v).length ≤ i) : Dfs succ seen (order ++ [v]) stk := by
  have hm : (stk ++ [(v, i)]).map (·.1) = stk.map (·.1) ++ [v] := by simp
  have hseen : ∀ z, z ∈ seen ↔ z ∈ order ∨ z ∈ stk.map (·.1) ∨ z = v := fun z => by
    have := h.sn z
    rw [hm, List.mem_append, List.mem_singleton] at this
    exact this
  have hv : ∀ u ∈ succ v, u ∈ seen := fun u hu => by
    have := h.gray (v, i) (by simp) u
    rw [List.take_of_length_le hi] at this
    exact this hu
  have hup : ∀ g ∈ stk.map (·.1), Reach succ g v := fun g hg => by
    have hp := h.path
    rw [hm, List.pairwise_append] at hp
    exact hp.2.2 g hg v (by simp)
  -- the claim for v itself
  have claim : ∀ u, Reach succ v u → (∃ g ∈ stk.map (·.1), Mut succ v g) ∨ (u ∈ order ++ [v] ∧ ∃ x', Mut succ v x' ∧ Bef (order ++ [v]) u x') := by
    intro u hu
    by_cases hg : ∃ g ∈ stk.map (·.1), Mut succ v g
    · exact .inl hg
    · right
      have hin : ∀ a b, Reach succ a b → Reach succ v a → (a ∈ order ∨ a = v) → (b ∈ order ∨ b = v) := by
        intro a b hab
        induction hab with
        | refl => exact fun _ q => q
        | @step a c b hac hcb ih =>
          intro hva ha
          refine ih (hva.trans (.one hac)) ?_
          have hcs : c ∈ seen := by
            rcases ha with q | q
            · exact h.black a q c hac
            · subst q; exact hv c hac
          rcases (hseen c).mp hcs with q | q | q
          · exact .inl q
          · exact absurd ⟨c, q, hva.trans (.one hac), hup c q⟩ hg
          · exact .inr q
      have := hin v u hu (.refl v) (.inr rfl)
      refine ⟨?_, v, Mut.refl v, Bef.last this⟩
      rcases this with q | q
      · exact List.mem_append_left _ q
      · subst q; simp
  refine ⟨?_, ?_, ?_, ?_, ?_, ?_⟩
  · have := h.nd
    rw [hm] at this
    rw [List.nodup_append] at this ⊢
    obtain ⟨h1, h2, h3⟩ := this
    rw [List.nodup_append] at h2
    obtain ⟨h4, _, h5⟩ := h2
    refine ⟨?_, h4, ?_⟩
    · rw [List.nodup_append]
      refine ⟨h1, by simp, fun a ha b hb => ?_⟩
      simp only [List.mem_singleton] at hb
      subst hb
      exact h3 a ha b (by simp)
    · intro a ha b hb
      rcases List.mem_append.mp ha with q | q
      · exact h3 a q b (List.mem_append_left _ hb)
      · simp only [List.mem_singleton] at q
        subst q
        exact fun e => h5 b hb a (by simp) e.symm
  · intro z
    rw [hseen z, List.mem_append, List.mem_singleton]
    constructor
    · rintro (q | q | q)
      · exact .inl (.inl q)
      · exact .inr q
      · exact .inl (.inr q)
    · rintro ((q | q) | q)
      · exact .inl q
      · exact .inr (.inr q)
      · exact .inr (.inl q)
  · intro z hz u hu
    rcases List.mem_append.mp hz with q | q
    · exact h.black z q u hu
    · simp only [List.mem_singleton] at q
      subst q
      exact hv u hu
  · intro p hp u hu
    exact h.gray p (List.mem_append_left _ hp) u hu
  · have hp := h.path
    rw [hm, List.pairwise_append] at hp
    exact hp.1
  · intro z hz u hu
    rcases List.mem_append.mp hz with q | q
    · rcases h.done z q u hu with ⟨g, hg, hzg⟩ | ⟨r, x', r1, r2⟩
      · rw [hm, List.mem_append, List.mem_singleton] at hg
        rcases hg with hg | rfl
        · exact .inl ⟨g, hg, hzg⟩
        · rcases claim u (hzg.2.trans hu) with ⟨g', hg', e⟩ | ⟨r, x', r1, r2⟩
          · exact .inl ⟨g', hg', hzg.trans e⟩
          · exact .inr ⟨r, x', hzg.trans r1, r2⟩
      · exact .inr ⟨List.mem_append_left _ r, x', r1, r2.snoc⟩
    · simp only [List.mem_singleton] at q
      subst q
      exact claim u hu
/-- the order that the first pass leaves -/
def Fin (succ : α → List α) (order : List α) : Prop := order.Nodup ∧ ∀ x ∈ order, ∀ y, Reach succ x y → y ∈ order ∧ ∃ x', Mut succ x x' ∧ Bef order y x'
theorem Dfs.fin (h : Dfs succ seen order []) : Fin succ order := by
  refine ⟨by simpa using h.nd, fun x hx y hy => ?_⟩
  rcases h.done x hx y hy with ⟨g, hg, _⟩ | q
  · simp at hg
  · exact q
theorem Dfs.sub (h : Dfs succ seen order []) : ∀ x, x ∈ seen ↔ x ∈ order := fun x => by simpa using h.sn x

/-! a measure of the first pass -/
def wsum (f : α → Nat) : List α → List α → Nat
  | [], _ => 0
  | a :: V, seen => (if a ∈ seen then 0 else f a) + wsum f V seen
theorem wsum_mono (f : α → Nat) (seen : List α) (y : α) : ∀ V : List α, wsum f V (seen ++ [y]) ≤ wsum f V seen
  | [] => Nat.le_refl _
  | a :: V => by
    have ih := wsum_mono f seen y V
    unfold wsum
    by_cases h : a ∈ seen
    · rw [if_pos h, if_pos (List.mem_append_left _ h)]
      omega
    · rw [if_neg h]
      split <;> omega
theorem wsum_less (f : α → Nat) (seen : List α) (y : α) (hs : y ∉ seen) : ∀ V : List α, y ∈ V → wsum f V (seen ++ [y]) + f y ≤ wsum f V seen
  | [], h => by simp at h
  | a :: V, h => by
    unfold wsum
    by_cases e : a = y
    · subst e
      have m := wsum_mono f seen a V
      rw [if_neg hs, if_pos (by simp)]
      omega
    · have hV : y ∈ V := by
        rcases List.mem_cons.mp h with q | q
        · exact absurd q.symm e
        · exact q
      have ih := wsum_less f seen y hs V hV
      by_cases h1 : a ∈ seen
      · rw [if_pos h1, if_pos (List.mem_append_left _ h1)]
        omega
      · rw [if_neg h1, if_neg (by simp [h1, e])]
        omega
def mu (succ : α → List α) (V seen : List α) (stk : List (α × Nat)) : Nat := wsum (fun x => (succ x).length + 2) V seen + (stk.map fun p => (succ p.1).length - p.2 + 1).sum
theorem mu_push {V : List α} (hV : y ∈ V) (hy : (succ v)[i]? = some y) (hn : y ∉ seen) : mu succ V (seen ++ [y]) (stk ++ [(v, i + 1), (y, 0)]) < mu succ V seen (stk ++ [(v, i)]) := by
  have h := wsum_less (fun x => (succ x).length + 2) seen y hn V hV
  have hi : i < (succ v).length := (List.getElem?_eq_some_iff.mp hy).1
  unfold mu
  simp only [List.map_append, List.map_cons, List.map_nil, List.sum_append, List.sum_cons, List.sum_nil]
  omega
theorem mu_skip {V : List α} (hy : (succ v)[i]? = some y) : mu succ V seen (stk ++ [(v, i + 1)]) < mu succ V seen (stk ++ [(v, i)]) := by
  have hi : i < (succ v).length := (List.getElem?_eq_some_iff.mp hy).1
  unfold mu
  simp only [List.map_append, List.map_cons, List.map_nil, List.sum_append, List.sum_cons, List.sum_nil]
  omega
theorem mu_pop {V : List α} : mu succ V seen stk < mu succ V seen (stk ++ [(v, i)]) := by
  unfold mu
  simp only [List.map_append, List.map_cons, List.map_nil, List.sum_append, List.sum_cons, List.sum_nil]
  omega
end
/-! M3: the second pass: the components' numbers. -/
section
variable {α : Type} [DecidableEq α]
/-- the nodes that have a number -/
abbrev dom (ns : List (α × Nat)) : List α := ns.map (·.1)
structure Nums (V : List α) (succ : α → List α) (ns : List (α × Nat)) (many : Nat) : Prop where
  nd : (dom ns).Nodup
  sub : ∀ x ∈ dom ns, x ∈ V
  back : ∀ x ∈ V, ∀ y ∈ succ x, y ∈ dom ns → x ∈ dom ns
  same : ∀ p ∈ ns, ∀ q ∈ ns, p.2 = q.2 ↔ Mut succ p.1 q.1
  lt : ∀ p ∈ ns, p.2 < many
  inh : ∀ k, k < many → ∃ x, (x, k) ∈ ns
/-- while one component is gathered: new are its nodes so far, opn those whose ways back are not all looked at -/
structure Grow (V : List α) (succ : α → List α) (old : List (α × Nat)) (many : Nat) (start : α) (new opn : List α) : Prop where
  nd : (dom old ++ new).Nodup
  st : start ∈ new
  sub : ∀ x ∈ new, x ∈ V
  rch : ∀ x ∈ new, Reach succ x start
  op : ∀ x ∈ opn, x ∈ new
  cl : ∀ y ∈ new, y ∉ opn → ∀ x ∈ V, y ∈ succ x → x ∈ dom old ∨ x ∈ new
variable {V : List α} {succ : α → List α} {ns old : List (α × Nat)} {many : Nat} {start : α} {new opn : List α}
theorem Nums.init : Nums V succ [] 0 := ⟨by simp, by simp, by simp, by simp, by simp, by simp⟩
theorem Grow.init (h : Nums V succ old many) (hs : start ∉ dom old) (hV : start ∈ V) : Grow V succ old many start [start] [start] := by
  refine ⟨?_, by simp, by simpa using hV, by simpa using Reach.refl start, by simp, ?_⟩
  · rw [List.nodup_append]
    refine ⟨h.nd, by simp, fun a ha b hb e => ?_⟩
    simp only [List.mem_singleton] at hb
    subst hb e
    exact hs ha
  · intro y hy hn
    simp only [List.mem_singleton] at hy hn
    exact absurd hy hn
/-- a node from which a way leads to a gathered one is gathered too -/
theorem Grow.add {c x : α} (g : Grow V succ old many start new opn) (hc : c ∈ new) (hx : x ∈ V) (hs : c ∈ succ x) (h1 : x ∉ dom old) (h2 : x ∉ new) : Grow V succ old many start (new ++ [x]) (opn ++ [x]) := by
  refine ⟨?_, List.mem_append_left _ g.st, ?_, ?_, ?_, ?_⟩
  · rw [← List.append_assoc, List.nodup_append]
    refine ⟨g.nd, by simp, fun a ha b hb e => ?_⟩
    simp only [List.mem_singleton] at hb
    subst hb e
    rcases List.mem_append.mp ha with q | q
    · exact h1 q
    · exact h2 q
  · intro z hz
    rcases List.mem_append.mp hz with q | q
    · exact g.sub z q
    · simp only [List.mem_singleton] at q; subst q; exact hx
  · intro z hz
    rcases List.mem_append.mp hz with q | q
    · exact g.rch z q
    · simp only [List.mem_singleton] at q; subst q; exact .step hs (g.rch c hc)
  · intro z hz
    rcases List.mem_append.mp hz with q | q
    · exact List.mem_append_left _ (g.op z q)
    · exact List.mem_append_right _ q
  · intro y hy hn z hz hyz
    have hn1 : y ∉ opn := fun q => hn (List.mem_append_left _ q)
    have hn2 : y ≠ x := fun q => hn (by subst q; simp)
    rcases List.mem_append.mp hy with q | q
    · rcases g.cl y q hn1 z hz hyz with r | r
      · exact .inl r
      · exact .inr (List.mem_append_left _ r)
    · simp only [List.mem_singleton] at q; exact absurd q hn2
/-- the node c is done: all its ways back were looked at -/
theorem Grow.close {c : α} {opn' : List α} (g : Grow V succ old many start new opn) (h : ∀ x ∈ opn', x ∈ opn) (hc : ∀ x ∈ opn, x = c ∨ x ∈ opn') (hl : ∀ x ∈ V, c ∈ succ x → x ∈ dom old ∨ x ∈ new) : Grow V succ old many start new opn' := by
  refine ⟨g.nd, g.st, g.sub, g.rch, fun x hx => g.op x (h x hx), fun y hy hn x hx hyx => ?_⟩
  by_cases e : y = c
  · subst e; exact hl x hx hyx
  · refine g.cl y hy (fun q => ?_) x hx hyx
    rcases hc y q with r | r
    · exact e r
    · exact hn r
theorem back_closed {A : List α} (hA : ∀ x ∈ V, ∀ y ∈ succ x, y ∈ A → x ∈ A) (hV : ∀ x ∈ V, ∀ y ∈ succ x, y ∈ V) {x y : α} (h : Reach succ x y) (hx : x ∈ V) (hy : y ∈ A) : x ∈ A := by
  induction h with
  | refl => exact hy
  | @step x z y hz _ ih => exact hA x hx z hz (ih (hV x hx z hz) hy)
/-- one component is whole -/
theorem Grow.done {rest : List α} {order : List α} (g : Grow V succ old many start new []) (N : Nums V succ old many) (F : Fin succ order) (hV : ∀ x ∈ V, ∀ y ∈ succ x, y ∈ V) (hO : ∀ x ∈ V, x ∈ order)
    (hr : ∃ A, order = A ++ start :: rest) (hd : ∀ x ∈ rest, x ∈ dom old) : Nums V succ (old ++ new.map fun x => (x, many)) (many + 1) := by
  have hsV : start ∈ V := g.sub _ g.st
  have hdom : dom (old ++ new.map fun x => (x, many)) = dom old ++ new := by
    simp [dom, Function.comp_def]
  have hback : ∀ x ∈ V, ∀ y ∈ succ x, y ∈ dom old ++ new → x ∈ dom old ++ new := by
    intro x hx y hy h
    rcases List.mem_append.mp h with q | q
    · exact List.mem_append_left _ (N.back x hx y hy q)
    · exact List.mem_append.mpr (g.cl y q (by simp) x hx hy)
  have hdis : ∀ x ∈ new, x ∉ dom old := by
    intro x hx h
    have := g.nd
    rw [List.nodup_append] at this
    exact this.2.2 x h x hx rfl
  -- the gathered nodes are one component
  have hmut : ∀ x ∈ new, Mut succ x start := by
    intro x hx
    refine ⟨g.rch x hx, ?_⟩
    obtain ⟨hs, x', hxx, A, B, e, hb⟩ := F.2 x (hO x (g.sub x hx)) start (g.rch x hx)
    obtain ⟨A', e'⟩ := hr
    have hnod := F.1
    have hx'V : x' ∈ V := by
      have : ∀ a b, Reach succ a b → a ∈ V → b ∈ V := by
        intro a b h
        induction h with
        | refl => exact id
        | step h1 _ ih => exact fun ha => ih (hV _ ha _ h1)
      exact this x x' hxx.1 (g.sub x hx)
    have hx'n : x' ∉ dom old := fun q => hdis x hx (back_closed N.back hV hxx.1 (g.sub x hx) q)
    have hx'r : x' ∉ rest := fun q => hx'n (hd x' q)
    -- start stands at x' or before it, and behind start all are numbered
    have hx' : x' = start := by
      rcases hb with q | q
      · exfalso
        obtain ⟨A1, A2, rfl⟩ := List.append_of_mem q
        have e2 : A' ++ start :: rest = A1 ++ start :: (A2 ++ x' :: B) := by
          rw [← e', e]; simp
        have h3 : start ∉ A' := by
          rw [e'] at hnod
          rw [List.nodup_append] at hnod
          exact fun q => hnod.2.2 _ q _ (List.mem_cons_self) rfl
        have h4 : start ∉ A1 := by
          rw [e] at hnod
          rw [List.append_assoc, List.nodup_append] at hnod
          exact fun q => hnod.2.2 _ q _ (by simp) rfl
        have h5 : rest = A2 ++ x' :: B := by
          rw [List.append_eq_append_iff] at e2
          rcases e2 with ⟨C, e3, e4⟩ | ⟨C, e3, e4⟩
          · cases C with
            | nil => simpa using e4
            | cons a C =>
              simp only [List.cons_append, List.cons.injEq] at e4
              exact absurd (by rw [e3, ← e4.1]; simp) h4
          · cases C with
            | nil => simpa using e4.symm
            | cons a C =>
              simp only [List.cons_append, List.cons.injEq] at e4
              exact absurd (by rw [e3, ← e4.1]; simp) h3
        exact hx'r (by rw [h5]; simp)
      · exact q.symm
    subst hx'
    exact hxx.2
  refine ⟨by rw [hdom]; exact g.nd, ?_, ?_, ?_, ?_, ?_⟩
  · rw [hdom]
    intro x hx
    rcases List.mem_append.mp hx with q | q
    · exact N.sub x q
    · exact g.sub x q
  · rw [hdom]; exact hback
  · intro p hp q hq
    rcases List.mem_append.mp hp with hp | hp <;> rcases List.mem_append.mp hq with hq | hq
    · exact N.same p hp q hq
    · obtain ⟨y, hy, rfl⟩ := List.mem_map.mp hq
      have h1 := N.lt p hp
      refine ⟨fun e => absurd e (by show p.2 ≠ many; omega), fun m => ?_⟩
      exact absurd (back_closed N.back hV m.2 (g.sub y hy) (List.mem_map.mpr ⟨p, hp, rfl⟩)) (hdis y hy)
    · obtain ⟨y, hy, rfl⟩ := List.mem_map.mp hp
      have h1 := N.lt q hq
      refine ⟨fun e => absurd e (by show many ≠ q.2; omega), fun m => ?_⟩
      exact absurd (back_closed N.back hV m.1 (g.sub y hy) (List.mem_map.mpr ⟨q, hq, rfl⟩)) (hdis y hy)
    · obtain ⟨y, hy, rfl⟩ := List.mem_map.mp hp
      obtain ⟨z, hz, rfl⟩ := List.mem_map.mp hq
      exact ⟨fun _ => (hmut y hy).trans (hmut z hz).symm, fun _ => rfl⟩
  · intro p hp
    rcases List.mem_append.mp hp with q | q
    · have := N.lt p q; omega
    · obtain ⟨y, hy, rfl⟩ := List.mem_map.mp q
      show many < many + 1
      omega
  · intro k hk
    by_cases e : k = many
    · subst e
      exact ⟨start, List.mem_append_right _ (List.mem_map.mpr ⟨start, g.st, rfl⟩)⟩
    · obtain ⟨x, hx⟩ := N.inh k (by omega)
      exact ⟨x, List.mem_append_left _ hx⟩
/-- all nodes have numbers, and equal ones are those that lead to each other -/
structure Scc (V : List α) (succ : α → List α) (ns : List (α × Nat)) (many : Nat) : Prop where
  nd : (dom ns).Nodup
  all : ∀ x, x ∈ dom ns ↔ x ∈ V
  same : ∀ p ∈ ns, ∀ q ∈ ns, p.2 = q.2 ↔ Mut succ p.1 q.1
  lt : ∀ p ∈ ns, p.2 < many
  inh : ∀ k, k < many → ∃ x, (x, k) ∈ ns
theorem Nums.scc (N : Nums V succ ns many) (h : ∀ x ∈ V, x ∈ dom ns) : Scc V succ ns many := ⟨N.nd, fun x => ⟨N.sub x, h x⟩, N.same, N.lt, N.inh⟩
/-- what is closed within a component and holds one node holds all -/
theorem closed_reach {A G : List α} {s t : α} (hG : ∀ x, Mut succ s x → x ∈ G) (hA : ∀ x ∈ A, ∀ y ∈ succ x, y ∈ G → y ∈ A) (hs : s ∈ A) (h : Mut succ s t) : t ∈ A := by
  have : ∀ x, Reach succ x t → Reach succ s x → x ∈ A → t ∈ A := by
    intro x hx
    induction hx with
    | refl => exact fun _ q => q
    | @step x y z hy hyz ih =>
      intro hsx hxA
      have hsy : Reach succ s y := hsx.trans (.one hy)
      exact ih h hsy (hA x hxA y hy (hG y ⟨hsy, hyz.trans h.2⟩))
  exact this s h.1 (.refl s) hs
end
/-! M4: circles: ways, reading, what a circle lacks. -/
abbrev T := List Nat
/-- the letters that make a window behind a gram -/
def fol (ws : List T) (g : T) : T := (ws.filter fun x => decide (x.dropLast = g)).map fun x => x.getLastD 0
theorem mem_fol {ws : List T} {g : T} {c : Nat} (hne : ∀ x ∈ ws, x ≠ []) : c ∈ fol ws g ↔ g ++ [c] ∈ ws := by
  unfold fol
  simp only [List.mem_map, List.mem_filter, decide_eq_true_eq]
  constructor
  · rintro ⟨x, ⟨hx, rfl⟩, rfl⟩
    have h0 := hne x hx
    have : x.dropLast ++ [x.getLastD 0] = x := by
      rw [List.getLastD_eq_getLast?, List.getLast?_eq_some_getLast h0]
      exact List.dropLast_concat_getLast h0
    rw [this]; exact hx
  · intro h
    exact ⟨g ++ [c], ⟨h, by simp⟩, by simp⟩
theorem snoc_ind {P : T → Prop} (nil : P []) (snoc : ∀ z c, P z → P (z ++ [c])) : ∀ z, P z := by
  intro z
  rw [← List.reverse_reverse z]
  induction z.reverse with
  | nil => exact nil
  | cons a l ih => rw [List.reverse_cons]; exact snoc _ _ ih
abbrev S := T × Nat
/-- the way by a letter -/
def stepC (ws : List T) (w : T) (s : S) (c : Nat) : Option S :=
  if c ∈ fol ws s.1 then (if adv w s.2 c = w.length then none else some ((s.1 ++ [c]).drop 1, adv w s.2 c)) else none
def outC (ws : List T) (w : T) (s : S) : List (Nat × S) := (fol ws s.1).filterMap fun c => (stepC ws w s c).map fun t => (c, t)
def sucC (ws : List T) (w : T) (s : S) : List S := (outC ws w s).map (·.2)
theorem mem_outC {ws : List T} {w : T} {s t : S} {c : Nat} : (c, t) ∈ outC ws w s ↔ stepC ws w s c = some t := by
  unfold outC
  simp only [List.mem_filterMap, Option.map_eq_some_iff, Prod.mk.injEq]
  constructor
  · rintro ⟨a, _, b, h, rfl, rfl⟩
    exact h
  · intro h
    refine ⟨c, ?_, t, h, rfl, rfl⟩
    unfold stepC at h
    split at h
    · assumption
    · cases h
theorem mem_sucC {ws : List T} {w : T} {s t : S} : t ∈ sucC ws w s ↔ ∃ c, stepC ws w s c = some t := by
  unfold sucC
  simp only [List.mem_map]
  constructor
  · rintro ⟨⟨c, u⟩, h, rfl⟩
    exact ⟨c, mem_outC.mp h⟩
  · rintro ⟨c, h⟩
    exact ⟨(c, t), mem_outC.mpr h, rfl⟩
/-- reading a text -/
def runC (ws : List T) (w : T) : S → T → Option S
  | s, [] => some s
  | s, c :: z => (stepC ws w s c).bind fun t => runC ws w t z
theorem runC_app {ws : List T} {w : T} : ∀ {x y : T} {s : S}, runC ws w s (x ++ y) = (runC ws w s x).bind fun t => runC ws w t y
  | [], y, s => rfl
  | c :: x, y, s => by
    show (stepC ws w s c).bind _ = ((stepC ws w s c).bind _).bind _
    cases stepC ws w s c with
    | none => rfl
    | some t => exact runC_app (x := x)
theorem runC_reach {ws : List T} {w : T} : ∀ {x : T} {s t : S}, runC ws w s x = some t → Reach (sucC ws w) s t
  | [], s, t, h => by cases h; exact .refl s
  | c :: x, s, t, h => by
    have h : (stepC ws w s c).bind (fun t => runC ws w t x) = some t := h
    cases e : stepC ws w s c with
    | none => rw [e] at h; cases h
    | some u =>
      rw [e] at h
      exact .step (mem_sucC.mpr ⟨c, e⟩) (runC_reach h)
/-- the states, and that the ways lead from states to states -/
structure Sts (ws : List T) (w : T) (V : List S) : Prop where
  ne : ∀ x ∈ ws, x ≠ []
  mem : ∀ s : S, s ∈ V ↔ (∃ x ∈ ws, s.1 = x.dropLast ∨ s.1 = x.drop 1) ∧ s.2 < w.length
theorem Sts.step {ws : List T} {w : T} {V : List S} (h : Sts ws w V) {s t : S} {c : Nat} (e : stepC ws w s c = some t) : t ∈ V := by
  unfold stepC at e
  split at e
  · rename_i hc
    split at e
    · cases e
    · rename_i hn
      cases e
      have := mat_le w (w.take s.2 ++ [c])
      refine (h.mem _).mpr ⟨⟨s.1 ++ [c], (mem_fol h.ne).mp hc, .inr rfl⟩, ?_⟩
      show adv w s.2 c < w.length
      unfold adv at hn ⊢
      omega
  · cases e
theorem Sts.suc {ws : List T} {w : T} {V : List S} (h : Sts ws w V) : ∀ x ∈ V, ∀ y ∈ sucC ws w x, y ∈ V := fun x _ y hy => by
  obtain ⟨c, e⟩ := mem_sucC.mp hy
  exact h.step e

/-! ### circles -/
def rnd (t : T) (p n : Nat) : T := (List.range n).map fun k => t.getD ((p + k) % t.length) 0
def onC (t x : T) : Prop := ∃ p, p < t.length ∧ rnd t p x.length = x
instance (t x : T) : Decidable (onC t x) := by unfold onC; exact inferInstance
structure ExpC (ps : List T) (ws : List T) (g : Nat) (t : T) : Prop where
  ne : t ≠ []
  win : ∀ p, p < t.length → rnd t p g ∈ ws
  has : ∀ x ∈ ps, onC t x
theorem rnd_len (t : T) (p n : Nat) : (rnd t p n).length = n := by simp [rnd]
theorem rnd_mod (t : T) (p n : Nat) : rnd t (p % t.length) n = rnd t p n := by
  unfold rnd
  refine List.map_congr_left fun k _ => ?_
  rw [Nat.mod_add_mod]
theorem rnd_per (t : T) (p n j : Nat) : rnd t (p + j * t.length) n = rnd t p n := by
  rw [← rnd_mod, Nat.add_mul_mod_self_right, rnd_mod]
theorem rnd_succ (t : T) (p n : Nat) : rnd t p (n + 1) = rnd t p n ++ [t.getD ((p + n) % t.length) 0] := by
  unfold rnd
  rw [List.range_succ, List.map_append]
  rfl
theorem rnd_add (t : T) (p n m : Nat) : rnd t p (n + m) = rnd t p n ++ rnd t (p + n) m := by
  induction m with
  | zero => simp [rnd]
  | succ m ih =>
    rw [← Nat.add_assoc, rnd_succ, ih, rnd_succ, List.append_assoc, Nat.add_assoc]
theorem rnd_drop (t : T) (p n k : Nat) (h : k ≤ n) : (rnd t p n).drop k = rnd t (p + k) (n - k) := by
  have e : n = k + (n - k) := by omega
  conv => lhs; rw [e, rnd_add]
  rw [List.drop_left' (rnd_len t p k)]
theorem rnd_take (t : T) (p n k : Nat) (h : k ≤ n) : (rnd t p n).take k = rnd t p k := by
  have e : n = k + (n - k) := by omega
  conv => lhs; rw [e, rnd_add]
  rw [List.take_left' (rnd_len t p k)]
theorem rnd_self (t : T) : rnd t 0 t.length = t := by
  apply List.ext_getElem
  · rw [rnd_len]
  · intro i h1 h2
    simp only [rnd, List.getElem_map, List.getElem_range, Nat.zero_add, Nat.mod_eq_of_lt h2]
    simp [List.getD_eq_getElem?_getD, h2]
theorem onC_infix {t x : T} {p n : Nat} (ht : t ≠ []) (h : x <:+: rnd t p n) : onC t x := by
  obtain ⟨a, b, e⟩ := h
  have hl : 0 < t.length := List.length_pos_iff.mpr ht
  have hn : a.length + x.length + b.length = n := by
    have := congrArg List.length e
    simpa [rnd_len, Nat.add_assoc] using this
  refine ⟨(p + a.length) % t.length, Nat.mod_lt _ hl, ?_⟩
  rw [rnd_mod]
  have h1 : (rnd t p n).drop a.length = x ++ b := by
    rw [← e, List.append_assoc, List.drop_left]
  rw [rnd_drop _ _ _ _ (by omega)] at h1
  have h2 : (rnd t (p + a.length) (n - a.length)).take x.length = x := by
    rw [h1, List.take_left]
  rw [rnd_take _ _ _ _ (by omega)] at h2
  exact h2
theorem onC_infix_self {t x : T} (ht : t ≠ []) (h : x <:+: t) : onC t x := onC_infix (p := 0) (n := t.length) ht (by rw [rnd_self]; exact h)

/-- what reading keeps: how much of the word is read, which windows were met -/
theorem runC_inv {ws : List T} {w : T} (hne : ∀ x ∈ ws, x ≠ []) {m0 : Nat} (hm : m0 < w.length) : ∀ (z : T) (g0 : T) (s : S), runC ws w (g0, m0) z = some s →
    s.2 = mat w (w.take m0 ++ z) ∧ s.1 = (g0 ++ z).drop z.length ∧ (∀ i, i < z.length → ((g0 ++ z).drop i).take (g0.length + 1) ∈ ws) ∧ ∀ i, i ≤ z.length → mat w (w.take m0 ++ z.take i) ≠ w.length := by
  intro z
  induction z using snoc_ind with
  | nil =>
    intro g0 s h
    cases h
    refine ⟨by simp [mat_take (Nat.le_of_lt hm)], by simp, by simp, fun i hi => ?_⟩
    have : i = 0 := by simpa using hi
    subst this
    simp [mat_take (Nat.le_of_lt hm)]
    omega
  | snoc z c ih =>
    intro g0 s h
    rw [runC_app] at h
    cases e : runC ws w (g0, m0) z with
    | none => rw [e] at h; cases h
    | some u =>
      rw [e] at h
      obtain ⟨h1, h2, h3, h4⟩ := ih g0 u e
      have h : (stepC ws w u c).bind (fun t => some t) = some s := h
      have h : stepC ws w u c = some s := by simpa using h
      unfold stepC at h
      split at h
      · rename_i hc
        split at h
        · cases h
        · rename_i hn
          cases h
          have hw := (mem_fol hne).mp hc
          have ha : adv w u.2 c = mat w (w.take m0 ++ (z ++ [c])) := by
            rw [h1, mat_snoc, List.append_assoc]
          have hul : u.1.length = g0.length := by rw [h2]; simp
          have hd : (g0 ++ (z ++ [c])).drop z.length = u.1 ++ [c] := by
            rw [h2, ← List.append_assoc, List.drop_append_of_le_length (by simp)]
          refine ⟨ha, ?_, ?_, ?_⟩
          · show (u.1 ++ [c]).drop 1 = _
            rw [← hd, List.drop_drop]
            simp
          · intro i hi
            simp only [List.length_append, List.length_singleton] at hi
            by_cases hz : i = z.length
            · subst hz
              rw [hd, List.take_of_length_le (by simp [hul])]
              exact hw
            · have := h3 i (by omega)
              have e2 : ((g0 ++ (z ++ [c])).drop i).take (g0.length + 1) = ((g0 ++ z).drop i).take (g0.length + 1) := by
                rw [← List.append_assoc, List.drop_append_of_le_length (by simp; omega), List.take_append_of_le_length (by simp; omega)]
              rw [e2]; exact this
          · intro i hi
            simp only [List.length_append, List.length_singleton] at hi
            by_cases hz : i = z.length + 1
            · subst hz
              have e3 : (z ++ [c]).take (z.length + 1) = z ++ [c] := List.take_of_length_le (by simp)
              rw [e3, ← ha]
              exact hn
            · rw [List.take_append_of_le_length (by omega)]
              exact h4 i (by omega)
      · cases h
/-! M5: circles: a closed reading gives a circle that lacks the word; a circle that lacks the word is read within one component. -/
/-- reading a text again and again -/
theorem runC_rep {ws : List T} {w : T} {s : S} {t : T} (h : runC ws w s t = some s) : ∀ k, runC ws w s (rnd t 0 (k * t.length)) = some s
  | 0 => by simp [rnd, runC]
  | k + 1 => by
    have e : (k + 1) * t.length = k * t.length + t.length := by rw [Nat.add_mul, Nat.one_mul]
    rw [e, rnd_add, runC_app, runC_rep h k]
    have e2 : rnd t (0 + k * t.length) t.length = t := by rw [rnd_per, rnd_self]
    rw [e2]
    exact h
theorem not_occ {ws : List T} {w : T} (hne : ∀ x ∈ ws, x ≠ []) {s u : S} {z : T} (hm : s.2 < w.length) (h : runC ws w s z = some u) : ¬ w <:+: z := by
  obtain ⟨g0, m0⟩ := s
  obtain ⟨_, _, _, h4⟩ := runC_inv hne hm z g0 u h
  intro hw
  have h5 : w <:+: w.take m0 ++ z := by
    obtain ⟨a, b, e⟩ := hw
    exact ⟨w.take m0 ++ a, b, by rw [← e]; simp⟩
  obtain ⟨y, ⟨b, hy⟩, hf⟩ := occurs_iff.mp h5
  have hm : m0 < w.length := hm
  have hl : (w.take m0).length = m0 := by rw [List.length_take]; omega
  by_cases hc : y.length ≤ m0
  · have := mat_lex w y
    omega
  · have hz : y = w.take m0 ++ z.take (y.length - m0) := by
      have e1 : (w.take m0 ++ z).take y.length = y := by rw [← hy, List.take_left]
      rw [← e1, List.take_append, hl, List.take_of_length_le (by rw [hl]; omega)]
      simp only [List.length_append, List.length_take]
      congr 2
      have := congrArg List.length hy
      simp only [List.length_append, hl] at this
      omega
    have h6 := h4 (y.length - m0) (by
      have := congrArg List.length hy
      simp only [List.length_append, hl] at this
      omega)
    rw [← hz] at h6
    exact h6 hf
/-- LACKING: a text read from a state back to it, that holds the pieces, explains them and lacks the word -/
theorem circle_lacks {ps ws : List T} {w : T} {g : Nat} {s : S} {t : T} (hne : ∀ x ∈ ws, x ≠ []) (hg : s.1.length + 1 = g) (hm : s.2 < w.length) (ht : t ≠ []) (hr : runC ws w s t = some s) (hp : ∀ x ∈ ps, x <:+: t) :
    ExpC ps ws g t ∧ ¬ onC t w := by
  have hl : 0 < t.length := List.length_pos_iff.mpr ht
  obtain ⟨g0, m0⟩ := s
  have hg : g0.length + 1 = g := hg
  refine ⟨⟨ht, ?_, fun x hx => onC_infix_self ht (hp x hx)⟩, ?_⟩
  · intro p hpl
    -- the window at p stands in the text read often enough
    have hk := runC_rep hr (p + g)
    obtain ⟨_, _, h3, _⟩ := runC_inv hne hm _ g0 _ hk
    rw [rnd_len] at h3
    have hbig : p + g ≤ (p + g) * t.length := Nat.le_mul_of_pos_right _ hl
    have h4 := h3 (g0.length + p) (by omega)
    have e1 : ((g0 ++ rnd t 0 ((p + g) * t.length)).drop (g0.length + p)).take (g0.length + 1) = rnd t p g := by
      rw [← List.drop_drop, List.drop_left, rnd_drop _ _ _ _ (by omega), rnd_take _ _ _ _ (by omega), Nat.zero_add, hg]
    rw [e1] at h4
    exact h4
  · rintro ⟨p, hpl, e⟩
    have hk := runC_rep hr (p + w.length)
    have hbig : p + w.length ≤ (p + w.length) * t.length := Nat.le_mul_of_pos_right _ hl
    refine not_occ hne hm hk ?_
    refine ⟨rnd t 0 p, rnd t (p + w.length) ((p + w.length) * t.length - (p + w.length)), ?_⟩
    have e2 : rnd t 0 ((p + w.length) * t.length) = rnd t 0 p ++ rnd t (0 + p) w.length ++ rnd t (0 + (p + w.length)) ((p + w.length) * t.length - (p + w.length)) := by
      rw [← rnd_add, ← rnd_add]
      congr 1
      omega
    rw [e2, Nat.zero_add, Nat.zero_add, e]
/-! ### always -/
theorem mat_drop {w x : T} {k : Nat} (h : w.length + k ≤ x.length) : mat w (x.drop k) = mat w x := by
  refine mat_uniq (mat_le w x) ?_ ?_
  · refine List.suffix_of_suffix_length_le (mat_suf w x) (List.drop_suffix k x) ?_
    have := mat_le w x
    rw [List.length_take, List.length_drop]
    omega
  · intro j hj hs
    exact mat_max hj (hs.trans (List.drop_suffix k x))
section
variable {ps ws : List T} {w : T} {g : Nat} {t : T}
/-- the state after i letters of the circle -/
def sig (w : T) (g : Nat) (t : T) (i : Nat) : S := (rnd t i (g - 1), mat w (rnd t (g - 1) i))
theorem sig_step (hne : ∀ x ∈ ws, x ≠ []) (hg : 1 ≤ g) (E : ExpC ps ws g t) (hw : ¬ onC t w) (i : Nat) : stepC ws w (sig w g t i) (t.getD ((i + (g - 1)) % t.length) 0) = some (sig w g t (i + 1)) := by
  have hl : 0 < t.length := List.length_pos_iff.mpr E.ne
  have h1 : rnd t i (g - 1) ++ [t.getD ((i + (g - 1)) % t.length) 0] = rnd t i g := by
    rw [← rnd_succ]; congr 1; omega
  have h2 : t.getD ((i + (g - 1)) % t.length) 0 ∈ fol ws (rnd t i (g - 1)) := by
    rw [mem_fol hne, h1]
    have := E.win (i % t.length) (Nat.mod_lt _ hl)
    rw [rnd_mod] at this
    exact this
  have h3 : adv w (mat w (rnd t (g - 1) i)) (t.getD ((i + (g - 1)) % t.length) 0) = mat w (rnd t (g - 1) (i + 1)) := by
    rw [mat_snoc, rnd_succ, Nat.add_comm i (g - 1)]
  have h4 : mat w (rnd t (g - 1) (i + 1)) ≠ w.length := by
    intro e
    exact hw (onC_infix E.ne (mat_full.mp e).isInfix)
  unfold stepC
  rw [if_pos (show _ ∈ fol ws (sig w g t i).1 from h2)]
  show (if adv w (mat w (rnd t (g - 1) i)) _ = w.length then none else some ((rnd t i (g - 1) ++ _).drop 1, adv w (mat w (rnd t (g - 1) i)) _)) = _
  rw [h3, if_neg h4, h1, rnd_drop _ _ _ _ hg]
  rfl
theorem sig_run (hne : ∀ x ∈ ws, x ≠ []) (hg : 1 ≤ g) (E : ExpC ps ws g t) (hw : ¬ onC t w) (i n : Nat) : runC ws w (sig w g t i) (rnd t (i + (g - 1)) n) = some (sig w g t (i + n)) := by
  induction n with
  | zero => simp [rnd, runC]
  | succ n ih =>
    rw [rnd_succ, runC_app, ih]
    show (stepC ws w (sig w g t (i + n)) _).bind (fun s => some s) = _
    have := sig_step hne hg E hw (i + n)
    rw [show i + (g - 1) + n = i + n + (g - 1) by omega, this]
    rfl
theorem sig_per (hi : w.length ≤ i) : sig w g t (i + t.length) = sig w g t i := by
  unfold sig
  have e1 : rnd t (i + t.length) (g - 1) = rnd t i (g - 1) := by
    have := rnd_per t i (g - 1) 1
    rwa [Nat.one_mul] at this
  have e2 : mat w (rnd t (g - 1) (i + t.length)) = mat w (rnd t (g - 1) i) := by
    rw [← mat_drop (k := t.length) (by rw [rnd_len]; omega), rnd_drop _ _ _ _ (by omega)]
    have := rnd_per t (g - 1) (i + t.length - t.length) 1
    rw [Nat.one_mul] at this
    rw [this]
    congr 2
    omega
  rw [e1, e2]
theorem sig_perk (hi : w.length ≤ i) : ∀ k, sig w g t (i + k * t.length) = sig w g t i
  | 0 => by rw [Nat.zero_mul, Nat.add_zero]
  | k + 1 => by
    rw [Nat.add_mul, Nat.one_mul, ← Nat.add_assoc, sig_per (by omega), sig_perk hi k]
theorem sig_mut (hne : ∀ x ∈ ws, x ≠ []) (hg : 1 ≤ g) (E : ExpC ps ws g t) (hw : ¬ onC t w) {i j : Nat} (hi : w.length ≤ i) (hj : w.length ≤ j) : Mut (sucC ws w) (sig w g t i) (sig w g t j) := by
  have hl : 0 < t.length := List.length_pos_iff.mpr E.ne
  have fwd : ∀ a b, w.length ≤ a → w.length ≤ b → Reach (sucC ws w) (sig w g t a) (sig w g t b) := by
    intro a b ha hb
    have h1 : a ≤ b + a * t.length := by
      have : a ≤ a * t.length := Nat.le_mul_of_pos_right _ hl
      omega
    have h2 := runC_reach (sig_run hne hg E hw a (b + a * t.length - a))
    rw [show a + (b + a * t.length - a) = b + a * t.length by omega, sig_perk hb] at h2
    exact h2
  exact ⟨fwd i j hi hj, fwd j i hj hi⟩
/-- reading a piece within a set of states -/
def readIn (ws : List T) (w : T) (G : S → Bool) : S → T → Bool
  | s, [] => G s
  | s, c :: z => G s && (match stepC ws w s c with
    | some t => readIn ws w G t z
    | none => false)
theorem sig_read (hne : ∀ x ∈ ws, x ≠ []) (hg : 1 ≤ g) (E : ExpC ps ws g t) (hw : ¬ onC t w) {G : S → Bool} (hG : ∀ i, w.length ≤ i → G (sig w g t i) = true) : ∀ (n i : Nat), w.length ≤ i → readIn ws w G (sig w g t i) (rnd t (i + (g - 1)) n) = true
  | 0, i, hi => by simp [rnd, readIn, hG i hi]
  | n + 1, i, hi => by
    have e : rnd t (i + (g - 1)) (n + 1) = t.getD ((i + (g - 1)) % t.length) 0 :: rnd t (i + 1 + (g - 1)) n := by
      rw [Nat.add_comm n 1, rnd_add, show i + (g - 1) + 1 = i + 1 + (g - 1) by omega]
      rfl
    rw [e]
    unfold readIn
    rw [hG i hi, sig_step hne hg E hw i]
    exact sig_read hne hg E hw hG n (i + 1) (by omega)
/-- ALWAYS: if no component reads all pieces within itself, the word is on every circle that explains -/
theorem circle_always {V : List S} {ns : List (S × Nat)} {many : Nat} (hg : 1 ≤ g) (St : Sts ws w V) (N : Scc V (sucC ws w) ns many) (hw0 : w ≠ [])
    (gap : ∀ k, k < many → ∃ x ∈ ps, ∀ s, (s, k) ∈ ns → readIn ws w (fun u => decide ((u, k) ∈ ns)) s x = false) (E : ExpC ps ws g t) : onC t w := by
  have hne := St.ne
  refine Decidable.byContradiction fun hw => ?_
  have hl : 0 < t.length := List.length_pos_iff.mpr E.ne
  have hV : ∀ i, sig w g t i ∈ V := by
    intro i
    refine (St.mem _).mpr ⟨⟨rnd t i g, ?_, .inl ?_⟩, ?_⟩
    · have := E.win (i % t.length) (Nat.mod_lt _ hl)
      rw [rnd_mod] at this
      exact this
    · show rnd t i (g - 1) = (rnd t i g).dropLast
      rw [List.dropLast_eq_take, rnd_len, rnd_take _ _ _ _ (by omega)]
    · have h1 := mat_le w (rnd t (g - 1) i)
      have h2 : mat w (rnd t (g - 1) i) ≠ w.length := fun e => hw (onC_infix E.ne (mat_full.mp e).isInfix)
      show mat w (rnd t (g - 1) i) < w.length
      omega
  obtain ⟨p0, hp0, he0⟩ := List.mem_map.mp ((N.all _).mpr (hV w.length))
  have hall : ∀ i, w.length ≤ i → (sig w g t i, p0.2) ∈ ns := by
    intro i hi
    obtain ⟨q, hq, he⟩ := List.mem_map.mp ((N.all _).mpr (hV i))
    have hm := sig_mut hne hg E hw (Nat.le_refl w.length) hi
    rw [← he0, ← he] at hm
    have := (N.same p0 hp0 q hq).mpr hm
    rw [← he, this]
    exact hq
  obtain ⟨x, hx, hno⟩ := gap p0.2 (N.lt p0 hp0)
  obtain ⟨p, hp, hpx⟩ := E.has x hx
  -- a late place where the piece stands
  have hi : ∃ i, w.length ≤ i ∧ rnd t (i + (g - 1)) x.length = x := by
    refine ⟨p + (w.length + g) * t.length - (g - 1), ?_, ?_⟩
    · have : w.length + g ≤ (w.length + g) * t.length := Nat.le_mul_of_pos_right _ hl
      omega
    · have : w.length + g ≤ (w.length + g) * t.length := Nat.le_mul_of_pos_right _ hl
      rw [show p + (w.length + g) * t.length - (g - 1) + (g - 1) = p + (w.length + g) * t.length by omega, rnd_per, hpx]
  obtain ⟨i, hi, he⟩ := hi
  have h1 := sig_read hne hg E hw (G := fun u => decide ((u, p0.2) ∈ ns)) (fun j hj => decide_eq_true (hall j hj)) x.length i hi
  rw [he, hno _ (hall i hi)] at h1
  exact absurd h1 (by simp)
end
/-! M6: lines: the states, the search over them. -/
/-- a state: what was read last, the tail, how much of the word, the pieces found -/
abbrev LSt := T × T × Nat × List Nat
def newF (ps : List T) (f : List Nat) (l : T) : List Nat := (List.range ps.length).filter fun k => decide (k ∈ f) || decide (ps.getD k [] <:+ l)
/-- the state after a letter -/
def stA (ps : List T) (w : T) (s : LSt) (c : Nat) : Option LSt :=
  if adv w s.2.2.1 c = w.length then none else some ((s.1 ++ [c]).drop 1, tl ps (s.2.1 ++ [c]), adv w s.2.2.1 c, newF ps s.2.2.2 (tl ps (s.2.1 ++ [c])))
def occF (ps : List T) (x : T) : List Nat := (List.range ps.length).filter fun k => decide (ps.getD k [] <:+: x)
/-- the state of a text (the gram by itself) -/
def stG (ps : List T) (w g x : T) : LSt := (g, tl ps x, mat w x, occF ps x)
theorem getD_mem {ps : List T} {k : Nat} (h : k < ps.length) : ps.getD k [] ∈ ps := by
  rw [List.getD_eq_getElem?_getD, List.getElem?_eq_getElem h]
  exact List.getElem_mem h
theorem infix_snoc {p x : T} {c : Nat} : p <:+: x ++ [c] ↔ p <:+: x ∨ p <:+ x ++ [c] := by
  constructor
  · rintro ⟨a, b, e⟩
    rcases List.eq_nil_or_concat b with rfl | ⟨b', d, rfl⟩
    · exact .inr ⟨a, by simpa using e⟩
    · rw [List.concat_eq_append, ← List.append_assoc] at e
      have := List.append_inj' e rfl
      exact .inl ⟨a, b', this.1⟩
  · rintro (h | h)
    · exact h.trans (List.prefix_append x [c]).isInfix
    · exact h.isInfix
theorem newF_occ {ps : List T} {x : T} {c : Nat} : newF ps (occF ps x) (tl ps (x ++ [c])) = occF ps (x ++ [c]) := by
  unfold newF occF
  refine List.filter_congr fun k hk => ?_
  have hk : k < ps.length := List.mem_range.mp hk
  have hm := getD_mem hk
  rw [Bool.eq_iff_iff]
  simp only [Bool.or_eq_true, decide_eq_true_eq, List.mem_filter, List.mem_range]
  rw [infix_snoc]
  constructor
  · rintro (h | h)
    · exact .inl h.2
    · exact .inr (h.trans (tl_suf ps _))
  · rintro (h | h)
    · exact .inl ⟨hk, h⟩
    · exact .inr (tl_piece hm h)
theorem stA_stG {ps : List T} {w g x : T} {c : Nat} : stA ps w (stG ps w g x) c = if mat w (x ++ [c]) = w.length then none else some (stG ps w ((g ++ [c]).drop 1) (x ++ [c])) := by
  unfold stA
  have e1 : adv w (stG ps w g x).2.2.1 c = mat w (x ++ [c]) := mat_snoc w x c
  have e2 : tl ps ((stG ps w g x).2.1 ++ [c]) = tl ps (x ++ [c]) := tl_snoc ps x c
  rw [e1, e2]
  split
  · rfl
  · show some (_, _, _, newF ps (occF ps x) (tl ps (x ++ [c]))) = _
    rw [newF_occ]
    rfl
theorem stG_nil {ps : List T} {w : T} (hne : ∀ x ∈ ps, x ≠ []) : stG ps w [] [] = ([], [], 0, []) := by
  unfold stG
  rw [mat_nil]
  have : occF ps [] = [] := by
    unfold occF
    rw [List.filter_eq_nil_iff]
    intro k hk
    have hm := hne _ (getD_mem (List.mem_range.mp hk))
    simp only [decide_eq_true_eq]
    intro h
    exact hm (List.infix_nil.mp h)
  rw [this]
  rfl
/-- reading a gram from nothing -/
def rdA (ps : List T) (w : T) (o : Option LSt) (z : T) : Option LSt := z.foldl (fun o c => o.bind fun s => stA ps w s c) o
theorem rdA_none {ps : List T} {w : T} : ∀ z, rdA ps w none z = none
  | [] => rfl
  | c :: z => rdA_none z
theorem noW_snoc {w x : T} {c : Nat} : ¬ w <:+: x ++ [c] ↔ ¬ w <:+: x ∧ mat w (x ++ [c]) ≠ w.length := by
  rw [infix_snoc, not_or, ← mat_full]
theorem rdA_eq {ps : List T} {w : T} (hne : ∀ x ∈ ps, x ≠ []) (hw : w ≠ []) (z : T) : rdA ps w (some ([], [], 0, [])) z = if w <:+: z then none else some (stG ps w [] z) := by
  induction z using snoc_ind with
  | nil =>
    rw [if_neg (fun h => hw (List.infix_nil.mp h)), stG_nil hne]
    rfl
  | snoc z c ih =>
    unfold rdA at ih ⊢
    rw [List.foldl_append, ih]
    show (if w <:+: z then none else some (stG ps w [] z)).bind (fun s => stA ps w s c) = _
    by_cases h1 : w <:+: z
    · rw [if_pos h1, if_pos (infix_snoc.mpr (.inl h1))]
      rfl
    · rw [if_neg h1]
      show stA ps w (stG ps w [] z) c = _
      rw [stA_stG]
      by_cases h2 : mat w (z ++ [c]) = w.length
      · rw [if_pos h2, if_pos (infix_snoc.mpr (.inr (mat_full.mp h2)))]
      · rw [if_neg h2, if_neg (noW_snoc.mpr ⟨h1, h2⟩)]
        rfl
/-- what explains as a line -/
structure ExpL (ps ws : List T) (g : Nat) (t : T) : Prop where
  win : ∀ i, i + g ≤ t.length → (t.drop i).take g ∈ ws
  has : ∀ x ∈ ps, x <:+: t
/-- the last n letters -/
def lastN (n : Nat) (x : T) : T := x.drop (x.length - n)
theorem lastN_len {n : Nat} {x : T} (h : n ≤ x.length) : (lastN n x).length = n := by unfold lastN; rw [List.length_drop]; omega
theorem lastN_snoc {n : Nat} {x : T} {c : Nat} (h : n ≤ x.length) : (lastN n x ++ [c]).drop 1 = lastN n (x ++ [c]) := by
  unfold lastN
  have e : x.drop (x.length - n) ++ [c] = (x ++ [c]).drop (x.length - n) := by
    rw [List.drop_append_of_le_length (by omega)]
  rw [e, List.drop_drop]
  congr 1
  simp only [List.length_append, List.length_singleton]
  omega
theorem lastN_win {n : Nat} {x : T} {c : Nat} (h : n ≤ x.length) : lastN n x ++ [c] = ((x ++ [c]).drop (x.length - n)).take (n + 1) := by
  unfold lastN
  rw [List.drop_append_of_le_length (by omega), List.take_of_length_le]
  simp only [List.length_append, List.length_drop, List.length_singleton]
  omega
/-- a state that belongs to a text without the word, all of whose windows are there -/
structure Led (ps ws : List T) (w : T) (g : Nat) (s : LSt) (x : T) : Prop where
  st : s = stG ps w (lastN (g - 1) x) x
  len : g - 1 ≤ x.length
  win : ∀ i, i + g ≤ x.length → (x.drop i).take g ∈ ws
  no : ¬ w <:+: x
section
variable {ps ws : List T} {w : T} {g : Nat}
theorem Led.step {s u : LSt} {x : T} {c : Nat} (hg : 1 ≤ g) (hne : ∀ x ∈ ws, x ≠ []) (h : Led ps ws w g s x) (hc : c ∈ fol ws s.1) (e : stA ps w s c = some u) : Led ps ws w g u (x ++ [c]) := by
  have hlen := h.len
  have hst := h.st
  subst hst
  rw [stA_stG] at e
  split at e
  · cases e
  · rename_i hn
    cases e
    refine ⟨by rw [lastN_snoc hlen], by simp; omega, fun i hi => ?_, noW_snoc.mpr ⟨h.no, hn⟩⟩
    simp only [List.length_append, List.length_singleton] at hi
    by_cases hz : i + g ≤ x.length
    · rw [List.drop_append_of_le_length (by omega), List.take_append_of_le_length (by simp; omega)]
      exact h.win i hz
    · have hi2 : i = x.length - (g - 1) := by omega
      have := (mem_fol hne).mp hc
      have e3 : (stG ps w (lastN (g - 1) x) x).1 = lastN (g - 1) x := rfl
      rw [e3, lastN_win hlen, ← hi2, show g - 1 + 1 = g by omega] at this
      exact this
theorem Led.first {gr : T} (hg : gr.length = g - 1) (hg1 : 1 ≤ g) (hn : ¬ w <:+: gr) : Led ps ws w g (stG ps w gr gr) gr := by
  refine ⟨?_, by omega, fun i hi => by omega, hn⟩
  unfold lastN
  rw [show gr.length - (g - 1) = 0 by omega, List.drop_zero]
theorem occF_full {x : T} (h : (occF ps x).length = ps.length) : ∀ p ∈ ps, p <:+: x := by
  intro p hp
  obtain ⟨k, hk, rfl⟩ := List.getElem_of_mem hp
  have h1 : (List.range ps.length).filter (fun k => decide (ps.getD k [] <:+: x)) = List.range ps.length := by
    refine List.filter_eq_self.mpr ?_
    have h2 := List.length_filter_eq_length_iff.mp (show ((List.range ps.length).filter fun k => decide (ps.getD k [] <:+: x)).length = (List.range ps.length).length by rw [List.length_range]; exact h)
    exact h2
  have h3 := List.filter_eq_self.mp h1 k (List.mem_range.mpr hk)
  rw [decide_eq_true_eq, List.getD_eq_getElem?_getD, List.getElem?_eq_getElem hk] at h3
  exact h3
theorem occF_all {x : T} (h : ∀ p ∈ ps, p <:+: x) : (occF ps x).length = ps.length := by
  unfold occF
  rw [List.filter_eq_self.mpr, List.length_range]
  intro k hk
  rw [decide_eq_true_eq]
  exact h _ (getD_mem (List.mem_range.mp hk))
/-- LACKING -/
theorem line_lacks {s : LSt} {x : T} (h : Led ps ws w g s x) (hf : s.2.2.2.length = ps.length) : ExpL ps ws g x ∧ ¬ w <:+: x := by
  have hst := h.st
  subst hst
  exact ⟨⟨h.win, occF_full hf⟩, h.no⟩
/-- ALWAYS: states closed under ways, none done -/
theorem line_always {order : List LSt} (hg : 1 ≤ g) (hne : ∀ x ∈ ws, x ≠ []) (hps : ∀ x ∈ ps, x ≠ []) (hp0 : ps ≠ []) (hpg : ∀ x ∈ ps, g ≤ x.length) (hw : w ≠ [])
    (first : ∀ x ∈ ws, ¬ w <:+: x.dropLast → stG ps w x.dropLast x.dropLast ∈ order) (hwl : ∀ x ∈ ws, x.length = g)
    (cl : ∀ s ∈ order, s.2.2.2.length ≠ ps.length ∧ ∀ c ∈ fol ws s.1, ∀ u, stA ps w s c = some u → u ∈ order) {t : T} (E : ExpL ps ws g t) : w <:+: t := by
  refine Decidable.byContradiction fun hno => ?_
  have hgt : g ≤ t.length := by
    obtain ⟨p, hp⟩ := List.exists_mem_of_ne_nil ps hp0
    exact Nat.le_trans (hpg p hp) (E.has p hp).length_le
  have pre : ∀ n, g - 1 ≤ n → n ≤ t.length → stG ps w (lastN (g - 1) (t.take n)) (t.take n) ∈ order := by
    intro n hn
    induction n with
    | zero =>
      intro _
      have h0 := E.win 0 (by omega)
      have e : ((t.drop 0).take g).dropLast = t.take 0 := by
        rw [List.drop_zero, List.dropLast_eq_take, List.length_take, List.take_take]
        congr 1
        omega
      have h1 := first _ h0 (by rw [e]; exact fun h => hno (h.trans (List.take_prefix 0 t).isInfix))
      rw [e] at h1
      have e2 : lastN (g - 1) (t.take 0) = t.take 0 := by simp [lastN]
      rw [e2]; exact h1
    | succ n ih =>
      intro hle
      by_cases hs : g - 1 ≤ n
      · have h1 := ih hs (by omega)
        have e1 : t.take (n + 1) = t.take n ++ [t[n]] := List.take_succ_eq_append_getElem (by omega)
        have hl : (t.take n).length = n := by rw [List.length_take]; omega
        have h2 := (cl _ h1).2 t[n] (by
          rw [mem_fol hne]
          show lastN (g - 1) (t.take n) ++ [t[n]] ∈ ws
          rw [lastN_win (by omega), ← e1, hl, show g - 1 + 1 = g by omega]
          have := E.win (n - (g - 1)) (by omega)
          have e3 : ((t.take (n + 1)).drop (n - (g - 1))).take g = (t.drop (n - (g - 1))).take g := by
            rw [List.drop_take, List.take_take]
            congr 1
            omega
          rw [e3]; exact this)
        have h3 : mat w (t.take n ++ [t[n]]) ≠ w.length := by
          rw [← e1]
          intro e
          exact hno ((mat_full.mp e).isInfix.trans (List.take_prefix _ t).isInfix)
        have h4 := h2 _ (by rw [stA_stG, if_neg h3])
        rw [lastN_snoc (by omega), ← e1] at h4
        exact h4
      · have hn1 : n + 1 = g - 1 := by omega
        have h0 := E.win 0 (by omega)
        have e : ((t.drop 0).take g).dropLast = t.take (n + 1) := by
          rw [List.drop_zero, List.dropLast_eq_take, List.length_take, List.take_take]
          congr 1
          omega
        have h1 := first _ h0 (by rw [e]; exact fun h => hno (h.trans (List.take_prefix _ t).isInfix))
        rw [e] at h1
        have hl : (t.take (n + 1)).length = n + 1 := by rw [List.length_take]; omega
        have e2 : lastN (g - 1) (t.take (n + 1)) = t.take (n + 1) := by
          unfold lastN
          rw [hl, ← hn1, Nat.sub_self, List.drop_zero]
        rw [e2]; exact h1
  have hfin := pre t.length (by omega) (Nat.le_refl _)
  rw [List.take_length] at hfin
  exact (cl _ hfin).1 (occF_all E.has)
/-! the states are finitely many -/
def subs : List Nat → List (List Nat)
  | [] => [[]]
  | a :: l => subs l ++ (subs l).map (a :: ·)
theorem subs_len : ∀ l : List Nat, (subs l).length = 2 ^ l.length
  | [] => rfl
  | a :: l => by
    unfold subs
    rw [List.length_append, List.length_map, subs_len l, List.length_cons, Nat.pow_succ]
    omega
theorem filter_subs (p : Nat → Bool) : ∀ l : List Nat, l.filter p ∈ subs l
  | [] => by simp [subs]
  | a :: l => by
    unfold subs
    have ih := filter_subs p l
    by_cases h : p a = true
    · rw [List.filter_cons_of_pos h]
      exact List.mem_append_right _ (List.mem_map.mpr ⟨_, ih, rfl⟩)
    · rw [List.filter_cons_of_neg h]
      exact List.mem_append_left _ ih
def begs (p : T) : List T := (List.range (p.length + 1)).map fun k => p.take k
def tails (ps : List T) : List T := ps.flatMap begs
def univ (grams ps : List T) (n : Nat) : List LSt := grams.flatMap fun a => (tails ps).flatMap fun b => (List.range n).flatMap fun m => (subs (List.range ps.length)).map fun f => (a, b, m, f)
theorem mem_univ {grams : List T} {n : Nat} {s : LSt} (h1 : s.1 ∈ grams) (h2 : s.2.1 ∈ tails ps) (h3 : s.2.2.1 < n) (h4 : s.2.2.2 ∈ subs (List.range ps.length)) : s ∈ univ grams ps n := by
  obtain ⟨a, b, m, f⟩ := s
  refine List.mem_flatMap.mpr ⟨a, h1, List.mem_flatMap.mpr ⟨b, h2, List.mem_flatMap.mpr ⟨m, List.mem_range.mpr h3, List.mem_map.mpr ⟨f, h4, rfl⟩⟩⟩⟩
theorem flatMap_len {α β : Type} (f : α → List β) (n : Nat) : ∀ l : List α, (∀ x ∈ l, (f x).length ≤ n) → (l.flatMap f).length ≤ l.length * n
  | [], _ => by simp
  | a :: l, h => by
    rw [List.flatMap_cons, List.length_append, List.length_cons, Nat.add_mul, Nat.one_mul]
    have := flatMap_len f n l fun x hx => h x (List.mem_cons_of_mem _ hx)
    have := h a List.mem_cons_self
    omega
theorem tails_len {b : Nat} (h : ∀ p ∈ ps, p.length ≤ b) : (tails ps).length ≤ ps.length * (b + 1) :=
  flatMap_len begs (b + 1) ps fun p hp => by
    have := h p hp
    unfold begs
    rw [List.length_map, List.length_range]
    omega
theorem univ_len {grams : List T} {n b : Nat} (h : ∀ p ∈ ps, p.length ≤ b) : (univ grams ps n).length ≤ grams.length * (ps.length * (b + 1) * (n * 2 ^ ps.length)) := by
  refine flatMap_len _ _ _ fun a _ => ?_
  refine Nat.le_trans (flatMap_len _ (n * 2 ^ ps.length) _ fun b _ => ?_) (Nat.mul_le_mul_right _ (tails_len h))
  refine Nat.le_trans (flatMap_len _ (2 ^ ps.length) _ fun m _ => ?_) (by rw [List.length_range]; exact Nat.le_refl _)
  rw [List.length_map, subs_len, List.length_range]
  exact Nat.le_refl _
theorem tl_tails (hp0 : ps ≠ []) (x : T) : tl ps x ∈ tails ps := by
  rcases tl_beg ps x with e | e
  · rw [e]
    obtain ⟨p, hp⟩ := List.exists_mem_of_ne_nil ps hp0
    exact List.mem_flatMap.mpr ⟨p, hp, List.mem_map.mpr ⟨0, by simp, by simp⟩⟩
  · obtain ⟨p, hp, q⟩ := isBeg_iff.mp e
    exact List.mem_flatMap.mpr ⟨p, hp, List.mem_map.mpr ⟨(tl ps x).length, List.mem_range.mpr (by have := q.length_le; omega), (List.prefix_iff_eq_take.mp q).symm⟩⟩
theorem led_univ {grams : List T} {s : LSt} {x : T} (hp0 : ps ≠ []) (h : Led ps ws w g s x) (hgr : s.1 ∈ grams) : s ∈ univ grams ps w.length := by
  have hst := h.st
  have h1 : s.2.1 = tl ps x := by rw [hst]; rfl
  have h2 : s.2.2.1 = mat w x := by rw [hst]; rfl
  have h3 : s.2.2.2 = occF ps x := by rw [hst]; rfl
  refine mem_univ hgr (by rw [h1]; exact tl_tails hp0 x) ?_ (by rw [h3]; exact filter_subs _ _)
  rw [h2]
  have := mat_le w x
  have h4 : mat w x ≠ w.length := fun e => h.no (mat_full.mp e).isInfix
  omega
theorem nodup_le {α : Type} [DecidableEq α] : ∀ {l m : List α}, l.Nodup → (∀ x ∈ l, x ∈ m) → l.length ≤ m.length
  | [], _, _, _ => Nat.zero_le _
  | a :: l, m, hn, hs => by
    obtain ⟨h1, h2⟩ := List.nodup_cons.mp hn
    have ha := hs a List.mem_cons_self
    have := nodup_le (m := m.erase a) h2 fun x hx => (List.mem_erase_of_ne (fun e : x = a => h1 (by rw [← e]; exact hx))).mpr (hs x (List.mem_cons_of_mem _ hx))
    rw [List.length_erase_of_mem ha] at this
    have h3 : 0 < m.length := List.length_pos_of_mem ha
    rw [List.length_cons]
    omega
end
/-! M7: the vote: what the columns tell. -/
/-- the letters of the pieces over a position -/
def col (pl : List (Nat × T)) (p : Nat) : T := (pl.filter fun q => decide (q.1 ≤ p) && decide (p < q.1 + q.2.length)).map fun q => q.2.getD (p - q.1) 0
def wrg (c : T) (x : Nat) : Nat := (c.filter fun y => !decide (y = x)).length
def lea (c al : T) : Nat := ((al.map (wrg c)).min?).getD 0
theorem lea_eq {c al : T} {m : Nat} (h1 : m ∈ al.map (wrg c)) (h2 : ∀ y ∈ al.map (wrg c), m ≤ y) : lea c al = m := by
  unfold lea
  rw [List.min?_eq_some_iff.mpr ⟨h1, h2⟩]; rfl
theorem lea_spec {c al : T} (h : al ≠ []) : lea c al ∈ al.map (wrg c) ∧ ∀ y ∈ al.map (wrg c), lea c al ≤ y := by
  unfold lea
  cases e : (al.map (wrg c)).min? with
  | none => rw [List.min?_eq_none_iff] at e; exact absurd (List.map_eq_nil_iff.mp e) h
  | some m => exact List.min?_eq_some_iff.mp e
theorem lea_le {c al : T} {x : Nat} (h : x ∈ al) : lea c al ≤ wrg c x := (lea_spec (List.ne_nil_of_mem h)).2 _ (List.mem_map.mpr ⟨x, h, rfl⟩)
def tot (n : Nat) (pl : List (Nat × T)) (al : T) : Nat := ((List.range n).map fun p => lea (col pl p) al).sum
/-- how many letters of the pieces are not the text's -/
def wro (pl : List (Nat × T)) (t : T) : Nat := (pl.map fun q => ((List.range q.2.length).filter fun k => !decide (q.2.getD k 0 = t.getD (q.1 + k) 0)).length).sum
theorem sum_add {a b : Nat → Nat} : ∀ l : List Nat, (l.map fun p => a p + b p).sum = (l.map a).sum + (l.map b).sum
  | [] => rfl
  | x :: l => by simp only [List.map_cons, List.sum_cons, sum_add l]; omega
theorem sum_zero : ∀ l : List Nat, (l.map fun _ => 0).sum = 0
  | [] => rfl
  | _ :: l => by simp only [List.map_cons, List.sum_cons, sum_zero l]
theorem sum_cg {a b : Nat → Nat} : ∀ l : List Nat, (∀ p ∈ l, a p = b p) → (l.map a).sum = (l.map b).sum
  | [], _ => rfl
  | x :: l, h => by simp only [List.map_cons, List.sum_cons]; rw [h x List.mem_cons_self, sum_cg l fun p hp => h p (List.mem_cons_of_mem _ hp)]
theorem sum_point {j : Nat} {b : Bool} : ∀ n, ((List.range n).map fun p => if p = j ∧ b = true then 1 else 0).sum = if j < n ∧ b = true then 1 else 0 := by
  intro n
  induction n with
  | zero => simp
  | succ n ih =>
    rw [List.range_succ, List.map_append, List.sum_append, ih]
    simp only [List.map_cons, List.map_nil, List.sum_cons, List.sum_nil, Nat.add_zero]
    by_cases hb : b = true
    · by_cases h1 : j < n
      · rw [if_pos ⟨h1, hb⟩, if_neg (by omega), if_pos ⟨by omega, hb⟩]
      · by_cases h2 : n = j
        · rw [if_neg (by omega), if_pos ⟨h2, hb⟩, if_pos ⟨by omega, hb⟩]
        · rw [if_neg (by omega), if_neg (by omega), if_neg (by omega)]
    · rw [if_neg (fun z => hb z.2), if_neg (fun z => hb z.2), if_neg (fun z => hb z.2)]
theorem sum_span {s n : Nat} {f : Nat → Bool} : ∀ l, s + l ≤ n → ((List.range n).map fun p => if s ≤ p ∧ p < s + l ∧ f (p - s) = true then 1 else 0).sum = ((List.range l).filter f).length := by
  intro l
  induction l with
  | zero =>
    intro _
    rw [sum_cg (b := fun _ => 0) _ fun p _ => by rw [if_neg]; omega]
    rw [sum_zero]; rfl
  | succ l ih =>
    intro h
    rw [sum_cg (b := fun p => (if s ≤ p ∧ p < s + l ∧ f (p - s) = true then 1 else 0) + (if p = s + l ∧ f l = true then 1 else 0)) _ fun p _ => ?_]
    · rw [sum_add, ih (by omega), sum_point, List.range_succ, List.filter_append, List.length_append]
      congr 1
      by_cases hf : f l = true
      · rw [if_pos ⟨by omega, hf⟩, List.filter_cons_of_pos hf]; rfl
      · rw [if_neg (fun z => hf z.2), List.filter_cons_of_neg hf]; rfl
    · by_cases e : p = s + l
      · subst e
        have e2 : s + l - s = l := by omega
        rw [e2]
        by_cases hf : f l = true
        · rw [if_pos ⟨by omega, by omega, hf⟩, if_neg (by omega), if_pos ⟨rfl, hf⟩]
        · rw [if_neg (fun z => hf z.2.2), if_neg (by omega), if_neg (fun z => hf z.2)]
      · rw [if_neg (c := p = s + l ∧ f l = true) (fun z => e z.1), Nat.add_zero]
        by_cases h1 : s ≤ p ∧ p < s + l ∧ f (p - s) = true
        · rw [if_pos h1, if_pos ⟨h1.1, by omega, h1.2.2⟩]
        · rw [if_neg h1, if_neg (fun z => h1 ⟨z.1, by omega, z.2.2⟩)]
theorem wrg_app {c d : T} {x : Nat} : wrg (c ++ d) x = wrg c x + wrg d x := by
  unfold wrg
  rw [List.filter_append, List.length_append]
theorem wro_cols {n : Nat} {t : T} : ∀ pl : List (Nat × T), (∀ q ∈ pl, q.1 + q.2.length ≤ n) → wro pl t = ((List.range n).map fun p => wrg (col pl p) (t.getD p 0)).sum
  | [], _ => by
    show 0 = _
    exact (sum_zero (List.range n)).symm
  | q :: pl, h => by
    have ih := wro_cols (n := n) (t := t) pl fun q hq => h q (List.mem_cons_of_mem _ hq)
    have hq := h q List.mem_cons_self
    have e : ∀ p, wrg (col (q :: pl) p) (t.getD p 0) = (if q.1 ≤ p ∧ p < q.1 + q.2.length ∧ (!decide (q.2.getD (p - q.1) 0 = t.getD (q.1 + (p - q.1)) 0)) = true then 1 else 0) + wrg (col pl p) (t.getD p 0) := fun p => by
      unfold col
      by_cases hc : q.1 ≤ p ∧ p < q.1 + q.2.length
      · rw [List.filter_cons_of_pos (by simpa using hc), List.map_cons]
        show wrg ([_] ++ _) _ = _
        rw [wrg_app]
        congr 1
        have e2 : q.1 + (p - q.1) = p := by omega
        rw [e2]
        unfold wrg
        by_cases he : q.2.getD (p - q.1) 0 = t.getD p 0
        · rw [if_neg (fun z => by have := z.2.2; rw [decide_eq_true he] at this; cases this), List.filter_cons_of_neg (by simpa using he)]; rfl
        · rw [if_pos ⟨hc.1, hc.2, by simpa using he⟩, List.filter_cons_of_pos (by simpa using he)]; rfl
      · rw [List.filter_cons_of_neg (by simpa using hc), if_neg (fun z => hc ⟨z.1, z.2.1⟩), Nat.zero_add]
    rw [sum_cg _ fun p _ => e p, sum_add, ← ih, sum_span (f := fun k => !decide (q.2.getD k 0 = t.getD (q.1 + k) 0)) q.2.length hq]
    rfl
theorem sum_one {a b : Nat → Nat} : ∀ (l : List Nat) (p : Nat), p ∈ l → (∀ q ∈ l, b q ≤ a q) → (l.map b).sum + a p ≤ (l.map a).sum + b p
  | x :: l, p, hp, h => by
    simp only [List.map_cons, List.sum_cons]
    have hx := h x List.mem_cons_self
    have hl : (l.map b).sum ≤ (l.map a).sum := by
      have : ∀ l : List Nat, (∀ q ∈ l, b q ≤ a q) → (l.map b).sum ≤ (l.map a).sum := by
        intro l
        induction l with
        | nil => intro _; exact Nat.le_refl _
        | cons y l ih =>
          intro h
          simp only [List.map_cons, List.sum_cons]
          have := h y List.mem_cons_self
          have := ih fun q hq => h q (List.mem_cons_of_mem _ hq)
          omega
      exact this l fun q hq => h q (List.mem_cons_of_mem _ hq)
    rcases List.mem_cons.mp hp with rfl | hp
    · omega
    · have := sum_one l p hp fun q hq => h q (List.mem_cons_of_mem _ hq)
      omega
theorem sum_le {a b : Nat → Nat} : ∀ l : List Nat, (∀ q ∈ l, b q ≤ a q) → (l.map b).sum ≤ (l.map a).sum
  | [], _ => Nat.le_refl _
  | x :: l, h => by
    simp only [List.map_cons, List.sum_cons]
    have := h x List.mem_cons_self
    have := sum_le l fun q hq => h q (List.mem_cons_of_mem _ hq)
    omega
section
variable {n left p : Nat} {pl : List (Nat × T)} {al t : T}
theorem tot_le (hv : ∀ q ∈ pl, q.1 + q.2.length ≤ n) (ht : ∀ p, p < n → t.getD p 0 ∈ al) : tot n pl al ≤ wro pl t := by
  rw [wro_cols pl hv]
  exact sum_le _ fun p hp => lea_le (ht p (List.mem_range.mp hp))
theorem truth_in (hv : ∀ q ∈ pl, q.1 + q.2.length ≤ n) (ht : ∀ p, p < n → t.getD p 0 ∈ al) (hb : wro pl t ≤ tot n pl al + left) (hp : p < n) : wrg (col pl p) (t.getD p 0) ≤ lea (col pl p) al + left := by
  rw [wro_cols pl hv] at hb
  have := sum_one (a := fun p => wrg (col pl p) (t.getD p 0)) (b := fun p => lea (col pl p) al) (List.range n) p (List.mem_range.mpr hp) fun p hp => lea_le (ht p (List.mem_range.mp hp))
  unfold tot at hb
  omega
/-- the letters that may stand at p; the best one -/
def lets (c al : T) (left : Nat) : T := al.filter fun x => decide (wrg c x ≤ lea c al + left)
def bests (c al : T) : T := al.filter fun x => decide (wrg c x = lea c al)
def bst (c al : T) : Nat := (bests c al).headD 0
theorem bests_ne {c : T} (h : al ≠ []) : bests c al ≠ [] := by
  obtain ⟨x, hx, e⟩ := List.mem_map.mp (lea_spec (c := c) h).1
  exact List.ne_nil_of_mem (List.mem_filter.mpr ⟨hx, decide_eq_true e⟩)
theorem bst_in {c : T} (h : al ≠ []) : bst c al ∈ bests c al := by
  have := bests_ne (c := c) h
  unfold bst
  cases e : bests c al with
  | nil => exact absurd e this
  | cons x l => simp
theorem one_letter {c : T} {x : Nat} (h : al ≠ []) (hx : x ∈ al) (hw : wrg c x ≤ lea c al + left) (h1 : (lets c al left).length = 1) : bst c al = x := by
  have m1 : x ∈ lets c al left := List.mem_filter.mpr ⟨hx, decide_eq_true hw⟩
  have hb := List.mem_filter.mp (bst_in (c := c) h)
  have m2 : bst c al ∈ lets c al left := List.mem_filter.mpr ⟨hb.1, decide_eq_true (by have := of_decide_eq_true hb.2; omega)⟩
  obtain ⟨y, e⟩ := List.length_eq_one_iff.mp h1
  rw [e] at m1 m2
  simp only [List.mem_singleton] at m1 m2
  rw [m1, m2]
/-- the consensus -/
def vot (n : Nat) (pl : List (Nat × T)) (al : T) : T := (List.range n).map fun p => bst (col pl p) al
end
open PySem PySem.Spec PyProof.Rows L2
/-! W0: the text by places; a def's promise as one word; small rules. -/

/-- the def x of the text, as the top has left it -/
def Df (K : PySem.W.Frag) (mg : Str → Option Value) (x : Str) (st : Stmt) : Prop := ∃ f fd, mg x = some (.ref f) ∧ FunD K x x (defArgs st) (defBody st) (defScope st) [] [] f fd
/-- a def that keeps a promise, ready to be called -/
def Cl (P : Program) (w : World) (K : PySem.W.Frag) (mg : Str → Option Value) (base : Heap) (x : Str) (k : Nat) (ps : List Str) (sp : Sp) : Prop :=
  ∃ f fd, mg x = some (.ref f) ∧ PySem.W.keepIn K (.ref f) = true ∧ Binds K fd ps [] ∧ FnOk P w K mg base CX0 k f fd ps sp
section
variable {P : Program} {w : World} {K : PySem.W.Frag} {mg : Str → Option Value} {base : Heap}
theorem Df.cl {x : Str} {st : Stmt} {N ps : List Str} {k : Nat} {sp : Sp} (D : Df K mg x st) (S : FnScope N ps (defScope st))
    (hb : ∀ (kV doc pm : Value) (an : Option Addr) (cdv ct : Value) (us : List Value), us.length = ps.length → bindArgs (PySem.W.fnOf x x (defArgs st) (defBody st) (defScope st) .none kV doc pm an cdv ct) ⟨us, []⟩ = pure (ps.zip us))
    (len : ∀ vs H Q E, sp vs H Q E → vs.length = ps.length)
    (hbody : ∀ (cdv : Value) (f : Addr) (A : Around) (outer : List Env) (s : Shared) (H : Hp) (vs : List V) (Q : VK) (E : XK), Room k (A.deeper (envOfC x (defScope st) s.heap.objs.size f cdv)) → sp vs H Q E →
      ∃ t, PSs (cxOf CX0 P w K mg base N x (defScope st) f cdv A outer s H E).nox (defBody st) t ∧ t { nx := fun _ H' => Q .non H', rt := Q } (start N vs) H) : Cl P w K mg base x (k + 1) ps sp := by
  obtain ⟨f, fd, hm, F⟩ := D
  refine ⟨f, fd, hm, F.kp, F.bindsN hb, F.ok S len fun cdv A outer s H vs Q E hr h => ?_⟩
  obtain ⟨t, h1, h2⟩ := hbody cdv f A outer s H vs Q E hr h
  exact ⟨t, h1.nox, h2⟩
theorem Cl.mono {x : Str} {j k : Nat} {ps : List Str} {sp : Sp} (C : Cl P w K mg base x j ps sp) (h : j ≤ k) : Cl P w K mg base x k ps sp := by
  obtain ⟨f, fd, hm, kp, b, F⟩ := C
  exact ⟨f, fd, hm, kp, b, F.mono h⟩
end
/-- f(e, ..) -/
theorem pcall {X : Cx} {x : Str} {k j : Nat} {ps : List Str} {sp : Sp} {e : Expr} {es : List Expr} {t : TA} {p pos : Pos} (C : Cl X.prog X.w X.K X.mg X.base x k ps sp) (hr : Room j X.A) (ha : PA X (e :: es) t) (hk : k ≤ j := by decide) (hg : Gl X x := by rfl)
    (hdb : (x == ("__debug__" : Str)) = false := by decide) (he : starEach (e :: es) X.env = (false, eval e X.env) :: starEach es X.env := by rfl) (hpl : (backTo pos (starEach es X.env)).any (·.1) = false := by rfl) :
    PE X (.Call (.Name x p) (e :: es) [] pos) (tCall sp [] E0 t) := by
  obtain ⟨f, fd, hm, kp, b, F⟩ := C
  exact pe_call F (hr.mono hk) hg hm kp b .nil pass0 ha hdb he hpl
/-! W1: built-in names that the module leaves alone, constants, short rules. -/
structure Bu (mg : Str → Option Value) : Prop where
  len : mg "len" = none
  rng : mg "range" = none
  mn : mg "min" = none
  an : mg "any" = none
  al : mg "all" = none
  sm : mg "sum" = none
  srt : mg "sorted" = none
  tpl : mg "tuple" = none
  ls : mg "list" = none
  nt : mg "int" = none
  ab : mg "abs" = none
  rev : mg "reversed" = none
theorem pconst {X : Cx} {x : Str} {i : Int} {pos : Pos} (hm : ∃ t, X.mg x = some (.int i t)) (hg : Gl X x := by rfl) (hd : (x == ("__debug__" : Str)) = false := by decide) : PE X (.Name x pos) (tC (.int i)) := by
  obtain ⟨t, hm⟩ := hm
  exact pe_glob hg hm ⟨t, rfl⟩ hd
theorem pconstS {X : Cx} {x z : Str} {pos : Pos} (hm : ∃ t, X.mg x = some (.str z t)) (hg : Gl X x := by rfl) (hd : (x == ("__debug__" : Str)) = false := by decide) : PE X (.Name x pos) (tC (.str z)) := by
  obtain ⟨t, hm⟩ := hm
  exact pe_glob hg hm ⟨t, rfl⟩ hd
theorem op_in_seqK {X : Cx} {K : PySem.W.Frag} (h : X.K = K) : OpR X (compareOp .In) (rIn K false) := by subst h; exact op_in_seq
theorem op_notIn_seqK {X : Cx} {K : PySem.W.Frag} (h : X.K = K) : OpR X (compareOp .NotIn) (rIn K true) := by subst h; exact op_notIn_seq
theorem ix_tupK {X : Cx} {K : PySem.W.Frag} (h : X.K = K) : IxR X (rIxT K) := by subst h; exact ix_tup
theorem ix_listK {X : Cx} {K : PySem.W.Frag} (h : X.K = K) : IxR X (rIxL K) := by subst h; exact ix_list
theorem len_seqK {X : Cx} {K : PySem.W.Frag} (h : X.K = K) : CallR X (.builtin "len") (fun xs H Q => ∃ p ys, xs = [.ref p] ∧ (SqL K H p ys ∨ SqT K H p ys) ∧ Q (.int ys.length) H) := by subst h; exact call_len_seq
/-! W2: rules that the layer lacks: count of texts, a display with one tuple key. -/
section
variable {X : Cx}
def rCntS (K : PySem.W.Frag) : V → List V → Hp → VK → Prop := fun x xs H Q => ∃ (p : Addr) (ys : List Str) (k : Str), x = .ref p ∧ xs = [.str k] ∧ SqL K H p (ys.map V.str) ∧ Q (.int (ys.count k : Nat)) H
theorem mt_countS : MtR X "list.count" (rCntS X.K) := by
  intro pins s σ H x xs v us Q I rx rxs h
  obtain ⟨p, ys, k, rfl, rfl, hs, q⟩ := h
  cases rx
  obtain ⟨u, rfl, ru⟩ := rxs.one
  obtain ⟨t, rfl⟩ := ru
  obtain ⟨its, rv, hp, hlen⟩ := I.list hs
  refine PyProof.Rows.count_list_strs (ys := ys) hp.isList rv.strs ?_
  refine ⟨.int (ys.count k : Nat), H, I.tok _, ⟨s.toks, ?_⟩, q⟩
  rw [PySem.W.cnt_strs]
/-- {k: v}, k a tuple of ints and texts -/
def tDispT1 (tk tv : TE) : TE := fun σ H Q => ∀ p, H p = none → tk σ (upd H p (.dT [])) fun x H1 => tv σ H1 fun y H2 => ∃ (b : Addr) (ks : List Key), x = .ref b ∧ H2 b = some (.tup (ks.map kV)) ∧ H2 p = some (.dT []) ∧ Q (.ref p) (upd H2 p (.dT [(ks, y)]))
theorem pe_dispT1 {k v : Expr} {tk tv : TE} {pos : Pos} (hu : X.A.units + 1 < cLine) (hk : PE X k tk) (hv : PE X v tv) : PE X (.Dict [some k] [v] pos) (tDispT1 tk tv) := by
  refine ⟨fun pins s σ H Q I q => ?_⟩
  have hn := I.hok.fresh (Nat.le_refl s.heap.objs.size)
  have I1 := I.laid (a := s.heap.objs.size) (o := .dT []) (h' := s.heap.push { cls := .type "dict", data := .dict #[] }) (t' := s.toks) (fun _ _ q => Heap.get?_push_of_some _ q) (Nat.le_refl _) (dt_empty s.heap I.big)
  refine wpAny_Dict_any rfl rfl (by simp) (by show 1 ≤ 15; decide) ?_
  refine pairTrees_cons_walk (thn (hk.run pins _ σ _ _ I1 (q _ hn)) fun u s1 ⟨x, H1, I2, rx, q1⟩ => thn (hv.run pins s1 σ H1 _ I2 q1) fun w2 s2 ⟨y, H2, I3, ry, b, ks, ex, eb, ed, q2⟩ => ?_)
  refine pairTrees_nil_walk ?_
  subst ex
  obtain rfl : u = Value.ref b := rx
  obtain ⟨z, hd, xs, rel, dd⟩ := dt_of I3.hok ed
  cases rel
  unfold storeAll
  rw [List.forIn_cons]
  refine wpAny_bind (wpAny_bind (wpAny_dictSet_heap (hsz := Nat.zero_le _) (show (tupleKind (mixKind X.prog X.w)).room X.A from Nat.lt_of_le_of_lt (Nat.le_succ _) hu) (key_of I3.hok eb) dd fun h' dd' hs => wpAny_pure ?_))
  show wpAny _ _ (forIn [] PUnit.unit _) _ _ _
  rw [List.forIn_nil]
  refine wpAny_pure ?_
  obtain ⟨o, es, ep, hq, h2, h3, h4, _, h5⟩ := dd'
  refine ⟨.ref s.heap.objs.size, _, ?_, rfl, q2⟩
  refine d_write I3 (by rw [ed]; exact True.intro) hs ⟨o, hq⟩ ⟨by show 1 ≤ sizeLine; decide, hd, _, .cons ⟨rfl, ?_, ry⟩ .nil, o, es, ep, hq, h2, h3, h4, h5⟩
  rw [upd_ne (ne_of eb ed (fun z => nomatch z))]
  exact eb
end
/-! W3: dicts whose keys are the lines' states: (text, text, int, tuple of ints). -/
def sv (t : T) : V := .str ⟨t.toArray⟩
def nk (s : LSt) : NestedKey := .tup [.text ⟨s.1.toArray⟩, .text ⟨s.2.1.toArray⟩, .num (s.2.2.1 : Int), .tup (s.2.2.2.map fun k : Nat => NestedKey.num (k : Int))]
theorem nums_inj : ∀ {a b : List Nat}, (a.map fun k : Nat => NestedKey.num (k : Int)) = (b.map fun k : Nat => NestedKey.num (k : Int)) → a = b
  | [], [], _ => rfl
  | [], _ :: _, h => by cases h
  | _ :: _, [], h => by cases h
  | x :: a, y :: b, h => by
    rw [List.map_cons, List.map_cons] at h
    injection h with h1 h2
    injection h1 with h3
    have : x = y := by omega
    rw [this, nums_inj h2]
theorem nk_inj {a b : LSt} (h : nk a = nk b) : a = b := by
  obtain ⟨a1, a2, a3, a4⟩ := a
  obtain ⟨b1, b2, b3, b4⟩ := b
  unfold nk at h
  injection h with h
  injection h with h1 h
  injection h with h2 h
  injection h with h3 h
  injection h with h4 _
  injection h1 with h1
  injection h2 with h2
  injection h3 with h3
  injection h4 with h4
  injection h1 with h1
  injection h2 with h2
  have e1 : a1 = b1 := by have := congrArg Array.toList h1; simpa using this
  have e2 : a2 = b2 := by have := congrArg Array.toList h2; simpa using this
  have e3 : a3 = b3 := by have : (a3 : Int) = (b3 : Int) := h3; omega
  have e4 : a4 = b4 := nums_inj h4
  rw [e1, e2, e3, e4]
abbrev iv (k : Nat) : V := .int (k : Int)
/-- the tuple at b is the state s -/
def LsA (H : Hp) (b : Addr) (s : LSt) : Prop := ∃ c, H b = some (.tup [sv s.1, sv s.2.1, iv s.2.2.1, .ref c]) ∧ H c = some (.tup (s.2.2.2.map iv))
theorem LsA.keep {H H' : Hp} {b : Addr} {s : LSt} (h : LsA H b s) (k : ∀ c xs, H c = some (.tup xs) → H' c = some (.tup xs)) : LsA H' b s := by
  obtain ⟨c, h1, h2⟩ := h
  exact ⟨c, k _ _ h1, k _ _ h2⟩
section
variable {P : Program} {w : World} {H : Hp} {h : Heap} {a b : Addr} {s : LSt}
theorem nums_are : ∀ {f : List Nat} {us : List Value}, Vals (f.map iv) us → NestedAll h (f.map fun k : Nat => NestedKey.num (k : Int)) us
  | [], _, r => by cases r; exact .nil
  | k :: f, _, r => by
    rw [List.map_cons] at r
    cases r with
    | cons x t =>
      obtain ⟨tk, rfl⟩ := (show ∃ t, _ = Value.int (k : Int) t from x)
      exact .cons (.int _ _) (nums_are t)
theorem nk_depth : (nk s).depth ≤ 8 := by
  have e : ∀ f : List Nat, NestedKey.depthAll (f.map fun k : Nat => NestedKey.num (k : Int)) = 0 := by
    intro f
    induction f with
    | nil => rfl
    | cons k f ih => rw [List.map_cons, NestedKey.depthAll, ih]; rfl
  unfold nk
  simp only [NestedKey.depth, NestedKey.depthAll, e]
  decide
theorem LsA.is (ok : HOk P w H h) (x : LsA H b s) : (nestedKind P w).is h (nk s) b := by
  obtain ⟨c, h1, h2⟩ := x
  obtain ⟨_, its, r, o, e1, e2, n, e3⟩ := (show ObjOk P w H h b (.tup [sv s.1, sv s.2.1, iv s.2.2.1, .ref c]) from ok b _ h1)
  obtain ⟨_, its2, r2, o2, f1, f2, n2, f3⟩ := (show ObjOk P w H h c (.tup (s.2.2.2.map iv)) from ok c _ h2)
  refine ⟨.tup e1 e2 e3 ?_, nk_depth⟩
  cases r with
  | cons g1 r => cases r with
    | cons g2 r => cases r with
      | cons g3 r => cases r with
        | cons g4 r =>
          cases r
          obtain ⟨t1, rfl⟩ := (show ∃ t, _ = Value.str ⟨s.1.toArray⟩ t from g1)
          obtain ⟨t2, rfl⟩ := (show ∃ t, _ = Value.str ⟨s.2.1.toArray⟩ t from g2)
          obtain ⟨t3, rfl⟩ := (show ∃ t, _ = Value.int (s.2.2.1 : Int) t from g3)
          obtain rfl := (show _ = Value.ref c from g4)
          exact .cons (.text _ _) (.cons (.text _ _) (.cons (.int _ _) (.cons (.tup f1 f2 f3 (by simpa using nums_are r2)) .nil)))
/-- what stands at a: a dict with these entries -/
def NPhi (P : Program) (w : World) (a : Addr) (xs : List (NestedKey × Addr × Value)) (h : Heap) : Prop :=
  (a == sysModules) = false ∧ ∃ o es ep, h.get? a = some o ∧ o.ExactDict ∧ o.data = .dict es ep ∧ es.toList = xs.map (entryOfKey (nestedKind P w)) ∧ (xs.map (·.1)).Nodup
abbrev NT (H : Hp) : List (LSt × V) → List (NestedKey × Addr × Value) → Prop := Paired fun p q => nk p.1 = q.1 ∧ LsA H q.2.1 p.1 ∧ RelV p.2 q.2.2
/-- at a stands a dict of such keys with these pairs -/
def NDct (P : Program) (w : World) (H : Hp) (a : Addr) (kvs : List (LSt × V)) : Prop := kvs.length ≤ sizeLine ∧ ∃ xs, H a = some (.ext (NPhi P w a xs)) ∧ NT H kvs xs
theorem NT.val {kvs : List (LSt × V)} {xs : List (NestedKey × Addr × Value)} (r : NT H kvs xs) (k : LSt) : RelO (valV kvs k) ((atKey xs (nk k)).map (·.2)) := by
  induction r with
  | nil => exact True.intro
  | @cons p q ps qs h t ih =>
    obtain ⟨h1, _, h2⟩ := h
    by_cases e : p.1 = k
    · have e' : q.1 = nk k := by rw [← h1, e]
      have b : atKey (q :: qs) (nk k) = some q.2 := by simp [atKey, List.find?_cons, e']
      rw [valV_pos e, b]; exact h2
    · have e' : ¬ q.1 = nk k := fun z => e (nk_inj (h1.trans z))
      have b : atKey (q :: qs) (nk k) = atKey qs (nk k) := by simp [atKey, List.find?_cons, e']
      rw [valV_neg e, b]; exact ih
theorem NT.repl {kvs : List (LSt × V)} {xs : List (NestedKey × Addr × Value)} (r : NT H kvs xs) (k : LSt) {y : V} {u : Value} (ry : RelV y u) :
    NT H (kvs.map fun kv => if kv.1 = k then (kv.1, y) else kv) (xs.map (putAt (nk k) u)) := by
  induction r with
  | nil => exact .nil
  | @cons p q ps qs h t ih =>
    rw [List.map_cons, List.map_cons]
    refine .cons ?_ ih
    obtain ⟨h1, h2, h3⟩ := h
    unfold putAt
    by_cases e : p.1 = k
    · rw [if_pos e, if_pos (by rw [← h1, e])]; exact ⟨h1, h2, ry⟩
    · rw [if_neg e, if_neg (fun z => e (nk_inj (h1.trans z)))]; exact ⟨h1, h2, h3⟩
theorem NT.put {kvs : List (LSt × V)} {xs : List (NestedKey × Addr × Value)} (r : NT H kvs xs) (k : LSt) {b : Addr} {y : V} {u : Value} (hb : LsA H b k) (ry : RelV y u) : NT H (putK kvs k y) (storedH xs (nk k) b u) := by
  have e : (kvs.any fun kv => decide (kv.1 = k)) = (atKey xs (nk k)).isSome := by
    rw [valV_any, (r.val k).isSome_eq, Option.isSome_map]
  unfold putK storedH
  rw [e]
  by_cases q : (atKey xs (nk k)).isSome = true
  · rw [if_pos q, if_pos q]; exact r.repl k ry
  · rw [if_neg q, if_neg q]; exact Paired.snoc r ⟨rfl, hb, ry⟩
theorem NT.keeps {H' : Hp} {kvs : List (LSt × V)} {xs : List (NestedKey × Addr × Value)} (r : NT H kvs xs) (ht : ∀ b ys, H b = some (.tup ys) → H' b = some (.tup ys)) : NT H' kvs xs :=
  Paired.mapP r fun _ _ z => ⟨z.1, z.2.1.keep ht, z.2.2⟩
theorem NT.is (ok : HOk P w H h) {kvs : List (LSt × V)} {xs : List (NestedKey × Addr × Value)} (r : NT H kvs xs) : ∀ x ∈ xs, (nestedKind P w).is h x.1 x.2.1 := by
  induction r with
  | nil => intro x hx; exact nomatch hx
  | @cons p q ps qs hq t ih =>
    intro x hx
    rcases List.mem_cons.mp hx with e | hx
    · subst e
      rw [← hq.1]
      exact hq.2.1.is ok
    · exact ih x hx
theorem NDct.keep {H' : Hp} {kvs : List (LSt × V)} (x : NDct P w H a kvs) (ha : ∀ o, H a = some o → H' a = some o) (ht : ∀ b ys, H b = some (.tup ys) → H' b = some (.tup ys)) : NDct P w H' a kvs := by
  obtain ⟨z, xs, e, r⟩ := x
  exact ⟨z, xs, ha _ e, r.keeps ht⟩
theorem NDct.ne {kvs : List (LSt × V)} (x : NDct P w H a kvs) {ys : List V} (hb : H b = some (.tup ys)) : b ≠ a := by
  obtain ⟨_, xs, e, _⟩ := x
  exact ne_of hb e (fun z => nomatch z)
theorem NDct.neL {kvs : List (LSt × V)} (x : NDct P w H a kvs) {ys : List V} (hb : H b = some (.lst ys)) : b ≠ a := by
  obtain ⟨_, xs, e, _⟩ := x
  exact ne_of hb e (fun z => nomatch z)
theorem NDct.of (ok : HOk P w H h) {kvs : List (LSt × V)} (x : NDct P w H a kvs) : (a == sysModules) = false ∧ ∃ xs, NT H kvs xs ∧ h.DictOfH (nestedKind P w) a xs := by
  obtain ⟨_, xs, e, r⟩ := x
  obtain ⟨⟨hs, o, es, ep, h1, h2, h3, h4, h5⟩, _, _⟩ := (show ObjOk P w H h a (.ext (NPhi P w a xs)) from ok a _ e)
  exact ⟨hs, xs, r, o, es, ep, h1, h2, h3, h4, r.is ok, h5⟩
theorem nphi_ok {H' : Hp} {h' : Heap} {xs : List (NestedKey × Addr × Value)} (p : NPhi P w a xs h') : ObjOk P w H' h' a (.ext (NPhi P w a xs)) := by
  obtain ⟨hs, o, es, ep, h1, h2, h3, h4, h5⟩ := id p
  refine ⟨p, ⟨o, h1⟩, fun h1' h2' ⟨hs, o, es, ep, h1, r⟩ k => ⟨hs, o, es, ep, k _ h1, r⟩⟩
end
section
variable {X : Cx} {o i e value : Expr} {pos pos' tpos : Pos} {td ty tv : TE}
def tDNewN (P : Program) (w : World) : TE := fun _ H Q => ∀ p ob, H p = none → NDct P w (upd H p ob) p [] → (∀ ys, ob ≠ .tup ys) → Q (.ref p) (upd H p ob)
theorem pe_dnewN : PE X (.Dict [] [] pos) (tDNewN X.prog X.w) := ⟨fun pins s σ H Q I h => by
  have hn := I.hok.fresh (Nat.le_refl s.heap.objs.size)
  have hs : (s.heap.objs.size == sysModules) = false := beq_eq_false_iff_ne.mpr (Ne.symm (Nat.ne_of_lt I.big))
  have np : NPhi X.prog X.w s.heap.objs.size [] (s.heap.push { cls := .type "dict", data := .dict #[] }) := ⟨hs, _, #[], 0, Heap.get?_push_size _ rfl, ⟨rfl, rfl, rfl⟩, rfl, rfl, List.nodup_nil⟩
  refine wpAny_Dict_empty ⟨.ref s.heap.objs.size, upd H s.heap.objs.size (.ext (NPhi X.prog X.w s.heap.objs.size [])), ?_, rfl, h _ _ hn ⟨Nat.zero_le _, [], upd_same, .nil⟩ fun ys => fun z => nomatch z⟩
  exact I.laid (a := s.heap.objs.size) (t' := s.toks) (fun _ _ q => Heap.get?_push_of_some _ q) (Nat.le_refl _) (nphi_ok np)⟩
def NGet (P : Program) (w : World) (H : Hp) (a : Addr) (y : V) (r : Option V) : Prop := ∃ kvs k b, NDct P w H a kvs ∧ y = .ref b ∧ LsA H b k ∧ r = valV kvs k
theorem ndict_typeIs {pins : List (Addr × Obj)} {σ : L2.St} {H : Hp} {s : Shared} {a : Addr} {y : V} {o : Option V} (I : Inv X pins σ H s) (g : NGet X.prog X.w H a y o) : s.TypeIs (.ref a) "dict" := by
  obtain ⟨kvs, k, b, x, _⟩ := g
  obtain ⟨_, xs, _, dd⟩ := x.of I.hok
  exact dd.typeIs
def tDGetN (P : Program) (w : World) (td ty : TE) : TE := fun σ H Q => td σ H fun x H1 => ty σ H1 fun y H2 => ∃ a v, x = .ref a ∧ NGet P w H2 a y (some v) ∧ Q v H2
theorem pe_dgetN (hu : X.A.units + 9 < cLine) (ho : PE X o td) (hi : PE X i ty) (hs : NoSl i) : PE X (.Subscript o i pos) (tDGetN X.prog X.w td ty) := by
  refine ⟨fun pins s σ H Q I h => ?_⟩
  refine subD_of PySem.F.slot_dict_getitem.lookup hs (thn (ho.run pins s σ H _ I h) fun u s1 ⟨x, H1, I1, rx, q1⟩ => thn (hi.run pins s1 σ H1 _ I1 q1) fun iv s2 ⟨y, H2, I2, ry, a, v, ex, g, q2⟩ => ?_)
  subst ex
  obtain rfl : u = Value.ref a := rx
  refine ⟨ndict_typeIs I2 g, ?_⟩
  obtain ⟨kvs, k, b, nd, ey, eb, l⟩ := g
  subst ey
  cases (show iv = Value.ref b from ry)
  obtain ⟨hd, xs, rel, dd⟩ := nd.of I2.hok
  obtain ⟨w', hw, rw'⟩ := RelO.some_of (v := v) (o := (atKey xs (nk k)).map (·.2)) (by rw [l]; exact rel.val k)
  obtain ⟨p, hp, hp2⟩ := Option.map_eq_some_iff.mp hw
  refine wpAny_getItem_heap (show X.A.units + 1 + 8 < cLine from hu) (eb.is I2.hok) dd hp ?_
  rw [hp2]
  exact ⟨v, H2, I2.tok _, rw', q2⟩
def tDNotInN (P : Program) (w : World) (ty td : TE) : TE := fun σ H Q => ty σ H fun y H1 => td σ H1 fun x H2 => ∃ a o, x = .ref a ∧ NGet P w H2 a y o ∧ Q (.bl (!o.isSome)) H2
theorem pc_dnotinN (hu : X.A.units + 9 < cLine) (hi : PE X i ty) (ho : PE X o td) : PC X .NotIn i o (tDNotInN X.prog X.w ty td) := by
  refine ⟨fun pins s σ H Q I h => ?_⟩
  refine thn (hi.run pins s σ H _ I h) fun iv s1 ⟨y, H1, I1, ry, q1⟩ => thn (ho.run pins s1 σ H1 _ I1 q1) fun u s2 ⟨x, H2, I2, rx, a, ov, ex, g, q2⟩ => ?_
  subst ex
  obtain rfl : u = Value.ref a := rx
  obtain ⟨kvs, k, b, nd, ey, eb, l⟩ := g
  subst ey
  cases (show iv = Value.ref b from ry)
  obtain ⟨hd, xs, rel, dd⟩ := nd.of I2.hok
  refine wpAny_notIn_heap (show X.A.units + 1 + 8 < cLine from hu) (eb.is I2.hok) hd dd ?_
  have q := (rel.val k).isSome_eq
  rw [Option.isSome_map] at q
  rw [← q, ← l]
  exact ⟨.bl (!ov.isSome), H2, I2.tok _, rfl, q2⟩
def sDPutN (P : Program) (w : World) (td ty tv : TE) : TS := fun D σ H => tv σ H fun v H1 => td σ H1 fun x H2 => ty σ H2 fun y H3 => ∃ a kvs k b, x = .ref a ∧ NDct P w H3 a kvs ∧ y = .ref b ∧ LsA H3 b k ∧ kvs.length < sizeLine ∧
  ∀ ob, NDct P w (upd H3 a ob) a (putK kvs k v) → D.nx σ (upd H3 a ob)
theorem ps_dputN (hu : X.A.units + 9 < cLine) (ho : PE X o td) (hi : PE X i ty) (hv : PE X value tv) (hs : swapsWith value (some (.Subscript o i pos')) pos.line X.env = pure false) :
    PS X (.Assign [.Subscript o i pos'] value pos) (sDPutN X.prog X.w td ty tv) := by
  refine ⟨fun pins s σ H D I h => ?_⟩
  refine wpAny_Assign_Subscript (thn (hv.run pins s σ H _ I h) fun r s1 ⟨v, H1, I1, rv, q1⟩ => thn (ho.run pins s1 σ H1 _ I1 q1) fun u s2 ⟨x, H2, I2, rx, q2⟩ => thn (hi.run pins s2 σ H2 _ I2 q2) fun iv s3 ⟨y, H3, I3, ry, a, kvs, k, b, ex, nd, ey, eb, hl, q3⟩ => ?_) hs
  subst ex ey
  obtain rfl : u = Value.ref a := rx
  cases (show iv = Value.ref b from ry)
  obtain ⟨hd, xs, rel, dd⟩ := nd.of I3.hok
  have hz : xs.length ≤ sizeLine := by rw [← Paired.length rel]; exact Nat.le_of_lt hl
  have hl2 : (putK kvs k v).length ≤ sizeLine := by have := length_putK kvs k v; omega
  obtain ⟨_, xs0, e0, _⟩ := id nd
  refine wpAny_setItem_heap (hsz := hz) (show X.A.units + 1 + 8 < cLine from hu) (eb.is I3.hok) dd fun h' dd' hs => ?_
  obtain ⟨q, es, ep, hq, h2, h3, h4, _, h5⟩ := dd'
  have np : NPhi X.prog X.w a (storedH xs (nk k) b r) h' := ⟨hd, q, es, ep, hq, h2, h3, h4, h5⟩
  refine ⟨σ, upd H3 a (.ext (NPhi X.prog X.w a (storedH xs (nk k) b r))), d_write I3 (by rw [e0]; exact True.intro) hs ⟨q, hq⟩ (nphi_ok np), q3 _ ⟨hl2, _, upd_same, (rel.put k eb rv).keeps fun c ys ec => ?_⟩⟩
  rw [upd_ne (nd.ne ec)]
  exact ec
end
/-! W4: sorted of lists of states, of a dict of states: some arrangement. -/
/-- the key of a circle's state -/
def sk (s : S) : List Key := [.inr ⟨s.1.toArray⟩, .inl (s.2 : Int)]
/-- the tuple at b is the state s -/
def StA (H : Hp) (b : Addr) (s : S) : Prop := H b = some (.tup [sv s.1, iv s.2])
theorem sk_inj {a b : S} (h : sk a = sk b) : a = b := by
  obtain ⟨a1, a2⟩ := a
  obtain ⟨b1, b2⟩ := b
  unfold sk at h
  injection h with h1 h
  injection h with h2 _
  injection h1 with h1
  injection h2 with h2
  injection h1 with h1
  have e1 : a1 = b1 := by have := congrArg Array.toList h1; simpa using this
  have e2 : a2 = b2 := by have : (a2 : Int) = (b2 : Int) := h2; omega
  rw [e1, e2]
theorem StA.key {H : Hp} {b : Addr} {s : S} (h : StA H b s) : H b = some (.tup ((sk s).map kV)) := h
theorem StA.inj {H : Hp} {b : Addr} {s t : S} (h : StA H b s) (k : StA H b t) : s = t := by
  have e := h.key.symm.trans k.key
  have e2 : (sk s).map kV = (sk t).map kV := by injection e with e; injection e
  exact sk_inj (kVs_inj e2)
theorem StA.keep {H H' : Hp} {b : Addr} {s : S} (h : StA H b s) (k : ∀ c xs, H c = some (.tup xs) → H' c = some (.tup xs)) : StA H' b s := k _ _ h
theorem nats_alike : ∀ a b : List Nat, PySem.W.alikeAll (a.map fun k : Nat => PyData.int (k : Int)) (b.map fun k : Nat => PyData.int (k : Int)) = true
  | [], b => by cases b <;> rfl
  | _ :: _, [] => rfl
  | x :: a, y :: b => by
    rw [List.map_cons, List.map_cons, PySem.W.alikeAll, nats_alike a b]
    rfl
theorem nats_depth : ∀ a : List Nat, PyData.depthAll (a.map fun k : Nat => PyData.int (k : Int)) = 0
  | [] => rfl
  | x :: a => by rw [List.map_cons, PyData.depthAll, nats_depth a]; rfl
theorem nats_read {h : Heap} : ∀ {f : List Nat} {us : List Value}, Vals (f.map iv) us → ReadsAll h us (f.map fun k : Nat => PyData.int (k : Int)) []
  | [], _, r => by cases r; exact .nil
  | k :: f, _, r => by
    rw [List.map_cons] at r
    cases r with
    | cons x t =>
      obtain ⟨tk, rfl⟩ := (show ∃ t, _ = Value.int (k : Int) t from x)
      exact .cons (as := []) (bs := []) (.int _ _) (nats_read t)
def encL (s : LSt) : PyData := .tuple [.str ⟨s.1.toArray⟩, .str ⟨s.2.1.toArray⟩, .int (s.2.2.1 : Int), .tuple (s.2.2.2.map fun k : Nat => PyData.int (k : Int))]
theorem LsA.read {P : Program} {w : World} {H : Hp} {h : Heap} {b : Addr} {s : LSt} (ok : HOk P w H h) (x : LsA H b s) : Reads h (.ref b) (encL s) [] := by
  obtain ⟨c, h1, h2⟩ := x
  obtain ⟨_, its, r, o, e1, e2, n, e3⟩ := (show ObjOk P w H h b (.tup [sv s.1, sv s.2.1, iv s.2.2.1, .ref c]) from ok b _ h1)
  obtain ⟨_, its2, r2, o2, f1, f2, n2, f3⟩ := (show ObjOk P w H h c (.tup (s.2.2.2.map iv)) from ok c _ h2)
  refine .tuple e1 e2 e3 ?_
  cases r with
  | cons g1 r => cases r with
    | cons g2 r => cases r with
      | cons g3 r => cases r with
        | cons g4 r =>
          cases r
          obtain ⟨t1, rfl⟩ := (show ∃ t, _ = Value.str ⟨s.1.toArray⟩ t from g1)
          obtain ⟨t2, rfl⟩ := (show ∃ t, _ = Value.str ⟨s.2.1.toArray⟩ t from g2)
          obtain ⟨t3, rfl⟩ := (show ∃ t, _ = Value.int (s.2.2.1 : Int) t from g3)
          obtain rfl := (show _ = Value.ref c from g4)
          exact .cons (as := []) (bs := []) (.str _ _) (.cons (as := []) (bs := []) (.str _ _) (.cons (as := []) (bs := []) (.int _ _) (.cons (as := []) (bs := []) (.tuple f1 f2 f3 (by simpa using nats_read r2)) .nil)))
theorem encL_alike (a b : LSt) : PySem.W.alike (encL a) (encL b) = true := by
  unfold encL
  simp only [PySem.W.alike, PySem.W.alikeAll, nats_alike, Bool.and_true]
theorem encL_depth (s : LSt) : (encL s).depth ≤ 4 := by
  unfold encL
  simp only [PyData.depth, PyData.depthAll, nats_depth]
  decide
def encS (s : S) : PyData := .tuple [.str ⟨s.1.toArray⟩, .int (s.2 : Int)]
theorem StA.read {P : Program} {w : World} {H : Hp} {h : Heap} {b : Addr} {s : S} (ok : HOk P w H h) (x : StA H b s) : Reads h (.ref b) (encS s) [] := by
  obtain ⟨_, its, r, o, e1, e2, n, e3⟩ := (show ObjOk P w H h b (.tup [sv s.1, iv s.2]) from ok b _ x)
  refine .tuple e1 e2 e3 ?_
  cases r with
  | cons g1 r => cases r with
    | cons g3 r =>
      cases r
      obtain ⟨t1, rfl⟩ := (show ∃ t, _ = Value.str ⟨s.1.toArray⟩ t from g1)
      obtain ⟨t3, rfl⟩ := (show ∃ t, _ = Value.int (s.2 : Int) t from g3)
      exact .cons (as := []) (bs := []) (.str _ _) (.cons (as := []) (bs := []) (.int _ _) .nil)
section
variable {X : Cx}
theorem vals_refs_eq : ∀ {bs : List Addr} {us : List Value}, Vals (bs.map V.ref) us → us = bs.map Value.ref
  | [], _, r => by cases r; rfl
  | b :: bs, _, r => by
    rw [List.map_cons] at r
    cases r with
    | cons x t =>
      obtain rfl := (show _ = Value.ref b from x)
      rw [vals_refs_eq t]; rfl
theorem refs_vals : ∀ bs : List Addr, Vals (bs.map V.ref) (bs.map Value.ref)
  | [] => .nil
  | _ :: bs => .cons rfl (refs_vals bs)
theorem each_map_self {β : Type} {R : Value → β → Prop} (f : β → Value) : ∀ bs : List β, (∀ b ∈ bs, R (f b) b) → PySem.W.EachIs R (bs.map f) bs
  | [], _ => .nil
  | b :: bs, h => .cons (h b List.mem_cons_self) (each_map_self f bs fun x hx => h x (List.mem_cons_of_mem _ hx))
theorem each_out {β : Type} (f : β → Addr) : ∀ {out : List Value} {bs : List β}, PySem.W.EachIs (fun v b => v = Value.ref (f b)) out bs → out = (bs.map f).map Value.ref
  | _, _, .nil => rfl
  | _, _, .cons h t => by rw [h, each_out f t]; rfl
/-- sorted(xs), xs a list of lines' states -/
def rSortLS (K : PySem.W.Frag) : List V → Hp → VK → Prop := fun vs H Q => ∃ (a : Addr) (bs : List (Addr × LSt)), vs = [V.ref a] ∧ SqL K H a (bs.map fun b => V.ref b.1) ∧ (∀ b ∈ bs, LsA H b.1 b.2) ∧
  ∀ (cs : List (Addr × LSt)) p, cs.Perm bs → H p = none → Q (.ref p) (upd H p (.lst (cs.map fun b => V.ref b.1)))
theorem cr_sortedLS (hu : X.A.units + 64 < cLine) : CallR X (.builtin "sorted") (rSortLS X.K) := by
  intro pins s σ H vs us Q I r h
  obtain ⟨a, bs, rfl, hs, hx, q⟩ := h
  obtain ⟨its, rv, hl, hz⟩ := I.list hs
  obtain ⟨u, rfl, ru⟩ := vals1 r
  obtain rfl : u = Value.ref a := ru
  have ei : its = bs.map fun b => Value.ref b.1 := by
    have e : (bs.map fun b => V.ref b.1) = (bs.map (·.1)).map V.ref := by rw [List.map_map]; rfl
    rw [e] at rv
    rw [vals_refs_eq rv, List.map_map]; rfl
  subst ei
  rw [List.length_map] at hz
  refine PySem.W.sorted_data (R := fun v b => v = Value.ref b.1) (enc := fun b : Addr × LSt => encL b.2) (bs := bs) hl.isList (each_map_self _ bs fun _ _ => rfl) (each_map_self _ bs fun b hb => ⟨[], (hx b hb).read I.hok⟩)
    (PySem.W.AllAlike.of fun b b' => encL_alike _ _) (PySem.W.Sortable.tuples fun b => ⟨_, _, rfl⟩) hz (fun b _ => by have := encL_depth b.2; omega) fun out ho he => ?_
  have eo := each_out (fun b : Addr × LSt => b.1) he
  obtain ⟨ep, hat⟩ := PyProof.Rows.sortedAll_at s.heap (bs.map fun b => Value.ref b.1) (List.toArray out)
  have hp : (bs.mergeSort (PySem.W.dataLe false fun b : Addr × LSt => encL b.2)).Perm bs := List.mergeSort_perm _ _
  refine ⟨.ref (s.heap.objs.size + 1), _, I.laid (t' := s.toks) (o := .lst ((bs.mergeSort (PySem.W.dataLe false fun b : Addr × LSt => encL b.2)).map fun b => V.ref b.1)) (fun _ _ => PyProof.Rows.sortedAll_old) (Nat.le_succ _) ⟨?_, out, ep, ?_, hat⟩, rfl, q _ _ hp (I.hok.fresh (Nat.le_succ _))⟩
  · rw [List.length_map, hp.length_eq]; exact hz
  · rw [eo]
    have e : ((bs.mergeSort (PySem.W.dataLe false fun b : Addr × LSt => encL b.2)).map fun b => V.ref b.1) = ((bs.mergeSort (PySem.W.dataLe false fun b : Addr × LSt => encL b.2)).map (·.1)).map V.ref := by rw [List.map_map]; rfl
    rw [e]
    exact refs_vals _
/-- sorted(d), d a dict whose keys are circles' states -/
def rSortDS : List V → Hp → VK → Prop := fun vs H Q => ∃ (a : Addr) (kvs : List (List Key × V)) (ss : List S), vs = [V.ref a] ∧ Rd H a (.dT kvs) ∧ kvs.map (·.1) = ss.map sk ∧
  ∀ (cs : List (Addr × S)) p, (cs.map (·.2)).Perm ss → (∀ b ∈ cs, StA H b.1 b.2) → H p = none → Q (.ref p) (upd H p (.lst (cs.map fun b => V.ref b.1)))
theorem kt_states {H : Hp} : ∀ {kvs : List (List Key × V)} {xs : List (List Key × Addr × Value)} {ss : List S}, KT H kvs xs → kvs.map (·.1) = ss.map sk → ∃ bs : List (Addr × S), bs.map (·.2) = ss ∧ (∀ b ∈ bs, StA H b.1 b.2) ∧ xs.map (fun x => x.2.1) = bs.map (·.1)
  | _, _, [], .nil, _ => ⟨[], rfl, by simp, rfl⟩
  | _, _, s :: ss, .nil, h => by cases h
  | _, _, [], .cons _ _, h => by cases h
  | _, _, s :: ss, .cons (a := p) (b := q) h t, e => by
    rw [List.map_cons, List.map_cons] at e
    injection e with e1 e2
    obtain ⟨bs, h1, h2, h3⟩ := kt_states t e2
    refine ⟨(q.2.1, s) :: bs, by rw [List.map_cons, h1], fun b hb => ?_, by rw [List.map_cons, List.map_cons, h3]⟩
    rcases List.mem_cons.mp hb with rfl | hb
    · show H q.2.1 = some (.tup ((sk s).map kV))
      rw [← e1]
      exact h.2.1
    · exact h2 b hb
theorem cr_sortedDS (hcalm : X.calm = true) (hu : X.A.units + 64 < cLine) : CallR X (.builtin "sorted") rSortDS := by
  intro pins s σ H xs us Q I r q
  obtain ⟨a, kvs, ss, ex, hd, hks, q⟩ := q
  subst ex
  obtain ⟨u, eu, rx⟩ := vals1 r
  subst eu
  cases rx
  obtain ⟨z, hs, ks, pr, o, es, ep, ho, hx, hdt, he, hn⟩ := (show ObjOk X.prog X.w H s.heap a (.dT kvs) from hd.ok I.hok)
  obtain ⟨bs, hb1, hb2, hb3⟩ := kt_states pr hks
  have l1 : es.size = ks.length := size_of_entries he
  have l2 : kvs.length = ks.length := Paired.length pr
  have l3 : bs.length = ks.length := by
    have := congrArg List.length hb3
    rw [List.length_map, List.length_map] at this
    exact this.symm
  refine Calls.call_function_entry PyProof.Rows.kind_sorted PyProof.Rows.plain_sorted PyProof.Rows.entry_sorted (PyProof.Rows.args_sorted1 _) ?_
  unfold Builtin.«sorted»
  refine wpAny_bind (m := checkCount "sorted" 1 1 _) (wpAny_pure ?_)
  refine wpAny_bind (PySem.W.kdu_collect (A := X.A.in1) (kdl_raw hs hx hdt) (I.ok.hd hcalm) ho (by omega) fun h' tk acc hk hacc => ?_)
  have ea : acc.toList = bs.map fun b => Value.ref b.1 := by
    have hl : acc.toList.length = ks.length := by rw [Array.length_toList, hacc.1]; exact l1
    have e1 : acc.toList = ks.map fun x => Value.ref x.2.1 := by
      apply List.ext_getElem?
      intro j
      rw [List.getElem?_map]
      cases hj : acc.toList[j]? with
      | none =>
        have h1 := List.getElem?_eq_none_iff.mp hj
        rw [List.getElem?_eq_none (by omega)]
        rfl
      | some v =>
        obtain ⟨en, hen, hv⟩ := hacc.2 j v (by rw [← Array.getElem?_toList]; exact hj)
        have qe := entry_at he j
        rw [hen] at qe
        cases hb : ks[j]? with
        | none =>
          rw [hb] at qe
          exact nomatch (show some en = none from qe)
        | some b =>
          rw [hb] at qe
          have e2 : en = entryOfKey (tupleKind (mixKind X.prog X.w)) b := Option.some.inj qe
          rw [hv, e2]
          rfl
    have e3 : (ks.map fun x => Value.ref x.2.1) = (ks.map fun x => x.2.1).map Value.ref := by rw [List.map_map]; rfl
    rw [e1, e3, hb3, List.map_map]
    rfl
  have I1 : Inv X pins σ H { s with heap := h', toks := tk } := I.kept hk
  refine wpAny_bind (wpAny_newList ?_ (by rw [ea, List.length_map]; omega))
  have hoL : (h'.push (seqObj "list" acc.toList.toArray 0)).get? h'.objs.size = some (seqObj "list" acc.toList.toArray 0) := Heap.get?_push_size _ rfl
  show wpAny _ _ _ _ _ { s with heap := h'.push (seqObj "list" acc.toList.toArray 0), toks := tk }
  rw [ea] at hoL ⊢
  refine wpAny_bind (wpAny_holding (PySem.W.list_sort_data (s := { s with heap := h'.push (seqObj "list" (bs.map fun b => Value.ref b.1).toArray 0), toks := tk }) (R := fun v b => v = Value.ref b.1) (enc := fun b : Addr × S => encS b.2) (bs := bs) hoL (each_map_self _ bs fun _ _ => rfl)
    (each_map_self _ bs fun b hb => ⟨[], PyProof.Rows.Reads.keeps (fun _ _ q => Heap.get?_push_of_some _ q) ((hb2 b hb).read I1.hok), by simp⟩) (PySem.W.AllAlike.of fun b b' => by unfold encS; rfl) (PySem.W.Sortable.tuples fun b => ⟨_, _, rfl⟩) (by omega)
    (fun b _ => by show X.A.units + 1 + 1 + (encS b.2).depth < cLine; unfold encS; have : (PyData.tuple [PyData.str ⟨b.2.1.toArray⟩, PyData.int (b.2.2 : Int)]).depth ≤ 3 := by (simp only [PyData.depth, PyData.depthAll]; decide)
                   omega) fun out hol hee => ?_))
  have eo := each_out (fun b : Addr × S => b.1) hee
  obtain ⟨e', he'⟩ := PyProof.Rows.sortedHeap_at (vs := bs.map fun b => Value.ref b.1) (out := List.toArray out) hoL
  have hp : (bs.mergeSort (PySem.W.dataLe false fun b : Addr × S => encS b.2)).Perm bs := List.mergeSort_perm _ _
  refine wpAny_pure ⟨_, rfl, .ref h'.objs.size, upd H h'.objs.size (.lst ((bs.mergeSort (PySem.W.dataLe false fun b : Addr × S => encS b.2)).map fun b => V.ref b.1)), I1.laid (t' := tk) (fun b u e => ?_) (Nat.le_refl _)
    (show ObjOk X.prog X.w _ _ _ (.lst _) from ⟨?_, out, e', ?_, he'⟩), rfl, q _ _ (by rw [← hb1]; exact hp.map _) (fun b hb => hb2 b (hp.mem_iff.mp hb)) (I1.hok.fresh (Nat.le_refl _))⟩
  · have hb : b < h'.objs.size := Heap.lt_size e
    rw [PyProof.Rows.sortedHeap_old (Nat.ne_of_lt hb) (by rw [size_push']; exact Nat.lt_succ_of_lt hb)]
    exact Heap.get?_push_of_some _ e
  · rw [List.length_map, hp.length_eq]; omega
  · rw [eo]
    have e : ((bs.mergeSort (PySem.W.dataLe false fun b : Addr × S => encS b.2)).map fun b => V.ref b.1) = ((bs.mergeSort (PySem.W.dataLe false fun b : Addr × S => encS b.2)).map (·.1)).map V.ref := by rw [List.map_map]; rfl
    rw [e]
    exact refs_vals _
end
/-! W5: the readings' steps, over texts as lists. -/
section
variable {X : Cx}
/-! ### rules told over texts -/
theorem OpR.imp {f : Value → Value → Sem Value} {r r' : R2} (h : OpR X f r) (k : ∀ x y H Q, r' x y H Q → r x y H Q) : OpR X f r' := fun pins s σ H x y v u Q I rx ry q => h pins s σ H x y v u Q I rx ry (k _ _ _ _ q)
theorem IxR.imp {r r' : R2} (h : IxR X r) (k : ∀ x y H Q, r' x y H Q → r x y H Q) : IxR X r' := fun a b pins s σ H x y v u Q I rx ry q => h a b pins s σ H x y v u Q I rx ry (k _ _ _ _ q)
theorem SlR.imp {r r' : V → Option Int → Option Int → Hp → VK → Prop} (h : L2.SlR X r) (k : ∀ x l u H Q, r' x l u H Q → r x l u H Q) : L2.SlR X r' := fun pins s σ H x v vl vu lo hi sl Q I rx hs p1 p2 q => h pins s σ H x v vl vu lo hi sl Q I rx hs p1 p2 (k _ _ _ _ _ q)
theorem CallR.imp {f : Value} {r r' : List V → Hp → VK → Prop} (h : CallR X f r) (k : ∀ x H Q, r' x H Q → r x H Q) : CallR X f r' := fun pins s σ H xs us Q I rv q => h pins s σ H xs us Q I rv (k _ _ _ q)
theorem MtR.imp {id : String} {r r' : V → List V → Hp → VK → Prop} (h : MtR X id r) (k : ∀ x xs H Q, r' x xs H Q → r x xs H Q) : MtR X id r' := fun pins s σ H x xs v us Q I rx rv q => h pins s σ H x xs v us Q I rx rv (k _ _ _ _ q)
theorem sv_len (t : T) : (⟨t.toArray⟩ : Str).length = t.length := by show t.toArray.size = t.length; simp
theorem sv_app (a b : T) : (⟨a.toArray⟩ : Str) ++ ⟨b.toArray⟩ = ⟨(a ++ b).toArray⟩ := by
  show (⟨a.toArray ++ b.toArray⟩ : Str) = _
  rw [List.append_toArray]
theorem sv_inj {a b : T} (h : sv a = sv b) : a = b := by
  unfold sv at h
  injection h with h
  injection h with h
  have := congrArg Array.toList h
  simpa using this
theorem sv_eq {a b : T} : decide (sv a = sv b) = decide (a = b) := by
  by_cases h : a = b
  · subst h; simp
  · rw [decide_eq_false h, decide_eq_false fun e => h (sv_inj e)]
def rAddT : R2 := fun x y H Q => ∃ a b : T, x = sv a ∧ y = sv b ∧ a.length + b.length ≤ sizeLine ∧ Q (sv (a ++ b)) H
theorem op_addT : OpR X (binaryOp .Add) rAddT := OpR.imp op_add_str fun x y H Q ⟨a, b, e1, e2, h, q⟩ => ⟨⟨a.toArray⟩, ⟨b.toArray⟩, e1, e2, by rw [sv_len, sv_len]; exact h, by rw [sv_app]; exact q⟩
def rSlT (x : V) (lo hi : Option Int) (H : Hp) (Q : VK) : Prop := ∃ t : T, x = sv t ∧ t.length ≤ sizeLine ∧ Q (sv ((t.drop (HT.sIx t.length 0 lo)).take (HT.sIx t.length t.length hi - HT.sIx t.length 0 lo))) H
theorem sl_txt1 : L2.SlR X rSlT := SlR.imp sl_str fun x l u H Q ⟨t, e, h, q⟩ => ⟨⟨t.toArray⟩, e, by rw [sv_len]; exact h, by unfold cutS; rw [sv_len]; exact q⟩
def rIxT1 : R2 := fun x y H Q => ∃ (t : T) (i : Int) (c : Nat), x = sv t ∧ y = .int i ∧ t.length ≤ sizeLine ∧ atI t i = some c ∧ Q (sv [c]) H
theorem ix_txt : IxR X rIxT1 := IxR.imp ix_str fun x y H Q ⟨t, i, c, e1, e2, h, h2, q⟩ => ⟨⟨t.toArray⟩, i, c, e1, e2, by rw [sv_len]; exact h, by simpa using h2, q⟩
def rLenT1 : List V → Hp → VK → Prop := fun xs H Q => ∃ t : T, xs = [sv t] ∧ t.length ≤ sizeLine ∧ Q (.int (t.length : Int)) H
theorem len_txt : CallR X (.builtin "len") rLenT1 := CallR.imp call_len_str fun x H Q ⟨t, e, h, q⟩ => ⟨⟨t.toArray⟩, e, by rw [sv_len]; exact h, by rw [sv_len]; exact q⟩
def rLenSq (K : PySem.W.Frag) : List V → Hp → VK → Prop := fun xs H Q => ∃ p ys, xs = [.ref p] ∧ (SqL K H p ys ∨ SqT K H p ys) ∧ Q (.int (ys.length : Int)) H
theorem len_seq {K : PySem.W.Frag} (h : X.K = K) : CallR X (.builtin "len") (rLenSq K) := by subst h; exact call_len_seq
def rMin2 : List V → Hp → VK → Prop := fun xs H Q => ∃ i j, xs = [.int i, .int j] ∧ Q (.int (if j < i then j else i)) H
theorem min_two (hc : X.calm = true) : CallR X (.builtin "min") rMin2 := call_min2 hc
def rAbs1 : List V → Hp → VK → Prop := fun xs H Q => ∃ i : Int, xs = [.int i] ∧ Q (.int (if i < 0 then -i else i)) H
theorem abs_one : CallR X (.builtin "abs") rAbs1 := call_abs
def rInt1 : List V → Hp → VK → Prop := fun xs H Q => ∃ i : Int, xs = [.int i] ∧ Q (.int i) H
theorem int_one : CallR X (.type "int") rInt1 := CallR.imp call_int1 fun _ _ _ ⟨i, e, q⟩ => .inl ⟨i, e, q⟩
def rTupOf (K : PySem.W.Frag) : List V → Hp → VK → Prop := fun xs H Q => ∃ p ys, xs = [.ref p] ∧ SqL K H p ys ∧ ∀ l, H l = none → Q (.ref l) (upd H l (.tup ys))
theorem tup_of {K : PySem.W.Frag} (h : X.K = K) : CallR X (.type "tuple") (rTupOf K) := by subst h; exact CallR.imp call_tuple_of fun _ _ _ ⟨p, ys, e, h, q⟩ => ⟨p, ys, e, .inl ⟨h, q⟩⟩
def rLstOf (K : PySem.W.Frag) : List V → Hp → VK → Prop := fun xs H Q => ∃ p ys, xs = [.ref p] ∧ (SqL K H p ys ∨ SqT K H p ys) ∧ ∀ l, H l = none → Q (.ref l) (upd H l (.lst ys))
theorem lst_of {K : PySem.W.Frag} (h : X.K = K) : CallR X (.type "list") (rLstOf K) := by subst h; exact call_list_of
/-- one behind another, none is less than the one before it -/
def Rising : List T → Prop
  | [] => True
  | [_] => True
  | a :: b :: r => ¬ b < a ∧ Rising (b :: r)
def rSortT (K : PySem.W.Frag) : List V → Hp → VK → Prop := fun vs H Q => ∃ (a : Addr) (ts : List T), vs = [V.ref a] ∧ SqL K H a (ts.map sv) ∧ ts.length < 64 ∧ ∀ (us : List T) (p : Addr), us.Perm ts → Rising us → H p = none → Q (.ref p) (upd H p (.lst (us.map sv)))
abbrev stT (t : T) : Str := ⟨t.toArray⟩
theorem strs_texts {ys : List Str} {ts : List T} (h : ys.Perm (ts.map stT)) : ∃ us : List T, us.Perm ts ∧ ys = us.map stT := by
  refine ⟨ys.map fun y => y.cps.toList, ?_, ?_⟩
  · have := h.map fun y : Str => y.cps.toList
    rw [List.map_map] at this
    have e : (ts.map ((fun y : Str => y.cps.toList) ∘ stT)) = ts := by
      conv => rhs; rw [← List.map_id ts]
      exact List.map_congr_left fun t _ => by simp
    rw [e] at this
    exact this
  · rw [List.map_map]
    conv => lhs; rw [← List.map_id ys]
    exact List.map_congr_left fun y _ => by simp
theorem rising_of : ∀ {us : List T}, sortedS (us.map stT) = true → Rising us
  | [], _ => True.intro
  | [_], _ => True.intro
  | a :: b :: r, h => by
    have h : (!Spec.ltCps b a && risingS (stT b) (r.map stT)) = true := by
      have h' : (!Spec.ltCps (stT b).cps.toList (stT a).cps.toList && risingS (stT b) (r.map stT)) = true := h
      simpa using h'
    rw [Bool.and_eq_true] at h
    refine ⟨fun q => ?_, rising_of (us := b :: r) h.2⟩
    have h1 := h.1
    rw [PyProof.Rows.ltCps_eq, decide_eq_true q] at h1
    exact absurd h1 (by decide)
theorem map_sv (ts : List T) : ts.map sv = (ts.map stT).map V.str := by rw [List.map_map]; rfl
theorem sort_txt {K : PySem.W.Frag} (h : X.K = K) : CallR X (.builtin "sorted") (rSortT K) := by
  subst h
  refine CallR.imp cr_sortedS fun vs H Q ⟨a, ts, e, hs, hl, q⟩ => ⟨a, ts.map stT, e, by rw [← map_sv]; exact hs, by rw [List.length_map]; exact hl, fun ys p hp hr hn => ?_⟩
  obtain ⟨us, h1, rfl⟩ := strs_texts hp
  rw [← map_sv]
  exact q us p h1 (rising_of hr) hn
theorem eqV_sv (a b : T) : eqV (sv a) (sv b) = decide (a = b) := by
  show ((stT a) == (stT b)) = decide (a = b)
  rw [← sv_eq]
  by_cases h : a = b
  · subst h; simp
  · have : stT a ≠ stT b := fun e => h (sv_inj (congrArg V.str e))
    rw [decide_eq_false (fun e => h (sv_inj e))]
    simp [this]
theorem inV_sv (a : T) : ∀ ts : List T, inV (sv a) (ts.map sv) = decide (a ∈ ts)
  | [] => rfl
  | t :: ts => by
    have ih := inV_sv a ts
    unfold inV at ih ⊢
    rw [List.map_cons, List.any_cons, ih, eqV_sv]
    by_cases h : t = a
    · subst h; simp
    · have h2 : ¬ a = t := fun e => h e.symm
      simp [h, h2]
theorem flat_sv : ∀ ts : List T, (ts.map sv).all flatV = true
  | [] => rfl
  | t :: ts => by rw [List.map_cons, List.all_cons, flat_sv ts]; rfl
theorem inV_iv (a : Nat) : ∀ f : List Nat, inV (iv a) (f.map iv) = decide (a ∈ f)
  | [] => rfl
  | t :: f => by
    have ih := inV_iv a f
    unfold inV at ih ⊢
    rw [List.map_cons, List.any_cons, ih]
    have e : eqV (iv t) (iv a) = decide (t = a) := by
      show ((t : Int) == (a : Int)) = decide (t = a)
      by_cases h : t = a
      · subst h; simp
      · have : ¬ (t : Int) = (a : Int) := by omega
        simp [h, this]
    rw [e]
    by_cases h : t = a
    · subst h; simp
    · have h2 : ¬ a = t := fun e => h e.symm
      simp [h, h2]
theorem flat_iv : ∀ f : List Nat, (f.map iv).all flatV = true
  | [] => rfl
  | t :: f => by rw [List.map_cons, List.all_cons, flat_iv f]; rfl
/-- x in a list or tuple of texts; of ints -/
def rInT (K : PySem.W.Frag) (neg : Bool) : R2 := fun x y H Q => ∃ (a : T) (p : Addr) (ts : List T), x = sv a ∧ y = .ref p ∧ (SqL K H p (ts.map sv) ∨ SqT K H p (ts.map sv)) ∧ Q (.bl (if neg then !decide (a ∈ ts) else decide (a ∈ ts))) H
theorem op_inT {K : PySem.W.Frag} (h : X.K = K) : OpR X (compareOp .In) (rInT K false) := by
  subst h
  exact OpR.imp op_in_seq fun x y H Q ⟨a, p, ts, e1, e2, hs, q⟩ => ⟨p, _, e2, hs, by rw [e1]; rfl, flat_sv ts, by rw [e1, inV_sv]; exact q⟩
theorem op_niT {K : PySem.W.Frag} (h : X.K = K) : OpR X (compareOp .NotIn) (rInT K true) := by
  subst h
  exact OpR.imp op_notIn_seq fun x y H Q ⟨a, p, ts, e1, e2, hs, q⟩ => ⟨p, _, e2, hs, by rw [e1]; rfl, flat_sv ts, by rw [e1, inV_sv]; exact q⟩
def rInN (K : PySem.W.Frag) : R2 := fun x y H Q => ∃ (a : Nat) (p : Addr) (f : List Nat), x = iv a ∧ y = .ref p ∧ SqT K H p (f.map iv) ∧ Q (.bl (decide (a ∈ f))) H
theorem op_inN {K : PySem.W.Frag} (h : X.K = K) : OpR X (compareOp .In) (rInN K) := by
  subst h
  exact OpR.imp op_in_seq fun x y H Q ⟨a, p, f, e1, e2, hs, q⟩ => ⟨p, _, e2, .inr hs, by rw [e1]; rfl, flat_iv f, by rw [e1, inV_iv]; exact q⟩
/-- one letter in a text -/
def rNiC : R2 := fun x y H Q => ∃ (c : Nat) (t : T), x = sv [c] ∧ y = sv t ∧ Q (.bl (!decide (c ∈ t))) H
theorem op_niC : OpR X (compareOp .NotIn) rNiC := OpR.imp op_notIn_sign fun x y H Q ⟨c, t, e1, e2, q⟩ => ⟨c, stT t, e1, e2, by simpa using q⟩
/-- a text in a text -/
theorem found_sv (a b : T) : (!(Builtin.Str.occurrences (stT b) (stT a) 0 (stT b).length 1).isEmpty) = decide (a <:+: b) := by
  rw [Bool.eq_iff_iff, decide_eq_true_eq]
  have h0 := PySem.StrLaws.found_iff (stT b) (stT a)
  rw [h0]
  rw [sv_len, sv_len]
  constructor
  · rintro ⟨i, h1, h2⟩
    have h2 : ((b.toArray.extract i (i + a.toArray.size)) == a.toArray) = true := h2
    rw [beq_iff_eq] at h2
    have h3 := congrArg Array.toList h2
    rw [Array.toList_extract] at h3
    have h3 : (b.drop i).take a.length = a := by simpa [List.extract_eq_take_drop] using h3
    rw [← h3]
    exact (List.take_prefix _ _).isInfix.trans (List.drop_suffix _ _).isInfix
  · rintro ⟨x, y, e⟩
    refine ⟨x.length, by rw [← e]; simp only [List.length_append]; omega, ?_⟩
    show ((b.toArray.extract x.length (x.length + a.toArray.size)) == a.toArray) = true
    rw [beq_iff_eq]
    apply Array.toList_inj.mp
    rw [Array.toList_extract]
    have : (b.drop x.length).take a.length = a := by rw [← e, List.append_assoc, List.drop_left, List.take_left]
    simpa [List.extract_eq_take_drop] using this
def rInS : R2 := fun x y H Q => ∃ a b : T, x = sv a ∧ y = sv b ∧ Q (.bl (decide (a <:+: b))) H
theorem op_inS1 : OpR X (compareOp .In) rInS := OpR.imp op_in_str fun x y H Q ⟨a, b, e1, e2, q⟩ => ⟨stT a, stT b, e1, e2, by rw [found_sv]; exact q⟩
def rNiS : R2 := fun x y H Q => ∃ a b : T, x = sv a ∧ y = sv b ∧ Q (.bl (!decide (a <:+: b))) H
theorem op_niS1 : OpR X (compareOp .NotIn) rNiS := OpR.imp op_notIn_str fun x y H Q ⟨a, b, e1, e2, q⟩ => ⟨stT a, stT b, e1, e2, by rw [found_sv]; exact q⟩
/-- >= of one-letter texts -/
def rGeC : R2 := fun x y H Q => ∃ a b : T, x = sv a ∧ y = sv b ∧ Q (.bl (!decide (a < b))) H
theorem op_geC : OpR X (compareOp .GtE) rGeC := OpR.imp op_ge_str fun x y H Q ⟨a, b, e1, e2, q⟩ => ⟨stT a, stT b, e1, e2, by simpa using q⟩
/-- ''.join(xs) -/
def rJoinT (K : PySem.W.Frag) : V → List V → Hp → VK → Prop := fun x xs H Q => ∃ (p : Addr) (ts : List T), x = sv [] ∧ xs = [.ref p] ∧ (SqL K H p (ts.map sv) ∨ SqT K H p (ts.map sv)) ∧ ts.flatten.length ≤ 16777216 ∧ Q (sv ts.flatten) H
theorem join_stT : ∀ ts : List T, Str.join (stT []) (ts.map stT) = stT ts.flatten
  | [] => rfl
  | [t] => by show stT t = _; rw [List.flatten_cons, List.flatten_nil, List.append_nil]
  | a :: b :: r => by
    have ih := join_stT (b :: r)
    show stT a ++ stT [] ++ Str.join (stT []) ((b :: r).map stT) = _
    rw [ih]
    have e1 : stT a ++ stT [] = stT (a ++ []) := sv_app a []
    have e2 : stT (a ++ []) ++ stT (b :: r).flatten = stT (a ++ [] ++ (b :: r).flatten) := sv_app _ _
    rw [e1, e2, List.append_nil]
    rfl
theorem join_txt {K : PySem.W.Frag} (h : X.K = K) : MtR X "str.join" (rJoinT K) := by
  subst h
  refine MtR.imp mt_join fun x xs H Q ⟨p, ts, e1, e2, hs, hl, q⟩ => ⟨stT [], p, ts.map stT, e1, e2, by rw [← map_sv]; exact hs, ?_, ?_⟩
  · have e : ((ts.map stT).map (·.length)).sum = ts.flatten.length := by
      rw [List.map_map, List.length_flatten]
      exact congrArg List.sum (List.map_congr_left fun t _ => sv_len t)
    have e2 : (stT []).length = 0 := rfl
    rw [e, e2]
    omega
  · rw [TL.join_eq, join_stT]
    exact q
theorem pe_joinT {o e : Expr} {to te : TE} {apos pos : Pos} {K : PySem.W.Frag} (h : X.K = K) (ho : PE X o to) (he : PE X e te)
    (hbase : attributeBase o "join" X.env (eval o X.env) = eval o X.env := by rfl) (hline : (apos.endLine == pos.line) = true := by rfl) (na : starEach [e] X.env = (false, eval e X.env) :: starEach [] X.env := by rfl) : PE X (.Call (.Attribute o "join" apos) [e] [] pos) (tM1 (rJoinT K) to te) :=
  pe_m1 PySem.F.slot_str_join PySem.F.type_str_join (join_txt h) ho he (hs := na) (hbase := hbase) (hline := hline)
/-- s.endswith(t) -/
def rEndsT : V → List V → Hp → VK → Prop := fun x xs H Q => ∃ a b : T, x = sv a ∧ xs = [sv b] ∧ Q (.bl (decide (b <:+ a))) H
theorem ends_sv (a b : T) : Txt.endswith (stT a) (stT b) = decide (b <:+ a) := by
  unfold Txt.endswith
  rw [Bool.eq_iff_iff, Bool.and_eq_true, decide_eq_true_eq, decide_eq_true_eq, sv_len, sv_len, suf_iff, Nat.zero_add]
  constructor
  · rintro ⟨h1, h2⟩
    refine ⟨h1, ?_⟩
    have h2 : ((a.toArray.extract (a.length - b.length) (a.length - b.length + b.toArray.size)) == b.toArray) = true := h2
    rw [beq_iff_eq] at h2
    have h3 := congrArg Array.toList h2
    rw [Array.toList_extract] at h3
    have h3 : (a.drop (a.length - b.length)).take b.length = b := by simpa [List.extract_eq_take_drop] using h3
    rw [List.take_of_length_le (by rw [List.length_drop]; omega)] at h3
    exact h3
  · rintro ⟨h1, h2⟩
    refine ⟨h1, ?_⟩
    show ((a.toArray.extract (a.length - b.length) (a.length - b.length + b.toArray.size)) == b.toArray) = true
    rw [beq_iff_eq]
    apply Array.toList_inj.mp
    rw [Array.toList_extract]
    have : (a.drop (a.length - b.length)).take b.length = b := by rw [List.take_of_length_le (by rw [List.length_drop]; omega)]; exact h2
    simpa [List.extract_eq_take_drop] using this
theorem ends_txt : MtR X "str.endswith" rEndsT := MtR.imp mt_endswith fun x xs H Q ⟨a, b, e1, e2, q⟩ => ⟨stT a, stT b, e1, e2, by rw [ends_sv]; exact q⟩
/-- xs.count(s) -/
def rCntT (K : PySem.W.Frag) : V → List V → Hp → VK → Prop := fun x xs H Q => ∃ (p : Addr) (ts : List T) (t : T), x = .ref p ∧ xs = [sv t] ∧ SqL K H p (ts.map sv) ∧ Q (.int (ts.count t : Nat)) H
theorem count_stT (t : T) : ∀ ts : List T, (ts.map stT).count (stT t) = ts.count t
  | [] => rfl
  | a :: ts => by
    rw [List.map_cons, List.count_cons, List.count_cons, count_stT t ts]
    congr 1
    by_cases h : a = t
    · subst h; simp
    · have : ¬ stT a = stT t := fun e => h (sv_inj (congrArg V.str e))
      simp [h]
theorem cnt_txt {K : PySem.W.Frag} (h : X.K = K) : MtR X "list.count" (rCntT K) := by
  subst h
  exact MtR.imp mt_countS fun x xs H Q ⟨p, ts, t, e1, e2, hs, q⟩ => ⟨p, ts.map stT, stT t, e1, e2, by rw [← map_sv]; exact hs, by rw [count_stT]; exact q⟩
end
/-! W6: steps through a reading. -/
section
/-! ### heaps -/
theorem sm_new {H : Hp} {p : Addr} {o : HO} (h : H p = none) : Same H (upd H p o) := fun b u e => by
  rw [upd_ne (ne_of_none e h)]
  exact e
theorem sm_mut {H H' : Hp} {p : Addr} {o : HO} (e : Same H H') (h : H p = none) : Same H (upd H' p o) := fun a u ha => by
  rw [upd_ne (ne_of_none ha h)]
  exact e a u ha
/-- all tuples are kept -/
def Kp (H H' : Hp) : Prop := ∀ b xs, H b = some (.tup xs) → H' b = some (.tup xs)
theorem Kp.refl (H : Hp) : Kp H H := fun _ _ h => h
theorem Kp.trans {H H1 H2 : Hp} (a : Kp H H1) (b : Kp H1 H2) : Kp H H2 := fun c o h => b c o (a c o h)
theorem sm_kp {H H' : Hp} (a : Same H H') : Kp H H' := fun b xs h => a b _ h
theorem Kp.new {H : Hp} {p : Addr} {o : HO} (h : H p = none) : Kp H (upd H p o) := sm_kp (sm_new h)
theorem Kp.put {H : Hp} {p : Addr} {o u : HO} (h : H p = some u) (hu : ∀ xs, u ≠ .tup xs) : Kp H (upd H p o) := fun b xs e => by
  rw [upd_ne (ne_of e h (fun z => hu xs z.symm))]
  exact e
theorem Kp.lst {H : Hp} {p : Addr} {o : HO} {ys : List V} (h : H p = some (.lst ys)) : Kp H (upd H p o) := Kp.put h fun _ z => nomatch z
theorem Kp.dT {H : Hp} {p : Addr} {o : HO} {ys : List (List Key × V)} (h : H p = some (.dT ys)) : Kp H (upd H p o) := Kp.put h fun _ z => nomatch z
end
section
variable {K : PySem.W.Frag} {σ : L2.St} {H : Hp} {Q : VK} {D : Ends} {ta tb tc te : TE} {t u : TT} {a b c : V} {i j : Nat}
theorem pe_txt {X : Cx} {x : Str} {k : Nat} {pos : Pos} {t : T} (h : x = stT t) : PE X (.Constant (.str x) k pos) (tC (sv t)) := by
  subst h
  exact pe_str
theorem w_seq {s1 s2 : TS} (h : s1 { D with nx := s2 D } σ H) : tSeq s1 s2 D σ H := h
theorem w_asg {g : TG} (h : te σ H fun x H1 => g x σ H1 D.nx) : tAsg te g D σ H := h
theorem w_name {P : L2.St → Hp → Prop} (h : P (σ.set i (some a)) H) : gName i a σ H P := h
theorem w_ret (h : te σ H D.rt) : tRet te D σ H := h
theorem w_drop (h : te σ H fun _ H1 => D.nx σ H1) : tDrop te D σ H := h
theorem w_if {s1 s2 : TS} (h : t σ H fun b H1 => if b = true then s1 D σ H1 else s2 D σ H1) : tIfS t s1 s2 D σ H := h
theorem w_next (h : D.nx σ H) : tNext D σ H := h
theorem w_brk (h : D.bk σ H) : tBreak D σ H := h
theorem w_test {P : Bool → Hp → Prop} (h : te σ H fun x H1 => ∃ k, x = .bl k ∧ P k H1) : tTest te σ H P := h
theorem w_B {P : Bool → Hp → Prop} (h : te σ H fun x H1 => ∃ k, x = .bl k ∧ P k H1) : tB te σ H P := h
theorem w_and {P : Bool → Hp → Prop} (h : t σ H fun c H1 => if c = true then u σ H1 P else P false H1) : tAnd t u σ H P := h
theorem w_or {P : Bool → Hp → Prop} (h : t σ H fun c H1 => if c = true then P true H1 else u σ H1 P) : tOr t u σ H P := h
theorem w_not {P : Bool → Hp → Prop} (h : t σ H fun c H1 => P (!c) H1) : tNot t σ H P := h
theorem w_yes {P : Bool → Hp → Prop} (h : P true H) : tYes σ H P := h
theorem w_var {v : V} (h : σ[i]? = some (some v)) (q : Q v H) : tVar i σ H Q := ⟨v, h, q⟩
theorem w_c (h : Q a H) : tC a σ H Q := h
theorem w_op {r : R2} (h : ta σ H fun x H1 => tb σ H1 fun y H2 => r x y H2 Q) : tOp r ta tb σ H Q := h
theorem w_un {r : V → Hp → VK → Prop} (h : ta σ H fun x H1 => r x H1 Q) : tUn r ta σ H Q := h
theorem w_tup {ts : TA} (h : ts σ H fun xs H1 => xs.length ≤ sizeLine ∧ ∀ p, H1 p = none → Q (.ref p) (upd H1 p (.tup xs))) : tTup ts σ H Q := h
theorem w_lst {ts : TA} (h : ts σ H fun xs H1 => xs.length ≤ sizeLine ∧ ∀ p, H1 p = none → Q (.ref p) (upd H1 p (.lst xs))) : tLst ts σ H Q := h
theorem w_sl {r : V → Option Int → Option Int → Hp → VK → Prop} {tl th : TO} (h : te σ H fun x H1 => tl σ H1 fun l H2 => th σ H2 fun u H3 => r x l u H3 Q) : tSl r te tl th σ H Q := h
theorem w_part {P : Option Int → Hp → Prop} (h : te σ H fun x H1 => ∃ i, x = .int i ∧ P (some i) H1) : tPart te σ H P := h
theorem w_nopart {P : Option Int → Hp → Prop} (h : P none H) : tNoPart σ H P := h
theorem w_cb {r : List V → Hp → VK → Prop} {ts : TA} (h : ts σ H fun vs H1 => r vs H1 Q) : tCB r ts σ H Q := h
theorem w_cons {ts : TA} {P : List V → Hp → Prop} (h : te σ H fun x H1 => ts σ H1 fun xs H2 => P (x :: xs) H2) : tCons te ts σ H P := h
theorem w_nil {P : List V → Hp → Prop} (h : P [] H) : tNil σ H P := h
theorem w_call {sp : Sp} {dvs : List V} {E : XK} {ts : TA} (h : ts σ H fun vs H1 => sp (vs ++ dvs) H1 Q E) : tCall sp dvs E ts σ H Q := h
theorem w_bm {T1 : String} {r : V → List V → Hp → VK → Prop} {ts : TA} (h : te σ H fun x H1 => tyV K T1 x H1 ∧ ts σ H1 fun xs H2 => r x xs H2 Q) : tBM K T1 r te ts σ H Q := h
theorem w_bm0 {T1 : String} {r : V → List V → Hp → VK → Prop} (h : te σ H fun x H1 => tyV K T1 x H1 ∧ r x [] H1 Q) : tBM0 K T1 r te σ H Q := h
theorem w_m1 {r : V → List V → Hp → VK → Prop} (h : ta σ H fun x H1 => (∃ a, x = .str a) ∧ te σ H1 fun y H2 => r x [y] H2 Q) : tM1 r ta te σ H Q := h
theorem w_chain {r r' : R2} (h : ta σ H fun x H1 => tb σ H1 fun y H2 => r x y H2 fun z H3 => ∃ k, z = .bl k ∧ (if k = true then tc σ H3 fun w' H4 => r' y w' H4 Q else Q (.bl false) H3)) : tChain r r' ta tb tc σ H Q := h
theorem w_andV (h : ta σ H fun x H1 => ∃ c, x = .bl c ∧ if c = true then tb σ H1 Q else Q (.bl false) H1) : tAndV ta tb σ H Q := h
theorem w_orV (h : ta σ H fun x H1 => ∃ c, x = .bl c ∧ if c = true then Q (.bl true) H1 else tb σ H1 Q) : tOrV ta tb σ H Q := h
theorem w_notV (h : ta σ H fun x H1 => ∃ c, x = .bl c ∧ Q (.bl (!c)) H1) : tNotV ta σ H Q := h
theorem w_ifE (h : t σ H fun c H1 => if c = true then ta σ H1 Q else tb σ H1 Q) : tIf t ta tb σ H Q := h
theorem w_bl {k : Bool} {P : Bool → Prop} (h : P k) : ∃ k', V.bl k = .bl k' ∧ P k' := ⟨k, rfl, h⟩
theorem w_int {k : Int} {P : Int → Prop} (h : P k) : ∃ k', V.int k = .int k' ∧ P k' := ⟨k, rfl, h⟩
theorem w_isstr {t : T} {P : Prop} (h : P) : (∃ a, sv t = V.str a) ∧ P := ⟨⟨_, rfl⟩, h⟩
/-! ### new objects, told by an extension of the heap -/
abbrev NewA (H : Hp) (o : HO) (Q : VK) : Prop := ∀ p H1, H p = none → Same H H1 → H1 p = some o → Q (.ref p) H1
theorem newA {o : HO} (h : NewA H o Q) : ∀ p, H p = none → Q (.ref p) (upd H p o) := fun p hp => h p _ hp (fun b u e => by rw [upd_ne (ne_of_none e hp)]; exact e) upd_same
def AllT (H : Hp) (xs : List V) (Q : VK) : Prop := xs.length ≤ sizeLine ∧ ∀ p, H p = none → Q (.ref p) (upd H p (.tup xs))
def AllL (H : Hp) (xs : List V) (Q : VK) : Prop := xs.length ≤ sizeLine ∧ ∀ p, H p = none → Q (.ref p) (upd H p (.lst xs))
theorem w_allT {xs : List V} (hz : xs.length ≤ sizeLine) (h : NewA H (.tup xs) Q) : AllT H xs Q := ⟨hz, newA h⟩
theorem w_allL {xs : List V} (hz : xs.length ≤ sizeLine) (h : NewA H (.lst xs) Q) : AllL H xs Q := ⟨hz, newA h⟩
theorem w_tupN {ts : TA} (h : ts σ H fun xs H1 => AllT H1 xs Q) : tTup ts σ H Q := h
theorem w_lstN {ts : TA} (h : ts σ H fun xs H1 => AllL H1 xs Q) : tLst ts σ H Q := h
theorem w_dnewT (h : NewA H (.dT []) Q) : tDNewT σ H Q := newA h
theorem w_tupOf {p : Addr} {xs : List V} (hs : H p = some (.lst xs)) (h : NewA H (.tup xs) Q) : rTupOf K [.ref p] H Q := ⟨p, xs, rfl, SqL.of hs, newA h⟩
theorem w_lstOf {p : Addr} {xs : List V} (hs : H p = some (.lst xs)) (h : NewA H (.lst xs) Q) : rLstOf K [.ref p] H Q := ⟨p, xs, rfl, .inl (SqL.of hs), newA h⟩
theorem w_cat {p q : Addr} {xs ys : List V} (hs : H p = some (.lst xs)) (ht : H q = some (.lst ys)) (hz : xs.length + ys.length ≤ sizeLine) (h : NewA H (.lst (xs ++ ys)) Q) : rCat (.ref p) (.ref q) H Q := ⟨p, q, xs, ys, rfl, rfl, hs, ht, hz, newA h⟩
theorem w_sortT {p : Addr} {ts : List T} (hs : H p = some (.lst (ts.map sv))) (hz : ts.length < 64) (h : ∀ us : List T, us.Perm ts → Rising us → NewA H (.lst (us.map sv)) Q) : rSortT K [.ref p] H Q :=
  ⟨p, ts, rfl, SqL.of hs, hz, fun us q h1 h2 h3 => newA (h us h1 h2) q h3⟩
theorem w_slL {p : Addr} {xs : List V} {k : Int} (hk : 0 ≤ k) (hs : H p = some (.lst xs)) (h : NewA H (.lst (xs.drop k.toNat)) Q) : rSlL K (.ref p) (some k) none H Q := by
  refine ⟨p, xs, rfl, SqL.of hs, ?_⟩
  obtain ⟨n, rfl⟩ := Int.eq_ofNat_of_zero_le hk
  have e : cutV xs (some (n : Int)) none = xs.drop n := by
    unfold cutV
    rw [HT.sIx_none, HT.sIx_nat, List.take_of_length_le (by rw [List.length_drop]; exact Nat.le_refl _)]
    by_cases h : n ≤ xs.length
    · rw [Nat.min_eq_left h]
    · rw [Nat.min_eq_right (by omega), List.drop_length, List.drop_eq_nil_of_le (by omega)]
  rw [e]
  exact newA h
/-! ### loops and comprehensions -/
def ForR (J : It) (g : TG) (tb : TS) (D : Ends) (σ : L2.St) (H1 : Hp) : Prop := ∃ W : Nat → Nat → L2.St → Hp → Prop, (∃ m, W 0 m σ H1) ∧ ∀ i m σ H, W i m σ H →
  (J.stop i H ∧ D.nx σ H) ∨ (J.go i H ∧ ∃ N : L2.St → Hp → Prop, (∀ σ' H', N σ' H' → ∃ m', m' < m ∧ W (i + 1) m' σ' H') ∧ ∀ x H', J.yld i H x H' → g x σ H' fun σ2 H2 => tb { D with nx := N, ct := N, bk := D.nx } σ2 H2)
theorem w_for {wi : TI} {g : TG} {tb : TS} (h : wi σ H fun J H1 => ForR J g tb D σ H1) : tFor wi g tb D σ H := h
theorem w_iTup {R : It → Hp → Prop} (h : te σ H fun x H1 => ∃ a, x = .ref a ∧ (∃ xs, SqT K H1 a xs) ∧ R (Itt K a) H1) : iTup K te σ H R := h
theorem w_iLst {R : It → Hp → Prop} (h : te σ H fun x H1 => ∃ a, x = .ref a ∧ (∃ xs, SqL K H1 a xs) ∧ R (Itl K a) H1) : iList K te σ H R := h
theorem w_iStr {R : It → Hp → Prop} (h : te σ H fun v H1 => ∃ x, v = .str x ∧ R (Its x) H1) : iStr te σ H R := h
theorem w_ref {p : Addr} {P : Addr → Prop} (h : P p) : ∃ a, V.ref p = .ref a ∧ P a := ⟨p, rfl, h⟩
theorem w_strx {t : T} {P : Str → Prop} (h : P (stT t)) : ∃ a, sv t = .str a ∧ P a := ⟨_, rfl, h⟩
theorem w_sqU {p : Addr} {xs : List V} {P : Prop} (hs : H p = some (.tup xs)) (h : P) : (∃ xs, SqT K H p xs) ∧ P := ⟨⟨xs, SqT.of hs⟩, h⟩
theorem w_sqL {p : Addr} {xs : List V} {P : Prop} (hs : H p = some (.lst xs)) (h : P) : (∃ xs, SqL K H p xs) ∧ P := ⟨⟨xs, SqL.of hs⟩, h⟩
def R1R (vs : List V) (H1 : Hp) (R : It → Hp → Prop) : Prop := ∃ j : Int, vs = [.int j] ∧ -(2 ^ 62) ≤ j ∧ j < 2 ^ 62 ∧ R (Itr 0 j.toNat) H1
def R2R (vs : List V) (H1 : Hp) (R : It → Hp → Prop) : Prop := ∃ i j : Int, vs = [.int i, .int j] ∧ (-(2 ^ 62) ≤ i ∧ i < 2 ^ 62 ∧ -(2 ^ 62) ≤ j ∧ j < 2 ^ 62) ∧ R (Itr i (j - i).toNat) H1
def R3R (vs : List V) (H1 : Hp) (R : It → Hp → Prop) : Prop := ∃ (i j c : Int) (n : Nat), vs = [.int i, .int j, .int c] ∧ RgC i j c n ∧ R (Itc i c n) H1
theorem w_iR1 {ts : TA} {R : It → Hp → Prop} (h : ts σ H fun vs H1 => R1R vs H1 R) : iRng1 ts σ H R := h
theorem w_iR2 {ts : TA} {R : It → Hp → Prop} (h : ts σ H fun vs H1 => R2R vs H1 R) : iRng2 ts σ H R := h
theorem w_iR3 {ts : TA} {R : It → Hp → Prop} (h : ts σ H fun vs H1 => R3R vs H1 R) : iRng3 ts σ H R := h
theorem w_R1 {j : Int} {R : It → Hp → Prop} (h1 : -(2 ^ 62) ≤ j) (h2 : j < 2 ^ 62) (h : R (Itr 0 j.toNat) H) : R1R [.int j] H R := ⟨j, rfl, h1, h2, h⟩
theorem w_R2 {i j : Int} {R : It → Hp → Prop} (h1 : -(2 ^ 62) ≤ i ∧ i < 2 ^ 62 ∧ -(2 ^ 62) ≤ j ∧ j < 2 ^ 62) (h : R (Itr i (j - i).toNat) H) : R2R [.int i, .int j] H R := ⟨i, j, rfl, h1, h⟩
/-- downwards -/
theorem w_R3 {i : Int} {R : It → Hp → Prop} (h1 : -(2 ^ 62) ≤ i) (h2 : i < 2 ^ 62) (h : R (Itc i (-1) i.toNat) H) : R3R [.int i, .int 0, .int (-1)] H R := by
  refine ⟨i, 0, -1, i.toNat, rfl, ?_, h⟩
  have := RgC.neg h1 h2 (by decide : -(2 ^ 62) ≤ (0 : Int)) (by decide)
  rwa [Int.sub_zero] at this
def LcR (J : It) (g : TG) (tt : TT) (te : TE) (vs : List Nat) (σ : L2.St) (H1 : Hp) (Q : VK) : Prop := ∀ D, H1 D = none → ∃ W : Nat → Nat → Hp → Prop, (∃ m, W 0 m (upd H1 D (.lst []))) ∧ ∀ i m H, W i m H →
  (J.stop i H ∧ Q (.ref D) H) ∨ (J.go i H ∧ ∃ Nx : Hp → Prop, (∀ H', Nx H' → ∃ m', m' < m ∧ W (i + 1) m' H') ∧ ∀ x H', J.yld i H x H' → g x (wipe σ vs) H' fun σ2 H2 => wipe σ2 vs = wipe σ vs ∧ tt σ2 H2 fun b H3 =>
    if b = true then te σ2 H3 fun y H4 => ∃ acc, H4 D = some (.lst acc) ∧ acc.length < sizeLine ∧ Nx (upd H4 D (.lst (acc ++ [y]))) else Nx H3)
theorem w_lc {wi : TI} {g : TG} {vs : List Nat} (h : wi σ H fun J H1 => LcR J g t te vs σ H1 Q) : tLc wi g t te vs σ H Q := h
theorem w_forU {a : Addr} {xs : List V} {g : TG} {tb : TS} (Pv : Nat → L2.St → Hp → Prop) (h0 : Pv 0 σ H) (hl : ∀ i σ H, i ≤ xs.length → Pv i σ H → H a = some (.tup xs))
    (hs : ∀ i x σ H, xs[i]? = some x → Pv i σ H → g x σ H fun σ2 H2 => tb { D with nx := Pv (i + 1), ct := Pv (i + 1), bk := D.nx } σ2 H2) (hd : ∀ σ H, Pv xs.length σ H → D.nx σ H) : ForR (Itt K a) g tb D σ H :=
  for_tup Pv h0 (fun i σ H h1 h2 => SqT.of (hl i σ H h1 h2)) hs hd
theorem w_forL {a : Addr} {xs : List V} {g : TG} {tb : TS} (Pv : Nat → L2.St → Hp → Prop) (h0 : Pv 0 σ H) (hl : ∀ i σ H, i ≤ xs.length → Pv i σ H → H a = some (.lst xs))
    (hs : ∀ i x σ H, xs[i]? = some x → Pv i σ H → g x σ H fun σ2 H2 => tb { D with nx := Pv (i + 1), ct := Pv (i + 1), bk := D.nx } σ2 H2) (hd : ∀ σ H, Pv xs.length σ H → D.nx σ H) : ForR (Itl K a) g tb D σ H :=
  for_list Pv h0 (fun i σ H h1 h2 => SqL.of (hl i σ H h1 h2)) hs hd
theorem w_forR {lo : Int} {n : Nat} {g : TG} {tb : TS} (Pv : Nat → L2.St → Hp → Prop) (h0 : Pv 0 σ H)
    (hs : ∀ i σ H, i < n → Pv i σ H → g (.int (lo + i)) σ H fun σ2 H2 => tb { D with nx := Pv (i + 1), ct := Pv (i + 1), bk := D.nx } σ2 H2) (hd : ∀ σ H, Pv n σ H → D.nx σ H) : ForR (Itr lo n) g tb D σ H :=
  for_range Pv h0 hs hd
theorem w_forC {lo c : Int} {n : Nat} {g : TG} {tb : TS} (Pv : Nat → L2.St → Hp → Prop) (h0 : Pv 0 σ H)
    (hs : ∀ i σ H, i < n → Pv i σ H → g (.int (lo + (i : Nat) * c)) σ H fun σ2 H2 => tb { D with nx := Pv (i + 1), ct := Pv (i + 1), bk := D.nx } σ2 H2) (hd : ∀ σ H, Pv n σ H → D.nx σ H) : ForR (Itc lo c n) g tb D σ H :=
  for_rangeC Pv h0 hs hd
theorem w_forS {x : T} {g : TG} {tb : TS} (Pv : Nat → L2.St → Hp → Prop) (h0 : Pv 0 σ H)
    (hs : ∀ i c σ H, x[i]? = some c → Pv i σ H → g (sv [c]) σ H fun σ2 H2 => tb { D with nx := Pv (i + 1), ct := Pv (i + 1), bk := D.nx } σ2 H2) (hd : ∀ σ H, Pv x.length σ H → D.nx σ H) : ForR (Its (stT x)) g tb D σ H := by
  have hsz : (stT x).cps.size = x.length := by show x.toArray.size = x.length; simp
  refine ⟨fun i m σ H => m = x.length - i ∧ i ≤ x.length ∧ Pv i σ H, ⟨x.length, by simp, Nat.zero_le _, h0⟩, ?_⟩
  rintro i m σ H ⟨rfl, hi, p⟩
  by_cases hlt : i < x.length
  · refine .inr ⟨show i < (stT x).cps.size by omega, Pv (i + 1), fun σ' H' p' => ⟨x.length - (i + 1), by omega, rfl, hlt, p'⟩, fun v H' y => ?_⟩
    obtain ⟨e, c, hc, rfl⟩ := y
    subst e
    exact hs i c _ _ (by simpa using hc) p
  · have e : i = x.length := by omega
    subst e
    exact .inl ⟨show (stT x).cps.size ≤ x.length by omega, hd _ _ p⟩
/-- the keys of a locked dict -/
theorem w_forK {d : Addr} {od : Obj} {kvs : List (List Key × V)} {g : TG} {tb : TS} (Pv : Nat → L2.St → Hp → Prop) (h0 : Pv 0 σ H) (hl : ∀ i σ H, i ≤ kvs.length → Pv i σ H → H d = some (.frz od (.dT kvs)))
    (hs : ∀ i k v q σ H, kvs[i]? = some (k, v) → H q = some (.tup (k.map kV)) → Pv i σ H → g (.ref q) σ H fun σ2 H2 => tb { D with nx := Pv (i + 1), ct := Pv (i + 1), bk := D.nx } σ2 H2) (hd : ∀ σ H, Pv kvs.length σ H → D.nx σ H) : ForR (Itkt d od kvs) g tb D σ H := by
  refine ⟨fun i m σ H => m = kvs.length - i ∧ i ≤ kvs.length ∧ Pv i σ H, ⟨kvs.length, by simp, Nat.zero_le _, h0⟩, ?_⟩
  rintro i m σ H ⟨rfl, hi, p⟩
  have q := hl i σ H hi p
  by_cases hlt : i < kvs.length
  · refine .inr ⟨⟨q, hlt⟩, Pv (i + 1), fun σ' H' p' => ⟨kvs.length - (i + 1), by omega, rfl, hlt, p'⟩, fun v H' y => ?_⟩
    obtain ⟨e, k, u, c, hc, rfl, hq⟩ := y
    subst e
    exact hs i k u c _ _ hc hq p
  · have e : i = kvs.length := by omega
    subst e
    exact .inl ⟨⟨q, Nat.le_refl _⟩, hd _ _ p⟩
/-- a list from its end -/
theorem w_forV {a : Addr} {xs : List V} {g : TG} {tb : TS} (Pv : Nat → L2.St → Hp → Prop) (h0 : Pv 0 σ H) (hl : ∀ i σ H, i ≤ xs.length → Pv i σ H → H a = some (.lst xs))
    (hs : ∀ i x σ H, i < xs.length → xs[xs.length - 1 - i]? = some x → Pv i σ H → g x σ H fun σ2 H2 => tb { D with nx := Pv (i + 1), ct := Pv (i + 1), bk := D.nx } σ2 H2) (hd : ∀ σ H, Pv xs.length σ H → D.nx σ H) : ForR (Itv K a xs.length) g tb D σ H := by
  refine ⟨fun i m σ H => m = xs.length - i ∧ i ≤ xs.length ∧ Pv i σ H, ⟨xs.length, by simp, Nat.zero_le _, h0⟩, ?_⟩
  rintro i m σ H ⟨rfl, hi, p⟩
  have q := SqL.of (K := K) (hl i σ H hi p)
  by_cases hlt : i < xs.length
  · have hj : xs.length - 1 - i < xs.length := by omega
    refine .inr ⟨⟨hlt, xs, xs[xs.length - 1 - i], q, List.getElem?_eq_getElem hj⟩, Pv (i + 1), fun σ' H' p' => ⟨xs.length - (i + 1), by omega, rfl, hlt, p'⟩, fun v H' y => ?_⟩
    obtain ⟨e, y⟩ := y
    subst e
    exact hs i v _ _ hlt (y xs q) p
  · have e : i = xs.length := by omega
    subst e
    exact .inl ⟨Nat.le_refl _, hd _ _ p⟩
/-! comprehensions whose elements are known from the items -/
theorem flat_take {α β : Type} (F : α → List β) {xs : List α} {i : Nat} {x : α} (h : xs[i]? = some x) : (xs.take (i + 1)).flatMap F = (xs.take i).flatMap F ++ F x := by
  rw [List.take_add_one, h, List.flatMap_append]
  simp
abbrev Turn1 (g : TG) (tt : TT) (te : TE) (vs : List Nat) (σ : L2.St) (x : V) (H' : Hp) (ys : List V) : Prop :=
  ∀ R : List V → Hp → Prop, (∀ H'', Same H' H'' → R ys H'') → g x (wipe σ vs) H' fun σ2 H2 => wipe σ2 vs = wipe σ vs ∧ tt σ2 H2 fun b H3 => if b = true then te σ2 H3 fun y H4 => R [y] H4 else R [] H3
end
section
variable {K : PySem.W.Frag} {σ : L2.St} {H : Hp} {Q : VK} {te : TE} {tt : TT}
def lcK (D : Addr) (Nx : Hp → Prop) : List V → Hp → Prop
  | [], H4 => Nx H4
  | y :: _, H4 => ∃ acc, H4 D = some (.lst acc) ∧ acc.length < sizeLine ∧ Nx (upd H4 D (.lst (acc ++ [y])))
theorem lc_core1 {J : It} {n : Nat} {g : TG} {vs : List Nat} (val : Nat → V) (out : Nat → List V) (acc : Nat → List V) (ha0 : acc 0 = []) (ha : ∀ i, i < n → acc (i + 1) = acc i ++ out i) (hn : ∀ i, i < n → (out i).length ≤ 1) (hz : n ≤ sizeLine)
    (hgo : ∀ i H', i < n → Same H H' → J.go i H') (hyl : ∀ i H' x H'', i < n → Same H H' → J.yld i H' x H'' → H'' = H' ∧ x = val i) (hst : ∀ H', Same H H' → J.stop n H')
    (turn : ∀ i H', i < n → Same H H' → Turn1 g tt te vs σ (val i) H' (out i)) (h : NewA H (.lst (acc n)) Q) : LcR J g tt te vs σ H Q := by
  intro D hD
  have hlen : ∀ i, i ≤ n → (acc i).length ≤ i := by
    intro i
    induction i with
    | zero => intro _; rw [ha0]; exact Nat.le_refl _
    | succ i ih =>
      intro hi
      rw [ha i (by omega), List.length_append]
      have := ih (by omega)
      have := hn i (by omega)
      omega
  refine ⟨fun i m H' => m = n - i ∧ i ≤ n ∧ Same H H' ∧ H' D = some (.lst (acc i)), ⟨n, by simp, Nat.zero_le _, sm_new hD, by rw [ha0]; exact upd_same⟩, ?_⟩
  rintro i m H' ⟨rfl, hi, sm, hd⟩
  by_cases hlt : i < n
  · refine .inr ⟨hgo i H' hlt sm, fun H'' => Same H H'' ∧ H'' D = some (.lst (acc (i + 1))), fun H'' p' => ⟨n - (i + 1), by omega, rfl, hlt, p'.1, p'.2⟩, fun x H'' y => ?_⟩
    obtain ⟨e1, e2⟩ := hyl i H' x H'' hlt sm y
    subst e1 e2
    have t := turn i _ hlt sm
    refine t (lcK D fun H'' => Same H H'' ∧ H'' D = some (.lst (acc (i + 1)))) fun H4 s4 => ?_
    have hd4 := s4 _ _ hd
    have hl1 := hn i hlt
    have ha1 := ha i hlt
    generalize out i = ys at hl1 ha1
    match ys, hl1, ha1 with
    | [], _, ha1 => exact ⟨sm.trans s4, by rw [ha1, List.append_nil]; exact hd4⟩
    | [y], _, ha1 => exact ⟨acc i, hd4, by have := hlen i (by omega); omega, sm_mut (sm.trans s4) hD, by rw [upd_same, ha1]⟩
    | _ :: _ :: _, h2, _ => exact absurd h2 (by simp)
  · have e : i = n := by omega
    subst e
    exact .inl ⟨hst H' sm, h D H' hD sm hd⟩
theorem lc_U {ι : Type} {a : Addr} {g : TG} {vs : List Nat} (ts : List ι) (f : ι → V) (F : ι → List V) (hF : ∀ x ∈ ts, (F x).length ≤ 1) (hz : ts.length ≤ sizeLine) (hs : H a = some (.tup (ts.map f)))
    (turn : ∀ x H', x ∈ ts → Same H H' → Turn1 g tt te vs σ (f x) H' (F x)) (h : NewA H (.lst (ts.flatMap F)) Q) : LcR (Itt K a) g tt te vs σ H Q := by
  have at_ : ∀ i, i < ts.length → ∃ x, x ∈ ts ∧ ts[i]? = some x := fun i hi => ⟨ts[i], List.getElem_mem hi, List.getElem?_eq_getElem hi⟩
  refine lc_core1 (n := ts.length) (fun i => (ts[i]?).elim .non f) (fun i => (ts[i]?).elim [] F) (fun i => (ts.take i).flatMap F) (by simp) (fun i hi => ?_) (fun i hi => ?_) hz (fun i H' hi sm => ?_) (fun i H' x H'' hi sm y => ?_) (fun H' sm => ?_) (fun i H' hi sm => ?_) (by rw [List.take_length]; exact h)
  · obtain ⟨x, hx, e⟩ := at_ i hi
    rw [flat_take F e, e]; rfl
  · obtain ⟨x, hx, e⟩ := at_ i hi
    rw [e]; exact hF x hx
  · obtain ⟨x, hx, e⟩ := at_ i hi
    exact ⟨_, f x, SqT.of (sm _ _ hs), by rw [List.getElem?_map, e]; rfl⟩
  · obtain ⟨e, y⟩ := y
    obtain ⟨z, hz, e2⟩ := at_ i hi
    have h1 := y _ (SqT.of (sm _ _ hs))
    rw [List.getElem?_map, e2] at h1
    exact ⟨e, by rw [e2]; exact (Option.some.inj h1).symm⟩
  · exact ⟨_, SqT.of (sm _ _ hs), by rw [List.length_map]; exact Nat.le_refl _⟩
  · obtain ⟨x, hx, e⟩ := at_ i hi
    rw [e]; exact turn x H' hx sm
theorem lc_L {ι : Type} {a : Addr} {g : TG} {vs : List Nat} (ts : List ι) (f : ι → V) (F : ι → List V) (hF : ∀ x ∈ ts, (F x).length ≤ 1) (hz : ts.length ≤ sizeLine) (hs : H a = some (.lst (ts.map f)))
    (turn : ∀ x H', x ∈ ts → Same H H' → Turn1 g tt te vs σ (f x) H' (F x)) (h : NewA H (.lst (ts.flatMap F)) Q) : LcR (Itl K a) g tt te vs σ H Q := by
  have at_ : ∀ i, i < ts.length → ∃ x, x ∈ ts ∧ ts[i]? = some x := fun i hi => ⟨ts[i], List.getElem_mem hi, List.getElem?_eq_getElem hi⟩
  refine lc_core1 (n := ts.length) (fun i => (ts[i]?).elim .non f) (fun i => (ts[i]?).elim [] F) (fun i => (ts.take i).flatMap F) (by simp) (fun i hi => ?_) (fun i hi => ?_) hz (fun i H' hi sm => ?_) (fun i H' x H'' hi sm y => ?_) (fun H' sm => ?_) (fun i H' hi sm => ?_) (by rw [List.take_length]; exact h)
  · obtain ⟨x, hx, e⟩ := at_ i hi
    rw [flat_take F e, e]; rfl
  · obtain ⟨x, hx, e⟩ := at_ i hi
    rw [e]; exact hF x hx
  · obtain ⟨x, hx, e⟩ := at_ i hi
    exact ⟨_, f x, SqL.of (sm _ _ hs), by rw [List.getElem?_map, e]; rfl⟩
  · obtain ⟨e, y⟩ := y
    obtain ⟨z, hz, e2⟩ := at_ i hi
    have h1 := y _ (SqL.of (sm _ _ hs))
    rw [List.getElem?_map, e2] at h1
    exact ⟨e, by rw [e2]; exact (Option.some.inj h1).symm⟩
  · exact ⟨_, SqL.of (sm _ _ hs), by rw [List.length_map]; exact Nat.le_refl _⟩
  · obtain ⟨x, hx, e⟩ := at_ i hi
    rw [e]; exact turn x H' hx sm
/-- filtered and mapped -/
theorem flat_if {ι : Type} (p : ι → Bool) (f : ι → V) (l : List ι) : l.flatMap (fun x => if p x = true then [f x] else []) = (l.filter p).map f := by
  induction l with
  | nil => rfl
  | cons a l ih =>
    rw [List.flatMap_cons, ih]
    by_cases h : p a = true
    · rw [if_pos h, List.filter_cons_of_pos h]; rfl
    · rw [if_neg h, List.filter_cons_of_neg h]; rfl
theorem flat_one {ι : Type} (f : ι → V) (l : List ι) : l.flatMap (fun x => [f x]) = l.map f := by
  induction l with
  | nil => rfl
  | cons a l ih => rw [List.flatMap_cons, ih]; rfl
theorem if_len {p : Bool} {v : V} : (if p = true then [v] else []).length ≤ 1 := by cases p <;> simp
theorem lc_R {lo : Int} {n : Nat} {g : TG} {vs : List Nat} (F : Nat → List V) (hF : ∀ i, i < n → (F i).length ≤ 1) (hz : n ≤ sizeLine)
    (turn : ∀ i H', i < n → Same H H' → Turn1 g tt te vs σ (.int (lo + (i : Int))) H' (F i)) (h : NewA H (.lst ((List.range n).flatMap F)) Q) : LcR (Itr lo n) g tt te vs σ H Q := by
  refine lc_core1 (fun i => .int (lo + (i : Int))) F (fun i => (List.range i).flatMap F) (by simp) (fun i hi => ?_) hF hz (fun i H' hi sm => hi) (fun i H' x H'' hi sm y => y) (fun H' sm => Nat.le_refl _) turn h
  rw [List.range_succ, List.flatMap_append]
  simp
theorem lc_S {x : T} {g : TG} {vs : List Nat} (F : Nat → List V) (hF : ∀ c ∈ x, (F c).length ≤ 1) (hz : x.length ≤ sizeLine)
    (turn : ∀ c H', c ∈ x → Same H H' → Turn1 g tt te vs σ (sv [c]) H' (F c)) (h : NewA H (.lst (x.flatMap F)) Q) : LcR (Its (stT x)) g tt te vs σ H Q := by
  have hsz : (stT x).cps.size = x.length := by show x.toArray.size = x.length; simp
  refine lc_core1 (n := x.length) (fun i => sv [x.getD i 0]) (fun i => F (x.getD i 0)) (fun i => (x.take i).flatMap F) (by simp) (fun i hi => ?_) (fun i hi => ?_) hz (fun i H' hi sm => ?_) (fun i H' v H'' hi sm y => ?_) (fun H' sm => ?_) (fun i H' hi sm => ?_) (by rw [List.take_length]; exact h)
  · rw [flat_take F (List.getElem?_eq_getElem hi), List.getD_eq_getElem?_getD, List.getElem?_eq_getElem hi]; rfl
  · rw [List.getD_eq_getElem?_getD, List.getElem?_eq_getElem hi]; exact hF _ (List.getElem_mem hi)
  · show i < (stT x).cps.size; omega
  · obtain ⟨e, c, hc, rfl⟩ := y
    have hc : x[i]? = some c := by simpa using hc
    exact ⟨e, by rw [List.getD_eq_getElem?_getD, hc]; rfl⟩
  · show (stT x).cps.size ≤ x.length; omega
  · rw [List.getD_eq_getElem?_getD, List.getElem?_eq_getElem hi]; exact turn _ H' (List.getElem_mem hi) sm
theorem lc_K {d : Addr} {od : Obj} {kvs : List (List Key × V)} {g : TG} {vs : List Nat} (F : Nat → List V) (hF : ∀ i, i < kvs.length → (F i).length ≤ 1) (hz : kvs.length ≤ sizeLine) (hs : H d = some (.frz od (.dT kvs)))
    (turn : ∀ i k v q H', kvs[i]? = some (k, v) → H' q = some (.tup (k.map kV)) → Same H H' → ∀ R : List V → Hp → Prop, (∀ H'', Same H' H'' → R (F i) H'') → g (.ref q) (wipe σ vs) H' fun σ2 H2 => wipe σ2 vs = wipe σ vs ∧ tt σ2 H2 fun b H3 => if b = true then te σ2 H3 fun y H4 => R [y] H4 else R [] H3)
    (h : NewA H (.lst ((List.range kvs.length).flatMap F)) Q) : LcR (Itkt d od kvs) g tt te vs σ H Q := by
  intro D hD
  have hlen : ∀ i, i ≤ kvs.length → ((List.range i).flatMap F).length ≤ i := by
    intro i
    induction i with
    | zero => intro _; exact Nat.le_refl _
    | succ i ih =>
      intro hi
      rw [List.range_succ, List.flatMap_append, List.length_append]
      have := ih (by omega)
      have := hF i (by omega)
      simp only [List.flatMap_cons, List.flatMap_nil, List.append_nil]
      omega
  refine ⟨fun i m H' => m = kvs.length - i ∧ i ≤ kvs.length ∧ Same H H' ∧ H' D = some (.lst ((List.range i).flatMap F)), ⟨kvs.length, by simp, Nat.zero_le _, sm_new hD, upd_same⟩, ?_⟩
  rintro i m H' ⟨rfl, hi, sm, hd⟩
  by_cases hlt : i < kvs.length
  · refine .inr ⟨⟨sm _ _ hs, hlt⟩, fun H'' => Same H H'' ∧ H'' D = some (.lst ((List.range (i + 1)).flatMap F)), fun H'' p' => ⟨kvs.length - (i + 1), by omega, rfl, hlt, p'.1, p'.2⟩, fun x H'' y => ?_⟩
    obtain ⟨e, k, v, q, hk, rfl, hq⟩ := y
    subst e
    refine turn i k v q _ hk hq sm (lcK D fun H'' => Same H H'' ∧ H'' D = some (.lst ((List.range (i + 1)).flatMap F))) fun H4 s4 => ?_
    have hd4 := s4 _ _ hd
    have hl1 := hF i hlt
    have ha1 : (List.range (i + 1)).flatMap F = (List.range i).flatMap F ++ F i := by rw [List.range_succ, List.flatMap_append]; simp
    generalize F i = ys at hl1 ha1
    match ys, hl1, ha1 with
    | [], _, ha1 => exact ⟨sm.trans s4, by rw [ha1, List.append_nil]; exact hd4⟩
    | [y], _, ha1 => exact ⟨_, hd4, by have := hlen i (by omega); omega, sm_mut (sm.trans s4) hD, by rw [upd_same, ha1]⟩
    | _ :: _ :: _, h2, _ => exact absurd h2 (by simp)
  · have e : i = kvs.length := by omega
    subst e
    exact .inl ⟨⟨sm _ _ hs, Nat.le_refl _⟩, h D H' hD sm hd⟩
end
section
variable {K : PySem.W.Frag} {σ : L2.St} {H : Hp} {Q : VK} {D : Ends} {ta tb tc te : TE} {t u : TT} {a b c : V} {i j : Nat}
/-! ### the operators -/
theorem w_I0 {g : Int → Int → V} {m n : Int} (h : Q (g m n) H) : rI0 g (.int m) (.int n) H Q := ⟨m, n, rfl, rfl, h⟩
theorem w_I {C : Int → Int → Prop} {g : Int → Int → V} {m n : Int} (hc : C m n) (h : Q (g m n) H) : rI C g (.int m) (.int n) H Q := ⟨m, n, rfl, rfl, hc, h⟩
theorem w_U {g : Int → V} {m : Int} (h : Q (g m) H) : rU g (.int m) H Q := ⟨m, rfl, h⟩
theorem w_addT {x y : T} (hs : x.length + y.length ≤ sizeLine) (h : Q (sv (x ++ y)) H) : rAddT (sv x) (sv y) H Q := ⟨x, y, rfl, rfl, hs, h⟩
theorem w_slTo {x : T} {k : Int} (hk : 0 ≤ k) (hs : x.length ≤ sizeLine) (h : Q (sv (x.take k.toNat)) H) : rSlT (sv x) none (some k) H Q := by
  refine ⟨x, rfl, hs, ?_⟩
  obtain ⟨n, rfl⟩ := Int.eq_ofNat_of_zero_le hk
  rw [HT.sIx_none, HT.sIx_nat, List.drop_zero, Nat.sub_zero]
  have e : x.take (min n x.length) = x.take n := by
    by_cases h : n ≤ x.length
    · rw [Nat.min_eq_left h]
    · rw [Nat.min_eq_right (by omega), List.take_length, List.take_of_length_le (by omega)]
  rw [e]; exact h
theorem w_slFrom {x : T} {k : Int} (hk : 0 ≤ k) (hs : x.length ≤ sizeLine) (h : Q (sv (x.drop k.toNat)) H) : rSlT (sv x) (some k) none H Q := by
  refine ⟨x, rfl, hs, ?_⟩
  obtain ⟨n, rfl⟩ := Int.eq_ofNat_of_zero_le hk
  rw [HT.sIx_none, HT.sIx_nat]
  have e : (x.drop (min n x.length)).take (x.length - min n x.length) = x.drop n := by
    rw [List.take_of_length_le (by rw [List.length_drop]; exact Nat.le_refl _)]
    by_cases h : n ≤ x.length
    · rw [Nat.min_eq_left h]
    · rw [Nat.min_eq_right (by omega), List.drop_length, List.drop_eq_nil_of_le (by omega)]
  rw [e]; exact h
theorem w_slBoth {x : T} {k l : Int} (hk : 0 ≤ k) (hl : 0 ≤ l) (hs : x.length ≤ sizeLine) (h : Q (sv ((x.drop k.toNat).take (l.toNat - k.toNat))) H) : rSlT (sv x) (some k) (some l) H Q := by
  refine ⟨x, rfl, hs, ?_⟩
  obtain ⟨n, rfl⟩ := Int.eq_ofNat_of_zero_le hk
  obtain ⟨m, rfl⟩ := Int.eq_ofNat_of_zero_le hl
  rw [HT.sIx_nat, HT.sIx_nat]
  have e : (x.drop (min n x.length)).take (min m x.length - min n x.length) = (x.drop n).take (m - n) := by
    by_cases h : n ≤ x.length
    · rw [Nat.min_eq_left h]
      by_cases h2 : m ≤ x.length
      · rw [Nat.min_eq_left h2]
      · rw [Nat.min_eq_right (by omega), List.take_of_length_le (by rw [List.length_drop]; omega), List.take_of_length_le (by rw [List.length_drop]; omega)]
    · rw [Nat.min_eq_right (a := n) (by omega), List.drop_length, List.drop_eq_nil_of_le (as := x) (by omega)]
      simp
  rw [e]; exact h
theorem w_slInit {x : T} (hx : x ≠ []) (hs : x.length ≤ sizeLine) (h : Q (sv x.dropLast) H) : rSlT (sv x) none (some (-1)) H Q := by
  refine ⟨x, rfl, hs, ?_⟩
  have hl : 0 < x.length := List.length_pos_iff.mpr hx
  have e1 : HT.sIx x.length x.length (some (-1)) = x.length - 1 := by
    show (if (-1 : Int) < 0 then (-1 + (x.length : Int)).toNat else min (-1 : Int).toNat x.length) = x.length - 1
    rw [if_pos (by decide)]
    omega
  rw [e1, HT.sIx_none, List.drop_zero, Nat.sub_zero, ← List.dropLast_eq_take]
  exact h
theorem w_ixT {x : T} {k : Int} {n : Nat} (h0 : 0 ≤ k) (hn : x[k.toNat]? = some n) (hs : x.length ≤ sizeLine) (h : Q (sv [n]) H) : rIxT1 (sv x) (.int k) H Q := by
  refine ⟨x, k, n, rfl, rfl, hs, ?_, h⟩
  obtain ⟨m, rfl⟩ := Int.eq_ofNat_of_zero_le h0
  exact atI_nat hn
theorem w_ixLast {x : T} (hx : x ≠ []) (hs : x.length ≤ sizeLine) (h : Q (sv [x.getLastD 0]) H) : rIxT1 (sv x) (.int (-1)) H Q := by
  refine ⟨x, -1, x.getLastD 0, rfl, rfl, hs, ?_, h⟩
  have hl : 0 < x.length := List.length_pos_iff.mpr hx
  unfold atI ixN
  rw [if_neg (by decide), if_pos (by omega)]
  show x[((-1 : Int) + x.length).toNat]? = _
  rw [show ((-1 : Int) + x.length).toNat = x.length - 1 by omega, List.getLastD_eq_getLast?, ← List.getLast?_eq_getElem?, List.getLast?_eq_some_getLast hx]
  rfl
theorem w_lenT {x : T} (hs : x.length ≤ sizeLine) (h : Q (.int (x.length : Int)) H) : rLenT1 [sv x] H Q := ⟨x, rfl, hs, h⟩
theorem w_lenL {p : Addr} {xs : List V} (hs : H p = some (.lst xs)) (h : Q (.int (xs.length : Int)) H) : rLenSq K [.ref p] H Q := ⟨p, xs, rfl, .inl (SqL.of hs), h⟩
theorem w_lenU {p : Addr} {xs : List V} (hs : H p = some (.tup xs)) (h : Q (.int (xs.length : Int)) H) : rLenSq K [.ref p] H Q := ⟨p, xs, rfl, .inr (SqT.of hs), h⟩
theorem w_min2 {m n : Int} (h : Q (.int (if n < m then n else m)) H) : rMin2 [.int m, .int n] H Q := ⟨m, n, rfl, h⟩
theorem w_abs {m : Int} (h : Q (.int (if m < 0 then -m else m)) H) : rAbs1 [.int m] H Q := ⟨m, rfl, h⟩
theorem w_int1 {m : Int} (h : Q (.int m) H) : rInt1 [.int m] H Q := ⟨m, rfl, h⟩
theorem w_eqT {x y : T} (h : Q (.bl (decide (x = y))) H) : rEq (sv x) (sv y) H Q := ⟨rfl, by rw [sv_eq]; exact h⟩
theorem w_neT {x y : T} (h : Q (.bl (!decide (x = y))) H) : rNe (sv x) (sv y) H Q := ⟨rfl, by rw [sv_eq]; exact h⟩
theorem int_eq {m n : Int} : decide (V.int m = V.int n) = decide (m = n) := by
  by_cases h : m = n
  · subst h; simp
  · rw [decide_eq_false h, decide_eq_false fun e => h (by injection e)]
theorem w_eqI {m n : Int} (h : Q (.bl (decide (m = n))) H) : rEq (.int m) (.int n) H Q := ⟨rfl, by rw [int_eq]; exact h⟩
theorem w_neI {m n : Int} (h : Q (.bl (!decide (m = n))) H) : rNe (.int m) (.int n) H Q := ⟨rfl, by rw [int_eq]; exact h⟩
theorem w_isN (h : Q (.bl (decide (a = .non))) H) : rIsN a .non H Q := ⟨rfl, h⟩
theorem w_notN (h : Q (.bl (!decide (a = .non))) H) : rNotN a .non H Q := ⟨rfl, h⟩
theorem w_niC {n : Nat} {x : T} (h : Q (.bl (!decide (n ∈ x))) H) : rNiC (sv [n]) (sv x) H Q := ⟨n, x, rfl, rfl, h⟩
theorem w_inS {x y : T} (h : Q (.bl (decide (x <:+: y))) H) : rInS (sv x) (sv y) H Q := ⟨x, y, rfl, rfl, h⟩
theorem w_geC {x y : T} (h : Q (.bl (!decide (x < y))) H) : rGeC (sv x) (sv y) H Q := ⟨x, y, rfl, rfl, h⟩
theorem w_inL {x : T} {p : Addr} {ts : List T} (hs : H p = some (.lst (ts.map sv))) (h : Q (.bl (decide (x ∈ ts))) H) : rInT K false (sv x) (.ref p) H Q := ⟨x, p, ts, rfl, rfl, .inl (SqL.of hs), h⟩
theorem w_inU {x : T} {p : Addr} {ts : List T} (hs : H p = some (.tup (ts.map sv))) (h : Q (.bl (decide (x ∈ ts))) H) : rInT K false (sv x) (.ref p) H Q := ⟨x, p, ts, rfl, rfl, .inr (SqT.of hs), h⟩
theorem w_niL {x : T} {p : Addr} {ts : List T} (hs : H p = some (.lst (ts.map sv))) (h : Q (.bl (!decide (x ∈ ts))) H) : rInT K true (sv x) (.ref p) H Q := ⟨x, p, ts, rfl, rfl, .inl (SqL.of hs), h⟩
theorem w_niU {x : T} {p : Addr} {ts : List T} (hs : H p = some (.tup (ts.map sv))) (h : Q (.bl (!decide (x ∈ ts))) H) : rInT K true (sv x) (.ref p) H Q := ⟨x, p, ts, rfl, rfl, .inr (SqT.of hs), h⟩
theorem w_joinL {p : Addr} {ts : List T} (hs : H p = some (.lst (ts.map sv))) (hl : ts.flatten.length ≤ 16777216) (h : Q (sv ts.flatten) H) : rJoinT K (sv []) [.ref p] H Q := ⟨p, ts, rfl, rfl, .inl (SqL.of hs), hl, h⟩
theorem w_ends {x y : T} (h : Q (.bl (decide (y <:+ x))) H) : rEndsT (sv x) [sv y] H Q := ⟨x, y, rfl, rfl, h⟩
theorem w_ixL {p : Addr} {xs : List V} {k : Int} {v : V} (hs : H p = some (.lst xs)) (ha : atI xs k = some v) (h : Q v H) : rIxL K (.ref p) (.int k) H Q := ⟨p, xs, k, v, rfl, rfl, SqL.of hs, ha, h⟩
theorem w_ixU {p : Addr} {xs : List V} {k : Int} {v : V} (hs : H p = some (.tup xs)) (ha : atI xs k = some v) (h : Q v H) : rIxT K (.ref p) (.int k) H Q := ⟨p, xs, k, v, rfl, rfl, SqT.of hs, ha, h⟩
/-- l.append(v) -/
theorem w_append {l : Addr} {xs : List V} {v : V} (hs : H l = some (.lst xs)) (hz : xs.length < sizeLine) (h : Q .non (upd H l (.lst (xs ++ [v])))) : rAppend (.ref l) [v] H Q := ⟨l, xs, v, rfl, rfl, hs, hz, h⟩
theorem w_tyL {l : Addr} {xs : List V} {P : Prop} (hs : H l = some (.lst xs)) (h : P) : tyV K "list" (.ref l) H ∧ P := ⟨.inl ⟨rfl, xs, SqL.of hs⟩, h⟩
/-! ### tests -/
theorem iteD {p A B : Prop} [Decidable p] (h1 : p → A) (h2 : ¬ p → B) : if decide p = true then A else B := by
  by_cases h : p
  · rw [decide_eq_true h]; exact iteT (h1 h)
  · rw [decide_eq_false h]; exact iteF (h2 h)
theorem iteN {p A B : Prop} [Decidable p] (h1 : ¬ p → A) (h2 : p → B) : if (!decide p) = true then A else B := by
  by_cases h : p
  · rw [decide_eq_true h]; exact iteF (h2 h)
  · rw [decide_eq_false h]; exact iteT (h1 h)
theorem iteB {A B : Prop} {b : Bool} (h1 : b = true → A) (h2 : b = false → B) : if b = true then A else B := by
  cases b with
  | true => exact iteT (h1 rfl)
  | false => exact iteF (h2 rfl)
theorem iteDt {p A B : Prop} [Decidable p] (h : p) (k : A) : if decide p = true then A else B := iteD (fun _ => k) fun q => absurd h q
theorem iteDf {p A B : Prop} [Decidable p] (h : ¬ p) (k : B) : if decide p = true then A else B := iteD (fun q => absurd q h) fun _ => k
theorem iteNt {p A B : Prop} [Decidable p] (h : ¬ p) (k : A) : if (!decide p) = true then A else B := iteN (fun _ => k) fun q => absurd q h
theorem iteNf {p A B : Prop} [Decidable p] (h : p) (k : B) : if (!decide p) = true then A else B := iteN (fun q => absurd h q) fun _ => k
end
theorem hu9_of {A : Around} {k : Nat} (hr : Room k A) : A.units + 9 < cLine := Nat.lt_of_le_of_lt (by omega) hr.un
theorem hu64_of {A : Around} {k : Nat} (hr : Room k A) : A.units + 64 < cLine := Nat.lt_of_le_of_lt (by omega) hr.un
/-! W7: shards, windows, grams: what the promises say. -/
structure Sh (ps : List T) (g : Nat) : Prop where
  g1 : 1 ≤ g
  g12 : g ≤ 12
  ne : ps ≠ []
  len : ps.length ≤ 8
  pg : ∀ p ∈ ps, g ≤ p.length
  base : ∃ b : T, b.length ≤ 9 ∧ ∀ p ∈ ps, p <:+: b
theorem Sh.p9 {ps : List T} {g : Nat} (h : Sh ps g) : ∀ p ∈ ps, p.length ≤ 9 := fun p hp => by
  obtain ⟨b, hb, hi⟩ := h.base
  exact Nat.le_trans (hi p hp).length_le hb
theorem Sh.pne {ps : List T} {g : Nat} (h : Sh ps g) : ∀ p ∈ ps, p ≠ [] := fun p hp e => by
  have := h.pg p hp
  have := h.g1
  rw [e] at *
  simp only [List.length_nil] at *
  omega
/-- the windows of shards -/
structure Wn (ps : List T) (g : Nat) (ws : List T) : Prop where
  nd : ws.Nodup
  mem : ∀ x, x ∈ ws ↔ x.length = g ∧ ∃ p ∈ ps, x <:+: p
  len : ws.length ≤ 10
theorem Wn.lg {ps : List T} {g : Nat} {ws : List T} (h : Wn ps g ws) : ∀ x ∈ ws, x.length = g := fun x hx => ((h.mem x).mp hx).1
theorem infix_nth {x b : T} {g : Nat} (h : x <:+: b) (hl : x.length = g) : x ∈ (List.range (b.length + 1)).map fun i => (b.drop i).take g := by
  obtain ⟨a, c, e⟩ := h
  refine List.mem_map.mpr ⟨a.length, List.mem_range.mpr (by rw [← e]; simp only [List.length_append]; omega), ?_⟩
  rw [← e, List.append_assoc, List.drop_left, List.take_left' hl]
theorem win_len {ps : List T} {g : Nat} {l : List T} (h : Sh ps g) (hn : l.Nodup) (hl : ∀ x ∈ l, x.length = g ∧ ∃ p ∈ ps, x <:+: p) : l.length ≤ 10 := by
  obtain ⟨b, hb, hi⟩ := h.base
  have := nodup_le (m := (List.range (b.length + 1)).map fun i => (b.drop i).take g) hn fun x hx => by
    obtain ⟨h1, p, hp, h2⟩ := hl x hx
    exact infix_nth (h2.trans (hi p hp)) h1
  rw [List.length_map, List.length_range] at this
  omega
/-- windows, by themselves: not empty, of one length, few -/
structure Wd (ws : List T) (g : Nat) : Prop where
  g1 : 1 ≤ g
  g12 : g ≤ 12
  lg : ∀ x ∈ ws, x.length = g
  nd : ws.Nodup
  len : ws.length ≤ 10
theorem Wn.wd {ps : List T} {g : Nat} {ws : List T} (h : Wn ps g ws) (s : Sh ps g) : Wd ws g := ⟨s.g1, s.g12, h.lg, h.nd, h.len⟩
theorem Wd.ne {ws : List T} {g : Nat} (h : Wd ws g) : ∀ x ∈ ws, x ≠ [] := fun x hx e => by
  have := h.lg x hx
  have := h.g1
  rw [e] at *
  simp only [List.length_nil] at *
  omega
/-- the grams -/
structure Gr (ws gs : List T) : Prop where
  nd : gs.Nodup
  mem : ∀ x, x ∈ gs ↔ ∃ y ∈ ws, x = y.dropLast ∨ x = y.drop 1
  len : gs.length ≤ 20
theorem Gr.lg {ws gs : List T} {g : Nat} (h : Gr ws gs) (d : Wd ws g) : ∀ x ∈ gs, x.length = g - 1 := fun x hx => by
  obtain ⟨y, hy, e⟩ := (h.mem x).mp hx
  have := d.lg y hy
  rcases e with rfl | rfl
  · rw [List.length_dropLast]; omega
  · rw [List.length_drop]; omega
/-! W8: dicts of circles' states: the steps. -/
section
variable {K : PySem.W.Frag} {σ : L2.St} {H H' : Hp} {Q : VK} {D : Ends} {td ty tv : TE} {a b d : Addr} {s : S} {kvs : List (List Key × V)} {ss seen : List S}
def DInR (x y : V) (H : Hp) (f : Bool → V) (Q : VK) : Prop := ∃ a o, x = .ref a ∧ DGet H a y o ∧ Q (f o.isSome) H
theorem w_dIn (h : ty σ H fun y H1 => td σ H1 fun x H2 => DInR x y H2 (fun b => .bl b) Q) : tDIn ty td σ H Q := h
theorem w_dNi (h : ty σ H fun y H1 => td σ H1 fun x H2 => DInR x y H2 (fun b => .bl (!b)) Q) : tDNotIn ty td σ H Q := h
def DGetR (x y : V) (H : Hp) (Q : VK) : Prop := ∃ a v, x = .ref a ∧ DGet H a y (some v) ∧ Q v H
theorem w_dGet (h : td σ H fun x H1 => ty σ H1 fun y H2 => DGetR x y H2 Q) : tDGet td ty σ H Q := h
def DPutR (x y v : V) (H : Hp) (N : Hp → Prop) : Prop := ∃ a H4, x = .ref a ∧ DPut H a y v H4 ∧ N H4
theorem w_dPut (h : tv σ H fun v H1 => td σ H1 fun x H2 => ty σ H2 fun y H3 => DPutR x y v H3 (D.nx σ)) : sDPut td ty tv D σ H := h
theorem dget_rd (h : Rd H d (.dT kvs)) (hs : StA H b s) : DGet H d (.ref b) (valV kvs (sk s)) := .inr ⟨kvs, sk s, b, h, rfl, hs.key, rfl⟩
theorem val_in (hk : kvs.map (·.1) = seen.map sk) : (valV kvs (sk s)).isSome = decide (s ∈ seen) := by
  rw [← valV_any, Bool.eq_iff_iff, List.any_eq_true, decide_eq_true_eq]
  constructor
  · rintro ⟨p, hp, e⟩
    have e := of_decide_eq_true e
    have : p.1 ∈ seen.map sk := by rw [← hk]; exact List.mem_map.mpr ⟨p, hp, rfl⟩
    obtain ⟨t, ht, e2⟩ := List.mem_map.mp this
    rw [← sk_inj (e2.trans e)]
    exact ht
  · intro h
    have : sk s ∈ kvs.map (·.1) := by rw [hk]; exact List.mem_map.mpr ⟨s, h, rfl⟩
    obtain ⟨p, hp, e⟩ := List.mem_map.mp this
    exact ⟨p, hp, decide_eq_true e⟩
theorem w_inD {f : Bool → V} (h : Rd H d (.dT kvs)) (hs : StA H b s) (hk : kvs.map (·.1) = seen.map sk) (q : Q (f (decide (s ∈ seen))) H) : DInR (.ref d) (.ref b) H f Q := ⟨d, _, rfl, dget_rd h hs, by rw [val_in hk]; exact q⟩
theorem w_getD {v : V} (h : Rd H d (.dT kvs)) (hs : StA H b s) (hv : valV kvs (sk s) = some v) (q : Q v H) : DGetR (.ref d) (.ref b) H Q := ⟨d, v, rfl, by rw [← hv]; exact dget_rd h hs, q⟩
theorem putK_keys {v : V} (hk : kvs.map (·.1) = seen.map sk) (hn : s ∉ seen) : (putK kvs (sk s) v).map (·.1) = (seen ++ [s]).map sk := by
  have h := val_in (s := s) hk
  rw [decide_eq_false hn] at h
  rw [putK_new v (Option.isNone_iff_eq_none.mp (by cases e : valV kvs (sk s) with | none => rfl | some x => rw [e] at h; cases h)), List.map_append, hk, List.map_append]
  rfl
theorem putK_old {v : V} (hk : kvs.map (·.1) = seen.map sk) (hn : s ∈ seen) : (putK kvs (sk s) v).map (·.1) = seen.map sk := by
  have h : (kvs.any fun kv => decide (kv.1 = sk s)) = true := by rw [valV_any, val_in hk, decide_eq_true hn]
  unfold putK
  rw [if_pos h, List.map_map, ← hk]
  refine List.map_congr_left fun p _ => ?_
  show (if p.1 = sk s then (p.1, v) else p).1 = p.1
  split <;> rfl
theorem w_putD {v : V} {N : Hp → Prop} (h : H d = some (.dT kvs)) (hs : StA H b s) (hl : kvs.length < sizeLine) (q : N (upd H d (.dT (putK kvs (sk s) v)))) : DPutR (.ref d) (.ref b) v H N := ⟨d, _, rfl, DPut.t h hs.key hl, q⟩
theorem keys_len (hk : kvs.map (·.1) = seen.map sk) : kvs.length = seen.length := by
  have := congrArg List.length hk
  rwa [List.length_map, List.length_map] at this
theorem rd_keep (h : Rd H d (.dT kvs)) (k : ∀ o, H d = some o → H' d = some o) : Rd H' d (.dT kvs) := by
  rcases h with h | ⟨o, h⟩
  · exact .inl (k _ h)
  · exact .inr ⟨o, k _ h⟩
/-! ### dicts whose values are told by a function of the key -/
/-- the pairs stand for the keys ss, each value as R says -/
def DcR (R : S → V → Prop) (kvs : List (List Key × V)) (ss : List S) : Prop := Paired (fun kv s => kv.1 = sk s ∧ R s kv.2) kvs ss
theorem DcR.keys {R : S → V → Prop} (h : DcR R kvs ss) : kvs.map (·.1) = ss.map sk := by
  unfold DcR at h
  induction h with
  | nil => rfl
  | cons a _ ih => rw [List.map_cons, List.map_cons, ih, a.1]
theorem DcR.get {R : S → V → Prop} (h : DcR R kvs ss) (hs : s ∈ ss) : ∃ v, valV kvs (sk s) = some v ∧ R s v := by
  unfold DcR at h
  induction h with
  | nil => cases hs
  | @cons p t ps ts a _ ih =>
    by_cases e : t = s
    · subst e
      exact ⟨p.2, valV_pos a.1, a.2⟩
    · have e1 : ¬ p.1 = sk s := fun z => e (sk_inj (a.1.symm.trans z))
      rw [valV_neg e1]
      refine ih ?_
      rcases List.mem_cons.mp hs with rfl | h
      · exact absurd rfl e
      · exact h
theorem DcR.mono {R R' : S → V → Prop} (h : DcR R kvs ss) (k : ∀ s v, s ∈ ss → R s v → R' s v) : DcR R' kvs ss := by
  unfold DcR at h ⊢
  induction h with
  | nil => exact .nil
  | @cons p t ps ts a _ ih => exact .cons ⟨a.1, k _ _ List.mem_cons_self a.2⟩ (ih fun s v hs => k s v (List.mem_cons_of_mem _ hs))
theorem DcR.add {R : S → V → Prop} {v : V} (h : DcR R kvs ss) (hn : s ∉ ss) (hv : R s v) : DcR R (putK kvs (sk s) v) (ss ++ [s]) := by
  have h1 := val_in (s := s) h.keys
  rw [decide_eq_false hn] at h1
  rw [putK_new v (Option.isNone_iff_eq_none.mp (by cases e : valV kvs (sk s) with | none => rfl | some x => rw [e] at h1; cases h1))]
  exact Paired.snoc h ⟨rfl, hv⟩
theorem DcR.nth {R : S → V → Prop} (h : DcR R kvs ss) {i : Nat} {k : List Key} {v : V} (hi : kvs[i]? = some (k, v)) : ∃ s, ss[i]? = some s ∧ k = sk s ∧ R s v := by
  unfold DcR at h
  obtain ⟨s, h1, h2, h3⟩ := paired_get h hi
  exact ⟨s, h1, h2, h3⟩
end
/-! W9: more steps: pairs, locked dicts, dicts told by the key. -/
section
variable {K : PySem.W.Frag} {σ : L2.St} {H H' H1 : Hp} {Q : VK} {D : Ends} {td te : TE} {a b d p : Addr} {s : S} {i j : Nat} {x y : V} {kvs : List (List Key × V)} {ss seen : List S}
theorem w_g2 {P : L2.St → Hp → Prop} {n : Nat} (h : H p = some (.tup [x, y])) (hn : 2 = n) (q : P ((σ.set i (some x)).set j (some y)) H) : gTup K n (gCons (gName i) (gCons (gName j) gNil)) (.ref p) σ H P := by
  refine ⟨p, _, rfl, SqT.of h, hn, x, _, rfl, ?_⟩
  refine w_name ?_
  refine ⟨y, _, rfl, ?_⟩
  refine w_name ?_
  exact ⟨rfl, q⟩
theorem w_keysV {R : It → Hp → Prop} {od : Obj} (hv : σ[i]? = some (some (.ref d))) (h : H d = some (.frz od (.dT kvs))) (q : R (Itkt d od kvs) H) : iKeys (tVar i) σ H R := ⟨_, hv, d, od, rfl, .inr ⟨kvs, h, q⟩⟩
/-- all stands, but at d -/
def Sx (H H1 : Hp) (d : Addr) : Prop := ∀ b o, H b = some o → b ≠ d → H1 b = some o
theorem unlock {u : HO} (hd : H d = some u) (h : Sx H H1 d) : Same H (upd H1 d u) := fun b o hb => by
  by_cases e : b = d
  · subst e; rw [upd_same, ← hb, hd]
  · rw [upd_ne e]; exact h b o hb e
theorem Sx.of {o : HO} (h : Same (upd H d o) H1) : Sx H H1 d := fun b u hb e => h _ _ (by rw [upd_ne e]; exact hb)
theorem Sx.lock {o : HO} : Sx H (upd H d o) d := fun b u hb e => by rw [upd_ne e]; exact hb
theorem Sx.then {H2 : Hp} (h : Sx H H1 d) (k : Same H1 H2) : Sx H H2 d := fun b u hb e => k _ _ (h _ _ hb e)
theorem Sx.upd {o : HO} (h : Sx H H1 d) (k : H p = none) : Sx H (upd H1 p o) d := fun b u hb e => by
  rw [upd_ne (fun q => by subst q; rw [k] at hb; cases hb)]; exact h _ _ hb e
theorem Sx.kp {u : HO} (h : Sx H H1 d) (hd : H d = some u) (hu : ∀ xs, u ≠ .tup xs) : Kp H H1 := fun b xs hb => h _ _ hb (ne_of hb hd (fun e => hu xs e.symm))
theorem Sx.free {u : HO} (h : Sx H H1 d) (hd : H1 d = some u) (k : H1 p = none) : H p = none := by
  cases q : H p with
  | none => rfl
  | some o =>
    by_cases e : p = d
    · subst e; rw [hd] at k; cases k
    · rw [h _ _ q e] at k; cases k
theorem key_nth {k : List Key} {v : V} (hk : kvs.map (·.1) = ss.map sk) (hi : kvs[i]? = some (k, v)) : ∃ s, ss[i]? = some s ∧ k = sk s := by
  have : (kvs.map (·.1))[i]? = some k := by rw [List.getElem?_map, hi]; rfl
  rw [hk, List.getElem?_map] at this
  obtain ⟨s1, h1, h2⟩ := Option.map_eq_some_iff.mp this
  exact ⟨s1, h1, h2.symm⟩
theorem val_none (hk : kvs.map (·.1) = ss.map sk) (hn : s ∉ ss) : valV kvs (sk s) = none := by
  have h1 := val_in (s := s) hk
  rw [decide_eq_false hn] at h1
  cases e : valV kvs (sk s) with
  | none => rfl
  | some x => rw [e] at h1; cases h1
theorem val_sk_put {v : V} {t : S} : valV (putK kvs (sk s) v) (sk t) = if t = s then some v else valV kvs (sk t) := by
  rw [valV_put]
  by_cases e : t = s
  · rw [if_pos e, if_pos (by rw [e])]
  · rw [if_neg e, if_neg (fun z => e (sk_inj z))]
/-- the dict's keys are the states ss, in their order; each value as R says -/
structure DcV (R : S → V → Prop) (kvs : List (List Key × V)) (ss : List S) : Prop where
  keys : kvs.map (·.1) = ss.map sk
  vals : ∀ s ∈ ss, ∃ v, valV kvs (sk s) = some v ∧ R s v
variable {R R' : S → V → Prop} {v : V}
theorem DcV.nil : DcV R [] [] := ⟨rfl, fun _ h => by cases h⟩
theorem DcV.get (h : DcV R kvs ss) (hs : s ∈ ss) : ∃ v, valV kvs (sk s) = some v ∧ R s v := h.vals s hs
theorem DcV.mono (h : DcV R kvs ss) (k : ∀ s v, s ∈ ss → valV kvs (sk s) = some v → R s v → R' s v) : DcV R' kvs ss := ⟨h.keys, fun s hs => by
  obtain ⟨v, h1, h2⟩ := h.vals s hs
  exact ⟨v, h1, k s v hs h1 h2⟩⟩
theorem DcV.add (h : DcV R kvs ss) (hn : s ∉ ss) (hv : R s v) : DcV R (putK kvs (sk s) v) (ss ++ [s]) := by
  refine ⟨putK_keys h.keys hn, fun t ht => ?_⟩
  rw [val_sk_put]
  by_cases e : t = s
  · subst e; exact ⟨v, if_pos rfl, hv⟩
  · rw [if_neg e]
    rcases List.mem_append.mp ht with q | q
    · exact h.vals t q
    · simp only [List.mem_singleton] at q; exact absurd q e
theorem DcV.put (h : DcV R kvs ss) (hn : s ∈ ss) (hv : R s v) : DcV R (putK kvs (sk s) v) ss := by
  refine ⟨putK_old h.keys hn, fun t ht => ?_⟩
  rw [val_sk_put]
  by_cases e : t = s
  · subst e; exact ⟨v, if_pos rfl, hv⟩
  · rw [if_neg e]; exact h.vals t ht
theorem DcV.len (h : DcV R kvs ss) : kvs.length = ss.length := keys_len h.keys
end
/-! comprehensions whose elements change the heap -/
abbrev TurnI (g : TG) (tt : TT) (te : TE) (vs : List Nat) (σ : L2.St) (x : V) (H' : Hp) (D : Addr) (acc : List V) (P : Hp → List V → Prop) : Prop :=
  ∀ R : Option V → Hp → Prop, (∀ y H4, H4 D = some (.lst acc) → P (upd H4 D (.lst (acc ++ [y]))) (acc ++ [y]) → R (some y) H4) → (∀ H4, H4 D = some (.lst acc) → P H4 acc → R none H4) →
    g x (wipe σ vs) H' fun σ2 H2 => wipe σ2 vs = wipe σ vs ∧ tt σ2 H2 fun b H3 => if b = true then te σ2 H3 fun y H4 => R (some y) H4 else R none H3
section
variable {K : PySem.W.Frag} {σ : L2.St} {H : Hp} {Q : VK} {te : TE} {tt : TT} {g : TG} {vs : List Nat}
def lcO (D : Addr) (Nx : Hp → Prop) : Option V → Hp → Prop
  | none, H4 => Nx H4
  | some y, H4 => ∃ acc, H4 D = some (.lst acc) ∧ acc.length < sizeLine ∧ Nx (upd H4 D (.lst (acc ++ [y])))
theorem lc_coreI {J : It} {n : Nat} (val : Nat → V) (hz : n ≤ sizeLine) (h : ∀ D, H D = none → ∃ P : Nat → Hp → List V → Prop, P 0 (upd H D (.lst [])) [] ∧
    (∀ i H' acc, i ≤ n → P i H' acc → H' D = some (.lst acc) → (i < n → J.go i H' ∧ ∀ x H'', J.yld i H' x H'' → H'' = H' ∧ x = val i) ∧ (i = n → J.stop n H')) ∧
    (∀ i H' acc, i < n → acc.length ≤ i → P i H' acc → H' D = some (.lst acc) → TurnI g tt te vs σ (val i) H' D acc (P (i + 1))) ∧ ∀ H' acc, P n H' acc → acc.length ≤ n → H' D = some (.lst acc) → Q (.ref D) H') : LcR J g tt te vs σ H Q := by
  intro D hD
  obtain ⟨P, p0, hJ, turn, fin⟩ := h D hD
  refine ⟨fun i m H' => m = n - i ∧ i ≤ n ∧ ∃ acc, acc.length ≤ i ∧ H' D = some (.lst acc) ∧ P i H' acc, ⟨n, by simp, Nat.zero_le _, [], Nat.le_refl _, upd_same, p0⟩, ?_⟩
  rintro i m H' ⟨rfl, hi, acc, hl, hd, p⟩
  obtain ⟨j1, j2⟩ := hJ i H' acc hi p hd
  by_cases hlt : i < n
  · obtain ⟨hgo, hy⟩ := j1 hlt
    refine .inr ⟨hgo, fun H'' => ∃ acc, acc.length ≤ i + 1 ∧ H'' D = some (.lst acc) ∧ P (i + 1) H'' acc, fun H'' p' => ⟨n - (i + 1), by omega, rfl, hlt, p'⟩, fun x H'' y => ?_⟩
    obtain ⟨e1, e2⟩ := hy x H'' y
    subst e1 e2
    exact turn i _ acc hlt hl p hd (lcO D fun H'' => ∃ acc, acc.length ≤ i + 1 ∧ H'' D = some (.lst acc) ∧ P (i + 1) H'' acc) (fun y H4 h1 h2 => ⟨acc, h1, by omega, acc ++ [y], by simp; omega, upd_same, h2⟩) fun H4 h1 h2 => ⟨acc, by omega, h1, h2⟩
  · have e : i = n := by omega
    subst e
    exact .inl ⟨j2 rfl, fin H' acc p hl hd⟩
theorem lc_gR {lo : Int} {n : Nat} (hz : n ≤ sizeLine) (h : ∀ D, H D = none → ∃ P : Nat → Hp → List V → Prop, P 0 (upd H D (.lst [])) [] ∧
    (∀ i H' acc, i < n → acc.length ≤ i → P i H' acc → H' D = some (.lst acc) → TurnI g tt te vs σ (.int (lo + (i : Int))) H' D acc (P (i + 1))) ∧ ∀ H' acc, P n H' acc → acc.length ≤ n → H' D = some (.lst acc) → Q (.ref D) H') : LcR (Itr lo n) g tt te vs σ H Q := by
  refine lc_coreI (fun i => .int (lo + (i : Int))) hz fun D hD => ?_
  obtain ⟨P, h1, h2, h3⟩ := h D hD
  exact ⟨P, h1, fun i H' acc hi p hd => ⟨fun hlt => ⟨hlt, fun x H'' y => y⟩, fun e => Nat.le_refl _⟩, h2, h3⟩
theorem lc_gU {a : Addr} {xs : List V} (hz : xs.length ≤ sizeLine) (h : ∀ D, H D = none → ∃ P : Nat → Hp → List V → Prop, P 0 (upd H D (.lst [])) [] ∧ (∀ i H' acc, i ≤ xs.length → P i H' acc → H' a = some (.tup xs)) ∧
    (∀ i x H' acc, xs[i]? = some x → acc.length ≤ i → P i H' acc → H' D = some (.lst acc) → TurnI g tt te vs σ x H' D acc (P (i + 1))) ∧ ∀ H' acc, P xs.length H' acc → acc.length ≤ xs.length → H' D = some (.lst acc) → Q (.ref D) H') : LcR (Itt K a) g tt te vs σ H Q := by
  refine lc_coreI (fun i => (xs[i]?).getD .non) hz fun D hD => ?_
  obtain ⟨P, h1, hk, h2, h3⟩ := h D hD
  refine ⟨P, h1, fun i H' acc hi p hd => ⟨fun hlt => ?_, fun e => ⟨xs, SqT.of (hk i H' acc hi p), Nat.le_refl _⟩⟩, fun i H' acc hi hl p hd => ?_, h3⟩
  · have hh := SqT.of (K := K) (hk i H' acc hi p)
    refine ⟨⟨xs, xs[i], hh, List.getElem?_eq_getElem hlt⟩, fun x H'' y => ?_⟩
    obtain ⟨e, y⟩ := y
    have := y _ hh
    rw [this]
    exact ⟨e, rfl⟩
  · rw [List.getElem?_eq_getElem hi]
    exact h2 i _ H' acc (List.getElem?_eq_getElem hi) hl p hd
theorem lc_gL {a : Addr} {xs : List V} (hz : xs.length ≤ sizeLine) (h : ∀ D, H D = none → ∃ P : Nat → Hp → List V → Prop, P 0 (upd H D (.lst [])) [] ∧ (∀ i H' acc, i ≤ xs.length → P i H' acc → H' a = some (.lst xs)) ∧
    (∀ i x H' acc, xs[i]? = some x → acc.length ≤ i → P i H' acc → H' D = some (.lst acc) → TurnI g tt te vs σ x H' D acc (P (i + 1))) ∧ ∀ H' acc, P xs.length H' acc → acc.length ≤ xs.length → H' D = some (.lst acc) → Q (.ref D) H') : LcR (Itl K a) g tt te vs σ H Q := by
  refine lc_coreI (fun i => (xs[i]?).getD .non) hz fun D hD => ?_
  obtain ⟨P, h1, hk, h2, h3⟩ := h D hD
  refine ⟨P, h1, fun i H' acc hi p hd => ⟨fun hlt => ?_, fun e => ⟨xs, SqL.of (hk i H' acc hi p), Nat.le_refl _⟩⟩, fun i H' acc hi hl p hd => ?_, h3⟩
  · have hh := SqL.of (K := K) (hk i H' acc hi p)
    refine ⟨⟨xs, xs[i], hh, List.getElem?_eq_getElem hlt⟩, fun x H'' y => ?_⟩
    obtain ⟨e, y⟩ := y
    have := y _ hh
    rw [this]
    exact ⟨e, rfl⟩
  · rw [List.getElem?_eq_getElem hi]
    exact h2 i _ H' acc (List.getElem?_eq_getElem hi) hl p hd
end
section
variable {X : Cx} {K : PySem.W.Frag} {T1 id : String} {r : V → List V → Hp → VK → Prop} {o e : Expr} {es : List Expr} {name : Str} {apos cpos : Pos} {to : TE} {t : TA}
theorem pe_bmK (hK : X.K = K) (pa : PlainAttrs T1) (slot : Slot T1 name id) (hty : typeOf (.builtin id) = pure (.type "method_descriptor")) (hm : MtR X id r) (ho : PE X o to) (ha : PA X (e :: es) t)
    (hbase : attributeBase o name X.env (eval o X.env) = eval o X.env := by rfl)
    (hfew : ((backTo cpos (starEach (e :: es) X.env)).all (fun x => !x.1) && (backToKw cpos (keywordEach [] X.env)).all (fun x => x.1.isSome)
      && decide ((e :: es).length + ([] : List Keyword).length + (if ([] : List Keyword).isEmpty then 0 else 1) < 30)) = true := by rfl)
    (hline : (apos.endLine == cpos.line) = true := by rfl) (hs : starEach (e :: es) X.env = (false, eval e X.env) :: starEach es X.env := by rfl) (hplain : (backTo cpos (starEach es X.env)).any (·.1) = false := by rfl) :
    PE X (.Call (.Attribute o name apos) (e :: es) [] cpos) (tBM K T1 r to t) := by
  subst hK
  exact pe_bm pa slot hty hm ho ha hbase hfew hline hs hplain
end
/-! W10: the class Report. -/
def DfM (K : PySem.W.Frag) (x q : Str) (st : Stmt) (f : Addr) : Prop := ∃ fd, FunD K x q (defArgs st) (defBody st) (defScope st) [] [] f fd
def ClM (P : Program) (w : World) (K : PySem.W.Frag) (mg : Str → Option Value) (base : Heap) (k : Nat) (f : Addr) (ps : List Str) (sp : Sp) : Prop := ∃ fd, Binds K fd ps [] ∧ FnOk P w K mg base CX0 k f fd ps sp
section
variable {P : Program} {w : World} {K : PySem.W.Frag} {mg : Str → Option Value} {base : Heap}
theorem DfM.cl {x q : Str} {st : Stmt} {N ps : List Str} {k : Nat} {sp : Sp} {f : Addr} (D : DfM K x q st f) (S : FnScope N ps (defScope st))
    (hb : ∀ (kV doc pm : Value) (an : Option Addr) (cdv ct : Value) (us : List Value), us.length = ps.length → bindArgs (PySem.W.fnOf x q (defArgs st) (defBody st) (defScope st) .none kV doc pm an cdv ct) ⟨us, []⟩ = pure (ps.zip us))
    (len : ∀ vs H Q E, sp vs H Q E → vs.length = ps.length)
    (hbody : ∀ (cdv : Value) (A : Around) (outer : List Env) (s : Shared) (H : Hp) (vs : List V) (Q : VK) (E : XK), Room k (A.deeper (envOfC q (defScope st) s.heap.objs.size f cdv)) → sp vs H Q E →
      ∃ t, PSs (cxOf CX0 P w K mg base N q (defScope st) f cdv A outer s H E).nox (defBody st) t ∧ t { nx := fun _ H' => Q .non H', rt := Q } (start N vs) H) : ClM P w K mg base (k + 1) f ps sp := by
  obtain ⟨fd, F⟩ := D
  refine ⟨fd, F.bindsN hb, F.ok S len fun cdv A outer s H vs Q E hr h => ?_⟩
  obtain ⟨t, h1, h2⟩ := hbody cdv A outer s H vs Q E hr h
  exact ⟨t, h1.nox, h2⟩
theorem fnL {x : Str} {st : Stmt} {N ps : List Str} {k : Nat} {sp : Sp} {f : Addr} {fd : FuncData} (F : FunD K x x (defArgs st) (defBody st) (defScope st) [] [] f fd) (S : FnScope N ps (defScope st)) (len : ∀ vs H Q E, sp vs H Q E → vs.length = ps.length)
    (hbody : ∀ (cdv : Value) (A : Around) (outer : List Env) (s : Shared) (H : Hp) (vs : List V) (Q : VK) (E : XK), Room k (A.deeper (envOfC x (defScope st) s.heap.objs.size f cdv)) → sp vs H Q E →
      ∃ t, PSs (cxOf CX0 P w K mg base N x (defScope st) f cdv A outer s H E).nox (defBody st) t ∧ t { nx := fun _ H' => Q .non H', rt := Q } (start N vs) H) : FnOk P w K mg base CX0 (k + 1) f fd ps sp := by
  refine F.ok S len fun cdv A outer s H vs Q E hr h => ?_
  obtain ⟨t, h1, h2⟩ := hbody cdv A outer s H vs Q E hr h
  exact ⟨t, h1.nox, h2⟩
/-- what the top has left of Report -/
structure Rp (K : PySem.W.Frag) (mg : Str → Option Value) (C fI fP : Addr) : Prop where
  mg : mg "Report" = some (.ref C)
  cl : Cls K C
  mk_ : Mk K C fI
  mp : Meth K C "paper" fP
  na : NoAttr K C "consensus" ∧ NoAttr K C "sure" ∧ NoAttr K C "pieces" ∧ NoAttr K C "grain" ∧ NoAttr K C "shape" ∧ NoAttr K C "example" ∧ NoAttr K C "findings"
end
section
variable {X : Cx} {C fI fP : Addr} {k j : Nat} {ps : List Str} {sp : Sp} {e o : Expr} {es : List Expr} {t : TA} {ta : TE} {p pos apos : Pos}
theorem pmake (R : Rp X.K X.mg C fI fP) (G : ClM X.prog X.w X.K X.mg X.base k fI ps sp) (hr : Room j X.A) (ha : PA X (e :: es) t) (hk : k + 1 ≤ j := by decide) (hg : Gl X "Report" := by rfl)
    (he : starEach (e :: es) X.env = (false, eval e X.env) :: starEach es X.env := by rfl) (hpl : (backTo pos (starEach es X.env)).any (·.1) = false := by rfl) :
    PE X (.Call (.Name "Report" p) (e :: es) [] pos) (tMake C sp [] E0 t) := by
  obtain ⟨fd, b, F⟩ := G
  exact pe_make R.mk_ F (hr.mono hk) hg R.mg b .nil pass0 ha (by decide) he hpl
theorem pmeth {pl : Sem Bool} (R : Rp X.K X.mg C fI fP) (G : ClM X.prog X.w X.K X.mg X.base k fP ps sp) (hr : Room j X.A) (he : PE X o ta) (ha : PA X (e :: es) t) (hk : k ≤ j := by decide)
    (hst : starEach (e :: es) X.env = (false, eval e X.env) :: starEach es X.env := by rfl) (hpl : (backTo pos (starEach es X.env)).any (·.1) = false := by rfl)
    (ht : eval (.Call (.Attribute o "paper" apos) (e :: es) [] pos) X.env = (do
      let ov ← eval o X.env
      standAt apos.atName
      let (f, first) ← holding [ov] (getMethod ov "paper" pl)
      callWith pos f first (backTo pos (starEach (e :: es) X.env)) (backToKw pos (keywordEach [] X.env))) := by rfl) :
    PE X (.Call (.Attribute o "paper" apos) (e :: es) [] pos) (tMeth C "paper" sp [] E0 ta t) := by
  obtain ⟨fd, b, F⟩ := G
  exact pe_meth he R.cl R.mp F (hr.mono hk) b .nil pass0 ha hst hpl ht
end
section
variable {K : PySem.W.Frag} {σ : L2.St} {H : Hp} {Q : VK} {D : Ends} {ta tv : TE} {a C dx : Addr} {fs : List (Str × V)} {f : Str} {v : V}
def FldR (K : PySem.W.Frag) (f : Str) (x : V) (H : Hp) (Q : VK) : Prop := ∃ a C dx fs v, x = .ref a ∧ H a = some (.ins C dx fs) ∧ Cls K C ∧ NoAttr K C f ∧ fs.lookup f = some v ∧ Q v H
theorem w_fldE (h : ta σ H fun x H1 => FldR K f x H1 Q) : tFld K ta f σ H Q := h
theorem w_fldR (h : H a = some (.ins C dx fs)) (c : Cls K C) (n : NoAttr K C f) (l : fs.lookup f = some v) (q : Q v H) : FldR K f (.ref a) H Q := ⟨a, C, dx, fs, v, rfl, h, c, n, l, q⟩
def SetR (K : PySem.W.Frag) (f : Str) (x y : V) (H : Hp) (N : Hp → Prop) : Prop := ∃ a C dx fs, x = .ref a ∧ H a = some (.ins C dx fs) ∧ Cls K C ∧ NoAttr K C f ∧ fs.length < 1000 ∧ N (upd H a (.ins C dx (putF f y fs)))
theorem w_fldS (h : tv σ H fun y H1 => ta σ H1 fun x H2 => SetR K f x y H2 (D.nx σ)) : sFld K ta tv f D σ H := h
theorem w_setR {y : V} {N : Hp → Prop} (h : H a = some (.ins C dx fs)) (c : Cls K C) (n : NoAttr K C f) (hl : fs.length < 1000) (q : N (upd H a (.ins C dx (putF f y fs)))) : SetR K f (.ref a) y H N := ⟨a, C, dx, fs, rfl, h, c, n, hl, q⟩
end
local macro_rules | `(tactic| walk_at "sz") => `(tactic| first | assumption | omega | (rw [sizeLine_eq]; first | omega | (simp only [List.length_append, List.length_cons, List.length_nil, List.length_take, List.length_drop, List.length_map, List.length_dropLast]; omega)) | (simp only [List.length_append, List.length_cons, List.length_nil, List.length_take, List.length_drop, List.length_map, List.length_dropLast]; omega) | (show _ ≤ sizeLine; decide))
local macro_rules | `(tactic| walk_at "st") => `(tactic| first
  | (with_reducible refine w_seq ?_) | (with_reducible refine w_asg ?_) | (with_reducible refine w_name ?_) | (with_reducible refine w_ret ?_) | (with_reducible refine w_drop ?_) | (with_reducible refine w_if ?_)
  | (with_reducible refine w_next ?_) | (with_reducible refine w_brk ?_) | (with_reducible refine w_for ?_) | (with_reducible refine w_test ?_) | (with_reducible refine w_B ?_) | (with_reducible refine w_and ?_) | (with_reducible refine w_or ?_) | (with_reducible refine w_not ?_) | (with_reducible refine w_yes ?_)
  | ((with_reducible refine' w_var (h := ?h1) ?_); (case h1 => exact rfl)) | (with_reducible refine w_c ?_) | (with_reducible refine w_op ?_) | (with_reducible refine w_un ?_) | (with_reducible refine w_cb ?_) | (with_reducible refine w_cons ?_) | (with_reducible refine w_nil ?_) | (with_reducible refine w_call ?_))
local macro_rules | `(tactic| walk_at "ex") => `(tactic| first
  | (with_reducible refine w_tupN ?_) | (with_reducible refine w_lstN ?_) | (with_reducible refine w_sl ?_) | (with_reducible refine w_part ?_) | (with_reducible refine w_nopart ?_) | (with_reducible refine w_bm ?_) | (with_reducible refine w_bm0 ?_) | (with_reducible refine w_m1 ?_) | (with_reducible refine w_chain ?_)
  | (with_reducible refine w_andV ?_) | (with_reducible refine w_orV ?_) | (with_reducible refine w_notV ?_) | (with_reducible refine w_ifE ?_) | (with_reducible refine w_bl ?_) | (with_reducible refine w_int ?_) | (with_reducible refine w_isstr ?_) | (with_reducible refine w_ref ?_) | (with_reducible refine w_strx ?_)
  | (with_reducible refine w_iTup ?_) | (with_reducible refine w_iLst ?_) | (with_reducible refine w_iStr ?_) | (with_reducible refine w_iR1 ?_) | (with_reducible refine w_iR2 ?_) | (with_reducible refine w_iR3 ?_) | (with_reducible refine w_lc ?_) | (with_reducible refine w_dIn ?_) | (with_reducible refine w_dNi ?_) | (with_reducible refine w_dGet ?_) | (with_reducible refine w_dPut ?_) | (with_reducible refine w_dnewT ?_))
local macro_rules | `(tactic| walk_at "op") => `(tactic| first
  | (with_reducible refine w_I0 ?_) | (with_reducible refine w_U ?_) | (with_reducible refine w_addT (by walk_at "sz") ?_) | (with_reducible refine w_lenT (by walk_at "sz") ?_) | (with_reducible refine w_min2 ?_) | (with_reducible refine w_abs ?_) | (with_reducible refine w_int1 ?_)
  | (with_reducible refine w_eqT ?_) | (with_reducible refine w_neT ?_) | (with_reducible refine w_eqI ?_) | (with_reducible refine w_neI ?_) | (with_reducible refine w_isN ?_) | (with_reducible refine w_notN ?_) | (with_reducible refine w_niC ?_) | (with_reducible refine w_inS ?_) | (with_reducible refine w_geC ?_) | (with_reducible refine w_ends ?_)
  | (with_reducible refine w_slTo (by walk_at "sz") (by walk_at "sz") ?_) | (with_reducible refine w_slFrom (by walk_at "sz") (by walk_at "sz") ?_) | (with_reducible refine w_slBoth (by walk_at "sz") (by walk_at "sz") (by walk_at "sz") ?_) | (with_reducible refine w_slInit (by assumption) (by walk_at "sz") ?_) | (with_reducible refine w_ixLast (by assumption) (by walk_at "sz") ?_)
  | (with_reducible refine w_lenL (by assumption) ?_) | (with_reducible refine w_lenU (by assumption) ?_) | (with_reducible refine w_sqU (by assumption) ?_) | (with_reducible refine w_sqL (by assumption) ?_) | (with_reducible refine w_tyL (by assumption) ?_) | (with_reducible refine w_append (by assumption) (by walk_at "sz") ?_)
  | (with_reducible refine w_inL (by assumption) ?_) | (with_reducible refine w_inU (by assumption) ?_) | (with_reducible refine w_niL (by assumption) ?_) | (with_reducible refine w_niU (by assumption) ?_)
  | (with_reducible refine w_allT (by walk_at "sz") ?_) | (with_reducible refine w_allL (by walk_at "sz") ?_) | (with_reducible refine w_tupOf (by assumption) ?_) | (with_reducible refine w_lstOf (by assumption) ?_))
local macro_rules | `(tactic| walk_at "go") => `(tactic| repeat (first | walk_at "st" | walk_at "ex" | walk_at "op"))
local macro_rules | `(tactic| walk_at "rd") => `(tactic| first | assumption | exact Rd.of (by assumption))
local macro_rules | `(tactic| walk_at "k2") => `(tactic| first
  | ((with_reducible refine' w_g2 (by assumption) ?hn ?_); (case hn => exact rfl)) | ((with_reducible refine' w_keysV ?hv (by assumption) ?_); (case hv => exact rfl)) | (with_reducible refine w_inD (by walk_at "rd") (by assumption) (by assumption) ?_) | (with_reducible refine w_getD (by walk_at "rd") (by assumption) (by assumption) ?_) | (with_reducible refine w_putD (by assumption) (by assumption) (by walk_at "sz") ?_))
local macro_rules | `(tactic| walk_at "gx") => `(tactic| repeat (first | walk_at "st" | walk_at "ex" | walk_at "op" | walk_at "k2"))
theorem sc_following : FnScope ["windows", "gram", "window"] ["windows", "gram"] (defScope s_following) := ⟨rfl, rfl, rfl, by decide +kernel, rfl, by decide +kernel, by decide +kernel⟩
def sp_following : Sp := fun vs H Q _ => ∃ (wa : Addr) (ws : List T) (g : T), vs = [.ref wa, sv g] ∧ H wa = some (.tup (ws.map sv)) ∧ (∀ x ∈ ws, x ≠ []) ∧ (∀ x ∈ ws, x.length ≤ 100) ∧ ws.length ≤ 1000 ∧ ∀ H', Same H H' → Q (sv (fol ws g)) H'
theorem flat_fol (ws : List T) (g : T) : ((ws.filter fun x => decide (x.dropLast = g)).map fun x => [x.getLastD 0]).flatten = fol ws g := by
  unfold fol
  induction ws with
  | nil => rfl
  | cons a l ih =>
    by_cases h : a.dropLast = g
    · rw [List.filter_cons_of_pos (by simpa using h), List.map_cons, List.map_cons, List.flatten_cons, ih]; rfl
    · rw [List.filter_cons_of_neg (by simpa using h)]; exact ih
theorem fol_len (ws : List T) (g : T) : (fol ws g).length ≤ ws.length := by
  unfold fol
  rw [List.length_map]
  exact List.length_filter_le _ _
theorem ok_following {P : Program} {w : World} {K : PySem.W.Frag} {mg : Str → Option Value} {base : Heap} (D : Df K mg "following" s_following) (U : Bu mg) : Cl P w K mg base "following" 1 ["windows", "gram"] sp_following := by
  refine D.cl sc_following (fun _ _ _ _ _ _ us hl => match us, hl with | [_, _], _ => rfl) (fun vs H Q E h => ?_) (fun cdv f A outer s H vs Q E hr h => ?_)
  · obtain ⟨wa, ws, g, rfl, hw, hne, hl, hn, q⟩ := h
    rfl
  · obtain ⟨wa, ws, g, rfl, hw, hne, hl, hn, q⟩ := h
    have hu := hu_of hr
    have hu9 := hu9_of hr
    have hu64 := hu64_of hr
    refine ⟨_, (pss_one (ps_ret (pe_joinT (K := K) rfl (pe_txt (t := []) (by decide +kernel)) (pe_lc (own := [("window", 2)]) (g := (gName 2)) (by rfl) sc_following.nd (pi_tup (pv 0)) (blkOk_by (N := ["windows", "gram", "window"]) (sc := defScope s_following) (by decide +kernel)) (fun _ _ _ _ _ => (pg_name (i := 2) sc_following.nd rfl (Or.inl rfl))) (fun _ _ _ _ _ => (pts_one (pt_cmpR op_eq (pe_slice sl_txt1 (pv 2) po_none (po_some (pe_un un_neg pe_int))) (pv 1) (nomark _)))) (fun _ _ _ _ _ => (pe_ix ix_txt (pv 2) (pe_un un_neg pe_int) (fun _ _ => rfl))))))), ?_⟩
    walk_at "go"
    refine lc_U ws sv (fun x => if decide (x.dropLast = g) = true then [sv [x.getLastD 0]] else []) (fun _ _ => if_len) (by walk_at "sz") hw (fun x H' hx sm R hR => ?_) ?_
    · have hx1 := hne x hx
      have hx2 := hl x hx
      walk_at "go"
      refine ⟨rfl, ?_⟩
      walk_at "go"
      refine iteD (fun e => ?_) (fun e => ?_)
      · walk_at "go"
        have := hR H' (Same.refl _)
        rwa [if_pos (decide_eq_true e)] at this
      · have := hR H' (Same.refl _)
        rwa [if_neg (by simpa using e)] at this
    · intro p H1 hp sm h1
      rw [flat_if (fun x : T => decide (x.dropLast = g)) (fun x => sv [x.getLastD 0])] at h1
      have h2 : H1 p = some (.lst (((ws.filter fun x => decide (x.dropLast = g)).map fun x => [x.getLastD 0]).map sv)) := by rw [h1, List.map_map]; rfl
      refine w_joinL h2 ?_ ?_
      · rw [flat_fol]
        have := fol_len ws g
        omega
      · rw [flat_fol]
        exact q H1 sm

theorem sc_check_shards : FnScope ["pieces", "grain", "piece"] ["pieces", "grain"] (defScope s_check_shards) := ⟨rfl, rfl, rfl, by decide +kernel, rfl, by decide +kernel, by decide +kernel⟩
def sp_check_shards : Sp := fun vs H Q _ => ∃ (pa : Addr) (ps : List T) (g : Nat), vs = [.ref pa, iv g] ∧ H pa = some (.tup (ps.map sv)) ∧ Sh ps g ∧ ∀ H', Same H H' → Q .non H'
theorem ok_check_shards {P : Program} {w : World} {K : PySem.W.Frag} {mg : Str → Option Value} {base : Heap} (D : Df K mg "check_shards" s_check_shards) (U : Bu mg) (c_GRAIN_LIMIT : ∃ t, mg "GRAIN_LIMIT" = some (.int 12 t)) (c_LETTER_LIMIT : ∃ t, mg "LETTER_LIMIT" = some (.int 60 t)) (c_PIECE_LIMIT : ∃ t, mg "PIECE_LIMIT" = some (.int 40 t)) : Cl P w K mg base "check_shards" 1 ["pieces", "grain"] sp_check_shards := by
  refine D.cl sc_check_shards (fun _ _ _ _ _ _ us hl => match us, hl with | [_, _], _ => rfl) (fun vs H Q E h => ?_) (fun cdv f A outer s H vs Q E hr h => ?_)
  · obtain ⟨pa, ps, g, rfl, hp, hs, q⟩ := h
    rfl
  · obtain ⟨pa, ps, g, rfl, hp, hs, q⟩ := h
    have hu := hu_of hr
    have hu9 := hu9_of hr
    have hu64 := hu64_of hr
    refine ⟨_, (pss_cons (ps_if (PW.pt (pw_or (pt_cmpR op_lt (pv 1) pe_int (nomark _)) (pw_or1 (pt_cmpR op_gt (pv 1) (pconst c_GRAIN_LIMIT) (nomark _))))) (pss_one ps_never) pss_nil)
 (pss_cons (ps_if (pt_cmpR op_eq (pe_callB (len_seq (K := K) rfl) (by rfl) U.len (by decide +kernel) (pa_cons (pv 0) pa_nil)) pe_int (nomark _)) (pss_one ps_never) pss_nil)
 (pss_cons (ps_if (pt_cmpR op_gt (pe_callB (len_seq (K := K) rfl) (by rfl) U.len (by decide +kernel) (pa_cons (pv 0) pa_nil)) (pconst c_PIECE_LIMIT) (nomark _)) (pss_one ps_never) pss_nil)
 (pss_one (ps_for PassesOwn.never rfl (pi_tup (pv 0)) (pg_name (i := 2) sc_check_shards.nd rfl (Or.inl rfl)) (pss_cons (ps_if (pt_cmpR op_lt (pe_callB len_txt (by rfl) U.len (by decide +kernel) (pa_cons (pv 2) pa_nil)) (pv 1) (nomark _)) (pss_one ps_never) pss_nil)
 (pss_one (ps_if (pt_cmpR op_gt (pe_callB len_txt (by rfl) U.len (by decide +kernel) (pa_cons (pv 2) pa_nil)) (pconst c_LETTER_LIMIT) (nomark _)) (pss_one ps_never) pss_nil)))))))), ?_⟩
    have g1 := hs.g1
    have g12 := hs.g12
    walk_at "go"
    refine iteDf (by omega) ?_
    walk_at "go"
    refine iteDf (by omega) ?_
    walk_at "go"
    refine iteDf (by have := List.length_pos_iff.mpr hs.ne; rw [List.length_map]; omega) ?_
    walk_at "go"
    refine iteDf (by have := hs.len; rw [List.length_map]; omega) ?_
    walk_at "go"
    refine w_forU (xs := ps.map sv) (fun i σ H' => ∃ v, σ = [some (.ref pa), some (iv g), v] ∧ H' = H) ⟨none, rfl, rfl⟩ (fun i σ H' _ ⟨_, _, e⟩ => by rw [e]; exact hp) ?_ (fun σ H' ⟨_, _, e⟩ => by rw [e]; exact q H (Same.refl _))
    rintro i x σ H' hx ⟨v, rfl, rfl⟩
    rw [List.getElem?_map] at hx
    obtain ⟨p, hp2, rfl⟩ := Option.map_eq_some_iff.mp hx
    have hm := List.mem_of_getElem? hp2
    have h1 := hs.pg p hm
    have h2 := hs.p9 p hm
    walk_at "go"
    refine iteDf (by omega) ?_
    walk_at "go"
    refine iteDf (by omega) ?_
    walk_at "go"
    exact ⟨_, rfl, rfl⟩

theorem sc_check_shape : FnScope ["shape"] ["shape"] (defScope s_check_shape) := ⟨rfl, rfl, rfl, by decide +kernel, rfl, by decide +kernel, by decide +kernel⟩
def txC : T := [99, 105, 114, 99, 108, 101]
def txL : T := [108, 105, 110, 101]
def sp_check_shape : Sp := fun vs H Q _ => ∃ (z : T), vs = [sv z] ∧ (z = txC ∨ z = txL) ∧ ∀ H', Same H H' → Q .non H'
theorem ok_check_shape {P : Program} {w : World} {K : PySem.W.Frag} {mg : Str → Option Value} {base : Heap} (D : Df K mg "check_shape" s_check_shape) (U : Bu mg) : Cl P w K mg base "check_shape" 1 ["shape"] sp_check_shape := by
  refine D.cl sc_check_shape (fun _ _ _ _ _ _ us hl => match us, hl with | [_], _ => rfl) (fun vs H Q E h => ?_) (fun cdv f A outer s H vs Q E hr h => ?_)
  · obtain ⟨z, rfl, hz, q⟩ := h
    rfl
  · obtain ⟨z, rfl, hz, q⟩ := h
    have hu := hu_of hr
    have hu9 := hu9_of hr
    have hu64 := hu64_of hr
    refine ⟨_, (pss_one (ps_if (PW.pt (pw_and (pt_cmpR op_ne (pv 0) (pe_txt (t := [99, 105, 114, 99, 108, 101]) (by decide +kernel)) (nomark _)) (pw_and1 (pt_cmpR op_ne (pv 0) (pe_txt (t := [108, 105, 110, 101]) (by decide +kernel)) (nomark _))))) (pss_one ps_never) pss_nil)), ?_⟩
    walk_at "go"
    refine iteN (fun h1 => ?_) (fun h1 => ?_)
    · walk_at "go"
      refine iteNf (hz.resolve_left h1) ?_
      walk_at "go"
      exact q H (Same.refl _)
    · refine iteF ?_
      walk_at "go"
      exact q H (Same.refl _)

theorem sc_check_word : FnScope ["word"] ["word"] (defScope s_check_word) := ⟨rfl, rfl, rfl, by decide +kernel, rfl, by decide +kernel, by decide +kernel⟩
def sp_check_word : Sp := fun vs H Q _ => ∃ (z : T), vs = [sv z] ∧ z ≠ [] ∧ z.length ≤ 60 ∧ ∀ H', Same H H' → Q .non H'
theorem ok_check_word {P : Program} {w : World} {K : PySem.W.Frag} {mg : Str → Option Value} {base : Heap} (D : Df K mg "check_word" s_check_word) (U : Bu mg) (c_WORD_LIMIT : ∃ t, mg "WORD_LIMIT" = some (.int 60 t)) : Cl P w K mg base "check_word" 1 ["word"] sp_check_word := by
  refine D.cl sc_check_word (fun _ _ _ _ _ _ us hl => match us, hl with | [_], _ => rfl) (fun vs H Q E h => ?_) (fun cdv f A outer s H vs Q E hr h => ?_)
  · obtain ⟨z, rfl, h1, h2, q⟩ := h
    rfl
  · obtain ⟨z, rfl, h1, h2, q⟩ := h
    have hu := hu_of hr
    have hu9 := hu9_of hr
    have hu64 := hu64_of hr
    refine ⟨_, (pss_cons (ps_if (pt_cmpR op_eq (pv 0) (pe_txt (t := []) (by decide +kernel)) (nomark _)) (pss_one ps_never) pss_nil)
 (pss_one (ps_if (pt_cmpR op_gt (pe_callB len_txt (by rfl) U.len (by decide +kernel) (pa_cons (pv 0) pa_nil)) (pconst c_WORD_LIMIT) (nomark _)) (pss_one ps_never) pss_nil))), ?_⟩
    walk_at "go"
    refine iteDf h1 ?_
    walk_at "go"
    refine iteDf (by omega) ?_
    walk_at "go"
    exact q H (Same.refl _)

theorem sc_check_line : FnScope ["pieces"] ["pieces"] (defScope s_check_line) := ⟨rfl, rfl, rfl, by decide +kernel, rfl, by decide +kernel, by decide +kernel⟩
def sp_check_line : Sp := fun vs H Q _ => ∃ (pa : Addr) (ps : List T), vs = [.ref pa] ∧ H pa = some (.tup (ps.map sv)) ∧ ps.length ≤ 8 ∧ ∀ H', Same H H' → Q .non H'
theorem ok_check_line {P : Program} {w : World} {K : PySem.W.Frag} {mg : Str → Option Value} {base : Heap} (D : Df K mg "check_line" s_check_line) (U : Bu mg) (c_LINE_LIMIT : ∃ t, mg "LINE_LIMIT" = some (.int 8 t)) : Cl P w K mg base "check_line" 1 ["pieces"] sp_check_line := by
  refine D.cl sc_check_line (fun _ _ _ _ _ _ us hl => match us, hl with | [_], _ => rfl) (fun vs H Q E h => ?_) (fun cdv f A outer s H vs Q E hr h => ?_)
  · obtain ⟨pa, ps, rfl, hp, hl, q⟩ := h
    rfl
  · obtain ⟨pa, ps, rfl, hp, hl, q⟩ := h
    have hu := hu_of hr
    have hu9 := hu9_of hr
    have hu64 := hu64_of hr
    refine ⟨_, (pss_one (ps_if (pt_cmpR op_gt (pe_callB (len_seq (K := K) rfl) (by rfl) U.len (by decide +kernel) (pa_cons (pv 0) pa_nil)) (pconst c_LINE_LIMIT) (nomark _)) (pss_one ps_never) pss_nil)), ?_⟩
    walk_at "go"
    refine iteDf (by rw [List.length_map]; omega) ?_
    walk_at "go"
    exact q H (Same.refl _)

theorem sc_advance : FnScope ["word", "matched", "letter", "read", "k"] ["word", "matched", "letter"] (defScope s_advance) := ⟨rfl, rfl, rfl, by decide +kernel, rfl, by decide +kernel, by decide +kernel⟩
def sp_advance : Sp := fun vs H Q _ => ∃ (w : T) (m c : Nat), vs = [sv w, iv m, sv [c]] ∧ w.length ≤ 60 ∧ m ≤ w.length ∧ ∀ H', Same H H' → Q (iv (adv w m c)) H'
theorem adv_at {w x : T} {k : Nat} (h : ∀ j, k < j → j ≤ min x.length w.length → x.drop (x.length - j) ≠ w.take j) (hk : k = 0 ∨ x.drop (x.length - k) = w.take k) (hm : k ≤ min x.length w.length) : mat w x = k := by
  refine mat_uniq (by omega) ?_ ?_
  · rcases hk with rfl | hk
    · simp
    · rw [← hk]; exact List.drop_suffix _ _
  · intro j hj hs
    refine Decidable.byContradiction fun hn => ?_
    have h1 := suf_iff.mp hs
    have hl : (w.take j).length = j := by rw [List.length_take]; omega
    rw [hl] at h1
    exact h j (by omega) (by omega) h1.2
theorem ok_advance {P : Program} {w : World} {K : PySem.W.Frag} {mg : Str → Option Value} {base : Heap} (D : Df K mg "advance" s_advance) (U : Bu mg) : Cl P w K mg base "advance" 1 ["word", "matched", "letter"] sp_advance := by
  refine D.cl sc_advance (fun _ _ _ _ _ _ us hl => match us, hl with | [_, _, _], _ => rfl) (fun vs H Q E h => ?_) (fun cdv f A outer s H vs Q E hr h => ?_)
  · obtain ⟨w0, m, c, rfl, hw, hm, q⟩ := h
    rfl
  · obtain ⟨w0, m, c, rfl, hw, hm, q⟩ := h
    have hu := hu_of hr
    have hu9 := hu9_of hr
    have hu64 := hu64_of hr
    refine ⟨_, (pss_cons (ps_set (i := 3) sc_advance.nd rfl (Or.inl rfl) (pe_op op_addT (pe_slice sl_txt1 (pv 0) po_none (po_some (pv 1))) (pv 2)))
 (pss_cons (ps_for PassesOwn.never rfl (pi_range3 rfl U.rng (pa_cons (pe_callB (min_two rfl) (by rfl) U.mn (by decide +kernel) (pa_cons (pe_callB len_txt (by rfl) U.len (by decide +kernel) (pa_cons (pv 3) pa_nil)) (pa_cons (pe_callB len_txt (by rfl) U.len (by decide +kernel) (pa_cons (pv 0) pa_nil)) pa_nil))) (pa_cons pe_int (pa_cons (pe_un un_neg pe_int) pa_nil)))) (pg_name (i := 4) sc_advance.nd rfl (Or.inl rfl)) (pss_one (ps_if (pt_cmpR op_eq (pe_slice sl_txt1 (pv 3) (po_some (pe_op op_sub (pe_callB len_txt (by rfl) U.len (by decide +kernel) (pa_cons (pv 3) pa_nil)) (pv 4))) po_none) (pe_slice sl_txt1 (pv 0) po_none (po_some (pv 4))) (nomark _)) (pss_one (ps_ret (pv 4))) pss_nil)))
 (pss_one (ps_ret pe_int)))), ?_⟩
    walk_at "go"
    have hl : (w0.take m ++ [c]).length = m + 1 := by rw [List.length_append, List.length_take, List.length_singleton]; omega
    have e0 : ((m : Int)).toNat = m := by omega
    simp only [e0]
    refine w_R3 (by split <;> omega) (by split <;> omega) ?_
    generalize hx : w0.take m ++ [c] = x at hl
    have e1 : (if ((w0.length : Int)) < (x.length : Int) then (w0.length : Int) else (x.length : Int)).toNat = min x.length w0.length := by split <;> omega
    have e2 : (if ((w0.length : Int)) < (x.length : Int) then (w0.length : Int) else (x.length : Int)) = ((min x.length w0.length : Nat) : Int) := by split <;> omega
    rw [e1, e2]
    refine w_forC (fun i σ H' => (∃ v, σ = [some (sv w0), some (iv m), some (sv [c]), some (sv x), v]) ∧ H' = H ∧ ∀ j, min x.length w0.length - i < j → j ≤ min x.length w0.length → x.drop (x.length - j) ≠ w0.take j) ⟨⟨none, rfl⟩, rfl, fun j h1 h2 => by omega⟩ ?_ ?_
    · rintro i σ H' hi ⟨⟨v, rfl⟩, rfl, hno⟩
      have e3 : (((min x.length w0.length : Nat) : Int) + (i : Nat) * (-1)) = ((min x.length w0.length - i : Nat) : Int) := by omega
      rw [e3]
      generalize hk : min x.length w0.length - i = k at hno
      walk_at "go"
      have e4 : ((x.length : Int) - (k : Int)).toNat = x.length - k := by omega
      have e5 : ((k : Int)).toNat = k := by omega
      rw [e4, e5]
      refine iteD (fun e => ?_) (fun e => ?_)
      · walk_at "go"
        have : adv w0 m c = k := by
          unfold adv
          rw [hx]
          exact adv_at (fun j h1 h2 => hno j h1 h2) (.inr e) (by omega)
        have q1 := q H' (Same.refl _)
        rwa [this] at q1
      · walk_at "go"
        refine ⟨⟨_, rfl⟩, rfl, fun j h1 h2 => ?_⟩
        by_cases h3 : j = k
        · subst h3; exact e
        · exact hno j (by omega) h2
    · rintro σ H' ⟨⟨v, rfl⟩, rfl, hno⟩
      walk_at "go"
      have : adv w0 m c = 0 := by
        unfold adv
        rw [hx]
        exact adv_at (fun j h1 h2 => hno j (by omega) h2) (.inl rfl) (by omega)
      have q1 := q H' (Same.refl _)
      rwa [this] at q1

theorem sc_window_list : FnScope ["pieces", "grain", "found", "piece", "p"] ["pieces", "grain"] (defScope s_window_list) := ⟨rfl, rfl, rfl, by decide +kernel, rfl, by decide +kernel, by decide +kernel⟩
def sp_window_list : Sp := fun vs H Q _ => ∃ (pa : Addr) (ps : List T) (g : Nat), vs = [.ref pa, iv g] ∧ H pa = some (.tup (ps.map sv)) ∧ Sh ps g ∧
  ∀ r ws H', H r = none → Same H H' → H' r = some (.tup (ws.map sv)) → Wn ps g ws → Q (.ref r) H'
/-- in the midst of the gathering: the first i pieces, of the next one the first j windows -/
structure WnI (ps : List T) (g i j : Nat) (l : List T) : Prop where
  nd : l.Nodup
  mem : ∀ x, x ∈ l ↔ x.length = g ∧ ((∃ p ∈ ps.take i, x <:+: p) ∨ ∃ p, ps[i]? = some p ∧ ∃ k, k < j ∧ k + g ≤ p.length ∧ x = (p.drop k).take g)
theorem WnI.sub {ps : List T} {g i j : Nat} {l : List T} (h : WnI ps g i j l) : ∀ x ∈ l, x.length = g ∧ ∃ p ∈ ps, x <:+: p := fun x hx => by
  obtain ⟨h1, h2⟩ := (h.mem x).mp hx
  refine ⟨h1, ?_⟩
  rcases h2 with ⟨p, hp, h2⟩ | ⟨p, hp, k, _, _, rfl⟩
  · exact ⟨p, List.mem_of_mem_take hp, h2⟩
  · exact ⟨p, List.mem_of_getElem? hp, (List.take_prefix _ _).isInfix.trans (List.drop_suffix _ _).isInfix⟩
theorem infix_at {x p : T} : x <:+: p ↔ ∃ k, k + x.length ≤ p.length ∧ x = (p.drop k).take x.length := by
  constructor
  · rintro ⟨a, b, e⟩
    refine ⟨a.length, by rw [← e]; simp only [List.length_append]; omega, ?_⟩
    rw [← e, List.append_assoc, List.drop_left, List.take_left]
  · rintro ⟨k, _, e⟩
    rw [e]
    exact (List.take_prefix _ _).isInfix.trans (List.drop_suffix _ _).isInfix
theorem WnI.next {ps : List T} {g i : Nat} {l : List T} {p : T} (hp : ps[i]? = some p) (hg : g ≤ p.length) (h : WnI ps g i (p.length - g + 1) l) : WnI ps g (i + 1) 0 l := by
  refine ⟨h.nd, fun x => ?_⟩
  rw [h.mem x]
  constructor
  · rintro ⟨h1, h2⟩
    refine ⟨h1, .inl ?_⟩
    rcases h2 with ⟨q, hq, h2⟩ | ⟨q, hq, k, _, _, rfl⟩
    · exact ⟨q, by rw [List.take_add_one]; exact List.mem_append_left _ hq, h2⟩
    · exact ⟨q, by rw [List.take_add_one, hq]; exact List.mem_append_right _ (by simp), (List.take_prefix _ _).isInfix.trans (List.drop_suffix _ _).isInfix⟩
  · rintro ⟨h1, h2⟩
    refine ⟨h1, ?_⟩
    rcases h2 with ⟨q, hq, h2⟩ | ⟨q, _, k, hk, _⟩
    · rw [List.take_add_one, hp] at hq
      rcases List.mem_append.mp hq with hq | hq
      · exact .inl ⟨q, hq, h2⟩
      · have e : q = p := by simpa using hq
        subst e
        obtain ⟨k, hk, e⟩ := infix_at.mp h2
        rw [h1] at hk e
        exact .inr ⟨q, hp, k, by omega, hk, e⟩
    · omega
theorem WnI.add {ps : List T} {g i j : Nat} {l : List T} {p : T} (hp : ps[i]? = some p) (hj : j + g ≤ p.length) (h : WnI ps g i j l) : WnI ps g i (j + 1) (if (p.drop j).take g ∈ l then l else l ++ [(p.drop j).take g]) := by
  have hlen : ((p.drop j).take g).length = g := by rw [List.length_take, List.length_drop]; omega
  by_cases hm : (p.drop j).take g ∈ l
  · rw [if_pos hm]
    refine ⟨h.nd, fun x => ?_⟩
    rw [h.mem x]
    constructor
    · rintro ⟨h1, h2 | ⟨q, hq, k, hk, r⟩⟩
      · exact ⟨h1, .inl h2⟩
      · exact ⟨h1, .inr ⟨q, hq, k, by omega, r⟩⟩
    · rintro ⟨h1, h2 | ⟨q, hq, k, hk, hk2, e⟩⟩
      · exact ⟨h1, .inl h2⟩
      · by_cases e2 : k = j
        · subst e2
          rw [hp] at hq
          cases hq
          rw [e]
          exact (h.mem _).mp hm
        · exact ⟨h1, .inr ⟨q, hq, k, by omega, hk2, e⟩⟩
  · rw [if_neg hm]
    refine ⟨?_, fun x => ?_⟩
    · rw [List.nodup_append]
      refine ⟨h.nd, by simp, fun a ha b hb e => ?_⟩
      simp only [List.mem_singleton] at hb
      subst hb e
      exact hm ha
    · rw [List.mem_append, List.mem_singleton, h.mem x]
      constructor
      · rintro (⟨h1, h2 | ⟨q, hq, k, hk, r⟩⟩ | rfl)
        · exact ⟨h1, .inl h2⟩
        · exact ⟨h1, .inr ⟨q, hq, k, by omega, r⟩⟩
        · exact ⟨hlen, .inr ⟨p, hp, j, by omega, hj, rfl⟩⟩
      · rintro ⟨h1, h2 | ⟨q, hq, k, hk, hk2, e⟩⟩
        · exact .inl ⟨h1, .inl h2⟩
        · by_cases e2 : k = j
          · subst e2
            rw [hp] at hq
            cases hq
            exact .inr e
          · exact .inl ⟨h1, .inr ⟨q, hq, k, by omega, hk2, e⟩⟩
theorem WnI.init (ps : List T) (g : Nat) : WnI ps g 0 0 [] := ⟨by simp, fun x => by simp⟩
theorem WnI.fin {ps : List T} {g : Nat} {l : List T} (s : Sh ps g) (h : WnI ps g ps.length 0 l) {ws : List T} (hp : ws.Perm l) : Wn ps g ws := by
  have hm : ∀ x, x ∈ ws ↔ x.length = g ∧ ∃ p ∈ ps, x <:+: p := fun x => by
    rw [hp.mem_iff, h.mem x, List.take_length]
    constructor
    · rintro ⟨h1, h2 | ⟨q, _, k, hk, _⟩⟩
      · exact ⟨h1, h2⟩
      · omega
    · rintro ⟨h1, h2⟩
      exact ⟨h1, .inl h2⟩
  have hn : ws.Nodup := hp.nodup_iff.mpr h.nd
  exact ⟨hn, hm, win_len s hn fun x hx => (hm x).mp hx⟩
theorem WnI.few {ps : List T} {g i j : Nat} {l : List T} (s : Sh ps g) (h : WnI ps g i j l) : l.length ≤ 10 := win_len s h.nd h.sub
theorem ok_window_list {P : Program} {w : World} {K : PySem.W.Frag} {mg : Str → Option Value} {base : Heap} (D : Df K mg "window_list" s_window_list) (U : Bu mg) : Cl P w K mg base "window_list" 1 ["pieces", "grain"] sp_window_list := by
  refine D.cl sc_window_list (fun _ _ _ _ _ _ us hl => match us, hl with | [_, _], _ => rfl) (fun vs H Q E h => ?_) (fun cdv f A outer s H vs Q E hr h => ?_)
  · obtain ⟨pa, ps, g, rfl, hp, hs, q⟩ := h
    rfl
  · obtain ⟨pa, ps, g, rfl, hp, hs, q⟩ := h
    have hu := hu_of hr
    have hu9 := hu9_of hr
    have hu64 := hu64_of hr
    refine ⟨_, (pss_cons (ps_set (i := 2) sc_window_list.nd rfl (Or.inl rfl) (pe_lst pa_nil))
 (pss_cons (ps_for PassesOwn.never rfl (pi_tup (pv 0)) (pg_name (i := 3) sc_window_list.nd rfl (Or.inl rfl)) (pss_one (ps_for PassesOwn.never rfl (pi_range1 rfl U.rng (pa_cons (pe_op op_add (pe_op op_sub (pe_callB len_txt (by rfl) U.len (by decide +kernel) (pa_cons (pv 3) pa_nil)) (pv 1)) pe_int) pa_nil)) (pg_name (i := 4) sc_window_list.nd rfl (Or.inl rfl)) (pss_one (ps_if (pt_cmpR (op_niT (K := K) rfl) (pe_slice sl_txt1 (pv 3) (po_some (pv 4)) (po_some (pe_op op_add (pv 4) (pv 1)))) (pv 2) (by rfl)) (pss_one (ps_expr (pe_bm PySem.F.plainAttrs_list PySem.F.slot_list_append PySem.F.type_list_append mt_append (pv 2) (pa_cons (pe_slice sl_txt1 (pv 3) (po_some (pv 4)) (po_some (pe_op op_add (pv 4) (pv 1)))) pa_nil)))) pss_nil)))))
 (pss_one (ps_ret (pe_callTy (tup_of (K := K) rfl) (by rfl) U.tpl (by decide +kernel) (pa_cons (pe_callB (sort_txt (K := K) rfl) (by rfl) U.srt (by decide +kernel) (pa_cons (pv 2) pa_nil)) pa_nil)))))), ?_⟩
    have g1 := hs.g1
    walk_at "go"
    intro l H1 hl sm hl1
    walk_at "go"
    have hp1 := sm _ _ hp
    walk_at "go"
    refine w_forU (xs := ps.map sv) (fun i σ H2 => ∃ v1 v2 fs, σ = [some (.ref pa), some (iv g), some (.ref l), v1, v2] ∧ Same H H2 ∧ H2 l = some (.lst (fs.map sv)) ∧ WnI ps g i 0 fs) ⟨none, none, [], rfl, sm, hl1, WnI.init ps g⟩ (fun i σ H2 _ ⟨_, _, _, _, sm2, _⟩ => sm2 _ _ hp) ?_ ?_
    · rintro i x σ H2 hx ⟨v1, v2, fs, rfl, sm2, hl2, wn⟩
      rw [List.getElem?_map] at hx
      obtain ⟨p, hpi, rfl⟩ := Option.map_eq_some_iff.mp hx
      have hm := List.mem_of_getElem? hpi
      have h1 := hs.pg p hm
      have h2 := hs.p9 p hm
      walk_at "go"
      refine w_R1 (by omega) (by omega) ?_
      have e1 : ((p.length : Int) - (g : Int) + 1).toNat = p.length - g + 1 := by omega
      rw [e1]
      refine w_forR (fun j σ H3 => ∃ v2 fs, σ = [some (.ref pa), some (iv g), some (.ref l), some (sv p), v2] ∧ Same H H3 ∧ H3 l = some (.lst (fs.map sv)) ∧ WnI ps g i j fs) ⟨v2, fs, rfl, sm2, hl2, wn⟩ ?_ ?_
      · rintro j σ H3 hj ⟨v2, fs, rfl, sm3, hl3, wn3⟩
        have hfew := wn3.few hs
        have e2 : ((0 : Int) + (j : Int)) = (j : Int) := by omega
        rw [e2]
        walk_at "go"
        have e3 : ((j : Int)).toNat = j := by omega
        have e4 : ((j : Int) + (g : Int)).toNat - j = g := by omega
        rw [e3, e4]
        have wn4 := wn3.add hpi (by omega)
        refine iteN (fun hn => ?_) (fun hn => ?_)
        · rw [if_neg hn] at wn4
          walk_at "go"
          rw [e3, e4]
          refine ⟨_, _, rfl, sm_mut sm3 hl, ?_, wn4⟩
          rw [upd_same, List.map_append]
          rfl
        · rw [if_pos hn] at wn4
          walk_at "go"
          exact ⟨_, fs, rfl, sm3, hl3, wn4⟩
      · rintro σ H3 ⟨v3, fs3, rfl, sm3, hl3, wn3⟩
        exact ⟨_, _, fs3, rfl, sm3, hl3, wn3.next hpi h1⟩
    · rintro σ H2 ⟨v1, v2, fs, rfl, sm2, hl2, wn⟩
      rw [List.length_map] at wn
      have hfew := wn.few hs
      walk_at "go"
      refine w_sortT hl2 (by omega) fun us hus _ p H3 hp3 sm3 hl3 => ?_
      walk_at "go"
      intro r H4 hr4 sm4 hl4
      exact q r us H4 ((sm2.trans sm3).free hr4) ((sm2.trans sm3).trans sm4) hl4 (wn.fin hs hus)

theorem sc_windows_of : FnScope ["pieces", "grain"] ["pieces", "grain"] (defScope s_windows_of) := ⟨rfl, rfl, rfl, by decide +kernel, rfl, by decide +kernel, by decide +kernel⟩
def sp_windows_of : Sp := sp_window_list
theorem ok_windows_of {P : Program} {w : World} {K : PySem.W.Frag} {mg : Str → Option Value} {base : Heap} (D : Df K mg "windows_of" s_windows_of) (U : Bu mg) (C_check_shards : Cl P w K mg base "check_shards" 1 ["pieces", "grain"] sp_check_shards) (C_window_list : Cl P w K mg base "window_list" 1 ["pieces", "grain"] sp_window_list) : Cl P w K mg base "windows_of" 2 ["pieces", "grain"] sp_windows_of := by
  refine D.cl sc_windows_of (fun _ _ _ _ _ _ us hl => match us, hl with | [_, _], _ => rfl) (fun vs H Q E h => ?_) (fun cdv f A outer s H vs Q E hr h => ?_)
  · obtain ⟨pa, ps, g, rfl, hp, hs, q⟩ := h
    rfl
  · obtain ⟨pa, ps, g, rfl, hp, hs, q⟩ := h
    have hu := hu_of hr
    have hu9 := hu9_of hr
    have hu64 := hu64_of hr
    refine ⟨_, (pss_cons (ps_expr (pcall C_check_shards hr (pa_cons (pv 0) (pa_cons (pv 1) pa_nil))))
 (pss_one (ps_ret (pcall C_window_list hr (pa_cons (pv 0) (pa_cons (pv 1) pa_nil)))))), ?_⟩
    walk_at "go"
    refine ⟨pa, ps, g, rfl, hp, hs, fun H1 sm => ?_⟩
    walk_at "go"
    exact ⟨pa, ps, g, rfl, sm _ _ hp, hs, fun r ws H2 hr sm2 h2 wn => q r ws H2 (sm.free hr) (sm.trans sm2) h2 wn⟩

theorem sc_gram_list : FnScope ["windows", "found", "window", "gram"] ["windows"] (defScope s_gram_list) := ⟨rfl, rfl, rfl, by decide +kernel, rfl, by decide +kernel, by decide +kernel⟩
def sp_gram_list : Sp := fun vs H Q _ => ∃ (wa : Addr) (ws : List T) (g : Nat), vs = [.ref wa] ∧ H wa = some (.tup (ws.map sv)) ∧ Wd ws g ∧
  ∀ r gs H', H r = none → Same H H' → H' r = some (.tup (gs.map sv)) → Gr ws gs → Q (.ref r) H'
def addN (l : List T) (x : T) : List T := if x ∈ l then l else l ++ [x]
theorem addN_nd {l : List T} {x : T} (h : l.Nodup) : (addN l x).Nodup := by
  unfold addN
  split
  · exact h
  · rename_i hm
    rw [List.nodup_append]
    refine ⟨h, by simp, fun a ha b hb e => ?_⟩
    simp only [List.mem_singleton] at hb
    subst hb e
    exact hm ha
theorem addN_mem {l : List T} {x y : T} : y ∈ addN l x ↔ y ∈ l ∨ y = x := by
  unfold addN
  split
  · rename_i hm
    constructor
    · exact .inl
    · rintro (h | rfl)
      · exact h
      · exact hm
  · simp
theorem addN_len {l : List T} {x : T} : (addN l x).length ≤ l.length + 1 := by
  unfold addN
  split
  · omega
  · simp
structure GrI (ws : List T) (l : List T) : Prop where
  nd : l.Nodup
  mem : ∀ x, x ∈ l ↔ ∃ y ∈ ws, x = y.dropLast ∨ x = y.drop 1
  len : l.length ≤ 2 * ws.length
theorem GrI.add {ws l : List T} {y : T} (h : GrI ws l) : GrI (ws ++ [y]) (addN (addN l y.dropLast) (y.drop 1)) := by
  refine ⟨addN_nd (addN_nd h.nd), fun x => ?_, ?_⟩
  · rw [addN_mem, addN_mem, h.mem x]
    constructor
    · rintro ((⟨z, hz, e⟩ | e) | e)
      · exact ⟨z, List.mem_append_left _ hz, e⟩
      · exact ⟨y, by simp, .inl e⟩
      · exact ⟨y, by simp, .inr e⟩
    · rintro ⟨z, hz, e⟩
      rcases List.mem_append.mp hz with hz | hz
      · exact .inl (.inl ⟨z, hz, e⟩)
      · simp only [List.mem_singleton] at hz
        subst hz
        rcases e with e | e
        · exact .inl (.inr e)
        · exact .inr e
  · have h1 := addN_len (l := addN l y.dropLast) (x := y.drop 1)
    have h2 := addN_len (l := l) (x := y.dropLast)
    have := h.len
    rw [List.length_append, List.length_singleton]
    omega
theorem ok_gram_list {P : Program} {w : World} {K : PySem.W.Frag} {mg : Str → Option Value} {base : Heap} (D : Df K mg "gram_list" s_gram_list) (U : Bu mg) : Cl P w K mg base "gram_list" 1 ["windows"] sp_gram_list := by
  refine D.cl sc_gram_list (fun _ _ _ _ _ _ us hl => match us, hl with | [_], _ => rfl) (fun vs H Q E h => ?_) (fun cdv f A outer s H vs Q E hr h => ?_)
  · obtain ⟨wa, ws, g, rfl, hw, wd, q⟩ := h
    rfl
  · obtain ⟨wa, ws, g, rfl, hw, wd, q⟩ := h
    have hu := hu_of hr
    have hu9 := hu9_of hr
    have hu64 := hu64_of hr
    refine ⟨_, (pss_cons (ps_set (i := 1) sc_gram_list.nd rfl (Or.inl rfl) (pe_lst pa_nil))
 (pss_cons (ps_for PassesOwn.never rfl (pi_tup (pv 0)) (pg_name (i := 2) sc_gram_list.nd rfl (Or.inl rfl)) (pss_one (ps_for PassesOwn.never rfl (pi_tup (pe_tup (pa_cons (pe_slice sl_txt1 (pv 2) po_none (po_some (pe_un un_neg pe_int))) (pa_cons (pe_slice sl_txt1 (pv 2) (po_some pe_int) po_none) pa_nil)))) (pg_name (i := 3) sc_gram_list.nd rfl (Or.inl rfl)) (pss_one (ps_if (pt_cmpR (op_niT (K := K) rfl) (pv 3) (pv 1) (by rfl)) (pss_one (ps_expr (pe_bm PySem.F.plainAttrs_list PySem.F.slot_list_append PySem.F.type_list_append mt_append (pv 1) (pa_cons (pv 3) pa_nil)))) pss_nil)))))
 (pss_one (ps_ret (pe_callTy (tup_of (K := K) rfl) (by rfl) U.tpl (by decide +kernel) (pa_cons (pe_callB (sort_txt (K := K) rfl) (by rfl) U.srt (by decide +kernel) (pa_cons (pv 1) pa_nil)) pa_nil)))))), ?_⟩
    have hlen := wd.len
    walk_at "go"
    intro l H1 hl sm hl1
    walk_at "go"
    have hw1 := sm _ _ hw
    walk_at "go"
    refine w_forU (xs := ws.map sv) (fun i σ H2 => ∃ v1 v2 fs, σ = [some (.ref wa), some (.ref l), v1, v2] ∧ Same H H2 ∧ H2 l = some (.lst (fs.map sv)) ∧ GrI (ws.take i) fs) ⟨none, none, [], rfl, sm, hl1, by simp, by simp, by simp⟩ (fun i σ H2 _ ⟨_, _, _, _, sm2, _⟩ => sm2 _ _ hw) ?_ ?_
    · rintro i x σ H2 hx ⟨v1, v2, fs, rfl, sm2, hl2, gi⟩
      rw [List.getElem?_map] at hx
      obtain ⟨y, hy, rfl⟩ := Option.map_eq_some_iff.mp hx
      have hm := List.mem_of_getElem? hy
      have hlg := wd.lg y hm
      have hne := wd.ne y hm
      have g12 := wd.g12
      have hfl := gi.len
      rw [List.length_take] at hfl
      walk_at "go"
      intro t H3 ht sm3 ht3
      have hl3 := sm3 _ _ hl2
      refine ⟨_, rfl, ⟨_, SqT.of ht3⟩, ?_⟩
      have htl : t ≠ l := ne_of ht3 hl3 (by intro z; cases z)
      have smH := sm2.trans sm3
      refine w_forU (xs := [sv y.dropLast, sv (y.drop 1)]) (fun j σ H4 => ∃ v2 f2, σ = [some (.ref wa), some (.ref l), some (sv y), v2] ∧ Same H H4 ∧ H4 t = some (.tup [sv y.dropLast, sv (y.drop 1)]) ∧ H4 l = some (.lst (f2.map sv)) ∧ f2.length ≤ 40 ∧
        f2 = (match j with | 0 => fs | 1 => addN fs y.dropLast | _ => addN (addN fs y.dropLast) (y.drop 1))) ⟨v2, fs, rfl, smH, ht3, hl3, by omega, rfl⟩ (fun j σ H4 _ ⟨_, _, _, _, h4, _⟩ => h4) ?_ ?_
      · rintro j x σ H4 hj ⟨v2, f2, rfl, sm4, ht4, hl4, hf4, e4⟩
        obtain ⟨z, hz, rfl⟩ : ∃ z : T, addN f2 z = (match j + 1 with | 0 => fs | 1 => addN fs y.dropLast | _ => addN (addN fs y.dropLast) (y.drop 1)) ∧ x = sv z := by
          match j, hj, e4 with
          | 0, hj, e4 => exact ⟨y.dropLast, by (rw [e4]; rfl), (Option.some.inj hj).symm⟩
          | 1, hj, e4 => exact ⟨y.drop 1, by (rw [e4]; rfl), (Option.some.inj hj).symm⟩
          | _ + 2, hj, _ => simp at hj
        have hal := addN_len (l := fs) (x := y.dropLast)
        have hal2 := addN_len (l := addN fs y.dropLast) (x := y.drop 1)
        have hlz : (addN f2 z).length ≤ 40 := by
          rw [hz]
          match j with
          | 0 => show (addN fs y.dropLast).length ≤ 40; omega
          | _ + 1 => show (addN (addN fs y.dropLast) (y.drop 1)).length ≤ 40; omega
        walk_at "go"
        refine iteN (fun hn => ?_) (fun hn => ?_)
        · walk_at "go"
          refine ⟨_, addN f2 z, rfl, sm_mut sm4 hl, by rw [upd_ne htl]; exact ht4, ?_, hlz, hz⟩
          unfold addN
          rw [upd_same, if_neg hn, List.map_append]
          rfl
        · walk_at "go"
          refine ⟨_, addN f2 z, rfl, sm4, ht4, ?_, hlz, hz⟩
          unfold addN
          rw [if_pos hn]
          exact hl4
      · rintro σ H4 ⟨v3, f2, rfl, sm4, ht4, hl4, hf4, e4⟩
        refine ⟨_, _, f2, rfl, sm4, hl4, ?_⟩
        have e4 : f2 = addN (addN fs y.dropLast) (y.drop 1) := e4
        have : ws.take (i + 1) = ws.take i ++ [y] := by rw [List.take_add_one, hy]; rfl
        rw [this, e4]
        exact gi.add
    · rintro σ H2 ⟨v1, v2, fs, rfl, sm2, hl2, gi⟩
      rw [List.length_map, List.take_length] at gi
      have hfl := gi.len
      walk_at "go"
      refine w_sortT hl2 (by omega) fun us hus _ p H3 hp3 sm3 hl3 => ?_
      walk_at "go"
      intro r H4 hr4 sm4 hl4
      refine q r us H4 ((sm2.trans sm3).free hr4) ((sm2.trans sm3).trans sm4) hl4 ⟨hus.nodup_iff.mpr gi.nd, fun x => by rw [hus.mem_iff]; exact gi.mem x, by rw [hus.length_eq]; omega⟩

theorem sc_way : FnScope ["windows", "word", "state", "letter", "fresh", "gram", "matched"] ["windows", "word", "state", "letter"] (defScope s_way) := ⟨rfl, rfl, rfl, by decide +kernel, rfl, by decide +kernel, by decide +kernel⟩
def sp_way : Sp := fun vs H Q _ => ∃ (wa a : Addr) (ws : List T) (g : Nat) (w : T) (s : S) (c : Nat), vs = [.ref wa, sv w, .ref a, sv [c]] ∧ H wa = some (.tup (ws.map sv)) ∧ Wd ws g ∧ StA H a s ∧ s.1.length ≤ 20 ∧ w.length ≤ 60 ∧ s.2 ≤ w.length ∧
  (stepC ws w s c = none → ∀ H', Same H H' → Q .non H') ∧ ∀ t, stepC ws w s c = some t → ∀ r H', H r = none → Same H H' → StA H' r t → Q (.ref r) H'
theorem ok_way {P : Program} {w : World} {K : PySem.W.Frag} {mg : Str → Option Value} {base : Heap} (D : Df K mg "way" s_way) (U : Bu mg) (C_advance : Cl P w K mg base "advance" 1 ["word", "matched", "letter"] sp_advance) (C_following : Cl P w K mg base "following" 1 ["windows", "gram"] sp_following) : Cl P w K mg base "way" 2 ["windows", "word", "state", "letter"] sp_way := by
  refine D.cl sc_way (fun _ _ _ _ _ _ us hl => match us, hl with | [_, _, _, _], _ => rfl) (fun vs H Q E h => ?_) (fun cdv f A outer s H vs Q E hr h => ?_)
  · obtain ⟨wa, a, ws, g, w0, st, c, rfl, hw, wd, ha, hg, hw60, hm, q1, q2⟩ := h
    rfl
  · obtain ⟨wa, a, ws, g, w0, st, c, rfl, hw, wd, ha, hg, hw60, hm, q1, q2⟩ := h
    have hu := hu_of hr
    have hu9 := hu9_of hr
    have hu64 := hu64_of hr
    refine ⟨_, (pss_cons (ps_asg (pv 2) (pg_tup (by rfl) (pgs_cons (pg_name (i := 5) sc_way.nd rfl (Or.inl rfl)) (pgs_cons (pg_name (i := 6) sc_way.nd rfl (Or.inl rfl)) pgs_nil))))
 (pss_cons (ps_if (PW.pt (pw_or (pt_cmpR op_eq (pv 3) (pe_txt (t := []) (by decide +kernel)) (nomark _)) (pw_or1 (pt_cmpR op_niC (pv 3) (pcall C_following hr (pa_cons (pv 0) (pa_cons (pv 5) pa_nil))) (by rfl))))) (pss_one (ps_ret pe_non)) pss_nil)
 (pss_cons (ps_set (i := 4) sc_way.nd rfl (Or.inl rfl) (pcall C_advance hr (pa_cons (pv 1) (pa_cons (pv 6) (pa_cons (pv 3) pa_nil)))))
 (pss_cons (ps_if (pt_cmpR op_eq (pv 4) (pe_callB len_txt (by rfl) U.len (by decide +kernel) (pa_cons (pv 1) pa_nil)) (nomark _)) (pss_one (ps_ret pe_non)) pss_nil)
 (pss_one (ps_ret (pe_tup (pa_cons (pe_slice sl_txt1 (pe_op op_addT (pv 5) (pv 3)) (po_some pe_int) po_none) (pa_cons (pv 4) pa_nil))))))))), ?_⟩
    have hlen := wd.len
    obtain ⟨gr, m⟩ := st
    have ha : H a = some (.tup [sv gr, iv m]) := ha
    have hg : gr.length ≤ 20 := hg
    have hm : m ≤ w0.length := hm
    walk_at "go"
    refine ⟨a, _, rfl, SqT.of ha, rfl, ?_⟩
    refine ⟨_, _, rfl, ?_⟩
    walk_at "go"
    refine ⟨_, _, rfl, ?_⟩
    walk_at "go"
    refine ⟨rfl, ?_⟩
    walk_at "go"
    refine iteDf (by simp) ?_
    walk_at "go"
    refine ⟨wa, ws, gr, rfl, hw, wd.ne, fun x hx => by have := wd.lg x hx; have := wd.g12; omega, by omega, fun H1 sm => ?_⟩
    walk_at "go"
    refine iteN (fun hn => ?_) (fun hn => ?_)
    · walk_at "go"
      refine q1 ?_ H1 sm
      unfold stepC
      rw [if_neg hn]
    · walk_at "go"
      refine ⟨w0, m, c, rfl, hw60, hm, fun H2 sm2 => ?_⟩
      walk_at "go"
      have hadv : adv w0 m c ≤ w0.length := mat_le _ _
      refine iteD (fun he => ?_) (fun he => ?_)
      · walk_at "go"
        refine q1 ?_ H2 (sm.trans sm2)
        unfold stepC
        rw [if_pos hn, if_pos (show adv w0 m c = w0.length by omega)]
      · walk_at "go"
        intro r H3 hr3 sm3 h3
        refine q2 ((gr ++ [c]).drop 1, adv w0 m c) ?_ r H3 ((sm.trans sm2).free hr3) ((sm.trans sm2).trans sm3) h3
        unfold stepC
        rw [if_pos hn, if_neg (show ¬ adv w0 m c = w0.length by omega)]

theorem sc_state_list : FnScope ["windows", "word", "states", "gram", "matched"] ["windows", "word"] (defScope s_state_list) := ⟨rfl, rfl, rfl, by decide +kernel, rfl, by decide +kernel, by decide +kernel⟩
/-- a list of references to states -/
def RfS (H : Hp) (bs : List (Addr × S)) : Prop := ∀ b ∈ bs, StA H b.1 b.2
theorem RfS.keep {H H' : Hp} {bs : List (Addr × S)} (h : RfS H bs) (k : Kp H H') : RfS H' bs := fun b hb => (h b hb).keep k
abbrev rfs (bs : List (Addr × S)) : List V := bs.map fun b => V.ref b.1
/-- all states, once each -/
structure StL (ws : List T) (w : T) (ss : List S) : Prop where
  nd : ss.Nodup
  sts : Sts ws w ss
  len : ss.length ≤ 20 * w.length
def sp_state_list : Sp := fun vs H Q _ => ∃ (wa : Addr) (ws : List T) (g : Nat) (w : T), vs = [.ref wa, sv w] ∧ H wa = some (.tup (ws.map sv)) ∧ Wd ws g ∧ w.length ≤ 60 ∧
  ∀ r bs H', H r = none → Same H H' → H' r = some (.tup (rfs bs)) → RfS H' bs → StL ws w (bs.map (·.2)) → Q (.ref r) H'
/-- the states of some grams, and of one more the first j -/
def stsI (gs : List T) (n : Nat) : List S := gs.flatMap fun a => (List.range n).map fun k => (a, k)
theorem stsI_len (gs : List T) (n : Nat) : (stsI gs n).length = gs.length * n := by
  unfold stsI
  induction gs with
  | nil => simp
  | cons a l ih => rw [List.flatMap_cons, List.length_append, ih, List.length_map, List.length_range, List.length_cons, Nat.add_mul, Nat.one_mul, Nat.add_comm]
theorem stsI_mem {gs : List T} {n : Nat} {s : S} : s ∈ stsI gs n ↔ s.1 ∈ gs ∧ s.2 < n := by
  unfold stsI
  rw [List.mem_flatMap]
  constructor
  · rintro ⟨a, ha, h⟩
    obtain ⟨k, hk, rfl⟩ := List.mem_map.mp h
    exact ⟨ha, List.mem_range.mp hk⟩
  · rintro ⟨h1, h2⟩
    exact ⟨s.1, h1, List.mem_map.mpr ⟨s.2, List.mem_range.mpr h2, rfl⟩⟩
theorem stsI_nd {gs : List T} {n : Nat} (h : gs.Nodup) : (stsI gs n).Nodup := by
  induction gs with
  | nil => simp [stsI]
  | cons a l ih =>
    obtain ⟨h1, h2⟩ := List.nodup_cons.mp h
    have e : stsI (a :: l) n = ((List.range n).map fun k => (a, k)) ++ stsI l n := rfl
    rw [e, List.nodup_append]
    refine ⟨?_, ih h2, ?_⟩
    · rw [List.nodup_iff_pairwise_ne, List.pairwise_map]
      exact (List.nodup_iff_pairwise_ne.mp List.nodup_range).imp fun hne e => hne (by injection e)
    · intro x hx y hy e
      obtain ⟨k, _, rfl⟩ := List.mem_map.mp hx
      subst e
      exact h1 (stsI_mem.mp hy).1
theorem ok_state_list {P : Program} {w : World} {K : PySem.W.Frag} {mg : Str → Option Value} {base : Heap} (D : Df K mg "state_list" s_state_list) (U : Bu mg) (C_gram_list : Cl P w K mg base "gram_list" 1 ["windows"] sp_gram_list) : Cl P w K mg base "state_list" 2 ["windows", "word"] sp_state_list := by
  refine D.cl sc_state_list (fun _ _ _ _ _ _ us hl => match us, hl with | [_, _], _ => rfl) (fun vs H Q E h => ?_) (fun cdv f A outer s H vs Q E hr h => ?_)
  · obtain ⟨wa, ws, g, w0, rfl, hw, wd, hw60, q⟩ := h
    rfl
  · obtain ⟨wa, ws, g, w0, rfl, hw, wd, hw60, q⟩ := h
    have hu := hu_of hr
    have hu9 := hu9_of hr
    have hu64 := hu64_of hr
    refine ⟨_, (pss_cons (ps_set (i := 2) sc_state_list.nd rfl (Or.inl rfl) (pe_lst pa_nil))
 (pss_cons (ps_for PassesOwn.never rfl (pi_tup (pcall C_gram_list hr (pa_cons (pv 0) pa_nil))) (pg_name (i := 3) sc_state_list.nd rfl (Or.inl rfl)) (pss_one (ps_for PassesOwn.never rfl (pi_range1 rfl U.rng (pa_cons (pe_callB len_txt (by rfl) U.len (by decide +kernel) (pa_cons (pv 1) pa_nil)) pa_nil)) (pg_name (i := 4) sc_state_list.nd rfl (Or.inl rfl)) (pss_one (ps_expr (pe_bm PySem.F.plainAttrs_list PySem.F.slot_list_append PySem.F.type_list_append mt_append (pv 2) (pa_cons (pe_tup (pa_cons (pv 3) (pa_cons (pv 4) pa_nil))) pa_nil)))))))
 (pss_one (ps_ret (pe_callTy (tup_of (K := K) rfl) (by rfl) U.tpl (by decide +kernel) (pa_cons (pv 2) pa_nil)))))), ?_⟩
    have hlen := wd.len
    walk_at "go"
    intro l H1 hl sm hl1
    walk_at "go"
    refine ⟨wa, ws, g, rfl, sm _ _ hw, wd, fun ga gs H2 hga sm2 hg2 gr => ?_⟩
    have hgl := gr.len
    have hl2 := sm2 _ _ hl1
    refine ⟨_, rfl, ⟨_, SqT.of hg2⟩, ?_⟩
    have hlga : l ≠ ga := fun e => by rw [e] at hl1; rw [hl1] at hga; cases hga
    refine w_forU (xs := gs.map sv) (fun i σ H3 => ∃ v1 v2 bs, σ = [some (.ref wa), some (sv w0), some (.ref l), v1, v2] ∧ Same H H3 ∧ H3 ga = some (.tup (gs.map sv)) ∧ H3 l = some (.lst (rfs bs)) ∧ RfS H3 bs ∧ bs.map (·.2) = stsI (gs.take i) w0.length) ⟨none, none, [], rfl, sm.trans sm2, hg2, hl2, fun _ h => absurd h (by simp), by simp [stsI]⟩ (fun i σ H2 _ ⟨_, _, _, _, _, h, _⟩ => h) ?_ ?_
    · rintro i x σ H3 hx ⟨v1, v2, bs, rfl, sm3, hg3, hl3, hb3, eb3⟩
      rw [List.getElem?_map] at hx
      obtain ⟨a, hai, rfl⟩ := Option.map_eq_some_iff.mp hx
      walk_at "go"
      refine w_R1 (by omega) (by omega) ?_
      have e1 : ((w0.length : Int)).toNat = w0.length := by omega
      rw [e1]
      have hbl : bs.length ≤ 20 * 60 := by
        have := congrArg List.length eb3
        rw [List.length_map, stsI_len, List.length_take] at this
        rw [this]
        exact Nat.mul_le_mul (by omega) hw60
      refine w_forR (fun j σ H4 => ∃ v2 bs4, σ = [some (.ref wa), some (sv w0), some (.ref l), some (sv a), v2] ∧ Same H H4 ∧ H4 ga = some (.tup (gs.map sv)) ∧ H4 l = some (.lst (rfs bs4)) ∧ RfS H4 bs4 ∧ bs4.map (·.2) = stsI (gs.take i) w0.length ++ (List.range j).map fun k => (a, k)) ⟨v2, bs, rfl, sm3, hg3, hl3, hb3, by rw [eb3]; simp⟩ ?_ ?_
      · rintro j σ H4 hj ⟨v2, bs4, rfl, sm4, hg4, hl4, hb4, eb4⟩
        have hbl4 : bs4.length ≤ bs.length + j := by
          have h1 := congrArg List.length eb4
          have h2 := congrArg List.length eb3
          rw [List.length_append, List.length_map, List.length_map, List.length_range] at h1
          rw [List.length_map] at h2
          omega
        have e2 : ((0 : Int) + (j : Int)) = (j : Int) := by omega
        rw [e2]
        walk_at "go"
        intro p H5 hp5 sm5 h5
        have hl5 := sm5 _ _ hl4
        have hpl : p ≠ l := ne_of h5 hl5 (by intro z; cases z)
        walk_at "go"
        have kp : Kp H4 (upd H5 l (.lst (rfs bs4 ++ [V.ref p]))) := (sm_kp sm5).trans (Kp.lst hl5)
        refine ⟨_, bs4 ++ [(p, (a, j))], rfl, sm_mut (sm4.trans sm5) hl, kp _ _ hg4, ?_, ?_, ?_⟩
        · rw [upd_same]
          show some (HO.lst _) = some (HO.lst ((bs4 ++ [(p, (a, j))]).map fun b => V.ref b.1))
          rw [List.map_append]
          rfl
        · intro b hb
          rcases List.mem_append.mp hb with hb | hb
          · exact (hb4 b hb).keep kp
          · simp only [List.mem_singleton] at hb
            subst hb
            show upd H5 l _ p = some (.tup [sv a, iv j])
            rw [upd_ne hpl]
            exact h5
        · rw [List.map_append, eb4, List.range_succ, List.map_append, List.append_assoc]
          rfl
      · rintro σ H4 ⟨v2, bs4, rfl, sm4, hg4, hl4, hb4, eb4⟩
        refine ⟨_, _, bs4, rfl, sm4, hg4, hl4, hb4, ?_⟩
        have : gs.take (i + 1) = gs.take i ++ [a] := by rw [List.take_add_one, hai]; rfl
        rw [this, eb4]
        unfold stsI
        rw [List.flatMap_append]
        simp
    · rintro σ H3 ⟨v1, v2, bs, rfl, sm3, hg3, hl3, hb3, eb3⟩
      rw [List.length_map, List.take_length] at eb3
      walk_at "go"
      intro r H4 hr4 sm4 hl4
      refine q r bs H4 (sm3.free hr4) (sm3.trans sm4) hl4 (hb3.keep (sm_kp sm4)) ?_
      rw [eb3]
      refine ⟨stsI_nd gr.nd, ⟨wd.ne, fun s => ?_⟩, ?_⟩
      · rw [stsI_mem, gr.mem s.1]
      · rw [stsI_len]
        exact Nat.mul_le_mul hgl (Nat.le_refl _)

theorem sc_ways_from : FnScope ["windows", "word", "state", "found", "letter", "other"] ["windows", "word", "state"] (defScope s_ways_from) := ⟨rfl, rfl, rfl, by decide +kernel, rfl, by decide +kernel, by decide +kernel⟩
/-- an edge: a tuple of a letter and a state -/
def EdA (H : Hp) (v : V) (e : Nat × S) : Prop := ∃ p b, v = .ref p ∧ H p = some (.tup [sv [e.1], .ref b]) ∧ StA H b e.2
theorem EdA.keep {H H' : Hp} {v : V} {e : Nat × S} (h : EdA H v e) (k : Kp H H') : EdA H' v e := by
  obtain ⟨p, b, h1, h2, h3⟩ := h
  exact ⟨p, b, h1, k _ _ h2, h3.keep k⟩
/-- the list at l holds these edges -/
def EdL (H : Hp) (l : Addr) (es : List (Nat × S)) : Prop := ∃ vs, H l = some (.lst vs) ∧ Paired (EdA H) vs es
theorem EdsK {H H' : Hp} {vs : List V} {es : List (Nat × S)} (h : Paired (EdA H) vs es) (k : Kp H H') : Paired (EdA H') vs es := Paired.mapP h fun _ _ z => z.keep k
def sp_ways_from : Sp := fun vs H Q _ => ∃ (wa a : Addr) (ws : List T) (g : Nat) (w : T) (s : S), vs = [.ref wa, sv w, .ref a] ∧ H wa = some (.tup (ws.map sv)) ∧ Wd ws g ∧ StA H a s ∧ s.1.length ≤ 20 ∧ w.length ≤ 60 ∧ s.2 ≤ w.length ∧
  ∀ r H', H r = none → Same H H' → EdL H' r (outC ws w s) → Q (.ref r) H'
theorem outC_take {ws : List T} {w : T} {s : S} {i c : Nat} (h : (fol ws s.1)[i]? = some c) : ((fol ws s.1).take (i + 1)).filterMap (fun c => (stepC ws w s c).map fun t => (c, t)) = ((fol ws s.1).take i).filterMap (fun c => (stepC ws w s c).map fun t => (c, t)) ++ ((stepC ws w s c).map fun t => (c, t)).toList := by
  rw [List.take_add_one, h, List.filterMap_append]
  congr 1
theorem ok_ways_from {P : Program} {w : World} {K : PySem.W.Frag} {mg : Str → Option Value} {base : Heap} (D : Df K mg "ways_from" s_ways_from) (U : Bu mg) (C_following : Cl P w K mg base "following" 1 ["windows", "gram"] sp_following) (C_way : Cl P w K mg base "way" 2 ["windows", "word", "state", "letter"] sp_way) : Cl P w K mg base "ways_from" 3 ["windows", "word", "state"] sp_ways_from := by
  refine D.cl sc_ways_from (fun _ _ _ _ _ _ us hl => match us, hl with | [_, _, _], _ => rfl) (fun vs H Q E h => ?_) (fun cdv f A outer s H vs Q E hr h => ?_)
  · obtain ⟨wa, a, ws, g, w0, st, rfl, hw, wd, ha, hg, hw60, hm, q⟩ := h
    rfl
  · obtain ⟨wa, a, ws, g, w0, st, rfl, hw, wd, ha, hg, hw60, hm, q⟩ := h
    have hu := hu_of hr
    have hu9 := hu9_of hr
    have hu64 := hu64_of hr
    refine ⟨_, (pss_cons (ps_set (i := 3) sc_ways_from.nd rfl (Or.inl rfl) (pe_lst pa_nil))
 (pss_cons (ps_for PassesOwn.never rfl (pi_str (pcall C_following hr (pa_cons (pv 0) (pa_cons (pe_ix ix_tup (pv 2) pe_int (fun _ _ => rfl)) pa_nil)))) (pg_name (i := 4) sc_ways_from.nd rfl (Or.inl rfl)) (pss_cons (ps_set (i := 5) sc_ways_from.nd rfl (Or.inl rfl) (pcall C_way hr (pa_cons (pv 0) (pa_cons (pv 1) (pa_cons (pv 2) (pa_cons (pv 4) pa_nil))))))
 (pss_one (ps_if (pt_cmpR op_notN1 (pv 5) pe_non (nomark _)) (pss_one (ps_expr (pe_bm PySem.F.plainAttrs_list PySem.F.slot_list_append PySem.F.type_list_append mt_append (pv 3) (pa_cons (pe_tup (pa_cons (pv 4) (pa_cons (pv 5) pa_nil))) pa_nil)))) pss_nil))))
 (pss_one (ps_ret (pv 3))))), ?_⟩
    have hlen := wd.len
    obtain ⟨gr, m⟩ := st
    have ha0 : H a = some (.tup [sv gr, iv m]) := ha
    have hg : gr.length ≤ 20 := hg
    have hm : m ≤ w0.length := hm
    walk_at "go"
    intro l H1 hl sm hl1
    walk_at "go"
    have ha1 := sm _ _ ha0
    refine w_ixU ha1 rfl ?_
    walk_at "go"
    refine ⟨wa, ws, gr, rfl, sm _ _ hw, wd.ne, fun x hx => by have := wd.lg x hx; have := wd.g12; omega, by omega, fun H2 sm2 => ?_⟩
    refine ⟨_, rfl, ?_⟩
    have hl2 := sm2 _ _ hl1
    have hfl := fol_len ws gr
    refine w_forS (x := fol ws gr) (fun i σ H3 => ∃ v1 v2 es, σ = [some (.ref wa), some (sv w0), some (.ref a), some (.ref l), v1, v2] ∧ Same H H3 ∧ H3 l = some (.lst es) ∧ es.length ≤ i ∧ Paired (EdA H3) es (((fol ws gr).take i).filterMap fun c => (stepC ws w0 (gr, m) c).map fun t => (c, t))) ⟨none, none, [], rfl, sm.trans sm2, hl2, Nat.le_refl _, .nil⟩ ?_ ?_
    · rintro i c σ H3 hc ⟨v1, v2, es, rfl, sm3, hl3, hle, pr⟩
      have hi : i < (fol ws gr).length := (List.getElem?_eq_some_iff.mp hc).1
      have ot := outC_take (w := w0) (s := (gr, m)) hc
      walk_at "go"
      have done : ∀ (H4 : Hp) (sm4 : Same H3 H4) (x : V), stepC ws w0 (gr, m) c = none → ∃ v1 v2 es, ([some (.ref wa), some (sv w0), some (.ref a), some (.ref l), some (sv [c]), some x] : L2.St) = [some (.ref wa), some (sv w0), some (.ref a), some (.ref l), v1, v2] ∧ Same H H4 ∧ H4 l = some (.lst es) ∧ es.length ≤ i + 1 ∧ Paired (EdA H4) es (((fol ws gr).take (i + 1)).filterMap fun c => (stepC ws w0 (gr, m) c).map fun t => (c, t)) := by
        intro H4 sm4 x hs
        refine ⟨_, _, es, rfl, sm3.trans sm4, sm4 _ _ hl3, by omega, ?_⟩
        rw [ot, hs]
        simp only [Option.map_none, Option.toList_none, List.append_nil]
        exact EdsK pr (sm_kp sm4)
      refine ⟨wa, a, ws, g, w0, (gr, m), c, rfl, sm3 _ _ hw, wd, sm3 _ _ ha0, hg, hw60, hm, fun hs H4 sm4 => ?_, fun t hs r H4 hr4 sm4 h4 => ?_⟩
      · walk_at "go"
        refine iteNf rfl ?_
        walk_at "go"
        exact done H4 sm4 _ hs
      · have hl4 := sm4 _ _ hl3
        walk_at "go"
        refine iteNt (fun z => nomatch z) ?_
        walk_at "go"
        intro p H5 hp5 sm5 h5
        have hl5 := sm5 _ _ hl4
        walk_at "go"
        have kp : Kp H3 (upd H5 l (.lst (es ++ [V.ref p]))) := (sm_kp (sm4.trans sm5)).trans (Kp.lst hl5)
        refine ⟨_, _, es ++ [V.ref p], rfl, sm_mut ((sm3.trans sm4).trans sm5) hl, upd_same, by simp; omega, ?_⟩
        rw [ot, hs]
        refine Paired.snoc (EdsK pr kp) ⟨p, r, rfl, ?_, ?_⟩
        · exact Kp.lst hl5 _ _ h5
        · exact (h4.keep (sm_kp sm5)).keep (Kp.lst hl5)
    · rintro σ H3 ⟨v1, v2, es, rfl, sm3, hl3, hle, pr⟩
      walk_at "go"
      refine q l H3 hl sm3 ⟨es, hl3, ?_⟩
      rw [List.take_length] at pr
      exact pr

theorem sc_read_within : FnScope ["windows", "word", "piece", "states", "state", "letter"] ["windows", "word", "piece", "states", "state"] (defScope s_read_within) := ⟨rfl, rfl, rfl, by decide +kernel, rfl, by decide +kernel, by decide +kernel⟩
/-- a state or None -/
def OpS (H : Hp) (v : V) (o : Option S) : Prop := match o with
  | none => v = .non
  | some s => ∃ a, v = .ref a ∧ StA H a s
/-- reading a piece within states, from a state or from nowhere -/
def readO (ws : List T) (w : T) (G : S → Bool) : Option S → T → Bool
  | none, _ => false
  | some s, z => readIn ws w G s z
def sp_read_within : Sp := fun vs H Q _ => ∃ (wa sd a : Addr) (ws : List T) (g : Nat) (w z : T) (s : S) (kvs : List (List Key × V)) (ss : List S), vs = [.ref wa, sv w, sv z, .ref sd, .ref a] ∧ H wa = some (.tup (ws.map sv)) ∧ Wd ws g ∧ w.length ≤ 60 ∧
  Rd H sd (.dT kvs) ∧ kvs.map (·.1) = ss.map sk ∧ (∀ s ∈ ss, s.1.length ≤ 20 ∧ s.2 ≤ w.length) ∧ StA H a s ∧ ∀ H', Same H H' → Q (.bl (readIn ws w (fun u => decide (u ∈ ss)) s z)) H'
theorem ok_read_within {P : Program} {w : World} {K : PySem.W.Frag} {mg : Str → Option Value} {base : Heap} (D : Df K mg "read_within" s_read_within) (U : Bu mg) (C_way : Cl P w K mg base "way" 2 ["windows", "word", "state", "letter"] sp_way) : Cl P w K mg base "read_within" 3 ["windows", "word", "piece", "states", "state"] sp_read_within := by
  refine D.cl sc_read_within (fun _ _ _ _ _ _ us hl => match us, hl with | [_, _, _, _, _], _ => rfl) (fun vs H Q E h => ?_) (fun cdv f A outer s H vs Q E hr h => ?_)
  · obtain ⟨wa, sd, a, ws, g, w0, z, s0, kvs, ss, rfl, hw, wd, hw60, hd, hk, hss, ha, q⟩ := h
    rfl
  · obtain ⟨wa, sd, a, ws, g, w0, z, s0, kvs, ss, rfl, hw, wd, hw60, hd, hk, hss, ha, q⟩ := h
    have hu := hu_of hr
    have hu9 := hu9_of hr
    have hu64 := hu64_of hr
    refine ⟨_, (pss_cons (ps_for PassesOwn.never rfl (pi_str (pv 2)) (pg_name (i := 5) sc_read_within.nd rfl (Or.inl rfl)) (pss_cons (ps_if (PW.pt (pw_or (pt_cmpR op_isN1 (pv 4) pe_non (nomark _)) (pw_or1 (pt_cmp (pc_dnotin hu (pv 4) (pv 3)) (by rfl))))) (pss_one (ps_ret pe_bl)) pss_nil)
 (pss_one (ps_set (i := 4) sc_read_within.nd rfl (Or.inl rfl) (pcall C_way hr (pa_cons (pv 0) (pa_cons (pv 1) (pa_cons (pv 4) (pa_cons (pv 5) pa_nil)))))))))
 (pss_one (ps_ret (pe_and (pe_cmpR op_notN1 (pv 4) pe_non (nomark _)) (pe_one (pe_cmp (pc_din hu (pv 4) (pv 3)) (by rfl))))))), ?_⟩
    walk_at "go"
    refine w_forS (x := z) (fun i σ H1 => ∃ v1 v2 o, σ = [some (.ref wa), some (sv w0), some (sv z), some (.ref sd), some v1, v2] ∧ Same H H1 ∧ OpS H1 v1 o ∧ readIn ws w0 (fun u => decide (u ∈ ss)) s0 z = readO ws w0 (fun u => decide (u ∈ ss)) o (z.drop i)) ⟨.ref a, none, some s0, rfl, Same.refl _, ⟨a, rfl, ha⟩, rfl⟩ ?_ ?_
    · rintro i c σ H1 hc ⟨v1, v2, o, rfl, sm1, ho, e⟩
      have hdr : z.drop i = c :: z.drop (i + 1) := by
        have hi : i < z.length := (List.getElem?_eq_some_iff.mp hc).1
        rw [List.drop_eq_getElem_cons hi]
        congr 1
        exact (List.getElem?_eq_some_iff.mp hc).2
      cases o with
      | none =>
        cases (show v1 = .non from ho)
        walk_at "go"
        refine iteDt rfl ?_
        refine iteT ?_
        walk_at "go"
        have : readIn ws w0 (fun u => decide (u ∈ ss)) s0 z = false := e
        rw [← this]
        exact q H1 sm1
      | some s1 =>
        obtain ⟨b, rfl, hb⟩ := ho
        rw [hdr] at e
        have e : readIn ws w0 (fun u => decide (u ∈ ss)) s0 z = readIn ws w0 (fun u => decide (u ∈ ss)) s1 (c :: z.drop (i + 1)) := e
        have hd1 := rd_keep hd (sm1 sd)
        walk_at "go"
        refine iteDf (fun z => nomatch z) ?_
        walk_at "go"
        refine w_inD hd1 hb hk ?_
        walk_at "go"
        refine iteN (fun hn => ?_) (fun hn => ?_)
        · walk_at "go"
          have : readIn ws w0 (fun u => decide (u ∈ ss)) s0 z = false := by
            rw [e]
            unfold readIn
            rw [decide_eq_false hn, Bool.false_and]
          rw [← this]
          exact q H1 sm1
        · walk_at "go"
          obtain ⟨h1, h2⟩ := hss s1 hn
          have e2 : readIn ws w0 (fun u => decide (u ∈ ss)) s0 z = readO ws w0 (fun u => decide (u ∈ ss)) (stepC ws w0 s1 c) (z.drop (i + 1)) := by
            rw [e]
            show (decide (s1 ∈ ss) && _) = _
            rw [decide_eq_true hn, Bool.true_and]
            cases stepC ws w0 s1 c <;> rfl
          refine ⟨wa, b, ws, g, w0, s1, c, rfl, sm1 _ _ hw, wd, hb, h1, hw60, h2, fun hs H2 sm2 => ?_, fun t hs r H2 hr2 sm2 h2 => ?_⟩
          · walk_at "go"
            exact ⟨_, _, none, rfl, sm1.trans sm2, rfl, by rw [e2, hs]⟩
          · walk_at "go"
            exact ⟨_, _, some t, rfl, sm1.trans sm2, ⟨r, rfl, h2⟩, by rw [e2, hs]⟩
    · rintro σ H1 ⟨v1, v2, o, rfl, sm1, ho, e⟩
      rw [List.drop_length] at e
      cases o with
      | none =>
        cases (show v1 = .non from ho)
        walk_at "go"
        have : readIn ws w0 (fun u => decide (u ∈ ss)) s0 z = false := e
        rw [this] at q
        refine iteNf rfl ?_
        exact q H1 sm1
      | some s1 =>
        obtain ⟨b, rfl, hb⟩ := ho
        have hd1 := rd_keep hd (sm1 sd)
        have : readIn ws w0 (fun u => decide (u ∈ ss)) s0 z = decide (s1 ∈ ss) := e
        rw [this] at q
        walk_at "go"
        refine iteNt (fun z => nomatch z) ?_
        walk_at "go"
        refine w_inD hd1 hb hk ?_
        exact q H1 sm1

theorem sc_can_read : FnScope ["windows", "word", "piece", "states", "state"] ["windows", "word", "piece", "states"] (defScope s_can_read) := ⟨rfl, rfl, rfl, by decide +kernel, rfl, by decide +kernel, by decide +kernel⟩
def sp_can_read : Sp := fun vs H Q _ => ∃ (wa sd : Addr) (ws : List T) (g : Nat) (w z : T) (kvs : List (List Key × V)) (ss : List S), vs = [.ref wa, sv w, sv z, .ref sd] ∧ H wa = some (.tup (ws.map sv)) ∧ Wd ws g ∧ w.length ≤ 60 ∧
  H sd = some (.dT kvs) ∧ kvs.map (·.1) = ss.map sk ∧ (∀ s ∈ ss, s.1.length ≤ 20 ∧ s.2 ≤ w.length) ∧ ss.length ≤ 2000 ∧ ∀ H', Same H H' → Q (.bl (ss.any fun s => readIn ws w (fun u => decide (u ∈ ss)) s z)) H'
theorem any_range {ss : List S} (f : S → Bool) : ((List.range ss.length).flatMap fun i => [V.bl ((ss[i]?).elim false f)]) = (ss.map f).map V.bl := by
  rw [flat_one (fun i => V.bl ((ss[i]?).elim false f))]
  apply List.ext_getElem
  · simp
  · intro i h1 h2
    simp only [List.length_map, List.length_range] at h1
    simp [h1]
theorem ok_can_read {P : Program} {w : World} {K : PySem.W.Frag} {mg : Str → Option Value} {base : Heap} (D : Df K mg "can_read" s_can_read) (U : Bu mg) (C_read_within : Cl P w K mg base "read_within" 3 ["windows", "word", "piece", "states", "state"] sp_read_within) : Cl P w K mg base "can_read" 4 ["windows", "word", "piece", "states"] sp_can_read := by
  refine D.cl sc_can_read (fun _ _ _ _ _ _ us hl => match us, hl with | [_, _, _, _], _ => rfl) (fun vs H Q E h => ?_) (fun cdv f A outer s H vs Q E hr h => ?_)
  · obtain ⟨wa, sd, ws, g, w0, z, kvs, ss, rfl, hw, wd, hw60, hd, hk, hss, hl, q⟩ := h
    rfl
  · obtain ⟨wa, sd, ws, g, w0, z, kvs, ss, rfl, hw, wd, hw60, hd, hk, hss, hl, q⟩ := h
    have hu := hu_of hr
    have hu9 := hu9_of hr
    have hu64 := hu64_of hr
    refine ⟨_, (pss_one (ps_ret (pe_callB (cr_any rfl) (by rfl) U.an (by decide +kernel) (pa_cons (pe_lock (pe_lc (own := [("state", 4)]) (g := (gName 4)) (tt := tYes) (by rfl) sc_can_read.nd (pi_keys (pv 3)) (blkOk_by (N := ["windows", "word", "piece", "states", "state"]) (sc := defScope s_can_read) (by decide +kernel)) (fun _ _ _ _ _ => (pg_name (i := 4) sc_can_read.nd rfl (Or.inl rfl))) (fun _ _ _ _ _ => pts_nil) (fun _ _ _ _ _ => (pcall C_read_within hr (pa_cons (pv 0) (pa_cons (pv 1) (pa_cons (pv 2) (pa_cons (pv 3) (pa_cons (pv 4) pa_nil))))))))) pa_nil)))), ?_⟩
    walk_at "go"
    refine ⟨sd, .dT kvs, hd, True.intro, fun od => ?_⟩
    walk_at "go"
    refine ⟨_, rfl, ?_⟩
    have hkl := keys_len hk
    have hwn : wa ≠ sd := ne_of hw hd (fun z => nomatch z)
    refine ⟨sd, od, rfl, .inr ⟨kvs, upd_same, ?_⟩⟩
    refine lc_K (fun i => [V.bl ((ss[i]?).elim false fun s => readIn ws w0 (fun u => decide (u ∈ ss)) s z)]) (fun _ _ => Nat.le_refl _) (by walk_at "sz") upd_same (fun i k v p H1 hi hp sm R hR => ?_) (fun l H1 hl1 sm h1 => ?_)
    · obtain ⟨s1, hs1, rfl⟩ : ∃ s1, ss[i]? = some s1 ∧ k = sk s1 := by
        have : (kvs.map (·.1))[i]? = some k := by rw [List.getElem?_map, hi]; rfl
        rw [hk, List.getElem?_map] at this
        obtain ⟨s1, h1, h2⟩ := Option.map_eq_some_iff.mp this
        exact ⟨s1, h1, h2.symm⟩
      walk_at "go"
      refine ⟨rfl, ?_⟩
      walk_at "go"
      refine iteT ?_
      walk_at "go"
      refine ⟨wa, sd, p, ws, g, w0, z, s1, kvs, ss, rfl, sm _ _ (by rw [upd_ne hwn]; exact hw), wd, hw60, .inr ⟨od, sm _ _ upd_same⟩, hk, hss, hp, fun H2 sm2 => ?_⟩
      have := hR H2 sm2
      rw [hs1] at this
      exact this
    · rw [hkl, any_range] at h1
      refine ⟨sm _ _ upd_same, ?_⟩
      have hls : l ≠ sd := fun e => by rw [e, upd_same] at hl1; cases hl1
      refine ⟨l, _, rfl, SqL.of (show upd H1 sd (.dT kvs) l = some (.lst ((ss.map fun s => readIn ws w0 (fun u => decide (u ∈ ss)) s z).map V.bl)) from ?_), ?_⟩
      · rw [upd_ne hls]; exact h1
      · have e : ((ss.map fun s => readIn ws w0 (fun u => decide (u ∈ ss)) s z).any id) = ss.any fun s => readIn ws w0 (fun u => decide (u ∈ ss)) s z := by rw [List.any_map]; rfl
        rw [e]
        refine q _ fun b o hb => ?_
        by_cases e : b = sd
        · subst e
          rw [upd_same, ← hb, hd]
        · rw [upd_ne e]
          exact sm _ _ (by rw [upd_ne e]; exact hb)

theorem sc_finished_from : FnScope ["ways", "start", "seen", "order", "stack", "top", "other"] ["ways", "start", "seen", "order"] (defScope s_finished_from) := ⟨rfl, rfl, rfl, by decide +kernel, rfl, by decide +kernel, by decide +kernel⟩
/-- the ways dict: for each state the list of its edges -/
abbrev WyR (H : Hp) (G : S → List (Nat × S)) : S → V → Prop := fun s v => ∃ l, v = .ref l ∧ EdL H l (G s)
theorem EdL.same {H H' : Hp} {l : Addr} {es : List (Nat × S)} (h : EdL H l es) (k : ∀ o, H l = some o → H' l = some o) (kp : Kp H H') : EdL H' l es := by
  obtain ⟨vs, h1, h2⟩ := h
  exact ⟨vs, k _ h1, EdsK h2 kp⟩
abbrev sucG (G : S → List (Nat × S)) (s : S) : List S := (G s).map (·.2)
/-- a frame: what stood stands, but at two places -/
def Fr2 (H H' : Hp) (x y : Addr) : Prop := ∀ b o, H b = some o → b ≠ x → b ≠ y → H' b = some o
/-- a graph of states: closed, not too large -/
structure Grf (N : List S) (G : S → List (Nat × S)) : Prop where
  cl : ∀ x ∈ N, ∀ y ∈ sucG G x, y ∈ N
  len : N.length ≤ 2000
  nd : N.Nodup
  deg : ∀ x ∈ N, (G x).length ≤ 100
def sp_finished_from : Sp := fun vs H Q _ => ∃ (wy a sn od : Addr) (kw ks : List (List Key × V)) (N : List S) (G : S → List (Nat × S)) (s : S) (seen : List S) (ob : List (Addr × S)), vs = [.ref wy, .ref a, .ref sn, .ref od] ∧
  Rd H wy (.dT kw) ∧ DcV (WyR H G) kw N ∧ Grf N G ∧ StA H a s ∧ s ∈ N ∧
  H sn = some (.dT ks) ∧ ks.map (·.1) = seen.map sk ∧ H od = some (.lst (rfs ob)) ∧ RfS H ob ∧ Dfs (sucG G) seen (ob.map (·.2)) [] ∧ (∀ x ∈ seen, x ∈ N) ∧ seen.Nodup ∧ s ∉ seen ∧ sn ≠ wy ∧
  (∀ x ∈ N, valV kw (sk x) ≠ some (.ref od)) ∧
  ∀ H' ks' seen' ob', H' sn = some (.dT ks') → ks'.map (·.1) = seen'.map sk → H' od = some (.lst (rfs ob')) → RfS H' ob' → Dfs (sucG G) seen' (ob'.map (·.2)) [] → (∀ x ∈ seen', x ∈ N) → seen'.Nodup → s ∈ seen' → (∀ x ∈ seen, x ∈ seen') → Fr2 H H' sn od → Q .non H'
/-- an entry of the stack: its list's place, the state's place, the state, the index -/
abbrev Ent := Addr × Addr × S × Nat
def Ent.pr (e : Ent) : S × Nat := (e.2.2.1, e.2.2.2)
/-- while it walks -/
structure FI (N : List S) (G : S → List (Nat × S)) (s0 : S) (seen0 : List S) (H H2 : Hp) (sn od kl : Addr) (es : List Ent) (seen : List S) (ks : List (List Key × V)) (ob : List (Addr × S)) : Prop where
  stk : H2 kl = some (.lst (es.map fun e => V.ref e.1))
  ent : ∀ e ∈ es, H2 e.1 = some (.lst [.ref e.2.1, iv e.2.2.2]) ∧ StA H2 e.2.1 e.2.2.1 ∧ H e.1 = none ∧ e.1 ≠ kl
  nd : (es.map (·.1)).Nodup
  sd : H2 sn = some (.dT ks)
  kk : ks.map (·.1) = seen.map sk
  ol : H2 od = some (.lst (rfs ob))
  os : RfS H2 ob
  dfs : Dfs (sucG G) seen (ob.map (·.2)) (es.map Ent.pr)
  sub : ∀ x ∈ seen, x ∈ N
  snd : seen.Nodup
  s0 : s0 ∈ seen
  old : ∀ x ∈ seen0, x ∈ seen
  fr : Fr2 H H2 sn od
section
variable {N : List S} {G : S → List (Nat × S)} {s0 : S} {seen0 : List S} {H H2 : Hp} {sn od kl : Addr} {es : List Ent} {seen : List S} {ks : List (List Key × V)} {ob : List (Addr × S)} {t b : Addr} {v : S} {i : Nat}
theorem FI.sz (h : FI N G s0 seen0 H H2 sn od kl es seen ks ob) (g : Grf N G) : ob.length + es.length ≤ 2000 ∧ ks.length ≤ 2000 := by
  have h1 := nodup_le h.dfs.nd (m := N) fun x hx => h.sub x ((h.dfs.sn x).mpr (List.mem_append.mp hx))
  rw [List.length_append, List.length_map, List.length_map, List.length_map] at h1
  have h2 := nodup_le h.snd h.sub
  have h3 := keys_len h.kk
  have := g.len
  omega
theorem FI.top (h : FI N G s0 seen0 H H2 sn od kl (es ++ [(t, b, v, i)]) seen ks ob) : H2 t = some (.lst [.ref b, iv i]) ∧ StA H2 b v ∧ H t = none ∧ t ≠ kl ∧ v ∈ N := by
  obtain ⟨h1, h2, h3, h4⟩ := h.ent (t, b, v, i) (by simp)
  exact ⟨h1, h2, h3, h4, h.sub v ((h.dfs.sn v).mpr (.inr (by simp [Ent.pr])))⟩
theorem FI.t_ne (h : FI N G s0 seen0 H H2 sn od kl (es ++ [(t, b, v, i)]) seen ks ob) : ∀ e ∈ es, e.1 ≠ t := fun e he q => by
  have := h.nd
  rw [List.map_append, List.nodup_append] at this
  exact this.2.2 e.1 (List.mem_map.mpr ⟨e, he, rfl⟩) t (by simp) q
/-- the top's index goes on -/
theorem FI.skip (h : FI N G s0 seen0 H H2 sn od kl (es ++ [(t, b, v, i)]) seen ks ob) (hod : H od ≠ none) {y : S} (hy : (sucG G v)[i]? = some y) (hn : y ∈ seen) :
    FI N G s0 seen0 H (upd H2 t (.lst [.ref b, iv (i + 1)])) sn od kl (es ++ [(t, b, v, i + 1)]) seen ks ob := by
  obtain ⟨t1, t2, t3, t4, t5⟩ := h.top
  have kp : Kp H2 (upd H2 t (.lst [.ref b, iv (i + 1)])) := Kp.lst t1
  have nsn : sn ≠ t := ne_of h.sd t1 (fun z => nomatch z)
  have nod : od ≠ t := fun e => hod (by rw [e]; exact t3)
  refine ⟨?_, ?_, ?_, ?_, h.kk, ?_, h.os.keep kp, ?_, h.sub, h.snd, h.s0, h.old, ?_⟩
  · rw [upd_ne t4.symm, h.stk]; simp
  · intro e he
    rcases List.mem_append.mp he with he | he
    · obtain ⟨e1, e2, e3, e4⟩ := h.ent e (List.mem_append_left _ he)
      exact ⟨by rw [upd_ne (h.t_ne e he)]; exact e1, e2.keep kp, e3, e4⟩
    · simp only [List.mem_singleton] at he
      subst he
      exact ⟨upd_same, t2.keep kp, t3, t4⟩
  · have := h.nd
    simpa using this
  · rw [upd_ne nsn]; exact h.sd
  · rw [upd_ne nod]; exact h.ol
  · have := h.dfs
    rw [List.map_append] at this ⊢
    exact Dfs.skip this hy hn
  · intro c o hc h1 h2
    rw [upd_ne (ne_of_none hc t3)]
    exact h.fr c o hc h1 h2
/-- a new state goes onto the stack -/
theorem FI.push (h : FI N G s0 seen0 H H2 sn od kl (es ++ [(t, b, v, i)]) seen ks ob) (hod : H od ≠ none) (hkl : H kl = none) {y : S} (hy : (sucG G v)[i]? = some y) (hn : y ∉ seen) (hyN : y ∈ N) {b' t' : Addr} {H5 : Hp} (hb' : StA H2 b' y)
    (ht' : upd (upd H2 t (.lst [.ref b, iv (i + 1)])) sn (.dT (putK ks (sk y) (.bl true))) t' = none) (sm : Same (upd (upd H2 t (.lst [.ref b, iv (i + 1)])) sn (.dT (putK ks (sk y) (.bl true)))) H5) (h5 : H5 t' = some (.lst [.ref b', iv 0])) :
    FI N G s0 seen0 H (upd H5 kl (.lst ((es ++ [(t, b, v, i)]).map (fun e => V.ref e.1) ++ [.ref t']))) sn od kl (es ++ [(t, b, v, i + 1), (t', b', y, 0)]) (seen ++ [y]) (putK ks (sk y) (.bl true)) ob := by
  obtain ⟨t1, t2, t3, t4, t5⟩ := h.top
  have nsn : t ≠ sn := ne_of t1 h.sd (fun z => nomatch z)
  have nod : od ≠ t := fun e => hod (by rw [e]; exact t3)
  have nkod : od ≠ kl := fun e => hod (by rw [e]; exact hkl)
  have nksn : sn ≠ kl := ne_of h.sd h.stk (fun z => nomatch z)
  have nodsn : od ≠ sn := ne_of h.ol h.sd (fun z => nomatch z)
  -- what H2 held elsewhere stands
  have kk : ∀ c o, H2 c = some o → c ≠ t → c ≠ sn → c ≠ kl → upd H5 kl (.lst ((es ++ [(t, b, v, i)]).map (fun e => V.ref e.1) ++ [.ref t'])) c = some o := by
    intro c o hc h1 h2 h3
    rw [upd_ne h3]
    exact sm _ _ (by rw [upd_ne h2, upd_ne h1]; exact hc)
  have ktup : Kp H2 (upd H5 kl (.lst ((es ++ [(t, b, v, i)]).map (fun e => V.ref e.1) ++ [.ref t']))) := fun c xs hc => kk c _ hc (ne_of hc t1 (fun z => nomatch z)) (ne_of hc h.sd (fun z => nomatch z)) (ne_of hc h.stk (fun z => nomatch z))
  have ht2 : H2 t' = none := by
    have := ht'
    cases q : H2 t' with
    | none => rfl
    | some o =>
      by_cases e1 : t' = sn
      · rw [e1, upd_same] at this; cases this
      · rw [upd_ne e1] at this
        by_cases e2 : t' = t
        · rw [e2, upd_same] at this; cases this
        · rw [upd_ne e2, q] at this; cases this
  have ntk : t' ≠ kl := fun e => by rw [e, h.stk] at ht2; cases ht2
  have htH : H t' = none := by
    cases q : H t' with
    | none => rfl
    | some o =>
      by_cases e1 : t' = sn
      · rw [e1, h.sd] at ht2; cases ht2
      · by_cases e2 : t' = od
        · rw [e2, h.ol] at ht2; cases ht2
        · rw [h.fr _ _ q e1 e2] at ht2; cases ht2
  refine ⟨?_, ?_, ?_, ?_, ?_, ?_, h.os.keep ktup, ?_, ?_, nd_snoc h.snd hn, List.mem_append_left _ h.s0, fun x hx => List.mem_append_left _ (h.old x hx), ?_⟩
  · rw [upd_same]; simp
  · intro e he
    rcases List.mem_append.mp he with he | he
    · obtain ⟨e1, e2, e3, e4⟩ := h.ent e (List.mem_append_left _ he)
      exact ⟨kk _ _ e1 (h.t_ne e he) (ne_of e1 h.sd (fun z => nomatch z)) e4, e2.keep ktup, e3, e4⟩
    · simp only [List.mem_cons, List.not_mem_nil, or_false] at he
      rcases he with rfl | rfl
      · refine ⟨?_, t2.keep ktup, t3, t4⟩
        rw [upd_ne t4]
        exact sm _ _ (by rw [upd_ne nsn, upd_same])
      · exact ⟨by rw [upd_ne ntk]; exact h5, hb'.keep ktup, htH, ntk⟩
  · have h1 := h.nd
    have e : (es ++ [(t, b, v, i + 1), (t', b', y, 0)]).map (·.1) = (es ++ [(t, b, v, i)]).map (·.1) ++ [t'] := by simp
    rw [e, List.nodup_append]
    refine ⟨h1, by simp, fun x hx z hz q => ?_⟩
    simp only [List.mem_singleton] at hz
    subst hz q
    obtain ⟨e0, he0, rfl⟩ := List.mem_map.mp hx
    rw [(h.ent e0 he0).1] at ht2
    cases ht2
  · rw [upd_ne nksn]
    exact sm _ _ upd_same
  · exact putK_keys h.kk hn
  · exact kk _ _ h.ol nod nodsn nkod
  · have := h.dfs
    rw [List.map_append] at this ⊢
    exact Dfs.push this hy hn
  · intro x hx
    rcases List.mem_append.mp hx with hx | hx
    · exact h.sub x hx
    · simp only [List.mem_singleton] at hx; subst hx; exact hyN
  · intro c o hc h1 h2
    exact kk c o (h.fr c o hc h1 h2) (ne_of_none hc t3) h1 (ne_of_none hc hkl)
/-- the top is done -/
theorem FI.pop (h : FI N G s0 seen0 H H2 sn od kl (es ++ [(t, b, v, i)]) seen ks ob) (hod : H od ≠ none) (hkl : H kl = none) (hi : (sucG G v).length ≤ i) :
    FI N G s0 seen0 H (upd (upd H2 od (.lst (rfs ob ++ [.ref b]))) kl (.lst (es.map fun e => V.ref e.1))) sn od kl es seen ks (ob ++ [(b, v)]) := by
  obtain ⟨t1, t2, t3, t4, t5⟩ := h.top
  have nkod : od ≠ kl := fun e => hod (by rw [e]; exact hkl)
  have nksn : sn ≠ kl := ne_of h.sd h.stk (fun z => nomatch z)
  have nodsn : sn ≠ od := ne_of h.sd h.ol (fun z => nomatch z)
  have kk : ∀ c o, H2 c = some o → c ≠ od → c ≠ kl → upd (upd H2 od (.lst (rfs ob ++ [.ref b]))) kl (.lst (es.map fun e => V.ref e.1)) c = some o := by
    intro c o hc h1 h2
    rw [upd_ne h2, upd_ne h1]
    exact hc
  have ktup : Kp H2 (upd (upd H2 od (.lst (rfs ob ++ [.ref b]))) kl (.lst (es.map fun e => V.ref e.1))) := fun c xs hc => kk c _ hc (ne_of hc h.ol (fun z => nomatch z)) (ne_of hc h.stk (fun z => nomatch z))
  refine ⟨upd_same, ?_, ?_, kk _ _ h.sd nodsn nksn, h.kk, ?_, ?_, ?_, h.sub, h.snd, h.s0, h.old, ?_⟩
  · intro e he
    obtain ⟨e1, e2, e3, e4⟩ := h.ent e (List.mem_append_left _ he)
    refine ⟨kk _ _ e1 (fun q => ?_) e4, e2.keep ktup, e3, e4⟩
    exact hod (by rw [← q]; exact e3)
  · have := h.nd
    rw [List.map_append, List.nodup_append] at this
    exact this.1
  · rw [upd_ne nkod, upd_same]
    show some (HO.lst _) = some (HO.lst ((ob ++ [(b, v)]).map fun b => V.ref b.1))
    rw [List.map_append]
    rfl
  · intro x hx
    rcases List.mem_append.mp hx with hx | hx
    · exact (h.os x hx).keep ktup
    · simp only [List.mem_singleton] at hx; subst hx; exact t2.keep ktup
  · have := h.dfs
    rw [List.map_append] at this
    have d := Dfs.pop this hi
    rw [List.map_append]
    exact d
  · intro c o hc h1 h2
    exact kk c o (h.fr c o hc h1 h2) h2 (ne_of_none hc hkl)
end
theorem ok_finished_from {P : Program} {w : World} {K : PySem.W.Frag} {mg : Str → Option Value} {base : Heap} (D : Df K mg "finished_from" s_finished_from) (U : Bu mg) : Cl P w K mg base "finished_from" 1 ["ways", "start", "seen", "order"] sp_finished_from := by
  refine D.cl sc_finished_from (fun _ _ _ _ _ _ us hl => match us, hl with | [_, _, _, _], _ => rfl) (fun vs H Q E h => ?_) (fun cdv f A outer s H vs Q E hr h => ?_)
  · obtain ⟨wy, a, sn, od, kw, ks, N, G, s0, seen, ob, rfl, hwy, hDc, gf, ha, hsN, hsn, hks, hod, hob, dfs, hse, hsnd, hns, hswy, hlod, q⟩ := h
    rfl
  · obtain ⟨wy, a, sn, od, kw, ks, N, G, s0, seen, ob, rfl, hwy, hDc, gf, ha, hsN, hsn, hks, hod, hob, dfs, hse, hsnd, hns, hswy, hlod, q⟩ := h
    have hu := hu_of hr
    have hu9 := hu9_of hr
    have hu64 := hu64_of hr
    refine ⟨_, (pss_cons (ps_dput hu (pv 2) (pv 1) pe_bl rfl)
 (pss_cons (ps_set (i := 4) sc_finished_from.nd rfl (Or.inl rfl) (pe_lst (pa_cons (pe_lst (pa_cons (pv 1) (pa_cons pe_int pa_nil))) pa_nil)))
 (pss_one (ps_while PassesOwn.never (pt_cmpR op_gt (pe_callB (len_seq (K := K) rfl) (by rfl) U.len (by decide +kernel) (pa_cons (pv 4) pa_nil)) pe_int (nomark _)) (pss_cons (ps_set (i := 5) sc_finished_from.nd rfl (Or.inl rfl) (pe_ix ix_list (pv 4) (pe_un un_neg pe_int) (fun _ _ => rfl)))
 (pss_one (ps_if (pt_cmpR op_lt (pe_ix ix_list (pv 5) pe_int (fun _ _ => rfl)) (pe_callB (len_seq (K := K) rfl) (by rfl) U.len (by decide +kernel) (pa_cons (pe_dget hu (pv 0) (pe_ix ix_list (pv 5) pe_int (fun _ _ => rfl)) (fun _ _ => rfl)) pa_nil)) (nomark _)) (pss_cons (ps_set (i := 6) sc_finished_from.nd rfl (Or.inl rfl) (pe_ix ix_tup (pe_ix ix_list (pe_dget hu (pv 0) (pe_ix ix_list (pv 5) pe_int (fun _ _ => rfl)) (fun _ _ => rfl)) (pe_ix ix_list (pv 5) pe_int (fun _ _ => rfl)) (fun _ _ => rfl)) pe_int (fun _ _ => rfl)))
 (pss_cons (ps_asg (pe_op op_add (pe_ix ix_list (pv 5) pe_int (fun _ _ => rfl)) pe_int) (pg_sub (pv 5) pe_int set_list))
 (pss_one (ps_if (pt_cmp (pc_dnotin hu (pv 6) (pv 2)) (by rfl)) (pss_cons (ps_dput hu (pv 2) (pv 6) pe_bl rfl)
 (pss_one (ps_expr (pe_bm PySem.F.plainAttrs_list PySem.F.slot_list_append PySem.F.type_list_append mt_append (pv 4) (pa_cons (pe_lst (pa_cons (pv 6) (pa_cons pe_int pa_nil))) pa_nil))))) pss_nil)))) (pss_cons (ps_expr (pe_bm PySem.F.plainAttrs_list PySem.F.slot_list_append PySem.F.type_list_append mt_append (pv 3) (pa_cons (pe_ix ix_list (pv 5) pe_int (fun _ _ => rfl)) pa_nil)))
 (pss_one (ps_expr (pe_bm0 PySem.F.plainAttrs_list PySem.F.slot_list_pop PySem.F.type_list_pop mt_pop (pv 4)))))))))))), ?_⟩
    have hl0 := keys_len hks
    have hl1 := nodup_le hsnd hse
    have hl2 := gf.len
    walk_at "go"
    refine w_putD hsn ha (by walk_at "sz") ?_
    walk_at "go"
    intro t0 H1 ht0 sm1 h1t
    walk_at "go"
    intro kl H2 hkl1 sm2 h2k
    walk_at "go"
    have hHu : ∀ {c : Addr}, upd H sn (.dT (putK ks (sk s0) (.bl true))) c = none → H c = none := fun {c} e => by
      by_cases e1 : c = sn
      · rw [e1, upd_same] at e; cases e
      · rwa [upd_ne e1] at e
    have htH : H t0 = none := hHu ht0
    have hkH : H kl = none := hHu (sm1.free hkl1)
    have hodN : H od ≠ none := by rw [hod]; exact fun z => nomatch z
    have h2t := sm2 _ _ h1t
    have ntk : t0 ≠ kl := fun e => by rw [e, hkl1] at h1t; cases h1t
    have nods : od ≠ sn := ne_of hod hsn (fun z => nomatch z)
    have fr0 : Fr2 H H2 sn od := fun c o hc h1 h2 => sm2 _ _ (sm1 _ _ (by rw [upd_ne h1]; exact hc))
    have kp0 : Kp H H2 := fun c xs hc => fr0 c _ hc (ne_of hc hsn (fun z => nomatch z)) (ne_of hc hod (fun z => nomatch z))
    have fi0 : FI N G s0 seen H H2 sn od kl [(t0, a, s0, 0)] (seen ++ [s0]) (putK ks (sk s0) (.bl true)) ob := by
      refine ⟨h2k, ?_, by simp, ?_, putK_keys hks hns, ?_, hob.keep kp0, ?_, ?_, nd_snoc hsnd hns, by simp, fun x hx => List.mem_append_left _ hx, fr0⟩
      · intro e he
        simp only [List.mem_singleton] at he
        subst he
        exact ⟨h2t, ha.keep kp0, htH, ntk⟩
      · exact sm2 _ _ (sm1 _ _ upd_same)
      · exact sm2 _ _ (sm1 _ _ (by rw [upd_ne nods]; exact hod))
      · exact Dfs.root dfs hns
      · intro x hx
        rcases List.mem_append.mp hx with hx | hx
        · exact hse x hx
        · simp only [List.mem_singleton] at hx; subst hx; exact hsN
    refine ⟨fun m σ H3 => ∃ es seen' ks' ob' v5 v6, σ = [some (.ref wy), some (.ref a), some (.ref sn), some (.ref od), some (.ref kl), v5, v6] ∧ FI N G s0 seen H H3 sn od kl es seen' ks' ob' ∧ m = mu (sucG G) N seen' (es.map Ent.pr), ⟨_, _, _, _, _, none, none, rfl, fi0, rfl⟩, ?_⟩
    rintro m σ H3 ⟨es, seen', ks', ob', v5, v6, rfl, fi, hm⟩
    obtain ⟨hz1, hz2⟩ := fi.sz gf
    have hstk := fi.stk
    walk_at "go"
    rcases List.eq_nil_or_concat es with rfl | ⟨es1, e, rfl⟩
    · refine iteDf (by simp) ?_
      exact q H3 ks' seen' ob' fi.sd fi.kk fi.ol fi.os fi.dfs fi.sub fi.snd fi.s0 fi.old fi.fr
    · obtain ⟨t, b, v, i⟩ := e
      rw [List.concat_eq_append] at *
      refine iteDt (by simp) ?_
      obtain ⟨t1, t2, t3, t4, t5⟩ := fi.top
      obtain ⟨lv, hlv, l, rfl, vs, hls, hpr⟩ := hDc.get t5
      have hlod2 : l ≠ od := fun e => hlod v t5 (by rw [hlv, e])
      have hlsn : l ≠ sn := ne_of hls hsn (fun z => nomatch z)
      have hls3 := fi.fr _ _ hls hlsn hlod2
      have hwy3 : Rd H3 wy (.dT kw) := rd_keep hwy fun o ho => by
        refine fi.fr _ _ ho (fun e => hswy e.symm) (fun e => ?_)
        rw [e] at ho
        rcases hwy with h | ⟨ob, h⟩
        · rw [e, hod] at h; cases h
        · rw [e, hod] at h; cases h
      have hvl : vs.length = (G v).length := Paired.length hpr
      have hdg := gf.deg v t5
      refine ⟨fun σ' H' => ∃ m', m' < m ∧ ∃ es seen' ks' ob' v5 v6, σ' = [some (.ref wy), some (.ref a), some (.ref sn), some (.ref od), some (.ref kl), v5, v6] ∧ FI N G s0 seen H H' sn od kl es seen' ks' ob' ∧ m' = mu (sucG G) N seen' (es.map Ent.pr), fun σ' H' h => h, ?_⟩
      walk_at "go"
      refine w_ixL hstk (by rw [List.map_append]; exact atI_last _ _) ?_
      walk_at "go"
      refine w_ixL t1 rfl ?_
      walk_at "go"
      refine w_ixL t1 rfl ?_
      refine w_getD hwy3 t2 hlv ?_
      walk_at "go"
      refine iteD (fun hlt => ?_) (fun hlt => ?_)
      · -- an edge more
        have hi : i < (G v).length := by omega
        obtain ⟨ev, hev⟩ : ∃ ev, vs[i]? = some ev := ⟨_, List.getElem?_eq_getElem (by omega)⟩
        obtain ⟨ed, hed, pe, be, rfl, hpe, hbe⟩ := paired_get hpr hev
        have hy : (sucG G v)[i]? = some ed.2 := by
          show ((G v).map (·.2))[i]? = some ed.2
          rw [List.getElem?_map, hed]; rfl
        have hyN : ed.2 ∈ N := gf.cl v t5 _ (List.mem_of_getElem? hy)
        have kp3 : Kp H H3 := fun c xs hc => fi.fr c _ hc (ne_of hc hsn (fun z => nomatch z)) (ne_of hc hod (fun z => nomatch z))
        have hpe3 := kp3 _ _ hpe
        have hbe3 : StA H3 be ed.2 := hbe.keep kp3
        walk_at "go"
        refine w_ixL t1 rfl ?_
        refine w_getD hwy3 t2 hlv ?_
        walk_at "go"
        refine w_ixL t1 rfl ?_
        refine w_ixL hls3 (atI_nat hev) ?_
        walk_at "go"
        refine w_ixU hpe3 rfl ?_
        walk_at "go"
        refine w_ixL t1 rfl ?_
        walk_at "go"
        refine ⟨_, rfl, t, _, 1, 1, rfl, rfl, t1, rfl, ?_⟩
        have ei : (V.int ((i : Int) + 1)) = iv (i + 1) := by show V.int _ = V.int _; congr 1
        have el : ([V.ref b, iv i].set 1 (V.int ((i : Int) + 1))) = [V.ref b, iv (i + 1)] := by rw [ei]; rfl
        rw [el]
        have kpt : Kp H3 (upd H3 t (.lst [.ref b, iv (i + 1)])) := Kp.lst t1
        have hsd4 : upd H3 t (.lst [.ref b, iv (i + 1)]) sn = some (.dT ks') := by rw [upd_ne (ne_of fi.sd t1 (fun z => nomatch z))]; exact fi.sd
        walk_at "go"
        refine w_inD (.inl hsd4) (hbe3.keep kpt) fi.kk ?_
        walk_at "go"
        refine iteN (fun hns2 => ?_) (fun hin2 => ?_)
        · walk_at "go"
          refine w_putD hsd4 (hbe3.keep kpt) (by walk_at "sz") ?_
          have hstk5 : upd (upd H3 t (.lst [.ref b, iv (i + 1)])) sn (.dT (putK ks' (sk ed.2) (.bl true))) kl = some (.lst ((es1 ++ [(t, b, v, i)]).map fun e => V.ref e.1)) := by
            rw [upd_ne (ne_of hstk fi.sd (fun z => nomatch z)), upd_ne t4.symm]; exact hstk
          walk_at "go"
          intro t' H5 ht' sm5 h5t
          have hstk6 := sm5 _ _ hstk5
          walk_at "go"
          have hstl : ((es1 ++ [(t, b, v, i)]).map fun e => V.ref e.1).length < sizeLine := by rw [List.length_map, sizeLine_eq]; omega
          refine w_append hstk6 hstl ?_
          refine ⟨_, ?_, _, _, _, _, _, _, rfl, fi.push hodN hkH hy hns2 hyN hbe3 ht' sm5 h5t, rfl⟩
          rw [hm, List.map_append, List.map_append]
          exact mu_push hyN hy hns2
        · walk_at "go"
          refine ⟨_, ?_, _, _, _, _, _, _, rfl, fi.skip hodN hy (by simpa using hin2), rfl⟩
          rw [hm, List.map_append, List.map_append]
          exact mu_skip hy
      · have hi : (sucG G v).length ≤ i := by
          show ((G v).map (·.2)).length ≤ i
          rw [List.length_map]; omega
        have hol := fi.ol
        have hobl : (rfs ob').length < sizeLine := by rw [List.length_map, sizeLine_eq]; omega
        walk_at "go"
        refine w_ixL t1 rfl ?_
        walk_at "go"
        have nkod : kl ≠ od := fun e => hodN (by rw [← e]; exact hkH)
        have hstk5 : upd H3 od (.lst (rfs ob' ++ [V.ref b])) kl = some (.lst ((es1 ++ [(t, b, v, i)]).map fun e => V.ref e.1)) := by rw [upd_ne nkod]; exact hstk
        walk_at "go"
        refine ⟨kl, _, .ref t, rfl, rfl, hstk5, by simp, ?_⟩
        refine ⟨_, ?_, es1, seen', ks', ob' ++ [(b, v)], _, _, rfl, ?_, rfl⟩
        · rw [hm, List.map_append]
          exact mu_pop
        · have := fi.pop hodN hkH hi
          have e : (((es1 ++ [(t, b, v, i)]).map fun e => V.ref e.1).dropLast) = es1.map fun e => V.ref e.1 := by rw [List.map_append]; simp
          rw [e]
          exact this

theorem sc_turned_around : FnScope ["ways", "back", "state", "letter", "other"] ["ways"] (defScope s_turned_around) := ⟨rfl, rfl, rfl, by decide +kernel, rfl, by decide +kernel, by decide +kernel⟩
/-- y's list: the states from which a way leads to y -/
def BkR (H : Hp) (N : List S) (G : S → List (Nat × S)) (y : S) (v : V) : Prop := ∃ l bs, v = .ref l ∧ H l = some (.lst (rfs bs)) ∧ RfS H bs ∧ (∀ x, x ∈ bs.map (·.2) ↔ x ∈ N ∧ y ∈ sucG G x) ∧ bs.length ≤ 200000
def sp_turned_around : Sp := fun vs H Q _ => ∃ (wy : Addr) (kw : List (List Key × V)) (N : List S) (G : S → List (Nat × S)), vs = [.ref wy] ∧
  H wy = some (.dT kw) ∧ DcV (WyR H G) kw N ∧ Grf N G ∧ ∀ r kb H', H r = none → Same H H' → H' r = some (.dT kb) → DcV (BkR H' N G) kb N → Q (.ref r) H'
/-- while the lists are made -/
structure BkI (H H3 : Hp) (bk : Addr) (kb : List (List Key × V)) (ss : List S) (F : S → List (Addr × S)) : Prop where
  h : H3 bk = some (.dT kb)
  n : H bk = none
  dc : DcV (fun s v => ∃ l, v = .ref l ∧ H l = none ∧ H3 l = some (.lst (rfs (F s)))) kb ss
  inj : ∀ s ∈ ss, ∀ t ∈ ss, valV kb (sk s) = valV kb (sk t) → s = t
section
variable {H H3 H4 : Hp} {bk l q : Addr} {kb : List (List Key × V)} {ss : List S} {F : S → List (Addr × S)} {s y s0 : S}
theorem BkI.same (b : BkI H H3 bk kb ss F) (sm : Same H3 H4) : BkI H H4 bk kb ss F := ⟨sm _ _ b.h, b.n, b.dc.mono fun s v _ _ ⟨l, h1, h2, h3⟩ => ⟨l, h1, h2, sm _ _ h3⟩, b.inj⟩
theorem BkI.sx {d : Addr} (b : BkI H H3 bk kb ss F) (k : Sx H3 H4 d) (hd : H d ≠ none) : BkI H H4 bk kb ss F := ⟨k _ _ b.h (fun e => hd (e ▸ b.n)), b.n, b.dc.mono fun s v _ _ ⟨l, h1, h2, h3⟩ => ⟨l, h1, h2, k _ _ h3 fun e => hd (e ▸ h2)⟩, b.inj⟩
theorem BkI.new (b : BkI H H3 bk kb ss F) (hs : s ∉ ss) (hF : F s = []) (hl : H3 l = none) (hl0 : H l = none) (sm : Same H3 H4) (h4 : H4 l = some (.lst [])) : BkI H (upd H4 bk (.dT (putK kb (sk s) (.ref l)))) bk (putK kb (sk s) (.ref l)) (ss ++ [s]) F := by
  have b4 := b.same sm
  refine ⟨upd_same, b.n, DcV.add (b4.dc.mono fun t v ht _ ⟨m, h1, h2, h3⟩ => ⟨m, h1, h2, ?_⟩) hs ⟨l, rfl, hl0, ?_⟩, ?_⟩
  · rw [upd_ne (ne_of h3 b4.h fun z => nomatch z)]; exact h3
  · rw [upd_ne (ne_of h4 b4.h fun z => nomatch z), hF]; exact h4
  · intro t ht u hu e
    rw [val_sk_put, val_sk_put] at e
    have old : ∀ t ∈ ss, valV kb (sk t) ≠ some (.ref l) := fun t ht e => by
      obtain ⟨v, h1, m, rfl, h2, h3⟩ := b.dc.get ht
      rw [h1] at e
      obtain rfl : m = l := by injection e with e; injection e
      rw [hl] at h3; cases h3
    have cs : ∀ t, t ∈ ss ++ [s] → t = s ∨ t ∈ ss ∧ t ≠ s := fun t ht => by
      rcases List.mem_append.mp ht with q | q
      · exact .inr ⟨q, fun z => hs (z ▸ q)⟩
      · exact .inl (by simpa using q)
    rcases cs t ht with rfl | ⟨ht1, n1⟩ <;> rcases cs u hu with rfl | ⟨hu1, n2⟩
    · rfl
    · rw [if_pos rfl, if_neg n2] at e; exact absurd e.symm (old u hu1)
    · rw [if_pos rfl, if_neg n1] at e; exact absurd e (old t ht1)
    · rw [if_neg n1, if_neg n2] at e; exact b.inj t ht1 u hu1 e
theorem BkI.app (b : BkI H H3 bk kb ss F) (hy : y ∈ ss) (hv : valV kb (sk y) = some (.ref l)) : H3 l = some (.lst (rfs (F y))) ∧ H l = none ∧ BkI H (upd H3 l (.lst (rfs (F y) ++ [.ref q]))) bk kb ss (fun s => if s = y then F y ++ [(q, s0)] else F s) := by
  obtain ⟨v, h1, m, rfl, h2, h3⟩ := b.dc.get hy
  rw [h1] at hv
  obtain rfl : m = l := by injection hv with e; injection e
  refine ⟨h3, h2, ?_, b.n, b.dc.mono fun t v ht hv ⟨m', e1, e2, e3⟩ => ⟨m', e1, e2, ?_⟩, b.inj⟩
  · rw [upd_ne (ne_of b.h h3 fun z => nomatch z)]; exact b.h
  · by_cases e : t = y
    · subst e
      rw [h1] at hv
      obtain rfl : m = m' := by injection hv with e; subst e1; injection e
      rw [upd_same, if_pos rfl]
      show some (HO.lst _) = some (HO.lst ((F t ++ [(q, s0)]).map fun b => V.ref b.1))
      rw [List.map_append]; rfl
    · rw [if_neg e, upd_ne (fun z => e (b.inj t ht y hy (by rw [hv, h1, e1, z])))]
      exact e3
end
theorem ok_turned_around {P : Program} {w : World} {K : PySem.W.Frag} {mg : Str → Option Value} {base : Heap} (D : Df K mg "turned_around" s_turned_around) (U : Bu mg) : Cl P w K mg base "turned_around" 1 ["ways"] sp_turned_around := by
  refine D.cl sc_turned_around (fun _ _ _ _ _ _ us hl => match us, hl with | [_], _ => rfl) (fun vs H Q E h => ?_) (fun cdv f A outer s H vs Q E hr h => ?_)
  · obtain ⟨wy, kw, N, G, rfl, hwy, hDc, gf, q⟩ := h
    rfl
  · obtain ⟨wy, kw, N, G, rfl, hwy, hDc, gf, q⟩ := h
    have hu := hu_of hr
    have hu9 := hu9_of hr
    have hu64 := hu64_of hr
    refine ⟨_, (pss_cons (ps_set (i := 1) sc_turned_around.nd rfl (Or.inl rfl) pe_dnewT)
 (pss_cons (ps_lock (ps_for PassesOwn.never rfl (pi_keys (pv 0)) (pg_name (i := 2) sc_turned_around.nd rfl (Or.inl rfl)) (pss_one (ps_dput hu (pv 1) (pv 2) (pe_lst pa_nil) rfl))))
 (pss_cons (ps_lock (ps_for PassesOwn.never rfl (pi_keys (pv 0)) (pg_name (i := 2) sc_turned_around.nd rfl (Or.inl rfl)) (pss_one (ps_for PassesOwn.never rfl (pi_list (pe_dget hu (pv 0) (pv 2) (fun _ _ => rfl))) (pg_tup (by rfl) (pgs_cons (pg_name (i := 3) sc_turned_around.nd rfl (Or.inl rfl)) (pgs_cons (pg_name (i := 4) sc_turned_around.nd rfl (Or.inl rfl)) pgs_nil))) (pss_one (ps_expr (pe_bm PySem.F.plainAttrs_list PySem.F.slot_list_append PySem.F.type_list_append mt_append (pe_dget hu (pv 1) (pv 4) (fun _ _ => rfl)) (pa_cons (pv 2) pa_nil))))))))
 (pss_one (ps_ret (pv 1)))))), ?_⟩
    have hN := gf.len
    have hkl := hDc.len
    walk_at "gx"
    intro bk H1 hbk sm1 h1
    walk_at "gx"
    have hwn : bk ≠ wy := fun e => by rw [e, hwy] at hbk; cases hbk
    have hwy1 := sm1 _ _ hwy
    refine ⟨wy, .dT kw, hwy1, True.intro, fun od => ?_⟩
    walk_at "gx"
    refine w_keysV (by rfl) upd_same ?_
    refine w_forK (fun i σ H3 => ∃ v2 kb, σ = [some (.ref wy), some (.ref bk), v2, none, none] ∧ Sx H H3 wy ∧ H3 wy = some (.frz od (.dT kw)) ∧ BkI H H3 bk kb (N.take i) (fun _ => [])) ⟨none, [], rfl, ?_, upd_same, ?_, hbk, DcV.nil, fun _ h => by simp at h⟩ (fun i σ H3 _ ⟨_, _, _, _, h, _⟩ => h) ?_ ?_
    · exact fun b o hb e => by rw [upd_ne e]; exact sm1 _ _ hb
    · rw [upd_ne hwn]; exact h1
    · rintro i k v p σ H3 hi hp ⟨v2, kb, rfl, sx, hz, bi⟩
      obtain ⟨s1, hs1, rfl⟩ := key_nth hDc.keys hi
      have hp : StA H3 p s1 := hp
      have hbh := bi.h
      have hkbl : kb.length < sizeLine := by
        have := bi.dc.len
        rw [List.length_take] at this
        rw [sizeLine_eq]; omega
      walk_at "gx"
      intro l H4 hl sm4 h4
      walk_at "gx"
      have hbh4 := sm4 _ _ hbh
      have hp4 : StA H4 p s1 := hp.keep (sm_kp sm4)
      walk_at "gx"
      have hni : s1 ∉ N.take i := fun hm => by
        obtain ⟨j, hj, e⟩ := List.getElem_of_mem hm
        rw [List.length_take] at hj
        have h1 : N[j]? = some s1 := by rw [← e, List.getElem_take]; exact List.getElem?_eq_getElem (by omega)
        obtain ⟨hi2, e2⟩ := List.getElem?_eq_some_iff.mp hs1
        obtain ⟨hj2, e3⟩ := List.getElem?_eq_some_iff.mp h1
        have := (List.getElem_inj gf.nd).mp (e2.trans e3.symm)
        omega
      have ht : N.take (i + 1) = N.take i ++ [s1] := by rw [List.take_add_one, hs1]; rfl
      refine ⟨_, putK kb (sk s1) (.ref l), rfl, (sx.then sm4).upd hbk, ?_, ?_⟩
      · rw [upd_ne hwn.symm]; exact sm4 _ _ hz
      · rw [ht]
        exact bi.new hni rfl hl (sx.free hz hl) sm4 h4
    · rintro σ H3 ⟨v2, kb, rfl, sx, hz, bi⟩
      rw [hkl, List.take_length] at bi
      refine ⟨hz, ?_⟩
      walk_at "gx"
      have smA : Same H (upd H3 wy (.dT kw)) := unlock hwy sx
      have sx2 : ∀ od, Sx H (upd (upd H3 wy (.dT kw)) wy (.frz od (.dT kw))) wy := fun od b o hb e => by rw [upd_ne e, upd_ne e]; exact sx _ _ hb e
      refine ⟨wy, .dT kw, upd_same, True.intro, fun od => ?_⟩
      walk_at "gx"
      refine w_keysV (by rfl) upd_same ?_
      have bi5 : BkI H (upd (upd H3 wy (.dT kw)) wy (.frz od (.dT kw))) bk kb N (fun _ => []) := bi.sx (d := wy) (fun b o hb e => by rw [upd_ne e, upd_ne e]; exact hb) (by rw [hwy]; exact fun z => nomatch z)
      refine w_forK (fun i σ H6 => ∃ v2 v3 v4 F, σ = [some (.ref wy), some (.ref bk), v2, v3, v4] ∧ Sx H H6 wy ∧ H6 wy = some (.frz od (.dT kw)) ∧ BkI H H6 bk kb N F ∧ (∀ y ∈ N, RfS H6 (F y) ∧ (∀ x, x ∈ (F y).map (·.2) ↔ x ∈ N.take i ∧ y ∈ sucG G x) ∧ (F y).length ≤ 100 * i)) ⟨v2, none, none, _, rfl, sx2 od, upd_same, bi5, fun y _ => ⟨fun _ h => (by cases h), fun x => by simp, Nat.zero_le _⟩⟩ (fun i σ H3 _ ⟨_, _, _, _, _, _, h, _⟩ => h) ?_ ?_
      · rintro i k v p σ H6 hi hp ⟨v2, v3, v4, F, rfl, sx6, hz6, bi6, hF6⟩
        obtain ⟨s1, hs1, rfl⟩ := key_nth hDc.keys hi
        have hp : StA H6 p s1 := hp
        have hwyR : Rd H6 wy (.dT kw) := .inr ⟨od, hz6⟩
        have hs1N : s1 ∈ N := List.mem_of_getElem? hs1
        have hi2000 : i < N.length := (List.getElem?_eq_some_iff.mp hs1).1
        obtain ⟨lv, hlv, l, rfl, vs, hls, hpr⟩ := hDc.get hs1N
        have hlw : l ≠ wy := ne_of hls hwy fun z => nomatch z
        have hls6 := sx6 _ _ hls hlw
        have hdg := gf.deg s1 hs1N
        have hvl : vs.length = (G s1).length := Paired.length hpr
        walk_at "gx"
        refine w_forL (xs := vs) (fun j σ H7 => ∃ v3 v4 F, σ = [some (.ref wy), some (.ref bk), some (.ref p), v3, v4] ∧ Sx H H7 wy ∧ H7 wy = some (.frz od (.dT kw)) ∧ StA H7 p s1 ∧ BkI H H7 bk kb N F ∧ (∀ y ∈ N, RfS H7 (F y) ∧ (∀ x, x ∈ (F y).map (·.2) ↔ (x ∈ N.take i ∧ y ∈ sucG G x) ∨ (x = s1 ∧ y ∈ (sucG G s1).take j)) ∧ (F y).length ≤ 100 * i + j)) ⟨v3, v4, F, rfl, sx6, hz6, hp, bi6, fun y hy => ⟨(hF6 y hy).1, fun x => by rw [(hF6 y hy).2.1]; simp, (hF6 y hy).2.2⟩⟩ (fun i σ H7 _ ⟨_, _, _, _, h, _, _⟩ => h _ _ hls hlw) ?_ ?_
        · rintro j x σ H7 hx ⟨v3, v4, F, rfl, sx7, hz7, hp7, bi7, hF7⟩
          obtain ⟨ed, hed, pe, be, rfl, hpe, hbe⟩ := paired_get hpr hx
          have hj : j < vs.length := (List.getElem?_eq_some_iff.mp hx).1
          have hy : (sucG G s1)[j]? = some ed.2 := by
            show ((G s1).map (·.2))[j]? = some ed.2
            rw [List.getElem?_map, hed]; rfl
          have hyN : ed.2 ∈ N := gf.cl s1 hs1N _ (List.mem_of_getElem? hy)
          have kp7 := sx7.kp hwy (fun _ z => nomatch z)
          have hpe7 := kp7 _ _ hpe
          have hbe7 : StA H7 be ed.2 := hbe.keep kp7
          have hbk7 := bi7.h
          obtain ⟨v', hv', l2, rfl, hl20, hl27⟩ := bi7.dc.get hyN
          have hFl := (hF7 _ hyN).2.2
          have hFs : (rfs (F ed.2)).length < sizeLine := by rw [List.length_map, sizeLine_eq]; omega
          walk_at "gx"
          obtain ⟨_, _, bi8⟩ := bi7.app (q := p) (s0 := s1) hyN hv'
          have kp8 : Kp H7 (upd H7 l2 (.lst (rfs (F ed.2) ++ [.ref p]))) := Kp.lst hl27
          have hnl : l2 ≠ wy := fun e => by rw [e, hwy] at hl20; cases hl20
          refine ⟨_, _, _, rfl, sx7.upd hl20, ?_, hp7.keep kp8, bi8, fun y hyn => ?_⟩
          · rw [upd_ne hnl.symm]; exact hz7
          · have ht : (sucG G s1).take (j + 1) = (sucG G s1).take j ++ [ed.2] := by rw [List.take_add_one, hy]; rfl
            obtain ⟨f1, f2, f3⟩ := hF7 y hyn
            by_cases e : y = ed.2
            · subst e
              simp only [if_true]
              refine ⟨fun b hb => ?_, fun x => ?_, by rw [List.length_append]; simp; omega⟩
              · rcases List.mem_append.mp hb with hb | hb
                · exact (f1 b hb).keep kp8
                · simp only [List.mem_singleton] at hb; subst hb; exact hp7.keep kp8
              · rw [List.map_append, List.mem_append, f2, ht]
                simp only [List.map_cons, List.map_nil, List.mem_singleton, List.mem_append, or_true, and_true]
                constructor
                · rintro (h | h)
                  · rcases h with h | h
                    · exact .inl h
                    · exact .inr h.1
                  · exact .inr h
                · rintro (h | h)
                  · exact .inl (.inl h)
                  · exact .inr h
            · simp only [if_neg e]
              refine ⟨fun b hb => (f1 b hb).keep kp8, fun x => ?_, by omega⟩
              rw [f2, ht]
              simp only [List.mem_append, List.mem_singleton, e, or_false]
        · rintro σ H7 ⟨v3, v4, F, rfl, sx7, hz7, hp7, bi7, hF7⟩
          have ht : N.take (i + 1) = N.take i ++ [s1] := by rw [List.take_add_one, hs1]; rfl
          have hvl2 : (sucG G s1).length = vs.length := by rw [hvl]; exact List.length_map _
          refine ⟨_, _, _, F, rfl, sx7, hz7, bi7, fun y hy => ?_⟩
          obtain ⟨f1, f2, f3⟩ := hF7 y hy
          refine ⟨f1, fun x => ?_, by omega⟩
          rw [f2, ht, ← hvl2, List.take_length, List.mem_append, List.mem_singleton]
          constructor
          · rintro (⟨h1, h2⟩ | ⟨rfl, h2⟩)
            · exact ⟨.inl h1, h2⟩
            · exact ⟨.inr rfl, h2⟩
          · rintro ⟨h1 | rfl, h2⟩
            · exact .inl ⟨h1, h2⟩
            · exact .inr ⟨rfl, h2⟩
      · rintro σ H6 ⟨v2, v3, v4, F, rfl, sx6, hz6, bi6, hF6⟩
        refine ⟨hz6, ?_⟩
        walk_at "gx"
        have bi7 : BkI H (upd H6 wy (.dT kw)) bk kb N F := bi6.sx (d := wy) (fun b o hb e => by rw [upd_ne e]; exact hb) (by rw [hwy]; exact fun z => nomatch z)
        have kp : Kp H6 (upd H6 wy (.dT kw)) := Kp.put hz6 fun _ z => nomatch z
        refine q bk kb _ hbk (unlock hwy sx6) bi7.h (bi7.dc.mono fun y v hy _ ⟨l, h1, _, h3⟩ => ?_)
        obtain ⟨f1, f2, f3⟩ := hF6 y hy
        rw [hkl, List.take_length] at f2
        exact ⟨l, F y, h1, h3, f1.keep kp, f2, by omega⟩

theorem sc_components_of : FnScope ["ways", "order", "seen", "state", "back", "numbers", "many", "start", "stack", "other"] ["ways"] (defScope s_components_of) := ⟨rfl, rfl, rfl, by decide +kernel, rfl, by decide +kernel, by decide +kernel⟩
/-- each state's number -/
def NmR (ns : List (S × Nat)) (s : S) (v : V) : Prop := ∃ k, v = iv k ∧ (s, k) ∈ ns
def sp_components_of : Sp := fun vs H Q _ => ∃ (wy : Addr) (kw : List (List Key × V)) (N : List S) (G : S → List (Nat × S)), vs = [.ref wy] ∧
  H wy = some (.dT kw) ∧ DcV (WyR H G) kw N ∧ Grf N G ∧ ∀ r nm ns many kn H', H r = none → Same H H' → H' r = some (.tup [.ref nm, iv many]) → H' nm = some (.dT kn) → H nm = none → DcV (NmR ns) kn (dom ns) → Scc N (sucG G) ns many → Q (.ref r) H'
abbrev nsN (old : List (S × Nat)) (new : List S) (many : Nat) : List (S × Nat) := old ++ new.map fun x => (x, many)
theorem dom_nsN {old : List (S × Nat)} {new : List S} {many : Nat} : dom (nsN old new many) = dom old ++ new := by
  simp [dom, nsN, Function.comp_def]
/-- a state gets a number -/
theorem NmR.add {old : List (S × Nat)} {new : List S} {many : Nat} {kn : List (List Key × V)} {x : S} (h : DcV (NmR (nsN old new many)) kn (dom old ++ new)) (hx : x ∉ dom old ++ new) : DcV (NmR (nsN old (new ++ [x]) many)) (putK kn (sk x) (iv many)) (dom old ++ (new ++ [x])) := by
  have : nsN old (new ++ [x]) many = nsN old new many ++ [(x, many)] := by simp [nsN]
  rw [← List.append_assoc, this]
  exact DcV.add (h.mono fun s v _ _ ⟨k, h1, h2⟩ => ⟨k, h1, List.mem_append_left _ h2⟩) hx ⟨many, rfl, by simp⟩
theorem w_revL {K : PySem.W.Frag} {σ : L2.St} {H : Hp} {R : It → Hp → Prop} {i : Nat} {a : Addr} {xs : List V} (hv : σ[i]? = some (some (.ref a))) (h : H a = some (.lst xs)) (q : R (Itv K a xs.length) H) : iRev K (tCons (tVar i) tNil) σ H R := ⟨_, hv, a, xs, rfl, SqL.of h, q⟩
theorem drop_at {α : Type} {l : List α} {k : Nat} {x : α} (h : l[k]? = some x) : l.drop k = x :: l.drop (k + 1) := by
  obtain ⟨h1, h2⟩ := List.getElem?_eq_some_iff.mp h
  rw [List.drop_eq_getElem_cons h1, h2]
theorem ok_components_of {P : Program} {w : World} {K : PySem.W.Frag} {mg : Str → Option Value} {base : Heap} (D : Df K mg "components_of" s_components_of) (U : Bu mg) (C_finished_from : Cl P w K mg base "finished_from" 1 ["ways", "start", "seen", "order"] sp_finished_from) (C_turned_around : Cl P w K mg base "turned_around" 1 ["ways"] sp_turned_around) : Cl P w K mg base "components_of" 2 ["ways"] sp_components_of := by
  refine D.cl sc_components_of (fun _ _ _ _ _ _ us hl => match us, hl with | [_], _ => rfl) (fun vs H Q E h => ?_) (fun cdv f A outer s H vs Q E hr h => ?_)
  · obtain ⟨wy, kw, N, G, rfl, hwy, hDc, gf, q⟩ := h
    rfl
  · obtain ⟨wy, kw, N, G, rfl, hwy, hDc, gf, q⟩ := h
    have hu := hu_of hr
    have hu9 := hu9_of hr
    have hu64 := hu64_of hr
    refine ⟨_, (pss_cons (ps_set (i := 1) sc_components_of.nd rfl (Or.inl rfl) (pe_lst pa_nil))
 (pss_cons (ps_set (i := 2) sc_components_of.nd rfl (Or.inl rfl) pe_dnewT)
 (pss_cons (ps_lock (ps_for PassesOwn.never rfl (pi_keys (pv 0)) (pg_name (i := 3) sc_components_of.nd rfl (Or.inl rfl)) (pss_one (ps_if (pt_cmp (pc_dnotin hu (pv 3) (pv 2)) (by rfl)) (pss_one (ps_expr (pcall C_finished_from hr (pa_cons (pv 0) (pa_cons (pv 3) (pa_cons (pv 2) (pa_cons (pv 1) pa_nil))))))) pss_nil))))
 (pss_cons (ps_set (i := 4) sc_components_of.nd rfl (Or.inl rfl) (pcall C_turned_around hr (pa_cons (pv 0) pa_nil)))
 (pss_cons (ps_set (i := 5) sc_components_of.nd rfl (Or.inl rfl) pe_dnewT)
 (pss_cons (ps_set (i := 6) sc_components_of.nd rfl (Or.inl rfl) pe_int)
 (pss_cons (ps_for PassesOwn.never rfl (pi_reversed (by rfl) U.rev (pa_cons (pv 1) pa_nil)) (pg_name (i := 7) sc_components_of.nd rfl (Or.inl rfl)) (pss_one (ps_if (pt_cmp (pc_dnotin hu (pv 7) (pv 5)) (by rfl)) (pss_cons (ps_dput hu (pv 5) (pv 7) (pv 6) rfl)
 (pss_cons (ps_set (i := 8) sc_components_of.nd rfl (Or.inl rfl) (pe_lst (pa_cons (pv 7) pa_nil)))
 (pss_cons (ps_while PassesOwn.never (pt_cmpR op_gt (pe_callB (len_seq (K := K) rfl) (by rfl) U.len (by decide +kernel) (pa_cons (pv 8) pa_nil)) pe_int (nomark _)) (pss_one (ps_for PassesOwn.never rfl (pi_list (pe_dget hu (pv 4) (pe_bm0 PySem.F.plainAttrs_list PySem.F.slot_list_pop PySem.F.type_list_pop mt_pop (pv 8)) (fun _ _ => rfl))) (pg_name (i := 9) sc_components_of.nd rfl (Or.inl rfl)) (pss_one (ps_if (pt_cmp (pc_dnotin hu (pv 9) (pv 5)) (by rfl)) (pss_cons (ps_dput hu (pv 5) (pv 9) (pv 6) rfl)
 (pss_one (ps_expr (pe_bm PySem.F.plainAttrs_list PySem.F.slot_list_append PySem.F.type_list_append mt_append (pv 8) (pa_cons (pv 9) pa_nil))))) pss_nil)))))
 (pss_one (ps_set (i := 6) sc_components_of.nd rfl (Or.inl rfl) (pe_op op_add (pv 6) pe_int)))))) pss_nil)))
 (pss_one (ps_ret (pe_tup (pa_cons (pv 5) (pa_cons (pv 6) pa_nil)))))))))))), ?_⟩
    have hN := gf.len
    have hkl := hDc.len
    walk_at "gx"
    intro od H1 hod sm1 h1
    walk_at "gx"
    intro sn H2 hsn sm2 h2
    walk_at "gx"
    have hwy2 := sm2 _ _ (sm1 _ _ hwy)
    refine ⟨wy, .dT kw, hwy2, True.intro, fun o => ?_⟩
    walk_at "gx"
    refine w_keysV (by rfl) upd_same ?_
    have hod2 := sm2 _ _ h1
    have hsnH : H sn = none := sm1.free hsn
    have nwo : od ≠ wy := fun e => by rw [e, hwy] at hod; cases hod
    have nws : sn ≠ wy := fun e => by rw [e, hwy] at hsnH; cases hsnH
    have nso : sn ≠ od := fun e => by rw [e, h1] at hsn; cases hsn
    refine w_forK (fun i σ H3 => ∃ v3 seen ob ks, σ = [some (.ref wy), some (.ref od), some (.ref sn), v3, none, none, none, none, none, none] ∧ Sx H H3 wy ∧ H3 wy = some (.frz o (.dT kw)) ∧ H3 sn = some (.dT ks) ∧ ks.map (·.1) = seen.map sk ∧ H3 od = some (.lst (rfs ob)) ∧ RfS H3 ob ∧ Dfs (sucG G) seen (ob.map (·.2)) [] ∧ (∀ x ∈ seen, x ∈ N) ∧ seen.Nodup ∧ ∀ x ∈ N.take i, x ∈ seen) ⟨none, [], [], [], rfl, ?_, upd_same, ?_, rfl, ?_, fun _ h => (by cases h), Dfs.init, fun _ h => (by cases h), List.nodup_nil, fun _ h => (by simp at h)⟩ (fun i σ H3 _ ⟨_, _, _, _, _, _, h, _⟩ => h) ?_ ?_
    · exact fun b u hb e => by rw [upd_ne e]; exact sm2 _ _ (sm1 _ _ hb)
    · rw [upd_ne nws]; exact h2
    · rw [upd_ne nwo]; exact hod2
    · rintro i k v p σ H3 hi hp ⟨v3, seen, ob, ks, rfl, sx, hz, hs3, hks, ho3, hob, dfs, hse, hsnd, hall⟩
      obtain ⟨s1, hs1, rfl⟩ := key_nth hDc.keys hi
      have hp : StA H3 p s1 := hp
      have hs1N : s1 ∈ N := List.mem_of_getElem? hs1
      have ht : N.take (i + 1) = N.take i ++ [s1] := by rw [List.take_add_one, hs1]; rfl
      walk_at "gx"
      refine iteN (fun hn => ?_) (fun hin => ?_)
      · have kp3 := sx.kp hwy (fun _ z => nomatch z)
        have hDc3 : DcV (WyR H3 G) kw N := hDc.mono fun s v _ _ ⟨l, h1, h2⟩ => by
          refine ⟨l, h1, ?_⟩
          obtain ⟨vs, h3, h4⟩ := h2
          exact ⟨vs, sx _ _ h3 (ne_of h3 hwy fun z => nomatch z), EdsK h4 kp3⟩
        walk_at "gx"
        refine ⟨wy, p, sn, od, kw, ks, N, G, s1, seen, ob, rfl, .inr ⟨o, hz⟩, hDc3, gf, hp, hs1N, hs3, hks, ho3, hob, dfs, hse, hsnd, hn, nws, ?_, ?_⟩
        · intro x hx e
          obtain ⟨v, h1, l, rfl, vs, h2, _⟩ := hDc.get hx
          rw [h1] at e
          injection e with e
          injection e with e
          rw [e, hod] at h2; cases h2
        · intro H4 ks4 seen4 ob4 hs4 hks4 ho4 hob4 dfs4 hse4 hsnd4 hm4 hold4 fr4
          walk_at "gx"
          refine ⟨_, seen4, ob4, ks4, rfl, ?_, fr4 _ _ hz nws.symm nwo.symm, hs4, hks4, ho4, hob4, dfs4, hse4, hsnd4, ?_⟩
          · intro b u hb e
            refine fr4 _ _ (sx _ _ hb e) (fun z => ?_) (fun z => ?_)
            · rw [z, hsnH] at hb; cases hb
            · rw [z, hod] at hb; cases hb
          · intro x hx
            rw [ht] at hx
            rcases List.mem_append.mp hx with hx | hx
            · exact hold4 _ (hall x hx)
            · simp only [List.mem_singleton] at hx; subst hx; exact hm4
      · walk_at "gx"
        refine ⟨_, seen, ob, ks, rfl, sx, hz, hs3, hks, ho3, hob, dfs, hse, hsnd, ?_⟩
        intro x hx
        rw [ht] at hx
        rcases List.mem_append.mp hx with hx | hx
        · exact hall x hx
        · simp only [List.mem_singleton] at hx; subst hx; exact hin
    · rintro σ H3 ⟨v3, seen, ob, ks, rfl, sx, hz, hs3, hks, ho3, hob, dfs, hse, hsnd, hall⟩
      rw [hkl, List.take_length] at hall
      refine ⟨hz, ?_⟩
      have smA : Same H (upd H3 wy (.dT kw)) := unlock hwy sx
      have fin := dfs.fin
      have hO : ∀ x ∈ N, x ∈ ob.map (·.2) := fun x hx => (dfs.sub x).mp (hall x hx)
      have hON : ∀ x ∈ ob.map (·.2), x ∈ N := fun x hx => hse x ((dfs.sub x).mpr hx)
      walk_at "gx"
      refine ⟨wy, kw, N, G, rfl, upd_same, ?_, gf, fun bk kb H4 hbk sm4 hb4 hBk => ?_⟩
      · refine hDc.mono fun s v _ _ ⟨l, h1, h2⟩ => ⟨l, h1, ?_⟩
        exact h2.same (fun o ho => smA _ _ ho) (sm_kp smA)
      have ho4 : H4 od = some (.lst (rfs ob)) := sm4 _ _ (by rw [upd_ne nwo]; exact ho3)
      have hob4 : RfS H4 ob := (hob.keep (Kp.put hz fun _ z => nomatch z)).keep (sm_kp sm4)
      have smB : Same H H4 := smA.trans sm4
      walk_at "gx"
      intro nm H5 hnm sm5 h5
      walk_at "gx"
      have ho5 := sm5 _ _ ho4
      have hbN : ∀ x ∈ ob, x.2 ∈ N := fun x hx => hON _ (List.mem_map.mpr ⟨x, hx, rfl⟩)
      have nn : ∀ {b : Addr} {o : HO}, H4 b = some o → b ≠ nm := fun hb e => by rw [e, hnm] at hb; cases hb
      refine w_revL (by rfl) ho5 ?_
      refine w_forV (xs := rfs ob) (fun i σ H6 => ∃ v7 v8 v9 ns many kn, σ = [some (.ref wy), some (.ref od), some (.ref sn), v3, some (.ref bk), some (.ref nm), some (iv many), v7, v8, v9] ∧ Same H4 H6 ∧ H6 nm = some (.dT kn) ∧ DcV (NmR ns) kn (dom ns) ∧ Nums N (sucG G) ns many ∧ ∀ x ∈ (ob.map (·.2)).drop (ob.length - i), x ∈ dom ns) ⟨none, none, none, [], 0, [], rfl, sm5, h5, DcV.nil, Nums.init, ?_⟩ (fun i σ H6 _ ⟨_, _, _, _, _, _, _, h, _⟩ => h _ _ ho4) ?_ ?_
      · intro x hx
        rw [Nat.sub_zero, List.drop_eq_nil_of_le (by rw [List.length_map]; exact Nat.le_refl _)] at hx
        cases hx
      · rintro i x σ H6 hi hx ⟨v7, v8, v9, ns, many, kn, rfl, sm6, hn6, hD6, nums, hdone⟩
        rw [List.length_map] at hi hx
        rw [List.getElem?_map] at hx
        obtain ⟨⟨a, start⟩, hai, rfl⟩ := Option.map_eq_some_iff.mp hx
        have hma := List.mem_of_getElem? hai
        have ha4 : StA H4 a start := hob4 _ hma
        have ha6 : StA H6 a start := ha4.keep (sm_kp sm6)
        have hsN : start ∈ N := hbN _ hma
        have hkeys := hD6.keys
        have hdl : (dom ns).length ≤ N.length := nodup_le nums.nd nums.sub
        have hknl := hD6.len
        have hoa : (ob.map (·.2))[ob.length - (i + 1)]? = some start := by
          have e : ob.length - (i + 1) = ob.length - 1 - i := by omega
          rw [e, List.getElem?_map, hai]; rfl
        have hdr := drop_at hoa
        rw [show ob.length - (i + 1) + 1 = ob.length - i by omega] at hdr
        walk_at "gx"
        refine iteN (fun hn => ?_) (fun hin => ?_)
        · walk_at "gx"
          intro st H7 hst sm7 h7
          walk_at "gx"
          have st4 : H4 st = none := by
            have : H6 st = none := by
              by_cases e : st = nm
              · rw [e, upd_same] at hst; cases hst
              · rwa [upd_ne e] at hst
            exact sm6.free this
          have nsn : st ≠ nm := fun e => by rw [e, upd_same] at hst; cases hst
          have sm47 : Same H4 H7 := (sm_mut sm6 hnm).trans sm7
          have g0 := Grow.init nums hn hsN
          have hD0 : DcV (NmR (nsN ns [start] many)) (putK kn (sk start) (iv many)) (dom ns ++ [start]) := by
            have := NmR.add (old := ns) (new := []) (many := many) (x := start) (kn := kn) (by simpa [nsN] using hD6) (by simpa using hn)
            simpa using this
          refine ⟨fun m σ H8 => ∃ v9 new os kn, σ = [some (.ref wy), some (.ref od), some (.ref sn), v3, some (.ref bk), some (.ref nm), some (iv many), some (.ref a), some (.ref st), v9] ∧ Same H4 H8 ∧ H8 nm = some (.dT kn) ∧ DcV (NmR (nsN ns new many)) kn (dom ns ++ new) ∧ Grow N (sucG G) ns many start new (os.map (·.2)) ∧ H8 st = some (.lst (rfs os)) ∧ RfS H4 os ∧ os.length ≤ new.length ∧ m = 2 * (N.length - (dom ns ++ new).length) + os.length, ⟨_, v9, [start], [(a, start)], _, rfl, sm47, sm7 _ _ upd_same, hD0, g0, h7, fun b hb => (by simp only [List.mem_singleton] at hb; subst hb; exact ha4), Nat.le_refl _, rfl⟩, ?_⟩
          rintro m σ H8 ⟨v9, new, os, kn, rfl, sm8, hn8, hD8, g, hs8, hos, hol, hm⟩
          have hgl : (dom ns ++ new).length ≤ N.length := nodup_le g.nd fun x hx => by
            rcases List.mem_append.mp hx with h | h
            · exact nums.sub x h
            · exact g.sub x h
          have hnewl : new.length ≤ N.length := by rw [List.length_append] at hgl; omega
          walk_at "gx"
          rcases List.eq_nil_or_concat os with rfl | ⟨os, ⟨ca, c⟩, rfl⟩
          · refine iteDf (by simp) ?_
            walk_at "gx"
            have hnum := g.done nums fin gf.cl hO ⟨(ob.map (·.2)).take (ob.length - (i + 1)), by rw [← hdr, List.take_append_drop]⟩ hdone
            refine ⟨_, _, _, nsN ns new many, many + 1, kn, rfl, sm8, hn8, by rw [dom_nsN]; exact hD8, hnum, fun x hx => ?_⟩
            rw [dom_nsN]
            rw [hdr] at hx
            rcases List.mem_cons.mp hx with rfl | hx
            · exact List.mem_append_right _ g.st
            · exact List.mem_append_left _ (hdone x hx)
          · rw [List.concat_eq_append] at *
            refine iteDt (by simp) ?_
            refine ⟨fun σ' H' => ∃ m', m' < m ∧ ∃ v9 new os kn, σ' = [some (.ref wy), some (.ref od), some (.ref sn), v3, some (.ref bk), some (.ref nm), some (iv many), some (.ref a), some (.ref st), v9] ∧ Same H4 H' ∧ H' nm = some (.dT kn) ∧ DcV (NmR (nsN ns new many)) kn (dom ns ++ new) ∧ Grow N (sucG G) ns many start new (os.map (·.2)) ∧ H' st = some (.lst (rfs os)) ∧ RfS H4 os ∧ os.length ≤ new.length ∧ m' = 2 * (N.length - (dom ns ++ new).length) + os.length, fun σ' H' h => h, ?_⟩
            have hc4 : StA H4 ca c := hos (ca, c) (by simp)
            have hcn : c ∈ new := g.op c (by simp)
            have hcN : c ∈ N := g.sub c hcn
            obtain ⟨bv, hbv, l, bs, rfl, hl4, hbs4, hpred, hbl⟩ := hBk.get hcN
            have hos2 : RfS H4 os := fun b hb => hos b (List.mem_append_left _ hb)
            walk_at "gx"
            refine ⟨st, _, .ref ca, rfl, rfl, hs8, by simp, ?_⟩
            have e9 : ((rfs (os ++ [(ca, c)])).dropLast) = rfs os := by
              show (((os ++ [(ca, c)]).map fun b => V.ref b.1).dropLast) = _
              rw [List.map_append]; simp
            rw [e9]
            have sm9 : Same H4 (upd H8 st (.lst (rfs os))) := sm_mut sm8 st4
            have hb9 := sm9 _ _ hb4
            have hc9 : StA (upd H8 st (.lst (rfs os))) ca c := hc4.keep (sm_kp sm9)
            have hl9 := sm9 _ _ hl4
            walk_at "gx"
            refine w_forL (xs := rfs bs) (fun j σ H9 => ∃ v9 new os kn opn, σ = [some (.ref wy), some (.ref od), some (.ref sn), v3, some (.ref bk), some (.ref nm), some (iv many), some (.ref a), some (.ref st), v9] ∧ Same H4 H9 ∧ H9 nm = some (.dT kn) ∧ DcV (NmR (nsN ns new many)) kn (dom ns ++ new) ∧ Grow N (sucG G) ns many start new opn ∧ (∀ x, x ∈ opn ↔ x = c ∨ x ∈ os.map (·.2)) ∧ H9 st = some (.lst (rfs os)) ∧ RfS H4 os ∧ c ∈ new ∧ (∀ x ∈ (bs.map (·.2)).take j, x ∈ dom ns ∨ x ∈ new) ∧ os.length ≤ new.length ∧ 2 * (N.length - (dom ns ++ new).length) + os.length < m) ⟨v9, new, os, kn, _, rfl, sm9, by rw [upd_ne nsn.symm]; exact hn8, hD8, g, fun x => by simp [or_comm], upd_same, hos2, hcn, fun x hx => (by simp at hx), by simp at hol; omega, by simp at hm; simp; omega⟩ (fun j σ H9 _ ⟨_, _, _, _, _, _, h, _⟩ => h _ _ hl4) ?_ ?_
            · rintro j x σ H9 hx ⟨v9, new, os, kn, opn, rfl, sm9, hn9, hD9, g9, hopn, hs9, hos9, hcn9, hpr9, hol9, hm9⟩
              rw [List.getElem?_map] at hx
              obtain ⟨⟨xa, z⟩, hxj, rfl⟩ := Option.map_eq_some_iff.mp hx
              have hzm := List.mem_of_getElem? hxj
              have hz4 : StA H4 xa z := hbs4 _ hzm
              have hz9 : StA H9 xa z := hz4.keep (sm_kp sm9)
              obtain ⟨hzN, hzc⟩ := (hpred z).mp (List.mem_map.mpr ⟨_, hzm, rfl⟩)
              have hkeys9 := hD9.keys
              have hkn9 := hD9.len
              have hgl9 : (dom ns ++ new).length ≤ N.length := nodup_le g9.nd fun x hx => by
                rcases List.mem_append.mp hx with h | h
                · exact nums.sub x h
                · exact g9.sub x h
              have ht : (bs.map (·.2)).take (j + 1) = (bs.map (·.2)).take j ++ [z] := by
                rw [List.take_add_one, List.getElem?_map, hxj]; rfl
              walk_at "gx"
              refine iteN (fun hn => ?_) (fun hin => ?_)
              · have hz1 : z ∉ dom ns := fun h => hn (List.mem_append_left _ h)
                have hz2 : z ∉ new := fun h => hn (List.mem_append_right _ h)
                walk_at "gx"
                have hs10 : upd H9 nm (.dT (putK kn (sk z) (iv many))) st = some (.lst (rfs os)) := by rw [upd_ne nsn]; exact hs9
                have hos10 : (rfs os).length < sizeLine := by
                  rw [List.length_append] at hgl9
                  rw [List.length_map, sizeLine_eq]; omega
                walk_at "gx"
                have g10 := g9.add hcn9 hzN hzc hz1 hz2
                have hgl10 : (dom ns ++ (new ++ [z])).length ≤ N.length := nodup_le g10.nd fun x hx => by
                  rcases List.mem_append.mp hx with h | h
                  · exact nums.sub x h
                  · exact g10.sub x h
                refine ⟨_, new ++ [z], os ++ [(xa, z)], _, opn ++ [z], rfl, sm_mut (sm_mut sm9 hnm) st4, ?_, NmR.add hD9 hn, g10, fun x => ?_, ?_, ?_, List.mem_append_left _ hcn9, fun x hx => ?_, ?_, ?_⟩
                · rw [upd_ne nsn.symm, upd_same]
                · rw [List.mem_append, hopn, List.map_append, List.mem_append]
                  simp only [List.mem_singleton, List.map_cons, List.map_nil, or_assoc]
                · rw [upd_same]
                  show some (HO.lst _) = some (HO.lst ((os ++ [(xa, z)]).map fun b => V.ref b.1))
                  rw [List.map_append]; rfl
                · intro b hb
                  rcases List.mem_append.mp hb with hb | hb
                  · exact hos9 b hb
                  · simp only [List.mem_singleton] at hb; subst hb; exact hz4
                · rw [ht] at hx
                  rcases List.mem_append.mp hx with hx | hx
                  · rcases hpr9 x hx with h | h
                    · exact .inl h
                    · exact .inr (List.mem_append_left _ h)
                  · exact .inr (List.mem_append_right _ hx)
                · simp only [List.length_append, List.length_singleton]; omega
                · simp only [List.length_append, List.length_singleton] at *; omega
              · walk_at "gx"
                refine ⟨_, new, os, kn, opn, rfl, sm9, hn9, hD9, g9, hopn, hs9, hos9, hcn9, fun x hx => ?_, hol9, hm9⟩
                rw [ht] at hx
                rcases List.mem_append.mp hx with hx | hx
                · exact hpr9 x hx
                · simp only [List.mem_singleton] at hx; subst hx
                  exact List.mem_append.mp hin
            · rintro σ H9 ⟨v9, new, os, kn, opn, rfl, sm9, hn9, hD9, g9, hopn, hs9, hos9, hcn9, hpr9, hol9, hm9⟩
              have g10 : Grow N (sucG G) ns many start new (os.map (·.2)) := g9.close (c := c) (fun x hx => (hopn x).mpr (.inr hx)) (fun x hx => (hopn x).mp hx) fun x hxN hcx => by
                refine hpr9 x ?_
                rw [List.take_of_length_le (by rw [List.length_map, List.length_map]; exact Nat.le_refl _)]
                exact (hpred x).mpr ⟨hxN, hcx⟩
              exact ⟨_, hm9, _, new, os, kn, rfl, sm9, hn9, hD9, g10, hs9, hos9, hol9, rfl⟩
        · walk_at "gx"
          refine ⟨_, _, _, ns, many, kn, rfl, sm6, hn6, hD6, nums, fun x hx => ?_⟩
          rw [hdr] at hx
          rcases List.mem_cons.mp hx with rfl | hx
          · exact hin
          · exact hdone x hx
      · rintro σ H6 ⟨v7, v8, v9, ns, many, kn, rfl, sm6, hn6, hD6, nums, hdone⟩
        rw [List.length_map, Nat.sub_self, List.drop_zero] at hdone
        walk_at "gx"
        intro r H7 hr sm7 h7
        have scc := nums.scc fun x hx => hdone x (hO x hx)
        exact q r nm ns many kn H7 ((smB.trans sm6).free hr) ((smB.trans sm6).trans sm7) h7 (sm7 _ _ hn6) (smB.free hnm) hD6 scc

theorem sc_grouped : FnScope ["numbers", "many", "groups", "state", "k"] ["numbers", "many"] (defScope s_grouped) := ⟨rfl, rfl, rfl, by decide +kernel, rfl, by decide +kernel, by decide +kernel⟩
/-- the states with number k -/
def grp (ns : List (S × Nat)) (k : Nat) : List S := (ns.filter fun p => decide (p.2 = k)).map (·.1)
theorem mem_grp {ns : List (S × Nat)} {k : Nat} {s : S} : s ∈ grp ns k ↔ (s, k) ∈ ns := by
  unfold grp
  rw [List.mem_map]
  constructor
  · rintro ⟨⟨a, b⟩, h, rfl⟩
    rw [List.mem_filter] at h
    have e : b = k := of_decide_eq_true h.2
    subst e
    exact h.1
  · intro h
    exact ⟨(s, k), List.mem_filter.mpr ⟨h, decide_eq_true rfl⟩, rfl⟩
theorem grp_snoc {ns : List (S × Nat)} {k j : Nat} {s : S} : grp (ns ++ [(s, k)]) j = if k = j then grp ns j ++ [s] else grp ns j := by
  unfold grp
  by_cases h : k = j <;> simp [List.filter_append, h]
theorem grp_len {ns : List (S × Nat)} {k : Nat} : (grp ns k).length ≤ ns.length := by
  unfold grp
  rw [List.length_map]
  exact List.length_filter_le _ _
theorem dom_inj {ns : List (S × Nat)} {s : S} {i j : Nat} (h : (dom ns).Nodup) (h1 : (s, i) ∈ ns) (h2 : (s, j) ∈ ns) : i = j := by
  induction ns with
  | nil => cases h1
  | cons p l ih =>
    obtain ⟨q1, q2⟩ := List.nodup_cons.mp (show (p.1 :: dom l).Nodup from h)
    rcases List.mem_cons.mp h1 with e1 | e1 <;> rcases List.mem_cons.mp h2 with e2 | e2
    · have := e1.trans e2.symm; injection this
    · exact absurd (by rw [← e1]; exact List.mem_map.mpr ⟨_, e2, rfl⟩) q1
    · exact absurd (by rw [← e2]; exact List.mem_map.mpr ⟨_, e1, rfl⟩) q1
    · exact ih q2 e1 e2
def sp_grouped : Sp := fun vs H Q _ => ∃ (nm : Addr) (kn : List (List Key × V)) (ns : List (S × Nat)) (many : Nat), vs = [.ref nm, iv many] ∧ H nm = some (.dT kn) ∧ DcV (NmR ns) kn (dom ns) ∧ (∀ p ∈ ns, p.2 < many) ∧ (dom ns).Nodup ∧ ns.length ≤ 2000 ∧ many ≤ 2000 ∧
  ∀ (r : Addr) (gs : List Addr) (H' : Hp), H r = none → Same H H' → H' r = some (.lst (gs.map V.ref)) → gs.length = many → (∀ k d, gs[k]? = some d → ∃ kd, H' d = some (.dT kd) ∧ kd.map (·.1) = (grp ns k).map sk) → Q (.ref r) H'
theorem ok_grouped {P : Program} {w : World} {K : PySem.W.Frag} {mg : Str → Option Value} {base : Heap} (D : Df K mg "grouped" s_grouped) (U : Bu mg) : Cl P w K mg base "grouped" 1 ["numbers", "many"] sp_grouped := by
  refine D.cl sc_grouped (fun _ _ _ _ _ _ us hl => match us, hl with | [_, _], _ => rfl) (fun vs H Q E h => ?_) (fun cdv f A outer s H vs Q E hr h => ?_)
  · obtain ⟨nm, kn, ns, many, rfl, hnm, hDc, hlt, hnd, hln, hmy, q⟩ := h
    rfl
  · obtain ⟨nm, kn, ns, many, rfl, hnm, hDc, hlt, hnd, hln, hmy, q⟩ := h
    have hu := hu_of hr
    have hu9 := hu9_of hr
    have hu64 := hu64_of hr
    refine ⟨_, (pss_cons (ps_setLc (i := 2) (own := [("k", 4)]) (g := (gName 4)) (tt := tYes) (by rfl) sc_grouped.nd rfl rfl (sw_true rfl rfl rfl (by decide +kernel)) (pi_range1 rfl U.rng (pa_cons (pv 1) pa_nil)) (blkOk_by (N := ["numbers", "many", "groups", "state", "k"]) (sc := defScope s_grouped) (by decide +kernel)) (fun _ _ _ _ _ => (pg_name (i := 4) sc_grouped.nd rfl (Or.inl rfl))) (fun _ _ _ _ _ => pts_nil) (fun _ _ _ _ _ => pe_dnewT))
 (pss_cons (ps_lock (ps_for PassesOwn.never rfl (pi_keys (pv 0)) (pg_name (i := 3) sc_grouped.nd rfl (Or.inl rfl)) (pss_one (ps_dput hu (pe_ix ix_list (pv 2) (pe_dget hu (pv 0) (pv 3) (fun _ _ => rfl)) (fun _ _ => rfl)) (pv 3) pe_bl rfl))))
 (pss_one (ps_ret (pv 2))))), ?_⟩
    have hkl := hDc.len
    rw [List.length_map] at hkl
    walk_at "gx"
    refine w_R1 (by omega) (by omega) ?_
    have e1 : ((many : Int)).toNat = many := by omega
    rw [e1]
    refine lc_gR (by walk_at "sz") fun D hD => ?_
    refine ⟨fun i H' acc => ∃ gs : List Addr, acc = gs.map V.ref ∧ gs.length = i ∧ gs.Nodup ∧ (∀ d ∈ gs, H d = none ∧ d ≠ D ∧ H' d = some (.dT [])) ∧ Same H H', ⟨[], rfl, rfl, List.nodup_nil, fun _ h => (by cases h), sm_new hD⟩, ?_, ?_⟩
    · rintro i H1 acc hi hacc ⟨gs, rfl, hgl, hgn, hgs, sm1⟩ hD1 R hy hn
      walk_at "gx"
      refine ⟨rfl, ?_⟩
      walk_at "gx"
      refine iteT ?_
      walk_at "gx"
      intro d H2 hd sm2 h2
      have hdD : d ≠ D := fun e => by rw [e, hD1] at hd; cases hd
      refine hy _ _ (sm2 _ _ hD1) ⟨gs ++ [d], by simp, by simp [hgl], nd_snoc hgn fun h => ?_, fun b hb => ?_, sm_mut (sm1.trans sm2) hD⟩
      · rw [(hgs d h).2.2] at hd; cases hd
      · rcases List.mem_append.mp hb with hb | hb
        · obtain ⟨h3, h4, h5⟩ := hgs b hb
          exact ⟨h3, h4, by rw [upd_ne h4]; exact sm2 _ _ h5⟩
        · simp only [List.mem_singleton] at hb
          subst hb
          exact ⟨sm1.free hd, hdD, by rw [upd_ne hdD]; exact h2⟩
    · rintro H1 acc ⟨gs, rfl, hgl, hgn, hgs, sm1⟩ _ hD1
      have hnm1 := sm1 _ _ hnm
      walk_at "gx"
      refine ⟨nm, .dT kn, hnm1, True.intro, fun od => ?_⟩
      walk_at "gx"
      refine w_keysV (by rfl) upd_same ?_
      have fz : ∀ {b : Addr}, H b = none → b ≠ nm := fun hb e => by rw [e, hnm] at hb; cases hb
      refine w_forK (fun i σ H6 => ∃ v3, σ = [some (.ref nm), some (iv many), some (.ref D), v3, none] ∧ Sx H H6 nm ∧ H6 nm = some (.frz od (.dT kn)) ∧ H6 D = some (.lst (gs.map V.ref)) ∧ ∀ k d, gs[k]? = some d → ∃ kd, H6 d = some (.dT kd) ∧ kd.map (·.1) = (grp (ns.take i) k).map sk) ⟨none, rfl, fun b o hb e => (by rw [upd_ne e]; exact sm1 _ _ hb), upd_same, by rw [upd_ne (fz hD)]; exact hD1, fun k d hd => ?_⟩ (fun i σ H3 _ ⟨_, _, _, h, _⟩ => h) ?_ ?_
      · obtain ⟨h3, h4, h5⟩ := hgs d (List.mem_of_getElem? hd)
        exact ⟨[], by rw [upd_ne (fz h3)]; exact h5, rfl⟩
      · rintro i k v p σ H6 hi hp ⟨v3, rfl, sx, hz, hD6, hall⟩
        obtain ⟨s1, hs1, rfl⟩ := key_nth hDc.keys hi
        have hp : StA H6 p s1 := hp
        rw [List.getElem?_map] at hs1
        obtain ⟨⟨s2, k⟩, hni, e⟩ := Option.map_eq_some_iff.mp hs1
        simp only at e
        subst e
        have hmn := List.mem_of_getElem? hni
        have hsd : s2 ∈ dom ns := List.mem_map.mpr ⟨_, hmn, rfl⟩
        obtain ⟨v, hv, k', rfl, hk'⟩ := hDc.get hsd
        obtain rfl := dom_inj hnd hmn hk'
        have hkm := hlt _ hmn
        have hkm : k < many := hkm
        obtain ⟨d, hd⟩ : ∃ d, gs[k]? = some d := ⟨_, List.getElem?_eq_getElem (by omega)⟩
        obtain ⟨kd, hkd, hkk⟩ := hall k d hd
        have hkdl : kd.length ≤ 2000 := by
          have h1 := keys_len hkk
          have h2 := grp_len (ns := ns.take i) (k := k)
          rw [List.length_take] at h2
          omega
        have hzR : Rd H6 nm (.dT kn) := .inr ⟨od, hz⟩
        walk_at "gx"
        refine w_ixL hD6 (atI_nat (by rw [List.getElem?_map, hd]; rfl)) ?_
        walk_at "gx"
        obtain ⟨hdH, hdD, _⟩ := hgs d (List.mem_of_getElem? hd)
        have hdnm : d ≠ nm := fz hdH
        have ht : ns.take (i + 1) = ns.take i ++ [(s2, k)] := by rw [List.take_add_one, hni]; rfl
        refine ⟨_, rfl, sx.upd hdH, by rw [upd_ne hdnm.symm]; exact hz, by rw [upd_ne hdD.symm]; exact hD6, fun j b hb => ?_⟩
        rw [ht, grp_snoc]
        by_cases e : k = j
        · subst e
          rw [hd] at hb
          injection hb with hb
          subst hb
          refine ⟨_, upd_same, ?_⟩
          rw [if_pos rfl]
          refine putK_keys hkk fun h => ?_
          have h1 : (s2, k) ∈ ns.take i := mem_grp.mp h
          obtain ⟨j, hj, e⟩ := List.getElem_of_mem h1
          rw [List.length_take] at hj
          have h2 : ns[j]? = some (s2, k) := by rw [← e, List.getElem_take]; exact List.getElem?_eq_getElem (by omega)
          have h3 : (dom ns)[j]? = some s2 := by rw [List.getElem?_map, h2]; rfl
          have h4 : (dom ns)[i]? = some s2 := by rw [List.getElem?_map, hni]; rfl
          obtain ⟨a1, a2⟩ := List.getElem?_eq_some_iff.mp h3
          obtain ⟨b1, b2⟩ := List.getElem?_eq_some_iff.mp h4
          have := (List.getElem_inj hnd).mp (a2.trans b2.symm)
          omega
        · rw [if_neg e]
          obtain ⟨kd', h1, h2⟩ := hall j b hb
          refine ⟨kd', ?_, h2⟩
          rw [upd_ne (fun z => ?_)]
          · exact h1
          · subst z
            obtain ⟨a1, a2⟩ := List.getElem?_eq_some_iff.mp hd
            obtain ⟨b1, b2⟩ := List.getElem?_eq_some_iff.mp hb
            exact e ((List.getElem_inj hgn).mp (a2.trans b2.symm))
      · rintro σ H6 ⟨v3, rfl, sx, hz, hD6, hall⟩
        refine ⟨hz, ?_⟩
        walk_at "gx"
        rw [hkl, List.take_length] at hall
        refine q D gs _ hD (unlock hnm sx) (by rw [upd_ne (fz hD)]; exact hD6) hgl fun k d hd => ?_
        obtain ⟨kd, h1, h2⟩ := hall k d hd
        exact ⟨kd, by rw [upd_ne (fz (hgs d (List.mem_of_getElem? hd)).1)]; exact h1, h2⟩

theorem sc_path_to : FnScope ["ways", "states", "start", "goals", "seen", "order", "at", "state", "letter", "other"] ["ways", "states", "start", "goals"] (defScope s_path_to) := ⟨rfl, rfl, rfl, by decide +kernel, rfl, by decide +kernel, by decide +kernel⟩
theorem w_dispV {σ : L2.St} {H : Hp} {Q : VK} {i : Nat} {b : Addr} {s : S} {v : V} (hv : σ[i]? = some (some (.ref b))) (hs : StA H b s) (h : ∀ p H1, H p = none → Same H H1 → H1 p = some (.dT [(sk s, v)]) → Q (.ref p) H1) : tDispT1 (tVar i) (tC v) σ H Q := by
  intro p hp
  refine ⟨_, hv, ?_⟩
  have kp : Kp H (upd H p (.dT [])) := Kp.new hp
  refine ⟨b, sk s, rfl, kp _ _ hs, upd_same, ?_⟩
  refine h p _ hp (fun c u hc => ?_) upd_same
  have : c ≠ p := ne_of_none hc hp
  rw [upd_ne this, upd_ne this]; exact hc
/-- a state met: the text that led there -/
def TxR (ws : List T) (w : T) (s0 : S) (n : Nat) (s : S) (v : V) : Prop := ∃ z, v = sv z ∧ runC ws w s0 z = some s ∧ z.length ≤ n
def sp_path_to : Sp := fun vs H Q _ => ∃ (wy sd a gd : Addr) (kw ks kg : List (List Key × V)) (N gs gl : List S) (ws : List T) (w : T) (s0 : S), vs = [.ref wy, .ref sd, .ref a, .ref gd] ∧ H wy = some (.dT kw) ∧ DcV (WyR H (outC ws w)) kw N ∧ Grf N (outC ws w) ∧
  H sd = some (.dT ks) ∧ ks.map (·.1) = gs.map sk ∧ H gd = some (.dT kg) ∧ kg.map (·.1) = gl.map sk ∧ StA H a s0 ∧ s0 ∈ gs ∧ gs.Nodup ∧ (∀ x ∈ gs, x ∈ N) ∧ (∀ x, Mut (sucC ws w) s0 x → x ∈ gs) ∧ (∃ t ∈ gl, Mut (sucC ws w) s0 t) ∧
  ∀ (r b : Addr) (t : S) (z : T) (H' : Hp), H r = none → Same H H' → H' r = some (.tup [sv z, .ref b]) → StA H' b t → t ∈ gl → t ∈ gs → runC ws w s0 z = some t → z.length ≤ 2000 → Q (.ref r) H'
theorem runC_snoc {ws : List T} {w : T} {s x t : S} {z : T} {c : Nat} (h : runC ws w s z = some x) (hc : stepC ws w x c = some t) : runC ws w s (z ++ [c]) = some t := by
  rw [runC_app, h]
  show runC ws w x [c] = some t
  show (stepC ws w x c).bind (fun t => runC ws w t []) = some t
  rw [hc]; rfl
/-- while it searches -/
structure PI (ws : List T) (w : T) (s0 : S) (gs : List S) (H H3 : Hp) (od sn : Addr) (ob : List (Addr × S)) (kn : List (List Key × V)) : Prop where
  sm : Same H H3
  on : H od = none
  fs : H sn = none
  o : H3 od = some (.lst (rfs ob))
  s : H3 sn = some (.dT kn)
  d : DcV (TxR ws w s0 ob.length) kn (ob.map (·.2))
  r : RfS H ob
  nd : (ob.map (·.2)).Nodup
  sub : ∀ x ∈ ob.map (·.2), x ∈ gs
section
variable {ws : List T} {w : T} {s0 x y : S} {gs : List S} {H H3 : Hp} {od sn b : Addr} {ob : List (Addr × S)} {kn : List (List Key × V)} {z : T} {c : Nat}
theorem PI.len (h : PI ws w s0 gs H H3 od sn ob kn) (hgs : gs.length ≤ 2000) : ob.length ≤ 2000 ∧ kn.length = ob.length := by
  have h1 := nodup_le h.nd h.sub
  have h2 := h.d.len
  rw [List.length_map] at *
  exact ⟨by omega, h2⟩
theorem PI.add (h : PI ws w s0 gs H H3 od sn ob kn) (hz : runC ws w s0 z = some x) (hl : z.length ≤ ob.length) (hc : stepC ws w x c = some y) (hy : y ∈ gs) (hn : y ∉ ob.map (·.2)) (hb : StA H b y) :
    PI ws w s0 gs H (upd (upd H3 sn (.dT (putK kn (sk y) (sv (z ++ [c]))))) od (.lst (rfs ob ++ [.ref b]))) od sn (ob ++ [(b, y)]) (putK kn (sk y) (sv (z ++ [c]))) := by
  have hne : sn ≠ od := ne_of h.s h.o fun z => nomatch z
  refine ⟨sm_mut (sm_mut h.sm h.fs) h.on, h.on, h.fs, ?_, by rw [upd_ne hne, upd_same], ?_, fun b' hb' => ?_, ?_, fun x hx => ?_⟩
  · rw [upd_same]
    show some (HO.lst _) = some (HO.lst ((ob ++ [(b, y)]).map fun b => V.ref b.1))
    rw [List.map_append]; rfl
  · rw [List.map_append]
    refine DcV.add (h.d.mono fun s v _ _ ⟨z, h1, h2, h3⟩ => ⟨z, h1, h2, by rw [List.length_append]; omega⟩) hn ⟨_, rfl, runC_snoc hz hc, ?_⟩
    rw [List.length_append, List.length_append]
    simp only [List.length_singleton]; omega
  · rcases List.mem_append.mp hb' with q | q
    · exact h.r b' q
    · simp only [List.mem_singleton] at q; subst q; exact hb
  · rw [List.map_append]; exact nd_snoc h.nd hn
  · rw [List.map_append] at hx
    rcases List.mem_append.mp hx with q | q
    · exact h.sub x q
    · simp only [List.map_cons, List.map_nil, List.mem_singleton] at q; subst q; exact hy
end
theorem ok_path_to {P : Program} {w : World} {K : PySem.W.Frag} {mg : Str → Option Value} {base : Heap} (D : Df K mg "path_to" s_path_to) (U : Bu mg) : Cl P w K mg base "path_to" 1 ["ways", "states", "start", "goals"] sp_path_to := by
  refine D.cl sc_path_to (fun _ _ _ _ _ _ us hl => match us, hl with | [_, _, _, _], _ => rfl) (fun vs H Q E h => ?_) (fun cdv f A outer s H vs Q E hr h => ?_)
  · obtain ⟨wy, sd, a, gd, kw, ks, kg, N, gs, gl, ws, w0, s0, rfl, hwy, hDc, gf, hsd, hks, hgd, hkg, ha, hs0, hgnd, hgN, hmut, hgoal, q⟩ := h
    rfl
  · obtain ⟨wy, sd, a, gd, kw, ks, kg, N, gs, gl, ws, w0, s0, rfl, hwy, hDc, gf, hsd, hks, hgd, hkg, ha, hs0, hgnd, hgN, hmut, hgoal, q⟩ := h
    have hu := hu_of hr
    have hu9 := hu9_of hr
    have hu64 := hu64_of hr
    refine ⟨_, (pss_cons (ps_set (i := 4) sc_path_to.nd rfl (Or.inl rfl) (pe_dispT1 hu (pv 2) (pe_txt (t := []) (by decide +kernel))))
 (pss_cons (ps_set (i := 5) sc_path_to.nd rfl (Or.inl rfl) (pe_lst (pa_cons (pv 2) pa_nil)))
 (pss_cons (ps_set (i := 6) sc_path_to.nd rfl (Or.inl rfl) pe_int)
 (pss_cons (ps_while PassesOwn.never (pt_cmpR op_lt (pv 6) (pe_callB (len_seq (K := K) rfl) (by rfl) U.len (by decide +kernel) (pa_cons (pv 5) pa_nil)) (nomark _)) (pss_cons (ps_set (i := 7) sc_path_to.nd rfl (Or.inl rfl) (pe_ix ix_list (pv 5) (pv 6) (fun _ _ => rfl)))
 (pss_cons (ps_if (pt_cmp (pc_din hu (pv 7) (pv 3)) (by rfl)) (pss_one (ps_ret (pe_tup (pa_cons (pe_dget hu (pv 4) (pv 7) (fun _ _ => rfl)) (pa_cons (pv 7) pa_nil))))) pss_nil)
 (pss_cons (ps_for PassesOwn.never rfl (pi_list (pe_dget hu (pv 0) (pv 7) (fun _ _ => rfl))) (pg_tup (by rfl) (pgs_cons (pg_name (i := 8) sc_path_to.nd rfl (Or.inl rfl)) (pgs_cons (pg_name (i := 9) sc_path_to.nd rfl (Or.inl rfl)) pgs_nil))) (pss_one (ps_if (PW.pt (pw_and (pt_cmp (pc_din hu (pv 9) (pv 1)) (by rfl)) (pw_and1 (pt_cmp (pc_dnotin hu (pv 9) (pv 4)) (by rfl))))) (pss_cons (ps_dput hu (pv 4) (pv 9) (pe_op op_addT (pe_dget hu (pv 4) (pv 7) (fun _ _ => rfl)) (pv 8)) rfl)
 (pss_one (ps_expr (pe_bm PySem.F.plainAttrs_list PySem.F.slot_list_append PySem.F.type_list_append mt_append (pv 5) (pa_cons (pv 9) pa_nil))))) pss_nil)))
 (pss_one (ps_set (i := 6) sc_path_to.nd rfl (Or.inl rfl) (pe_op op_add (pv 6) pe_int)))))))
 (pss_one (ps_ret pe_non)))))), ?_⟩
    walk_at "gx"
    refine w_dispV (by rfl) ha ?_
    intro sn H1 hsn sm1 h1
    walk_at "gx"
    intro od H2 hod sm2 h2
    walk_at "gx"
    have hodH : H od = none := sm1.free hod
    have pi0 : PI ws w0 s0 gs H H2 od sn [(a, s0)] [(sk s0, sv [])] := by
      refine ⟨sm1.trans sm2, hodH, hsn, h2, sm2 _ _ h1, ⟨rfl, fun s hs => ?_⟩, fun b hb => ?_, by simp, fun x hx => ?_⟩
      · simp only [List.map_cons, List.map_nil, List.mem_singleton] at hs; subst hs
        exact ⟨_, valV_pos rfl, [], rfl, rfl, Nat.zero_le _⟩
      · simp only [List.mem_singleton] at hb; subst hb; exact ha
      · simp only [List.map_cons, List.map_nil, List.mem_singleton] at hx; subst hx; exact hs0
    have hgl : gs.length ≤ 2000 := Nat.le_trans (nodup_le (l := gs) (m := N) hgnd hgN) gf.len
    refine ⟨fun m σ H3 => ∃ dn rest kn v7 v8 v9, σ = [some (.ref wy), some (.ref sd), some (.ref a), some (.ref gd), some (.ref sn), some (.ref od), some (iv dn.length), v7, v8, v9] ∧ PI ws w0 s0 gs H H3 od sn (dn ++ rest) kn ∧ (∀ x ∈ dn.map (·.2), x ∉ gl ∧ ∀ y ∈ sucC ws w0 x, y ∈ gs → y ∈ (dn ++ rest).map (·.2)) ∧ s0 ∈ (dn ++ rest).map (·.2) ∧ m = 2001 - dn.length, ⟨_, [], [(a, s0)], _, none, none, none, rfl, pi0, fun _ h => (by cases h), by simp, rfl⟩, ?_⟩
    rintro m σ H3 ⟨dn, rest, kn, v7, v8, v9, rfl, pi, hdn, hst, hm⟩
    obtain ⟨hl1, hl2⟩ := pi.len hgl
    have ho3 := pi.o
    have hs3 := pi.s
    have hD3 := pi.d
    have hkeys3 := hD3.keys
    walk_at "gx"
    rcases rest with _ | ⟨⟨b, x⟩, rest⟩
    · refine iteDf (by simp) ?_
      rw [List.append_nil] at *
      obtain ⟨t, ht, hmt⟩ := hgoal
      have := closed_reach (A := dn.map (·.2)) (G := gs) hmut (fun x hx y hy hg => (hdn x hx).2 y hy hg) hst hmt
      exact absurd ht (hdn t this).1
    · have hdl : dn.length < (dn ++ (b, x) :: rest).length := by simp
      refine iteDt (by rw [List.length_map]; omega) ?_
      refine ⟨fun σ' H' => ∃ m', m' < m ∧ ∃ dn rest kn v7 v8 v9, σ' = [some (.ref wy), some (.ref sd), some (.ref a), some (.ref gd), some (.ref sn), some (.ref od), some (iv dn.length), v7, v8, v9] ∧ PI ws w0 s0 gs H H' od sn (dn ++ rest) kn ∧ (∀ x ∈ dn.map (·.2), x ∉ gl ∧ ∀ y ∈ sucC ws w0 x, y ∈ gs → y ∈ (dn ++ rest).map (·.2)) ∧ s0 ∈ (dn ++ rest).map (·.2) ∧ m' = 2001 - dn.length, fun σ' H' h => h, ?_⟩
      have hat : (rfs (dn ++ (b, x) :: rest))[dn.length]? = some (.ref b) := by
        rw [List.getElem?_map, List.getElem?_append_right (Nat.le_refl _), Nat.sub_self]; rfl
      have hxm : x ∈ (dn ++ (b, x) :: rest).map (·.2) := by simp
      have hxg := pi.sub x hxm
      have hxN := hgN x hxg
      have hb : StA H b x := pi.r (b, x) (by simp)
      have hb3 : StA H3 b x := hb.keep (sm_kp pi.sm)
      have hgd3 := pi.sm _ _ hgd
      have hwy3 := pi.sm _ _ hwy
      obtain ⟨lv, hlv, l, rfl, vs, hls, hpr⟩ := hDc.get hxN
      have hls3 := pi.sm _ _ hls
      obtain ⟨xv, hxv, xz, rfl, hxz, hxzl⟩ := hD3.get hxm
      walk_at "gx"
      refine w_ixL ho3 (atI_nat hat) ?_
      walk_at "gx"
      refine iteD (fun hg => ?_) (fun hg => ?_)
      · walk_at "gx"
        intro r H4 hr sm4 h4
        exact q r b x xz H4 (pi.sm.free hr) (pi.sm.trans sm4) h4 (hb3.keep (sm_kp sm4)) hg hxg hxz (by omega)
      · have hdg := gf.deg x hxN
        have hvl : vs.length = (outC ws w0 x).length := Paired.length hpr
        walk_at "gx"
        refine w_forL (xs := vs) (fun j σ H5 => ∃ rest2 kn v8 v9, σ = [some (.ref wy), some (.ref sd), some (.ref a), some (.ref gd), some (.ref sn), some (.ref od), some (iv dn.length), some (.ref b), v8, v9] ∧ PI ws w0 s0 gs H H5 od sn (dn ++ (b, x) :: rest2) kn ∧ (∀ y ∈ (dn ++ (b, x) :: rest).map (·.2), y ∈ (dn ++ (b, x) :: rest2).map (·.2)) ∧ ∀ y ∈ (sucC ws w0 x).take j, y ∈ gs → y ∈ (dn ++ (b, x) :: rest2).map (·.2)) ⟨rest, kn, v8, v9, rfl, pi, fun _ h => h, fun _ h => (by simp at h)⟩ (fun j σ H5 _ ⟨_, _, _, _, _, h, _⟩ => h.sm _ _ hls) ?_ ?_
        · rintro j v σ H5 hv ⟨rest2, kn, v8, v9, rfl, pi5, hold, hdone⟩
          obtain ⟨ed, hed, pe, be, rfl, hpe, hbe⟩ := paired_get hpr hv
          obtain ⟨c, y⟩ := ed
          have hst : stepC ws w0 x c = some y := mem_outC.mp (List.mem_of_getElem? hed)
          have hy : (sucC ws w0 x)[j]? = some y := by
            show ((outC ws w0 x).map (·.2))[j]? = some y
            rw [List.getElem?_map, hed]; rfl
          have ht : (sucC ws w0 x).take (j + 1) = (sucC ws w0 x).take j ++ [y] := by rw [List.take_add_one, hy]; rfl
          obtain ⟨hl51, hl52⟩ := pi5.len hgl
          have ho5 := pi5.o
          have hs5 := pi5.s
          have hD5 := pi5.d
          have hkeys5 := hD5.keys
          have hpe5 := pi5.sm _ _ hpe
          have hbe5 : StA H5 be y := StA.keep hbe (sm_kp pi5.sm)
          have hsd5 := pi5.sm _ _ hsd
          have hb5 : StA H5 b x := hb.keep (sm_kp pi5.sm)
          have hos : (rfs (dn ++ (b, x) :: rest2)).length < sizeLine := by rw [List.length_map, sizeLine_eq]; omega
          walk_at "gx"
          refine iteD (fun hyg => ?_) (fun hyg => ?_)
          · walk_at "gx"
            refine iteN (fun hn => ?_) (fun hin => ?_)
            · obtain ⟨xv5, hxv5, xz5, rfl, hxz5, hxzl5⟩ := hD5.get (show x ∈ _ by simp)
              have hxz60 : xz5.length ≤ 2000 := by omega
              walk_at "gx"
              have ho6 : upd H5 sn (.dT (putK kn (sk y) (sv (xz5 ++ [c])))) od = some (.lst (rfs (dn ++ (b, x) :: rest2))) := by rw [upd_ne (ne_of ho5 hs5 fun z => nomatch z)]; exact ho5
              walk_at "gx"
              have := pi5.add hxz5 hxzl5 hst hyg hn hbe
              rw [List.append_assoc, List.cons_append] at this
              refine ⟨rest2 ++ [(be, y)], _, _, _, rfl, this, fun z hz => ?_, fun z hz hzg => ?_⟩
              · have := hold z hz
                simp only [List.map_append, List.map_cons, List.mem_append, List.mem_cons] at this ⊢
                rcases this with h | h | h
                · exact .inl h
                · exact .inr (.inl h)
                · exact .inr (.inr (.inl h))
              · rw [ht] at hz
                rcases List.mem_append.mp hz with hz | hz
                · have := hdone z hz hzg
                  simp only [List.map_append, List.map_cons, List.mem_append, List.mem_cons] at this ⊢
                  rcases this with h | h | h
                  · exact .inl h
                  · exact .inr (.inl h)
                  · exact .inr (.inr (.inl h))
                · simp only [List.mem_singleton] at hz; subst hz; simp
            · walk_at "gx"
              refine ⟨rest2, _, _, _, rfl, pi5, hold, fun z hz hzg => ?_⟩
              rw [ht] at hz
              rcases List.mem_append.mp hz with hz | hz
              · exact hdone z hz hzg
              · simp only [List.mem_singleton] at hz; subst hz; exact hin
          · walk_at "gx"
            refine ⟨rest2, _, _, _, rfl, pi5, hold, fun z hz hzg => ?_⟩
            rw [ht] at hz
            rcases List.mem_append.mp hz with hz | hz
            · exact hdone z hz hzg
            · simp only [List.mem_singleton] at hz; subst hz; exact absurd hzg hyg
        · rintro σ H5 ⟨rest2, kn, v8, v9, rfl, pi5, hold, hdone⟩
          have hvl2 : vs.length = (sucC ws w0 x).length := by rw [hvl]; exact (List.length_map _).symm
          rw [hvl2, List.take_length] at hdone
          walk_at "gx"
          have e1 : (dn ++ [(b, x)]) ++ rest2 = dn ++ (b, x) :: rest2 := by simp
          have ei : (V.int ((dn.length : Int) + 1)) = iv (dn ++ [(b, x)]).length := by
            show V.int _ = V.int _
            congr 1
            rw [List.length_append]; rfl
          rw [ei]
          refine ⟨_, ?_, dn ++ [(b, x)], rest2, _, _, _, _, rfl, by rw [e1]; exact pi5, fun z hz => ?_, by rw [e1]; exact hold _ hst, rfl⟩
          · rw [List.length_append]; simp only [List.length_singleton]; omega
          · rw [e1]
            rw [List.map_append] at hz
            rcases List.mem_append.mp hz with hz | hz
            · exact ⟨(hdn z hz).1, fun y hy hyg => hold _ ((hdn z hz).2 y hy hyg)⟩
            · simp only [List.map_cons, List.map_nil, List.mem_singleton] at hz; subst hz
              exact ⟨hg, hdone⟩

theorem sc_circle_within : FnScope ["windows", "word", "pieces", "ways", "states", "start", "text", "state", "piece", "goals", "other", "letter", "letters"] ["windows", "word", "pieces", "ways", "states"] (defScope s_circle_within) := ⟨rfl, rfl, rfl, by decide +kernel, rfl, by decide +kernel, by decide +kernel⟩
def sp_circle_within : Sp := fun vs H Q _ => ∃ (wa pa wy sd : Addr) (ws ps : List T) (g : Nat) (w : T) (kw ks : List (List Key × V)) (N gs : List S), vs = [.ref wa, sv w, .ref pa, .ref wy, .ref sd] ∧
  H wa = some (.tup (ws.map sv)) ∧ Wd ws g ∧ w.length ≤ 60 ∧ H pa = some (.tup (ps.map sv)) ∧ ps ≠ [] ∧ ps.length ≤ 8 ∧ (∀ p ∈ ps, p ≠ [] ∧ p.length ≤ 9) ∧
  H wy = some (.dT kw) ∧ DcV (WyR H (outC ws w)) kw N ∧ Grf N (outC ws w) ∧ Sts ws w N ∧ H sd = some (.dT ks) ∧ ks.map (·.1) = gs.map sk ∧ gs.Nodup ∧ gs ≠ [] ∧ (∀ x ∈ gs, x ∈ N) ∧ (∀ x ∈ gs, ∀ y, y ∈ gs ↔ Mut (sucC ws w) x y) ∧
  (∀ p ∈ ps, (gs.any fun s => readIn ws w (fun u => decide (u ∈ gs)) s p) = true) ∧ ∀ (t : T) (H' : Hp), Same H H' → ExpC ps ws g t → ¬ onC t w → t.length ≤ 20000 → Q (sv t) H'
theorem readIn_cons {ws : List T} {w : T} {G : S → Bool} {s : S} {c : Nat} {z : T} (h : readIn ws w G s (c :: z) = true) : ∃ t, stepC ws w s c = some t ∧ readIn ws w G t z = true := by
  unfold readIn at h
  rw [Bool.and_eq_true] at h
  cases e : stepC ws w s c with
  | none => rw [e] at h; exact absurd h.2 (by simp)
  | some t => rw [e] at h; exact ⟨t, rfl, h.2⟩
theorem readIn_in {ws : List T} {w : T} {G : S → Bool} {s : S} {z : T} (h : readIn ws w G s z = true) : G s = true := by
  cases z with
  | nil => exact h
  | cons c z => unfold readIn at h; rw [Bool.and_eq_true] at h; exact h.1
theorem snoc_take {α : Type} {z : List α} {j : Nat} {c : α} (h : z[j]? = some c) : z.take (j + 1) = z.take j ++ [c] := by rw [List.take_add_one, h]; rfl
theorem filter_snoc {α : Type} {l : List α} {x : α} {f : α → Bool} : (l ++ [x]).filter f = if f x = true then l.filter f ++ [x] else l.filter f := by
  by_cases h : f x = true <;> simp [List.filter_append, h]
theorem not_take {α : Type} [DecidableEq α] {l : List α} (hn : l.Nodup) {i : Nat} {x : α} (h : l[i]? = some x) : x ∉ l.take i := fun hm => by
  obtain ⟨j, hj, e⟩ := List.getElem_of_mem hm
  rw [List.length_take] at hj
  have h1 : l[j]? = some x := by rw [← e, List.getElem_take]; exact List.getElem?_eq_getElem (by omega)
  obtain ⟨a1, a2⟩ := List.getElem?_eq_some_iff.mp h
  obtain ⟨b1, b2⟩ := List.getElem?_eq_some_iff.mp h1
  have := (List.getElem_inj hn).mp (a2.trans b2.symm)
  omega
theorem ok_circle_within {P : Program} {w : World} {K : PySem.W.Frag} {mg : Str → Option Value} {base : Heap} (D : Df K mg "circle_within" s_circle_within) (U : Bu mg) (C_path_to : Cl P w K mg base "path_to" 1 ["ways", "states", "start", "goals"] sp_path_to) (C_read_within : Cl P w K mg base "read_within" 3 ["windows", "word", "piece", "states", "state"] sp_read_within) (C_way : Cl P w K mg base "way" 2 ["windows", "word", "state", "letter"] sp_way) : Cl P w K mg base "circle_within" 4 ["windows", "word", "pieces", "ways", "states"] sp_circle_within := by
  refine D.cl sc_circle_within (fun _ _ _ _ _ _ us hl => match us, hl with | [_, _, _, _, _], _ => rfl) (fun vs H Q E h => ?_) (fun cdv f A outer s H vs Q E hr h => ?_)
  · obtain ⟨wa, pa, wy, sd, ws, ps, g, w0, kw, ks, N, gs, rfl, hwa, wd, hw60, hpa, hps0, hps8, hps9, hwy, hDc, gf, sts, hsd, hks, hgnd, hgs0, hgN, hmut, hall, q⟩ := h
    rfl
  · obtain ⟨wa, pa, wy, sd, ws, ps, g, w0, kw, ks, N, gs, rfl, hwa, wd, hw60, hpa, hps0, hps8, hps9, hwy, hDc, gf, sts, hsd, hks, hgnd, hgs0, hgN, hmut, hall, q⟩ := h
    have hu := hu_of hr
    have hu9 := hu9_of hr
    have hu64 := hu64_of hr
    refine ⟨_, (pss_cons (ps_set (i := 5) sc_circle_within.nd rfl (Or.inl rfl) (pe_ix ix_list (pe_callB (cr_sortedDS rfl hu64) (by rfl) U.srt (by decide +kernel) (pa_cons (pv 4) pa_nil)) pe_int (fun _ _ => rfl)))
 (pss_cons (ps_set (i := 6) sc_circle_within.nd rfl (Or.inl rfl) (pe_txt (t := []) (by decide +kernel)))
 (pss_cons (ps_set (i := 7) sc_circle_within.nd rfl (Or.inl rfl) (pv 5))
 (pss_cons (ps_for PassesOwn.never rfl (pi_tup (pv 2)) (pg_name (i := 8) sc_circle_within.nd rfl (Or.inl rfl)) (pss_cons (ps_set (i := 9) sc_circle_within.nd rfl (Or.inl rfl) pe_dnewT)
 (pss_cons (ps_lock (ps_for PassesOwn.never rfl (pi_keys (pv 4)) (pg_name (i := 10) sc_circle_within.nd rfl (Or.inl rfl)) (pss_one (ps_if (pt_val (pcall C_read_within hr (pa_cons (pv 0) (pa_cons (pv 1) (pa_cons (pv 8) (pa_cons (pv 4) (pa_cons (pv 10) pa_nil))))))) (pss_one (ps_dput hu (pv 9) (pv 10) pe_bl rfl)) pss_nil))))
 (pss_cons (ps_asg (pcall C_path_to hr (pa_cons (pv 3) (pa_cons (pv 4) (pa_cons (pv 7) (pa_cons (pv 9) pa_nil))))) (pg_tup (by rfl) (pgs_cons (pg_name (i := 12) sc_circle_within.nd rfl (Or.inl rfl)) (pgs_cons (pg_name (i := 7) sc_circle_within.nd rfl (Or.inl rfl)) pgs_nil))))
 (pss_cons (ps_set (i := 6) sc_circle_within.nd rfl (Or.inl rfl) (pe_op op_addT (pe_op op_addT (pv 6) (pv 12)) (pv 8)))
 (pss_one (ps_for PassesOwn.never rfl (pi_str (pv 8)) (pg_name (i := 11) sc_circle_within.nd rfl (Or.inl rfl)) (pss_one (ps_set (i := 7) sc_circle_within.nd rfl (Or.inl rfl) (pcall C_way hr (pa_cons (pv 0) (pa_cons (pv 1) (pa_cons (pv 7) (pa_cons (pv 11) pa_nil))))))))))))))
 (pss_cons (ps_asg (pcall C_path_to hr (pa_cons (pv 3) (pa_cons (pv 4) (pa_cons (pv 7) (pa_cons (pe_dispT1 hu (pv 5) pe_bl) pa_nil))))) (pg_tup (by rfl) (pgs_cons (pg_name (i := 12) sc_circle_within.nd rfl (Or.inl rfl)) (pgs_cons (pg_name (i := 7) sc_circle_within.nd rfl (Or.inl rfl)) pgs_nil))))
 (pss_one (ps_ret (pe_op op_addT (pv 6) (pv 12))))))))), ?_⟩
    have hgl : gs.length ≤ 2000 := Nat.le_trans (nodup_le hgnd hgN) gf.len
    have hkl := keys_len hks
    have hgss : ∀ s ∈ gs, s.1.length + 1 = g ∧ s.2 < w0.length := fun s hs => by
      obtain ⟨⟨x, hx, e⟩, h2⟩ := (sts.mem s).mp (hgN s hs)
      have h1 := wd.lg x hx
      have h3 := wd.g1
      refine ⟨?_, h2⟩
      rcases e with e | e
      · rw [e, List.length_dropLast]; omega
      · rw [e, List.length_drop]; omega
    have hg12 := wd.g12
    have hgs2 : ∀ s ∈ gs, s.1.length ≤ 20 ∧ s.2 ≤ w0.length := fun s hs => by
      have := hgss s hs
      omega
    walk_at "gx"
    refine ⟨sd, ks, gs, rfl, Rd.of hsd, hks, fun cs p hperm hcs hp => ?_⟩
    have sm1 : Same H (upd H p (.lst (cs.map fun b => V.ref b.1))) := sm_new hp
    rcases cs with _ | ⟨⟨a0, s0⟩, cs⟩
    · exact absurd (List.Perm.eq_nil (by simpa using hperm.symm)) hgs0
    have hpa1 := sm1 _ _ hpa
    have ha0 : StA H a0 s0 := hcs (a0, s0) (by simp)
    have hs0 : s0 ∈ gs := hperm.mem_iff.mp (by simp)
    refine w_ixL (k := 0) (v := .ref a0) upd_same (atI_nat (j := 0) (by rfl)) ?_
    walk_at "gx"
    refine w_forU (xs := ps.map sv) (fun i σ H3 => ∃ z u b v8 v9 v10 v11 v12, σ = [some (.ref wa), some (sv w0), some (.ref pa), some (.ref wy), some (.ref sd), some (.ref a0), some (sv z), some (.ref b), v8, v9, v10, v11, v12] ∧ Same H H3 ∧ StA H3 b u ∧ u ∈ gs ∧ runC ws w0 s0 z = some u ∧ (∀ p ∈ ps.take i, p <:+: z) ∧ z.length ≤ i * 2010) ⟨[], s0, a0, none, none, none, none, none, rfl, sm1, ha0.keep (sm_kp sm1), hs0, rfl, fun _ h => by simp at h, Nat.zero_le _⟩ (fun i σ H3 _ ⟨_, _, _, _, _, _, _, _, _, h, _⟩ => h _ _ hpa) ?_ ?_
    · rintro i x σ H3 hx ⟨z, u, b, v8, v9, v10, v11, v12, rfl, sm3, hb3, hu3, hrun, hin, hzl⟩
      rw [List.getElem?_map] at hx
      obtain ⟨pc, hpc, rfl⟩ := Option.map_eq_some_iff.mp hx
      have hpm := List.mem_of_getElem? hpc
      obtain ⟨hp1, hp9⟩ := hps9 pc hpm
      have hi8 : i < ps.length := (List.getElem?_eq_some_iff.mp hpc).1
      walk_at "gx"
      intro gd H4 hgd4 sm4 h4
      walk_at "gx"
      have hsd4 := sm4 _ _ (sm3 _ _ hsd)
      refine ⟨sd, .dT ks, hsd4, True.intro, fun o => ?_⟩
      have sm34 : Same H H4 := sm3.trans sm4
      have hgdH : H gd = none := sm3.free hgd4
      have ngs : gd ≠ sd := fun e => by rw [e, hsd] at hgdH; cases hgdH
      have nwsd : wa ≠ sd := ne_of hwa hsd fun z => nomatch z
      walk_at "gx"
      refine w_keysV (by rfl) upd_same ?_
      refine w_forK (fun j σ H5 => ∃ kg v10, σ = [some (.ref wa), some (sv w0), some (.ref pa), some (.ref wy), some (.ref sd), some (.ref a0), some (sv z), some (.ref b), some (sv pc), some (.ref gd), v10, v11, v12] ∧ Sx H3 H5 sd ∧ H5 sd = some (.frz o (.dT ks)) ∧ H5 gd = some (.dT kg) ∧ kg.map (·.1) = ((gs.take j).filter fun s => readIn ws w0 (fun u => decide (u ∈ gs)) s pc).map sk) ⟨[], v10, rfl, fun b o hb e => (by rw [upd_ne e]; exact sm4 _ _ hb), upd_same, by rw [upd_ne ngs]; exact h4, rfl⟩ (fun j σ H5 _ ⟨_, _, _, _, h, _⟩ => h) ?_ ?_
      · rintro j k v p1 σ H5 hj hp ⟨kg, v10, rfl, sx, hz, hgd5, hkg⟩
        obtain ⟨s1, hs1, rfl⟩ := key_nth hks hj
        have hp : StA H5 p1 s1 := hp
        have hwa5 := sx _ _ (sm3 _ _ hwa) nwsd
        have hkgl : kg.length ≤ 2000 := by
          have h1 := keys_len hkg
          have h2 := List.length_filter_le (fun s => readIn ws w0 (fun u => decide (u ∈ gs)) s pc) (gs.take j)
          rw [List.length_take] at h2
          omega
        walk_at "gx"
        refine ⟨wa, sd, p1, ws, g, w0, pc, s1, ks, gs, rfl, hwa5, wd, hw60, .inr ⟨o, hz⟩, hks, hgs2, hp, fun H6 sm6 => ?_⟩
        have hz6 := sm6 _ _ hz
        have hgd6 := sm6 _ _ hgd5
        have hp6 : StA H6 p1 s1 := hp.keep (sm_kp sm6)
        have ht := snoc_take hs1
        walk_at "gx"
        refine iteB (fun hr => ?_) (fun hr => ?_)
        · walk_at "gx"
          refine ⟨_, _, rfl, (sx.then sm6).upd hgd4, by rw [upd_ne ngs.symm]; exact hz6, upd_same, ?_⟩
          rw [ht, filter_snoc, if_pos hr]
          exact putK_keys hkg fun hm => not_take hgnd hs1 (List.mem_filter.mp hm).1
        · walk_at "gx"
          refine ⟨kg, _, rfl, sx.then sm6, hz6, hgd6, ?_⟩
          rw [ht, filter_snoc, if_neg (by rw [hr]; exact fun z => nomatch z)]
          exact hkg
      · rintro σ H5 ⟨kg, v10, rfl, sx, hz, hgd5, hkg⟩
        rw [hkl, List.take_length] at hkg
        refine ⟨hz, ?_⟩
        have sm5 : Same H3 (upd H5 sd (.dT ks)) := unlock (sm3 _ _ hsd) sx
        have sm6 : Same H (upd H5 sd (.dT ks)) := sm3.trans sm5
        walk_at "gx"
        obtain ⟨t0, ht0, hr0⟩ := List.any_eq_true.mp (hall pc hpm)
        refine ⟨wy, sd, b, gd, kw, ks, kg, N, gs, _, ws, w0, u, rfl, sm6 _ _ hwy, ?_, gf, sm6 _ _ hsd, hks, by rw [upd_ne ngs]; exact hgd5, hkg, hb3.keep (sm_kp sm5), hu3, hgnd, hgN, fun x hx => (hmut u hu3 x).mpr hx, ⟨t0, List.mem_filter.mpr ⟨ht0, hr0⟩, (hmut u hu3 t0).mp ht0⟩, fun r b2 t z2 H7 hr7 sm7 h7 hb7 htg htgs hz2 hz2l => ?_⟩
        · refine hDc.mono fun s v _ _ ⟨l, h1, h2⟩ => ⟨l, h1, ?_⟩
          exact h2.same (fun o ho => sm6 _ _ ho) (sm_kp sm6)
        have sm67 := sm6.trans sm7
        have hrd := (List.mem_filter.mp htg).2
        have hz20 : z.length ≤ 17000 := by omega
        walk_at "gx"
        refine w_forS (x := pc) (fun j σ H8 => ∃ b2 t v11, σ = [some (.ref wa), some (sv w0), some (.ref pa), some (.ref wy), some (.ref sd), some (.ref a0), some (sv (z ++ z2 ++ pc)), some (.ref b2), some (sv pc), some (.ref gd), v10, v11, some (sv z2)] ∧ Same H H8 ∧ StA H8 b2 t ∧ runC ws w0 s0 (z ++ z2 ++ pc.take j) = some t ∧ readIn ws w0 (fun u => decide (u ∈ gs)) t (pc.drop j) = true) ⟨b2, t, v11, rfl, sm67, hb7, ?_, by rw [List.drop_zero]; exact hrd⟩ ?_ ?_
        · rw [List.take_zero, List.append_nil, runC_app, hrun]
          exact hz2
        · rintro j c σ H8 hc ⟨b3, t3, v11, rfl, sm8, hb8, hr8, hi8⟩
          have hj : j < pc.length := (List.getElem?_eq_some_iff.mp hc).1
          have hdr : pc.drop j = c :: pc.drop (j + 1) := drop_at hc
          rw [hdr] at hi8
          have ht3 : t3 ∈ gs := of_decide_eq_true (readIn_in hi8)
          obtain ⟨t4, hst, hi9⟩ := readIn_cons hi8
          obtain ⟨h20, hw2⟩ := hgs2 t3 ht3
          walk_at "gx"
          refine ⟨wa, b3, ws, g, w0, t3, c, rfl, sm8 _ _ hwa, wd, hb8, h20, hw60, hw2, fun hn => (by rw [hst] at hn; cases hn), fun t5 hs5 r9 H9 hr9 sm9 h9 => ?_⟩
          rw [hst] at hs5
          injection hs5 with hs5
          subst hs5
          walk_at "gx"
          refine ⟨_, t4, _, rfl, sm8.trans sm9, h9, ?_, hi9⟩
          rw [snoc_take hc, ← List.append_assoc]
          exact runC_snoc hr8 hst
        · rintro σ H8 ⟨b3, t3, v11, rfl, sm8, hb8, hr8, hi8⟩
          rw [List.take_length] at hr8
          refine ⟨_, t3, _, _, _, _, _, _, rfl, sm8, hb8, of_decide_eq_true (readIn_in hi8), hr8, fun p hp => ?_, ?_⟩
          · rw [snoc_take hpc] at hp
            rcases List.mem_append.mp hp with hp | hp
            · rw [List.append_assoc]
              exact (hin p hp).trans (List.prefix_append _ _).isInfix
            · simp only [List.mem_singleton] at hp; subst hp
              exact (List.suffix_append _ _).isInfix
          · simp only [List.length_append]; omega
    · rintro σ H3 ⟨z, u, b, v8, v9, v10, v11, v12, rfl, sm3, hb3, hu3, hrun, hin, hzl⟩
      rw [List.length_map] at hin hzl
      rw [List.take_length] at hin
      have hz20 : z.length ≤ 17000 := by omega
      walk_at "gx"
      refine w_dispV (by rfl) (ha0.keep (sm_kp sm3)) ?_
      intro gd H4 hgd4 sm4 h4
      have sm34 : Same H H4 := sm3.trans sm4
      walk_at "gx"
      refine ⟨wy, sd, b, gd, kw, ks, _, N, gs, [s0], ws, w0, u, rfl, sm34 _ _ hwy, ?_, gf, sm34 _ _ hsd, hks, h4, rfl, hb3.keep (sm_kp sm4), hu3, hgnd, hgN, fun x hx => (hmut u hu3 x).mpr hx, ⟨s0, by simp, (hmut u hu3 s0).mp hs0⟩, fun r b2 t z2 H7 hr7 sm7 h7 hb7 htg htgs hz2 hz2l => ?_⟩
      · refine hDc.mono fun s v _ _ ⟨l, h1, h2⟩ => ⟨l, h1, ?_⟩
        exact h2.same (fun o ho => sm34 _ _ ho) (sm_kp sm34)
      simp only [List.mem_singleton] at htg
      subst htg
      walk_at "gx"
      have hrun2 : runC ws w0 t (z ++ z2) = some t := by rw [runC_app, hrun]; exact hz2
      have hne : z ++ z2 ≠ [] := by
        obtain ⟨p0, hp0⟩ := List.exists_mem_of_ne_nil ps hps0
        intro e
        have h1 := (hin p0 hp0).length_le
        have h2 := (hps9 p0 hp0).1
        have h3 := congrArg List.length e
        rw [List.length_append] at h3
        simp only [List.length_nil] at h3
        have : p0.length = 0 := by omega
        exact h2 (List.length_eq_zero_iff.mp this)
      obtain ⟨c1, c2⟩ := circle_lacks (ps := ps) wd.ne (hgss t hs0).1 (hgss t hs0).2 hne hrun2 fun p hp => (hin p hp).trans (List.prefix_append _ _).isInfix
      exact q _ _ (sm34.trans sm7) c1 c2 (by rw [List.length_append]; omega)

theorem sc_circle_decision : FnScope ["pieces", "windows", "word", "ways", "state", "groups", "gaps", "level", "levels", "numbers", "many", "missing", "k", "gram", "matched"] ["pieces", "windows", "word"] (defScope s_circle_decision) := ⟨rfl, rfl, rfl, by decide +kernel, rfl, by decide +kernel, by decide +kernel⟩
abbrev tLack : T := [108, 97, 99, 107, 105, 110, 103]
abbrev tAlw : T := [97, 108, 119, 97, 121, 115]
/-- a decision: lacking with a text that explains and lacks; or always -/
abbrev DecQ (H : Hp) (Q : VK) (Ex Has : T → Prop) : Prop := (∀ (r : Addr) (t : T) (H' : Hp), H r = none → Same H H' → H' r = some (.tup [sv tLack, sv t]) → Ex t → ¬ Has t → t.length ≤ 16000000 → Q (.ref r) H') ∧
  ∀ (r b : Addr) (H' : Hp), H r = none → Same H H' → H' r = some (.tup [sv tAlw, .ref b]) → (∀ t, Ex t → Has t) → Q (.ref r) H'
def sp_circle_decision : Sp := fun vs H Q _ => ∃ (pa wa : Addr) (ps ws : List T) (g : Nat) (w : T), vs = [.ref pa, .ref wa, sv w] ∧ H pa = some (.tup (ps.map sv)) ∧ H wa = some (.tup (ws.map sv)) ∧ Sh ps g ∧ Wn ps g ws ∧ w ≠ [] ∧ w.length ≤ 60 ∧ DecQ H Q (ExpC ps ws g) (fun t => onC t w)
theorem many_le {ns : List (S × Nat)} {many : Nat} (h : ∀ k, k < many → ∃ x, (x, k) ∈ ns) : many ≤ ns.length := by
  have := nodup_le (l := List.range many) (m := ns.map (·.2)) List.nodup_range fun k hk => by
    obtain ⟨x, hx⟩ := h k (List.mem_range.mp hk)
    exact List.mem_map.mpr ⟨_, hx, rfl⟩
  simpa using this
theorem outC_len (ws : List T) (w : T) (s : S) : (outC ws w s).length ≤ ws.length :=
  Nat.le_trans (List.length_filterMap_le _ _) (fol_len ws s.1)
theorem grp_nd {ns : List (S × Nat)} {k : Nat} (h : (dom ns).Nodup) : (grp ns k).Nodup := by
  unfold grp
  exact h.sublist (List.Sublist.map _ List.filter_sublist)
theorem ok_circle_decision {P : Program} {w : World} {K : PySem.W.Frag} {mg : Str → Option Value} {base : Heap} (D : Df K mg "circle_decision" s_circle_decision) (U : Bu mg) (C_can_read : Cl P w K mg base "can_read" 4 ["windows", "word", "piece", "states"] sp_can_read) (C_circle_within : Cl P w K mg base "circle_within" 4 ["windows", "word", "pieces", "ways", "states"] sp_circle_within) (C_components_of : Cl P w K mg base "components_of" 2 ["ways"] sp_components_of) (C_grouped : Cl P w K mg base "grouped" 1 ["numbers", "many"] sp_grouped) (C_state_list : Cl P w K mg base "state_list" 2 ["windows", "word"] sp_state_list) (C_ways_from : Cl P w K mg base "ways_from" 3 ["windows", "word", "state"] sp_ways_from) : Cl P w K mg base "circle_decision" 5 ["pieces", "windows", "word"] sp_circle_decision := by
  refine D.cl sc_circle_decision (fun _ _ _ _ _ _ us hl => match us, hl with | [_, _, _], _ => rfl) (fun vs H Q E h => ?_) (fun cdv f A outer s H vs Q E hr h => ?_)
  · obtain ⟨pa, wa, ps, ws, g, w0, rfl, hpa, hwa, sh, wn, hw0, hw60, q⟩ := h
    rfl
  · obtain ⟨pa, wa, ps, ws, g, w0, rfl, hpa, hwa, sh, wn, hw0, hw60, q⟩ := h
    have hu := hu_of hr
    have hu9 := hu9_of hr
    have hu64 := hu64_of hr
    refine ⟨_, (pss_cons (ps_set (i := 3) sc_circle_decision.nd rfl (Or.inl rfl) pe_dnewT)
 (pss_cons (ps_for PassesOwn.never rfl (pi_tup (pcall C_state_list hr (pa_cons (pv 1) (pa_cons (pv 2) pa_nil)))) (pg_name (i := 4) sc_circle_decision.nd rfl (Or.inl rfl)) (pss_one (ps_dput hu (pv 3) (pv 4) (pcall C_ways_from hr (pa_cons (pv 1) (pa_cons (pv 2) (pa_cons (pv 4) pa_nil)))) rfl)))
 (pss_cons (ps_asg (pcall C_components_of hr (pa_cons (pv 3) pa_nil)) (pg_tup (by rfl) (pgs_cons (pg_name (i := 9) sc_circle_decision.nd rfl (Or.inr rfl)) (pgs_cons (pg_name (i := 10) sc_circle_decision.nd rfl (Or.inl rfl)) pgs_nil))))
 (pss_cons (ps_set (i := 5) sc_circle_decision.nd rfl (Or.inr rfl) (pcall C_grouped hr (pa_cons (pv 9) (pa_cons (pv 10) pa_nil))))
 (pss_cons (ps_set (i := 6) sc_circle_decision.nd rfl (Or.inl rfl) (pe_lst pa_nil))
 (pss_cons (ps_for PassesOwn.never rfl (pi_range1 rfl U.rng (pa_cons (pv 10) pa_nil)) (pg_name (i := 7) sc_circle_decision.nd rfl (Or.inr rfl)) (pss_cons (ps_setLc (i := 11) (own := [("k", 12)]) (g := (gName 12)) (by rfl) sc_circle_decision.nd rfl rfl (sw_true rfl rfl rfl (by decide +kernel)) (pi_range1 rfl U.rng (pa_cons (pe_callB (len_seq (K := K) rfl) (by rfl) U.len (by decide +kernel) (pa_cons (pv 0) pa_nil)) pa_nil)) (blkOk_by (N := ["pieces", "windows", "word", "ways", "state", "groups", "gaps", "level", "levels", "numbers", "many", "missing", "k", "gram", "matched"]) (sc := defScope s_circle_decision) (by decide +kernel)) (fun _ _ _ _ _ => (pg_name (i := 12) sc_circle_decision.nd rfl (Or.inl rfl))) (fun _ _ _ _ _ => (pts_one (pt_not (pt_val (pcall C_can_read hr (pa_cons (pv 1) (pa_cons (pv 2) (pa_cons (pe_ix (ix_tupK (K := K) rfl) (pv 0) (pv 12) (fun _ _ => rfl)) (pa_cons (pe_ix (ix_listK (K := K) rfl) (pv 5) (pv 7) (fun _ _ => rfl)) pa_nil))))))))) (fun _ _ _ _ _ => (pv 12)))
 (pss_cons (ps_if (pt_cmpR op_eq (pe_callB (len_seq (K := K) rfl) (by rfl) U.len (by decide +kernel) (pa_cons (pv 11) pa_nil)) pe_int (nomark _)) (pss_one (ps_ret (pe_tup (pa_cons (pe_txt (t := [108, 97, 99, 107, 105, 110, 103]) (by decide +kernel)) (pa_cons (pcall C_circle_within hr (pa_cons (pv 1) (pa_cons (pv 2) (pa_cons (pv 0) (pa_cons (pv 3) (pa_cons (pe_ix ix_list (pv 5) (pv 7) (fun _ _ => rfl)) pa_nil)))))) pa_nil))))) pss_nil)
 (pss_one (ps_expr (pe_bm PySem.F.plainAttrs_list PySem.F.slot_list_append PySem.F.type_list_append mt_append (pv 6) (pa_cons (pe_tup (pa_cons (pv 7) (pa_cons (pe_ix ix_list (pv 11) pe_int (fun _ _ => rfl)) pa_nil))) pa_nil)))))))
 (pss_cons (ps_set (i := 8) sc_circle_decision.nd rfl (Or.inl rfl) (pe_callTy (tup_of (K := K) rfl) (by rfl) U.tpl (by decide +kernel) (pa_cons (pe_lc (own := [("gram", 13), ("matched", 14)]) (g := (gTup K 2 (gCons (gName 13) (gCons (gName 14) gNil)))) (tt := tYes) (by rfl) sc_circle_decision.nd (pi_tup (pcall C_state_list hr (pa_cons (pv 1) (pa_cons (pv 2) pa_nil)))) (blkOk_by (N := ["pieces", "windows", "word", "ways", "state", "groups", "gaps", "level", "levels", "numbers", "many", "missing", "k", "gram", "matched"]) (sc := defScope s_circle_decision) (by decide +kernel)) (fun _ _ _ _ _ => (pg_tup (by rfl) (pgs_cons (pg_name (i := 13) sc_circle_decision.nd rfl (Or.inl rfl)) (pgs_cons (pg_name (i := 14) sc_circle_decision.nd rfl (Or.inl rfl)) pgs_nil)))) (fun _ _ _ _ _ => pts_nil) (fun _ _ _ _ _ => (pe_tup (pa_cons (pv 13) (pa_cons (pv 14) (pa_cons (pe_dget hu (pv 9) (pe_tup (pa_cons (pv 13) (pa_cons (pv 14) pa_nil))) (fun _ _ => rfl)) pa_nil)))))) pa_nil)))
 (pss_one (ps_ret (pe_tup (pa_cons (pe_txt (t := [97, 108, 119, 97, 121, 115]) (by decide +kernel)) (pa_cons (pe_tup (pa_cons (pv 8) (pa_cons (pe_callTy (tup_of (K := K) rfl) (by rfl) U.tpl (by decide +kernel) (pa_cons (pv 6) pa_nil)) pa_nil))) pa_nil)))))))))))), ?_⟩
    have wd := wn.wd sh
    have hwl := wd.len
    have hg12 := wd.g12
    walk_at "gx"
    intro wy H1 hwy sm1 h1
    walk_at "gx"
    refine ⟨wa, ws, g, w0, rfl, sm1 _ _ hwa, wd, hw60, fun sl bs H2 hsl sm2 h2 hbs stl => ?_⟩
    have hsts := stl.sts
    have hNl : (bs.map (·.2)).length ≤ 1200 := Nat.le_trans stl.len (by omega)
    have hbl : bs.length ≤ 1200 := by rw [List.length_map] at hNl; exact hNl
    have sm12 : Same H H2 := sm1.trans sm2
    have hwy2 := sm2 _ _ h1
    walk_at "gx"
    have hN : ∀ s ∈ bs.map (·.2), s.1.length ≤ 20 ∧ s.2 ≤ w0.length := fun s hs => by
      obtain ⟨⟨x, hx, e⟩, h2⟩ := (hsts.mem s).mp hs
      have h1 := wd.lg x hx
      have h3 := wd.g1
      rcases e with e | e
      · rw [e, List.length_dropLast]; omega
      · rw [e, List.length_drop]; omega
    refine w_forU (xs := rfs bs) (fun i σ H3 => ∃ v4 kw, σ = [some (.ref pa), some (.ref wa), some (sv w0), some (.ref wy), v4, none, none, none, none, none, none, none, none, none, none] ∧ Same H H3 ∧ Sx H2 H3 wy ∧ H3 wy = some (.dT kw) ∧ DcV (WyR H3 (outC ws w0)) kw ((bs.map (·.2)).take i)) ⟨none, [], rfl, sm12, fun _ _ h _ => h, hwy2, DcV.nil⟩ (fun i σ H3 _ ⟨_, _, _, _, h, _⟩ => h _ _ h2 (ne_of h2 hwy2 fun z => nomatch z)) ?_ ?_
    · rintro i x σ H3 hx ⟨v4, kw, rfl, sm3, sx, hwy3, hD⟩
      rw [List.getElem?_map] at hx
      obtain ⟨⟨b, s⟩, hbi, rfl⟩ := Option.map_eq_some_iff.mp hx
      have hb3 : StA H3 b s := sx.kp hwy2 (fun _ z => nomatch z) _ _ (hbs _ (List.mem_of_getElem? hbi))
      have hsi : (bs.map (·.2))[i]? = some s := by rw [List.getElem?_map, hbi]; rfl
      obtain ⟨h20, hm⟩ := hN s (List.mem_of_getElem? hsi)
      have hkl := hD.len
      rw [List.length_take] at hkl
      have hkwl : kw.length ≤ 1200 := by omega
      walk_at "gx"
      refine ⟨wa, b, ws, g, w0, s, rfl, sm3 _ _ hwa, wd, hb3, h20, hw60, hm, fun r H4 hr4 sm4 hr => ?_⟩
      have hwy4 := sm4 _ _ hwy3
      have hb4 : StA H4 b s := hb3.keep (sm_kp sm4)
      walk_at "gx"
      have kp : Kp H4 (upd H4 wy (.dT (putK kw (sk s) (.ref r)))) := Kp.dT hwy4
      have hel : ∀ {l : Addr} {es : List (Nat × S)}, EdL H4 l es → EdL (upd H4 wy (.dT (putK kw (sk s) (.ref r)))) l es := fun h => h.same (fun o ho => by
        obtain ⟨vs, h1, _⟩ := h
        rw [upd_ne (ne_of h1 hwy4 fun z => nomatch z)]; exact ho) kp
      refine ⟨_, _, rfl, sm_mut (sm3.trans sm4) hwy, fun c o hc e => ?_, upd_same, ?_⟩
      · rw [upd_ne e]; exact sm4 _ _ (sx _ _ hc e)
      · rw [snoc_take hsi]
        refine DcV.add (hD.mono fun t v _ _ ⟨l, h1, h2⟩ => ⟨l, h1, hel (h2.same (fun o ho => sm4 _ _ ho) (sm_kp sm4))⟩) (not_take stl.nd hsi) ⟨r, rfl, hel hr⟩
    · rintro σ H3 ⟨v4, kw, rfl, sm3, sx, hwy3, hD⟩
      rw [List.take_of_length_le (by simp)] at hD
      have gf : Grf (bs.map (·.2)) (outC ws w0) := ⟨hsts.suc, by omega, stl.nd, fun x _ => Nat.le_trans (outC_len ws w0 x) (by omega)⟩
      walk_at "gx"
      refine ⟨wy, kw, bs.map (·.2), outC ws w0, rfl, hwy3, hD, gf, fun r nm ns many kn H4 hr4 sm4 h4 hnm4 hnm3 hDn scc => ?_⟩
      have hnl : ns.length ≤ 1200 := by
        have h1 := nodup_le scc.nd (m := bs.map (·.2)) fun x hx => (scc.all x).mp hx
        rw [List.length_map] at h1
        omega
      have hml := many_le scc.inh
      walk_at "gx"
      refine ⟨nm, kn, ns, many, rfl, hnm4, hDn, scc.lt, scc.nd, by omega, by omega, fun gl gs H5 hgl5 sm5 h5 hgl hgs => ?_⟩
      have sm15 : Same H H5 := sm3.trans (sm4.trans sm5)
      have hwy5 := sm5 _ _ (sm4 _ _ hwy3)
      have hnm5 := sm5 _ _ hnm4
      have hD5 : DcV (WyR H5 (outC ws w0)) kw (bs.map (·.2)) := hD.mono fun t v _ _ ⟨l, h1, h2⟩ => ⟨l, h1, h2.same (fun o ho => sm5 _ _ (sm4 _ _ ho)) (sm_kp (sm4.trans sm5))⟩
      walk_at "gx"
      intro gp H6 hgp sm6 h6
      walk_at "gx"
      refine w_R1 (by omega) (by omega) ?_
      have e1 : ((many : Int)).toNat = many := by omega
      rw [e1]
      refine w_forR (fun k σ H7 => ∃ v7 v11 v12 acc, σ = [some (.ref pa), some (.ref wa), some (sv w0), some (.ref wy), v4, some (.ref gl), some (.ref gp), v7, none, some (.ref nm), some (iv many), v11, v12, none, none] ∧ Same H5 H7 ∧ H7 gp = some (.lst acc) ∧ acc.length = k ∧ ∀ j, j < k → ∃ x ∈ ps, ∀ s, (s, j) ∈ ns → readIn ws w0 (fun u => decide ((u, j) ∈ ns)) s x = false) ⟨none, none, none, [], rfl, sm6, h6, rfl, fun j hj => (by omega)⟩ ?_ ?_
      · rintro k σ H7 hk ⟨v7, v11, v12, acc, rfl, sm7, hgp7, hacc, hgap⟩
        obtain ⟨d, hd⟩ : ∃ d, gs[k]? = some d := ⟨_, List.getElem?_eq_getElem (by omega)⟩
        obtain ⟨kd, hkd5, hkk⟩ := hgs k d hd
        have hkd7 := sm7 _ _ hkd5
        have hgl7 := sm7 _ _ h5
        have hpa7 := sm7 _ _ (sm15 _ _ hpa)
        have hwa7 := sm7 _ _ (sm15 _ _ hwa)
        have hgkl : (grp ns k).length ≤ 2000 := Nat.le_trans grp_len (by omega)
        have hgN : ∀ x ∈ grp ns k, x ∈ bs.map (·.2) := fun x hx => (scc.all x).mp (List.mem_map.mpr ⟨_, mem_grp.mp hx, rfl⟩)
        have e2 : ((0 : Int) + (k : Int)) = (k : Int) := by omega
        have hdk : (gs.map V.ref)[k]? = some (.ref d) := by rw [List.getElem?_map, hd]; rfl
        have hp8 := sh.len
        rw [e2]
        walk_at "gx"
        refine w_R1 (by omega) (by rw [List.length_map]; omega) ?_
        have e3 : (((ps.map sv).length : Int)).toNat = ps.length := by rw [List.length_map]; omega
        rw [e3]
        refine lc_R (fun i => if (!((grp ns k).any fun s => readIn ws w0 (fun u => decide (u ∈ grp ns k)) s (ps.getD i []))) = true then [iv i] else []) (fun _ _ => if_len) (by walk_at "sz") (fun i H8 hi sm8 R hR => ?_) ?_
        · have e4 : ((0 : Int) + (i : Int)) = (i : Int) := by omega
          rw [e4]
          have hpi : (ps.map sv)[i]? = some (sv (ps.getD i [])) := by
            rw [List.getElem?_map, List.getElem?_eq_getElem hi, List.getD_eq_getElem?_getD, List.getElem?_eq_getElem hi]; rfl
          walk_at "gx"
          refine ⟨rfl, ?_⟩
          walk_at "gx"
          refine w_ixU (sm8 _ _ hpa7) (atI_nat hpi) ?_
          walk_at "gx"
          refine w_ixL (sm8 _ _ hgl7) (atI_nat hdk) ?_
          walk_at "gx"
          refine ⟨wa, d, ws, g, w0, ps.getD i [], kd, grp ns k, rfl, sm8 _ _ hwa7, wd, hw60, sm8 _ _ hkd7, hkk, fun s hs => hN s (hgN s hs), hgkl, fun H9 sm9 => ?_⟩
          have := hR H9 sm9
          walk_at "gx"
          cases hb : (!((grp ns k).any fun s => readIn ws w0 (fun u => decide (u ∈ grp ns k)) s (ps.getD i []))) with
          | true =>
            rw [hb] at this
            walk_at "gx"
            refine iteT ?_
            walk_at "gx"
            exact this
          | false =>
            rw [hb] at this
            walk_at "gx"
            exact this
        · intro ml H8 hml8 sm8 h8
          rw [flat_if (fun i => !((grp ns k).any fun s => readIn ws w0 (fun u => decide (u ∈ grp ns k)) s (ps.getD i []))) iv] at h8
          have hmem : ∀ j, j ∈ (List.range ps.length).filter (fun i => !((grp ns k).any fun s => readIn ws w0 (fun u => decide (u ∈ grp ns k)) s (ps.getD i []))) ↔ j < ps.length ∧ ((grp ns k).any fun s => readIn ws w0 (fun u => decide (u ∈ grp ns k)) s (ps.getD j [])) = false := fun j => by
            rw [List.mem_filter, List.mem_range, Bool.not_eq_true']
          generalize (List.range ps.length).filter (fun i => !((grp ns k).any fun s => readIn ws w0 (fun u => decide (u ∈ grp ns k)) s (ps.getD i []))) = bad at h8 hmem
          have hgl8 := sm8 _ _ hgl7
          have sm58 : Same H5 H8 := sm7.trans sm8
          have sm08 : Same H H8 := sm15.trans sm58
          walk_at "gx"
          rcases bad with _ | ⟨j0, bad⟩
          · refine iteDt rfl ?_
            walk_at "gx"
            refine w_ixL hgl8 (atI_nat hdk) ?_
            walk_at "gx"
            refine ⟨wa, pa, wy, d, ws, ps, g, w0, kw, kd, bs.map (·.2), grp ns k, rfl, sm08 _ _ hwa, wd, hw60, sm08 _ _ hpa, sh.ne, sh.len, fun p hp => ⟨sh.pne p hp, sh.p9 p hp⟩, sm58 _ _ hwy5, ?_, gf, hsts, sm8 _ _ hkd7, hkk, grp_nd scc.nd, ?_, hgN, fun x hx y => ?_, fun p hp => ?_, fun t H9 sm9 c1 c2 c3 => ?_⟩
            · exact hD5.mono fun t v _ _ ⟨l, h1, h2⟩ => ⟨l, h1, h2.same (fun o ho => sm58 _ _ ho) (sm_kp sm58)⟩
            · obtain ⟨x, hx⟩ := scc.inh k hk
              exact List.ne_nil_of_mem (mem_grp.mpr hx)
            · have hx := mem_grp.mp hx
              constructor
              · intro hy
                exact (scc.same _ hx _ (mem_grp.mp hy)).mp rfl
              · intro hm
                have hxN : x ∈ bs.map (·.2) := (scc.all x).mp (List.mem_map.mpr ⟨_, hx, rfl⟩)
                have hyN : y ∈ bs.map (·.2) := by
                  have : ∀ {a b : S}, Reach (sucC ws w0) a b → a ∈ bs.map (·.2) → b ∈ bs.map (·.2) := fun hr => by
                    induction hr with
                    | refl => exact id
                    | step h _ ih => exact fun ha => ih (hsts.suc _ ha _ h)
                  exact this hm.1 hxN
                obtain ⟨⟨y', m⟩, hy', e⟩ := List.mem_map.mp ((scc.all y).mpr hyN)
                simp only at e
                subst e
                have : k = m := (scc.same _ hx _ hy').mpr hm
                subst this
                exact mem_grp.mpr hy'
            · obtain ⟨j, hj, e⟩ := List.getElem_of_mem hp
              have h1 : ps.getD j [] = p := by rw [List.getD_eq_getElem?_getD, List.getElem?_eq_getElem hj, e]; rfl
              cases hb : ((grp ns k).any fun s => readIn ws w0 (fun u => decide (u ∈ grp ns k)) s p) with
              | true => rfl
              | false =>
                have := (hmem j).mpr ⟨hj, by rw [h1]; exact hb⟩
                cases this
            · walk_at "gx"
              intro r H10 hr sm10 h10
              exact q.1 r t H10 ((sm08.trans sm9).free hr) ((sm08.trans sm9).trans sm10) h10 c1 c2 (by omega)
          · refine iteDf (by simp only [List.map_cons, List.length_cons]; omega) ?_
            obtain ⟨hj, hb⟩ := (hmem j0).mp (by simp)
            have hgp8 := sm8 _ _ hgp7
            walk_at "gx"
            refine w_ixL h8 (atI_nat (j := 0) (by rfl)) ?_
            walk_at "gx"
            intro tp H9 htp sm9 h9
            have hgp9 := sm9 _ _ hgp8
            have hal : acc.length < sizeLine := by rw [sizeLine_eq]; omega
            walk_at "gx"
            refine ⟨_, _, _, _, rfl, sm_mut (sm58.trans sm9) hgp, upd_same, by simp [hacc], fun j hjk => ?_⟩
            by_cases e : j = k
            · subst e
              refine ⟨ps.getD j0 [], by rw [List.getD_eq_getElem?_getD, List.getElem?_eq_getElem hj]; exact List.getElem_mem hj, fun s hs => ?_⟩
              have h1 := List.any_eq_false.mp hb s (mem_grp.mpr hs)
              have e5 : (fun u => decide (u ∈ grp ns j)) = (fun u => decide ((u, j) ∈ ns)) := by
                funext u
                exact decide_eq_decide.mpr mem_grp
              rw [e5] at h1
              simpa using h1
            · exact hgap j (by omega)
      · rintro σ H7 ⟨v7, v11, v12, acc, rfl, sm7, hgp7, hacc, hgap⟩
        have sm07 : Same H H7 := sm15.trans sm7
        walk_at "gx"
        refine ⟨wa, ws, g, w0, rfl, sm07 _ _ hwa, wd, hw60, fun sl2 bs2 H8 hsl2 sm8 h8 hbs2 stl2 => ?_⟩
        have hl2 : bs2.length ≤ 1200 := by
          have := stl2.len
          rw [List.length_map] at this
          omega
        have hnm8 := sm8 _ _ (sm7 _ _ hnm5)
        walk_at "gx"
        refine lc_gU (xs := rfs bs2) (by rw [List.length_map]; walk_at "sz") fun D hD => ⟨fun _ H' _ => Same H8 H', sm_new hD, fun _ _ _ _ sm => sm _ _ h8, ?_, ?_⟩
        · rintro i x H9 acc2 hx hal sm9 hD9 R hy hn
          rw [List.getElem?_map] at hx
          obtain ⟨⟨b, s⟩, hbi, rfl⟩ := Option.map_eq_some_iff.mp hx
          have hb : H9 b = some (.tup [sv s.1, iv s.2]) := sm9 _ _ (hbs2 _ (List.mem_of_getElem? hbi))
          have hsN : s ∈ dom ns := (scc.all s).mpr ((hsts.mem s).mpr ((stl2.sts.mem s).mp (List.mem_map.mpr ⟨_, List.mem_of_getElem? hbi, rfl⟩)))
          obtain ⟨v, hv, k, rfl, _⟩ := hDn.get hsN
          walk_at "gx"
          refine ⟨rfl, ?_⟩
          walk_at "gx"
          refine iteT ?_
          walk_at "gx"
          intro p1 H10 hp1 sm10 h10
          have hs10 : StA H10 p1 s := h10
          refine w_getD (Rd.of (sm10 _ _ (sm9 _ _ hnm8))) hs10 hv ?_
          walk_at "gx"
          intro p2 H11 hp2 sm11 h11
          exact hy _ _ (sm11 _ _ (sm10 _ _ hD9)) (sm_mut ((sm9.trans sm10).trans sm11) hD)
        · rintro H9 acc2 sm9 hal hD9
          have hgp9 := sm9 _ _ (sm8 _ _ hgp7)
          walk_at "gx"
          intro tl H10 htl sm10 h10
          have hgp10 := sm10 _ _ hgp9
          walk_at "gx"
          intro tg H11 htg sm11 h11
          walk_at "gx"
          intro tp H12 htp sm12 h12
          walk_at "gx"
          intro r H13 hr13 sm13 h13
          have sm0 : Same H H12 := sm07.trans (sm8.trans (sm9.trans (sm10.trans (sm11.trans sm12))))
          exact q.2 r tp H13 (sm0.free hr13) (sm0.trans sm13) h13 fun t E => circle_always sh.g1 hsts scc hw0 hgap E

theorem sc_tail_after : FnScope ["pieces", "tail", "letter", "read", "start", "end", "piece"] ["pieces", "tail", "letter"] (defScope s_tail_after) := ⟨rfl, rfl, rfl, by decide +kernel, rfl, by decide +kernel, by decide +kernel⟩
def sp_tail_after : Sp := fun vs H Q _ => ∃ (pa : Addr) (ps : List T) (t : T) (c : Nat), vs = [.ref pa, sv t, sv [c]] ∧ H pa = some (.tup (ps.map sv)) ∧ (∀ p ∈ ps, p.length ≤ 100) ∧ t.length ≤ 100 ∧ ∀ H', Same H H' → Q (sv (tl ps (t ++ [c]))) H'
theorem pre_take {a p : T} : p.take a.length = a ↔ a <+: p := by
  rw [List.prefix_iff_eq_take]
  exact eq_comm
theorem ok_tail_after {P : Program} {w : World} {K : PySem.W.Frag} {mg : Str → Option Value} {base : Heap} (D : Df K mg "tail_after" s_tail_after) (U : Bu mg) : Cl P w K mg base "tail_after" 1 ["pieces", "tail", "letter"] sp_tail_after := by
  refine D.cl sc_tail_after (fun _ _ _ _ _ _ us hl => match us, hl with | [_, _, _], _ => rfl) (fun vs H Q E h => ?_) (fun cdv f A outer s H vs Q E hr h => ?_)
  · obtain ⟨pa, ps, t, c, rfl, hpa, hpl, htl, q⟩ := h
    rfl
  · obtain ⟨pa, ps, t, c, rfl, hpa, hpl, htl, q⟩ := h
    have hu := hu_of hr
    have hu9 := hu9_of hr
    have hu64 := hu64_of hr
    refine ⟨_, (pss_cons (ps_set (i := 3) sc_tail_after.nd rfl (Or.inl rfl) (pe_op op_addT (pv 1) (pv 2)))
 (pss_cons (ps_for PassesOwn.never rfl (pi_range1 rfl U.rng (pa_cons (pe_callB len_txt (by rfl) U.len (by decide +kernel) (pa_cons (pv 3) pa_nil)) pa_nil)) (pg_name (i := 4) sc_tail_after.nd rfl (Or.inl rfl)) (pss_cons (ps_set (i := 5) sc_tail_after.nd rfl (Or.inl rfl) (pe_slice sl_txt1 (pv 3) (po_some (pv 4)) po_none))
 (pss_one (ps_for PassesOwn.never rfl (pi_tup (pv 0)) (pg_name (i := 6) sc_tail_after.nd rfl (Or.inl rfl)) (pss_one (ps_if (pt_cmpR op_eq (pe_slice sl_txt1 (pv 6) po_none (po_some (pe_callB len_txt (by rfl) U.len (by decide +kernel) (pa_cons (pv 5) pa_nil)))) (pv 5) (nomark _)) (pss_one (ps_ret (pv 5))) pss_nil))))))
 (pss_one (ps_ret (pe_txt (t := []) (by decide +kernel)))))), ?_⟩
    have hrl : (t ++ [c]).length = t.length + 1 := by simp
    walk_at "gx"
    generalize t ++ [c] = rd at *
    refine w_R1 (by omega) (by omega) ?_
    have e1 : ((rd.length : Int)).toNat = rd.length := by omega
    rw [e1]
    refine w_forR (fun i σ H1 => ∃ v4 v5 v6, σ = [some (.ref pa), some (sv t), some (sv [c]), some (sv rd), v4, v5, v6] ∧ Same H H1 ∧ tl ps rd = tl ps (rd.drop i)) ⟨none, none, none, rfl, Same.refl _, rfl⟩ ?_ ?_
    · rintro i σ H1 hi ⟨v4, v5, v6, rfl, sm1, htd⟩
      have e2 : ((0 : Int) + (i : Int)) = (i : Int) := by omega
      rw [e2]
      have hpa1 := sm1 _ _ hpa
      have hdl : (rd.drop i).length = rd.length - i := List.length_drop
      have hdr : rd.drop i = rd[i] :: rd.drop (i + 1) := List.drop_eq_getElem_cons hi
      walk_at "gx"
      simp only [Int.toNat_natCast]
      refine w_forU (xs := ps.map sv) (fun j σ H2 => ∃ v6, σ = [some (.ref pa), some (sv t), some (sv [c]), some (sv rd), some (iv i), some (sv (rd.drop i)), v6] ∧ Same H H2 ∧ ∀ p ∈ ps.take j, ¬ rd.drop i <+: p) ⟨v6, rfl, sm1, fun _ h => (by simp at h)⟩ (fun j σ H2 _ ⟨_, _, h, _⟩ => h _ _ hpa) ?_ ?_
      · rintro j x σ H2 hx ⟨v6, rfl, sm2, hno⟩
        rw [List.getElem?_map] at hx
        obtain ⟨p, hp, rfl⟩ := Option.map_eq_some_iff.mp hx
        have hpm := List.mem_of_getElem? hp
        have hp100 := hpl p hpm
        walk_at "gx"
        simp only [Int.toNat_natCast]
        refine iteD (fun e => ?_) (fun e => ?_)
        · walk_at "gx"
          have hb : isBeg ps (rd.drop i) = true := isBeg_iff.mpr ⟨p, hpm, pre_take.mp e⟩
          have e3 : tl ps rd = rd.drop i := by
            rw [htd]
            rw [hdr] at hb ⊢
            show (if isBeg ps _ then _ else _) = _
            rw [if_pos hb]
          have := q H2 sm2
          rw [e3] at this
          exact this
        · walk_at "gx"
          refine ⟨_, rfl, sm2, fun p' hp' => ?_⟩
          rw [List.take_add_one, hp] at hp'
          rcases List.mem_append.mp hp' with h | h
          · exact hno p' h
          · simp only [Option.toList_some, List.mem_singleton] at h; subst h
            exact fun h => e (pre_take.mpr h)
      · rintro σ H2 ⟨v6, rfl, sm2, hno⟩
        rw [List.length_map, List.take_length] at hno
        refine ⟨_, _, _, rfl, sm2, ?_⟩
        rw [htd, hdr]
        show (if isBeg ps _ then _ else _) = _
        rw [if_neg]
        intro hb
        obtain ⟨p, hp, h⟩ := isBeg_iff.mp hb
        rw [← hdr] at h
        exact hno p hp h
    · rintro σ H1 ⟨v4, v5, v6, rfl, sm1, htd⟩
      rw [List.drop_length] at htd
      walk_at "gx"
      have := q H1 sm1
      rw [htd] at this
      exact this

theorem sc_state_after : FnScope ["pieces", "word", "state", "letter", "fresh", "longer", "now", "gram", "tail", "matched", "found", "k"] ["pieces", "word", "state", "letter"] (defScope s_state_after) := ⟨rfl, rfl, rfl, by decide +kernel, rfl, by decide +kernel, by decide +kernel⟩
theorem w_g4 {K : PySem.W.Frag} {σ : L2.St} {H : Hp} {P : L2.St → Hp → Prop} {n i j k l : Nat} {p : Addr} {x y z u : V} (h : H p = some (.tup [x, y, z, u])) (hn : 4 = n) (q : P ((((σ.set i (some x)).set j (some y)).set k (some z)).set l (some u)) H) : gTup K n (gCons (gName i) (gCons (gName j) (gCons (gName k) (gCons (gName l) gNil)))) (.ref p) σ H P := by
  refine ⟨p, _, rfl, SqT.of h, hn, x, _, rfl, ?_⟩
  refine w_name ?_
  refine ⟨y, _, rfl, ?_⟩
  refine w_name ?_
  refine ⟨z, _, rfl, ?_⟩
  refine w_name ?_
  refine ⟨u, _, rfl, ?_⟩
  refine w_name ?_
  exact ⟨rfl, q⟩
def sp_state_after : Sp := fun vs H Q _ => ∃ (pa a : Addr) (ps : List T) (w : T) (s : LSt) (c : Nat), vs = [.ref pa, sv w, .ref a, sv [c]] ∧ H pa = some (.tup (ps.map sv)) ∧ ps.length ≤ 100 ∧ (∀ p ∈ ps, p.length ≤ 100) ∧ w.length ≤ 60 ∧ LsA H a s ∧ s.1.length ≤ 20 ∧ s.2.1.length ≤ 100 ∧ s.2.2.1 ≤ w.length ∧
  (stA ps w s c = none → ∀ H', Same H H' → Q .non H') ∧ ∀ t, stA ps w s c = some t → ∀ r H', H r = none → Same H H' → LsA H' r t → Q (.ref r) H'
theorem ok_state_after {P : Program} {w : World} {K : PySem.W.Frag} {mg : Str → Option Value} {base : Heap} (D : Df K mg "state_after" s_state_after) (U : Bu mg) (C_advance : Cl P w K mg base "advance" 1 ["word", "matched", "letter"] sp_advance) (C_tail_after : Cl P w K mg base "tail_after" 1 ["pieces", "tail", "letter"] sp_tail_after) : Cl P w K mg base "state_after" 2 ["pieces", "word", "state", "letter"] sp_state_after := by
  refine D.cl sc_state_after (fun _ _ _ _ _ _ us hl => match us, hl with | [_, _, _, _], _ => rfl) (fun vs H Q E h => ?_) (fun cdv f A outer s H vs Q E hr h => ?_)
  · obtain ⟨pa, a, ps, w0, ⟨gr, ta, m, fo⟩, c, rfl, hpa, hpl, hp100, hw60, ⟨fa, ha, hfa⟩, hgr, hta, hm, q1, q2⟩ := h
    rfl
  · obtain ⟨pa, a, ps, w0, ⟨gr, ta, m, fo⟩, c, rfl, hpa, hpl, hp100, hw60, ⟨fa, ha, hfa⟩, hgr, hta, hm, q1, q2⟩ := h
    have hu := hu_of hr
    have hu9 := hu9_of hr
    have hu64 := hu64_of hr
    refine ⟨_, (pss_cons (ps_asg (pv 2) (pg_tup (by rfl) (pgs_cons (pg_name (i := 7) sc_state_after.nd rfl (Or.inl rfl)) (pgs_cons (pg_name (i := 8) sc_state_after.nd rfl (Or.inl rfl)) (pgs_cons (pg_name (i := 9) sc_state_after.nd rfl (Or.inl rfl)) (pgs_cons (pg_name (i := 10) sc_state_after.nd rfl (Or.inr rfl)) pgs_nil))))))
 (pss_cons (ps_set (i := 4) sc_state_after.nd rfl (Or.inl rfl) (pcall C_advance hr (pa_cons (pv 1) (pa_cons (pv 9) (pa_cons (pv 3) pa_nil)))))
 (pss_cons (ps_if (pt_cmpR op_eq (pv 4) (pe_callB len_txt (by rfl) U.len (by decide +kernel) (pa_cons (pv 1) pa_nil)) (nomark _)) (pss_one (ps_ret pe_non)) pss_nil)
 (pss_cons (ps_set (i := 5) sc_state_after.nd rfl (Or.inr rfl) (pcall C_tail_after hr (pa_cons (pv 0) (pa_cons (pv 8) (pa_cons (pv 3) pa_nil)))))
 (pss_cons (ps_set (i := 6) sc_state_after.nd rfl (Or.inl rfl) (pe_callTy (tup_of (K := K) rfl) (by rfl) U.tpl (by decide +kernel) (pa_cons (pe_lc (own := [("k", 11)]) (g := (gName 11)) (by rfl) sc_state_after.nd (pi_range1 rfl U.rng (pa_cons (pe_callB (len_seq (K := K) rfl) (by rfl) U.len (by decide +kernel) (pa_cons (pv 0) pa_nil)) pa_nil)) (blkOk_by (N := ["pieces", "word", "state", "letter", "fresh", "longer", "now", "gram", "tail", "matched", "found", "k"]) (sc := defScope s_state_after) (by decide +kernel)) (fun _ _ _ _ _ => (pg_name (i := 11) sc_state_after.nd rfl (Or.inl rfl))) (fun _ _ _ _ _ => (pts_one (PW.pt (pw_or (pt_cmpR (op_inN (K := K) rfl) (pv 11) (pv 10) (by rfl)) (pw_or1 (pt_val (pe_m1 PySem.F.slot_str_endswith PySem.F.type_str_endswith ends_txt (pv 5) (pe_ix (ix_tupK (K := K) rfl) (pv 0) (pv 11) (fun _ _ => rfl))))))))) (fun _ _ _ _ _ => (pv 11))) pa_nil)))
 (pss_one (ps_ret (pe_tup (pa_cons (pe_slice sl_txt1 (pe_op op_addT (pv 7) (pv 3)) (po_some pe_int) po_none) (pa_cons (pv 5) (pa_cons (pv 4) (pa_cons (pv 6) pa_nil)))))))))))), ?_⟩
    have hgr : gr.length ≤ 20 := hgr
    have hta : ta.length ≤ 100 := hta
    have hm : m ≤ w0.length := hm
    have ha : H a = some (.tup [sv gr, sv ta, iv m, .ref fa]) := ha
    have hfa : H fa = some (.tup (fo.map iv)) := hfa
    walk_at "gx"
    refine w_g4 ha (by rfl) ?_
    walk_at "gx"
    refine ⟨w0, m, c, rfl, hw60, hm, fun H1 sm1 => ?_⟩
    walk_at "gx"
    refine iteD (fun e => ?_) (fun e => ?_)
    · walk_at "gx"
      refine q1 ?_ H1 sm1
      unfold stA
      rw [if_pos (by show adv w0 m c = _; omega)]
    · walk_at "gx"
      refine ⟨pa, ps, ta, c, rfl, sm1 _ _ hpa, hp100, hta, fun H2 sm2 => ?_⟩
      have sm12 := sm1.trans sm2
      have hpa2 := sm12 _ _ hpa
      have hst : stA ps w0 (gr, ta, m, fo) c = some ((gr ++ [c]).drop 1, tl ps (ta ++ [c]), adv w0 m c, newF ps fo (tl ps (ta ++ [c]))) := by
        unfold stA
        rw [if_neg (by show ¬ adv w0 m c = _; omega)]
      have htl := (tl_suf ps (ta ++ [c])).length_le
      rw [List.length_append, List.length_singleton] at htl
      generalize tl ps (ta ++ [c]) = lo at hst htl
      walk_at "gx"
      refine w_R1 (by omega) (by rw [List.length_map]; omega) ?_
      have e3 : (((ps.map sv).length : Int)).toNat = ps.length := by rw [List.length_map]; omega
      rw [e3]
      refine lc_R (fun i => if (decide (i ∈ fo) || decide (ps.getD i [] <:+ lo)) = true then [iv i] else []) (fun _ _ => if_len) (by walk_at "sz") (fun i H3 hi sm3 R hR => ?_) ?_
      · have e4 : ((0 : Int) + (i : Int)) = (i : Int) := by omega
        rw [e4]
        have hpi : (ps.map sv)[i]? = some (sv (ps.getD i [])) := by
          rw [List.getElem?_map, List.getElem?_eq_getElem hi, List.getD_eq_getElem?_getD, List.getElem?_eq_getElem hi]; rfl
        have hR := hR H3 (Same.refl _)
        walk_at "gx"
        refine ⟨rfl, ?_⟩
        walk_at "gx"
        refine ⟨i, fa, fo, rfl, rfl, SqT.of (sm3 _ _ (sm12 _ _ hfa)), ?_⟩
        walk_at "gx"
        refine iteD (fun hin => ?_) (fun hin => ?_)
        · rw [decide_eq_true hin, Bool.true_or, if_pos rfl] at hR
          refine iteT ?_
          walk_at "gx"
          exact hR
        · rw [decide_eq_false hin, Bool.false_or] at hR
          walk_at "gx"
          refine w_ixU (sm3 _ _ hpa2) (atI_nat hpi) ?_
          walk_at "gx"
          refine iteD (fun he => ?_) (fun he => ?_)
          · rw [if_pos (decide_eq_true he)] at hR
            walk_at "gx"
            exact hR
          · rw [if_neg (by simpa using he)] at hR
            exact hR
      · intro nl H3 hnl sm3 h3
        rw [flat_if (fun i => decide (i ∈ fo) || decide (ps.getD i [] <:+ lo)) iv] at h3
        walk_at "gx"
        intro nt H4 hnt sm4 h4
        walk_at "gx"
        intro r H5 hr5 sm5 h5
        have sm4' := sm12.trans (sm3.trans sm4)
        exact q2 _ hst r H5 (sm4'.free hr5) (sm4'.trans sm5) ⟨nt, h5, sm5 _ _ h4⟩

theorem sc_line_way_of : FnScope ["pieces", "windows", "word", "state", "letter"] ["pieces", "windows", "word", "state", "letter"] (defScope s_line_way_of) := ⟨rfl, rfl, rfl, by decide +kernel, rfl, by decide +kernel, by decide +kernel⟩
def sp_line_way_of : Sp := fun vs H Q _ => ∃ (pa wa a : Addr) (ps ws : List T) (w : T) (s : LSt) (c : Nat), vs = [.ref pa, .ref wa, sv w, .ref a, sv [c]] ∧ H pa = some (.tup (ps.map sv)) ∧ H wa = some (.tup (ws.map sv)) ∧ (∀ x ∈ ws, x ≠ []) ∧ (∀ x ∈ ws, x.length ≤ 100) ∧ ws.length ≤ 1000 ∧ c ∈ fol ws s.1 ∧
  ps.length ≤ 100 ∧ (∀ p ∈ ps, p.length ≤ 100) ∧ w.length ≤ 60 ∧ LsA H a s ∧ s.1.length ≤ 20 ∧ s.2.1.length ≤ 100 ∧ s.2.2.1 ≤ w.length ∧
  (stA ps w s c = none → ∀ H', Same H H' → Q .non H') ∧ ∀ t, stA ps w s c = some t → ∀ r H', H r = none → Same H H' → LsA H' r t → Q (.ref r) H'
theorem ok_line_way_of {P : Program} {w : World} {K : PySem.W.Frag} {mg : Str → Option Value} {base : Heap} (D : Df K mg "line_way_of" s_line_way_of) (U : Bu mg) (C_following : Cl P w K mg base "following" 1 ["windows", "gram"] sp_following) (C_state_after : Cl P w K mg base "state_after" 2 ["pieces", "word", "state", "letter"] sp_state_after) : Cl P w K mg base "line_way_of" 3 ["pieces", "windows", "word", "state", "letter"] sp_line_way_of := by
  refine D.cl sc_line_way_of (fun _ _ _ _ _ _ us hl => match us, hl with | [_, _, _, _, _], _ => rfl) (fun vs H Q E h => ?_) (fun cdv f A outer s H vs Q E hr h => ?_)
  · obtain ⟨pa, wa, a, ps, ws, w0, ⟨gr, ta, m, fo⟩, c, rfl, hpa, hwa, hwne, hwl, hwn, hc, hpl, hp100, hw60, ha, hgr, hta, hm, q1, q2⟩ := h
    rfl
  · obtain ⟨pa, wa, a, ps, ws, w0, ⟨gr, ta, m, fo⟩, c, rfl, hpa, hwa, hwne, hwl, hwn, hc, hpl, hp100, hw60, ha, hgr, hta, hm, q1, q2⟩ := h
    have hu := hu_of hr
    have hu9 := hu9_of hr
    have hu64 := hu64_of hr
    refine ⟨_, (pss_cons (ps_if (PW.pt (pw_or (pt_cmpR op_eq (pv 4) (pe_txt (t := []) (by decide +kernel)) (nomark _)) (pw_or1 (pt_cmpR op_niC (pv 4) (pcall C_following hr (pa_cons (pv 1) (pa_cons (pe_ix ix_tup (pv 3) pe_int (fun _ _ => rfl)) pa_nil))) (by rfl))))) (pss_one (ps_ret pe_non)) pss_nil)
 (pss_one (ps_ret (pcall C_state_after hr (pa_cons (pv 0) (pa_cons (pv 2) (pa_cons (pv 3) (pa_cons (pv 4) pa_nil)))))))), ?_⟩
    have hLs := ha
    obtain ⟨fa, ha, hfa⟩ := ha
    have hgr' : gr.length ≤ 20 := hgr
    have ha : H a = some (.tup [sv gr, sv ta, iv m, .ref fa]) := ha
    walk_at "gx"
    refine iteDf (by simp) ?_
    walk_at "gx"
    refine w_ixU ha (atI_nat (j := 0) (by rfl)) ?_
    walk_at "gx"
    refine ⟨wa, ws, gr, rfl, hwa, hwne, hwl, hwn, fun H1 sm1 => ?_⟩
    walk_at "gx"
    refine iteNf hc ?_
    walk_at "gx"
    refine ⟨pa, a, ps, w0, (gr, ta, m, fo), c, rfl, sm1 _ _ hpa, hpl, hp100, hw60, LsA.keep hLs (sm_kp sm1), hgr, hta, hm, fun hs H2 sm2 => ?_, fun t hs r H2 hr2 sm2 h2 => ?_⟩
    · exact q1 hs H2 (sm1.trans sm2)
    · exact q2 t hs r H2 (sm1.free hr2) (sm1.trans sm2) h2

theorem sc_first_list : FnScope ["pieces", "windows", "word", "states", "gram", "state", "letter"] ["pieces", "windows", "word"] (defScope s_first_list) := ⟨rfl, rfl, rfl, by decide +kernel, rfl, by decide +kernel, by decide +kernel⟩
/-- a list of references to lines' states -/
def RfL (H : Hp) (bs : List (Addr × LSt)) : Prop := ∀ b ∈ bs, LsA H b.1 b.2
theorem RfL.keep {H H' : Hp} {bs : List (Addr × LSt)} (h : RfL H bs) (k : Kp H H') : RfL H' bs := fun b hb => LsA.keep (h b hb) k
abbrev rfl_ (bs : List (Addr × LSt)) : List V := bs.map fun b => V.ref b.1
/-- a state or None -/
def OpL (H : Hp) (v : V) (o : Option LSt) : Prop := match o with
  | none => v = .non
  | some s => ∃ a, v = .ref a ∧ LsA H a s
def sp_first_list : Sp := fun vs H Q _ => ∃ (pa wa : Addr) (ps ws : List T) (g : Nat) (w : T), vs = [.ref pa, .ref wa, sv w] ∧ H pa = some (.tup (ps.map sv)) ∧ H wa = some (.tup (ws.map sv)) ∧ Wd ws g ∧ ps.length ≤ 100 ∧ (∀ p ∈ ps, p ≠ [] ∧ p.length ≤ 100) ∧ w ≠ [] ∧ w.length ≤ 60 ∧
  ∀ (r : Addr) (bs : List (Addr × LSt)) (gs : List T) (H' : Hp), H r = none → Same H H' → H' r = some (.tup (rfl_ bs)) → RfL H' bs → Gr ws gs → (bs.map (·.2)).Perm ((gs.filter fun x => !decide (w <:+: x)).map fun x => stG ps w x x) → Q (.ref r) H'
theorem rdA_snoc {ps : List T} {w : T} {o : Option LSt} {z : T} {c : Nat} : rdA ps w o (z ++ [c]) = (rdA ps w o z).bind fun s => stA ps w s c := by
  unfold rdA
  rw [List.foldl_append]
  rfl
theorem ok_first_list {P : Program} {w : World} {K : PySem.W.Frag} {mg : Str → Option Value} {base : Heap} (D : Df K mg "first_list" s_first_list) (U : Bu mg) (C_gram_list : Cl P w K mg base "gram_list" 1 ["windows"] sp_gram_list) (C_state_after : Cl P w K mg base "state_after" 2 ["pieces", "word", "state", "letter"] sp_state_after) : Cl P w K mg base "first_list" 3 ["pieces", "windows", "word"] sp_first_list := by
  refine D.cl sc_first_list (fun _ _ _ _ _ _ us hl => match us, hl with | [_, _, _], _ => rfl) (fun vs H Q E h => ?_) (fun cdv f A outer s H vs Q E hr h => ?_)
  · obtain ⟨pa, wa, ps, ws, g, w0, rfl, hpa, hwa, wd, hpl, hps, hw0, hw60, q⟩ := h
    rfl
  · obtain ⟨pa, wa, ps, ws, g, w0, rfl, hpa, hwa, wd, hpl, hps, hw0, hw60, q⟩ := h
    have hu := hu_of hr
    have hu9 := hu9_of hr
    have hu64 := hu64_of hr
    refine ⟨_, (pss_cons (ps_set (i := 3) sc_first_list.nd rfl (Or.inl rfl) (pe_lst pa_nil))
 (pss_cons (ps_for PassesOwn.never rfl (pi_tup (pcall C_gram_list hr (pa_cons (pv 1) pa_nil))) (pg_name (i := 4) sc_first_list.nd rfl (Or.inl rfl)) (pss_cons (ps_set (i := 5) sc_first_list.nd rfl (Or.inl rfl) (pe_tup (pa_cons (pe_txt (t := []) (by decide +kernel)) (pa_cons (pe_txt (t := []) (by decide +kernel)) (pa_cons pe_int (pa_cons (pe_tup pa_nil) pa_nil))))))
 (pss_cons (ps_for PassesOwn.never rfl (pi_str (pv 4)) (pg_name (i := 6) sc_first_list.nd rfl (Or.inl rfl)) (pss_one (ps_if (pt_cmpR op_notN1 (pv 5) pe_non (nomark _)) (pss_one (ps_set (i := 5) sc_first_list.nd rfl (Or.inl rfl) (pcall C_state_after hr (pa_cons (pv 0) (pa_cons (pv 2) (pa_cons (pv 5) (pa_cons (pv 6) pa_nil))))))) pss_nil)))
 (pss_one (ps_if (pt_cmpR op_notN1 (pv 5) pe_non (nomark _)) (pss_one (ps_expr (pe_bm PySem.F.plainAttrs_list PySem.F.slot_list_append PySem.F.type_list_append mt_append (pv 3) (pa_cons (pe_tup (pa_cons (pv 4) (pa_cons (pe_ix ix_tup (pv 5) pe_int (fun _ _ => rfl)) (pa_cons (pe_ix ix_tup (pv 5) pe_int (fun _ _ => rfl)) (pa_cons (pe_ix ix_tup (pv 5) pe_int (fun _ _ => rfl)) pa_nil))))) pa_nil)))) pss_nil)))))
 (pss_one (ps_ret (pe_callTy (tup_of (K := K) rfl) (by rfl) U.tpl (by decide +kernel) (pa_cons (pe_callB (cr_sortedLS hu64) (by rfl) U.srt (by decide +kernel) (pa_cons (pv 3) pa_nil)) pa_nil)))))), ?_⟩
    have hwl := wd.len
    have hg12 := wd.g12
    have hpne : ∀ p ∈ ps, p ≠ [] := fun p hp => (hps p hp).1
    walk_at "gx"
    intro sl H1 hsl sm1 h1
    walk_at "gx"
    refine ⟨wa, ws, g, rfl, sm1 _ _ hwa, wd, fun ga gs H2 hga sm2 h2 gr => ?_⟩
    have hgl := gr.len
    have hgg := gr.lg wd
    have hsl2 := sm2 _ _ h1
    walk_at "gx"
    have sm12 := sm1.trans sm2
    refine w_forU (xs := gs.map sv) (fun i σ H3 => ∃ v4 v5 v6 acc, σ = [some (.ref pa), some (.ref wa), some (sv w0), some (.ref sl), v4, v5, v6] ∧ Same H H3 ∧ H3 ga = some (.tup (gs.map sv)) ∧ H3 sl = some (.lst (rfl_ acc)) ∧ RfL H3 acc ∧ acc.map (·.2) = ((gs.take i).filter fun x => !decide (w0 <:+: x)).map fun x => stG ps w0 x x) ⟨none, none, none, [], rfl, sm12, h2, hsl2, fun _ h => (by cases h), rfl⟩ (fun i σ H3 _ ⟨_, _, _, _, _, _, h, _⟩ => h) ?_ ?_
    · rintro i x σ H3 hx ⟨v4, v5, v6, acc, rfl, sm3, hga3, hsl3, hac3, eac⟩
      rw [List.getElem?_map] at hx
      obtain ⟨gm, hgm, rfl⟩ := Option.map_eq_some_iff.mp hx
      have hi : i < gs.length := (List.getElem?_eq_some_iff.mp hgm).1
      have hgml := hgg gm (List.mem_of_getElem? hgm)
      have hacl : acc.length ≤ 20 := by
        have h1 := congrArg List.length eac
        rw [List.length_map, List.length_map] at h1
        have h2 := List.length_filter_le (fun x => !decide (w0 <:+: x)) (gs.take i)
        rw [List.length_take] at h2
        omega
      walk_at "gx"
      intro e0 H4 he0 sm4 h4
      walk_at "gx"
      intro s0 H5 hs0 sm5 h5
      walk_at "gx"
      have sm35 := sm4.trans sm5
      have ls0 : LsA H5 s0 ([], [], 0, []) := ⟨e0, h5, sm5 _ _ h4⟩
      refine w_forS (x := gm) (fun j σ H6 => ∃ v5 v6 o, σ = [some (.ref pa), some (.ref wa), some (sv w0), some (.ref sl), some (sv gm), some v5, v6] ∧ Same H3 H6 ∧ OpL H6 v5 o ∧ rdA ps w0 (some ([], [], 0, [])) (gm.take j) = o) ⟨_, v6, some ([], [], 0, []), rfl, sm35, ⟨s0, rfl, ls0⟩, rfl⟩ ?_ ?_
      · rintro j c σ H6 hc ⟨v5, v6, o, rfl, sm6, ho, e⟩
        have hj : j < gm.length := (List.getElem?_eq_some_iff.mp hc).1
        have ht := snoc_take hc
        cases o with
        | none =>
          cases (show v5 = .non from ho)
          walk_at "gx"
          refine iteNf rfl ?_
          walk_at "gx"
          exact ⟨_, _, none, rfl, sm6, rfl, by rw [ht, rdA_snoc, e]; rfl⟩
        | some s1 =>
          obtain ⟨b, rfl, hb⟩ := ho
          have e' := e
          rw [rdA_eq hpne hw0] at e'
          have hs1 : s1 = stG ps w0 [] (gm.take j) := by
            split at e'
            · cases e'
            · injection e' with e'; exact e'.symm
          have htl := (tl_suf ps (gm.take j)).length_le
          rw [List.length_take] at htl
          walk_at "gx"
          refine iteNt (fun z => nomatch z) ?_
          walk_at "gx"
          refine ⟨pa, b, ps, w0, s1, c, rfl, sm6 _ _ (sm3 _ _ hpa), hpl, fun p hp => (hps p hp).2, hw60, hb, by rw [hs1]; exact Nat.zero_le _, by rw [hs1]; show (tl ps (gm.take j)).length ≤ _; omega, by rw [hs1]; exact mat_le _ _, fun hs H7 sm7 => ?_, fun t hs r H7 hr7 sm7 h7 => ?_⟩
          · walk_at "gx"
            exact ⟨_, _, none, rfl, sm6.trans sm7, rfl, by rw [ht, rdA_snoc, e]; exact hs⟩
          · walk_at "gx"
            exact ⟨_, _, some t, rfl, sm6.trans sm7, ⟨r, rfl, h7⟩, by rw [ht, rdA_snoc, e]; exact hs⟩
      · rintro σ H6 ⟨v5, v6, o, rfl, sm6, ho, e⟩
        rw [List.take_length, rdA_eq hpne hw0] at e
        have ht := snoc_take hgm
        have hsl6 := sm6 _ _ hsl3
        cases o with
        | none =>
          cases (show v5 = .non from ho)
          have hin : w0 <:+: gm := by
            split at e
            · assumption
            · cases e
          walk_at "gx"
          refine iteNf rfl ?_
          walk_at "gx"
          refine ⟨_, _, _, acc, rfl, sm3.trans sm6, sm6 _ _ hga3, hsl6, hac3.keep (sm_kp sm6), ?_⟩
          rw [eac, ht, filter_snoc, if_neg (by simpa using hin)]
        | some s1 =>
          obtain ⟨b, rfl, cb, hb, hcb⟩ := ho
          have hin : ¬ w0 <:+: gm := by
            split at e
            · cases e
            · assumption
          rw [if_neg hin] at e
          injection e with e
          subst e
          have hb : H6 b = some (.tup [sv [], sv (tl ps gm), iv (mat w0 gm), .ref cb]) := hb
          walk_at "gx"
          refine iteNt (fun z => nomatch z) ?_
          walk_at "gx"
          refine w_ixU hb (atI_nat (j := 1) (by rfl)) ?_
          walk_at "gx"
          refine w_ixU hb (atI_nat (j := 2) (by rfl)) ?_
          walk_at "gx"
          refine w_ixU hb (atI_nat (j := 3) (by rfl)) ?_
          walk_at "gx"
          intro t H7 ht7 sm7 h7
          have hsl7 := sm7 _ _ hsl6
          have hal : (rfl_ acc).length < sizeLine := by rw [List.length_map, sizeLine_eq]; omega
          walk_at "gx"
          have kp : Kp H7 (upd H7 sl (.lst (rfl_ acc ++ [.ref t]))) := Kp.lst hsl7
          have hga7 := sm7 _ _ (sm6 _ _ hga3)
          refine ⟨_, _, _, acc ++ [(t, stG ps w0 gm gm)], rfl, sm_mut (sm3.trans (sm6.trans sm7)) hsl, kp _ _ hga7, ?_, fun b' hb' => ?_, ?_⟩
          · rw [upd_same]
            show some (HO.lst _) = some (HO.lst ((acc ++ [(t, stG ps w0 gm gm)]).map fun b => V.ref b.1))
            rw [List.map_append]; rfl
          · rcases List.mem_append.mp hb' with h | h
            · exact LsA.keep (hac3 b' h) ((sm_kp (sm6.trans sm7)).trans kp)
            · simp only [List.mem_singleton] at h; subst h
              exact ⟨cb, kp _ _ h7, kp _ _ (sm7 _ _ hcb)⟩
          · rw [List.map_append, eac, ht, filter_snoc, if_pos (by simpa using hin), List.map_append]
            rfl
    · rintro σ H3 ⟨v4, v5, v6, acc, rfl, sm3, hga3, hsl3, hac3, eac⟩
      rw [List.length_map, List.take_length] at eac
      walk_at "gx"
      refine ⟨sl, acc, rfl, SqL.of hsl3, hac3, fun cs p hperm hp => ?_⟩
      have sm4 : Same H3 (upd H3 p (.lst (cs.map fun b => V.ref b.1))) := sm_new hp
      have h4 : (upd H3 p (.lst (cs.map fun b => V.ref b.1))) p = some (.lst (rfl_ cs)) := upd_same
      walk_at "gx"
      intro r H5 hr5 sm5 h5
      refine q r cs gs H5 ((sm3.trans sm4).free hr5) ((sm3.trans sm4).trans sm5) h5 (fun b hb => LsA.keep (hac3 b (hperm.mem_iff.mp hb)) (sm_kp (sm4.trans sm5))) gr ?_
      rw [← eac]
      exact hperm.map _

theorem sc_line_decision : FnScope ["pieces", "windows", "word", "texts", "order", "state", "at", "letter", "other"] ["pieces", "windows", "word"] (defScope s_line_decision) := ⟨rfl, rfl, rfl, by decide +kernel, rfl, by decide +kernel, by decide +kernel⟩
section
variable {P : Program} {w : World} {σ : L2.St} {H H' : Hp} {Q : VK} {D : Ends} {td ty tv : TE} {a b d : Addr} {s : LSt} {v : V} {kvs : List (LSt × V)}
def NGetR (P : Program) (w : World) (x y : V) (H : Hp) (Q : VK) : Prop := ∃ a v, x = .ref a ∧ NGet P w H a y (some v) ∧ Q v H
theorem w_nGet (h : td σ H fun x H1 => ty σ H1 fun y H2 => NGetR P w x y H2 Q) : tDGetN P w td ty σ H Q := h
theorem w_getN (h : NDct P w H d kvs) (hb : LsA H b s) (hv : valV kvs s = some v) (q : Q v H) : NGetR P w (.ref d) (.ref b) H Q := ⟨d, v, rfl, ⟨kvs, s, b, h, rfl, hb, hv.symm⟩, q⟩
def NNiR (P : Program) (w : World) (x y : V) (H : Hp) (Q : VK) : Prop := ∃ a o, x = .ref a ∧ NGet P w H a y o ∧ Q (.bl (!o.isSome)) H
theorem w_nNi (h : ty σ H fun y H1 => td σ H1 fun x H2 => NNiR P w x y H2 Q) : tDNotInN P w ty td σ H Q := h
theorem w_niD (h : NDct P w H d kvs) (hb : LsA H b s) (q : Q (.bl (!(valV kvs s).isSome)) H) : NNiR P w (.ref d) (.ref b) H Q := ⟨d, _, rfl, ⟨kvs, s, b, h, rfl, hb, rfl⟩, q⟩
def NPutR (P : Program) (w : World) (x y v : V) (H : Hp) (N : Hp → Prop) : Prop := ∃ a kvs k b, x = .ref a ∧ NDct P w H a kvs ∧ y = .ref b ∧ LsA H b k ∧ kvs.length < sizeLine ∧ ∀ ob, NDct P w (upd H a ob) a (putK kvs k v) → N (upd H a ob)
theorem w_nPut (h : tv σ H fun v H1 => td σ H1 fun x H2 => ty σ H2 fun y H3 => NPutR P w x y v H3 (D.nx σ)) : sDPutN P w td ty tv D σ H := h
theorem w_putN {N : Hp → Prop} (h : NDct P w H d kvs) (hb : LsA H b s) (hl : kvs.length < sizeLine) (q : ∀ ob, NDct P w (upd H d ob) d (putK kvs s v) → N (upd H d ob)) : NPutR P w (.ref d) (.ref b) v H N := ⟨d, kvs, s, b, rfl, h, rfl, hb, hl, q⟩
end
theorem valN_in {kvs : List (LSt × V)} {ss : List LSt} {s : LSt} (hk : kvs.map (·.1) = ss) : (valV kvs s).isSome = decide (s ∈ ss) := by
  rw [Bool.eq_iff_iff, decide_eq_true_eq, ← hk]
  constructor
  · intro h
    obtain ⟨v, hv⟩ := Option.isSome_iff_exists.mp h
    exact valV_in hv
  · intro h
    cases e : valV kvs s with
    | some v => rfl
    | none => exact absurd h (valV_not e)
theorem gram_ten {ps ws gs : List T} {g : Nat} (sh : Sh ps g) (wn : Wn ps g ws) (gr : Gr ws gs) : gs.length ≤ 10 := by
  obtain ⟨b, hb, hi⟩ := sh.base
  have hg := gr.lg (wn.wd sh)
  have := nodup_le (m := (List.range (b.length + 1)).map fun i => (b.drop i).take (g - 1)) gr.nd fun x hx => by
    obtain ⟨y, hy, e⟩ := (gr.mem x).mp hx
    obtain ⟨_, p, hp, h2⟩ := (wn.mem y).mp hy
    have h3 : x <:+: y := by
      rcases e with rfl | rfl
      · exact (List.dropLast_prefix y).isInfix
      · exact (List.drop_suffix 1 y).isInfix
    exact infix_nth (h3.trans (h2.trans (hi p hp))) (hg x hx)
  rw [List.length_map, List.length_range] at this
  omega
def sp_line_decision : Sp := fun vs H Q _ => ∃ (pa wa : Addr) (ps ws : List T) (g : Nat) (w : T), vs = [.ref pa, .ref wa, sv w] ∧ H pa = some (.tup (ps.map sv)) ∧ H wa = some (.tup (ws.map sv)) ∧ Sh ps g ∧ Wn ps g ws ∧ w ≠ [] ∧ w.length ≤ 60 ∧ DecQ H Q (ExpL ps ws g) (fun t => w <:+: t)
/-- while it searches -/
structure LI (P : Program) (w : World) (ps ws gs : List T) (g : Nat) (w0 : T) (H H3 : Hp) (od tx : Addr) (ob : List (Addr × LSt)) (kvs : List (LSt × V)) : Prop where
  sm : Same H H3
  on : H od = none
  fs : H tx = none
  o : H3 od = some (.lst (rfl_ ob))
  s : NDct P w H3 tx kvs
  keys : kvs.map (·.1) = ob.map (·.2)
  vals : ∀ s ∈ ob.map (·.2), ∃ z, valV kvs s = some (sv z) ∧ Led ps ws w0 g s z ∧ z.length ≤ 12 + ob.length
  r : RfL H3 ob
  nd : (ob.map (·.2)).Nodup
  sub : ∀ x ∈ ob.map (·.2), x.1 ∈ gs
section
variable {P : Program} {w : World} {ps ws gs : List T} {g : Nat} {w0 : T} {H H3 H4 : Hp} {od tx b : Addr} {ob : List (Addr × LSt)} {kvs : List (LSt × V)} {u : LSt} {z : T}
theorem LI.same (h : LI P w ps ws gs g w0 H H3 od tx ob kvs) (sm : Same H3 H4) : LI P w ps ws gs g w0 H H4 od tx ob kvs :=
  ⟨h.sm.trans sm, h.on, h.fs, sm _ _ h.o, h.s.keep (fun o ho => sm _ _ ho) (sm_kp sm), h.keys, h.vals, h.r.keep (sm_kp sm), h.nd, h.sub⟩
theorem LI.len (h : LI P w ps ws gs g w0 H H3 od tx ob kvs) (sh : Sh ps g) (hg : gs.length ≤ 10) (hw : w0.length ≤ 60) : ob.length ≤ 12288000 ∧ kvs.length = ob.length := by
  have h1 := nodup_le h.nd (m := univ gs ps w0.length) fun x hx => by
    obtain ⟨z, _, h2, _⟩ := h.vals x hx
    exact led_univ sh.ne h2 (h.sub x hx)
  have h2 := univ_len (ps := ps) (grams := gs) (n := w0.length) (b := 9) sh.p9
  have h3 : 2 ^ ps.length ≤ 2 ^ 8 := Nat.pow_le_pow_right (by decide) sh.len
  rw [show (2 : Nat) ^ 8 = 256 from rfl] at h3
  have h4 : w0.length * 2 ^ ps.length ≤ 60 * 256 := Nat.mul_le_mul hw h3
  have h5 : ps.length * (9 + 1) ≤ 80 := by have := sh.len; omega
  have h6 : ps.length * (9 + 1) * (w0.length * 2 ^ ps.length) ≤ 80 * (60 * 256) := Nat.mul_le_mul h5 h4
  have h7 : gs.length * (ps.length * (9 + 1) * (w0.length * 2 ^ ps.length)) ≤ 10 * (80 * (60 * 256)) := Nat.mul_le_mul hg h6
  have h8 := congrArg List.length h.keys
  rw [List.length_map, List.length_map] at h8
  rw [List.length_map] at h1
  exact ⟨by omega, h8⟩
theorem LI.ne (h : LI P w ps ws gs g w0 H H3 od tx ob kvs) : od ≠ tx := h.s.neL h.o
theorem LI.add (h : LI P w ps ws gs g w0 H H4 od tx ob kvs) {o' : HO} (hz : Led ps ws w0 g u z) (hl : z.length ≤ 13 + ob.length) (hg : u.1 ∈ gs) (hn : u ∉ ob.map (·.2)) (hb : LsA H4 b u) (N : NDct P w (upd H4 tx o') tx (putK kvs u (sv z))) :
    LI P w ps ws gs g w0 H (upd (upd H4 tx o') od (.lst (rfl_ ob ++ [.ref b]))) od tx (ob ++ [(b, u)]) (putK kvs u (sv z)) := by
  have hne := h.ne
  have kp1 : Kp H4 (upd H4 tx o') := fun c xs hc => by rw [upd_ne (h.s.ne hc)]; exact hc
  have ho1 : upd H4 tx o' od = some (.lst (rfl_ ob)) := by rw [upd_ne hne]; exact h.o
  have kp2 : Kp (upd H4 tx o') (upd (upd H4 tx o') od (.lst (rfl_ ob ++ [.ref b]))) := Kp.lst ho1
  have hv0 : valV kvs u = none := by
    have := valN_in (s := u) h.keys
    rw [decide_eq_false hn] at this
    cases e : valV kvs u with
    | none => rfl
    | some x => rw [e] at this; cases this
  refine ⟨sm_mut (sm_mut h.sm h.fs) h.on, h.on, h.fs, ?_, N.keep (fun o ho => by rw [upd_ne hne.symm]; exact ho) kp2, ?_, fun s hs => ?_, fun b' hb' => ?_, ?_, fun x hx => ?_⟩
  · rw [upd_same]
    show some (HO.lst _) = some (HO.lst ((ob ++ [(b, u)]).map fun b => V.ref b.1))
    rw [List.map_append]; rfl
  · rw [putK_new _ hv0, List.map_append, List.map_append, h.keys]; rfl
  · rw [valV_put]
    by_cases e : s = u
    · subst e
      exact ⟨z, if_pos rfl, hz, by rw [List.length_append]; simp only [List.length_singleton]; omega⟩
    · rw [if_neg e]
      rw [List.map_append] at hs
      rcases List.mem_append.mp hs with q | q
      · obtain ⟨z', h1, h2, h3⟩ := h.vals s q
        exact ⟨z', h1, h2, by rw [List.length_append]; omega⟩
      · simp only [List.map_cons, List.map_nil, List.mem_singleton] at q; exact absurd q e
  · rcases List.mem_append.mp hb' with q | q
    · exact LsA.keep (h.r b' q) (kp1.trans kp2)
    · simp only [List.mem_singleton] at q; subst q; exact LsA.keep hb (kp1.trans kp2)
  · rw [List.map_append]; exact nd_snoc h.nd hn
  · rw [List.map_append] at hx
    rcases List.mem_append.mp hx with q | q
    · exact h.sub x q
    · simp only [List.map_cons, List.map_nil, List.mem_singleton] at q; subst q; exact hg
end
theorem ok_line_decision {P : Program} {w : World} {K : PySem.W.Frag} {mg : Str → Option Value} {base : Heap} (D : Df K mg "line_decision" s_line_decision) (U : Bu mg) (C_first_list : Cl P w K mg base "first_list" 3 ["pieces", "windows", "word"] sp_first_list) (C_following : Cl P w K mg base "following" 1 ["windows", "gram"] sp_following) (C_line_way_of : Cl P w K mg base "line_way_of" 3 ["pieces", "windows", "word", "state", "letter"] sp_line_way_of) : Cl P w K mg base "line_decision" 4 ["pieces", "windows", "word"] sp_line_decision := by
  refine D.cl sc_line_decision (fun _ _ _ _ _ _ us hl => match us, hl with | [_, _, _], _ => rfl) (fun vs H Q E h => ?_) (fun cdv f A outer s H vs Q E hr h => ?_)
  · obtain ⟨pa, wa, ps, ws, g, w0, rfl, hpa, hwa, sh, wn, hw0, hw60, q⟩ := h
    rfl
  · obtain ⟨pa, wa, ps, ws, g, w0, rfl, hpa, hwa, sh, wn, hw0, hw60, q⟩ := h
    have hu := hu_of hr
    have hu9 := hu9_of hr
    have hu64 := hu64_of hr
    refine ⟨_, (pss_cons (ps_set (i := 3) sc_line_decision.nd rfl (Or.inl rfl) pe_dnewN)
 (pss_cons (ps_set (i := 4) sc_line_decision.nd rfl (Or.inl rfl) (pe_lst pa_nil))
 (pss_cons (ps_for PassesOwn.never rfl (pi_tup (pcall C_first_list hr (pa_cons (pv 0) (pa_cons (pv 1) (pa_cons (pv 2) pa_nil))))) (pg_name (i := 5) sc_line_decision.nd rfl (Or.inl rfl)) (pss_cons (ps_dputN hu9 (pv 3) (pv 5) (pe_ix ix_tup (pv 5) pe_int (fun _ _ => rfl)) rfl)
 (pss_one (ps_expr (pe_bm PySem.F.plainAttrs_list PySem.F.slot_list_append PySem.F.type_list_append mt_append (pv 4) (pa_cons (pv 5) pa_nil))))))
 (pss_cons (ps_set (i := 6) sc_line_decision.nd rfl (Or.inl rfl) pe_int)
 (pss_cons (ps_while PassesOwn.never (pt_cmpR op_lt (pv 6) (pe_callB (len_seq (K := K) rfl) (by rfl) U.len (by decide +kernel) (pa_cons (pv 4) pa_nil)) (nomark _)) (pss_cons (ps_set (i := 5) sc_line_decision.nd rfl (Or.inl rfl) (pe_ix ix_list (pv 4) (pv 6) (fun _ _ => rfl)))
 (pss_cons (ps_if (pt_cmpR op_eq (pe_callB (len_seq (K := K) rfl) (by rfl) U.len (by decide +kernel) (pa_cons (pe_ix ix_tup (pv 5) pe_int (fun _ _ => rfl)) pa_nil)) (pe_callB (len_seq (K := K) rfl) (by rfl) U.len (by decide +kernel) (pa_cons (pv 0) pa_nil)) (nomark _)) (pss_one (ps_ret (pe_tup (pa_cons (pe_txt (t := [108, 97, 99, 107, 105, 110, 103]) (by decide +kernel)) (pa_cons (pe_dgetN hu9 (pv 3) (pv 5) (fun _ _ => rfl)) pa_nil))))) pss_nil)
 (pss_cons (ps_for PassesOwn.never rfl (pi_str (pcall C_following hr (pa_cons (pv 1) (pa_cons (pe_ix ix_tup (pv 5) pe_int (fun _ _ => rfl)) pa_nil)))) (pg_name (i := 7) sc_line_decision.nd rfl (Or.inl rfl)) (pss_cons (ps_set (i := 8) sc_line_decision.nd rfl (Or.inl rfl) (pcall C_line_way_of hr (pa_cons (pv 0) (pa_cons (pv 1) (pa_cons (pv 2) (pa_cons (pv 5) (pa_cons (pv 7) pa_nil)))))))
 (pss_one (ps_if (PW.pt (pw_and (pt_cmpR op_notN1 (pv 8) pe_non (nomark _)) (pw_and1 (pt_cmp (pc_dnotinN hu9 (pv 8) (pv 3)) (by rfl))))) (pss_cons (ps_dputN hu9 (pv 3) (pv 8) (pe_op op_addT (pe_dgetN hu9 (pv 3) (pv 5) (fun _ _ => rfl)) (pv 7)) rfl)
 (pss_one (ps_expr (pe_bm PySem.F.plainAttrs_list PySem.F.slot_list_append PySem.F.type_list_append mt_append (pv 4) (pa_cons (pv 8) pa_nil))))) pss_nil))))
 (pss_one (ps_set (i := 6) sc_line_decision.nd rfl (Or.inl rfl) (pe_op op_add (pv 6) pe_int)))))))
 (pss_one (ps_ret (pe_tup (pa_cons (pe_txt (t := [97, 108, 119, 97, 121, 115]) (by decide +kernel)) (pa_cons (pe_callTy (tup_of (K := K) rfl) (by rfl) U.tpl (by decide +kernel) (pa_cons (pe_callB (cr_sortedLS hu64) (by rfl) U.srt (by decide +kernel) (pa_cons (pv 4) pa_nil)) pa_nil)) pa_nil)))))))))), ?_⟩
    have wd := wn.wd sh
    have hwl := wd.len
    have hg12 := wd.g12
    have hg1 := wd.g1
    have hp8 := sh.len
    have hp9 := sh.p9
    walk_at "gx"
    intro tx ob0 htx nd0 hob0
    have sm1 : Same H (upd H tx ob0) := sm_new htx
    generalize upd H tx ob0 = H1 at *
    walk_at "gx"
    intro od H2 hod sm2 h2
    have sm12 := sm1.trans sm2
    walk_at "gx"
    refine ⟨pa, wa, ps, ws, g, w0, rfl, sm12 _ _ hpa, sm12 _ _ hwa, wd, by omega, fun p hp => ⟨sh.pne p hp, by have := hp9 p hp; omega⟩, hw0, hw60, fun fl bs gs H3 hfl sm3 h3 hbs gr hperm => ?_⟩
    have hg10 := gram_ten sh wn gr
    have hgg := gr.lg wd
    have hbm : ∀ s, s ∈ bs.map (·.2) ↔ ∃ x ∈ gs, ¬ w0 <:+: x ∧ s = stG ps w0 x x := fun s => by
      rw [hperm.mem_iff, List.mem_map]
      constructor
      · rintro ⟨x, hx, rfl⟩
        rw [List.mem_filter] at hx
        exact ⟨x, hx.1, by simpa using hx.2, rfl⟩
      · rintro ⟨x, h1, h2, rfl⟩
        exact ⟨x, List.mem_filter.mpr ⟨h1, by simpa using h2⟩, rfl⟩
    have hbn : (bs.map (·.2)).Nodup := by
      rw [hperm.nodup_iff, List.nodup_iff_pairwise_ne, List.pairwise_map]
      exact (List.nodup_iff_pairwise_ne.mp (gr.nd.sublist List.filter_sublist)).imp fun hne e => hne (by injection e)
    have sm23 := sm12.trans sm3
    have li0 : LI P w ps ws gs g w0 H H3 od tx [] [] := by
      refine ⟨sm23, sm1.free hod, htx, sm3 _ _ h2, ?_, rfl, fun _ h => (by cases h), fun _ h => (by cases h), List.nodup_nil, fun _ h => (by cases h)⟩
      exact (nd0.keep (fun o ho => sm2 _ _ ho) (sm_kp sm2)).keep (fun o ho => sm3 _ _ ho) (sm_kp sm3)
    walk_at "gx"
    refine w_forU (xs := rfl_ bs) (fun i σ H4 => ∃ v5 kvs, σ = [some (.ref pa), some (.ref wa), some (sv w0), some (.ref tx), some (.ref od), v5, none, none, none] ∧ LI P w ps ws gs g w0 H H4 od tx (bs.take i) kvs ∧ H4 fl = some (.tup (rfl_ bs)) ∧ RfL H4 bs) ⟨none, [], rfl, li0, h3, hbs⟩ (fun i σ H4 _ ⟨_, _, _, _, h, _⟩ => h) ?_ ?_
    · rintro i x σ H4 hx ⟨v5, kvs, rfl, li, hfl4, hbs4⟩
      rw [List.getElem?_map] at hx
      obtain ⟨⟨b, s⟩, hbi, rfl⟩ := Option.map_eq_some_iff.mp hx
      have hmb := List.mem_of_getElem? hbi
      have hbL := hbs4 _ hmb
      have hsi : (bs.map (·.2))[i]? = some s := by rw [List.getElem?_map, hbi]; rfl
      obtain ⟨gm, hgm, hno, rfl⟩ := (hbm s).mp (List.mem_of_getElem? hsi)
      obtain ⟨cb, hb, hcb⟩ := id hbL
      have hb : H4 b = some (.tup [sv gm, sv (tl ps gm), iv (mat w0 gm), .ref cb]) := hb
      obtain ⟨hl1, hl2⟩ := li.len sh hg10 hw60
      have hgml := hgg gm hgm
      walk_at "gx"
      refine w_nPut ?_
      walk_at "gx"
      refine w_ixU hb (atI_nat (j := 0) (by rfl)) ?_
      walk_at "gx"
      refine w_putN li.s hbL (by rw [sizeLine_eq]; omega) fun o' N => ?_
      have hne := li.ne
      have ho5 : upd H4 tx o' od = some (.lst (rfl_ (bs.take i))) := by rw [upd_ne hne]; exact li.o
      have hol : (rfl_ (bs.take i)).length < sizeLine := by rw [List.length_map, sizeLine_eq]; omega
      walk_at "gx"
      have hnt : stG ps w0 gm gm ∉ (bs.take i).map (·.2) := by
        rw [List.map_take]
        exact not_take hbn hsi
      have li2 := li.add (z := gm) (Led.first hgml hg1 hno) (by omega) hgm hnt hbL N
      have kp1 : Kp H4 (upd H4 tx o') := fun c xs hc => by rw [upd_ne (li.s.ne hc)]; exact hc
      have kp2 : Kp (upd H4 tx o') (upd (upd H4 tx o') od (.lst (rfl_ (bs.take i) ++ [.ref b]))) := Kp.lst ho5
      refine ⟨_, putK kvs (stG ps w0 gm gm) (sv gm), rfl, ?_, kp2 _ _ (kp1 _ _ hfl4), hbs4.keep (kp1.trans kp2)⟩
      rw [snoc_take hbi]
      exact li2
    · rintro σ H4 ⟨v5, kvs, rfl, li, hfl4, hbs4⟩
      rw [List.length_map, List.take_length] at li
      walk_at "gx"
      refine ⟨fun m σ H5 => ∃ dn rest kvs v5 v7 v8, σ = [some (.ref pa), some (.ref wa), some (sv w0), some (.ref tx), some (.ref od), v5, some (iv dn.length), v7, v8] ∧ LI P w ps ws gs g w0 H H5 od tx (dn ++ rest) kvs ∧ (∀ x ∈ dn.map (·.2), x.2.2.2.length ≠ ps.length ∧ ∀ c ∈ fol ws x.1, ∀ u, stA ps w0 x c = some u → u ∈ (dn ++ rest).map (·.2)) ∧ (∀ x ∈ bs.map (·.2), x ∈ (dn ++ rest).map (·.2)) ∧ m = 12288001 - dn.length, ⟨_, [], bs, kvs, v5, none, none, rfl, li, fun _ h => (by cases h), fun _ h => h, rfl⟩, ?_⟩
      rintro m σ H5 ⟨dn, rest, kvs, v5, v7, v8, rfl, li5, hdn, hfst, hm⟩
      obtain ⟨hl1, hl2⟩ := li5.len sh hg10 hw60
      have ho5 := li5.o
      walk_at "gx"
      rcases rest with _ | ⟨⟨b, x⟩, rest⟩
      · refine iteDf (by simp) ?_
        rw [List.append_nil] at *
        walk_at "gx"
        refine ⟨od, dn, rfl, SqL.of ho5, li5.r, fun cs p hpm hp => ?_⟩
        have sm6 : Same H5 (upd H5 p (.lst (cs.map fun b => V.ref b.1))) := sm_new hp
        have h6 : (upd H5 p (.lst (cs.map fun b => V.ref b.1))) p = some (.lst (rfl_ cs)) := upd_same
        walk_at "gx"
        intro tp H7 htp sm7 h7
        walk_at "gx"
        intro r H8 hr8 sm8 h8
        have sm57 := li5.sm.trans (sm6.trans sm7)
        refine q.2 r tp H8 (sm57.free hr8) (sm57.trans sm8) h8 fun t E => ?_
        refine line_always (order := dn.map (·.2)) hg1 wd.ne sh.pne sh.ne sh.pg hw0 (fun x hx hn => ?_) wn.lg hdn E
        exact hfst _ ((hbm _).mpr ⟨x.dropLast, (gr.mem _).mpr ⟨x, hx, .inl rfl⟩, hn, rfl⟩)
      · have hdl : dn.length < (dn ++ (b, x) :: rest).length := by simp
        refine iteDt (by rw [List.length_map]; omega) ?_
        refine ⟨fun σ' H' => ∃ m', m' < m ∧ ∃ dn rest kvs v5 v7 v8, σ' = [some (.ref pa), some (.ref wa), some (sv w0), some (.ref tx), some (.ref od), v5, some (iv dn.length), v7, v8] ∧ LI P w ps ws gs g w0 H H' od tx (dn ++ rest) kvs ∧ (∀ x ∈ dn.map (·.2), x.2.2.2.length ≠ ps.length ∧ ∀ c ∈ fol ws x.1, ∀ u, stA ps w0 x c = some u → u ∈ (dn ++ rest).map (·.2)) ∧ (∀ x ∈ bs.map (·.2), x ∈ (dn ++ rest).map (·.2)) ∧ m' = 12288001 - dn.length, fun σ' H' h => h, ?_⟩
        have hat : (rfl_ (dn ++ (b, x) :: rest))[dn.length]? = some (.ref b) := by
          rw [List.getElem?_map, List.getElem?_append_right (Nat.le_refl _), Nat.sub_self]; rfl
        have hxm : x ∈ (dn ++ (b, x) :: rest).map (·.2) := by simp
        obtain ⟨xz, hxv, hled, hxl⟩ := li5.vals x hxm
        have hbL : LsA H5 b x := li5.r (b, x) (by simp)
        have hxg := li5.sub x hxm
        have hx20 : x.1.length ≤ 20 := by have := hgg _ hxg; omega
        have hxst := hled.st
        have hxt : x.2.1.length ≤ 100 := by
          rw [hxst]
          show (tl ps xz).length ≤ 100
          rcases tl_beg ps xz with e | e
          · rw [e]; exact Nat.zero_le _
          · obtain ⟨p, hp, h⟩ := isBeg_iff.mp e
            have := h.length_le
            have := hp9 p hp
            omega
        have hxm60 : x.2.2.1 ≤ w0.length := by rw [hxst]; exact mat_le _ _
        obtain ⟨cb, hb, hcb⟩ := id hbL
        have hpa5 := li5.sm _ _ hpa
        have hwa5 := li5.sm _ _ hwa
        walk_at "gx"
        refine w_ixL ho5 (atI_nat hat) ?_
        walk_at "gx"
        refine w_ixU hb (atI_nat (j := 3) (by rfl)) ?_
        walk_at "gx"
        refine iteD (fun hfull => ?_) (fun hfull => ?_)
        · rw [List.length_map, List.length_map] at hfull
          walk_at "gx"
          refine w_nGet ?_
          walk_at "gx"
          refine w_getN li5.s hbL hxv ?_
          walk_at "gx"
          intro r H6 hr sm6 h6
          obtain ⟨c1, c2⟩ := line_lacks hled (by omega)
          exact q.1 r xz H6 (li5.sm.free hr) (li5.sm.trans sm6) h6 c1 c2 (by omega)
        · rw [List.length_map, List.length_map] at hfull
          walk_at "gx"
          refine w_ixU hb (atI_nat (j := 0) (by rfl)) ?_
          walk_at "gx"
          refine ⟨wa, ws, x.1, rfl, hwa5, wd.ne, fun y hy => by have := wd.lg y hy; omega, by omega, fun H6 sm6 => ?_⟩
          walk_at "gx"
          have li6 := li5.same sm6
          have hfl := fol_len ws x.1
          refine w_forS (x := fol ws x.1) (fun j σ H7 => ∃ rest2 kvs v7 v8, σ = [some (.ref pa), some (.ref wa), some (sv w0), some (.ref tx), some (.ref od), some (.ref b), some (iv dn.length), v7, v8] ∧ LI P w ps ws gs g w0 H H7 od tx (dn ++ (b, x) :: rest2) kvs ∧ (∀ y ∈ (dn ++ (b, x) :: rest).map (·.2), y ∈ (dn ++ (b, x) :: rest2).map (·.2)) ∧ ∀ c ∈ (fol ws x.1).take j, ∀ u, stA ps w0 x c = some u → u ∈ (dn ++ (b, x) :: rest2).map (·.2)) ⟨rest, kvs, v7, v8, rfl, li6, fun _ h => h, fun _ h => (by simp at h)⟩ ?_ ?_
          · rintro j c σ H7 hc ⟨rest2, kvs, v7, v8, rfl, li7, hold, hdone⟩
            have hcf := List.mem_of_getElem? hc
            have ht := snoc_take hc
            obtain ⟨hl71, hl72⟩ := li7.len sh hg10 hw60
            have hb7 : LsA H7 b x := li7.r (b, x) (by simp)
            walk_at "gx"
            refine ⟨pa, wa, b, ps, ws, w0, x, c, rfl, li7.sm _ _ hpa, li7.sm _ _ hwa, wd.ne, fun y hy => by have := wd.lg y hy; omega, by omega, hcf, by omega, fun p hp => by have := hp9 p hp; omega, hw60, hb7, hx20, hxt, hxm60, fun hs H8 sm8 => ?_, fun u hs r8 H8 hr8 sm8 h8 => ?_⟩
            · walk_at "gx"
              refine iteNf rfl ?_
              walk_at "gx"
              refine ⟨rest2, kvs, _, _, rfl, li7.same sm8, hold, fun c' hc' u hu => ?_⟩
              rw [ht] at hc'
              rcases List.mem_append.mp hc' with h | h
              · exact hdone c' h u hu
              · simp only [List.mem_singleton] at h; subst h; rw [hs] at hu; cases hu
            · have li8 := li7.same sm8
              have hb8 : LsA H8 b x := li8.r (b, x) (by simp)
              walk_at "gx"
              refine iteNt (fun z => nomatch z) ?_
              walk_at "gx"
              refine w_nNi ?_
              walk_at "gx"
              refine w_niD li8.s h8 ?_
              rw [valN_in li8.keys]
              walk_at "gx"
              refine iteN (fun hn => ?_) (fun hin => ?_)
              · obtain ⟨xz7, hxv7, hled7, hxl7⟩ := li8.vals x (by simp)
                have hsz : xz7.length + 1 ≤ 16777216 := by omega
                walk_at "gx"
                refine w_nPut ?_
                walk_at "gx"
                refine w_nGet ?_
                walk_at "gx"
                refine w_getN li8.s hb8 hxv7 ?_
                walk_at "gx"
                refine w_putN li8.s h8 (by rw [sizeLine_eq]; omega) fun o' N => ?_
                have ho9 : upd H8 tx o' od = some (.lst (rfl_ (dn ++ (b, x) :: rest2))) := by rw [upd_ne li8.ne]; exact li8.o
                have hol : (rfl_ (dn ++ (b, x) :: rest2)).length < sizeLine := by rw [List.length_map, sizeLine_eq]; omega
                walk_at "gx"
                have hled8 := hled7.step hg1 wd.ne hcf hs
                have hug : u.1 ∈ gs := by
                  have h1 := (mem_fol wd.ne).mp hcf
                  have h2 : u.1 = (x.1 ++ [c]).drop 1 := by
                    unfold stA at hs
                    split at hs
                    · cases hs
                    · injection hs with hs; rw [← hs]
                  exact (gr.mem _).mpr ⟨_, h1, .inr h2⟩
                have li9 := li8.add hled8 (by rw [List.length_append]; simp only [List.length_singleton]; omega) hug hn h8 N
                rw [List.append_assoc, List.cons_append] at li9
                have inc : ∀ y, y ∈ (dn ++ (b, x) :: rest2).map (·.2) → y ∈ (dn ++ (b, x) :: (rest2 ++ [(r8, u)])).map (·.2) := fun y hy => by
                  simp only [List.map_append, List.map_cons, List.mem_append, List.mem_cons] at hy ⊢
                  rcases hy with h | h | h
                  · exact .inl h
                  · exact .inr (.inl h)
                  · exact .inr (.inr (.inl h))
                refine ⟨rest2 ++ [(r8, u)], _, _, _, rfl, li9, fun y hy => inc y (hold y hy), fun c' hc' u' hu => ?_⟩
                rw [ht] at hc'
                rcases List.mem_append.mp hc' with h | h
                · exact inc _ (hdone c' h u' hu)
                · simp only [List.mem_singleton] at h; subst h
                  rw [hs] at hu
                  injection hu with hu
                  subst hu
                  simp
              · walk_at "gx"
                refine ⟨rest2, kvs, _, _, rfl, li8, hold, fun c' hc' u' hu => ?_⟩
                rw [ht] at hc'
                rcases List.mem_append.mp hc' with h | h
                · exact hdone c' h u' hu
                · simp only [List.mem_singleton] at h; subst h
                  rw [hs] at hu
                  injection hu with hu
                  subst hu
                  exact hin
          · rintro σ H7 ⟨rest2, kvs, v7, v8, rfl, li7, hold, hdone⟩
            rw [List.take_length] at hdone
            walk_at "gx"
            have e1 : (dn ++ [(b, x)]) ++ rest2 = dn ++ (b, x) :: rest2 := by simp
            have ei : (V.int ((dn.length : Int) + 1)) = iv (dn ++ [(b, x)]).length := by
              show V.int _ = V.int _
              congr 1
              rw [List.length_append]; rfl
            rw [ei]
            refine ⟨_, ?_, dn ++ [(b, x)], rest2, kvs, _, _, _, rfl, by rw [e1]; exact li7, fun y hy => ?_, fun y hy => by rw [e1]; exact hold _ (hfst y hy), rfl⟩
            · rw [List.length_append]; simp only [List.length_singleton]
              have : dn.length < 12288001 := by
                have h1 := hl1
                rw [List.length_append] at h1
                omega
              omega
            · rw [e1]
              rw [List.map_append] at hy
              rcases List.mem_append.mp hy with hy | hy
              · exact ⟨(hdn y hy).1, fun c hc u hu => hold _ ((hdn y hy).2 c hc u hu)⟩
              · simp only [List.map_cons, List.map_nil, List.mem_singleton] at hy; subst hy
                exact ⟨fun e => hfull (by rw [e]), hdone⟩

theorem sc_decided : FnScope ["pieces", "grain", "word", "shape", "windows"] ["pieces", "grain", "word", "shape"] (defScope s_decided) := ⟨rfl, rfl, rfl, by decide +kernel, rfl, by decide +kernel, by decide +kernel⟩
/-- a text explains the pieces; a text has a word -/
def ExS (z : T) (ps : List T) (g : Nat) (t : T) : Prop := ∃ ws, Wn ps g ws ∧ (if z = txC then ExpC ps ws g t else ExpL ps ws g t)
def HasS (z w t : T) : Prop := if z = txC then onC t w else w <:+: t
theorem ExpC.cg {ps ws ws' : List T} {g : Nat} {t : T} (h : ExpC ps ws g t) (k : ∀ x, x ∈ ws → x ∈ ws') : ExpC ps ws' g t := ⟨h.ne, fun p hp => k _ (h.win p hp), h.has⟩
theorem ExpL.cg {ps ws ws' : List T} {g : Nat} {t : T} (h : ExpL ps ws g t) (k : ∀ x, x ∈ ws → x ∈ ws') : ExpL ps ws' g t := ⟨fun p hp => k _ (h.win p hp), h.has⟩
theorem Wn.eq {ps ws ws' : List T} {g : Nat} (h : Wn ps g ws) (h' : Wn ps g ws') : ∀ x, x ∈ ws → x ∈ ws' := fun x hx => (h'.mem x).mpr ((h.mem x).mp hx)
theorem DecQ.mono {H : Hp} {Q : VK} {E E' A A' : T → Prop} (q : DecQ H Q E A) (h1 : ∀ t, E' t → E t) (h2 : ∀ t, E t → E' t) (h3 : ∀ t, A' t ↔ A t) : DecQ H Q E' A' :=
  ⟨fun r t H' a b c e n l => q.1 r t H' a b c (h1 t e) (fun x => n ((h3 t).mpr x)) l, fun r b' H' a b c k => q.2 r b' H' a b c fun t ht => (h3 t).mp (k t (h2 t ht))⟩
theorem DecQ.next {H H1 : Hp} {Q : VK} {E A : T → Prop} (q : DecQ H Q E A) (sm : Same H H1) : DecQ H1 Q E A :=
  ⟨fun r t H' a b c e n l => q.1 r t H' (sm.free a) (sm.trans b) c e n l, fun r b' H' a b c k => q.2 r b' H' (sm.free a) (sm.trans b) c k⟩
def sp_decided : Sp := fun vs H Q _ => ∃ (pa : Addr) (ps : List T) (g : Nat) (w z : T), vs = [.ref pa, iv g, sv w, sv z] ∧ H pa = some (.tup (ps.map sv)) ∧ Sh ps g ∧ w ≠ [] ∧ w.length ≤ 60 ∧ DecQ H Q (ExS z ps g) (HasS z w)
theorem ok_decided {P : Program} {w : World} {K : PySem.W.Frag} {mg : Str → Option Value} {base : Heap} (D : Df K mg "decided" s_decided) (U : Bu mg) (C_circle_decision : Cl P w K mg base "circle_decision" 5 ["pieces", "windows", "word"] sp_circle_decision) (C_line_decision : Cl P w K mg base "line_decision" 4 ["pieces", "windows", "word"] sp_line_decision) (C_window_list : Cl P w K mg base "window_list" 1 ["pieces", "grain"] sp_window_list) : Cl P w K mg base "decided" 6 ["pieces", "grain", "word", "shape"] sp_decided := by
  refine D.cl sc_decided (fun _ _ _ _ _ _ us hl => match us, hl with | [_, _, _, _], _ => rfl) (fun vs H Q E h => ?_) (fun cdv f A outer s H vs Q E hr h => ?_)
  · obtain ⟨pa, ps, g, w0, z, rfl, hpa, sh, hw0, hw60, q⟩ := h
    rfl
  · obtain ⟨pa, ps, g, w0, z, rfl, hpa, sh, hw0, hw60, q⟩ := h
    have hu := hu_of hr
    have hu9 := hu9_of hr
    have hu64 := hu64_of hr
    refine ⟨_, (pss_cons (ps_set (i := 4) sc_decided.nd rfl (Or.inl rfl) (pcall C_window_list hr (pa_cons (pv 0) (pa_cons (pv 1) pa_nil))))
 (pss_cons (ps_if (pt_cmpR op_eq (pv 3) (pe_txt (t := [99, 105, 114, 99, 108, 101]) (by decide +kernel)) (nomark _)) (pss_one (ps_ret (pcall C_circle_decision hr (pa_cons (pv 0) (pa_cons (pv 4) (pa_cons (pv 2) pa_nil)))))) pss_nil)
 (pss_one (ps_ret (pcall C_line_decision hr (pa_cons (pv 0) (pa_cons (pv 4) (pa_cons (pv 2) pa_nil)))))))), ?_⟩
    walk_at "gx"
    refine ⟨pa, ps, g, rfl, hpa, sh, fun wa ws H1 hwa sm1 h1 wn => ?_⟩
    have q1 := q.next sm1
    walk_at "gx"
    refine iteD (fun e => ?_) (fun e => ?_)
    · walk_at "gx"
      have e : z = txC := e
      exact ⟨pa, wa, ps, ws, g, w0, rfl, sm1 _ _ hpa, h1, sh, wn, hw0, hw60, q1.mono (fun t ht => ⟨ws, wn, by rw [if_pos e]; exact ht⟩) (fun t ⟨ws', wn', ht⟩ => by rw [if_pos e] at ht; exact ht.cg (wn'.eq wn)) fun t => by unfold HasS; rw [if_pos e]⟩
    · walk_at "gx"
      have e : ¬ z = txC := e
      exact ⟨pa, wa, ps, ws, g, w0, rfl, sm1 _ _ hpa, h1, sh, wn, hw0, hw60, q1.mono (fun t ht => ⟨ws, wn, by rw [if_neg e]; exact ht⟩) (fun t ⟨ws', wn', ht⟩ => by rw [if_neg e] at ht; exact ht.cg (wn'.eq wn)) fun t => by unfold HasS; rw [if_neg e]⟩

theorem sc_check_question : FnScope ["pieces", "grain", "shape"] ["pieces", "grain", "shape"] (defScope s_check_question) := ⟨rfl, rfl, rfl, by decide +kernel, rfl, by decide +kernel, by decide +kernel⟩
def sp_check_question : Sp := fun vs H Q _ => ∃ (pa : Addr) (ps : List T) (g : Nat) (z : T), vs = [.ref pa, iv g, sv z] ∧ H pa = some (.tup (ps.map sv)) ∧ Sh ps g ∧ (z = txC ∨ z = txL) ∧ ∀ H', Same H H' → Q .non H'
theorem ok_check_question {P : Program} {w : World} {K : PySem.W.Frag} {mg : Str → Option Value} {base : Heap} (D : Df K mg "check_question" s_check_question) (U : Bu mg) (C_check_shape : Cl P w K mg base "check_shape" 1 ["shape"] sp_check_shape) (C_check_shards : Cl P w K mg base "check_shards" 1 ["pieces", "grain"] sp_check_shards) : Cl P w K mg base "check_question" 2 ["pieces", "grain", "shape"] sp_check_question := by
  refine D.cl sc_check_question (fun _ _ _ _ _ _ us hl => match us, hl with | [_, _, _], _ => rfl) (fun vs H Q E h => ?_) (fun cdv f A outer s H vs Q E hr h => ?_)
  · obtain ⟨pa, ps, g, z, rfl, hpa, sh, hz, q⟩ := h
    rfl
  · obtain ⟨pa, ps, g, z, rfl, hpa, sh, hz, q⟩ := h
    have hu := hu_of hr
    have hu9 := hu9_of hr
    have hu64 := hu64_of hr
    refine ⟨_, (pss_cons (ps_expr (pcall C_check_shards hr (pa_cons (pv 0) (pa_cons (pv 1) pa_nil))))
 (pss_one (ps_expr (pcall C_check_shape hr (pa_cons (pv 2) pa_nil))))), ?_⟩
    walk_at "gx"
    refine ⟨pa, ps, g, rfl, hpa, sh, fun H1 sm1 => ?_⟩
    walk_at "gx"
    refine ⟨z, rfl, hz, fun H2 sm2 => ?_⟩
    exact q H2 (sm1.trans sm2)

theorem sc_decide : FnScope ["pieces", "grain", "word", "shape"] ["pieces", "grain", "word", "shape"] (defScope s_decide) := ⟨rfl, rfl, rfl, by decide +kernel, rfl, by decide +kernel, by decide +kernel⟩
def sp_decide : Sp := fun vs H Q _ => ∃ (pa : Addr) (ps : List T) (g : Nat) (w z : T), vs = [.ref pa, iv g, sv w, sv z] ∧ H pa = some (.tup (ps.map sv)) ∧ Sh ps g ∧ w ≠ [] ∧ w.length ≤ 60 ∧ (z = txC ∨ z = txL) ∧ DecQ H Q (ExS z ps g) (HasS z w)
theorem ok_decide {P : Program} {w : World} {K : PySem.W.Frag} {mg : Str → Option Value} {base : Heap} (D : Df K mg "decide" s_decide) (U : Bu mg) (C_check_line : Cl P w K mg base "check_line" 1 ["pieces"] sp_check_line) (C_check_question : Cl P w K mg base "check_question" 2 ["pieces", "grain", "shape"] sp_check_question) (C_check_word : Cl P w K mg base "check_word" 1 ["word"] sp_check_word) (C_decided : Cl P w K mg base "decided" 6 ["pieces", "grain", "word", "shape"] sp_decided) : Cl P w K mg base "decide" 7 ["pieces", "grain", "word", "shape"] sp_decide := by
  refine D.cl sc_decide (fun _ _ _ _ _ _ us hl => match us, hl with | [_, _, _, _], _ => rfl) (fun vs H Q E h => ?_) (fun cdv f A outer s H vs Q E hr h => ?_)
  · obtain ⟨pa, ps, g, w0, z, rfl, hpa, sh, hw0, hw60, hz, q⟩ := h
    rfl
  · obtain ⟨pa, ps, g, w0, z, rfl, hpa, sh, hw0, hw60, hz, q⟩ := h
    have hu := hu_of hr
    have hu9 := hu9_of hr
    have hu64 := hu64_of hr
    refine ⟨_, (pss_cons (ps_expr (pcall C_check_question hr (pa_cons (pv 0) (pa_cons (pv 1) (pa_cons (pv 3) pa_nil)))))
 (pss_cons (ps_expr (pcall C_check_word hr (pa_cons (pv 2) pa_nil)))
 (pss_cons (ps_if (pt_cmpR op_eq (pv 3) (pe_txt (t := [108, 105, 110, 101]) (by decide +kernel)) (nomark _)) (pss_one (ps_expr (pcall C_check_line hr (pa_cons (pv 0) pa_nil)))) pss_nil)
 (pss_one (ps_ret (pcall C_decided hr (pa_cons (pv 0) (pa_cons (pv 1) (pa_cons (pv 2) (pa_cons (pv 3) pa_nil)))))))))), ?_⟩
    walk_at "gx"
    refine ⟨pa, ps, g, z, rfl, hpa, sh, hz, fun H1 sm1 => ?_⟩
    walk_at "gx"
    refine ⟨w0, rfl, hw0, hw60, fun H2 sm2 => ?_⟩
    walk_at "gx"
    refine iteD (fun e => ?_) (fun e => ?_)
    · walk_at "gx"
      refine ⟨pa, ps, rfl, sm2 _ _ (sm1 _ _ hpa), sh.len, fun H3 sm3 => ?_⟩
      walk_at "gx"
      exact ⟨pa, ps, g, w0, z, rfl, sm3 _ _ (sm2 _ _ (sm1 _ _ hpa)), sh, hw0, hw60, q.next (sm1.trans (sm2.trans sm3))⟩
    · walk_at "gx"
      exact ⟨pa, ps, g, w0, z, rfl, sm2 _ _ (sm1 _ _ hpa), sh, hw0, hw60, q.next (sm1.trans sm2)⟩

theorem sc_example : FnScope ["pieces", "grain", "shape", "answer", "found"] ["pieces", "grain", "shape"] (defScope s_example) := ⟨rfl, rfl, rfl, by decide +kernel, rfl, by decide +kernel, by decide +kernel⟩
def sp_example : Sp := fun vs H Q _ => ∃ (pa : Addr) (ps : List T) (g : Nat) (z : T), vs = [.ref pa, iv g, sv z] ∧ H pa = some (.tup (ps.map sv)) ∧ Sh ps g ∧ (z = txC ∨ z = txL) ∧ (∀ (t : T) H', Same H H' → Q (sv t) H') ∧ ∀ H', Same H H' → Q .non H'
theorem ok_example {P : Program} {w : World} {K : PySem.W.Frag} {mg : Str → Option Value} {base : Heap} (D : Df K mg "example" s_example) (U : Bu mg) (c_NOWHERE : ∃ t, mg "NOWHERE" = some (.str (stT [32]) t)) (C_check_line : Cl P w K mg base "check_line" 1 ["pieces"] sp_check_line) (C_check_question : Cl P w K mg base "check_question" 2 ["pieces", "grain", "shape"] sp_check_question) (C_decided : Cl P w K mg base "decided" 6 ["pieces", "grain", "word", "shape"] sp_decided) : Cl P w K mg base "example" 7 ["pieces", "grain", "shape"] sp_example := by
  refine D.cl sc_example (fun _ _ _ _ _ _ us hl => match us, hl with | [_, _, _], _ => rfl) (fun vs H Q E h => ?_) (fun cdv f A outer s H vs Q E hr h => ?_)
  · obtain ⟨pa, ps, g, z, rfl, hpa, sh, hz, q1, q2⟩ := h
    rfl
  · obtain ⟨pa, ps, g, z, rfl, hpa, sh, hz, q1, q2⟩ := h
    have hu := hu_of hr
    have hu9 := hu9_of hr
    have hu64 := hu64_of hr
    refine ⟨_, (pss_cons (ps_expr (pcall C_check_question hr (pa_cons (pv 0) (pa_cons (pv 1) (pa_cons (pv 2) pa_nil)))))
 (pss_cons (ps_if (pt_cmpR op_eq (pv 2) (pe_txt (t := [108, 105, 110, 101]) (by decide +kernel)) (nomark _)) (pss_one (ps_expr (pcall C_check_line hr (pa_cons (pv 0) pa_nil)))) pss_nil)
 (pss_cons (ps_asg (pcall C_decided hr (pa_cons (pv 0) (pa_cons (pv 1) (pa_cons (pconstS c_NOWHERE) (pa_cons (pv 2) pa_nil))))) (pg_tup (by rfl) (pgs_cons (pg_name (i := 3) sc_example.nd rfl (Or.inl rfl)) (pgs_cons (pg_name (i := 4) sc_example.nd rfl (Or.inl rfl)) pgs_nil))))
 (pss_cons (ps_if (pt_cmpR op_eq (pv 3) (pe_txt (t := [108, 97, 99, 107, 105, 110, 103]) (by decide +kernel)) (nomark _)) (pss_one (ps_ret (pv 4))) pss_nil)
 (pss_one (ps_ret pe_non)))))), ?_⟩
    have fin : ∀ (σ : L2.St) (D : Ends), True := fun _ _ => True.intro
    walk_at "gx"
    refine ⟨pa, ps, g, z, rfl, hpa, sh, hz, fun H1 sm1 => ?_⟩
    walk_at "gx"
    refine iteD (fun e => ?_) (fun e => ?_)
    · walk_at "gx"
      refine ⟨pa, ps, rfl, sm1 _ _ hpa, sh.len, fun H3 sm3 => ?_⟩
      have sm13 := sm1.trans sm3
      walk_at "gx"
      refine ⟨pa, ps, g, [32], z, rfl, sm13 _ _ hpa, sh, by simp, by simp, fun r t H4 hr4 sm4 h4 _ _ _ => ?_, fun r b H4 hr4 sm4 h4 _ => ?_⟩
      · walk_at "gx"
        refine iteDt rfl ?_
        walk_at "gx"
        exact q1 t H4 (sm13.trans sm4)
      · walk_at "gx"
        refine iteDf (by decide) ?_
        walk_at "gx"
        exact q2 H4 (sm13.trans sm4)
    · walk_at "gx"
      refine ⟨pa, ps, g, [32], z, rfl, sm1 _ _ hpa, sh, by simp, by simp, fun r t H4 hr4 sm4 h4 _ _ _ => ?_, fun r b H4 hr4 sm4 h4 _ => ?_⟩
      · walk_at "gx"
        refine iteDt rfl ?_
        walk_at "gx"
        exact q1 t H4 (sm1.trans sm4)
      · walk_at "gx"
        refine iteDf (by decide) ?_
        walk_at "gx"
        exact q2 H4 (sm1.trans sm4)

theorem sc_check_alphabet : FnScope ["alphabet", "k"] ["alphabet"] (defScope s_check_alphabet) := ⟨rfl, rfl, rfl, by decide +kernel, rfl, by decide +kernel, by decide +kernel⟩
structure AlV (al : T) : Prop where
  ne : al ≠ []
  len : al.length ≤ 20
  up : ∀ k, 1 ≤ k → k < al.length → ([al.getD (k - 1) 0] : T) < [al.getD k 0]
def sp_check_alphabet : Sp := fun vs H Q _ => ∃ (al : T), vs = [sv al] ∧ AlV al ∧ ∀ H', Same H H' → Q .non H'
theorem atI_getD {t : T} {k : Nat} (h : k < t.length) : atI t (k : Int) = some (t.getD k 0) := by
  refine atI_nat ?_
  rw [List.getD_eq_getElem?_getD, List.getElem?_eq_getElem h]; rfl
theorem ok_check_alphabet {P : Program} {w : World} {K : PySem.W.Frag} {mg : Str → Option Value} {base : Heap} (D : Df K mg "check_alphabet" s_check_alphabet) (U : Bu mg) : Cl P w K mg base "check_alphabet" 1 ["alphabet"] sp_check_alphabet := by
  refine D.cl sc_check_alphabet (fun _ _ _ _ _ _ us hl => match us, hl with | [_], _ => rfl) (fun vs H Q E h => ?_) (fun cdv f A outer s H vs Q E hr h => ?_)
  · obtain ⟨al, rfl, av, q⟩ := h
    rfl
  · obtain ⟨al, rfl, av, q⟩ := h
    have hu := hu_of hr
    have hu9 := hu9_of hr
    have hu64 := hu64_of hr
    refine ⟨_, (pss_cons (ps_if (pt_cmpR op_eq (pv 0) (pe_txt (t := []) (by decide +kernel)) (nomark _)) (pss_one ps_never) pss_nil)
 (pss_one (ps_for PassesOwn.never rfl (pi_range2 rfl U.rng (pa_cons pe_int (pa_cons (pe_callB len_txt (by rfl) U.len (by decide +kernel) (pa_cons (pv 0) pa_nil)) pa_nil))) (pg_name (i := 1) sc_check_alphabet.nd rfl (Or.inl rfl)) (pss_one (ps_if (pt_cmpR op_geC (pe_ix ix_txt (pv 0) (pe_op op_sub (pv 1) pe_int) (fun _ _ => rfl)) (pe_ix ix_txt (pv 0) (pv 1) (fun _ _ => rfl)) (nomark _)) (pss_one ps_never) pss_nil))))), ?_⟩
    have hl := av.len
    have hl0 := List.length_pos_iff.mpr av.ne
    walk_at "gx"
    refine iteDf av.ne ?_
    walk_at "gx"
    refine w_R2 ⟨by omega, by omega, by omega, by omega⟩ ?_
    have e1 : ((al.length : Int) - 1).toNat = al.length - 1 := by omega
    rw [e1]
    refine w_forR (fun i σ H1 => ∃ v1, σ = [some (sv al), v1] ∧ Same H H1) ⟨none, rfl, Same.refl _⟩ ?_ ?_
    · rintro i σ H1 hi ⟨v1, rfl, sm1⟩
      have e2 : ((1 : Int) + (i : Int)) = ((i + 1 : Nat) : Int) := by omega
      have e3 : (((i + 1 : Nat) : Int) - 1) = (i : Int) := by omega
      rw [e2]
      walk_at "gx"
      rw [e3]
      refine ⟨al, _, _, rfl, rfl, by walk_at "sz", atI_getD (by omega), ?_⟩
      walk_at "gx"
      refine ⟨al, _, _, rfl, rfl, by walk_at "sz", atI_getD (by omega), ?_⟩
      walk_at "gx"
      refine iteNf (av.up (i + 1) (by omega) (by omega)) ?_
      walk_at "gx"
      exact ⟨_, rfl, sm1⟩
    · rintro σ H1 ⟨v1, rfl, sm1⟩
      exact q H1 sm1

theorem sc_check_placed : FnScope ["size", "placed_pieces", "alphabet", "start", "piece"] ["size", "placed_pieces", "alphabet"] (defScope s_check_placed) := ⟨rfl, rfl, rfl, by decide +kernel, rfl, by decide +kernel, by decide +kernel⟩
/-- the placed pieces at qa -/
def PlA (H : Hp) (qa : Addr) (pl : List (Nat × T)) : Prop := ∃ vs, H qa = some (.tup vs) ∧ Paired (fun v q => ∃ a, v = V.ref a ∧ H a = some (.tup [iv q.1, sv q.2])) vs pl
theorem PlA.same {H H' : Hp} {qa : Addr} {pl : List (Nat × T)} (h : PlA H qa pl) (k : Kp H H') : PlA H' qa pl := by
  obtain ⟨vs, h1, h2⟩ := h
  exact ⟨vs, k _ _ h1, Paired.mapP h2 fun _ _ ⟨a, e, h⟩ => ⟨a, e, k _ _ h⟩⟩
structure PlV (pl : List (Nat × T)) (n : Nat) : Prop where
  ok : ∀ q ∈ pl, q.2 ≠ [] ∧ q.1 + q.2.length ≤ n
  len : pl.length ≤ 8
  n1 : 1 ≤ n
  n9 : n ≤ 9
def sp_check_placed : Sp := fun vs H Q _ => ∃ (n : Nat) (qa : Addr) (pl : List (Nat × T)) (al : T), vs = [iv n, .ref qa, sv al] ∧ PlA H qa pl ∧ PlV pl n ∧ AlV al ∧ ∀ H', Same H H' → Q .non H'
theorem ok_check_placed {P : Program} {w : World} {K : PySem.W.Frag} {mg : Str → Option Value} {base : Heap} (D : Df K mg "check_placed" s_check_placed) (U : Bu mg) (c_SIZE_LIMIT : ∃ t, mg "SIZE_LIMIT" = some (.int 400 t)) (C_check_alphabet : Cl P w K mg base "check_alphabet" 1 ["alphabet"] sp_check_alphabet) : Cl P w K mg base "check_placed" 2 ["size", "placed_pieces", "alphabet"] sp_check_placed := by
  refine D.cl sc_check_placed (fun _ _ _ _ _ _ us hl => match us, hl with | [_, _, _], _ => rfl) (fun vs H Q E h => ?_) (fun cdv f A outer s H vs Q E hr h => ?_)
  · obtain ⟨n, qa, pl, al, rfl, ⟨vs, hqa, hpr⟩, pv_, av, q⟩ := h
    rfl
  · obtain ⟨n, qa, pl, al, rfl, ⟨vs, hqa, hpr⟩, pv_, av, q⟩ := h
    have hu := hu_of hr
    have hu9 := hu9_of hr
    have hu64 := hu64_of hr
    refine ⟨_, (pss_cons (ps_if (PW.pt (pw_or (pt_cmpR op_lt (pv 0) pe_int (nomark _)) (pw_or1 (pt_cmpR op_gt (pv 0) (pconst c_SIZE_LIMIT) (nomark _))))) (pss_one ps_never) pss_nil)
 (pss_cons (ps_expr (pcall C_check_alphabet hr (pa_cons (pv 2) pa_nil)))
 (pss_one (ps_for PassesOwn.never rfl (pi_tup (pv 1)) (pg_tup (by rfl) (pgs_cons (pg_name (i := 3) sc_check_placed.nd rfl (Or.inl rfl)) (pgs_cons (pg_name (i := 4) sc_check_placed.nd rfl (Or.inl rfl)) pgs_nil))) (pss_cons (ps_if (pt_cmpR op_eq (pv 4) (pe_txt (t := []) (by decide +kernel)) (nomark _)) (pss_one ps_never) pss_nil)
 (pss_one (ps_if (PW.pt (pw_or (pt_cmpR op_lt (pv 3) pe_int (nomark _)) (pw_or1 (pt_cmpR op_gt (pe_op op_add (pv 3) (pe_callB len_txt (by rfl) U.len (by decide +kernel) (pa_cons (pv 4) pa_nil))) (pv 0) (nomark _))))) (pss_one ps_never) pss_nil))))))), ?_⟩
    have hn1 := pv_.n1
    have hn9 := pv_.n9
    walk_at "gx"
    refine iteDf (by omega) ?_
    walk_at "gx"
    refine iteDf (by omega) ?_
    walk_at "gx"
    refine ⟨al, rfl, av, fun H1 sm1 => ?_⟩
    have hqa1 := sm1 _ _ hqa
    walk_at "gx"
    refine w_forU (xs := vs) (fun i σ H2 => ∃ v3 v4, σ = [some (iv n), some (.ref qa), some (sv al), v3, v4] ∧ Same H H2) ⟨none, none, rfl, sm1⟩ (fun i σ H3 _ ⟨_, _, _, h⟩ => h _ _ hqa) ?_ ?_
    · rintro i x σ H2 hx ⟨v3, v4, rfl, sm2⟩
      obtain ⟨⟨st, pc⟩, hq, a, rfl, ha⟩ := paired_get hpr hx
      obtain ⟨h1, h2⟩ := pv_.ok _ (List.mem_of_getElem? hq)
      have h2 : st + pc.length ≤ n := h2
      have ha2 : H2 a = some (.tup [iv st, sv pc]) := sm2 _ _ ha
      walk_at "gx"
      refine iteDf h1 ?_
      walk_at "gx"
      refine iteDf (by omega) ?_
      walk_at "gx"
      refine iteDf (by omega) ?_
      walk_at "gx"
      exact ⟨_, _, rfl, sm2⟩
    · rintro σ H2 ⟨v3, v4, rfl, sm2⟩
      exact q H2 sm2

theorem sc_column_at : FnScope ["placed_pieces", "position", "letters", "start", "piece"] ["placed_pieces", "position"] (defScope s_column_at) := ⟨rfl, rfl, rfl, by decide +kernel, rfl, by decide +kernel, by decide +kernel⟩
abbrev c1 (c : Nat) : V := sv [c]
def sp_column_at : Sp := fun vs H Q _ => ∃ (qa : Addr) (p : Nat) (pl : List (Nat × T)) (n : Nat), vs = [.ref qa, iv p] ∧ PlA H qa pl ∧ PlV pl n ∧ ∀ (r : Addr) (H' : Hp), H r = none → Same H H' → H' r = some (.lst ((col pl p).map c1)) → Q (.ref r) H'
theorem col_len (pl : List (Nat × T)) (p : Nat) : (col pl p).length ≤ pl.length := by
  unfold col
  rw [List.length_map]
  exact List.length_filter_le _ _
theorem col_snoc {pl : List (Nat × T)} {p : Nat} {q : Nat × T} : col (pl ++ [q]) p = if q.1 ≤ p ∧ p < q.1 + q.2.length then col pl p ++ [q.2.getD (p - q.1) 0] else col pl p := by
  unfold col
  by_cases h : q.1 ≤ p ∧ p < q.1 + q.2.length
  · rw [if_pos h, List.filter_append, List.filter_cons_of_pos (by simpa using h), List.map_append]; rfl
  · rw [if_neg h, List.filter_append, List.filter_cons_of_neg (by simpa using h)]; simp
theorem ok_column_at {P : Program} {w : World} {K : PySem.W.Frag} {mg : Str → Option Value} {base : Heap} (D : Df K mg "column_at" s_column_at) (U : Bu mg) : Cl P w K mg base "column_at" 1 ["placed_pieces", "position"] sp_column_at := by
  refine D.cl sc_column_at (fun _ _ _ _ _ _ us hl => match us, hl with | [_, _], _ => rfl) (fun vs H Q E h => ?_) (fun cdv f A outer s H vs Q E hr h => ?_)
  · obtain ⟨qa, p, pl, n, rfl, ⟨vs, hqa, hpr⟩, pv_, q⟩ := h
    rfl
  · obtain ⟨qa, p, pl, n, rfl, ⟨vs, hqa, hpr⟩, pv_, q⟩ := h
    have hu := hu_of hr
    have hu9 := hu9_of hr
    have hu64 := hu64_of hr
    refine ⟨_, (pss_cons (ps_set (i := 2) sc_column_at.nd rfl (Or.inl rfl) (pe_lst pa_nil))
 (pss_cons (ps_for PassesOwn.never rfl (pi_tup (pv 0)) (pg_tup (by rfl) (pgs_cons (pg_name (i := 3) sc_column_at.nd rfl (Or.inl rfl)) (pgs_cons (pg_name (i := 4) sc_column_at.nd rfl (Or.inl rfl)) pgs_nil))) (pss_one (ps_if (pt_chain op_le op_lt (pv 3) (pv 1) (pe_op op_add (pv 3) (pe_callB len_txt (by rfl) U.len (by decide +kernel) (pa_cons (pv 4) pa_nil)))) (pss_one (ps_expr (pe_bm PySem.F.plainAttrs_list PySem.F.slot_list_append PySem.F.type_list_append mt_append (pv 2) (pa_cons (pe_ix ix_txt (pv 4) (pe_op op_sub (pv 1) (pv 3)) (fun _ _ => rfl)) pa_nil)))) pss_nil)))
 (pss_one (ps_ret (pv 2))))), ?_⟩
    have hn9 := pv_.n9
    have hpl := pv_.len
    walk_at "gx"
    intro l H1 hl sm1 h1
    have hqa1 := sm1 _ _ hqa
    walk_at "gx"
    refine w_forU (xs := vs) (fun i σ H2 => ∃ v3 v4, σ = [some (.ref qa), some (iv p), some (.ref l), v3, v4] ∧ Same H H2 ∧ H2 l = some (.lst ((col (pl.take i) p).map c1))) ⟨none, none, rfl, sm1, h1⟩ (fun i σ H3 _ ⟨_, _, _, h, _⟩ => h _ _ hqa) ?_ ?_
    · rintro i x σ H2 hx ⟨v3, v4, rfl, sm2, hl2⟩
      obtain ⟨⟨st, pc⟩, hq, a, rfl, ha⟩ := paired_get hpr hx
      obtain ⟨h1, h2⟩ := pv_.ok _ (List.mem_of_getElem? hq)
      have h2 : st + pc.length ≤ n := h2
      have ha2 : H2 a = some (.tup [iv st, sv pc]) := sm2 _ _ ha
      have ht := snoc_take hq
      have hcl := col_len (pl.take i) p
      rw [List.length_take] at hcl
      walk_at "gx"
      refine iteD (fun c1_ => ?_) (fun c1_ => ?_)
      · walk_at "gx"
        refine iteD (fun c2_ => ?_) (fun c2_ => ?_)
        · have hc : st ≤ p ∧ p < st + pc.length := by omega
          have e3 : ((p : Int) - (st : Int)) = ((p - st : Nat) : Int) := by omega
          walk_at "gx"
          rw [e3]
          refine ⟨pc, _, _, rfl, rfl, by walk_at "sz", atI_getD (by omega), ?_⟩
          walk_at "gx"
          refine ⟨_, _, rfl, sm_mut sm2 hl, ?_⟩
          rw [upd_same, ht, col_snoc, if_pos hc, List.map_append]; rfl
        · walk_at "gx"
          refine ⟨_, _, rfl, sm2, ?_⟩
          rw [ht, col_snoc, if_neg (by show ¬ (st ≤ p ∧ p < st + pc.length); omega)]; exact hl2
      · walk_at "gx"
        refine ⟨_, _, rfl, sm2, ?_⟩
        rw [ht, col_snoc, if_neg (by show ¬ (st ≤ p ∧ p < st + pc.length); omega)]; exact hl2
    · rintro σ H2 ⟨v3, v4, rfl, sm2, hl2⟩
      walk_at "gx"
      have : vs.length = pl.length := Paired.length hpr
      rw [this, List.take_length] at hl2
      exact q l H2 hl sm2 hl2

theorem sc_wrong_with : FnScope ["column", "letter", "sign"] ["column", "letter"] (defScope s_wrong_with) := ⟨rfl, rfl, rfl, by decide +kernel, rfl, by decide +kernel, by decide +kernel⟩
def sp_wrong_with : Sp := fun vs H Q _ => ∃ (ca : Addr) (cl : T) (x : Nat), vs = [.ref ca, sv [x]] ∧ H ca = some (.lst (cl.map c1)) ∧ cl.length ≤ 100 ∧ ∀ H', Same H H' → Q (iv (wrg cl x)) H'
theorem ok_wrong_with {P : Program} {w : World} {K : PySem.W.Frag} {mg : Str → Option Value} {base : Heap} (D : Df K mg "wrong_with" s_wrong_with) (U : Bu mg) : Cl P w K mg base "wrong_with" 1 ["column", "letter"] sp_wrong_with := by
  refine D.cl sc_wrong_with (fun _ _ _ _ _ _ us hl => match us, hl with | [_, _], _ => rfl) (fun vs H Q E h => ?_) (fun cdv f A outer s H vs Q E hr h => ?_)
  · obtain ⟨ca, cl, x, rfl, hca, hcl, q⟩ := h
    rfl
  · obtain ⟨ca, cl, x, rfl, hca, hcl, q⟩ := h
    have hu := hu_of hr
    have hu9 := hu9_of hr
    have hu64 := hu64_of hr
    refine ⟨_, (pss_one (ps_ret (pe_callB (len_seq (K := K) rfl) (by rfl) U.len (by decide +kernel) (pa_cons (pe_lc (own := [("sign", 2)]) (g := (gName 2)) (by rfl) sc_wrong_with.nd (pi_list (pv 0)) (blkOk_by (N := ["column", "letter", "sign"]) (sc := defScope s_wrong_with) (by decide +kernel)) (fun _ _ _ _ _ => (pg_name (i := 2) sc_wrong_with.nd rfl (Or.inl rfl))) (fun _ _ _ _ _ => (pts_one (pt_cmpR op_ne (pv 2) (pv 1) (nomark _)))) (fun _ _ _ _ _ => (pv 2))) pa_nil)))), ?_⟩
    walk_at "gx"
    refine lc_L cl c1 (fun y => if (!decide (y = x)) = true then [c1 y] else []) (fun _ _ => if_len) (by walk_at "sz") hca (fun y H1 hy sm1 R hR => ?_) ?_
    · have hR := hR H1 (Same.refl _)
      walk_at "gx"
      refine ⟨rfl, ?_⟩
      walk_at "gx"
      refine iteN (fun e => ?_) (fun e => ?_)
      · rw [if_pos (by simpa using e)] at hR
        walk_at "gx"
        exact hR
      · rw [if_neg (by simpa using e)] at hR
        exact hR
    · intro l H1 hl sm1 h1
      rw [flat_if (fun y => !decide (y = x)) c1] at h1
      walk_at "gx"
      rw [List.length_map]
      exact q H1 sm1

theorem sc_least_at : FnScope ["column", "alphabet", "letter"] ["column", "alphabet"] (defScope s_least_at) := ⟨rfl, rfl, rfl, by decide +kernel, rfl, by decide +kernel, by decide +kernel⟩
def sp_least_at : Sp := fun vs H Q _ => ∃ (ca : Addr) (cl al : T), vs = [.ref ca, sv al] ∧ H ca = some (.lst (cl.map c1)) ∧ cl.length ≤ 100 ∧ al ≠ [] ∧ al.length ≤ 100 ∧ ∀ H', Same H H' → Q (iv (lea cl al)) H'
theorem ok_least_at {P : Program} {w : World} {K : PySem.W.Frag} {mg : Str → Option Value} {base : Heap} (D : Df K mg "least_at" s_least_at) (U : Bu mg) (C_wrong_with : Cl P w K mg base "wrong_with" 1 ["column", "letter"] sp_wrong_with) : Cl P w K mg base "least_at" 2 ["column", "alphabet"] sp_least_at := by
  refine D.cl sc_least_at (fun _ _ _ _ _ _ us hl => match us, hl with | [_, _], _ => rfl) (fun vs H Q E h => ?_) (fun cdv f A outer s H vs Q E hr h => ?_)
  · obtain ⟨ca, cl, al, rfl, hca, hcl, hal0, hal, q⟩ := h
    rfl
  · obtain ⟨ca, cl, al, rfl, hca, hcl, hal0, hal, q⟩ := h
    have hu := hu_of hr
    have hu9 := hu9_of hr
    have hu64 := hu64_of hr
    refine ⟨_, (pss_one (ps_ret (pe_callB (cr_min rfl) (by rfl) U.mn (by decide +kernel) (pa_cons (pe_lc (own := [("letter", 2)]) (g := (gName 2)) (tt := tYes) (by rfl) sc_least_at.nd (pi_str (pv 1)) (blkOk_by (N := ["column", "alphabet", "letter"]) (sc := defScope s_least_at) (by decide +kernel)) (fun _ _ _ _ _ => (pg_name (i := 2) sc_least_at.nd rfl (Or.inl rfl))) (fun _ _ _ _ _ => pts_nil) (fun _ _ _ _ _ => (pcall C_wrong_with hr (pa_cons (pv 0) (pa_cons (pv 2) pa_nil))))) pa_nil)))), ?_⟩
    walk_at "gx"
    refine lc_S (fun y => [iv (wrg cl y)]) (fun _ _ => Nat.le_refl _) (by walk_at "sz") (fun y H1 hy sm1 R hR => ?_) ?_
    · walk_at "gx"
      refine ⟨rfl, ?_⟩
      walk_at "gx"
      refine iteT ?_
      walk_at "gx"
      refine ⟨ca, cl, y, rfl, sm1 _ _ hca, hcl, fun H2 sm2 => ?_⟩
      exact hR H2 sm2
    · intro l H1 hl sm1 h1
      rw [flat_one (fun y => iv (wrg cl y))] at h1
      have h2 : H1 l = some (.lst (((al.map (wrg cl)).map fun k : Nat => (k : Int)).map V.int)) := by
        rw [h1, List.map_map, List.map_map]; rfl
      refine ⟨l, _, rfl, SqL.of h2, ?_, fun m hm hle => ?_⟩
      · rw [List.length_map, List.length_map]; exact List.length_pos_iff.mpr hal0
      · obtain ⟨k, hk, rfl⟩ := List.mem_map.mp hm
        have : lea cl al = k := lea_eq hk fun y hy => by
          have := hle (y : Int) (List.mem_map.mpr ⟨y, hy, rfl⟩)
          omega
        have q2 := q H1 sm1
        rw [this] at q2
        exact q2

theorem sc_least_total : FnScope ["size", "placed_pieces", "alphabet", "p"] ["size", "placed_pieces", "alphabet"] (defScope s_least_total) := ⟨rfl, rfl, rfl, by decide +kernel, rfl, by decide +kernel, by decide +kernel⟩
def sp_least_total : Sp := fun vs H Q _ => ∃ (n : Nat) (qa : Addr) (pl : List (Nat × T)) (al : T), vs = [iv n, .ref qa, sv al] ∧ PlA H qa pl ∧ PlV pl n ∧ AlV al ∧ ∀ H', Same H H' → Q (iv (tot n pl al)) H'
theorem sum_int : ∀ l : List Nat, (l.map fun k : Nat => (k : Int)).sum = ((l.sum : Nat) : Int)
  | [] => rfl
  | x :: l => by simp only [List.map_cons, List.sum_cons, sum_int l]; omega
theorem ok_least_total {P : Program} {w : World} {K : PySem.W.Frag} {mg : Str → Option Value} {base : Heap} (D : Df K mg "least_total" s_least_total) (U : Bu mg) (C_column_at : Cl P w K mg base "column_at" 1 ["placed_pieces", "position"] sp_column_at) (C_least_at : Cl P w K mg base "least_at" 2 ["column", "alphabet"] sp_least_at) : Cl P w K mg base "least_total" 3 ["size", "placed_pieces", "alphabet"] sp_least_total := by
  refine D.cl sc_least_total (fun _ _ _ _ _ _ us hl => match us, hl with | [_, _, _], _ => rfl) (fun vs H Q E h => ?_) (fun cdv f A outer s H vs Q E hr h => ?_)
  · obtain ⟨n, qa, pl, al, rfl, hpl, pv_, av, q⟩ := h
    rfl
  · obtain ⟨n, qa, pl, al, rfl, hpl, pv_, av, q⟩ := h
    have hu := hu_of hr
    have hu9 := hu9_of hr
    have hu64 := hu64_of hr
    refine ⟨_, (pss_one (ps_ret (pe_callB (cr_sum rfl) (by rfl) U.sm (by decide +kernel) (pa_cons (pe_lc (own := [("p", 3)]) (g := (gName 3)) (tt := tYes) (by rfl) sc_least_total.nd (pi_range1 rfl U.rng (pa_cons (pv 0) pa_nil)) (blkOk_by (N := ["size", "placed_pieces", "alphabet", "p"]) (sc := defScope s_least_total) (by decide +kernel)) (fun _ _ _ _ _ => (pg_name (i := 3) sc_least_total.nd rfl (Or.inl rfl))) (fun _ _ _ _ _ => pts_nil) (fun _ _ _ _ _ => (pcall C_least_at hr (pa_cons (pcall C_column_at hr (pa_cons (pv 1) (pa_cons (pv 3) pa_nil))) (pa_cons (pv 2) pa_nil))))) pa_nil)))), ?_⟩
    have hn9 := pv_.n9
    walk_at "gx"
    refine w_R1 (by omega) (by omega) ?_
    have e1 : ((n : Int)).toNat = n := by omega
    rw [e1]
    refine lc_R (fun p => [iv (lea (col pl p) al)]) (fun _ _ => Nat.le_refl _) (by walk_at "sz") (fun p H1 hp sm1 R hR => ?_) ?_
    · have e2 : ((0 : Int) + (p : Int)) = (p : Int) := by omega
      rw [e2]
      have hcl := col_len pl p
      have hl8 := pv_.len
      have hal := av.len
      walk_at "gx"
      refine ⟨rfl, ?_⟩
      walk_at "gx"
      refine iteT ?_
      walk_at "gx"
      refine ⟨qa, p, pl, n, rfl, hpl.same (sm_kp sm1), pv_, fun r H2 hr sm2 h2 => ?_⟩
      walk_at "gx"
      refine ⟨r, col pl p, al, rfl, h2, by omega, av.ne, by omega, fun H3 sm3 => ?_⟩
      exact hR H3 (sm2.trans sm3)
    · intro l H1 hl sm1 h1
      rw [flat_one (fun p => iv (lea (col pl p) al))] at h1
      have h2 : H1 l = some (.lst ((((List.range n).map fun p => lea (col pl p) al).map fun k : Nat => (k : Int)).map V.int)) := by
        rw [h1, List.map_map, List.map_map]; rfl
      refine ⟨l, _, rfl, SqL.of h2, ?_⟩
      rw [sum_int]
      exact q H1 sm1

theorem sc_check_budget : FnScope ["size", "placed_pieces", "alphabet", "budget", "left"] ["size", "placed_pieces", "alphabet", "budget"] (defScope s_check_budget) := ⟨rfl, rfl, rfl, by decide +kernel, rfl, by decide +kernel, by decide +kernel⟩
def sp_check_budget : Sp := fun vs H Q _ => ∃ (n : Nat) (qa : Addr) (pl : List (Nat × T)) (al : T) (b : Nat), vs = [iv n, .ref qa, sv al, iv b] ∧ PlA H qa pl ∧ PlV pl n ∧ AlV al ∧ tot n pl al ≤ b ∧ ∀ H', Same H H' → Q (iv (b - tot n pl al)) H'
theorem ok_check_budget {P : Program} {w : World} {K : PySem.W.Frag} {mg : Str → Option Value} {base : Heap} (D : Df K mg "check_budget" s_check_budget) (U : Bu mg) (C_least_total : Cl P w K mg base "least_total" 3 ["size", "placed_pieces", "alphabet"] sp_least_total) : Cl P w K mg base "check_budget" 4 ["size", "placed_pieces", "alphabet", "budget"] sp_check_budget := by
  refine D.cl sc_check_budget (fun _ _ _ _ _ _ us hl => match us, hl with | [_, _, _, _], _ => rfl) (fun vs H Q E h => ?_) (fun cdv f A outer s H vs Q E hr h => ?_)
  · obtain ⟨n, qa, pl, al, b, rfl, hpl, pv_, av, hb, q⟩ := h
    rfl
  · obtain ⟨n, qa, pl, al, b, rfl, hpl, pv_, av, hb, q⟩ := h
    have hu := hu_of hr
    have hu9 := hu9_of hr
    have hu64 := hu64_of hr
    refine ⟨_, (pss_cons (ps_set (i := 4) sc_check_budget.nd rfl (Or.inl rfl) (pe_op op_sub (pv 3) (pcall C_least_total hr (pa_cons (pv 0) (pa_cons (pv 1) (pa_cons (pv 2) pa_nil))))))
 (pss_cons (ps_if (PW.pt (pw_or (pt_cmpR op_lt (pv 3) pe_int (nomark _)) (pw_or1 (pt_cmpR op_lt (pv 4) pe_int (nomark _))))) (pss_one ps_never) pss_nil)
 (pss_one (ps_ret (pv 4))))), ?_⟩
    walk_at "gx"
    refine ⟨n, qa, pl, al, rfl, hpl, pv_, av, fun H1 sm1 => ?_⟩
    walk_at "gx"
    refine iteDf (by omega) ?_
    walk_at "gx"
    refine iteDf (by omega) ?_
    walk_at "gx"
    have e : ((b : Int) - (tot n pl al : Int)) = ((b - tot n pl al : Nat) : Int) := by omega
    rw [e]
    exact q H1 sm1

theorem sc_letters_within : FnScope ["column", "alphabet", "left", "least", "letter"] ["column", "alphabet", "left"] (defScope s_letters_within) := ⟨rfl, rfl, rfl, by decide +kernel, rfl, by decide +kernel, by decide +kernel⟩
def sp_letters_within : Sp := fun vs H Q _ => ∃ (ca : Addr) (cl al : T) (lf : Nat), vs = [.ref ca, sv al, iv lf] ∧ H ca = some (.lst (cl.map c1)) ∧ cl.length ≤ 100 ∧ al ≠ [] ∧ al.length ≤ 100 ∧ ∀ H', Same H H' → Q (sv (lets cl al lf)) H'
theorem flat_sing : ∀ l : T, (l.map fun x => [x]).flatten = l
  | [] => rfl
  | x :: l => by rw [List.map_cons, List.flatten_cons, flat_sing l]; rfl
theorem ok_letters_within {P : Program} {w : World} {K : PySem.W.Frag} {mg : Str → Option Value} {base : Heap} (D : Df K mg "letters_within" s_letters_within) (U : Bu mg) (C_least_at : Cl P w K mg base "least_at" 2 ["column", "alphabet"] sp_least_at) (C_wrong_with : Cl P w K mg base "wrong_with" 1 ["column", "letter"] sp_wrong_with) : Cl P w K mg base "letters_within" 3 ["column", "alphabet", "left"] sp_letters_within := by
  refine D.cl sc_letters_within (fun _ _ _ _ _ _ us hl => match us, hl with | [_, _, _], _ => rfl) (fun vs H Q E h => ?_) (fun cdv f A outer s H vs Q E hr h => ?_)
  · obtain ⟨ca, cl, al, lf, rfl, hca, hcl, hal0, hal, q⟩ := h
    rfl
  · obtain ⟨ca, cl, al, lf, rfl, hca, hcl, hal0, hal, q⟩ := h
    have hu := hu_of hr
    have hu9 := hu9_of hr
    have hu64 := hu64_of hr
    refine ⟨_, (pss_cons (ps_set (i := 3) sc_letters_within.nd rfl (Or.inr rfl) (pcall C_least_at hr (pa_cons (pv 0) (pa_cons (pv 1) pa_nil))))
 (pss_one (ps_ret (pe_joinT (K := K) rfl (pe_txt (t := []) (by decide +kernel)) (pe_lc (own := [("letter", 4)]) (g := (gName 4)) (by rfl) sc_letters_within.nd (pi_str (pv 1)) (blkOk_by (N := ["column", "alphabet", "left", "least", "letter"]) (sc := defScope s_letters_within) (by decide +kernel)) (fun _ _ _ _ _ => (pg_name (i := 4) sc_letters_within.nd rfl (Or.inl rfl))) (fun _ _ _ _ _ => (pts_one (pt_cmpR op_le (pcall C_wrong_with hr (pa_cons (pv 0) (pa_cons (pv 4) pa_nil))) (pe_op op_add (pv 3) (pv 2)) (nomark _)))) (fun _ _ _ _ _ => (pv 4))))))), ?_⟩
    walk_at "gx"
    refine ⟨ca, cl, al, rfl, hca, hcl, hal0, hal, fun H1 sm1 => ?_⟩
    walk_at "gx"
    refine lc_S (fun y => if decide (wrg cl y ≤ lea cl al + lf) = true then [c1 y] else []) (fun _ _ => if_len) (by walk_at "sz") (fun y H2 hy sm2 R hR => ?_) ?_
    · walk_at "gx"
      refine ⟨rfl, ?_⟩
      walk_at "gx"
      refine ⟨ca, cl, y, rfl, sm2 _ _ (sm1 _ _ hca), hcl, fun H3 sm3 => ?_⟩
      have hR := hR H3 sm3
      walk_at "gx"
      refine iteD (fun e => ?_) (fun e => ?_)
      · rw [if_pos (decide_eq_true (by omega))] at hR
        walk_at "gx"
        exact hR
      · rw [if_neg (by rw [decide_eq_true_eq]; omega)] at hR
        exact hR
    · intro l H2 hl sm2 h2
      rw [flat_if (fun y => decide (wrg cl y ≤ lea cl al + lf)) c1] at h2
      have h3 : H2 l = some (.lst (((lets cl al lf).map fun x => [x]).map sv)) := by rw [h2, List.map_map]; rfl
      have hl2 : (lets cl al lf).length ≤ al.length := List.length_filter_le _ _
      refine w_joinL h3 ?_ ?_
      · rw [flat_sing]; omega
      · rw [flat_sing]
        exact q H2 (sm1.trans sm2)

theorem sc_possible_letters : FnScope ["size", "placed_pieces", "alphabet", "budget", "left", "p"] ["size", "placed_pieces", "alphabet", "budget"] (defScope s_possible_letters) := ⟨rfl, rfl, rfl, by decide +kernel, rfl, by decide +kernel, by decide +kernel⟩
def sp_possible_letters : Sp := fun vs H Q _ => ∃ (n : Nat) (qa : Addr) (pl : List (Nat × T)) (al : T) (b : Nat), vs = [iv n, .ref qa, sv al, iv b] ∧ PlA H qa pl ∧ PlV pl n ∧ AlV al ∧ tot n pl al ≤ b ∧
  ∀ (r : Addr) (H' : Hp), H r = none → Same H H' → H' r = some (.tup (((List.range n).map fun p => lets (col pl p) al (b - tot n pl al)).map sv)) → Q (.ref r) H'
theorem ok_possible_letters {P : Program} {w : World} {K : PySem.W.Frag} {mg : Str → Option Value} {base : Heap} (D : Df K mg "possible_letters" s_possible_letters) (U : Bu mg) (C_check_budget : Cl P w K mg base "check_budget" 4 ["size", "placed_pieces", "alphabet", "budget"] sp_check_budget) (C_check_placed : Cl P w K mg base "check_placed" 2 ["size", "placed_pieces", "alphabet"] sp_check_placed) (C_column_at : Cl P w K mg base "column_at" 1 ["placed_pieces", "position"] sp_column_at) (C_letters_within : Cl P w K mg base "letters_within" 3 ["column", "alphabet", "left"] sp_letters_within) : Cl P w K mg base "possible_letters" 5 ["size", "placed_pieces", "alphabet", "budget"] sp_possible_letters := by
  refine D.cl sc_possible_letters (fun _ _ _ _ _ _ us hl => match us, hl with | [_, _, _, _], _ => rfl) (fun vs H Q E h => ?_) (fun cdv f A outer s H vs Q E hr h => ?_)
  · obtain ⟨n, qa, pl, al, b, rfl, hpl, pv_, av, hb, q⟩ := h
    rfl
  · obtain ⟨n, qa, pl, al, b, rfl, hpl, pv_, av, hb, q⟩ := h
    have hu := hu_of hr
    have hu9 := hu9_of hr
    have hu64 := hu64_of hr
    refine ⟨_, (pss_cons (ps_expr (pcall C_check_placed hr (pa_cons (pv 0) (pa_cons (pv 1) (pa_cons (pv 2) pa_nil)))))
 (pss_cons (ps_set (i := 4) sc_possible_letters.nd rfl (Or.inr rfl) (pcall C_check_budget hr (pa_cons (pv 0) (pa_cons (pv 1) (pa_cons (pv 2) (pa_cons (pv 3) pa_nil))))))
 (pss_one (ps_ret (pe_callTy (tup_of (K := K) rfl) (by rfl) U.tpl (by decide +kernel) (pa_cons (pe_lc (own := [("p", 5)]) (g := (gName 5)) (tt := tYes) (by rfl) sc_possible_letters.nd (pi_range1 rfl U.rng (pa_cons (pv 0) pa_nil)) (blkOk_by (N := ["size", "placed_pieces", "alphabet", "budget", "left", "p"]) (sc := defScope s_possible_letters) (by decide +kernel)) (fun _ _ _ _ _ => (pg_name (i := 5) sc_possible_letters.nd rfl (Or.inl rfl))) (fun _ _ _ _ _ => pts_nil) (fun _ _ _ _ _ => (pcall C_letters_within hr (pa_cons (pcall C_column_at hr (pa_cons (pv 1) (pa_cons (pv 5) pa_nil))) (pa_cons (pv 2) (pa_cons (pv 4) pa_nil)))))) pa_nil)))))), ?_⟩
    have hn9 := pv_.n9
    walk_at "gx"
    refine ⟨n, qa, pl, al, rfl, hpl, pv_, av, fun H1 sm1 => ?_⟩
    walk_at "gx"
    refine ⟨n, qa, pl, al, b, rfl, hpl.same (sm_kp sm1), pv_, av, hb, fun H2 sm2 => ?_⟩
    have sm12 := sm1.trans sm2
    generalize b - tot n pl al = lf at *
    walk_at "gx"
    refine w_R1 (by omega) (by omega) ?_
    have e1 : ((n : Int)).toNat = n := by omega
    rw [e1]
    refine lc_R (fun p => [sv (lets (col pl p) al lf)]) (fun _ _ => Nat.le_refl _) (by walk_at "sz") (fun p H3 hp sm3 R hR => ?_) ?_
    · have e2 : ((0 : Int) + (p : Int)) = (p : Int) := by omega
      rw [e2]
      have hcl := col_len pl p
      have hl8 := pv_.len
      have hal := av.len
      walk_at "gx"
      refine ⟨rfl, ?_⟩
      walk_at "gx"
      refine iteT ?_
      walk_at "gx"
      refine ⟨qa, p, pl, n, rfl, hpl.same (sm_kp (sm12.trans sm3)), pv_, fun r H4 hr sm4 h4 => ?_⟩
      walk_at "gx"
      refine ⟨r, col pl p, al, lf, rfl, h4, by omega, av.ne, by omega, fun H5 sm5 => ?_⟩
      exact hR H5 (sm4.trans sm5)
    · intro l H3 hl sm3 h3
      rw [flat_one (fun p => sv (lets (col pl p) al lf))] at h3
      have h4 : H3 l = some (.lst (((List.range n).map fun p => lets (col pl p) al lf).map sv)) := by rw [h3, List.map_map]; rfl
      walk_at "gx"
      intro r H4 hr sm4 h5
      exact q r H4 (sm12.free (sm3.free hr)) (sm12.trans (sm3.trans sm4)) (by rw [h5, List.map_map])

theorem sc_best_letters : FnScope ["size", "placed_pieces", "alphabet", "letters", "p", "column", "least", "letter"] ["size", "placed_pieces", "alphabet"] (defScope s_best_letters) := ⟨rfl, rfl, rfl, by decide +kernel, rfl, by decide +kernel, by decide +kernel⟩
def sp_best_letters : Sp := fun vs H Q _ => ∃ (n : Nat) (qa : Addr) (pl : List (Nat × T)) (al : T), vs = [iv n, .ref qa, sv al] ∧ PlA H qa pl ∧ PlV pl n ∧ AlV al ∧ ∀ (r : Addr) (H' : Hp), H r = none → Same H H' → H' r = some (.lst ((vot n pl al).map c1)) → Q (.ref r) H'
theorem ok_best_letters {P : Program} {w : World} {K : PySem.W.Frag} {mg : Str → Option Value} {base : Heap} (D : Df K mg "best_letters" s_best_letters) (U : Bu mg) (C_column_at : Cl P w K mg base "column_at" 1 ["placed_pieces", "position"] sp_column_at) (C_least_at : Cl P w K mg base "least_at" 2 ["column", "alphabet"] sp_least_at) (C_wrong_with : Cl P w K mg base "wrong_with" 1 ["column", "letter"] sp_wrong_with) : Cl P w K mg base "best_letters" 3 ["size", "placed_pieces", "alphabet"] sp_best_letters := by
  refine D.cl sc_best_letters (fun _ _ _ _ _ _ us hl => match us, hl with | [_, _, _], _ => rfl) (fun vs H Q E h => ?_) (fun cdv f A outer s H vs Q E hr h => ?_)
  · obtain ⟨n, qa, pl, al, rfl, hpl, pv_, av, q⟩ := h
    rfl
  · obtain ⟨n, qa, pl, al, rfl, hpl, pv_, av, q⟩ := h
    have hu := hu_of hr
    have hu9 := hu9_of hr
    have hu64 := hu64_of hr
    refine ⟨_, (pss_cons (ps_set (i := 3) sc_best_letters.nd rfl (Or.inl rfl) (pe_lst pa_nil))
 (pss_cons (ps_for PassesOwn.never rfl (pi_range1 rfl U.rng (pa_cons (pv 0) pa_nil)) (pg_name (i := 4) sc_best_letters.nd rfl (Or.inl rfl)) (pss_cons (ps_set (i := 5) sc_best_letters.nd rfl (Or.inr rfl) (pcall C_column_at hr (pa_cons (pv 1) (pa_cons (pv 4) pa_nil))))
 (pss_cons (ps_set (i := 6) sc_best_letters.nd rfl (Or.inr rfl) (pcall C_least_at hr (pa_cons (pv 5) (pa_cons (pv 2) pa_nil))))
 (pss_one (ps_expr (pe_bm PySem.F.plainAttrs_list PySem.F.slot_list_append PySem.F.type_list_append mt_append (pv 3) (pa_cons (pe_ix ix_list (pe_lc (own := [("letter", 7)]) (g := (gName 7)) (by rfl) sc_best_letters.nd (pi_str (pv 2)) (blkOk_by (N := ["size", "placed_pieces", "alphabet", "letters", "p", "column", "least", "letter"]) (sc := defScope s_best_letters) (by decide +kernel)) (fun _ _ _ _ _ => (pg_name (i := 7) sc_best_letters.nd rfl (Or.inl rfl))) (fun _ _ _ _ _ => (pts_one (pt_cmpR op_eq (pcall C_wrong_with hr (pa_cons (pv 5) (pa_cons (pv 7) pa_nil))) (pv 6) (nomark _)))) (fun _ _ _ _ _ => (pv 7))) pe_int (fun _ _ => rfl)) pa_nil)))))))
 (pss_one (ps_ret (pv 3))))), ?_⟩
    have hn9 := pv_.n9
    have hl8 := pv_.len
    have hal := av.len
    walk_at "gx"
    intro l H1 hl sm1 h1
    walk_at "gx"
    refine w_R1 (by omega) (by omega) ?_
    have e1 : ((n : Int)).toNat = n := by omega
    rw [e1]
    refine w_forR (fun i σ H2 => ∃ v4 v5 v6 v7, σ = [some (iv n), some (.ref qa), some (sv al), some (.ref l), v4, v5, v6, v7] ∧ Same H H2 ∧ H2 l = some (.lst (((List.range i).map fun p => bst (col pl p) al).map c1))) ⟨none, none, none, none, rfl, sm1, h1⟩ ?_ ?_
    · rintro p σ H2 hp ⟨v4, v5, v6, v7, rfl, sm2, hl2⟩
      have e2 : ((0 : Int) + (p : Int)) = (p : Int) := by omega
      rw [e2]
      have hcl := col_len pl p
      walk_at "gx"
      refine ⟨qa, p, pl, n, rfl, hpl.same (sm_kp sm2), pv_, fun r H3 hr sm3 h3 => ?_⟩
      walk_at "gx"
      refine ⟨r, col pl p, al, rfl, h3, by omega, av.ne, by omega, fun H4 sm4 => ?_⟩
      have hl4 := sm4 _ _ (sm3 _ _ hl2)
      walk_at "gx"
      refine lc_S (fun y => if decide (wrg (col pl p) y = lea (col pl p) al) = true then [c1 y] else []) (fun _ _ => if_len) (by walk_at "sz") (fun y H5 hy sm5 R hR => ?_) ?_
      · walk_at "gx"
        refine ⟨rfl, ?_⟩
        walk_at "gx"
        refine ⟨r, col pl p, y, rfl, sm5 _ _ (sm4 _ _ h3), by omega, fun H6 sm6 => ?_⟩
        have hR := hR H6 sm6
        walk_at "gx"
        refine iteD (fun e => ?_) (fun e => ?_)
        · rw [if_pos (decide_eq_true (by omega))] at hR
          walk_at "gx"
          exact hR
        · rw [if_neg (by rw [decide_eq_true_eq]; omega)] at hR
          exact hR
      · intro l2 H5 hl2' sm5 h5
        rw [flat_if (fun y => decide (wrg (col pl p) y = lea (col pl p) al)) c1] at h5
        have hne := bests_ne (c := col pl p) av.ne
        have h6 : H5 l2 = some (.lst ((bests (col pl p) al).map c1)) := h5
        have hb : bst (col pl p) al = (bests (col pl p) al).headD 0 := rfl
        generalize bests (col pl p) al = bl at h6 hne hb
        rcases bl with _ | ⟨x, bl⟩
        · exact absurd rfl hne
        have sm25 := sm3.trans (sm4.trans sm5)
        have hl5 := sm25 _ _ hl2
        have hll : (((List.range p).map fun p => bst (col pl p) al).map c1).length < sizeLine := by rw [List.length_map, List.length_map, List.length_range, sizeLine_eq]; omega
        walk_at "gx"
        refine w_ixL h6 (atI_nat (j := 0) (by rfl)) ?_
        walk_at "gx"
        refine ⟨_, _, _, _, rfl, sm_mut (sm2.trans sm25) hl, ?_⟩
        rw [upd_same, List.range_succ, List.map_append, List.map_append]
        show _ = some (HO.lst (_ ++ [c1 (bst (col pl p) al)]))
        rw [hb]; rfl
    · rintro σ H2 ⟨v4, v5, v6, v7, rfl, sm2, hl2⟩
      walk_at "gx"
      exact q l H2 hl sm2 hl2

theorem sc_voted : FnScope ["size", "placed_pieces", "alphabet"] ["size", "placed_pieces", "alphabet"] (defScope s_voted) := ⟨rfl, rfl, rfl, by decide +kernel, rfl, by decide +kernel, by decide +kernel⟩
def sp_voted : Sp := fun vs H Q _ => ∃ (n : Nat) (qa : Addr) (pl : List (Nat × T)) (al : T), vs = [iv n, .ref qa, sv al] ∧ PlA H qa pl ∧ PlV pl n ∧ AlV al ∧ ∀ (H' : Hp), Same H H' → Q (sv (vot n pl al)) H'
theorem ok_voted {P : Program} {w : World} {K : PySem.W.Frag} {mg : Str → Option Value} {base : Heap} (D : Df K mg "voted" s_voted) (U : Bu mg) (C_best_letters : Cl P w K mg base "best_letters" 3 ["size", "placed_pieces", "alphabet"] sp_best_letters) (C_check_placed : Cl P w K mg base "check_placed" 2 ["size", "placed_pieces", "alphabet"] sp_check_placed) : Cl P w K mg base "voted" 4 ["size", "placed_pieces", "alphabet"] sp_voted := by
  refine D.cl sc_voted (fun _ _ _ _ _ _ us hl => match us, hl with | [_, _, _], _ => rfl) (fun vs H Q E h => ?_) (fun cdv f A outer s H vs Q E hr h => ?_)
  · obtain ⟨n, qa, pl, al, rfl, hpl, pv_, av, q⟩ := h
    rfl
  · obtain ⟨n, qa, pl, al, rfl, hpl, pv_, av, q⟩ := h
    have hu := hu_of hr
    have hu9 := hu9_of hr
    have hu64 := hu64_of hr
    refine ⟨_, (pss_cons (ps_expr (pcall C_check_placed hr (pa_cons (pv 0) (pa_cons (pv 1) (pa_cons (pv 2) pa_nil)))))
 (pss_one (ps_ret (pe_joinT (K := K) rfl (pe_txt (t := []) (by decide +kernel)) (pcall C_best_letters hr (pa_cons (pv 0) (pa_cons (pv 1) (pa_cons (pv 2) pa_nil)))))))), ?_⟩
    have hn9 := pv_.n9
    walk_at "gx"
    refine ⟨n, qa, pl, al, rfl, hpl, pv_, av, fun H1 sm1 => ?_⟩
    walk_at "gx"
    refine ⟨n, qa, pl, al, rfl, hpl.same (sm_kp sm1), pv_, av, fun r H2 hr sm2 h2 => ?_⟩
    have h3 : H2 r = some (.lst (((vot n pl al).map fun x => [x]).map sv)) := by rw [h2, List.map_map]; rfl
    have hl : (vot n pl al).length = n := by unfold vot; rw [List.length_map, List.length_range]
    refine w_joinL h3 ?_ ?_
    · rw [flat_sing]; omega
    · rw [flat_sing]
      exact q H2 (sm1.trans sm2)

theorem sc_corrected : FnScope ["placed_pieces", "text", "pieces", "start", "piece"] ["placed_pieces", "text"] (defScope s_corrected) := ⟨rfl, rfl, rfl, by decide +kernel, rfl, by decide +kernel, by decide +kernel⟩
/-- the pieces as a text has them -/
def cor (pl : List (Nat × T)) (t : T) : List T := pl.map fun q => (t.drop q.1).take q.2.length
def sp_corrected : Sp := fun vs H Q _ => ∃ (qa : Addr) (pl : List (Nat × T)) (t : T), vs = [.ref qa, sv t] ∧ PlA H qa pl ∧ PlV pl t.length ∧ ∀ (r : Addr) (H' : Hp), H r = none → Same H H' → H' r = some (.tup ((cor pl t).map sv)) → Q (.ref r) H'
theorem ok_corrected {P : Program} {w : World} {K : PySem.W.Frag} {mg : Str → Option Value} {base : Heap} (D : Df K mg "corrected" s_corrected) (U : Bu mg) : Cl P w K mg base "corrected" 1 ["placed_pieces", "text"] sp_corrected := by
  refine D.cl sc_corrected (fun _ _ _ _ _ _ us hl => match us, hl with | [_, _], _ => rfl) (fun vs H Q E h => ?_) (fun cdv f A outer s H vs Q E hr h => ?_)
  · obtain ⟨qa, pl, t, rfl, ⟨vs, hqa, hpr⟩, pv_, q⟩ := h
    rfl
  · obtain ⟨qa, pl, t, rfl, ⟨vs, hqa, hpr⟩, pv_, q⟩ := h
    have hu := hu_of hr
    have hu9 := hu9_of hr
    have hu64 := hu64_of hr
    refine ⟨_, (pss_cons (ps_set (i := 2) sc_corrected.nd rfl (Or.inl rfl) (pe_lst pa_nil))
 (pss_cons (ps_for PassesOwn.never rfl (pi_tup (pv 0)) (pg_tup (by rfl) (pgs_cons (pg_name (i := 3) sc_corrected.nd rfl (Or.inl rfl)) (pgs_cons (pg_name (i := 4) sc_corrected.nd rfl (Or.inl rfl)) pgs_nil))) (pss_cons (ps_if (PW.pt (pw_or (pt_cmpR op_lt (pv 3) pe_int (nomark _)) (pw_or1 (pt_cmpR op_gt (pe_op op_add (pv 3) (pe_callB len_txt (by rfl) U.len (by decide +kernel) (pa_cons (pv 4) pa_nil))) (pe_callB len_txt (by rfl) U.len (by decide +kernel) (pa_cons (pv 1) pa_nil)) (nomark _))))) (pss_one ps_never) pss_nil)
 (pss_one (ps_expr (pe_bm PySem.F.plainAttrs_list PySem.F.slot_list_append PySem.F.type_list_append mt_append (pv 2) (pa_cons (pe_slice sl_txt1 (pv 1) (po_some (pv 3)) (po_some (pe_op op_add (pv 3) (pe_callB len_txt (by rfl) U.len (by decide +kernel) (pa_cons (pv 4) pa_nil))))) pa_nil))))))
 (pss_one (ps_ret (pe_callTy (tup_of (K := K) rfl) (by rfl) U.tpl (by decide +kernel) (pa_cons (pv 2) pa_nil)))))), ?_⟩
    have hn9 := pv_.n9
    have hl8 := pv_.len
    walk_at "gx"
    intro l H1 hl sm1 h1
    have hqa1 := sm1 _ _ hqa
    walk_at "gx"
    refine w_forU (xs := vs) (fun i σ H2 => ∃ v3 v4, σ = [some (.ref qa), some (sv t), some (.ref l), v3, v4] ∧ Same H H2 ∧ H2 l = some (.lst ((cor (pl.take i) t).map sv))) ⟨none, none, rfl, sm1, h1⟩ (fun i σ H3 _ ⟨_, _, _, h, _⟩ => h _ _ hqa) ?_ ?_
    · rintro i x σ H2 hx ⟨v3, v4, rfl, sm2, hl2⟩
      obtain ⟨⟨st, pc⟩, hq, a, rfl, ha⟩ := paired_get hpr hx
      obtain ⟨h1, h2⟩ := pv_.ok _ (List.mem_of_getElem? hq)
      have h2 : st + pc.length ≤ t.length := h2
      have ha2 : H2 a = some (.tup [iv st, sv pc]) := sm2 _ _ ha
      have ht := snoc_take hq
      have hll : ((cor (pl.take i) t).map sv).length < sizeLine := by
        unfold cor
        rw [List.length_map, List.length_map, List.length_take, sizeLine_eq]; omega
      walk_at "gx"
      refine iteDf (by omega) ?_
      walk_at "gx"
      refine iteDf (by omega) ?_
      have e3 : ((st : Int) + (pc.length : Int)) = ((st + pc.length : Nat) : Int) := by omega
      walk_at "gx"
      refine ⟨_, _, rfl, sm_mut sm2 hl, ?_⟩
      rw [upd_same, ht]
      unfold cor
      rw [List.map_append, List.map_append]
      simp only [List.map_cons, List.map_nil]
      congr 5
      have e4 : ((st : Int)).toNat = st := by omega
      have e5 : ((st : Int) + (pc.length : Int)).toNat = st + pc.length := by omega
      simp only [e4, e5]
      congr 1
      omega
    · rintro σ H2 ⟨v3, v4, rfl, sm2, hl2⟩
      have : vs.length = pl.length := Paired.length hpr
      rw [this, List.take_length] at hl2
      walk_at "gx"
      intro r H3 hr sm3 h3
      exact q r H3 (sm2.free hr) (sm2.trans sm3) h3

theorem sc_plain_grams : FnScope ["windows", "begins", "ends", "window", "gram"] ["windows"] (defScope s_plain_grams) := ⟨rfl, rfl, rfl, by decide +kernel, rfl, by decide +kernel, by decide +kernel⟩
/-- grams that begin one window and end one -/
def pla (ws : List T) : List T := (ws.map List.dropLast).filter fun x => decide ((ws.map List.dropLast).count x = 1) && decide ((ws.map (List.drop 1)).count x = 1)
def sp_plain_grams : Sp := fun vs H Q _ => ∃ (wa : Addr) (ws : List T) (g : Nat), vs = [.ref wa] ∧ H wa = some (.tup (ws.map sv)) ∧ Wd ws g ∧ ∀ (r : Addr) (H' : Hp), H r = none → Same H H' → H' r = some (.lst ((pla ws).map sv)) → Q (.ref r) H'
theorem ok_plain_grams {P : Program} {w : World} {K : PySem.W.Frag} {mg : Str → Option Value} {base : Heap} (D : Df K mg "plain_grams" s_plain_grams) (U : Bu mg) : Cl P w K mg base "plain_grams" 1 ["windows"] sp_plain_grams := by
  refine D.cl sc_plain_grams (fun _ _ _ _ _ _ us hl => match us, hl with | [_], _ => rfl) (fun vs H Q E h => ?_) (fun cdv f A outer s H vs Q E hr h => ?_)
  · obtain ⟨wa, ws, g, rfl, hwa, wd, q⟩ := h
    rfl
  · obtain ⟨wa, ws, g, rfl, hwa, wd, q⟩ := h
    have hu := hu_of hr
    have hu9 := hu9_of hr
    have hu64 := hu64_of hr
    refine ⟨_, (pss_cons (ps_set (i := 1) sc_plain_grams.nd rfl (Or.inr rfl) (pe_lc (own := [("window", 3)]) (g := (gName 3)) (tt := tYes) (by rfl) sc_plain_grams.nd (pi_tup (pv 0)) (blkOk_by (N := ["windows", "begins", "ends", "window", "gram"]) (sc := defScope s_plain_grams) (by decide +kernel)) (fun _ _ _ _ _ => (pg_name (i := 3) sc_plain_grams.nd rfl (Or.inl rfl))) (fun _ _ _ _ _ => pts_nil) (fun _ _ _ _ _ => (pe_slice sl_txt1 (pv 3) po_none (po_some (pe_un un_neg pe_int))))))
 (pss_cons (ps_set (i := 2) sc_plain_grams.nd rfl (Or.inr rfl) (pe_lc (own := [("window", 3)]) (g := (gName 3)) (tt := tYes) (by rfl) sc_plain_grams.nd (pi_tup (pv 0)) (blkOk_by (N := ["windows", "begins", "ends", "window", "gram"]) (sc := defScope s_plain_grams) (by decide +kernel)) (fun _ _ _ _ _ => (pg_name (i := 3) sc_plain_grams.nd rfl (Or.inl rfl))) (fun _ _ _ _ _ => pts_nil) (fun _ _ _ _ _ => (pe_slice sl_txt1 (pv 3) (po_some pe_int) po_none))))
 (pss_one (ps_ret (pe_lc (own := [("gram", 4)]) (g := (gName 4)) (by rfl) sc_plain_grams.nd (pi_list (pv 1)) (blkOk_by (N := ["windows", "begins", "ends", "window", "gram"]) (sc := defScope s_plain_grams) (by decide +kernel)) (fun _ _ _ _ _ => (pg_name (i := 4) sc_plain_grams.nd rfl (Or.inl rfl))) (fun _ _ _ _ _ => (pts_one (PW.pt (pw_and (pt_cmpR op_eq (pe_bmK (K := K) rfl PySem.F.plainAttrs_list PySem.F.slot_list_count PySem.F.type_list_count (cnt_txt (K := K) rfl) (pv 1) (pa_cons (pv 4) pa_nil)) pe_int (nomark _)) (pw_and1 (pt_cmpR op_eq (pe_bmK (K := K) rfl PySem.F.plainAttrs_list PySem.F.slot_list_count PySem.F.type_list_count (cnt_txt (K := K) rfl) (pv 2) (pa_cons (pv 4) pa_nil)) pe_int (nomark _))))))) (fun _ _ _ _ _ => (pv 4))))))), ?_⟩
    have hwl := wd.len
    have hg12 := wd.g12
    have hwne := wd.ne
    walk_at "gx"
    refine lc_U ws sv (fun x => [sv x.dropLast]) (fun _ _ => Nat.le_refl _) (by walk_at "sz") hwa (fun x H1 hx sm1 R hR => ?_) ?_
    · have hR := hR H1 (Same.refl _)
      have hx0 := hwne x hx
      have hxl := wd.lg x hx
      walk_at "gx"
      refine ⟨rfl, ?_⟩
      walk_at "gx"
      refine iteT ?_
      walk_at "gx"
      exact hR
    intro b H1 hb sm1 h1
    rw [flat_one (fun x : T => sv x.dropLast)] at h1
    have h1 : H1 b = some (.lst ((ws.map List.dropLast).map sv)) := by rw [h1, List.map_map]; rfl
    have hwa1 := sm1 _ _ hwa
    walk_at "gx"
    refine lc_U ws sv (fun x => [sv (x.drop 1)]) (fun _ _ => Nat.le_refl _) (by walk_at "sz") hwa1 (fun x H2 hx sm2 R hR => ?_) ?_
    · have hR := hR H2 (Same.refl _)
      have hxl := wd.lg x hx
      walk_at "gx"
      refine ⟨rfl, ?_⟩
      walk_at "gx"
      refine iteT ?_
      walk_at "gx"
      exact hR
    intro e H2 he sm2 h2
    rw [flat_one (fun x : T => sv (x.drop 1))] at h2
    have h2 : H2 e = some (.lst ((ws.map (List.drop 1)).map sv)) := by rw [h2, List.map_map]; rfl
    have hb2 := sm2 _ _ h1
    walk_at "gx"
    refine lc_L (ws.map List.dropLast) sv (fun x => if (decide ((ws.map List.dropLast).count x = 1) && decide ((ws.map (List.drop 1)).count x = 1)) = true then [sv x] else []) (fun _ _ => if_len) (by rw [List.length_map]; walk_at "sz") hb2 (fun x H3 hx sm3 R hR => ?_) ?_
    · have hR := hR H3 (Same.refl _)
      have hb3 := sm3 _ _ hb2
      have he3 := sm3 _ _ h2
      walk_at "gx"
      refine ⟨rfl, ?_⟩
      walk_at "gx"
      refine ⟨b, _, x, rfl, rfl, SqL.of hb3, ?_⟩
      walk_at "gx"
      refine iteD (fun c1_ => ?_) (fun c1_ => ?_)
      · walk_at "gx"
        refine ⟨e, _, x, rfl, rfl, SqL.of he3, ?_⟩
        walk_at "gx"
        refine iteD (fun c2_ => ?_) (fun c2_ => ?_)
        · rw [if_pos (by rw [Bool.and_eq_true, decide_eq_true_eq, decide_eq_true_eq]; omega)] at hR
          walk_at "gx"
          exact hR
        · rw [if_neg (by rw [Bool.and_eq_true, decide_eq_true_eq, decide_eq_true_eq]; omega)] at hR
          exact hR
      · rw [if_neg (by rw [Bool.and_eq_true, decide_eq_true_eq, decide_eq_true_eq]; omega)] at hR
        walk_at "gx"
        exact hR
    · intro r H3 hr sm3 h3
      rw [flat_if (fun x => decide ((ws.map List.dropLast).count x = 1) && decide ((ws.map (List.drop 1)).count x = 1)) sv] at h3
      exact q r H3 (sm1.free (sm2.free hr)) (sm1.trans (sm2.trans sm3)) h3

theorem sc_next_window : FnScope ["windows", "window", "other"] ["windows", "window"] (defScope s_next_window) := ⟨rfl, rfl, rfl, by decide +kernel, rfl, by decide +kernel, by decide +kernel⟩
/-- the first window behind another -/
def nxt (ws : List T) (x : T) : T := (ws.find? fun y => decide (y.dropLast = x.drop 1)).getD []
def sp_next_window : Sp := fun vs H Q _ => ∃ (wa : Addr) (ws : List T) (g : Nat) (x : T), vs = [.ref wa, sv x] ∧ H wa = some (.tup (ws.map sv)) ∧ Wd ws g ∧ x ∈ ws ∧ ∀ (H' : Hp), Same H H' → Q (sv (nxt ws x)) H'
theorem ok_next_window {P : Program} {w : World} {K : PySem.W.Frag} {mg : Str → Option Value} {base : Heap} (D : Df K mg "next_window" s_next_window) (U : Bu mg) : Cl P w K mg base "next_window" 1 ["windows", "window"] sp_next_window := by
  refine D.cl sc_next_window (fun _ _ _ _ _ _ us hl => match us, hl with | [_, _], _ => rfl) (fun vs H Q E h => ?_) (fun cdv f A outer s H vs Q E hr h => ?_)
  · obtain ⟨wa, ws, g, x, rfl, hwa, wd, hx, q⟩ := h
    rfl
  · obtain ⟨wa, ws, g, x, rfl, hwa, wd, hx, q⟩ := h
    have hu := hu_of hr
    have hu9 := hu9_of hr
    have hu64 := hu64_of hr
    refine ⟨_, (pss_cons (ps_for PassesOwn.never rfl (pi_tup (pv 0)) (pg_name (i := 2) sc_next_window.nd rfl (Or.inl rfl)) (pss_one (ps_if (pt_cmpR op_eq (pe_slice sl_txt1 (pv 2) po_none (po_some (pe_un un_neg pe_int))) (pe_slice sl_txt1 (pv 1) (po_some pe_int) po_none) (nomark _)) (pss_one (ps_ret (pv 2))) pss_nil)))
 (pss_one (ps_ret (pe_txt (t := []) (by decide +kernel))))), ?_⟩
    have hwl := wd.len
    have hg12 := wd.g12
    have hwne := wd.ne
    have hxl := wd.lg x hx
    walk_at "gx"
    refine w_forU (xs := ws.map sv) (fun i σ H1 => ∃ v2, σ = [some (.ref wa), some (sv x), v2] ∧ Same H H1 ∧ nxt ws x = ((ws.drop i).find? fun y => decide (y.dropLast = x.drop 1)).getD []) ⟨none, rfl, Same.refl _, rfl⟩ (fun i σ H1 _ ⟨_, _, h, _⟩ => h _ _ hwa) ?_ ?_
    · rintro i v σ H1 hv ⟨v2, rfl, sm1, e⟩
      rw [List.getElem?_map] at hv
      obtain ⟨y, hy, rfl⟩ := Option.map_eq_some_iff.mp hv
      have hym := List.mem_of_getElem? hy
      have hy0 := hwne y hym
      have hyl := wd.lg y hym
      have hdr := drop_at hy
      rw [hdr] at e
      walk_at "gx"
      refine iteD (fun c => ?_) (fun c => ?_)
      · walk_at "gx"
        rw [List.find?_cons_of_pos (by simpa using c)] at e
        have := q H1 sm1
        rw [e] at this
        exact this
      · walk_at "gx"
        rw [List.find?_cons_of_neg (by simpa using c)] at e
        exact ⟨_, rfl, sm1, e⟩
    · rintro σ H1 ⟨v2, rfl, sm1, e⟩
      rw [List.length_map, List.drop_length] at e
      walk_at "gx"
      have := q H1 sm1
      rw [e] at this
      exact this

theorem sc_strand_from : FnScope ["windows", "plain", "window", "row", "other"] ["windows", "plain", "window"] (defScope s_strand_from) := ⟨rfl, rfl, rfl, by decide +kernel, rfl, by decide +kernel, by decide +kernel⟩
def sp_strand_from : Sp := fun vs H Q _ => ∃ (wa pa : Addr) (ws : List T) (g : Nat) (x : T), vs = [.ref wa, .ref pa, sv x] ∧ H wa = some (.tup (ws.map sv)) ∧ H pa = some (.lst ((pla ws).map sv)) ∧ Wd ws g ∧ x ∈ ws ∧
  ∀ (r : Addr) (row : List T) (H' : Hp), H r = none → Same H H' → H' r = some (.lst (row.map sv)) → row ≠ [] → (∀ y ∈ row, y ∈ ws) → row.length ≤ 10 → Q (.ref r) H'
theorem count_inj {α β : Type} [BEq β] [LawfulBEq β] {f : α → β} {a b : α} : ∀ {l : List α}, l.Nodup → (l.map f).count (f a) = 1 → a ∈ l → b ∈ l → f a = f b → a = b
  | [], _, _, h, _, _ => by cases h
  | c :: l, hn, h1, ha, hb, e => by
    obtain ⟨n1, n2⟩ := List.nodup_cons.mp hn
    rw [List.map_cons, List.count_cons] at h1
    have zero : ∀ {y}, y ∈ l → f y = f a → (l.map f).count (f a) ≠ 0 := fun hy e z => by
      have : 0 < (l.map f).count (f a) := List.count_pos_iff.mpr (List.mem_map.mpr ⟨_, hy, e⟩)
      omega
    rcases List.mem_cons.mp ha with rfl | ha1 <;> rcases List.mem_cons.mp hb with rfl | hb1
    · rfl
    · rw [if_pos (beq_iff_eq.mpr rfl)] at h1
      exact absurd (by omega) (zero hb1 e.symm)
    · rw [if_pos (beq_iff_eq.mpr e.symm)] at h1
      exact absurd (by omega) (zero ha1 rfl)
    · by_cases hc : f c = f a
      · rw [if_pos (beq_iff_eq.mpr hc)] at h1
        exact absurd (by omega) (zero ha1 rfl)
      · rw [if_neg (fun z => hc (beq_iff_eq.mp z))] at h1
        exact count_inj n2 (by omega) ha1 hb1 e
theorem mem_pla {ws : List T} {x : T} : x ∈ pla ws ↔ x ∈ ws.map List.dropLast ∧ (ws.map List.dropLast).count x = 1 ∧ (ws.map (List.drop 1)).count x = 1 := by
  unfold pla
  rw [List.mem_filter, Bool.and_eq_true, decide_eq_true_eq, decide_eq_true_eq]
theorem nxt_in {ws : List T} {x : T} (h : x.drop 1 ∈ pla ws) : nxt ws x ∈ ws ∧ (nxt ws x).dropLast = x.drop 1 := by
  obtain ⟨h1, _, _⟩ := mem_pla.mp h
  obtain ⟨y, hy, e⟩ := List.mem_map.mp h1
  unfold nxt
  cases hf : ws.find? fun y => decide (y.dropLast = x.drop 1) with
  | none => exact absurd (decide_eq_true e) (by simpa using List.find?_eq_none.mp hf y hy)
  | some z => exact ⟨List.mem_of_find?_eq_some hf, of_decide_eq_true (by simpa using List.find?_some hf)⟩
/-- a row in the making -/
structure Row (ws : List T) (x : T) (row : List T) : Prop where
  hd : row.head? = some x
  nd : row.Nodup
  sub : ∀ y ∈ row, y ∈ ws
  lnk : ∀ i y z, row[i]? = some y → row[i + 1]? = some z → z.dropLast = y.drop 1
theorem Row.add {ws row : List T} {x y : T} (hw : ws.Nodup) (r : Row ws x row) (hl : row.getLast? = some y) (hp : y.drop 1 ∈ pla ws) (hn : nxt ws y ≠ x) : Row ws x (row ++ [nxt ws y]) := by
  obtain ⟨n1, n2⟩ := nxt_in hp
  obtain ⟨_, _, h3⟩ := mem_pla.mp hp
  have hne : row ≠ [] := fun e => by rw [e] at hl; cases hl
  have hpos := List.length_pos_iff.mpr hne
  have hy : y ∈ row := List.mem_of_getLast? hl
  have hlast : row[row.length - 1]? = some y := by rw [← List.getLast?_eq_getElem?]; exact hl
  have hnot : nxt ws y ∉ row := fun hm => by
    obtain ⟨j, hj, e⟩ := List.getElem_of_mem hm
    cases j with
    | zero =>
      have h1 := r.hd
      rw [List.head?_eq_getElem?, List.getElem?_eq_getElem hj, e] at h1
      injection h1 with h1
      exact hn h1
    | succ j =>
      have hj1 : row[j]? = some row[j] := List.getElem?_eq_getElem (by omega)
      have hj2 : row[j + 1]? = some (nxt ws y) := by rw [List.getElem?_eq_getElem hj, e]
      have h1 := r.lnk j _ _ hj1 hj2
      rw [n2] at h1
      have h2 := count_inj (f := List.drop 1) hw h3 (r.sub y hy) (r.sub _ (List.getElem_mem (by omega))) h1
      obtain ⟨a1, a2⟩ := List.getElem?_eq_some_iff.mp hlast
      have := (List.getElem_inj r.nd).mp (a2.trans h2)
      omega
  refine ⟨?_, nd_snoc r.nd hnot, fun z hz => ?_, fun i u v hu hv => ?_⟩
  · rw [List.head?_append, r.hd]; rfl
  · rcases List.mem_append.mp hz with q | q
    · exact r.sub z q
    · simp only [List.mem_singleton] at q; subst q; exact n1
  · by_cases hi : i + 1 < row.length
    · rw [List.getElem?_append_left (by omega)] at hu hv
      exact r.lnk i u v hu hv
    · have hv2 := (List.getElem?_eq_some_iff.mp hv).1
      rw [List.length_append, List.length_singleton] at hv2
      have e : i = row.length - 1 := by omega
      rw [List.getElem?_append_left (by omega), e, hlast] at hu
      injection hu with hu
      rw [List.getElem?_append_right (by omega), show i + 1 - row.length = 0 by omega] at hv
      injection hv with hv
      rw [← hv, ← hu]
      exact n2
theorem ok_strand_from {P : Program} {w : World} {K : PySem.W.Frag} {mg : Str → Option Value} {base : Heap} (D : Df K mg "strand_from" s_strand_from) (U : Bu mg) (C_next_window : Cl P w K mg base "next_window" 1 ["windows", "window"] sp_next_window) : Cl P w K mg base "strand_from" 2 ["windows", "plain", "window"] sp_strand_from := by
  refine D.cl sc_strand_from (fun _ _ _ _ _ _ us hl => match us, hl with | [_, _, _], _ => rfl) (fun vs H Q E h => ?_) (fun cdv f A outer s H vs Q E hr h => ?_)
  · obtain ⟨wa, pa, ws, g, x, rfl, hwa, hpa, wd, hx, q⟩ := h
    rfl
  · obtain ⟨wa, pa, ws, g, x, rfl, hwa, hpa, wd, hx, q⟩ := h
    have hu := hu_of hr
    have hu9 := hu9_of hr
    have hu64 := hu64_of hr
    refine ⟨_, (pss_cons (ps_set (i := 3) sc_strand_from.nd rfl (Or.inl rfl) (pe_lst (pa_cons (pv 2) pa_nil)))
 (pss_cons (ps_while PassesOwn.never (pt_cmpR (op_inT (K := K) rfl) (pe_slice sl_txt1 (pe_ix ix_list (pv 3) (pe_un un_neg pe_int) (fun _ _ => rfl)) (po_some pe_int) po_none) (pv 1) (by rfl)) (pss_cons (ps_set (i := 4) sc_strand_from.nd rfl (Or.inl rfl) (pcall C_next_window hr (pa_cons (pv 0) (pa_cons (pe_ix ix_list (pv 3) (pe_un un_neg pe_int) (fun _ _ => rfl)) pa_nil))))
 (pss_cons (ps_if (pt_cmpR op_eq (pv 4) (pv 2) (nomark _)) (pss_one ps_break) pss_nil)
 (pss_one (ps_expr (pe_bm PySem.F.plainAttrs_list PySem.F.slot_list_append PySem.F.type_list_append mt_append (pv 3) (pa_cons (pv 4) pa_nil)))))))
 (pss_one (ps_ret (pv 3))))), ?_⟩
    have hwl := wd.len
    have hg12 := wd.g12
    walk_at "gx"
    intro l H1 hl sm1 h1
    walk_at "gx"
    refine ⟨fun m σ H2 => ∃ row v4, σ = [some (.ref wa), some (.ref pa), some (sv x), some (.ref l), v4] ∧ Same H H2 ∧ H2 l = some (.lst (row.map sv)) ∧ Row ws x row ∧ m = 11 - row.length, ⟨_, [x], none, rfl, sm1, h1, ⟨rfl, by simp, fun y hy => (by simp only [List.mem_singleton] at hy; subst hy; exact hx), fun i y z _ hz => (by simp at hz)⟩, rfl⟩, ?_⟩
    rintro m σ H2 ⟨row, v4, rfl, sm2, hl2, rw_, hm⟩
    have hrl : row.length ≤ 10 := Nat.le_trans (nodup_le rw_.nd rw_.sub) hwl
    have hne : row ≠ [] := fun e => by have := rw_.hd; rw [e] at this; cases this
    obtain ⟨y, hy⟩ : ∃ y, row.getLast? = some y := ⟨_, List.getLast?_eq_some_getLast hne⟩
    have hyw := rw_.sub y (List.mem_of_getLast? hy)
    have hyl := wd.lg y hyw
    have hat : atI (row.map sv) (-1) = some (sv y) := by
      obtain ⟨r0, e0⟩ : ∃ r0, row = r0 ++ [y] := List.getLast?_eq_some_iff.mp hy
      rw [e0, List.map_append]
      exact atI_last _ _
    have hpa2 := sm2 _ _ hpa
    walk_at "gx"
    refine w_ixL hl2 hat ?_
    walk_at "gx"
    refine iteD (fun hp => ?_) (fun hp => ?_)
    · have hp : y.drop 1 ∈ pla ws := hp
      refine ⟨fun σ' H' => ∃ m', m' < m ∧ ∃ row v4, σ' = [some (.ref wa), some (.ref pa), some (sv x), some (.ref l), v4] ∧ Same H H' ∧ H' l = some (.lst (row.map sv)) ∧ Row ws x row ∧ m' = 11 - row.length, fun σ' H' h => h, ?_⟩
      walk_at "gx"
      refine w_ixL hl2 hat ?_
      walk_at "gx"
      refine ⟨wa, ws, g, y, rfl, sm2 _ _ hwa, wd, hyw, fun H3 sm3 => ?_⟩
      have hl3 := sm3 _ _ hl2
      have hrs : (row.map sv).length < sizeLine := by rw [List.length_map, sizeLine_eq]; omega
      walk_at "gx"
      refine iteD (fun e => ?_) (fun e => ?_)
      · walk_at "gx"
        exact q l row H3 hl (sm2.trans sm3) hl3 hne rw_.sub hrl
      · walk_at "gx"
        refine ⟨_, ?_, row ++ [nxt ws y], _, rfl, sm_mut (sm2.trans sm3) hl, ?_, rw_.add wd.nd hy hp e, rfl⟩
        · rw [List.length_append]; simp only [List.length_singleton]; omega
        · rw [upd_same, List.map_append]; rfl
    · walk_at "gx"
      exact q l row H2 hl sm2 hl2 hne rw_.sub hrl

theorem sc_spelled_row : FnScope ["row", "window"] ["row"] (defScope s_spelled_row) := ⟨rfl, rfl, rfl, by decide +kernel, rfl, by decide +kernel, by decide +kernel⟩
def sp_spelled_row : Sp := fun vs H Q _ => ∃ (ra : Addr) (row : List T), vs = [.ref ra] ∧ H ra = some (.lst (row.map sv)) ∧ row ≠ [] ∧ row.length ≤ 10 ∧ (∀ y ∈ row, y ≠ [] ∧ y.length ≤ 12) ∧ ∀ (z : T) (H' : Hp), z ≠ [] → z.length ≤ 60 → Same H H' → Q (sv z) H'
theorem ok_spelled_row {P : Program} {w : World} {K : PySem.W.Frag} {mg : Str → Option Value} {base : Heap} (D : Df K mg "spelled_row" s_spelled_row) (U : Bu mg) : Cl P w K mg base "spelled_row" 1 ["row"] sp_spelled_row := by
  refine D.cl sc_spelled_row (fun _ _ _ _ _ _ us hl => match us, hl with | [_], _ => rfl) (fun vs H Q E h => ?_) (fun cdv f A outer s H vs Q E hr h => ?_)
  · obtain ⟨ra, row, rfl, hra, hne, hlen, hrow, q⟩ := h
    rfl
  · obtain ⟨ra, row, rfl, hra, hne, hlen, hrow, q⟩ := h
    have hu := hu_of hr
    have hu9 := hu9_of hr
    have hu64 := hu64_of hr
    refine ⟨_, (pss_one (ps_ret (pe_op op_addT (pe_ix ix_list (pv 0) pe_int (fun _ _ => rfl)) (pe_joinT (K := K) rfl (pe_txt (t := []) (by decide +kernel)) (pe_lc (own := [("window", 1)]) (g := (gName 1)) (tt := tYes) (by rfl) sc_spelled_row.nd (pi_list (pe_slice sl_list (pv 0) (po_some pe_int) po_none)) (blkOk_by (N := ["row", "window"]) (sc := defScope s_spelled_row) (by decide +kernel)) (fun _ _ _ _ _ => (pg_name (i := 1) sc_spelled_row.nd rfl (Or.inl rfl))) (fun _ _ _ _ _ => pts_nil) (fun _ _ _ _ _ => (pe_ix ix_txt (pv 1) (pe_un un_neg pe_int) (fun _ _ => rfl)))))))), ?_⟩
    obtain ⟨y, row, rfl⟩ : ∃ y l, row = y :: l := by
      cases row with
      | nil => exact absurd rfl hne
      | cons y l => exact ⟨y, l, rfl⟩
    obtain ⟨hy0, hy12⟩ := hrow y List.mem_cons_self
    rw [List.length_cons] at hlen
    walk_at "gx"
    refine w_ixL hra (atI_nat (j := 0) (by rfl)) ?_
    walk_at "gx"
    refine w_slL (by decide) hra ?_
    intro l H1 hl sm1 h1
    have h1 : H1 l = some (.lst (row.map sv)) := h1
    walk_at "gx"
    refine lc_L row sv (fun x => [sv [x.getLastD 0]]) (fun _ _ => Nat.le_refl _) (by walk_at "sz") h1 (fun x H2 hx sm2 R hR => ?_) ?_
    · have hR := hR H2 (Same.refl _)
      obtain ⟨hx0, hx12⟩ := hrow x (List.mem_cons_of_mem _ hx)
      walk_at "gx"
      refine ⟨rfl, ?_⟩
      walk_at "gx"
      refine iteT ?_
      walk_at "gx"
      exact hR
    · intro l2 H2 hl2 sm2 h2
      rw [flat_one (fun x : T => sv [x.getLastD 0])] at h2
      have h3 : H2 l2 = some (.lst (((row.map fun x => x.getLastD 0).map fun c => [c]).map sv)) := by rw [h2, List.map_map, List.map_map]; rfl
      refine w_joinL h3 ?_ ?_
      · rw [flat_sing, List.length_map]; omega
      · rw [flat_sing]
        have hz : y.length + (row.map fun x => x.getLastD 0).length ≤ 60 := by rw [List.length_map]; omega
        walk_at "gx"
        refine q _ H2 (fun e => hy0 (List.append_eq_nil_iff.mp e).1) ?_ (sm1.trans sm2)
        rw [List.length_append]; exact hz

theorem sc_strands : FnScope ["pieces", "grain", "windows", "plain", "rows", "used", "row", "window", "ring"] ["pieces", "grain"] (defScope s_strands) := ⟨rfl, rfl, rfl, by decide +kernel, rfl, by decide +kernel, by decide +kernel⟩
def sp_strands : Sp := fun vs H Q _ => ∃ (pa : Addr) (ps : List T) (g : Nat), vs = [.ref pa, iv g] ∧ H pa = some (.tup (ps.map sv)) ∧ Sh ps g ∧
  ∀ (r : Addr) (us : List T) (H' : Hp), H r = none → Same H H' → H' r = some (.tup (us.map sv)) → (∀ u ∈ us, u ≠ [] ∧ u.length ≤ 60) → us.length ≤ 20 → Q (.ref r) H'
/-- rows that stand -/
def RwI (ws : List T) (D : Addr) (H : Hp) (rs : List (Addr × List T)) : Prop := ∀ b ∈ rs, b.1 ≠ D ∧ H b.1 = some (.lst (b.2.map sv)) ∧ b.2 ≠ [] ∧ (∀ y ∈ b.2, y ∈ ws) ∧ b.2.length ≤ 10
theorem RwI.same {ws : List T} {D : Addr} {H H' : Hp} {rs : List (Addr × List T)} (h : RwI ws D H rs) (k : Same H H') : RwI ws D H' rs := fun b hb => by
  obtain ⟨h1, h2, h3⟩ := h b hb
  exact ⟨h1, k _ _ h2, h3⟩
theorem RwI.mut {ws : List T} {D : Addr} {H : Hp} {o : HO} {rs : List (Addr × List T)} (h : RwI ws D H rs) : RwI ws D (upd H D o) rs := fun b hb => by
  obtain ⟨h1, h2, h3⟩ := h b hb
  exact ⟨h1, by rw [upd_ne h1]; exact h2, h3⟩
theorem RwI.add {ws : List T} {D : Addr} {H : Hp} {rs : List (Addr × List T)} {r : Addr} {row : List T} (h : RwI ws D H rs) (h1 : r ≠ D) (h2 : H r = some (.lst (row.map sv))) (h3 : row ≠ []) (h4 : ∀ y ∈ row, y ∈ ws) (h5 : row.length ≤ 10) : RwI ws D H (rs ++ [(r, row)]) := fun b hb => by
  rcases List.mem_append.mp hb with q | q
  · exact h b q
  · simp only [List.mem_singleton] at q; subst q; exact ⟨h1, h2, h3, h4, h5⟩
abbrev rfr (rs : List (Addr × List T)) : List V := rs.map fun b => V.ref b.1
theorem ok_strands {P : Program} {w : World} {K : PySem.W.Frag} {mg : Str → Option Value} {base : Heap} (D : Df K mg "strands" s_strands) (U : Bu mg) (C_plain_grams : Cl P w K mg base "plain_grams" 1 ["windows"] sp_plain_grams) (C_spelled_row : Cl P w K mg base "spelled_row" 1 ["row"] sp_spelled_row) (C_strand_from : Cl P w K mg base "strand_from" 2 ["windows", "plain", "window"] sp_strand_from) (C_windows_of : Cl P w K mg base "windows_of" 2 ["pieces", "grain"] sp_windows_of) : Cl P w K mg base "strands" 3 ["pieces", "grain"] sp_strands := by
  refine D.cl sc_strands (fun _ _ _ _ _ _ us hl => match us, hl with | [_, _], _ => rfl) (fun vs H Q E h => ?_) (fun cdv f A outer s H vs Q E hr h => ?_)
  · obtain ⟨pa, ps, g, rfl, hpa, sh, q⟩ := h
    rfl
  · obtain ⟨pa, ps, g, rfl, hpa, sh, q⟩ := h
    have hu := hu_of hr
    have hu9 := hu9_of hr
    have hu64 := hu64_of hr
    refine ⟨_, (pss_cons (ps_set (i := 2) sc_strands.nd rfl (Or.inr rfl) (pcall C_windows_of hr (pa_cons (pv 0) (pa_cons (pv 1) pa_nil))))
 (pss_cons (ps_set (i := 3) sc_strands.nd rfl (Or.inr rfl) (pcall C_plain_grams hr (pa_cons (pv 2) pa_nil)))
 (pss_cons (ps_setLc (i := 4) (own := [("window", 7)]) (g := (gName 7)) (by rfl) sc_strands.nd rfl rfl (sw_true rfl rfl rfl (by decide +kernel)) (pi_tup (pv 2)) (blkOk_by (N := ["pieces", "grain", "windows", "plain", "rows", "used", "row", "window", "ring"]) (sc := defScope s_strands) (by decide +kernel)) (fun _ _ _ _ _ => (pg_name (i := 7) sc_strands.nd rfl (Or.inl rfl))) (fun _ _ _ _ _ => (pts_one (pt_cmpR (op_niT (K := K) rfl) (pe_slice sl_txt1 (pv 7) po_none (po_some (pe_un un_neg pe_int))) (pv 3) (by rfl)))) (fun _ _ _ _ _ => (pcall C_strand_from hr (pa_cons (pv 2) (pa_cons (pv 3) (pa_cons (pv 7) pa_nil))))))
 (pss_cons (ps_set (i := 5) sc_strands.nd rfl (Or.inl rfl) (pe_lst pa_nil))
 (pss_cons (ps_for PassesOwn.never rfl (pi_list (pv 4)) (pg_name (i := 6) sc_strands.nd rfl (Or.inl rfl)) (pss_one (ps_set (i := 5) sc_strands.nd rfl (Or.inl rfl) (pe_op op_cat (pv 5) (pv 6)))))
 (pss_cons (ps_for PassesOwn.never rfl (pi_tup (pv 2)) (pg_name (i := 7) sc_strands.nd rfl (Or.inl rfl)) (pss_one (ps_if (pt_cmpR (op_niT (K := K) rfl) (pv 7) (pv 5) (by rfl)) (pss_cons (ps_set (i := 8) sc_strands.nd rfl (Or.inl rfl) (pcall C_strand_from hr (pa_cons (pv 2) (pa_cons (pv 3) (pa_cons (pv 7) pa_nil)))))
 (pss_cons (ps_expr (pe_bm PySem.F.plainAttrs_list PySem.F.slot_list_append PySem.F.type_list_append mt_append (pv 4) (pa_cons (pv 8) pa_nil)))
 (pss_one (ps_set (i := 5) sc_strands.nd rfl (Or.inl rfl) (pe_op op_cat (pv 5) (pv 8)))))) pss_nil)))
 (pss_one (ps_ret (pe_callTy (tup_of (K := K) rfl) (by rfl) U.tpl (by decide +kernel) (pa_cons (pe_callB (sort_txt (K := K) rfl) (by rfl) U.srt (by decide +kernel) (pa_cons (pe_lc (own := [("row", 6)]) (g := (gName 6)) (tt := tYes) (by rfl) sc_strands.nd (pi_list (pv 4)) (blkOk_by (N := ["pieces", "grain", "windows", "plain", "rows", "used", "row", "window", "ring"]) (sc := defScope s_strands) (by decide +kernel)) (fun _ _ _ _ _ => (pg_name (i := 6) sc_strands.nd rfl (Or.inl rfl))) (fun _ _ _ _ _ => pts_nil) (fun _ _ _ _ _ => (pcall C_spelled_row hr (pa_cons (pv 6) pa_nil)))) pa_nil)) pa_nil)))))))))), ?_⟩
    walk_at "gx"
    refine ⟨pa, ps, g, rfl, hpa, sh, fun wa ws H1 hwa sm1 h1 wn => ?_⟩
    have wd := wn.wd sh
    have hwl := wd.len
    have hg12 := wd.g12
    have hwne := wd.ne
    walk_at "gx"
    refine ⟨wa, ws, g, rfl, h1, wd, fun pg H2 hpg sm2 h2 => ?_⟩
    have sm12 := sm1.trans sm2
    have hwa2 := sm2 _ _ h1
    walk_at "gx"
    refine lc_gU (xs := ws.map sv) (by rw [List.length_map]; walk_at "sz") fun D hD => ⟨fun _ H' acc => ∃ rs, acc = rfr rs ∧ RwI ws D H' rs ∧ Same H2 H', ⟨[], rfl, fun _ h => (by cases h), sm_new hD⟩, fun _ H' _ _ ⟨_, _, _, sm⟩ => sm _ _ hwa2, ?_, ?_⟩
    · rintro i v H3 acc hv hal ⟨rs, rfl, hrs, sm3⟩ hD3 R hy hn
      rw [List.getElem?_map] at hv
      obtain ⟨x, hx, rfl⟩ := Option.map_eq_some_iff.mp hv
      have hxm := List.mem_of_getElem? hx
      have hx0 := hwne x hxm
      have hxl := wd.lg x hxm
      have hpg3 := sm3 _ _ h2
      walk_at "gx"
      refine ⟨rfl, ?_⟩
      walk_at "gx"
      refine iteN (fun e => ?_) (fun e => ?_)
      · walk_at "gx"
        refine ⟨wa, pg, ws, g, x, rfl, sm3 _ _ hwa2, hpg3, wd, hxm, fun r row H4 hr sm4 h4 hr0 hrw hr10 => ?_⟩
        have hrD : r ≠ D := fun e => by rw [e, hD3] at hr; cases hr
        refine hy _ _ (sm4 _ _ hD3) ⟨rs ++ [(r, row)], by simp, ?_, sm_mut (sm3.trans sm4) hD⟩
        exact ((hrs.same sm4).add hrD h4 hr0 hrw hr10).mut
      · exact hn _ hD3 ⟨rs, rfl, hrs, sm3⟩
    rintro H3 acc ⟨rs, rfl, hrs, sm3⟩ hal hD3
    rw [List.length_map, List.length_map] at hal
    walk_at "gx"
    intro ul H4 hul sm4 h4
    have hD4 := sm4 _ _ hD3
    have hrs4 := hrs.same sm4
    have hulD : ul ≠ D := fun e => by rw [e, hD3] at hul; cases hul
    walk_at "gx"
    refine w_forL (xs := rfr rs) (fun i σ H5 => ∃ u us v6, σ = [some (.ref pa), some (iv g), some (.ref wa), some (.ref pg), some (.ref D), some (.ref u), v6, none, none] ∧ Same H4 H5 ∧ u ≠ D ∧ H5 u = some (.lst (us.map sv)) ∧ us.length ≤ 10 * i) ⟨ul, [], none, rfl, Same.refl _, hulD, h4, Nat.le_refl _⟩ (fun i σ H5 _ ⟨_, _, _, _, h, _⟩ => h _ _ hD4) ?_ ?_
    · rintro i v σ H5 hv ⟨u, us, v6, rfl, sm5, huD, hu5, hus⟩
      rw [List.getElem?_map] at hv
      obtain ⟨⟨r, row⟩, hx, rfl⟩ := Option.map_eq_some_iff.mp hv
      have hi : i < rs.length := (List.getElem?_eq_some_iff.mp hx).1
      obtain ⟨hrD, hr4, hr0, hrw, hr10⟩ := hrs4 _ (List.mem_of_getElem? hx)
      have hr5 := sm5 _ _ hr4
      have hr10 : row.length ≤ 10 := hr10
      walk_at "gx"
      refine w_cat hu5 hr5 (by rw [List.length_map, List.length_map, sizeLine_eq]; show us.length + row.length ≤ _; omega) ?_
      intro u2 H6 hu2 sm6 h6
      walk_at "gx"
      refine ⟨u2, us ++ row, _, rfl, sm5.trans sm6, fun e => ?_, ?_, ?_⟩
      · rw [e, sm5 _ _ hD4] at hu2; cases hu2
      · rw [h6, List.map_append]
      · rw [List.length_append]; omega
    rintro σ H5 ⟨u, us, v6, rfl, sm5, huD, hu5, hus⟩
    rw [List.length_map] at hus
    have sm25 := (sm3.trans sm4).trans sm5
    have hwa5 := sm25 _ _ hwa2
    have hrs5 := hrs4.same sm5
    have hD5 := sm5 _ _ hD4
    walk_at "gx"
    refine w_forU (xs := ws.map sv) (fun i σ H6 => ∃ rs u us v7 v8, σ = [some (.ref pa), some (iv g), some (.ref wa), some (.ref pg), some (.ref D), some (.ref u), v6, v7, v8] ∧ Same H2 H6 ∧ u ≠ D ∧ H6 u = some (.lst (us.map sv)) ∧ us.length ≤ 100 + 10 * i ∧ RwI ws D H6 rs ∧ H6 D = some (.lst (rfr rs)) ∧ rs.length ≤ 10 + i) ⟨rs, u, us, none, none, rfl, sm25, huD, hu5, by omega, hrs5, hD5, by omega⟩ (fun i σ H6 _ ⟨_, _, _, _, _, _, h, _⟩ => h _ _ hwa2) ?_ ?_
    · rintro i v σ H6 hv ⟨rs, u, us, v7, v8, rfl, sm6, huD, hu6, hus, hrs6, hD6, hrl⟩
      rw [List.getElem?_map] at hv
      obtain ⟨x, hx, rfl⟩ := Option.map_eq_some_iff.mp hv
      have hxm := List.mem_of_getElem? hx
      have hi : i < ws.length := (List.getElem?_eq_some_iff.mp hx).1
      walk_at "gx"
      refine iteN (fun e => ?_) (fun e => ?_)
      · walk_at "gx"
        refine ⟨wa, pg, ws, g, x, rfl, sm6 _ _ hwa2, sm6 _ _ h2, wd, hxm, fun r row H7 hr sm7 h7 hr0 hrw hr10 => ?_⟩
        have hrD : r ≠ D := fun e => by rw [e, hD6] at hr; cases hr
        have hD7 := sm7 _ _ hD6
        have hrs' : (rfr rs).length < sizeLine := by rw [List.length_map, sizeLine_eq]; omega
        have hu7 := sm7 _ _ hu6
        walk_at "gx"
        have hu8 : upd H7 D (.lst (rfr rs ++ [.ref r])) u = some (.lst (us.map sv)) := by rw [upd_ne huD]; exact hu7
        have hr8 : upd H7 D (.lst (rfr rs ++ [.ref r])) r = some (.lst (row.map sv)) := by rw [upd_ne hrD]; exact h7
        refine w_cat hu8 hr8 (by rw [List.length_map, List.length_map, sizeLine_eq]; omega) ?_
        intro u2 H9 hu2 sm9 h9
        walk_at "gx"
        refine ⟨rs ++ [(r, row)], u2, us ++ row, _, _, rfl, (sm_mut (sm6.trans sm7) hD).trans sm9, fun e => ?_, ?_, ?_, ?_, ?_, ?_⟩
        · rw [e, upd_same] at hu2; cases hu2
        · rw [h9, List.map_append]
        · rw [List.length_append]; omega
        · exact (((hrs6.same sm7).add hrD h7 hr0 hrw hr10).mut).same sm9
        · have := sm9 D _ upd_same
          rw [this]
          show some (HO.lst _) = some (HO.lst ((rs ++ [(r, row)]).map fun b => V.ref b.1))
          rw [List.map_append]; rfl
        · rw [List.length_append]; simp only [List.length_singleton]; omega
      · walk_at "gx"
        exact ⟨rs, u, us, _, _, rfl, sm6, huD, hu6, by omega, hrs6, hD6, by omega⟩
    rintro σ H6 ⟨rs, u, us, v7, v8, rfl, sm6, huD, hu6, hus, hrs6, hD6, hrl⟩
    rw [List.length_map] at hrl
    walk_at "gx"
    refine lc_gL (xs := rfr rs) (by rw [List.length_map, sizeLine_eq]; omega) fun L hL => ⟨fun _ H' acc => ∃ zs : List T, acc = zs.map sv ∧ (∀ z ∈ zs, z ≠ [] ∧ z.length ≤ 60) ∧ Same H6 H', ⟨[], rfl, fun _ h => (by cases h), sm_new hL⟩, fun _ H' _ _ ⟨_, _, _, sm⟩ => sm _ _ hD6, ?_, ?_⟩
    · rintro i v H7 acc hv hal2 ⟨zs, rfl, hzs, sm7⟩ hL7 R hy hn
      rw [List.getElem?_map] at hv
      obtain ⟨⟨r, row⟩, hx, rfl⟩ := Option.map_eq_some_iff.mp hv
      obtain ⟨hrD, hr6, hr0, hrw, hr10⟩ := hrs6 _ (List.mem_of_getElem? hx)
      walk_at "gx"
      refine ⟨rfl, ?_⟩
      walk_at "gx"
      refine iteT ?_
      walk_at "gx"
      refine ⟨r, row, rfl, sm7 _ _ hr6, hr0, hr10, fun y hy => ⟨hwne y (hrw y hy), by have := wd.lg y (hrw y hy); omega⟩, fun z H8 hz0 hz60 sm8 => ?_⟩
      refine hy _ _ (sm8 _ _ hL7) ⟨zs ++ [z], by simp, fun z' hz' => ?_, sm_mut (sm7.trans sm8) hL⟩
      rcases List.mem_append.mp hz' with h | h
      · exact hzs z' h
      · simp only [List.mem_singleton] at h; subst h; exact ⟨hz0, hz60⟩
    · rintro H7 acc ⟨zs, rfl, hzs, sm7⟩ hal2 hL7
      rw [List.length_map, List.length_map] at hal2
      walk_at "gx"
      refine w_sortT hL7 (by omega) fun zs2 hperm _ => ?_
      intro sl H8 hsl sm8 h8
      walk_at "gx"
      intro r H9 hr sm9 h9
      have sm0 := sm12.trans (sm6.trans (sm7.trans sm8))
      refine q r zs2 H9 (sm0.free hr) (sm0.trans sm9) h9 (fun z hz => hzs z (hperm.mem_iff.mp hz)) ?_
      rw [hperm.length_eq]; omega

theorem sc_findings_of : FnScope ["pieces", "grain", "shape", "found", "strand"] ["pieces", "grain", "shape"] (defScope s_findings_of) := ⟨rfl, rfl, rfl, by decide +kernel, rfl, by decide +kernel, by decide +kernel⟩
/-- what is told of a strand -/
def FnOk_ (z : T) (ps : List T) (g : Nat) (f : T × T) : Prop := f.1 ≠ [] ∧ f.1.length ≤ 60 ∧ ((f.2 = tLack ∧ ∃ t, ExS z ps g t ∧ ¬ HasS z f.1 t) ∨ (f.2 = tAlw ∧ ∀ t, ExS z ps g t → HasS z f.1 t))
def FnA (H : Hp) (r : Addr) (fs : List (T × T)) : Prop := ∃ vs, H r = some (.tup vs) ∧ Paired (fun v (f : T × T) => ∃ a, v = V.ref a ∧ H a = some (.tup [sv f.1, sv f.2])) vs fs
def sp_findings_of : Sp := fun vs H Q _ => ∃ (pa : Addr) (ps : List T) (g : Nat) (z : T), vs = [.ref pa, iv g, sv z] ∧ H pa = some (.tup (ps.map sv)) ∧ Sh ps g ∧
  ∀ (r : Addr) (fs : List (T × T)) (H' : Hp), H r = none → Same H H' → FnA H' r fs → (∀ f ∈ fs, FnOk_ z ps g f) → fs.length ≤ 20 → Q (.ref r) H'
theorem ok_findings_of {P : Program} {w : World} {K : PySem.W.Frag} {mg : Str → Option Value} {base : Heap} (D : Df K mg "findings_of" s_findings_of) (U : Bu mg) (c_WORD_LIMIT : ∃ t, mg "WORD_LIMIT" = some (.int 60 t)) (C_decided : Cl P w K mg base "decided" 6 ["pieces", "grain", "word", "shape"] sp_decided) (C_strands : Cl P w K mg base "strands" 3 ["pieces", "grain"] sp_strands) : Cl P w K mg base "findings_of" 7 ["pieces", "grain", "shape"] sp_findings_of := by
  refine D.cl sc_findings_of (fun _ _ _ _ _ _ us hl => match us, hl with | [_, _, _], _ => rfl) (fun vs H Q E h => ?_) (fun cdv f A outer s H vs Q E hr h => ?_)
  · obtain ⟨pa, ps, g, z, rfl, hpa, sh, q⟩ := h
    rfl
  · obtain ⟨pa, ps, g, z, rfl, hpa, sh, q⟩ := h
    have hu := hu_of hr
    have hu9 := hu9_of hr
    have hu64 := hu64_of hr
    refine ⟨_, (pss_cons (ps_set (i := 3) sc_findings_of.nd rfl (Or.inl rfl) (pe_lst pa_nil))
 (pss_cons (ps_for PassesOwn.never rfl (pi_tup (pcall C_strands hr (pa_cons (pv 0) (pa_cons (pv 1) pa_nil)))) (pg_name (i := 4) sc_findings_of.nd rfl (Or.inl rfl)) (pss_one (ps_if (pt_cmpR op_le (pe_callB len_txt (by rfl) U.len (by decide +kernel) (pa_cons (pv 4) pa_nil)) (pconst c_WORD_LIMIT) (nomark _)) (pss_one (ps_expr (pe_bm PySem.F.plainAttrs_list PySem.F.slot_list_append PySem.F.type_list_append mt_append (pv 3) (pa_cons (pe_tup (pa_cons (pv 4) (pa_cons (pe_ix ix_tup (pcall C_decided hr (pa_cons (pv 0) (pa_cons (pv 1) (pa_cons (pv 4) (pa_cons (pv 2) pa_nil))))) pe_int (fun _ _ => rfl)) pa_nil))) pa_nil)))) pss_nil)))
 (pss_one (ps_ret (pe_callTy (tup_of (K := K) rfl) (by rfl) U.tpl (by decide +kernel) (pa_cons (pv 3) pa_nil)))))), ?_⟩
    walk_at "gx"
    intro l H1 hl sm1 h1
    walk_at "gx"
    refine ⟨pa, ps, g, rfl, sm1 _ _ hpa, sh, fun sa us H2 hsa sm2 h2 hus husl => ?_⟩
    have hl2 := sm2 _ _ h1
    have sm12 := sm1.trans sm2
    walk_at "gx"
    refine w_forU (xs := us.map sv) (fun i σ H3 => ∃ v4 vs fs, σ = [some (.ref pa), some (iv g), some (sv z), some (.ref l), v4] ∧ Same H H3 ∧ H3 sa = some (.tup (us.map sv)) ∧ H3 l = some (.lst vs) ∧ Paired (fun v (f : T × T) => ∃ a, v = V.ref a ∧ H3 a = some (.tup [sv f.1, sv f.2])) vs fs ∧ (∀ f ∈ fs, FnOk_ z ps g f) ∧ vs.length ≤ i) ⟨none, [], [], rfl, sm12, h2, hl2, .nil, fun _ h => (by cases h), Nat.le_refl _⟩ (fun i σ H3 _ ⟨_, _, _, _, _, h, _⟩ => h) ?_ ?_
    · rintro i v σ H3 hv ⟨v4, vs, fs, rfl, sm3, hsa3, hl3, hpr, hok, hvl⟩
      rw [List.getElem?_map] at hv
      obtain ⟨u, hu, rfl⟩ := Option.map_eq_some_iff.mp hv
      have hi : i < us.length := (List.getElem?_eq_some_iff.mp hu).1
      obtain ⟨hu0, hu60⟩ := hus u (List.mem_of_getElem? hu)
      have fin : ∀ (ans : T) (H5 : Hp) (p : Addr), FnOk_ z ps g (u, ans) → H3 p = none → Same H3 H5 → H5 p = some (.tup [sv u, sv ans]) → ∃ v4 vs' fs, ([some (.ref pa), some (iv g), some (sv z), some (.ref l), some (sv u)] : L2.St) = [some (.ref pa), some (iv g), some (sv z), some (.ref l), v4] ∧ Same H (upd H5 l (.lst (vs ++ [.ref p]))) ∧ upd H5 l (.lst (vs ++ [.ref p])) sa = some (.tup (us.map sv)) ∧ upd H5 l (.lst (vs ++ [.ref p])) l = some (.lst vs') ∧ Paired (fun v (f : T × T) => ∃ a, v = V.ref a ∧ upd H5 l (.lst (vs ++ [.ref p])) a = some (.tup [sv f.1, sv f.2])) vs' fs ∧ (∀ f ∈ fs, FnOk_ z ps g f) ∧ vs'.length ≤ i + 1 := by
        intro ans H5 p h_ok hp sm5 h5
        have hl5 := sm5 _ _ hl3
        have kp : Kp H5 (upd H5 l (.lst (vs ++ [.ref p]))) := Kp.lst hl5
        refine ⟨_, vs ++ [.ref p], fs ++ [(u, ans)], rfl, sm_mut (sm3.trans sm5) hl, kp _ _ (sm5 _ _ hsa3), upd_same, ?_, fun f hf => ?_, by rw [List.length_append]; simp only [List.length_singleton]; omega⟩
        · exact Paired.snoc (Paired.mapP hpr fun _ _ ⟨a, e, h⟩ => ⟨a, e, kp _ _ (sm5 _ _ h)⟩) ⟨p, rfl, kp _ _ h5⟩
        · rcases List.mem_append.mp hf with h | h
          · exact hok f h
          · simp only [List.mem_singleton] at h; subst h; exact h_ok
      walk_at "gx"
      refine iteDt (by omega) ?_
      walk_at "gx"
      refine ⟨pa, ps, g, u, z, rfl, sm3 _ _ hpa, sh, hu0, hu60, fun r t H4 hr sm4 h4 hex hno _ => ?_, fun r b H4 hr sm4 h4 hal => ?_⟩
      · have hl4 := sm4 _ _ hl3
        walk_at "gx"
        refine w_ixU h4 (atI_nat (j := 0) (by rfl)) ?_
        walk_at "gx"
        intro p H5 hp sm5 h5
        have hl5 := sm5 _ _ hl4
        have hvs : vs.length < sizeLine := by rw [sizeLine_eq]; omega
        walk_at "gx"
        exact fin tLack H5 p ⟨hu0, hu60, .inl ⟨rfl, t, hex, hno⟩⟩ (sm4.free hp) (sm4.trans sm5) h5
      · have hl4 := sm4 _ _ hl3
        walk_at "gx"
        refine w_ixU h4 (atI_nat (j := 0) (by rfl)) ?_
        walk_at "gx"
        intro p H5 hp sm5 h5
        have hl5 := sm5 _ _ hl4
        have hvs : vs.length < sizeLine := by rw [sizeLine_eq]; omega
        walk_at "gx"
        exact fin tAlw H5 p ⟨hu0, hu60, .inr ⟨rfl, hal⟩⟩ (sm4.free hp) (sm4.trans sm5) h5
    · rintro σ H3 ⟨v4, vs, fs, rfl, sm3, hsa3, hl3, hpr, hok, hvl⟩
      rw [List.length_map] at hvl
      walk_at "gx"
      intro r H4 hr sm4 h4
      refine q r fs H4 (sm3.free hr) (sm3.trans sm4) ⟨vs, h4, Paired.mapP hpr fun _ _ ⟨a, e, h⟩ => ⟨a, e, sm4 _ _ h⟩⟩ hok ?_
      have : vs.length = fs.length := Paired.length hpr
      omega

theorem sc_sample_of : FnScope ["pieces", "grain", "shape", "found"] ["pieces", "grain", "shape"] (defScope s_sample_of) := ⟨rfl, rfl, rfl, by decide +kernel, rfl, by decide +kernel, by decide +kernel⟩
def sp_sample_of : Sp := fun vs H Q _ => ∃ (pa : Addr) (ps : List T) (g : Nat) (z : T), vs = [.ref pa, iv g, sv z] ∧ H pa = some (.tup (ps.map sv)) ∧ Sh ps g ∧ (z = txC ∨ z = txL) ∧ ∀ (t : T) H', Same H H' → Q (sv t) H'
theorem ok_sample_of {P : Program} {w : World} {K : PySem.W.Frag} {mg : Str → Option Value} {base : Heap} (D : Df K mg "sample_of" s_sample_of) (U : Bu mg) (C_example : Cl P w K mg base "example" 7 ["pieces", "grain", "shape"] sp_example) : Cl P w K mg base "sample_of" 8 ["pieces", "grain", "shape"] sp_sample_of := by
  refine D.cl sc_sample_of (fun _ _ _ _ _ _ us hl => match us, hl with | [_, _, _], _ => rfl) (fun vs H Q E h => ?_) (fun cdv f A outer s H vs Q E hr h => ?_)
  · obtain ⟨pa, ps, g, z, rfl, hpa, sh, hz, q⟩ := h
    rfl
  · obtain ⟨pa, ps, g, z, rfl, hpa, sh, hz, q⟩ := h
    have hu := hu_of hr
    have hu9 := hu9_of hr
    have hu64 := hu64_of hr
    refine ⟨_, (pss_cons (ps_set (i := 3) sc_sample_of.nd rfl (Or.inl rfl) (pcall C_example hr (pa_cons (pv 0) (pa_cons (pv 1) (pa_cons (pv 2) pa_nil)))))
 (pss_cons (ps_if (pt_cmpR op_isN1 (pv 3) pe_non (nomark _)) (pss_one (ps_ret (pe_txt (t := []) (by decide +kernel)))) pss_nil)
 (pss_one (ps_ret (pv 3))))), ?_⟩
    walk_at "gx"
    refine ⟨pa, ps, g, z, rfl, hpa, sh, hz, fun t H1 sm1 => ?_, fun H1 sm1 => ?_⟩
    · walk_at "gx"
      refine iteDf (fun z => nomatch z) ?_
      walk_at "gx"
      exact q t H1 sm1
    · walk_at "gx"
      refine iteDt rfl ?_
      walk_at "gx"
      exact q [] H1 sm1

theorem sc_Report_init : FnScope ["self", "consensus", "sure", "pieces", "grain", "shape", "sample", "findings"] ["self", "consensus", "sure", "pieces", "grain", "shape", "sample", "findings"] (defScope s_Report_init) := ⟨rfl, rfl, rfl, by decide +kernel, rfl, by decide +kernel, by decide +kernel⟩
/-- the fields of a report -/
abbrev rpF (x1 x2 x3 x4 x5 x6 x7 : V) : List (Str × V) := [("consensus", x1), ("sure", x2), ("pieces", x3), ("grain", x4), ("shape", x5), ("example", x6), ("findings", x7)]
def sp_Report_init (C : Addr) : Sp := fun vs H Q _ => ∃ (a dx : Addr) (x1 x2 x3 x4 x5 x6 x7 : V), vs = [.ref a, x1, x2, x3, x4, x5, x6, x7] ∧ H a = some (.ins C dx []) ∧
  ∀ H' : Hp, (∀ b, b ≠ a → H' b = H b) → H' a = some (.ins C dx (rpF x1 x2 x3 x4 x5 x6 x7)) → Q .non H'
theorem ok_Report_init {P : Program} {w : World} {K : PySem.W.Frag} {mg : Str → Option Value} {base : Heap} {f : Addr} (D : DfM K "__init__" "Report.__init__" s_Report_init f) (U : Bu mg) {C fI fP : Addr} (R : Rp K mg C fI fP) : ClM P w K mg base 1 f ["self", "consensus", "sure", "pieces", "grain", "shape", "sample", "findings"] (sp_Report_init C) := by
  refine D.cl sc_Report_init (fun _ _ _ _ _ _ us hl => match us, hl with | [_, _, _, _, _, _, _, _], _ => rfl) (fun vs H Q E h => ?_) (fun cdv A outer s H vs Q E hr h => ?_)
  · obtain ⟨a, dx, x1, x2, x3, x4, x5, x6, x7, rfl, ha, q⟩ := h
    rfl
  · obtain ⟨a, dx, x1, x2, x3, x4, x5, x6, x7, rfl, ha, q⟩ := h
    have hu := hu_of hr
    have hu9 := hu9_of hr
    have hu64 := hu64_of hr
    refine ⟨_, (pss_cons (ps_fld (pv 0) (pv 1) rfl)
 (pss_cons (ps_fld (pv 0) (pv 2) rfl)
 (pss_cons (ps_fld (pv 0) (pv 3) rfl)
 (pss_cons (ps_fld (pv 0) (pv 4) rfl)
 (pss_cons (ps_fld (pv 0) (pv 5) rfl)
 (pss_cons (ps_fld (pv 0) (pv 6) rfl)
 (pss_one (ps_fld (pv 0) (pv 7) rfl)))))))), ?_⟩
    obtain ⟨n1, n2, n3, n4, n5, n6, n7⟩ := R.na
    have fr : ∀ (H1 : Hp) (o : HO) (b : Addr), b ≠ a → (∀ b, b ≠ a → H1 b = H b) → upd H1 a o b = H b := fun H1 o b hb k => by rw [upd_ne hb]; exact k b hb
    walk_at "gx"
    refine w_fldS ?_
    walk_at "gx"
    refine w_setR ha R.cl n1 (by decide) ?_
    walk_at "gx"
    refine w_fldS ?_
    walk_at "gx"
    refine w_setR upd_same R.cl n2 (Nat.lt_of_le_of_lt (m := 1) (Nat.le_of_eq rfl) (by decide)) ?_
    walk_at "gx"
    refine w_fldS ?_
    walk_at "gx"
    refine w_setR upd_same R.cl n3 (Nat.lt_of_le_of_lt (m := 2) (Nat.le_of_eq rfl) (by decide)) ?_
    walk_at "gx"
    refine w_fldS ?_
    walk_at "gx"
    refine w_setR upd_same R.cl n4 (Nat.lt_of_le_of_lt (m := 3) (Nat.le_of_eq rfl) (by decide)) ?_
    walk_at "gx"
    refine w_fldS ?_
    walk_at "gx"
    refine w_setR upd_same R.cl n5 (Nat.lt_of_le_of_lt (m := 4) (Nat.le_of_eq rfl) (by decide)) ?_
    walk_at "gx"
    refine w_fldS ?_
    walk_at "gx"
    refine w_setR upd_same R.cl n6 (Nat.lt_of_le_of_lt (m := 5) (Nat.le_of_eq rfl) (by decide)) ?_
    walk_at "gx"
    dsimp only
    refine w_fldS ?_
    walk_at "gx"
    refine w_setR upd_same R.cl n7 (Nat.lt_of_le_of_lt (m := 6) (Nat.le_of_eq rfl) (by decide)) ?_
    refine q _ (fun b hb => ?_) ?_
    · simp only [upd_ne hb]
    · exact upd_same

theorem sc_Report_paper : FnScope ["self", "strand"] ["self", "strand"] (defScope s_Report_paper) := ⟨rfl, rfl, rfl, by decide +kernel, rfl, by decide +kernel, by decide +kernel⟩
def sp_Report_paper (C : Addr) : Sp := fun vs H Q _ => ∃ (a dx pa : Addr) (x1 x2 x6 x7 : V) (ps : List T) (g : Nat) (z w : T), vs = [.ref a, sv w] ∧ H a = some (.ins C dx (rpF x1 x2 (.ref pa) (iv g) (sv z) x6 x7)) ∧ H pa = some (.tup (ps.map sv)) ∧ Sh ps g ∧ w ≠ [] ∧ w.length ≤ 60 ∧ (z = txC ∨ z = txL) ∧ DecQ H Q (ExS z ps g) (HasS z w)
theorem ok_Report_paper {P : Program} {w : World} {K : PySem.W.Frag} {mg : Str → Option Value} {base : Heap} {f : Addr} (D : DfM K "paper" "Report.paper" s_Report_paper f) (U : Bu mg) {C fI fP : Addr} (R : Rp K mg C fI fP) (C_decide : Cl P w K mg base "decide" 7 ["pieces", "grain", "word", "shape"] sp_decide) : ClM P w K mg base 8 f ["self", "strand"] (sp_Report_paper C) := by
  refine D.cl sc_Report_paper (fun _ _ _ _ _ _ us hl => match us, hl with | [_, _], _ => rfl) (fun vs H Q E h => ?_) (fun cdv A outer s H vs Q E hr h => ?_)
  · obtain ⟨a, dx, pa, x1, x2, x6, x7, ps, g, z, w0, rfl, ha, hpa, sh, hw0, hw60, hz, q⟩ := h
    rfl
  · obtain ⟨a, dx, pa, x1, x2, x6, x7, ps, g, z, w0, rfl, ha, hpa, sh, hw0, hw60, hz, q⟩ := h
    have hu := hu_of hr
    have hu9 := hu9_of hr
    have hu64 := hu64_of hr
    refine ⟨_, (pss_one (ps_ret (pcall C_decide hr (pa_cons (pe_fld (pv 0) rfl) (pa_cons (pe_fld (pv 0) rfl) (pa_cons (pv 1) (pa_cons (pe_fld (pv 0) rfl) pa_nil))))))), ?_⟩
    obtain ⟨n1, n2, n3, n4, n5, n6, n7⟩ := R.na
    walk_at "gx"
    refine w_fldE ?_
    walk_at "gx"
    refine w_fldR ha R.cl n3 rfl ?_
    walk_at "gx"
    refine w_fldE ?_
    walk_at "gx"
    refine w_fldR ha R.cl n4 rfl ?_
    walk_at "gx"
    refine w_fldE ?_
    walk_at "gx"
    refine w_fldR ha R.cl n5 rfl ?_
    walk_at "gx"
    exact ⟨pa, ps, g, w0, z, rfl, hpa, sh, hw0, hw60, hz, q⟩

theorem sc_assemble : FnScope ["size", "placed_pieces", "alphabet", "budget", "grain", "shape", "letters", "text", "pieces", "sure", "found"] ["size", "placed_pieces", "alphabet", "budget", "grain", "shape"] (defScope s_assemble) := ⟨rfl, rfl, rfl, by decide +kernel, rfl, by decide +kernel, by decide +kernel⟩
/-- which letters are sure -/
def sur (n : Nat) (pl : List (Nat × T)) (al : T) (lf : Nat) : T := (List.range n).map fun p => if (lets (col pl p) al lf).length = 1 then 43 else 45
theorem vot_len {n : Nat} {pl : List (Nat × T)} {al : T} : (vot n pl al).length = n := by unfold vot; rw [List.length_map, List.length_range]
theorem cor_sh {pl : List (Nat × T)} {t : T} {g : Nat} (v : PlV pl t.length) (h0 : pl ≠ []) (h1 : 1 ≤ g) (h2 : g ≤ 12) (hg : ∀ q ∈ pl, g ≤ q.2.length) : Sh (cor pl t) g := by
  unfold cor
  refine ⟨h1, h2, fun e => h0 (List.map_eq_nil_iff.mp e), by rw [List.length_map]; exact v.len, fun p hp => ?_, t, v.n9, fun p hp => ?_⟩
  · obtain ⟨q, hq, rfl⟩ := List.mem_map.mp hp
    have := (v.ok q hq).2
    have := hg q hq
    rw [List.length_take, List.length_drop]; omega
  · obtain ⟨q, hq, rfl⟩ := List.mem_map.mp hp
    exact (List.take_prefix _ _).isInfix.trans (List.drop_suffix _ _).isInfix
def sp_assemble (C : Addr) : Sp := fun vs H Q _ => ∃ (n : Nat) (qa : Addr) (pl : List (Nat × T)) (al : T) (b g : Nat) (z : T), vs = [iv n, .ref qa, sv al, iv b, iv g, sv z] ∧ PlA H qa pl ∧ PlV pl n ∧ AlV al ∧ tot n pl al ≤ b ∧ pl ≠ [] ∧ 1 ≤ g ∧ g ≤ 12 ∧ (∀ q ∈ pl, g ≤ q.2.length) ∧ (z = txC ∨ z = txL) ∧
  ∀ (r dx pa fa : Addr) (x6 : V) (fs : List (T × T)) (H' : Hp), H r = none → Same H H' → H' r = some (.ins C dx (rpF (sv (vot n pl al)) (sv (sur n pl al (b - tot n pl al))) (.ref pa) (iv g) (sv z) x6 (.ref fa))) → H' pa = some (.tup ((cor pl (vot n pl al)).map sv)) → Sh (cor pl (vot n pl al)) g → FnA H' fa fs →
    (∀ f ∈ fs, FnOk_ z (cor pl (vot n pl al)) g f) → fs.length ≤ 20 → Q (.ref r) H'
abbrev MkR (C : Addr) (sp : Sp) (E : XK) (vs : List V) (H1 : Hp) (Q : VK) : Prop := ∀ x dx, H1 x = none → H1 dx = none → dx ≠ x → sp (.ref x :: (vs ++ [])) (upd (upd H1 dx (.own x)) x (.ins C dx [])) (fun v H2 => v = .non ∧ Q (.ref x) H2) E
theorem w_make {C : Addr} {sp : Sp} {E : XK} {ts : TA} {σ : L2.St} {H : Hp} {Q : VK} (h : ts σ H fun vs H1 => MkR C sp E vs H1 Q) : tMake C sp [] E ts σ H Q := h
theorem iteJ {S N : Hp → Prop} {p A B : Prop} [Decidable p] (k : ∀ H, S H → N H) (h1 : (∀ H, S H → N H) → p → A) (h2 : (∀ H, S H → N H) → ¬ p → B) : if decide p = true then A else B := iteD (h1 k) (h2 k)
theorem ok_assemble {P : Program} {w : World} {K : PySem.W.Frag} {mg : Str → Option Value} {base : Heap} (D : Df K mg "assemble" s_assemble) (U : Bu mg) {C fI fP : Addr} (R : Rp K mg C fI fP) (G_init : ClM P w K mg base 1 fI ["self", "consensus", "sure", "pieces", "grain", "shape", "sample", "findings"] (sp_Report_init C)) (C_check_line : Cl P w K mg base "check_line" 1 ["pieces"] sp_check_line) (C_check_placed : Cl P w K mg base "check_placed" 2 ["size", "placed_pieces", "alphabet"] sp_check_placed) (C_check_shape : Cl P w K mg base "check_shape" 1 ["shape"] sp_check_shape) (C_check_shards : Cl P w K mg base "check_shards" 1 ["pieces", "grain"] sp_check_shards) (C_corrected : Cl P w K mg base "corrected" 1 ["placed_pieces", "text"] sp_corrected) (C_findings_of : Cl P w K mg base "findings_of" 7 ["pieces", "grain", "shape"] sp_findings_of) (C_possible_letters : Cl P w K mg base "possible_letters" 5 ["size", "placed_pieces", "alphabet", "budget"] sp_possible_letters) (C_sample_of : Cl P w K mg base "sample_of" 8 ["pieces", "grain", "shape"] sp_sample_of) (C_voted : Cl P w K mg base "voted" 4 ["size", "placed_pieces", "alphabet"] sp_voted) : Cl P w K mg base "assemble" 9 ["size", "placed_pieces", "alphabet", "budget", "grain", "shape"] (sp_assemble C) := by
  refine D.cl sc_assemble (fun _ _ _ _ _ _ us hl => match us, hl with | [_, _, _, _, _, _], _ => rfl) (fun vs H Q E h => ?_) (fun cdv f A outer s H vs Q E hr h => ?_)
  · obtain ⟨n, qa, pl, al, b, g, z, rfl, hpl, pv_, av, hb, hpl0, hg1, hg12, hgl, hz, q⟩ := h
    rfl
  · obtain ⟨n, qa, pl, al, b, g, z, rfl, hpl, pv_, av, hb, hpl0, hg1, hg12, hgl, hz, q⟩ := h
    have hu := hu_of hr
    have hu9 := hu9_of hr
    have hu64 := hu64_of hr
    refine ⟨_, (pss_cons (ps_expr (pcall C_check_placed hr (pa_cons (pv 0) (pa_cons (pv 1) (pa_cons (pv 2) pa_nil)))))
 (pss_cons (ps_if (pt_cmpR op_lt (pv 3) pe_int (nomark _)) (pss_one ps_never) pss_nil)
 (pss_cons (ps_set (i := 6) sc_assemble.nd rfl (Or.inl rfl) (pcall C_possible_letters hr (pa_cons (pv 0) (pa_cons (pv 1) (pa_cons (pv 2) (pa_cons (pv 3) pa_nil))))))
 (pss_cons (ps_set (i := 7) sc_assemble.nd rfl (Or.inl rfl) (pcall C_voted hr (pa_cons (pv 0) (pa_cons (pv 1) (pa_cons (pv 2) pa_nil)))))
 (pss_cons (ps_set (i := 8) sc_assemble.nd rfl (Or.inl rfl) (pcall C_corrected hr (pa_cons (pv 1) (pa_cons (pv 7) pa_nil))))
 (pss_cons (ps_expr (pcall C_check_shards hr (pa_cons (pv 8) (pa_cons (pv 4) pa_nil))))
 (pss_cons (ps_expr (pcall C_check_shape hr (pa_cons (pv 5) pa_nil)))
 (pss_cons (ps_if (pt_cmpR op_eq (pv 5) (pe_txt (t := [108, 105, 110, 101]) (by decide +kernel)) (nomark _)) (pss_one (ps_expr (pcall C_check_line hr (pa_cons (pv 8) pa_nil)))) pss_nil)
 (pss_cons (ps_set (i := 9) sc_assemble.nd rfl (Or.inl rfl) (pe_joinT (K := K) rfl (pe_txt (t := []) (by decide +kernel)) (pe_lc (own := [("found", 10)]) (g := (gName 10)) (tt := tYes) (by rfl) sc_assemble.nd (pi_tup (pv 6)) (blkOk_by (N := ["size", "placed_pieces", "alphabet", "budget", "grain", "shape", "letters", "text", "pieces", "sure", "found"]) (sc := defScope s_assemble) (by decide +kernel)) (fun _ _ _ _ _ => (pg_name (i := 10) sc_assemble.nd rfl (Or.inl rfl))) (fun _ _ _ _ _ => pts_nil) (fun _ _ _ _ _ => (pe_ifExp (pt_cmpR op_eq (pe_callB len_txt (by rfl) U.len (by decide +kernel) (pa_cons (pv 10) pa_nil)) pe_int (nomark _)) (pe_txt (t := [43]) (by decide +kernel)) (pe_txt (t := [45]) (by decide +kernel)))))))
 (pss_one (ps_ret (pmake R G_init hr (pa_cons (pv 7) (pa_cons (pv 9) (pa_cons (pv 8) (pa_cons (pv 4) (pa_cons (pv 5) (pa_cons (pcall C_sample_of hr (pa_cons (pv 8) (pa_cons (pv 4) (pa_cons (pv 5) pa_nil)))) (pa_cons (pcall C_findings_of hr (pa_cons (pv 8) (pa_cons (pv 4) (pa_cons (pv 5) pa_nil)))) pa_nil))))))))))))))))))), ?_⟩
    have hn9 := pv_.n9
    walk_at "gx"
    refine ⟨n, qa, pl, al, rfl, hpl, pv_, av, fun H1 sm1 => ?_⟩
    walk_at "gx"
    refine iteDf (by omega) ?_
    walk_at "gx"
    refine ⟨n, qa, pl, al, b, rfl, hpl.same (sm_kp sm1), pv_, av, hb, fun la H2 hla sm2 h2 => ?_⟩
    have sm12 := sm1.trans sm2
    walk_at "gx"
    refine ⟨n, qa, pl, al, rfl, hpl.same (sm_kp sm12), pv_, av, fun H3 sm3 => ?_⟩
    have sm13 := sm12.trans sm3
    have hvl := vot_len (n := n) (pl := pl) (al := al)
    have pv2 : PlV pl (vot n pl al).length := by rw [hvl]; exact pv_
    have sh := cor_sh pv2 hpl0 hg1 hg12 hgl
    walk_at "gx"
    refine ⟨qa, pl, vot n pl al, rfl, hpl.same (sm_kp sm13), pv2, fun pa H4 hpa sm4 h4 => ?_⟩
    walk_at "gx"
    refine ⟨pa, _, g, rfl, h4, sh, fun H5 sm5 => ?_⟩
    walk_at "gx"
    refine ⟨z, rfl, hz, fun H6 sm6 => ?_⟩
    have sm46 := sm5.trans sm6
    have rest : ∀ H7, Same H4 H7 → (H7 la = some (.tup (((List.range n).map fun p => lets (col pl p) al (b - tot n pl al)).map sv))) ∧ H7 pa = some (.tup ((cor pl (vot n pl al)).map sv)) := fun H7 sm7 => ⟨sm7 _ _ (sm4 _ _ (sm3 _ _ h2)), sm7 _ _ h4⟩
    walk_at "gx"
    refine iteJ (S := fun H7 => Same H4 H7) ?k ?h1 (fun k _ => k H6 sm46)
    case h1 =>
      intro k e
      walk_at "gx"
      refine ⟨pa, _, rfl, (rest _ sm46).2, sh.len, fun H7 sm7 => ?_⟩
      exact k H7 (sm46.trans sm7)
    case k =>
      intro H7 sm7
      obtain ⟨hla7, hpa7⟩ := rest H7 sm7
      have sm07 : Same H H7 := sm13.trans (sm4.trans sm7)
      have hlf : ∀ x ∈ (List.range n).map fun p => lets (col pl p) al (b - tot n pl al), x.length ≤ 20 := fun x hx => by
        obtain ⟨p, _, rfl⟩ := List.mem_map.mp hx
        exact Nat.le_trans (List.length_filter_le _ _) av.len
      have hll : ((List.range n).map fun p => lets (col pl p) al (b - tot n pl al)).length = n := by rw [List.length_map, List.length_range]
      have hsur : sur n pl al (b - tot n pl al) = ((List.range n).map fun p => lets (col pl p) al (b - tot n pl al)).map fun x => if x.length = 1 then 43 else 45 := by unfold sur; rw [List.map_map]; rfl
      rw [hsur] at q
      generalize ((List.range n).map fun p => lets (col pl p) al (b - tot n pl al)) = ls at *
      walk_at "gx"
      refine lc_U ls sv (fun x => [sv [if x.length = 1 then 43 else 45]]) (fun _ _ => Nat.le_refl _) (by rw [sizeLine_eq]; omega) hla7 (fun x H8 hx sm8 R hR => ?_) ?_
      · have hR := hR H8 (Same.refl _)
        have hx20 := hlf x hx
        walk_at "gx"
        refine ⟨rfl, ?_⟩
        walk_at "gx"
        refine iteT ?_
        walk_at "gx"
        refine iteD (fun e => ?_) (fun e => ?_)
        · rw [if_pos (by omega)] at hR
          walk_at "gx"
          exact hR
        · rw [if_neg (by omega)] at hR
          walk_at "gx"
          exact hR
      · intro sl H8 hsl sm8 h8
        rw [flat_one (fun x : T => sv [if x.length = 1 then 43 else 45])] at h8
        have h9 : H8 sl = some (.lst (((ls.map fun x => if x.length = 1 then 43 else 45).map fun c => [c]).map sv)) := by rw [h8, List.map_map, List.map_map]; rfl
        have sm08 := sm07.trans sm8
        refine w_joinL h9 ?_ ?_
        · rw [flat_sing, List.length_map]; omega
        · rw [flat_sing]
          walk_at "gx"
          refine w_make ?_
          walk_at "gx"
          refine ⟨pa, _, g, z, rfl, sm8 _ _ hpa7, sh, hz, fun x6 H9 sm9 => ?_⟩
          walk_at "gx"
          refine ⟨pa, _, g, z, rfl, sm9 _ _ (sm8 _ _ hpa7), sh, fun fa fs H10 hfa sm10 hfs hok hfl => ?_⟩
          intro x dx hx hdx hne
          have sm010 := sm08.trans (sm9.trans sm10)
          refine ⟨x, dx, _, _, _, _, _, _, _, rfl, upd_same, fun H11 hoth h11 => ⟨rfl, ?_⟩⟩
          have sm11 : Same H10 H11 := fun c o hc => by
            have h1 : c ≠ x := fun e => by rw [e, hx] at hc; cases hc
            have h2 : c ≠ dx := fun e => by rw [e, hdx] at hc; cases hc
            rw [hoth c h1, upd_ne h1, upd_ne h2]; exact hc
          have hpa11 := sm11 _ _ (sm10 _ _ (sm9 _ _ (sm8 _ _ hpa7)))
          obtain ⟨vs, f1, f2⟩ := hfs
          exact q x dx pa fa (sv x6) fs H11 (sm010.free hx) (sm010.trans sm11) h11 hpa11 sh ⟨vs, sm11 _ _ f1, Paired.mapP f2 fun _ _ ⟨a, e, h⟩ => ⟨a, e, sm11 _ _ h⟩⟩ hok hfl

theorem sc__law_begin : FnScope ["_law_script", "_law_seed", "_law_cell"] ["_law_script"] (defScope s__law_begin) := ⟨rfl, rfl, rfl, by decide +kernel, rfl, by decide +kernel, by decide +kernel⟩
/-- the state of the draws: the list at d, the script's copy at dl -/
def DA (H : Hp) (d dl : Addr) : Prop := ∃ (ns : List Int) (a b s : Int), H d = some (.lst [.ref dl, .int a, .int b, .int s]) ∧ H dl = some (.lst (ns.map V.int)) ∧ ns.length ≤ 1000 ∧ 0 ≤ a ∧ 0 ≤ b ∧ dl ≠ d
theorem DA.same {H H' : Hp} {d dl : Addr} (h : DA H d dl) (sm : Same H H') : DA H' d dl := by
  obtain ⟨ns, a, b, s, h1, h2, h3⟩ := h
  exact ⟨ns, a, b, s, sm _ _ h1, sm _ _ h2, h3⟩
theorem DA.upd {H : Hp} {d dl p : Addr} {o : HO} (h : DA H d dl) (h1 : p ≠ d) (h2 : p ≠ dl) : DA (upd H p o) d dl := by
  obtain ⟨ns, a, b, s, e1, e2, e3⟩ := h
  exact ⟨ns, a, b, s, by rw [upd_ne h1.symm]; exact e1, by rw [upd_ne h2.symm]; exact e2, e3⟩
theorem SqL.same {K : PySem.W.Frag} {H H' : Hp} {a : Addr} {xs : List V} (h : SqL K H a xs) (sm : Same H H') : SqL K H' a xs := by
  rcases h with (h | ⟨o, h⟩) | h
  · exact .inl (.inl (sm _ _ h))
  · exact .inl (.inr ⟨o, sm _ _ h⟩)
  · exact .inr h
def sp__law_begin (K : PySem.W.Frag) : Sp := fun vs H Q _ => ∃ (a : Addr) (ns : List Int), vs = [.ref a] ∧ SqL K H a (ns.map V.int) ∧ ns.length ≤ 1000 ∧ ∀ (d dl : Addr) (H' : Hp), H d = none → H dl = none → Same H H' → DA H' d dl → Q (.ref d) H'
section
variable {H : Hp} {Q : VK} {m n : Int}
theorem w_mod (h : n ≠ 0) (q : Q (.int (m.fmod n)) H) : rI (fun _ j => j ≠ 0) (fun i j => .int (i.fmod j)) (.int m) (.int n) H Q := ⟨m, n, rfl, rfl, h, q⟩
theorem w_mulR (h : -(2 ^ 64) < n ∧ n < 2 ^ 64) (q : Q (.int (m * n)) H) : rI CMul (fun i j => .int (i * j)) (.int m) (.int n) H Q := ⟨m, n, rfl, rfl, .inr h, q⟩
theorem w_fdv (h : CDivN m n) (q : Q (.int (m.fdiv n)) H) : rI CDivN (fun i j => .int (i.fdiv j)) (.int m) (.int n) H Q := ⟨m, n, rfl, rfl, h, q⟩
theorem w_pow (h : CPow m n) (q : Q (.int (m ^ n.toNat)) H) : rI CPow (fun i j => .int (i ^ j.toNat)) (.int m) (.int n) H Q := ⟨m, n, rfl, rfl, h, q⟩
end
theorem ok__law_begin {P : Program} {w : World} {K : PySem.W.Frag} {mg : Str → Option Value} {base : Heap} (D : Df K mg "_law_begin" s__law_begin) (U : Bu mg) : Cl P w K mg base "_law_begin" 1 ["_law_script"] (sp__law_begin K) := by
  refine D.cl sc__law_begin (fun _ _ _ _ _ _ us hl => match us, hl with | [_], _ => rfl) (fun vs H Q E h => ?_) (fun cdv f A outer s H vs Q E hr h => ?_)
  · obtain ⟨a, ns, rfl, ha, hn, q⟩ := h
    rfl
  · obtain ⟨a, ns, rfl, ha, hn, q⟩ := h
    have hu := hu_of hr
    have hu9 := hu9_of hr
    have hu64 := hu64_of hr
    refine ⟨_, (pss_cons (ps_set (i := 1) sc__law_begin.nd rfl (Or.inl rfl) pe_int)
 (pss_cons (ps_for PassesOwn.never rfl (pi_list (pv 0)) (pg_name (i := 2) sc__law_begin.nd rfl (Or.inl rfl)) (pss_one (ps_set (i := 1) sc__law_begin.nd rfl (Or.inl rfl) (pe_op op_modN (pe_op op_add (pe_op op_add (pe_op op_mul (pv 1) pe_int) (pe_op op_modN (pe_callTy int_one (by rfl) U.nt (by decide +kernel) (pa_cons (pv 2) pa_nil)) pe_int)) pe_int) pe_int))))
 (pss_one (ps_ret (pe_lst (pa_cons (pe_callTy (lst_of (K := K) rfl) (by rfl) U.ls (by decide +kernel) (pa_cons (pv 0) pa_nil)) (pa_cons pe_int (pa_cons pe_int (pa_cons (pv 1) pa_nil))))))))), ?_⟩
    walk_at "gx"
    refine ⟨⟨_, ha⟩, ?_⟩
    refine for_list (xs := ns.map V.int) (fun i σ H1 => ∃ s v2, σ = [some (.ref a), some (.int s), v2] ∧ H1 = H) ⟨1, none, rfl, rfl⟩ (fun i σ H1 _ ⟨_, _, _, e⟩ => by rw [e]; exact ha) ?_ ?_
    · rintro i x σ H1 hx ⟨s, v2, rfl, rfl⟩
      rw [List.getElem?_map] at hx
      obtain ⟨n, hn, rfl⟩ := Option.map_eq_some_iff.mp hx
      walk_at "gx"
      refine w_mulR (by decide) ?_
      walk_at "gx"
      refine w_mod (by decide) ?_
      walk_at "gx"
      refine w_mod (by decide) ?_
      walk_at "gx"
      exact ⟨_, _, rfl, rfl⟩
    · rintro σ H1 ⟨s, v2, rfl, rfl⟩
      walk_at "gx"
      refine ⟨a, _, rfl, .inl ha, fun dl hdl => ?_⟩
      have sm2 : Same H1 (upd H1 dl (.lst (ns.map V.int))) := sm_new hdl
      have h2 : upd H1 dl (.lst (ns.map V.int)) dl = some (.lst (ns.map V.int)) := upd_same
      walk_at "gx"
      intro d H3 hd sm3 h3
      have hne : dl ≠ d := fun e => by rw [← e] at hd; rw [h2] at hd; cases hd
      exact q d dl H3 (sm2.free hd) hdl (sm2.trans sm3) ⟨ns, 0, 0, s, h3, sm3 _ _ h2, hn, Int.le_refl _, Int.le_refl _, hne⟩

theorem sc__law_take : FnScope ["_law_d", "_law_many_here", "_law_digit", "_law_small"] ["_law_d", "_law_many_here"] (defScope s__law_take) := ⟨rfl, rfl, rfl, by decide +kernel, rfl, by decide +kernel, by decide +kernel⟩
def sp__law_take : Sp := fun vs H Q _ => ∃ (d dl : Addr) (m : Nat), vs = [.ref d, iv m] ∧ DA H d dl ∧ 1 ≤ m ∧ m < 1000 ∧ ∀ (k : Nat) (H' : Hp), k < m → Sx H H' d → DA H' d dl → Q (iv k) H'
theorem fmod_lt {x : Int} {m : Nat} (h : 1 ≤ m) : ∃ k : Nat, k < m ∧ V.int (x.fmod (m : Int)) = iv k := by
  have h0 : (m : Int) > 0 := by omega
  have h1 := Int.fmod_nonneg_of_pos x h0
  have h2 := Int.fmod_lt_of_pos x h0
  refine ⟨(x.fmod m).toNat, by omega, ?_⟩
  show V.int _ = V.int _
  congr 1
  omega
theorem seqJ {s1 s2 : TS} {D : Ends} {σ : L2.St} {H : Hp} (S : Hp → Prop) (k : ∀ H1, S H1 → s2 D σ H1) (h : (∀ H1, S H1 → s2 D σ H1) → s1 { D with nx := s2 D } σ H) : tSeq s1 s2 D σ H := h k
theorem w_setL {p : Addr} {xs : List V} {v : V} {H : Hp} {Q : Hp → Prop} (k : Nat) (ys : List V) (hk : k < xs.length) (h : H p = some (.lst xs)) (hy : xs.set k v = ys) (q : Q (upd H p (.lst ys))) : rSetL (.ref p) (.int (k : Int)) v H Q := by
  refine ⟨p, xs, (k : Int), k, rfl, rfl, h, ?_, by rw [hy]; exact q⟩
  unfold ixN
  rw [if_pos (by omega), if_pos (by omega)]
  simp
theorem w_gsub {to ti : TE} {t : TSet} {v : V} {σ : L2.St} {H : Hp} {P : L2.St → Hp → Prop} (h : to σ H fun o H1 => ti σ H1 fun i H2 => t o i v H2 fun H3 => P σ H3) : gSub to ti t v σ H P := h
theorem ok__law_take {P : Program} {w : World} {K : PySem.W.Frag} {mg : Str → Option Value} {base : Heap} (D : Df K mg "_law_take" s__law_take) (U : Bu mg) : Cl P w K mg base "_law_take" 1 ["_law_d", "_law_many_here"] sp__law_take := by
  refine D.cl sc__law_take (fun _ _ _ _ _ _ us hl => match us, hl with | [_, _], _ => rfl) (fun vs H Q E h => ?_) (fun cdv f A outer s H vs Q E hr h => ?_)
  · obtain ⟨d, dl, m, rfl, ⟨ns, a, b, s0, hd, hdl, hn, ha0, hb0, hne⟩, hm1, hm2, q⟩ := h
    rfl
  · obtain ⟨d, dl, m, rfl, ⟨ns, a, b, s0, hd, hdl, hn, ha0, hb0, hne⟩, hm1, hm2, q⟩ := h
    have hu := hu_of hr
    have hu9 := hu9_of hr
    have hu64 := hu64_of hr
    refine ⟨_, (pss_cons (ps_if (PW.pt (pw_and (pt_cmpR op_eq (pe_ix ix_list (pv 0) pe_int (fun _ _ => rfl)) pe_int (nomark _)) (pw_and1 (pt_cmpR op_lt (pe_ix ix_list (pv 0) pe_int (fun _ _ => rfl)) (pe_callB (len_seq (K := K) rfl) (by rfl) U.len (by decide +kernel) (pa_cons (pe_ix ix_list (pv 0) pe_int (fun _ _ => rfl)) pa_nil)) (nomark _))))) (pss_cons (ps_asg (pe_callB abs_one (by rfl) U.ab (by decide +kernel) (pa_cons (pe_callTy int_one (by rfl) U.nt (by decide +kernel) (pa_cons (pe_ix ix_list (pe_ix ix_list (pv 0) pe_int (fun _ _ => rfl)) (pe_ix ix_list (pv 0) pe_int (fun _ _ => rfl)) (fun _ _ => rfl)) pa_nil)) pa_nil)) (pg_sub (pv 0) pe_int set_list))
 (pss_cons (ps_asg (pe_op op_add (pe_ix ix_list (pv 0) pe_int (fun _ _ => rfl)) pe_int) (pg_sub (pv 0) pe_int set_list))
 (pss_one (ps_if (pt_cmpR op_lt (pe_ix ix_list (pv 0) pe_int (fun _ _ => rfl)) (pe_op op_pow pe_int pe_int) (nomark _)) (pss_cons (ps_set (i := 3) sc__law_take.nd rfl (Or.inl rfl) (pe_callTy int_one (by rfl) U.nt (by decide +kernel) (pa_cons (pe_ix ix_list (pv 0) pe_int (fun _ _ => rfl)) pa_nil)))
 (pss_cons (ps_asg pe_int (pg_sub (pv 0) pe_int set_list))
 (pss_one (ps_ret (pe_op op_modN (pv 3) (pv 1)))))) pss_nil)))) pss_nil)
 (pss_cons (ps_if (pt_cmpR op_gt (pe_ix ix_list (pv 0) pe_int (fun _ _ => rfl)) pe_int (nomark _)) (pss_cons (ps_set (i := 2) sc__law_take.nd rfl (Or.inl rfl) (pe_op op_modN (pe_callTy int_one (by rfl) U.nt (by decide +kernel) (pa_cons (pe_ix ix_list (pv 0) pe_int (fun _ _ => rfl)) pa_nil)) (pv 1)))
 (pss_cons (ps_asg (pe_op op_fdivN (pe_callTy int_one (by rfl) U.nt (by decide +kernel) (pa_cons (pe_ix ix_list (pv 0) pe_int (fun _ _ => rfl)) pa_nil)) (pv 1)) (pg_sub (pv 0) pe_int set_list))
 (pss_one (ps_ret (pv 2))))) pss_nil)
 (pss_cons (ps_asg (pe_op op_modN (pe_callTy int_one (by rfl) U.nt (by decide +kernel) (pa_cons (pe_op op_add (pe_op op_mul (pe_ix ix_list (pv 0) pe_int (fun _ _ => rfl)) pe_int) pe_int) pa_nil)) pe_int) (pg_sub (pv 0) pe_int set_list))
 (pss_one (ps_ret (pe_op op_modN (pe_callTy int_one (by rfl) U.nt (by decide +kernel) (pa_cons (pe_op op_fdivN (pe_ix ix_list (pv 0) pe_int (fun _ _ => rfl)) pe_int) pa_nil)) (pv 1))))))), ?_⟩
    have hmz : ((m : Int)) ≠ 0 := by omega
    have hdv : ∀ x : Int, CDivN x (m : Int) := fun x => ⟨hmz, by omega⟩
    refine seqJ (fun H1 => DA H1 d dl ∧ Sx H H1 d) ?k ?h
    case h =>
      intro k
      have kH := k H ⟨⟨ns, a, b, s0, hd, hdl, hn, ha0, hb0, hne⟩, fun _ _ h _ => h⟩
      walk_at "gx"
      refine w_ixL hd rfl ?_
      walk_at "gx"
      refine iteD (fun hb => ?_) (fun hb => ?_)
      · walk_at "gx"
        refine w_ixL hd rfl ?_
        walk_at "gx"
        refine w_ixL hd rfl ?_
        walk_at "gx"
        refine iteD (fun hlt => ?_) (fun hlt => ?_)
        · obtain ⟨i, rfl⟩ := Int.eq_ofNat_of_zero_le ha0
          rw [List.length_map] at hlt
          have hi : i < ns.length := by omega
          have hat : (ns.map V.int)[i]? = some (.int ns[i]) := by rw [List.getElem?_map, List.getElem?_eq_getElem hi]; rfl
          walk_at "gx"
          refine w_ixL hd rfl ?_
          walk_at "gx"
          refine w_ixL hd rfl ?_
          refine w_ixL hdl (atI_nat hat) ?_
          walk_at "gx"
          refine w_gsub ?_
          walk_at "gx"
          generalize hx : (if ns[i] < 0 then -ns[i] else ns[i]) = x
          have hx0 : 0 ≤ x := by rw [← hx]; split <;> omega
          refine w_setL 2 [.ref dl, .int (i : Int), .int x, .int s0] (by show 2 < 4; decide) hd rfl ?_
          have hd2 : upd H d (.lst [.ref dl, .int (i : Int), .int x, .int s0]) d = some (.lst [.ref dl, .int (i : Int), .int x, .int s0]) := upd_same
          have hdl2 : upd H d (.lst [.ref dl, .int (i : Int), .int x, .int s0]) dl = some (.lst (ns.map V.int)) := by rw [upd_ne hne]; exact hdl
          walk_at "gx"
          refine w_ixL hd2 rfl ?_
          walk_at "gx"
          refine w_gsub ?_
          walk_at "gx"
          refine w_setL 1 [.ref dl, .int ((i : Int) + 1), .int x, .int s0] (by show 1 < 4; decide) hd2 rfl ?_
          have hd3 : upd (upd H d (.lst [.ref dl, .int (i : Int), .int x, .int s0])) d (.lst [.ref dl, .int ((i : Int) + 1), .int x, .int s0]) d = some (.lst [.ref dl, .int ((i : Int) + 1), .int x, .int s0]) := upd_same
          have hdl3 : upd (upd H d (.lst [.ref dl, .int (i : Int), .int x, .int s0])) d (.lst [.ref dl, .int ((i : Int) + 1), .int x, .int s0]) dl = some (.lst (ns.map V.int)) := by rw [upd_ne hne]; exact hdl2
          have sx3 : Sx H (upd (upd H d (.lst [.ref dl, .int (i : Int), .int x, .int s0])) d (.lst [.ref dl, .int ((i : Int) + 1), .int x, .int s0])) d := fun c o hc e => by rw [upd_ne e, upd_ne e]; exact hc
          generalize upd (upd H d (.lst [.ref dl, .int (i : Int), .int x, .int s0])) d (.lst [.ref dl, .int ((i : Int) + 1), .int x, .int s0]) = H3 at *
          walk_at "gx"
          refine w_ixL hd3 rfl ?_
          walk_at "gx"
          refine w_pow ⟨by decide, by decide, by decide⟩ ?_
          walk_at "gx"
          refine iteD (fun hlt2 => ?_) (fun hlt2 => ?_)
          · walk_at "gx"
            refine w_ixL hd3 rfl ?_
            walk_at "gx"
            refine w_gsub ?_
            walk_at "gx"
            refine w_setL 2 [.ref dl, .int ((i : Int) + 1), .int 0, .int s0] (by show 2 < 4; decide) hd3 rfl ?_
            walk_at "gx"
            refine w_mod hmz ?_
            obtain ⟨k1, hk1, e1⟩ := fmod_lt (x := x) hm1
            rw [e1]
            refine q k1 _ hk1 (fun c o hc e => ?_) ⟨ns, (i : Int) + 1, 0, s0, upd_same, ?_, hn, by omega, Int.le_refl _, hne⟩
            · rw [upd_ne e]; exact sx3 _ _ hc e
            · rw [upd_ne hne]; exact hdl3
          · exact k H3 ⟨⟨ns, (i : Int) + 1, x, s0, hd3, hdl3, hn, by omega, hx0, hne⟩, sx3⟩
        · exact kH
      · exact kH
    case k =>
      rintro H1 ⟨⟨ns, a, b, s0, hd, hdl, hn, ha0, hb0, hne⟩, sx⟩
      walk_at "gx"
      refine w_ixL hd rfl ?_
      walk_at "gx"
      refine iteD (fun hb => ?_) (fun hb => ?_)
      · walk_at "gx"
        refine w_ixL hd rfl ?_
        walk_at "gx"
        refine w_mod hmz ?_
        walk_at "gx"
        refine w_ixL hd rfl ?_
        walk_at "gx"
        refine w_fdv (hdv _) ?_
        walk_at "gx"
        refine w_gsub ?_
        walk_at "gx"
        refine w_setL 2 [.ref dl, .int a, .int (b.fdiv m), .int s0] (by show 2 < 4; decide) hd rfl ?_
        walk_at "gx"
        obtain ⟨k1, hk1, e1⟩ := fmod_lt (x := b) hm1
        rw [e1]
        refine q k1 _ hk1 (fun c o hc e => ?_) ⟨ns, a, b.fdiv m, s0, upd_same, ?_, hn, ha0, Int.fdiv_nonneg hb0 (by omega), hne⟩
        · rw [upd_ne e]; exact sx _ _ hc e
        · rw [upd_ne hne]; exact hdl
      · walk_at "gx"
        refine w_ixL hd rfl ?_
        walk_at "gx"
        refine w_mulR (by decide) ?_
        walk_at "gx"
        refine w_mod (by decide) ?_
        walk_at "gx"
        refine w_gsub ?_
        walk_at "gx"
        generalize (s0 * 48271 + 11).fmod 2147483647 = s1
        refine w_setL 3 [.ref dl, .int a, .int b, .int s1] (by show 3 < 4; decide) hd rfl ?_
        have hd2 : upd H1 d (.lst [.ref dl, .int a, .int b, .int s1]) d = some (.lst [.ref dl, .int a, .int b, .int s1]) := upd_same
        walk_at "gx"
        refine w_ixL hd2 rfl ?_
        walk_at "gx"
        refine w_fdv ⟨by decide, by decide⟩ ?_
        walk_at "gx"
        refine w_mod hmz ?_
        obtain ⟨k1, hk1, e1⟩ := fmod_lt (x := s1.fdiv 3) hm1
        rw [e1]
        refine q k1 _ hk1 (fun c o hc e => ?_) ⟨ns, a, b, s1, hd2, ?_, hn, ha0, hb0, hne⟩
        · rw [upd_ne e]; exact sx _ _ hc e
        · rw [upd_ne hne]; exact hdl

theorem sc__law_text : FnScope ["_law_d", "_law_signs", "_law_size", "_law_k"] ["_law_d", "_law_signs", "_law_size"] (defScope s__law_text) := ⟨rfl, rfl, rfl, by decide +kernel, rfl, by decide +kernel, by decide +kernel⟩
def sp__law_text : Sp := fun vs H Q _ => ∃ (d dl : Addr) (sg : T) (n : Nat), vs = [.ref d, sv sg, iv n] ∧ DA H d dl ∧ sg ≠ [] ∧ sg.length < 1000 ∧ n ≤ 100 ∧ ∀ (t : T) (H' : Hp), t.length = n → (∀ c ∈ t, c ∈ sg) → Sx H H' d → DA H' d dl → Q (sv t) H'
theorem DA.nd {H : Hp} {d dl p : Addr} (h : DA H d dl) (hp : H p = none) : p ≠ d ∧ p ≠ dl := by
  obtain ⟨ns, a, b, s, e1, e2, _⟩ := h
  exact ⟨fun e => (by rw [e, e1] at hp; cases hp), fun e => (by rw [e, e2] at hp; cases hp)⟩
theorem Sx.trans {H H1 H2 : Hp} {d : Addr} (h : Sx H H1 d) (k : Sx H1 H2 d) : Sx H H2 d := fun c o hc e => k _ _ (h _ _ hc e) e
theorem Sx.none {H H1 : Hp} {d p : Addr} (h : Sx H H1 d) (hp : H1 p = none) (hd : p ≠ d) : H p = none := by
  cases q : H p with
  | none => rfl
  | some o => rw [h _ _ q hd] at hp; cases hp
theorem getD_mem1 {t : T} {k : Nat} (h : k < t.length) : t.getD k 0 ∈ t := by
  rw [List.getD_eq_getElem?_getD, List.getElem?_eq_getElem h]
  exact List.getElem_mem h
theorem ok__law_text {P : Program} {w : World} {K : PySem.W.Frag} {mg : Str → Option Value} {base : Heap} (D : Df K mg "_law_text" s__law_text) (U : Bu mg) (C__law_take : Cl P w K mg base "_law_take" 1 ["_law_d", "_law_many_here"] sp__law_take) : Cl P w K mg base "_law_text" 2 ["_law_d", "_law_signs", "_law_size"] sp__law_text := by
  refine D.cl sc__law_text (fun _ _ _ _ _ _ us hl => match us, hl with | [_, _, _], _ => rfl) (fun vs H Q E h => ?_) (fun cdv f A outer s H vs Q E hr h => ?_)
  · obtain ⟨d, dl, sg, n, rfl, hda, hsg0, hsg, hn, q⟩ := h
    rfl
  · obtain ⟨d, dl, sg, n, rfl, hda, hsg0, hsg, hn, q⟩ := h
    have hu := hu_of hr
    have hu9 := hu9_of hr
    have hu64 := hu64_of hr
    refine ⟨_, (pss_one (ps_ret (pe_joinT (K := K) rfl (pe_txt (t := []) (by decide +kernel)) (pe_lc (own := [("_law_k", 3)]) (g := (gName 3)) (tt := tYes) (by rfl) sc__law_text.nd (pi_range1 rfl U.rng (pa_cons (pv 2) pa_nil)) (blkOk_by (N := ["_law_d", "_law_signs", "_law_size", "_law_k"]) (sc := defScope s__law_text) (by decide +kernel)) (fun _ _ _ _ _ => (pg_name (i := 3) sc__law_text.nd rfl (Or.inl rfl))) (fun _ _ _ _ _ => pts_nil) (fun _ _ _ _ _ => (pe_ix ix_txt (pv 1) (pcall C__law_take hr (pa_cons (pv 0) (pa_cons (pe_callB len_txt (by rfl) U.len (by decide +kernel) (pa_cons (pv 1) pa_nil)) pa_nil))) (fun _ _ => rfl))))))), ?_⟩
    have hsgp := List.length_pos_iff.mpr hsg0
    walk_at "gx"
    refine w_R1 (by omega) (by omega) ?_
    have e1 : ((n : Int)).toNat = n := by omega
    rw [e1]
    refine lc_gR (by walk_at "sz") fun D hD => ?_
    obtain ⟨hDd, hDl⟩ := hda.nd hD
    refine ⟨fun i H' acc => ∃ t : T, acc = (t.map fun c => [c]).map sv ∧ t.length = i ∧ (∀ c ∈ t, c ∈ sg) ∧ Sx H H' d ∧ DA H' d dl, ⟨[], rfl, rfl, fun _ h => (by cases h), fun c o hc _ => (by rw [upd_ne (ne_of_none hc hD)]; exact hc), hda.upd hDd hDl⟩, ?_, ?_⟩
    · rintro i H1 acc hi hacc ⟨t, rfl, htl, hts, sx, hda1⟩ hD1 R hy hn_
      walk_at "gx"
      refine ⟨rfl, ?_⟩
      walk_at "gx"
      refine iteT ?_
      walk_at "gx"
      refine ⟨d, dl, sg.length, rfl, hda1, by omega, hsg, fun k H2 hk sx2 hda2 => ?_⟩
      refine ⟨sg, (k : Int), sg.getD k 0, rfl, rfl, by walk_at "sz", atI_getD hk, ?_⟩
      refine hy _ _ (sx2 _ _ hD1 hDd) ⟨t ++ [sg.getD k 0], by simp, by simp [htl], fun c hc => ?_, fun c o hc e => ?_, hda2.upd hDd hDl⟩
      · rcases List.mem_append.mp hc with h | h
        · exact hts c h
        · simp only [List.mem_singleton] at h; subst h; exact getD_mem1 hk
      · rw [upd_ne (ne_of_none hc hD)]; exact sx2 _ _ (sx _ _ hc e) e
    · rintro H1 acc ⟨t, rfl, htl, hts, sx, hda1⟩ _ hD1
      refine w_joinL hD1 ?_ ?_
      · rw [flat_sing]; omega
      · rw [flat_sing]
        exact q t H1 htl hts sx hda1

theorem sc__law_rich : FnScope ["_law_d", "_law_signs", "_law_size", "_law_text_here", "_law_menu", "_law_at"] ["_law_d", "_law_signs", "_law_size"] (defScope s__law_rich) := ⟨rfl, rfl, rfl, by decide +kernel, rfl, by decide +kernel, by decide +kernel⟩
def sp__law_rich : Sp := fun vs H Q _ => ∃ (d dl : Addr) (sg : T) (n : Nat), vs = [.ref d, sv sg, iv n] ∧ DA H d dl ∧ sg ≠ [] ∧ sg.length < 1000 ∧ n ≤ 100 ∧ ∀ (t : T) (H' : Hp), t.length = n → (∀ c ∈ t, c ∈ sg) → Sx H H' d → DA H' d dl → Q (sv t) H'
theorem ok__law_rich {P : Program} {w : World} {K : PySem.W.Frag} {mg : Str → Option Value} {base : Heap} (D : Df K mg "_law_rich" s__law_rich) (U : Bu mg) (C__law_take : Cl P w K mg base "_law_take" 1 ["_law_d", "_law_many_here"] sp__law_take) (C__law_text : Cl P w K mg base "_law_text" 2 ["_law_d", "_law_signs", "_law_size"] sp__law_text) : Cl P w K mg base "_law_rich" 3 ["_law_d", "_law_signs", "_law_size"] sp__law_rich := by
  refine D.cl sc__law_rich (fun _ _ _ _ _ _ us hl => match us, hl with | [_, _, _], _ => rfl) (fun vs H Q E h => ?_) (fun cdv f A outer s H vs Q E hr h => ?_)
  · obtain ⟨d, dl, sg, n, rfl, hda, hsg0, hsg, hn, q⟩ := h
    rfl
  · obtain ⟨d, dl, sg, n, rfl, hda, hsg0, hsg, hn, q⟩ := h
    have hu := hu_of hr
    have hu9 := hu9_of hr
    have hu64 := hu64_of hr
    refine ⟨_, (pss_cons (ps_set (i := 3) sc__law_rich.nd rfl (Or.inl rfl) (pcall C__law_text hr (pa_cons (pv 0) (pa_cons (pv 1) (pa_cons (pe_op op_add pe_int (pcall C__law_take hr (pa_cons (pv 0) (pa_cons pe_int pa_nil)))) pa_nil)))))
 (pss_cons (ps_while PassesOwn.never (pt_cmpR op_lt (pe_callB len_txt (by rfl) U.len (by decide +kernel) (pa_cons (pv 3) pa_nil)) (pv 2) (nomark _)) (pss_cons (ps_set (i := 4) sc__law_rich.nd rfl (Or.inl rfl) (pcall C__law_take hr (pa_cons (pv 0) (pa_cons pe_int pa_nil))))
 (pss_one (ps_if (pt_cmpR op_eq (pv 4) pe_int (nomark _)) (pss_one (ps_set (i := 3) sc__law_rich.nd rfl (Or.inl rfl) (pe_op op_addT (pv 3) (pv 3)))) (pss_one (ps_if (pt_cmpR op_eq (pv 4) pe_int (nomark _)) (pss_cons (ps_set (i := 5) sc__law_rich.nd rfl (Or.inl rfl) (pcall C__law_take hr (pa_cons (pv 0) (pa_cons (pe_callB len_txt (by rfl) U.len (by decide +kernel) (pa_cons (pv 3) pa_nil)) pa_nil))))
 (pss_one (ps_set (i := 3) sc__law_rich.nd rfl (Or.inl rfl) (pe_op op_addT (pv 3) (pe_slice sl_txt1 (pv 3) (po_some (pv 5)) (po_some (pe_op op_add (pv 5) pe_int))))))) (pss_one (ps_set (i := 3) sc__law_rich.nd rfl (Or.inl rfl) (pe_op op_addT (pv 3) (pe_ix ix_txt (pv 1) (pcall C__law_take hr (pa_cons (pv 0) (pa_cons (pe_callB len_txt (by rfl) U.len (by decide +kernel) (pa_cons (pv 1) pa_nil)) pa_nil))) (fun _ _ => rfl)))))))))))
 (pss_one (ps_ret (pe_slice sl_txt1 (pv 3) po_none (po_some (pv 2))))))), ?_⟩
    have hsgp := List.length_pos_iff.mpr hsg0
    walk_at "gx"
    refine ⟨d, dl, 4, rfl, hda, by decide, by decide, fun k H1 hk sx1 hda1 => ?_⟩
    walk_at "gx"
    have e0 : ((1 : Int) + (k : Int)) = ((1 + k : Nat) : Int) := by omega
    rw [e0]
    refine ⟨d, dl, sg, 1 + k, rfl, hda1, hsg0, hsg, by omega, fun t0 H2 ht0 hts0 sx2 hda2 => ?_⟩
    walk_at "gx"
    refine ⟨fun m σ H3 => ∃ t v4 v5, σ = [some (.ref d), some (sv sg), some (iv n), some (sv t), v4, v5] ∧ Sx H H3 d ∧ DA H3 d dl ∧ (∀ c ∈ t, c ∈ sg) ∧ 1 ≤ t.length ∧ t.length ≤ 300 ∧ m = n - t.length, ⟨_, t0, none, none, rfl, sx1.trans sx2, hda2, hts0, by omega, by omega, rfl⟩, ?_⟩
    rintro m σ H3 ⟨t, v4, v5, rfl, sx3, hda3, hts, ht1, ht3, hm⟩
    walk_at "gx"
    refine iteD (fun hlt => ?_) (fun hlt => ?_)
    · refine ⟨fun σ' H' => ∃ m', m' < m ∧ ∃ t v4 v5, σ' = [some (.ref d), some (sv sg), some (iv n), some (sv t), v4, v5] ∧ Sx H H' d ∧ DA H' d dl ∧ (∀ c ∈ t, c ∈ sg) ∧ 1 ≤ t.length ∧ t.length ≤ 300 ∧ m' = n - t.length, fun σ' H' h => h, ?_⟩
      walk_at "gx"
      refine ⟨d, dl, 3, rfl, hda3, by decide, by decide, fun k3 H4 hk3 sx4 hda4 => ?_⟩
      have sx34 := sx3.trans sx4
      walk_at "gx"
      refine iteD (fun e => ?_) (fun e => ?_)
      · walk_at "gx"
        refine ⟨_, ?_, t ++ t, _, _, rfl, sx34, hda4, fun c hc => ?_, ?_, ?_, rfl⟩
        · rw [List.length_append]; omega
        · rcases List.mem_append.mp hc with h | h <;> exact hts c h
        · rw [List.length_append]; omega
        · rw [List.length_append]; omega
      · walk_at "gx"
        refine iteD (fun e => ?_) (fun e => ?_)
        · walk_at "gx"
          refine ⟨d, dl, t.length, rfl, hda4, ht1, by omega, fun k5 H5 hk5 sx5 hda5 => ?_⟩
          have hl5 : ((t.drop ((k5 : Int)).toNat).take (((k5 : Int) + 3).toNat - ((k5 : Int)).toNat)).length ≤ 3 := by rw [List.length_take]; omega
          have hl6 : 1 ≤ ((t.drop ((k5 : Int)).toNat).take (((k5 : Int) + 3).toNat - ((k5 : Int)).toNat)).length := by rw [List.length_take, List.length_drop]; omega
          walk_at "gx"
          refine ⟨_, ?_, t ++ (t.drop ((k5 : Int)).toNat).take (((k5 : Int) + 3).toNat - ((k5 : Int)).toNat), _, _, rfl, sx34.trans sx5, hda5, fun c hc => ?_, ?_, ?_, rfl⟩
          · rw [List.length_append]; omega
          · rcases List.mem_append.mp hc with h | h
            · exact hts c h
            · exact hts c (List.mem_of_mem_drop (List.mem_of_mem_take h))
          · rw [List.length_append]; omega
          · rw [List.length_append]; omega
        · walk_at "gx"
          refine ⟨d, dl, sg.length, rfl, hda4, hsgp, hsg, fun k5 H5 hk5 sx5 hda5 => ?_⟩
          refine ⟨sg, (k5 : Int), sg.getD k5 0, rfl, rfl, by walk_at "sz", atI_getD hk5, ?_⟩
          have hone : ([sg.getD k5 0] : T).length = 1 := rfl
          walk_at "gx"
          refine ⟨_, ?_, t ++ [sg.getD k5 0], _, _, rfl, sx34.trans sx5, hda5, fun c hc => ?_, ?_, ?_, rfl⟩
          · rw [List.length_append]; omega
          · rcases List.mem_append.mp hc with h | h
            · exact hts c h
            · simp only [List.mem_singleton] at h; subst h; exact getD_mem1 hk5
          · rw [List.length_append]; omega
          · rw [List.length_append]; omega
    · walk_at "gx"
      have e2 : ((n : Int)).toNat = n := by omega
      simp only [e2]
      exact q (t.take n) H3 (by rw [List.length_take]; omega) (fun c hc => hts c (List.mem_of_mem_take hc)) sx3 hda3

theorem sc__law_round : FnScope ["_law_circle", "_law_start", "_law_count", "_law_k"] ["_law_circle", "_law_start", "_law_count"] (defScope s__law_round) := ⟨rfl, rfl, rfl, by decide +kernel, rfl, by decide +kernel, by decide +kernel⟩
def sp__law_round : Sp := fun vs H Q _ => ∃ (t : T) (p n : Nat), vs = [sv t, iv p, iv n] ∧ t ≠ [] ∧ t.length ≤ 16000000 ∧ n ≤ 100 ∧ ∀ H', Same H H' → Q (sv (rnd t p n)) H'
theorem ok__law_round {P : Program} {w : World} {K : PySem.W.Frag} {mg : Str → Option Value} {base : Heap} (D : Df K mg "_law_round" s__law_round) (U : Bu mg) : Cl P w K mg base "_law_round" 1 ["_law_circle", "_law_start", "_law_count"] sp__law_round := by
  refine D.cl sc__law_round (fun _ _ _ _ _ _ us hl => match us, hl with | [_, _, _], _ => rfl) (fun vs H Q E h => ?_) (fun cdv f A outer s H vs Q E hr h => ?_)
  · obtain ⟨t, p, n, rfl, ht0, htl, hn, q⟩ := h
    rfl
  · obtain ⟨t, p, n, rfl, ht0, htl, hn, q⟩ := h
    have hu := hu_of hr
    have hu9 := hu9_of hr
    have hu64 := hu64_of hr
    refine ⟨_, (pss_one (ps_ret (pe_joinT (K := K) rfl (pe_txt (t := []) (by decide +kernel)) (pe_lc (own := [("_law_k", 3)]) (g := (gName 3)) (tt := tYes) (by rfl) sc__law_round.nd (pi_range1 rfl U.rng (pa_cons (pv 2) pa_nil)) (blkOk_by (N := ["_law_circle", "_law_start", "_law_count", "_law_k"]) (sc := defScope s__law_round) (by decide +kernel)) (fun _ _ _ _ _ => (pg_name (i := 3) sc__law_round.nd rfl (Or.inl rfl))) (fun _ _ _ _ _ => pts_nil) (fun _ _ _ _ _ => (pe_ix ix_txt (pv 0) (pe_op op_modN (pe_callTy int_one (by rfl) U.nt (by decide +kernel) (pa_cons (pe_op op_add (pv 1) (pv 3)) pa_nil)) (pe_callB len_txt (by rfl) U.len (by decide +kernel) (pa_cons (pv 0) pa_nil))) (fun _ _ => rfl))))))), ?_⟩
    have htp := List.length_pos_iff.mpr ht0
    walk_at "gx"
    refine w_R1 (by omega) (by omega) ?_
    have e1 : ((n : Int)).toNat = n := by omega
    rw [e1]
    refine lc_R (fun k => [c1 (t.getD ((p + k) % t.length) 0)]) (fun _ _ => Nat.le_refl _) (by walk_at "sz") (fun k H1 hk sm1 R hR => ?_) ?_
    · have hR := hR H1 (Same.refl _)
      walk_at "gx"
      refine ⟨rfl, ?_⟩
      walk_at "gx"
      refine iteT ?_
      walk_at "gx"
      refine w_mod (by omega) ?_
      have e2 : ((p : Int) + ((0 : Int) + (k : Int))).fmod (t.length : Int) = (((p + k) % t.length : Nat) : Int) := by
        rw [Int.fmod_eq_emod_of_nonneg _ (by omega)]
        rw [show ((p : Int) + ((0 : Int) + (k : Int))) = ((p + k : Nat) : Int) by omega]
        rfl
      rw [e2]
      exact ⟨t, _, _, rfl, rfl, by walk_at "sz", atI_getD (Nat.mod_lt _ htp), hR⟩
    · intro l H1 hl sm1 h1
      rw [flat_one (fun k => c1 (t.getD ((p + k) % t.length) 0))] at h1
      have h2 : H1 l = some (.lst (((rnd t p n).map fun c => [c]).map sv)) := by rw [h1]; unfold rnd; rw [List.map_map, List.map_map]; rfl
      refine w_joinL h2 ?_ ?_
      · rw [flat_sing, rnd_len]; omega
      · rw [flat_sing]
        exact q H1 sm1

theorem sc__law_on_circle : FnScope ["_law_circle", "_law_word", "_law_p"] ["_law_circle", "_law_word"] (defScope s__law_on_circle) := ⟨rfl, rfl, rfl, by decide +kernel, rfl, by decide +kernel, by decide +kernel⟩
def sp__law_on_circle : Sp := fun vs H Q _ => ∃ (t x : T), vs = [sv t, sv x] ∧ t.length ≤ 16000000 ∧ x.length ≤ 100 ∧ ∀ H', Same H H' → Q (.bl (decide (onC t x))) H'
theorem ok__law_on_circle {P : Program} {w : World} {K : PySem.W.Frag} {mg : Str → Option Value} {base : Heap} (D : Df K mg "_law_on_circle" s__law_on_circle) (U : Bu mg) (C__law_round : Cl P w K mg base "_law_round" 1 ["_law_circle", "_law_start", "_law_count"] sp__law_round) : Cl P w K mg base "_law_on_circle" 2 ["_law_circle", "_law_word"] sp__law_on_circle := by
  refine D.cl sc__law_on_circle (fun _ _ _ _ _ _ us hl => match us, hl with | [_, _], _ => rfl) (fun vs H Q E h => ?_) (fun cdv f A outer s H vs Q E hr h => ?_)
  · obtain ⟨t, x, rfl, htl, hx, q⟩ := h
    rfl
  · obtain ⟨t, x, rfl, htl, hx, q⟩ := h
    have hu := hu_of hr
    have hu9 := hu9_of hr
    have hu64 := hu64_of hr
    refine ⟨_, (pss_one (ps_ret (pe_cmpR op_gt (pe_callB (len_seq (K := K) rfl) (by rfl) U.len (by decide +kernel) (pa_cons (pe_lc (own := [("_law_p", 2)]) (g := (gName 2)) (by rfl) sc__law_on_circle.nd (pi_range1 rfl U.rng (pa_cons (pe_callB len_txt (by rfl) U.len (by decide +kernel) (pa_cons (pv 0) pa_nil)) pa_nil)) (blkOk_by (N := ["_law_circle", "_law_word", "_law_p"]) (sc := defScope s__law_on_circle) (by decide +kernel)) (fun _ _ _ _ _ => (pg_name (i := 2) sc__law_on_circle.nd rfl (Or.inl rfl))) (fun _ _ _ _ _ => (pts_one (pt_cmpR op_eq (pcall C__law_round hr (pa_cons (pv 0) (pa_cons (pv 2) (pa_cons (pe_callB len_txt (by rfl) U.len (by decide +kernel) (pa_cons (pv 1) pa_nil)) pa_nil)))) (pv 1) (nomark _)))) (fun _ _ _ _ _ => (pv 2))) pa_nil)) pe_int (nomark _)))), ?_⟩
    walk_at "gx"
    refine w_R1 (by omega) (by omega) ?_
    have e1 : ((t.length : Int)).toNat = t.length := by omega
    rw [e1]
    refine lc_R (fun p => if decide (rnd t p x.length = x) = true then [iv p] else []) (fun _ _ => if_len) (by walk_at "sz") (fun p H1 hp sm1 R hR => ?_) ?_
    · have e2 : ((0 : Int) + (p : Int)) = (p : Int) := by omega
      rw [e2]
      have ht0 : t ≠ [] := fun e => by rw [e] at hp; simp at hp
      walk_at "gx"
      refine ⟨rfl, ?_⟩
      walk_at "gx"
      refine ⟨t, p, x.length, rfl, ht0, htl, hx, fun H2 sm2 => ?_⟩
      have hR := hR H2 sm2
      walk_at "gx"
      refine iteD (fun e => ?_) (fun e => ?_)
      · rw [if_pos (decide_eq_true e)] at hR
        walk_at "gx"
        exact hR
      · rw [if_neg (by simpa using e)] at hR
        exact hR
    · intro l H1 hl sm1 h1
      rw [flat_if (fun p => decide (rnd t p x.length = x)) iv] at h1
      walk_at "gx"
      have e3 : decide ((0 : Int) < (((List.range t.length).filter fun p => decide (rnd t p x.length = x)).map iv).length) = decide (onC t x) := by
        rw [decide_eq_decide, List.length_map]
        constructor
        · intro h
          obtain ⟨p, hp⟩ := List.exists_mem_of_length_pos (l := (List.range t.length).filter fun p => decide (rnd t p x.length = x)) (by omega)
          rw [List.mem_filter, List.mem_range, decide_eq_true_eq] at hp
          exact ⟨p, hp.1, hp.2⟩
        · rintro ⟨p, h1, h2⟩
          have := List.length_pos_of_mem (List.mem_filter.mpr ⟨List.mem_range.mpr h1, decide_eq_true h2⟩ : p ∈ (List.range t.length).filter fun p => decide (rnd t p x.length = x))
          omega
      rw [e3]
      exact q H1 sm1

theorem sc__law_windows : FnScope ["_law_pieces", "_law_grain", "_law_found", "_law_piece", "_law_p"] ["_law_pieces", "_law_grain"] (defScope s__law_windows) := ⟨rfl, rfl, rfl, by decide +kernel, rfl, by decide +kernel, by decide +kernel⟩
def sp__law_windows : Sp := fun vs H Q _ => ∃ (pa : Addr) (ps : List T) (g : Nat), vs = [.ref pa, iv g] ∧ H pa = some (.tup (ps.map sv)) ∧ Sh ps g ∧
  ∀ r ws H', H r = none → Same H H' → H' r = some (.lst (ws.map sv)) → Wn ps g ws → Q (.ref r) H'
theorem ok__law_windows {P : Program} {w : World} {K : PySem.W.Frag} {mg : Str → Option Value} {base : Heap} (D : Df K mg "_law_windows" s__law_windows) (U : Bu mg) : Cl P w K mg base "_law_windows" 1 ["_law_pieces", "_law_grain"] sp__law_windows := by
  refine D.cl sc__law_windows (fun _ _ _ _ _ _ us hl => match us, hl with | [_, _], _ => rfl) (fun vs H Q E h => ?_) (fun cdv f A outer s H vs Q E hr h => ?_)
  · obtain ⟨pa, ps, g, rfl, hp, hs, q⟩ := h
    rfl
  · obtain ⟨pa, ps, g, rfl, hp, hs, q⟩ := h
    have hu := hu_of hr
    have hu9 := hu9_of hr
    have hu64 := hu64_of hr
    refine ⟨_, (pss_cons (ps_set (i := 2) sc__law_windows.nd rfl (Or.inl rfl) (pe_lst pa_nil))
 (pss_cons (ps_for PassesOwn.never rfl (pi_tup (pv 0)) (pg_name (i := 3) sc__law_windows.nd rfl (Or.inl rfl)) (pss_one (ps_for PassesOwn.never rfl (pi_range1 rfl U.rng (pa_cons (pe_op op_add (pe_op op_sub (pe_callB len_txt (by rfl) U.len (by decide +kernel) (pa_cons (pv 3) pa_nil)) (pv 1)) pe_int) pa_nil)) (pg_name (i := 4) sc__law_windows.nd rfl (Or.inl rfl)) (pss_one (ps_if (pt_cmpR (op_niT (K := K) rfl) (pe_slice sl_txt1 (pv 3) (po_some (pv 4)) (po_some (pe_op op_add (pv 4) (pv 1)))) (pv 2) (by rfl)) (pss_one (ps_expr (pe_bm PySem.F.plainAttrs_list PySem.F.slot_list_append PySem.F.type_list_append mt_append (pv 2) (pa_cons (pe_slice sl_txt1 (pv 3) (po_some (pv 4)) (po_some (pe_op op_add (pv 4) (pv 1)))) pa_nil)))) pss_nil)))))
 (pss_one (ps_ret (pe_callB (sort_txt (K := K) rfl) (by rfl) U.srt (by decide +kernel) (pa_cons (pv 2) pa_nil)))))), ?_⟩
    have g1 := hs.g1
    walk_at "go"
    intro l H1 hl sm hl1
    walk_at "go"
    have hp1 := sm _ _ hp
    walk_at "go"
    refine w_forU (xs := ps.map sv) (fun i σ H2 => ∃ v1 v2 fs, σ = [some (.ref pa), some (iv g), some (.ref l), v1, v2] ∧ Same H H2 ∧ H2 l = some (.lst (fs.map sv)) ∧ WnI ps g i 0 fs) ⟨none, none, [], rfl, sm, hl1, WnI.init ps g⟩ (fun i σ H2 _ ⟨_, _, _, _, sm2, _⟩ => sm2 _ _ hp) ?_ ?_
    · rintro i x σ H2 hx ⟨v1, v2, fs, rfl, sm2, hl2, wn⟩
      rw [List.getElem?_map] at hx
      obtain ⟨p, hpi, rfl⟩ := Option.map_eq_some_iff.mp hx
      have hm := List.mem_of_getElem? hpi
      have h1 := hs.pg p hm
      have h2 := hs.p9 p hm
      walk_at "go"
      refine w_R1 (by omega) (by omega) ?_
      have e1 : ((p.length : Int) - (g : Int) + 1).toNat = p.length - g + 1 := by omega
      rw [e1]
      refine w_forR (fun j σ H3 => ∃ v2 fs, σ = [some (.ref pa), some (iv g), some (.ref l), some (sv p), v2] ∧ Same H H3 ∧ H3 l = some (.lst (fs.map sv)) ∧ WnI ps g i j fs) ⟨v2, fs, rfl, sm2, hl2, wn⟩ ?_ ?_
      · rintro j σ H3 hj ⟨v2, fs, rfl, sm3, hl3, wn3⟩
        have hfew := wn3.few hs
        have e2 : ((0 : Int) + (j : Int)) = (j : Int) := by omega
        rw [e2]
        walk_at "go"
        have e3 : ((j : Int)).toNat = j := by omega
        have e4 : ((j : Int) + (g : Int)).toNat - j = g := by omega
        rw [e3, e4]
        have wn4 := wn3.add hpi (by omega)
        refine iteN (fun hn => ?_) (fun hn => ?_)
        · rw [if_neg hn] at wn4
          walk_at "go"
          rw [e3, e4]
          refine ⟨_, _, rfl, sm_mut sm3 hl, ?_, wn4⟩
          rw [upd_same, List.map_append]
          rfl
        · rw [if_pos hn] at wn4
          walk_at "go"
          exact ⟨_, fs, rfl, sm3, hl3, wn4⟩
      · rintro σ H3 ⟨v3, fs3, rfl, sm3, hl3, wn3⟩
        exact ⟨_, _, fs3, rfl, sm3, hl3, wn3.next hpi h1⟩
    · rintro σ H2 ⟨v1, v2, fs, rfl, sm2, hl2, wn⟩
      rw [List.length_map] at wn
      have hfew := wn.few hs
      walk_at "go"
      refine w_sortT hl2 (by omega) fun us hus _ p H3 hp3 sm3 hl3 => ?_
      exact q p us H3 (sm2.free hp3) (sm2.trans sm3) hl3 (wn.fin hs hus)

theorem sc__law_explains : FnScope ["_law_pieces", "_law_grain", "_law_text_here", "_law_shape", "_law_windows_here", "_law_piece", "_law_p"] ["_law_pieces", "_law_grain", "_law_text_here", "_law_shape"] (defScope s__law_explains) := ⟨rfl, rfl, rfl, by decide +kernel, rfl, by decide +kernel, by decide +kernel⟩
def sp__law_explains : Sp := fun vs H Q _ => ∃ (pa : Addr) (ps : List T) (g : Nat) (t z : T), vs = [.ref pa, iv g, sv t, sv z] ∧ H pa = some (.tup (ps.map sv)) ∧ Sh ps g ∧ t.length ≤ 16000000 ∧
  (ExS z ps g t → ∀ H', Same H H' → Q (.bl true) H') ∧ (¬ ExS z ps g t → ∀ H', Same H H' → Q (.bl false) H')
theorem all_map {α : Type} (f : α → Bool) (l : List α) : (l.map f).all id = l.all f := by rw [List.all_map]; rfl
theorem iteF {A B : Prop} (h : B) : if (!true) = true then A else B := by rw [if_neg (by decide)]; exact h
theorem ok__law_explains {P : Program} {w : World} {K : PySem.W.Frag} {mg : Str → Option Value} {base : Heap} (D : Df K mg "_law_explains" s__law_explains) (U : Bu mg) (C__law_on_circle : Cl P w K mg base "_law_on_circle" 2 ["_law_circle", "_law_word"] sp__law_on_circle) (C__law_round : Cl P w K mg base "_law_round" 1 ["_law_circle", "_law_start", "_law_count"] sp__law_round) (C__law_windows : Cl P w K mg base "_law_windows" 1 ["_law_pieces", "_law_grain"] sp__law_windows) : Cl P w K mg base "_law_explains" 3 ["_law_pieces", "_law_grain", "_law_text_here", "_law_shape"] sp__law_explains := by
  refine D.cl sc__law_explains (fun _ _ _ _ _ _ us hl => match us, hl with | [_, _, _, _], _ => rfl) (fun vs H Q E h => ?_) (fun cdv f A outer s H vs Q E hr h => ?_)
  · obtain ⟨pa, ps, g, t, z, rfl, hpa, sh, htl, q1, q2⟩ := h
    rfl
  · obtain ⟨pa, ps, g, t, z, rfl, hpa, sh, htl, q1, q2⟩ := h
    have hu := hu_of hr
    have hu9 := hu9_of hr
    have hu64 := hu64_of hr
    refine ⟨_, (pss_cons (ps_set (i := 4) sc__law_explains.nd rfl (Or.inr rfl) (pcall C__law_windows hr (pa_cons (pv 0) (pa_cons (pv 1) pa_nil))))
 (pss_cons (ps_if (pt_cmpR op_eq (pv 3) (pe_txt (t := [99, 105, 114, 99, 108, 101]) (by decide +kernel)) (nomark _)) (pss_cons (ps_if (PW.pt (pw_or (pt_cmpR op_eq (pv 2) (pe_txt (t := []) (by decide +kernel)) (nomark _)) (pw_or1 (pt_not (pt_val (pe_callB (cr_all rfl) (by rfl) U.al (by decide +kernel) (pa_cons (pe_lc (own := [("_law_p", 6)]) (g := (gName 6)) (tt := tYes) (by rfl) sc__law_explains.nd (pi_range1 rfl U.rng (pa_cons (pe_callB len_txt (by rfl) U.len (by decide +kernel) (pa_cons (pv 2) pa_nil)) pa_nil)) (blkOk_by (N := ["_law_pieces", "_law_grain", "_law_text_here", "_law_shape", "_law_windows_here", "_law_piece", "_law_p"]) (sc := defScope s__law_explains) (by decide +kernel)) (fun _ _ _ _ _ => (pg_name (i := 6) sc__law_explains.nd rfl (Or.inl rfl))) (fun _ _ _ _ _ => pts_nil) (fun _ _ _ _ _ => (pe_cmpR (op_inT (K := K) rfl) (pcall C__law_round hr (pa_cons (pv 2) (pa_cons (pv 6) (pa_cons (pv 1) pa_nil)))) (pv 4) (by rfl)))) pa_nil))))))) (pss_one (ps_ret pe_bl)) pss_nil)
 (pss_one (ps_ret (pe_callB (cr_all rfl) (by rfl) U.al (by decide +kernel) (pa_cons (pe_lc (own := [("_law_piece", 5)]) (g := (gName 5)) (tt := tYes) (by rfl) sc__law_explains.nd (pi_tup (pv 0)) (blkOk_by (N := ["_law_pieces", "_law_grain", "_law_text_here", "_law_shape", "_law_windows_here", "_law_piece", "_law_p"]) (sc := defScope s__law_explains) (by decide +kernel)) (fun _ _ _ _ _ => (pg_name (i := 5) sc__law_explains.nd rfl (Or.inl rfl))) (fun _ _ _ _ _ => pts_nil) (fun _ _ _ _ _ => (pcall C__law_on_circle hr (pa_cons (pv 2) (pa_cons (pv 5) pa_nil))))) pa_nil))))) pss_nil)
 (pss_cons (ps_if (pt_not (pt_val (pe_callB (cr_all rfl) (by rfl) U.al (by decide +kernel) (pa_cons (pe_lc (own := [("_law_p", 6)]) (g := (gName 6)) (tt := tYes) (by rfl) sc__law_explains.nd (pi_range1 rfl U.rng (pa_cons (pe_op op_add (pe_op op_sub (pe_callB len_txt (by rfl) U.len (by decide +kernel) (pa_cons (pv 2) pa_nil)) (pv 1)) pe_int) pa_nil)) (blkOk_by (N := ["_law_pieces", "_law_grain", "_law_text_here", "_law_shape", "_law_windows_here", "_law_piece", "_law_p"]) (sc := defScope s__law_explains) (by decide +kernel)) (fun _ _ _ _ _ => (pg_name (i := 6) sc__law_explains.nd rfl (Or.inl rfl))) (fun _ _ _ _ _ => pts_nil) (fun _ _ _ _ _ => (pe_cmpR (op_inT (K := K) rfl) (pe_slice sl_txt1 (pv 2) (po_some (pv 6)) (po_some (pe_op op_add (pv 6) (pv 1)))) (pv 4) (by rfl)))) pa_nil)))) (pss_one (ps_ret pe_bl)) pss_nil)
 (pss_one (ps_ret (pe_callB (cr_all rfl) (by rfl) U.al (by decide +kernel) (pa_cons (pe_lc (own := [("_law_piece", 5)]) (g := (gName 5)) (tt := tYes) (by rfl) sc__law_explains.nd (pi_tup (pv 0)) (blkOk_by (N := ["_law_pieces", "_law_grain", "_law_text_here", "_law_shape", "_law_windows_here", "_law_piece", "_law_p"]) (sc := defScope s__law_explains) (by decide +kernel)) (fun _ _ _ _ _ => (pg_name (i := 5) sc__law_explains.nd rfl (Or.inl rfl))) (fun _ _ _ _ _ => pts_nil) (fun _ _ _ _ _ => (pe_cmpR op_inS1 (pv 5) (pv 2) (by rfl)))) pa_nil))))))), ?_⟩
    have hg1 := sh.g1
    have hg12 := sh.g12
    have hp8 := sh.len
    walk_at "gx"
    refine ⟨pa, ps, g, rfl, hpa, sh, fun wa ws H1 hwa sm1 h1 wn => ?_⟩
    have hpa1 := sm1 _ _ hpa
    walk_at "gx"
    refine iteD (fun hz => ?_) (fun hz => ?_)
    · have hz : z = txC := hz
      have ex : ExS z ps g t ↔ ExpC ps ws g t := by
        constructor
        · rintro ⟨ws', wn', h⟩
          rw [if_pos hz] at h
          exact h.cg (wn'.eq wn)
        · intro h
          exact ⟨ws, wn, by rw [if_pos hz]; exact h⟩
      walk_at "gx"
      refine iteD (fun ht => ?_) (fun ht => ?_)
      · refine iteT ?_
        walk_at "gx"
        exact q2 (fun h => (ex.mp h).ne ht) H1 sm1
      · walk_at "gx"
        refine w_R1 (by omega) (by omega) ?_
        have e1 : ((t.length : Int)).toNat = t.length := by omega
        rw [e1]
        refine lc_R (fun p => [V.bl (decide (rnd t p g ∈ ws))]) (fun _ _ => Nat.le_refl _) (by walk_at "sz") (fun p H2 hp sm2 R hR => ?_) ?_
        · have e2 : ((0 : Int) + (p : Int)) = (p : Int) := by omega
          rw [e2]
          walk_at "gx"
          refine ⟨rfl, ?_⟩
          walk_at "gx"
          refine iteT ?_
          walk_at "gx"
          refine ⟨t, p, g, rfl, ht, htl, by omega, fun H3 sm3 => ?_⟩
          have hR := hR H3 sm3
          have h3 := sm3 _ _ (sm2 _ _ h1)
          walk_at "gx"
          exact hR
        · intro l H2 hl sm2 h2
          rw [flat_one (fun p => V.bl (decide (rnd t p g ∈ ws)))] at h2
          have h3 : H2 l = some (.lst (((List.range t.length).map fun p => decide (rnd t p g ∈ ws)).map V.bl)) := by rw [h2, List.map_map]; rfl
          refine ⟨l, _, rfl, SqL.of h3, ?_⟩
          rw [all_map]
          walk_at "gx"
          cases hb : (List.range t.length).all fun p => decide (rnd t p g ∈ ws) with
          | false =>
            walk_at "gx"
            refine iteT ?_
            walk_at "gx"
            refine q2 (fun h => ?_) H2 (sm1.trans sm2)
            have : ((List.range t.length).all fun p => decide (rnd t p g ∈ ws)) = true := List.all_eq_true.mpr fun p hp => decide_eq_true ((ex.mp h).win p (List.mem_range.mp hp))
            rw [this] at hb; cases hb
          | true =>
            have hwin : ∀ p, p < t.length → rnd t p g ∈ ws := fun p hp => of_decide_eq_true (List.all_eq_true.mp hb p (List.mem_range.mpr hp))
            have hpa2 := sm2 _ _ hpa1
            refine iteF ?_
            walk_at "gx"
            refine lc_U ps sv (fun x => [V.bl (decide (onC t x))]) (fun _ _ => Nat.le_refl _) (by walk_at "sz") hpa2 (fun x H3 hx sm3 R hR => ?_) ?_
            · have hx9 := sh.p9 x hx
              walk_at "gx"
              refine ⟨rfl, ?_⟩
              walk_at "gx"
              refine iteT ?_
              walk_at "gx"
              exact ⟨t, x, rfl, htl, by omega, hR⟩
            · intro l3 H3 hl3 sm3 h3
              rw [flat_one (fun x : T => V.bl (decide (onC t x)))] at h3
              have h4 : H3 l3 = some (.lst ((ps.map fun x => decide (onC t x)).map V.bl)) := by rw [h3, List.map_map]; rfl
              refine ⟨l3, _, rfl, SqL.of h4, ?_⟩
              rw [all_map]
              have sm13 := sm1.trans (sm2.trans sm3)
              cases hb2 : ps.all fun x => decide (onC t x) with
              | true => exact q1 (ex.mpr ⟨ht, hwin, fun x hx => of_decide_eq_true (List.all_eq_true.mp hb2 x hx)⟩) H3 sm13
              | false =>
                refine q2 (fun h => ?_) H3 sm13
                have : (ps.all fun x => decide (onC t x)) = true := List.all_eq_true.mpr fun x hx => decide_eq_true ((ex.mp h).has x hx)
                rw [this] at hb2; cases hb2
    · have hz : ¬ z = txC := hz
      have ex : ExS z ps g t ↔ ExpL ps ws g t := by
        constructor
        · rintro ⟨ws', wn', h⟩
          rw [if_neg hz] at h
          exact h.cg (wn'.eq wn)
        · intro h
          exact ⟨ws, wn, by rw [if_neg hz]; exact h⟩
      walk_at "gx"
      refine w_R1 (by omega) (by omega) ?_
      generalize hn : ((t.length : Int) - (g : Int) + 1).toNat = n
      refine lc_R (fun p => [V.bl (decide ((t.drop p).take g ∈ ws))]) (fun _ _ => Nat.le_refl _) (by rw [sizeLine_eq]; omega) (fun p H2 hp sm2 R hR => ?_) ?_
      · have e2 : ((0 : Int) + (p : Int)) = (p : Int) := by omega
        rw [e2]
        have hR := hR H2 (Same.refl _)
        have h3 := sm2 _ _ h1
        walk_at "gx"
        refine ⟨rfl, ?_⟩
        walk_at "gx"
        refine iteT ?_
        walk_at "gx"
        have e3 : ((p : Int)).toNat = p := by omega
        have e4 : ((p : Int) + (g : Int)).toNat - p = g := by omega
        simp only [e3, e4]
        exact hR
      · intro l H2 hl sm2 h2
        rw [flat_one (fun p => V.bl (decide ((t.drop p).take g ∈ ws)))] at h2
        have h3 : H2 l = some (.lst (((List.range n).map fun p => decide ((t.drop p).take g ∈ ws)).map V.bl)) := by rw [h2, List.map_map]; rfl
        refine ⟨l, _, rfl, SqL.of h3, ?_⟩
        rw [all_map]
        walk_at "gx"
        cases hb : (List.range n).all fun p => decide ((t.drop p).take g ∈ ws) with
        | false =>
          walk_at "gx"
          refine iteT ?_
          walk_at "gx"
          refine q2 (fun h => ?_) H2 (sm1.trans sm2)
          have : ((List.range n).all fun p => decide ((t.drop p).take g ∈ ws)) = true := List.all_eq_true.mpr fun p hp => by
            have := List.mem_range.mp hp
            exact decide_eq_true ((ex.mp h).win p (by omega))
          rw [this] at hb; cases hb
        | true =>
          have hwin : ∀ p, p + g ≤ t.length → (t.drop p).take g ∈ ws := fun p hp => of_decide_eq_true (List.all_eq_true.mp hb p (List.mem_range.mpr (by omega)))
          have hpa2 := sm2 _ _ hpa1
          refine iteF ?_
          walk_at "gx"
          refine lc_U ps sv (fun x => [V.bl (decide (x <:+: t))]) (fun _ _ => Nat.le_refl _) (by walk_at "sz") hpa2 (fun x H3 hx sm3 R hR => ?_) ?_
          · have hR := hR H3 (Same.refl _)
            walk_at "gx"
            refine ⟨rfl, ?_⟩
            walk_at "gx"
            refine iteT ?_
            walk_at "gx"
            exact hR
          · intro l3 H3 hl3 sm3 h3
            rw [flat_one (fun x : T => V.bl (decide (x <:+: t)))] at h3
            have h4 : H3 l3 = some (.lst ((ps.map fun x => decide (x <:+: t)).map V.bl)) := by rw [h3, List.map_map]; rfl
            refine ⟨l3, _, rfl, SqL.of h4, ?_⟩
            rw [all_map]
            have sm13 := sm1.trans (sm2.trans sm3)
            cases hb2 : ps.all fun x => decide (x <:+: t) with
            | true => exact q1 (ex.mpr ⟨hwin, fun x hx => of_decide_eq_true (List.all_eq_true.mp hb2 x hx)⟩) H3 sm13
            | false =>
              refine q2 (fun h => ?_) H3 sm13
              have : (ps.all fun x => decide (x <:+: t)) = true := List.all_eq_true.mpr fun x hx => decide_eq_true ((ex.mp h).has x hx)
              rw [this] at hb2; cases hb2

theorem sc__law_wrong : FnScope ["_law_placed", "_law_text_here", "_law_wrong_here", "_law_start", "_law_piece", "_law_k"] ["_law_placed", "_law_text_here"] (defScope s__law_wrong) := ⟨rfl, rfl, rfl, by decide +kernel, rfl, by decide +kernel, by decide +kernel⟩
def sp__law_wrong : Sp := fun vs H Q _ => ∃ (qa : Addr) (pl : List (Nat × T)) (t : T), vs = [.ref qa, sv t] ∧ PlA H qa pl ∧ PlV pl t.length ∧ ∀ H', Same H H' → Q (iv (wro pl t)) H'
theorem wro_snoc {pl : List (Nat × T)} {q : Nat × T} {t : T} : wro (pl ++ [q]) t = wro pl t + ((List.range q.2.length).filter fun k => !decide (q.2.getD k 0 = t.getD (q.1 + k) 0)).length := by
  unfold wro
  rw [List.map_append, List.sum_append]; simp
theorem ok__law_wrong {P : Program} {w : World} {K : PySem.W.Frag} {mg : Str → Option Value} {base : Heap} (D : Df K mg "_law_wrong" s__law_wrong) (U : Bu mg) : Cl P w K mg base "_law_wrong" 1 ["_law_placed", "_law_text_here"] sp__law_wrong := by
  refine D.cl sc__law_wrong (fun _ _ _ _ _ _ us hl => match us, hl with | [_, _], _ => rfl) (fun vs H Q E h => ?_) (fun cdv f A outer s H vs Q E hr h => ?_)
  · obtain ⟨qa, pl, t, rfl, ⟨vs, hqa, hpr⟩, pv_, q⟩ := h
    rfl
  · obtain ⟨qa, pl, t, rfl, ⟨vs, hqa, hpr⟩, pv_, q⟩ := h
    have hu := hu_of hr
    have hu9 := hu9_of hr
    have hu64 := hu64_of hr
    refine ⟨_, (pss_cons (ps_set (i := 2) sc__law_wrong.nd rfl (Or.inl rfl) pe_int)
 (pss_cons (ps_for PassesOwn.never rfl (pi_tup (pv 0)) (pg_tup (by rfl) (pgs_cons (pg_name (i := 3) sc__law_wrong.nd rfl (Or.inr rfl)) (pgs_cons (pg_name (i := 4) sc__law_wrong.nd rfl (Or.inr rfl)) pgs_nil))) (pss_one (ps_set (i := 2) sc__law_wrong.nd rfl (Or.inl rfl) (pe_op op_add (pv 2) (pe_callB (len_seq (K := K) rfl) (by rfl) U.len (by decide +kernel) (pa_cons (pe_lc (own := [("_law_k", 5)]) (g := (gName 5)) (by rfl) sc__law_wrong.nd (pi_range1 rfl U.rng (pa_cons (pe_callB len_txt (by rfl) U.len (by decide +kernel) (pa_cons (pv 4) pa_nil)) pa_nil)) (blkOk_by (N := ["_law_placed", "_law_text_here", "_law_wrong_here", "_law_start", "_law_piece", "_law_k"]) (sc := defScope s__law_wrong) (by decide +kernel)) (fun _ _ _ _ _ => (pg_name (i := 5) sc__law_wrong.nd rfl (Or.inl rfl))) (fun _ _ _ _ _ => (pts_one (pt_cmpR op_ne (pe_ix ix_txt (pv 4) (pv 5) (fun _ _ => rfl)) (pe_ix ix_txt (pv 1) (pe_op op_add (pv 3) (pv 5)) (fun _ _ => rfl)) (nomark _)))) (fun _ _ _ _ _ => (pv 5))) pa_nil))))))
 (pss_one (ps_ret (pv 2))))), ?_⟩
    have hn9 := pv_.n9
    walk_at "gx"
    refine w_forU (xs := vs) (fun i σ H1 => ∃ v3 v4 v5, σ = [some (.ref qa), some (sv t), some (iv (wro (pl.take i) t)), v3, v4, v5] ∧ Same H H1) ⟨none, none, none, rfl, Same.refl _⟩ (fun i σ H1 _ ⟨_, _, _, _, h⟩ => h _ _ hqa) ?_ ?_
    · rintro i x σ H1 hx ⟨v3, v4, v5, rfl, sm1⟩
      obtain ⟨⟨st, pc⟩, hq, a, rfl, ha⟩ := paired_get hpr hx
      obtain ⟨h1, h2⟩ := pv_.ok _ (List.mem_of_getElem? hq)
      have h2 : st + pc.length ≤ t.length := h2
      have ha1 : H1 a = some (.tup [iv st, sv pc]) := sm1 _ _ ha
      have ht := snoc_take hq
      walk_at "gx"
      refine w_R1 (by omega) (by omega) ?_
      have e1 : ((pc.length : Int)).toNat = pc.length := by omega
      rw [e1]
      refine lc_R (fun k => if (!decide (pc.getD k 0 = t.getD (st + k) 0)) = true then [iv k] else []) (fun _ _ => if_len) (by walk_at "sz") (fun k H2 hk sm2 R hR => ?_) ?_
      · have e2 : ((0 : Int) + (k : Int)) = (k : Int) := by omega
        have e3 : ((st : Int) + (k : Int)) = ((st + k : Nat) : Int) := by omega
        have hR := hR H2 (Same.refl _)
        rw [e2]
        walk_at "gx"
        refine ⟨rfl, ?_⟩
        walk_at "gx"
        refine ⟨pc, _, _, rfl, rfl, by walk_at "sz", atI_getD hk, ?_⟩
        walk_at "gx"
        rw [e3]
        refine ⟨t, _, _, rfl, rfl, by walk_at "sz", atI_getD (by omega), ?_⟩
        walk_at "gx"
        refine iteN (fun e => ?_) (fun e => ?_)
        · rw [if_pos (by simpa using e)] at hR
          walk_at "gx"
          exact hR
        · rw [if_neg (by simpa using e)] at hR
          exact hR
      · intro l H2 hl sm2 h2
        rw [flat_if (fun k => !decide (pc.getD k 0 = t.getD (st + k) 0)) iv] at h2
        walk_at "gx"
        have ev : V.int ((wro (pl.take i) t : Nat) + ((((List.range pc.length).filter fun k => !decide (pc.getD k 0 = t.getD (st + k) 0)).map iv).length : Int)) = iv (wro (pl.take (i + 1)) t) := by
          rw [ht, wro_snoc, List.length_map]; rfl
        rw [ev]
        exact ⟨_, _, _, rfl, sm1.trans sm2⟩
    · rintro σ H1 ⟨v3, v4, v5, rfl, sm1⟩
      have : vs.length = pl.length := Paired.length hpr
      rw [this, List.take_length]
      walk_at "gx"
      exact q H1 sm1

theorem sc__law_alphabet : FnScope ["_law_d", "_law_signs", "_law_k"] ["_law_d", "_law_signs"] (defScope s__law_alphabet) := ⟨rfl, rfl, rfl, by decide +kernel, rfl, by decide +kernel, by decide +kernel⟩
def sp__law_alphabet : Sp := fun vs H Q _ => ∃ (d : V) (sg : T), vs = [d, sv sg] ∧ sg ≠ [] ∧ sg.Nodup ∧ sg.length ≤ 10 ∧ ∀ (al : T) (H' : Hp), AlV al → (∀ c ∈ sg, c ∈ al) → Same H H' → Q (sv al) H'
theorem sing_lt {a b : Nat} : ([a] : T) < [b] ↔ a < b := by
  rw [List.cons_lt_cons_iff]
  constructor
  · rintro (h | ⟨_, h⟩)
    · exact h
    · exact absurd h (List.lt_irrefl [])
  · exact .inl
theorem rising_al : ∀ {al : T}, Rising (al.map fun c => [c]) → al.Nodup → ∀ k, 1 ≤ k → k < al.length → ([al.getD (k - 1) 0] : T) < [al.getD k 0]
  | [], _, _, k, _, h => by simp at h
  | [_], _, _, k, h1, h => by simp at h; omega
  | a :: b :: r, h, hn, k, h1, h2 => by
    obtain ⟨n1, n2⟩ := List.nodup_cons.mp hn
    obtain ⟨r1, r2⟩ := (show ¬ ([b] : T) < [a] ∧ Rising ((b :: r).map fun c => [c]) from h)
    by_cases e : k = 1
    · subst e
      rw [sing_lt] at r1 ⊢
      have hne : a ≠ b := fun e => n1 (e ▸ List.mem_cons_self)
      show a < b
      omega
    · obtain ⟨j, rfl⟩ : ∃ j, k = j + 2 := ⟨k - 2, by omega⟩
      have := rising_al r2 n2 (j + 1) (by omega) (by simpa using h2)
      exact this
theorem perm_sing {us : List T} {sg : T} (h : us.Perm (sg.map fun c => [c])) : us = us.flatten.map fun c => [c] := by
  have : ∀ us : List T, (∀ u ∈ us, ∃ c, u = [c]) → us = us.flatten.map fun c => [c] := by
    intro us
    induction us with
    | nil => intro _; rfl
    | cons u us ih =>
      intro h
      obtain ⟨c, rfl⟩ := h u List.mem_cons_self
      show [c] :: us = [c] :: (us.flatten.map fun c => [c])
      rw [← ih fun u hu => h u (List.mem_cons_of_mem _ hu)]
  refine this us fun u hu => ?_
  obtain ⟨c, _, e⟩ := List.mem_map.mp (h.mem_iff.mp hu)
  exact ⟨c, e.symm⟩
theorem ok__law_alphabet {P : Program} {w : World} {K : PySem.W.Frag} {mg : Str → Option Value} {base : Heap} (D : Df K mg "_law_alphabet" s__law_alphabet) (U : Bu mg) : Cl P w K mg base "_law_alphabet" 1 ["_law_d", "_law_signs"] sp__law_alphabet := by
  refine D.cl sc__law_alphabet (fun _ _ _ _ _ _ us hl => match us, hl with | [_, _], _ => rfl) (fun vs H Q E h => ?_) (fun cdv f A outer s H vs Q E hr h => ?_)
  · obtain ⟨d, sg, rfl, hsg0, hsgn, hsg10, q⟩ := h
    rfl
  · obtain ⟨d, sg, rfl, hsg0, hsgn, hsg10, q⟩ := h
    have hu := hu_of hr
    have hu9 := hu9_of hr
    have hu64 := hu64_of hr
    refine ⟨_, (pss_one (ps_ret (pe_joinT (K := K) rfl (pe_txt (t := []) (by decide +kernel)) (pe_callB (sort_txt (K := K) rfl) (by rfl) U.srt (by decide +kernel) (pa_cons (pe_lc (own := [("_law_k", 2)]) (g := (gName 2)) (by rfl) sc__law_alphabet.nd (pi_range1 rfl U.rng (pa_cons (pe_callB len_txt (by rfl) U.len (by decide +kernel) (pa_cons (pv 1) pa_nil)) pa_nil)) (blkOk_by (N := ["_law_d", "_law_signs", "_law_k"]) (sc := defScope s__law_alphabet) (by decide +kernel)) (fun _ _ _ _ _ => (pg_name (i := 2) sc__law_alphabet.nd rfl (Or.inl rfl))) (fun _ _ _ _ _ => (pts_one (pt_cmpR op_niC (pe_ix ix_txt (pv 1) (pv 2) (fun _ _ => rfl)) (pe_slice sl_txt1 (pv 1) po_none (po_some (pv 2))) (by rfl)))) (fun _ _ _ _ _ => (pe_ix ix_txt (pv 1) (pv 2) (fun _ _ => rfl)))) pa_nil))))), ?_⟩
    walk_at "gx"
    refine w_R1 (by omega) (by omega) ?_
    have e1 : ((sg.length : Int)).toNat = sg.length := by omega
    rw [e1]
    refine lc_R (fun k => [c1 (sg.getD k 0)]) (fun _ _ => Nat.le_refl _) (by walk_at "sz") (fun k H2 hk sm2 R hR => ?_) ?_
    · have e2 : ((0 : Int) + (k : Int)) = (k : Int) := by omega
      have hR := hR H2 (Same.refl _)
      rw [e2]
      walk_at "gx"
      refine ⟨rfl, ?_⟩
      walk_at "gx"
      refine ⟨sg, _, _, rfl, rfl, by walk_at "sz", atI_getD hk, ?_⟩
      walk_at "gx"
      have e3 : ((k : Int)).toNat = k := by omega
      simp only [e3]
      refine iteNt (not_take hsgn (by rw [List.getD_eq_getElem?_getD, List.getElem?_eq_getElem hk]; rfl)) ?_
      walk_at "gx"
      exact ⟨sg, _, _, rfl, rfl, by walk_at "sz", atI_getD hk, hR⟩
    · intro l H2 hl sm2 h2
      rw [flat_one (fun k => c1 (sg.getD k 0))] at h2
      have e4 : (List.range sg.length).map (fun k => sg.getD k 0) = sg := by
        apply List.ext_getElem
        · simp
        · intro i h1 h2
          simp only [List.length_map, List.length_range] at h1
          simp [h1]
      have h3 : H2 l = some (.lst ((sg.map fun c => [c]).map sv)) := by
        have := congrArg (List.map c1) e4
        rw [List.map_map] at this
        rw [h2, List.map_map]
        exact congrArg (fun l => some (HO.lst l)) this
      walk_at "gx"
      refine w_sortT h3 (by rw [List.length_map]; omega) fun us hperm hris => ?_
      intro l2 H3 hl2 sm3 h4
      have e5 := perm_sing hperm
      have hfl : us.flatten.Perm sg := by
        have := hperm.flatten
        rwa [flat_sing] at this
      refine w_joinL h4 ?_ ?_
      · rw [hfl.length_eq]; omega
      · have hnd : us.flatten.Nodup := hfl.nodup_iff.mpr hsgn
        rw [e5] at hris
        refine q us.flatten H3 ⟨fun e => hsg0 ?_, by rw [hfl.length_eq]; omega, rising_al hris hnd⟩ (fun c hc => hfl.mem_iff.mpr hc) (sm2.trans sm3)
        have := hfl.length_eq
        rw [e] at this
        exact List.length_eq_zero_iff.mp this.symm

theorem sc__law_many : FnScope ["_law_d", "_law_size", "_law_signs", "_law_truth", "_law_placed", "_law_wrong_here", "_law_k", "_law_start", "_law_piece", "_law_at"] ["_law_d", "_law_size", "_law_signs", "_law_truth"] (defScope s__law_many) := ⟨rfl, rfl, rfl, by decide +kernel, rfl, by decide +kernel, by decide +kernel⟩
def sp__law_many : Sp := fun vs H Q _ => ∃ (d dl : Addr) (n : Nat) (sg t : T), vs = [.ref d, iv n, sv sg, sv t] ∧ DA H d dl ∧ t.length = n ∧ 1 ≤ n ∧ n ≤ 9 ∧ sg ≠ [] ∧ sg.length < 1000 ∧
  ∀ (r : Addr) (pl : List (Nat × T)) (H' : Hp), Sx H H' d → DA H' d dl → PlA H' r pl → (∀ q ∈ pl, q.2 ≠ [] ∧ q.1 + q.2.length ≤ n) → pl.length ≤ 7 → Q (.ref r) H'
theorem DA.kp {H H' : Hp} {d dl : Addr} (h : DA H d dl) (sx : Sx H H' d) : Kp H H' := by
  obtain ⟨ns, a, b, s, h1, _⟩ := h
  exact sx.kp h1 fun _ z => nomatch z
abbrev PlP (H : Hp) (vs : List V) (pl : List (Nat × T)) : Prop := Paired (fun v q => ∃ a, v = V.ref a ∧ H a = some (.tup [iv q.1, sv q.2])) vs pl
/-- while the pieces are made -/
structure MnI (H H2 : Hp) (d dl l : Addr) (n i : Nat) (vs : List V) (pl : List (Nat × T)) : Prop where
  sx : Sx H H2 d
  da : DA H2 d dl
  hl : H2 l = some (.lst vs)
  hn : H l = none
  pr : PlP H2 vs pl
  ok : ∀ q ∈ pl, q.2 ≠ [] ∧ q.1 + q.2.length ≤ n
  len : vs.length ≤ i
theorem MnI.add {H H2 H6 H7 : Hp} {d dl l p : Addr} {n i st : Nat} {vs : List V} {pl : List (Nat × T)} {pc : T} (m : MnI H H2 d dl l n i vs pl) (hd : H d ≠ none) (hdl : H dl ≠ none) (sx6 : Sx H2 H6 d) (da6 : DA H6 d dl) (h0 : pc ≠ []) (h1 : st + pc.length ≤ n) (sm : Same H6 H7) (hp : H7 p = some (.tup [iv st, sv pc])) :
    MnI H (upd H7 l (.lst (vs ++ [.ref p]))) d dl l n (i + 1) (vs ++ [.ref p]) (pl ++ [(st, pc)]) := by
  have hld : l ≠ d := fun e => hd (e ▸ m.hn)
  have hldl : l ≠ dl := fun e => hdl (e ▸ m.hn)
  have hl7 : H7 l = some (.lst vs) := sm _ _ (sx6 _ _ m.hl hld)
  have kp : Kp H7 (upd H7 l (.lst (vs ++ [.ref p]))) := Kp.lst hl7
  have kp2 : Kp H2 H7 := (m.da.kp sx6).trans (sm_kp sm)
  refine ⟨fun c o hc e => ?_, (da6.same sm).upd hld hldl, upd_same, m.hn, ?_, fun q hq => ?_, by rw [List.length_append]; simp only [List.length_singleton]; have := m.len; omega⟩
  · rw [upd_ne (fun z => by rw [z, m.hn] at hc; cases hc)]
    exact sm _ _ (sx6 _ _ (m.sx _ _ hc e) e)
  · exact Paired.snoc (Paired.mapP m.pr fun _ _ ⟨a, e, h⟩ => ⟨a, e, kp _ _ (kp2 _ _ h)⟩) ⟨p, rfl, kp _ _ hp⟩
  · rcases List.mem_append.mp hq with h | h
    · exact m.ok q h
    · simp only [List.mem_singleton] at h; subst h; exact ⟨h0, h1⟩
theorem ok__law_many {P : Program} {w : World} {K : PySem.W.Frag} {mg : Str → Option Value} {base : Heap} (D : Df K mg "_law_many" s__law_many) (U : Bu mg) (C__law_take : Cl P w K mg base "_law_take" 1 ["_law_d", "_law_many_here"] sp__law_take) : Cl P w K mg base "_law_many" 2 ["_law_d", "_law_size", "_law_signs", "_law_truth"] sp__law_many := by
  refine D.cl sc__law_many (fun _ _ _ _ _ _ us hl => match us, hl with | [_, _, _, _], _ => rfl) (fun vs H Q E h => ?_) (fun cdv f A outer s H vs Q E hr h => ?_)
  · obtain ⟨d, dl, n, sg, t, rfl, hda, htn, hn1, hn9, hsg0, hsg, q⟩ := h
    rfl
  · obtain ⟨d, dl, n, sg, t, rfl, hda, htn, hn1, hn9, hsg0, hsg, q⟩ := h
    have hu := hu_of hr
    have hu9 := hu9_of hr
    have hu64 := hu64_of hr
    refine ⟨_, (pss_cons (ps_set (i := 4) sc__law_many.nd rfl (Or.inl rfl) (pe_lst pa_nil))
 (pss_cons (ps_set (i := 5) sc__law_many.nd rfl (Or.inl rfl) pe_int)
 (pss_cons (ps_for PassesOwn.never rfl (pi_range1 rfl U.rng (pa_cons (pe_op op_add pe_int (pcall C__law_take hr (pa_cons (pv 0) (pa_cons pe_int pa_nil)))) pa_nil)) (pg_name (i := 6) sc__law_many.nd rfl (Or.inl rfl)) (pss_cons (ps_set (i := 7) sc__law_many.nd rfl (Or.inl rfl) (pcall C__law_take hr (pa_cons (pv 0) (pa_cons (pv 1) pa_nil))))
 (pss_cons (ps_set (i := 8) sc__law_many.nd rfl (Or.inl rfl) (pe_slice sl_txt1 (pv 3) (po_some (pv 7)) (po_some (pe_op op_add (pe_op op_add (pv 7) pe_int) (pcall C__law_take hr (pa_cons (pv 0) (pa_cons pe_int pa_nil)))))))
 (pss_cons (ps_if (pt_cmpR op_eq (pcall C__law_take hr (pa_cons (pv 0) (pa_cons pe_int pa_nil))) pe_int (nomark _)) (pss_cons (ps_set (i := 9) sc__law_many.nd rfl (Or.inl rfl) (pcall C__law_take hr (pa_cons (pv 0) (pa_cons (pe_callB len_txt (by rfl) U.len (by decide +kernel) (pa_cons (pv 8) pa_nil)) pa_nil))))
 (pss_one (ps_set (i := 8) sc__law_many.nd rfl (Or.inl rfl) (pe_op op_addT (pe_op op_addT (pe_slice sl_txt1 (pv 8) po_none (po_some (pv 9))) (pe_ix ix_txt (pv 2) (pcall C__law_take hr (pa_cons (pv 0) (pa_cons (pe_callB len_txt (by rfl) U.len (by decide +kernel) (pa_cons (pv 2) pa_nil)) pa_nil))) (fun _ _ => rfl))) (pe_slice sl_txt1 (pv 8) (po_some (pe_op op_add (pv 9) pe_int)) po_none))))) pss_nil)
 (pss_one (ps_expr (pe_bm PySem.F.plainAttrs_list PySem.F.slot_list_append PySem.F.type_list_append mt_append (pv 4) (pa_cons (pe_tup (pa_cons (pv 7) (pa_cons (pv 8) pa_nil))) pa_nil))))))))
 (pss_one (ps_ret (pe_callTy (tup_of (K := K) rfl) (by rfl) U.tpl (by decide +kernel) (pa_cons (pv 4) pa_nil))))))), ?_⟩
    have hsgp := List.length_pos_iff.mpr hsg0
    have hdN : H d ≠ none := by obtain ⟨_, _, _, _, h, _⟩ := hda; rw [h]; exact fun z => nomatch z
    have hdlN : H dl ≠ none := by obtain ⟨_, _, _, _, _, h, _⟩ := hda; rw [h]; exact fun z => nomatch z
    walk_at "gx"
    intro l H1 hl sm1 h1
    walk_at "gx"
    refine ⟨d, dl, 6, rfl, hda.same sm1, by decide, by decide, fun k0 H2 hk0 sx2 hda2 => ?_⟩
    have hld : l ≠ d := fun e => hdN (e ▸ hl)
    have sx02 : Sx H H2 d := fun c o hc e => sx2 _ _ (sm1 _ _ hc) e
    walk_at "gx"
    refine w_R1 (by omega) (by omega) ?_
    have e1 : ((2 : Int) + (k0 : Int)).toNat = 2 + k0 := by omega
    rw [e1]
    refine w_forR (fun i σ H3 => ∃ v6 v7 v8 v9 vs pl, σ = [some (.ref d), some (iv n), some (sv sg), some (sv t), some (.ref l), some (.int 0), v6, v7, v8, v9] ∧ MnI H H3 d dl l n i vs pl) ⟨none, none, none, none, [], [], rfl, sx02, hda2, sx2 _ _ h1 hld, hl, .nil, fun _ h => (by cases h), Nat.le_refl _⟩ ?_ ?_
    · rintro i σ H3 hi ⟨v6, v7, v8, v9, vs, pl, rfl, mi⟩
      walk_at "gx"
      refine ⟨d, dl, n, rfl, mi.da, hn1, by omega, fun st H4 hst sx4 hda4 => ?_⟩
      walk_at "gx"
      refine ⟨d, dl, 6, rfl, hda4, by decide, by decide, fun k5 H5 hk5 sx5 hda5 => ?_⟩
      have hpc1 : 1 ≤ ((t.drop ((st : Int)).toNat).take (((st : Int) + 1 + (k5 : Int)).toNat - ((st : Int)).toNat)).length := by rw [List.length_take, List.length_drop]; omega
      have hpc2 : st + ((t.drop ((st : Int)).toNat).take (((st : Int) + 1 + (k5 : Int)).toNat - ((st : Int)).toNat)).length ≤ n := by rw [List.length_take, List.length_drop]; omega
      walk_at "gx"
      generalize (t.drop ((st : Int)).toNat).take (((st : Int) + 1 + (k5 : Int)).toNat - ((st : Int)).toNat) = pc at *
      refine ⟨d, dl, 5, rfl, hda5, by decide, by decide, fun k6 H6 hk6 sx6 hda6 => ?_⟩
      have sx36 : Sx H3 H6 d := (sx4.trans sx5).trans sx6
      have hl6 := sx36 _ _ mi.hl hld
      have hvl := mi.len
      walk_at "gx"
      refine iteD (fun e => ?_) (fun e => ?_)
      · walk_at "gx"
        refine ⟨d, dl, pc.length, rfl, hda6, hpc1, by omega, fun at_ H7 hat sx7 hda7 => ?_⟩
        walk_at "gx"
        refine ⟨d, dl, sg.length, rfl, hda7, hsgp, hsg, fun k8 H8 hk8 sx8 hda8 => ?_⟩
        refine ⟨sg, (k8 : Int), sg.getD k8 0, rfl, rfl, by walk_at "sz", atI_getD hk8, ?_⟩
        have hone : ([sg.getD k8 0] : T).length = 1 := rfl
        have hla : (pc.take ((at_ : Int)).toNat).length = at_ := by rw [List.length_take]; omega
        have hlb : (pc.drop (((at_ : Int) + 1)).toNat).length = pc.length - (at_ + 1) := by rw [List.length_drop]; omega
        have hz : (pc.take ((at_ : Int)).toNat ++ [sg.getD k8 0]).length = at_ + 1 := by rw [List.length_append]; omega
        have sx68 : Sx H3 H8 d := (sx36.trans sx7).trans sx8
        have hl8 := sx68 _ _ mi.hl hld
        walk_at "gx"
        intro p H9 hp sm9 h9
        have hl9 := sm9 _ _ hl8
        have hvs : vs.length < sizeLine := by rw [sizeLine_eq]; omega
        walk_at "gx"
        refine ⟨_, _, _, _, _, _, rfl, mi.add hdN hdlN sx68 hda8 ?_ ?_ sm9 h9⟩
        · intro e
          have := congrArg List.length e
          rw [List.length_append] at this
          simp only [List.length_nil] at this
          omega
        · rw [List.length_append]; omega
      · walk_at "gx"
        intro p H9 hp sm9 h9
        have hl9 := sm9 _ _ hl6
        have hvs : vs.length < sizeLine := by rw [sizeLine_eq]; omega
        walk_at "gx"
        exact ⟨_, _, _, _, _, _, rfl, mi.add hdN hdlN sx36 hda6 (List.length_pos_iff.mp hpc1) hpc2 sm9 h9⟩
    · rintro σ H3 ⟨v6, v7, v8, v9, vs, pl, rfl, mi⟩
      have hl3 := mi.hl
      walk_at "gx"
      intro r H4 hr sm4 h4
      have hvl := mi.len
      have hpl : vs.length = pl.length := Paired.length mi.pr
      refine q r pl H4 (fun c o hc e => sm4 _ _ (mi.sx _ _ hc e)) (mi.da.same sm4) ⟨vs, h4, Paired.mapP mi.pr fun _ _ ⟨a, e, h⟩ => ⟨a, e, sm4 _ _ h⟩⟩ mi.ok (by omega)

theorem sc_law : FnScope ["_law_script", "_law_d", "_law_signs", "_law_shape", "_law_grain", "_law_truth", "_law_size", "_law_placed", "_law_budget", "_law_report", "_law_p", "_law_good", "_law_strand", "_law_answer", "_law_held", "_law_told", "_law_one", "_law_start", "_law_piece"] ["_law_script"] (defScope s_law) := ⟨rfl, rfl, rfl, by decide +kernel, rfl, by decide +kernel, by decide +kernel⟩
def sp_law (K : PySem.W.Frag) : Sp := fun vs H Q _ => ∃ (a : Addr) (ns : List Int), vs = [.ref a] ∧ SqL K H a (ns.map V.int) ∧ ns.length ≤ 1000 ∧ ∀ H', Q (.bl true) H'
def tIfT (t ta tb : TT) : TT := fun σ H Q => t σ H fun d H1 => if d = true then ta σ H1 Q else tb σ H1 Q
theorem pt_ifE {X : Cx} {a b c : Expr} {pos : Pos} {tA tB' tC' : TT} (hc : PT X c tA) (ha : PT X a tB') (hb : PT X b tC') : PT X (.IfExp c a b pos) (tIfT tA tB' tC') := by
  refine ⟨fun pins s σ H Q I h => ?_⟩
  refine isTrue_IfExp (thn (hc.run pins s σ H _ I h) fun d s1 ⟨H1, I1, q1⟩ => ?_)
  cases d with
  | true => exact ha.run pins s1 σ H1 Q I1 q1
  | false => exact hb.run pins s1 σ H1 Q I1 q1
theorem w_ifT {t ta tb : TT} {σ : L2.St} {H : Hp} {P : Bool → Hp → Prop} (h : t σ H fun d H1 => if d = true then ta σ H1 P else tb σ H1 P) : tIfT t ta tb σ H P := h
theorem w_meth {C : Addr} {m : Str} {sp : Sp} {E : XK} {ta : TE} {t : TA} {σ : L2.St} {H : Hp} {Q : VK} (h : ta σ H fun x H1 => ∃ a dx fs, x = V.ref a ∧ H1 a = some (.ins C dx fs) ∧ fs.lookup m = none ∧ t σ H1 fun vs H2 => sp (x :: (vs ++ [])) H2 Q E) : tMeth C m sp [] E ta t σ H Q := h
theorem w_ifB {t : TT} {ta tb : TE} {σ : L2.St} {H : Hp} {Q : VK} (S : Bool → Prop) (h : ∀ b H', Same H H' → S b → Q (.bl b) H') (k : (∀ b H', Same H H' → S b → Q (.bl b) H') → tIf t ta tb σ H Q) : tIf t ta tb σ H Q := k h
theorem iteFf {A B : Prop} (h : B) : if false = true then A else B := by rw [if_neg (by decide)]; exact h
theorem explains_b {vs : List V} {H : Hp} {Q : VK} {E : XK} (pa : Addr) (ps : List T) (g : Nat) (t z : T) (e : vs = [.ref pa, iv g, sv t, sv z]) (hpa : H pa = some (.tup (ps.map sv))) (sh : Sh ps g) (hl : t.length ≤ 16000000)
    (h : ∀ b : Bool, (b = true → ExS z ps g t) → (ExS z ps g t → b = true) → ∀ H', Same H H' → Q (.bl b) H') : sp__law_explains vs H Q E :=
  ⟨pa, ps, g, t, z, e, hpa, sh, hl, fun k => h true (fun _ => k) fun _ => rfl, fun k => h false (fun z => by cases z) fun z => absurd z k⟩
theorem dp_txt {K : PySem.W.Frag} {H : Hp} : ∀ ts : List T, DpAll K H (ts.map sv) (ts.map fun t => PyData.str (stT t))
  | [] => .nil
  | t :: ts => .cons (.str _) (dp_txt ts)
theorem ok_txt : ∀ ts : List T, (∀ t ∈ ts, ∀ c ∈ t, c < 1114112) → PyData.canLayAll0 (ts.map fun t => PyData.str (stT t)) = true
  | [], _ => rfl
  | t :: ts, h => by
    show (PyData.strOk (stT t) && _) = true
    rw [Bool.and_eq_true]
    refine ⟨?_, ok_txt ts fun u hu => h u (List.mem_cons_of_mem _ hu)⟩
    show t.toArray.all _ = true
    rw [List.all_toArray, List.all_eq_true]
    intro c hc
    exact decide_eq_true (h t List.mem_cons_self c hc)
theorem dep_txt : ∀ ts : List T, PyData.depthAll (ts.map fun t => PyData.str (stT t)) = 0
  | [] => rfl
  | t :: ts => by
    show max (PyData.depth (.str (stT t))) (PyData.depthAll (ts.map fun t => PyData.str (stT t))) = 0
    rw [dep_txt ts]; rfl
theorem w_neSame {K : PySem.W.Frag} {H : Hp} {Q : VK} {a b : Addr} {ts : List T} (ha : H a = some (.tup (ts.map sv))) (hb : H b = some (.tup (ts.map sv))) (hc : ∀ t ∈ ts, ∀ c ∈ t, c < 1114112) (q : Q (.bl false) H) : rNeD K (.ref a) (.ref b) H Q := by
  have h1 : (PyData.tuple (ts.map fun t => PyData.str (stT t))).canLay0 = true := ok_txt ts hc
  have h2 : SeqAt.shaped (PyData.tuple (ts.map fun t => PyData.str (stT t))) = true := by
    unfold SeqAt.shaped
    rw [h1, Bool.true_and]
    refine decide_eq_true ?_
    show PyData.depthAll _ + 1 ≤ 64
    rw [dep_txt]; decide
  refine ⟨_, _, .tup (SqT.of ha) (dp_txt ts), .tup (SqT.of hb) (dp_txt ts), h2, h2, ?_⟩
  rw [SeqAt.eqv_refl _ h1]
  exact q
theorem getD_range {f : Nat → Nat} {n p : Nat} (h : p < n) : ((List.range n).map f).getD p 0 = f p := by
  rw [List.getD_eq_getElem?_getD, List.getElem?_map, List.getElem?_range h]; rfl
theorem eq_range {t : T} {f : Nat → Nat} (h : ∀ p, p < t.length → f p = t.getD p 0) : (List.range t.length).map f = t := by
  apply List.ext_getElem
  · simp
  · intro i h1 h2
    simp only [List.getElem_map, List.getElem_range]
    rw [h i h2, List.getD_eq_getElem?_getD, List.getElem?_eq_getElem h2]; rfl
theorem signs_at : ∀ k, k < 4 → ∃ sg : T, ([sv [97, 98], sv [97, 98, 99], sv [98], sv [122, 120]] : List V)[k]? = some (sv sg) ∧ sg ≠ [] ∧ sg.Nodup ∧ sg.length ≤ 10 ∧ ∀ c ∈ sg, c < 1114112
  | 0, _ => ⟨[97, 98], rfl, by decide, by decide, by decide, by decide⟩
  | 1, _ => ⟨[97, 98, 99], rfl, by decide, by decide, by decide, by decide⟩
  | 2, _ => ⟨[98], rfl, by decide, by decide, by decide, by decide⟩
  | 3, _ => ⟨[122, 120], rfl, by decide, by decide, by decide, by decide⟩
  | k + 4, h => absurd h (by omega)
theorem shape_at : ∀ k, k < 2 → ∃ z : T, ([sv [99, 105, 114, 99, 108, 101], sv [108, 105, 110, 101]] : List V)[k]? = some (sv z) ∧ (z = txC ∨ z = txL)
  | 0, _ => ⟨txC, rfl, .inl rfl⟩
  | 1, _ => ⟨txL, rfl, .inr rfl⟩
  | k + 2, h => absurd h (by omega)
/-- the placed pieces with their places -/
theorem PlA.zip {H : Hp} {qa : Addr} {pl : List (Nat × T)} (h : PlA H qa pl) : ∃ zs : List (Addr × (Nat × T)), H qa = some (.tup (zs.map fun b => V.ref b.1)) ∧ pl = zs.map (·.2) ∧ ∀ b ∈ zs, H b.1 = some (.tup [iv b.2.1, sv b.2.2]) := by
  obtain ⟨vs, h1, h2⟩ := h
  have : ∃ zs : List (Addr × (Nat × T)), vs = zs.map (fun b => V.ref b.1) ∧ pl = zs.map (·.2) ∧ ∀ b ∈ zs, H b.1 = some (.tup [iv b.2.1, sv b.2.2]) := by
    clear h1
    induction h2 with
    | nil => exact ⟨[], rfl, rfl, fun _ h => by cases h⟩
    | @cons v q vs pl hd _ ih =>
      obtain ⟨zs, e1, e2, e3⟩ := ih
      obtain ⟨a, rfl, ha⟩ := hd
      refine ⟨(a, q) :: zs, by rw [e1]; rfl, by rw [e2]; rfl, fun b hb => ?_⟩
      rcases List.mem_cons.mp hb with rfl | hb
      · exact ha
      · exact e3 b hb
  obtain ⟨zs, e1, e2, e3⟩ := this
  exact ⟨zs, e1 ▸ h1, e2, e3⟩
theorem PlA.unzip {H : Hp} {qa : Addr} {zs : List (Addr × (Nat × T))} (h : H qa = some (.tup (zs.map fun b => V.ref b.1))) (k : ∀ b ∈ zs, H b.1 = some (.tup [iv b.2.1, sv b.2.2])) : PlA H qa (zs.map (·.2)) := by
  refine ⟨_, h, ?_⟩
  clear h
  induction zs with
  | nil => exact .nil
  | cons b zs ih => exact .cons ⟨b.1, rfl, k b List.mem_cons_self⟩ (ih fun c hc => k c (List.mem_cons_of_mem _ hc))
theorem w_catA1 {K : PySem.W.Frag} {H : Hp} {Q : VK} {a b : Addr} {xs : List V} {y : V} (ha : H a = some (.tup xs)) (hb : H b = some (.tup [y])) (hz : xs.length + 1 ≤ sizeLine) (q : ∀ p H', Same H H' → H' p = some (.tup (xs ++ [y])) → Q (.ref p) H') : rCatA K (.ref a) (.ref b) H Q := by
  refine ⟨a, b, xs, [y], rfl, rfl, SqT.of ha, SqT.of hb, hz, fun e => ?_, fun _ e => (by cases e), fun _ _ p hp => q p _ (sm_new hp) upd_same⟩
  subst e
  exact q b H (Same.refl _) hb
theorem w_slA7 {K : PySem.W.Frag} {H : Hp} {Q : VK} {a : Addr} {xs : List V} (ha : H a = some (.tup xs)) (hz : xs.length ≤ 7) (q : Q (.ref a) H) : rSlA K (.ref a) none (some 7) H Q := by
  refine ⟨a, xs, rfl, SqT.of ha, fun _ => q, fun h => absurd ?_ h⟩
  rw [HT.sIx_none]
  refine ⟨rfl, ?_⟩
  have := HT.sIx_nat xs.length xs.length 7
  rw [show ((7 : Int)) = ((7 : Nat) : Int) from rfl, this]
  exact Nat.min_eq_right hz
theorem ok_law {P : Program} {w : World} {K : PySem.W.Frag} {mg : Str → Option Value} {base : Heap} {f : Addr} {fd : FuncData} (D : FunD K "law" "law" (defArgs s_law) (defBody s_law) (defScope s_law) [] [] f fd) (U : Bu mg) {C fI fP : Addr} (R : Rp K mg C fI fP) (G_paper : ClM P w K mg base 8 fP ["self", "strand"] (sp_Report_paper C)) (C__law_alphabet : Cl P w K mg base "_law_alphabet" 1 ["_law_d", "_law_signs"] sp__law_alphabet) (C__law_begin : Cl P w K mg base "_law_begin" 1 ["_law_script"] (sp__law_begin K)) (C__law_explains : Cl P w K mg base "_law_explains" 3 ["_law_pieces", "_law_grain", "_law_text_here", "_law_shape"] sp__law_explains) (C__law_many : Cl P w K mg base "_law_many" 2 ["_law_d", "_law_size", "_law_signs", "_law_truth"] sp__law_many) (C__law_on_circle : Cl P w K mg base "_law_on_circle" 2 ["_law_circle", "_law_word"] sp__law_on_circle) (C__law_rich : Cl P w K mg base "_law_rich" 3 ["_law_d", "_law_signs", "_law_size"] sp__law_rich) (C__law_take : Cl P w K mg base "_law_take" 1 ["_law_d", "_law_many_here"] sp__law_take) (C__law_wrong : Cl P w K mg base "_law_wrong" 1 ["_law_placed", "_law_text_here"] sp__law_wrong) (C_assemble : Cl P w K mg base "assemble" 9 ["size", "placed_pieces", "alphabet", "budget", "grain", "shape"] (sp_assemble C)) : FnOk P w K mg base CX0 10 f fd ["_law_script"] (sp_law K) := by
  refine fnL D sc_law (fun vs H Q E h => ?_) (fun cdv A outer s H vs Q E hr h => ?_)
  · obtain ⟨a, ns, rfl, ha, hn, q⟩ := h
    rfl
  · obtain ⟨a, ns, rfl, ha, hn, q⟩ := h
    have hu := hu_of hr
    have hu9 := hu9_of hr
    have hu64 := hu64_of hr
    refine ⟨_, (pss_cons (ps_set (i := 1) sc_law.nd rfl (Or.inl rfl) (pcall C__law_begin hr (pa_cons (pv 0) pa_nil)))
 (pss_cons (ps_set (i := 2) sc_law.nd rfl (Or.inl rfl) (pe_ix ix_tup (pe_tup (pa_cons (pe_txt (t := [97, 98]) (by decide +kernel)) (pa_cons (pe_txt (t := [97, 98, 99]) (by decide +kernel)) (pa_cons (pe_txt (t := [98]) (by decide +kernel)) (pa_cons (pe_txt (t := [122, 120]) (by decide +kernel)) pa_nil))))) (pcall C__law_take hr (pa_cons (pv 1) (pa_cons pe_int pa_nil))) (fun _ _ => rfl)))
 (pss_cons (ps_set (i := 3) sc_law.nd rfl (Or.inl rfl) (pe_ix ix_tup (pe_tup (pa_cons (pe_txt (t := [99, 105, 114, 99, 108, 101]) (by decide +kernel)) (pa_cons (pe_txt (t := [108, 105, 110, 101]) (by decide +kernel)) pa_nil))) (pcall C__law_take hr (pa_cons (pv 1) (pa_cons pe_int pa_nil))) (fun _ _ => rfl)))
 (pss_cons (ps_set (i := 4) sc_law.nd rfl (Or.inr rfl) (pe_op op_add pe_int (pcall C__law_take hr (pa_cons (pv 1) (pa_cons pe_int pa_nil)))))
 (pss_cons (ps_set (i := 5) sc_law.nd rfl (Or.inr rfl) (pcall C__law_rich hr (pa_cons (pv 1) (pa_cons (pv 2) (pa_cons (pe_op op_add (pv 4) (pcall C__law_take hr (pa_cons (pv 1) (pa_cons pe_int pa_nil)))) pa_nil)))))
 (pss_cons (ps_set (i := 6) sc_law.nd rfl (Or.inl rfl) (pe_callB len_txt (by rfl) U.len (by decide +kernel) (pa_cons (pv 5) pa_nil)))
 (pss_cons (ps_set (i := 7) sc_law.nd rfl (Or.inl rfl) (pe_op op_catA (pe_slice sl_tupA (pe_callTy (tup_of (K := K) rfl) (by rfl) U.tpl (by decide +kernel) (pa_cons (pe_lc (own := [("_law_one", 16)]) (g := (gName 16)) (by rfl) sc_law.nd (pi_tup (pcall C__law_many hr (pa_cons (pv 1) (pa_cons (pv 6) (pa_cons (pv 2) (pa_cons (pv 5) pa_nil)))))) (blkOk_by (N := ["_law_script", "_law_d", "_law_signs", "_law_shape", "_law_grain", "_law_truth", "_law_size", "_law_placed", "_law_budget", "_law_report", "_law_p", "_law_good", "_law_strand", "_law_answer", "_law_held", "_law_told", "_law_one", "_law_start", "_law_piece"]) (sc := defScope s_law) (by decide +kernel)) (fun _ _ _ _ _ => (pg_name (i := 16) sc_law.nd rfl (Or.inl rfl))) (fun _ _ _ _ _ => (pts_one (pt_cmpR op_ge (pe_callB len_txt (by rfl) U.len (by decide +kernel) (pa_cons (pe_ix (ix_tupK (K := K) rfl) (pv 16) pe_int (fun _ _ => rfl)) pa_nil)) (pv 4) (nomark _)))) (fun _ _ _ _ _ => (pv 16))) pa_nil)) po_none (po_some pe_int)) (pe_tup (pa_cons (pe_tup (pa_cons pe_int (pa_cons (pv 5) pa_nil))) pa_nil))))
 (pss_cons (ps_set (i := 8) sc_law.nd rfl (Or.inl rfl) (pe_op op_add (pcall C__law_wrong hr (pa_cons (pv 7) (pa_cons (pv 5) pa_nil))) (pcall C__law_take hr (pa_cons (pv 1) (pa_cons pe_int pa_nil)))))
 (pss_cons (ps_set (i := 9) sc_law.nd rfl (Or.inl rfl) (pcall C_assemble hr (pa_cons (pv 6) (pa_cons (pv 7) (pa_cons (pcall C__law_alphabet hr (pa_cons (pv 1) (pa_cons (pv 2) pa_nil))) (pa_cons (pv 8) (pa_cons (pv 4) (pa_cons (pv 3) pa_nil))))))))
 (pss_cons (ps_for PassesOwn.never rfl (pi_range1 rfl U.rng (pa_cons (pv 6) pa_nil)) (pg_name (i := 10) sc_law.nd rfl (Or.inl rfl)) (pss_one (ps_if (PW.pt (pw_and (pt_cmpR op_eq (pe_ix ix_txt (pe_fld (pv 9) rfl) (pv 10) (fun _ _ => rfl)) (pe_txt (t := [43]) (by decide +kernel)) (nomark _)) (pw_and1 (pt_cmpR op_ne (pe_ix ix_txt (pe_fld (pv 9) rfl) (pv 10) (fun _ _ => rfl)) (pe_ix ix_txt (pv 5) (pv 10) (fun _ _ => rfl)) (nomark _))))) (pss_one (ps_ret pe_bl)) pss_nil)))
 (pss_cons (ps_if (pt_cmpR op_inS1 (pe_txt (t := [45]) (by decide +kernel)) (pe_fld (pv 9) rfl) (by rfl)) (pss_one (ps_ret pe_bl)) pss_nil)
 (pss_cons (ps_if (pt_cmpR (op_neD hu64) (pe_fld (pv 9) rfl) (pe_callTy (tup_of (K := K) rfl) (by rfl) U.tpl (by decide +kernel) (pa_cons (pe_lc (own := [("_law_start", 17), ("_law_piece", 18)]) (g := (gTup K 2 (gCons (gName 17) (gCons (gName 18) gNil)))) (tt := tYes) (by rfl) sc_law.nd (pi_tup (pv 7)) (blkOk_by (N := ["_law_script", "_law_d", "_law_signs", "_law_shape", "_law_grain", "_law_truth", "_law_size", "_law_placed", "_law_budget", "_law_report", "_law_p", "_law_good", "_law_strand", "_law_answer", "_law_held", "_law_told", "_law_one", "_law_start", "_law_piece"]) (sc := defScope s_law) (by decide +kernel)) (fun _ _ _ _ _ => (pg_tup (by rfl) (pgs_cons (pg_name (i := 17) sc_law.nd rfl (Or.inl rfl)) (pgs_cons (pg_name (i := 18) sc_law.nd rfl (Or.inl rfl)) pgs_nil)))) (fun _ _ _ _ _ => pts_nil) (fun _ _ _ _ _ => (pe_slice sl_txt1 (pv 5) (po_some (pv 17)) (po_some (pe_op op_add (pv 17) (pe_callB len_txt (by rfl) U.len (by decide +kernel) (pa_cons (pv 18) pa_nil))))))) pa_nil)) (nomark _)) (pss_one (ps_ret pe_bl)) pss_nil)
 (pss_cons (ps_set (i := 11) sc_law.nd rfl (Or.inl rfl) (pcall C__law_explains hr (pa_cons (pe_fld (pv 9) rfl) (pa_cons (pv 4) (pa_cons (pv 5) (pa_cons (pv 3) pa_nil))))))
 (pss_cons (ps_for PassesOwn.never rfl (pi_tup (pe_fld (pv 9) rfl)) (pg_tup (by rfl) (pgs_cons (pg_name (i := 12) sc_law.nd rfl (Or.inl rfl)) (pgs_cons (pg_name (i := 13) sc_law.nd rfl (Or.inl rfl)) pgs_nil))) (pss_cons (ps_set (i := 14) sc_law.nd rfl (Or.inl rfl) (pe_ifExp (pt_cmpR op_eq (pv 3) (pe_txt (t := [99, 105, 114, 99, 108, 101]) (by decide +kernel)) (nomark _)) (pcall C__law_on_circle hr (pa_cons (pv 5) (pa_cons (pv 12) pa_nil))) (pe_cmpR op_inS1 (pv 12) (pv 5) (by rfl))))
 (pss_cons (ps_if (PW.pt (pw_and (pt_cmpR op_eq (pv 13) (pe_txt (t := [97, 108, 119, 97, 121, 115]) (by decide +kernel)) (nomark _)) (pw_and (pt_val (pv 11)) (pw_and1 (pt_not (pt_val (pv 14))))))) (pss_one (ps_ret pe_bl)) pss_nil)
 (pss_one (ps_if (pt_cmpR op_eq (pv 13) (pe_txt (t := [108, 97, 99, 107, 105, 110, 103]) (by decide +kernel)) (nomark _)) (pss_cons (ps_set (i := 15) sc_law.nd rfl (Or.inl rfl) (pmeth R G_paper hr (pv 9) (pa_cons (pv 12) pa_nil)))
 (pss_cons (ps_if (PW.pt (pw_or (pt_cmpR op_ne (pe_ix ix_tup (pv 15) pe_int (fun _ _ => rfl)) (pe_txt (t := [108, 97, 99, 107, 105, 110, 103]) (by decide +kernel)) (nomark _)) (pw_or1 (pt_not (pt_val (pcall C__law_explains hr (pa_cons (pe_fld (pv 9) rfl) (pa_cons (pv 4) (pa_cons (pe_ix ix_tup (pv 15) pe_int (fun _ _ => rfl)) (pa_cons (pv 3) pa_nil)))))))))) (pss_one (ps_ret pe_bl)) pss_nil)
 (pss_one (ps_if (pt_ifE (pt_cmpR op_eq (pv 3) (pe_txt (t := [99, 105, 114, 99, 108, 101]) (by decide +kernel)) (nomark _)) (pt_val (pcall C__law_on_circle hr (pa_cons (pe_ix ix_tup (pv 15) pe_int (fun _ _ => rfl)) (pa_cons (pv 12) pa_nil)))) (pt_cmpR op_inS1 (pv 12) (pe_ix ix_tup (pv 15) pe_int (fun _ _ => rfl)) (by rfl))) (pss_one (ps_ret pe_bl)) pss_nil)))) pss_nil)))))
 (pss_one (ps_ret pe_bl)))))))))))))))), ?_⟩
    walk_at "gx"
    refine ⟨a, ns, rfl, ha, hn, fun d dl H1 hd hdl sm1 da1 => ?_⟩
    walk_at "gx"
    intro t1 H2 ht1 sm2 h2
    have da2 := da1.same sm2
    walk_at "gx"
    refine ⟨d, dl, 4, rfl, da2, by decide, by decide, fun k1 H3 hk1 sx3 da3 => ?_⟩
    obtain ⟨sg, hsg, hsg0, hsgn, hsg10, hsgc⟩ := signs_at k1 hk1
    refine w_ixU (da2.kp sx3 _ _ h2) (atI_nat hsg) ?_
    walk_at "gx"
    intro t2 H4 ht2 sm4 h4
    have da4 := da3.same sm4
    walk_at "gx"
    refine ⟨d, dl, 2, rfl, da4, by decide, by decide, fun k2 H5 hk2 sx5 da5 => ?_⟩
    obtain ⟨z, hz, hzz⟩ := shape_at k2 hk2
    refine w_ixU (da4.kp sx5 _ _ h4) (atI_nat hz) ?_
    walk_at "gx"
    refine ⟨d, dl, 3, rfl, da5, by decide, by decide, fun k3 H6 hk3 sx6 da6 => ?_⟩
    walk_at "gx"
    obtain ⟨g, hg⟩ : ∃ g, g = 1 + k3 := ⟨_, rfl⟩
    have eg : ((1 : Int) + (k3 : Int)) = (g : Int) := by omega
    rw [eg]
    walk_at "gx"
    refine ⟨d, dl, 7, rfl, da6, by decide, by decide, fun k4 H7 hk4 sx7 da7 => ?_⟩
    walk_at "gx"
    have en : ((g : Int) + (k4 : Int)) = ((g + k4 : Nat) : Int) := by omega
    rw [en]
    refine ⟨d, dl, sg, g + k4, rfl, da7, hsg0, by omega, by omega, fun tr H8 htr htrs sx8 da8 => ?_⟩
    walk_at "gx"
    have hn1 : 1 ≤ tr.length := by omega
    have hn9 : tr.length ≤ 9 := by omega
    have hgn : g ≤ tr.length := by omega
    refine ⟨d, dl, tr.length, sg, tr, rfl, da8, rfl, hn1, hn9, hsg0, by omega, fun ra pl H9 sx9 da9 hpl hok hpl7 => ?_⟩
    obtain ⟨zs, hzs, rfl, hzb⟩ := hpl.zip
    rw [List.length_map] at hpl7
    walk_at "gx"
    refine lc_U zs (fun b => V.ref b.1) (fun b => if decide (g ≤ b.2.2.length) = true then [V.ref b.1] else []) (fun _ _ => if_len) (by walk_at "sz") hzs (fun b H10 hb sm10 R hR => ?_) ?_
    · have hR := hR H10 (Same.refl _)
      have hb9 := hok b.2 (List.mem_map.mpr ⟨b, hb, rfl⟩)
      walk_at "gx"
      refine ⟨rfl, ?_⟩
      walk_at "gx"
      refine w_ixU (sm10 _ _ (hzb b hb)) (atI_nat (j := 1) (by rfl)) ?_
      walk_at "gx"
      refine iteD (fun e => ?_) (fun e => ?_)
      · rw [if_pos (decide_eq_true (by omega))] at hR
        walk_at "gx"
        exact hR
      · rw [if_neg (by rw [decide_eq_true_eq]; omega)] at hR
        exact hR
    intro fl H10 hfl sm10 h10
    rw [flat_if (fun b : Addr × (Nat × T) => decide (g ≤ b.2.2.length)) (fun b => V.ref b.1)] at h10
    have hzf : (zs.filter fun b => decide (g ≤ b.2.2.length)).length ≤ 7 := Nat.le_trans (List.length_filter_le _ _) hpl7
    have hzm : ∀ b ∈ zs.filter fun b => decide (g ≤ b.2.2.length), b ∈ zs ∧ g ≤ b.2.2.length := fun b hb => by
      rw [List.mem_filter, decide_eq_true_eq] at hb; exact hb
    generalize (zs.filter fun b => decide (g ≤ b.2.2.length)) = fs0 at h10 hzf hzm
    walk_at "gx"
    intro ft H11 hft sm11 h11
    walk_at "gx"
    refine w_slA7 h11 (by rw [List.length_map]; exact hzf) ?_
    walk_at "gx"
    intro p0 H12 hp0 sm12 h12
    walk_at "gx"
    intro p1 H13 hp1 sm13 h13
    refine w_catA1 (sm13 _ _ (sm12 _ _ h11)) h13 (by rw [List.length_map, sizeLine_eq]; omega) fun qa H14 sm14 h14 => ?_
    have sm9 : Same H9 H14 := sm10.trans (sm11.trans (sm12.trans (sm13.trans sm14)))
    have da14 := da9.same sm9
    have hpla : PlA H14 qa ((fs0 ++ [((p0, (0, tr)) : Addr × (Nat × T))]).map (·.2)) := by
      refine PlA.unzip ?_ fun b hb => ?_
      · rw [h14, List.map_append]; rfl
      · rcases List.mem_append.mp hb with h | h
        · exact sm9 _ _ (hzb b (hzm b h).1)
        · simp only [List.mem_singleton] at h; subst h
          exact sm14 _ _ (sm13 _ _ h12)
    have hpok : ∀ q ∈ (fs0 ++ [((p0, (0, tr)) : Addr × (Nat × T))]).map (·.2), (q.2 ≠ [] ∧ q.1 + q.2.length ≤ tr.length) ∧ g ≤ q.2.length := fun q hq => by
      obtain ⟨b, hb, rfl⟩ := List.mem_map.mp hq
      rcases List.mem_append.mp hb with h | h
      · obtain ⟨h1, h2⟩ := hzm b h
        exact ⟨hok b.2 (List.mem_map.mpr ⟨b, h1, rfl⟩), h2⟩
      · simp only [List.mem_singleton] at h; subst h
        exact ⟨⟨fun e => by rw [show tr = [] from e] at hn1; simp at hn1, by show 0 + tr.length ≤ tr.length; omega⟩, hgn⟩
    have hpl8 : ((fs0 ++ [((p0, (0, tr)) : Addr × (Nat × T))]).map (·.2)).length ≤ 8 := by rw [List.length_map, List.length_append]; simp only [List.length_singleton]; omega
    have hpl0 : (fs0 ++ [((p0, (0, tr)) : Addr × (Nat × T))]).map (·.2) ≠ [] := by simp
    generalize hple : (fs0 ++ [((p0, (0, tr)) : Addr × (Nat × T))]).map (·.2) = pl at hpla hpok hpl8 hpl0
    have pv_ : PlV pl tr.length := ⟨fun q hq => (hpok q hq).1, hpl8, hn1, hn9⟩
    walk_at "gx"
    refine ⟨qa, pl, tr, rfl, hpla, pv_, fun H15 sm15 => ?_⟩
    have da15 := da14.same sm15
    walk_at "gx"
    refine ⟨d, dl, 2, rfl, da15, by decide, by decide, fun k5 H16 hk5 sx16 da16 => ?_⟩
    walk_at "gx"
    have eb : ((wro pl tr : Int) + (k5 : Int)) = ((wro pl tr + k5 : Nat) : Int) := by omega
    rw [eb]
    refine ⟨_, sg, rfl, hsg0, hsgn, hsg10, fun al H17 av hal sm17 => ?_⟩
    walk_at "gx"
    have hral : ∀ p, p < tr.length → tr.getD p 0 ∈ al := fun p hp => hal _ (htrs _ (getD_mem1 hp))
    have hv : ∀ q ∈ pl, q.1 + q.2.length ≤ tr.length := fun q hq => (pv_.ok q hq).2
    have htot := tot_le hv hral
    have kp16 : Kp H14 H17 := (sm_kp sm15).trans ((da15.kp sx16).trans (sm_kp sm17))
    refine ⟨tr.length, qa, pl, al, wro pl tr + k5, g, z, rfl, hpla.same kp16, pv_, av, by omega, hpl0, by omega, by omega, fun q hq => (hpok q hq).2, hzz, fun r dx pa fa x6 fs H18 hr18 sm18 hr hpa sh hfa hfok hfl20 => ?_⟩
    obtain ⟨n1_, n2_, n3_, n4_, n5_, n6_, n7_⟩ := R.na
    generalize hlf : wro pl tr + k5 - tot tr.length pl al = lf at hr
    have hin : ∀ p, p < tr.length → wrg (col pl p) (tr.getD p 0) ≤ lea (col pl p) al + lf := fun p hp => truth_in hv hral (by omega) hp
    have hone : ∀ p, p < tr.length → (lets (col pl p) al lf).length = 1 → bst (col pl p) al = tr.getD p 0 := fun p hp h => one_letter av.ne (hral p hp) (hin p hp) h
    have hsl : (sur tr.length pl al lf).length = tr.length := by unfold sur; rw [List.length_map, List.length_range]
    have hsg_ : ∀ p, p < tr.length → (sur tr.length pl al lf).getD p 0 = if (lets (col pl p) al lf).length = 1 then 43 else 45 := fun p hp => getD_range hp
    have hvg : ∀ p, p < tr.length → (vot tr.length pl al).getD p 0 = bst (col pl p) al := fun p hp => getD_range hp
    have hvl := vot_len (n := tr.length) (pl := pl) (al := al)
    walk_at "gx"
    refine w_R1 (by omega) (by omega) ?_
    have e1 : ((tr.length : Int)).toNat = tr.length := by omega
    rw [e1]
    refine w_forR (fun i σ H19 => ∃ v10, σ = [some (.ref a), some (.ref d), some (sv sg), some (sv z), some (iv g), some (sv tr), some (iv tr.length), some (.ref qa), some (iv (wro pl tr + k5)), some (.ref r), v10, none, none, none, none, none, none, none, none] ∧ Same H18 H19) ⟨none, rfl, Same.refl _⟩ ?_ ?_
    · rintro p σ H19 hp ⟨v10, rfl, sm19⟩
      have e2 : ((0 : Int) + (p : Int)) = (p : Int) := by omega
      rw [e2]
      have hr19 := sm19 _ _ hr
      have hs := hsg_ p hp
      walk_at "gx"
      refine w_fldE ?_
      walk_at "gx"
      refine w_fldR hr19 R.cl n2_ rfl ?_
      walk_at "gx"
      refine ⟨_, _, _, rfl, rfl, by rw [sizeLine_eq]; omega, atI_getD (by omega), ?_⟩
      walk_at "gx"
      refine iteD (fun e => ?_) (fun e => ?_)
      · have hl1 : (lets (col pl p) al lf).length = 1 := by
          refine Decidable.byContradiction fun hne => ?_
          rw [hs, if_neg hne] at e
          exact absurd e (by decide)
        walk_at "gx"
        refine w_fldE ?_
        walk_at "gx"
        refine w_fldR hr19 R.cl n1_ rfl ?_
        walk_at "gx"
        refine ⟨_, _, _, rfl, rfl, by rw [sizeLine_eq]; omega, atI_getD (by omega), ?_⟩
        walk_at "gx"
        refine ⟨_, _, _, rfl, rfl, by rw [sizeLine_eq]; omega, atI_getD hp, ?_⟩
        walk_at "gx"
        refine iteNf (by rw [hvg p hp, hone p hp hl1]) ?_
        walk_at "gx"
        exact ⟨_, rfl, sm19⟩
      · walk_at "gx"
        exact ⟨_, rfl, sm19⟩
    rintro σ H19 ⟨v10, rfl, sm19⟩
    have hr19 := sm19 _ _ hr
    walk_at "gx"
    refine w_fldE ?_
    walk_at "gx"
    refine w_fldR hr19 R.cl n2_ rfl ?_
    walk_at "gx"
    refine iteD (fun e => ?_) (fun e => ?_)
    · walk_at "gx"
      exact q H19
    have hvt : vot tr.length pl al = tr := by
      refine eq_range fun p hp => hone p hp ?_
      refine Decidable.byContradiction fun hne => e ?_
      have h1 := hsg_ p hp
      rw [if_neg hne] at h1
      have h2 : (45 : Nat) ∈ sur tr.length pl al lf := by rw [← h1]; exact getD_mem1 (by omega)
      obtain ⟨s, t, e⟩ := List.append_of_mem h2
      exact ⟨s, t, by rw [e]; simp⟩
    rw [hvt] at hpa sh hfok
    have kp19 : Kp H14 H19 := kp16.trans ((sm_kp sm18).trans (sm_kp sm19))
    obtain ⟨zs2, hzs2, hple2, hzb2⟩ := (hpla.same kp19).zip
    have hz2l : zs2.length ≤ 8 := by rw [hple2, List.length_map] at hpl8; exact hpl8
    have hpa19 := sm19 _ _ hpa
    walk_at "gx"
    refine w_fldE ?_
    walk_at "gx"
    refine w_fldR hr19 R.cl n3_ rfl ?_
    walk_at "gx"
    refine lc_U zs2 (fun b => V.ref b.1) (fun b => [sv ((tr.drop b.2.1).take b.2.2.length)]) (fun _ _ => Nat.le_refl _) (by walk_at "sz") hzs2 (fun b H20 hb sm20 R hR => ?_) ?_
    · have hR := hR H20 (Same.refl _)
      have hb20 := sm20 _ _ (hzb2 b hb)
      have e3 : (((b.2.1 : Nat) : Int)).toNat = b.2.1 := by omega
      have e4 : (((b.2.1 : Nat) : Int) + ((b.2.2.length : Nat) : Int)).toNat - b.2.1 = b.2.2.length := by omega
      have hb9 : b.2.2.length ≤ 9 := by
        have := (pv_.ok b.2 (by rw [hple2]; exact List.mem_map.mpr ⟨b, hb, rfl⟩)).2
        omega
      walk_at "gx"
      refine ⟨rfl, ?_⟩
      walk_at "gx"
      refine iteT ?_
      walk_at "gx"
      simp only [e3, e4]
      exact hR
    intro cl_ H20 hcl sm20 h20
    rw [flat_one (fun b : Addr × (Nat × T) => sv ((tr.drop b.2.1).take b.2.2.length))] at h20
    have hcor : cor pl tr = zs2.map fun b => (tr.drop b.2.1).take b.2.2.length := by unfold cor; rw [hple2, List.map_map]; rfl
    have h20' : H20 cl_ = some (.lst ((cor pl tr).map sv)) := by rw [h20, hcor, List.map_map]; rfl
    clear h20
    walk_at "gx"
    intro ct H21 hct sm21 h21
    have hpa21 := sm21 _ _ (sm20 _ _ hpa19)
    have hlet : ∀ t ∈ cor pl tr, ∀ c ∈ t, c < 1114112 := fun t ht c hc => by
      obtain ⟨q, _, rfl⟩ := List.mem_map.mp ht
      exact hsgc c (htrs c (List.mem_of_mem_drop (List.mem_of_mem_take hc)))
    refine w_neSame hpa21 h21 hlet ?_
    walk_at "gx"
    refine iteFf ?_
    have hr21 := sm21 _ _ (sm20 _ _ hr19)
    walk_at "gx"
    refine w_fldE ?_
    walk_at "gx"
    refine w_fldR hr21 R.cl n3_ rfl ?_
    walk_at "gx"
    refine explains_b pa _ g tr z rfl hpa21 sh (by omega) fun good hg1 hg2 H22 sm22 => ?_
    have hr22 := sm22 _ _ hr21
    have sm1822 : Same H18 H22 := sm19.trans (sm20.trans (sm21.trans sm22))
    obtain ⟨fvs, hfv, hfp⟩ := hfa
    have hfv22 := sm1822 _ _ hfv
    have hpa22 := sm22 _ _ hpa21
    walk_at "gx"
    refine w_fldE ?_
    walk_at "gx"
    refine w_fldR hr22 R.cl n7_ rfl ?_
    walk_at "gx"
    refine w_forU (xs := fvs) (fun i σ H23 => ∃ v12 v13 v14 v15, σ = [some (.ref a), some (.ref d), some (sv sg), some (sv z), some (iv g), some (sv tr), some (iv tr.length), some (.ref qa), some (iv (wro pl tr + k5)), some (.ref r), v10, some (.bl good), v12, v13, v14, v15, none, none, none] ∧ Same H22 H23) ⟨none, none, none, none, rfl, Same.refl _⟩ (fun i σ H23 _ ⟨_, _, _, _, _, h⟩ => h _ _ hfv22) ?_ ?_
    · rintro i x σ H23 hx ⟨v12, v13, v14, v15, rfl, sm23⟩
      obtain ⟨⟨u, an⟩, hfu, fa_, rfl, hfaa⟩ := paired_get hfp hx
      obtain ⟨hu0, hu60, hans⟩ := hfok _ (List.mem_of_getElem? hfu)
      have hu0 : u ≠ [] := hu0
      have hu60 : u.length ≤ 60 := hu60
      have hf23 : H23 fa_ = some (.tup [sv u, sv an]) := sm23 _ _ (sm1822 _ _ hfaa)
      refine w_g2 hf23 (by rfl) ?_
      refine w_seq ?_
      refine w_asg ?_
      refine w_ifB (fun b => b = true ↔ HasS z u tr) (fun b H24 sm24 hb => ?_) (fun k => ?_)
      · have sm2224 := sm23.trans sm24
        have hr24 := sm2224 _ _ hr22
        have hpa24 := sm2224 _ _ hpa22
        have fin : ∀ (H' : Hp) (v15 : Option V), Same H24 H' → ∃ v12 v13 v14 v15', ([some (.ref a), some (.ref d), some (sv sg), some (sv z), some (iv g), some (sv tr), some (iv tr.length), some (.ref qa), some (iv (wro pl tr + k5)), some (.ref r), v10, some (.bl good), some (sv u), some (sv an), some (.bl b), v15, none, none, none] : L2.St) = [some (.ref a), some (.ref d), some (sv sg), some (sv z), some (iv g), some (sv tr), some (iv tr.length), some (.ref qa), some (iv (wro pl tr + k5)), some (.ref r), v10, some (.bl good), v12, v13, v14, v15', none, none, none] ∧ Same H22 H' := fun H' v15 sm => ⟨_, _, _, _, rfl, sm2224.trans sm⟩
        rcases hans with ⟨han, t0, h01, h02⟩ | ⟨han, hal2⟩
        · have han : an = tLack := han
          subst han
          walk_at "gx"
          refine iteDf (by decide) ?_
          refine iteFf ?_
          walk_at "gx"
          refine iteDt rfl ?_
          walk_at "gx"
          refine w_meth ?_
          walk_at "gx"
          refine ⟨r, dx, _, rfl, hr24, rfl, ?_⟩
          walk_at "gx"
          refine ⟨r, dx, pa, _, _, _, _, cor pl tr, g, z, u, rfl, hr24, hpa24, sh, hu0, hu60, hzz, fun tt t H25 hr25 sm25 h25 hex hno hlen => ?_, fun tt b2 H25 hr25 sm25 h25 hall => absurd (hall t0 h01) h02⟩
          have hr25 := sm25 _ _ hr24
          have hpa25 := sm25 _ _ hpa24
          walk_at "gx"
          refine w_ixU h25 (atI_nat (j := 0) (by rfl)) ?_
          walk_at "gx"
          refine iteNf rfl ?_
          walk_at "gx"
          refine w_fldE ?_
          walk_at "gx"
          refine w_fldR hr25 R.cl n3_ rfl ?_
          walk_at "gx"
          refine w_ixU h25 (atI_nat (j := 1) (by rfl)) ?_
          walk_at "gx"
          refine ⟨pa, _, g, t, z, rfl, hpa25, sh, hlen, fun _ H26 sm26 => ?_, fun ne => absurd hex ne⟩
          have h26 := sm26 _ _ h25
          walk_at "gx"
          refine iteF ?_
          walk_at "gx"
          refine w_ifT ?_
          walk_at "gx"
          refine iteD (fun e => ?_) (fun e => ?_)
          · have hno2 : ¬ onC t u := by unfold HasS at hno; rw [if_pos (show z = txC from e)] at hno; exact hno
            walk_at "gx"
            refine w_ixU h26 (atI_nat (j := 1) (by rfl)) ?_
            walk_at "gx"
            refine ⟨t, u, rfl, hlen, by omega, fun H27 sm27 => ?_⟩
            walk_at "gx"
            refine iteDf hno2 ?_
            walk_at "gx"
            exact fin _ _ (sm25.trans (sm26.trans sm27))
          · have hno2 : ¬ u <:+: t := by unfold HasS at hno; rw [if_neg (show ¬ z = txC from e)] at hno; exact hno
            walk_at "gx"
            refine w_ixU h26 (atI_nat (j := 1) (by rfl)) ?_
            walk_at "gx"
            refine iteDf hno2 ?_
            walk_at "gx"
            exact fin _ _ (sm25.trans sm26)
        · have han : an = tAlw := han
          subst han
          walk_at "gx"
          refine iteDt rfl ?_
          walk_at "gx"
          refine iteB (fun hgd => ?_) (fun hgd => ?_)
          · have hb1 : b = true := hb.mpr (hal2 tr (hg1 hgd))
            walk_at "gx"
            rw [hb1]
            refine iteF ?_
            walk_at "gx"
            refine iteDf (by decide) ?_
            walk_at "gx"
            rw [← hb1]
            exact fin _ _ (Same.refl _)
          · refine iteFf ?_
            walk_at "gx"
            refine iteDf (by decide) ?_
            walk_at "gx"
            exact fin _ _ (Same.refl _)
      · walk_at "gx"
        refine iteD (fun e => ?_) (fun e => ?_)
        · walk_at "gx"
          refine ⟨tr, u, rfl, by omega, by omega, fun H24 sm24 => k _ H24 sm24 ?_⟩
          rw [decide_eq_true_eq]
          unfold HasS
          rw [if_pos (show z = txC from e)]
        · refine w_op ?_
          refine w_var (by rfl) ?_
          refine w_var (by rfl) ?_
          refine w_inS ?_
          refine k _ H23 (Same.refl _) ?_
          rw [decide_eq_true_eq]
          unfold HasS
          rw [if_neg (show ¬ z = txC from e)]
    · rintro σ H23 ⟨v12, v13, v14, v15, rfl, sm23⟩
      walk_at "gx"
      exact q H23

section
open Hd
theorem facts {P : Program} {w : World} {K : PySem.W.Frag} {h : Heap} {mg : Str → Option Value} {f : Addr} (X : K.In h) (G : h.Ns mainGlobals mg) (hfa : mg ("law" : Str) = some (.ref f)) (c : He.SaysD fa fn K) :
    ∃ fd : FuncData, (∀ (s : Shared) (v : Value), BindsTo s fd ⟨[v], []⟩ [("_law_script", v)]) ∧ ∀ base : Heap, K.In base → base.Ns mainGlobals mg → FnOk P w K mg base CX0 10 f fd ["_law_script"] (sp_law K) := by
  obtain ⟨fd_following, F_following⟩ := c.def_ 0 (d := d_following) rfl
  obtain ⟨fd_check_shards, F_check_shards⟩ := c.def_ 1 (d := d_check_shards) rfl
  obtain ⟨fd_check_shape, F_check_shape⟩ := c.def_ 2 (d := d_check_shape) rfl
  obtain ⟨fd_check_word, F_check_word⟩ := c.def_ 3 (d := d_check_word) rfl
  obtain ⟨fd_check_line, F_check_line⟩ := c.def_ 4 (d := d_check_line) rfl
  obtain ⟨fd_advance, F_advance⟩ := c.def_ 5 (d := d_advance) rfl
  obtain ⟨fd_window_list, F_window_list⟩ := c.def_ 6 (d := d_window_list) rfl
  obtain ⟨fd_windows_of, F_windows_of⟩ := c.def_ 7 (d := d_windows_of) rfl
  obtain ⟨fd_gram_list, F_gram_list⟩ := c.def_ 8 (d := d_gram_list) rfl
  obtain ⟨fd_way, F_way⟩ := c.def_ 9 (d := d_way) rfl
  obtain ⟨fd_state_list, F_state_list⟩ := c.def_ 10 (d := d_state_list) rfl
  obtain ⟨fd_ways_from, F_ways_from⟩ := c.def_ 11 (d := d_ways_from) rfl
  obtain ⟨fd_read_within, F_read_within⟩ := c.def_ 12 (d := d_read_within) rfl
  obtain ⟨fd_can_read, F_can_read⟩ := c.def_ 13 (d := d_can_read) rfl
  obtain ⟨fd_finished_from, F_finished_from⟩ := c.def_ 14 (d := d_finished_from) rfl
  obtain ⟨fd_turned_around, F_turned_around⟩ := c.def_ 15 (d := d_turned_around) rfl
  obtain ⟨fd_components_of, F_components_of⟩ := c.def_ 16 (d := d_components_of) rfl
  obtain ⟨fd_grouped, F_grouped⟩ := c.def_ 17 (d := d_grouped) rfl
  obtain ⟨fd_path_to, F_path_to⟩ := c.def_ 18 (d := d_path_to) rfl
  obtain ⟨fd_circle_within, F_circle_within⟩ := c.def_ 19 (d := d_circle_within) rfl
  obtain ⟨fd_circle_decision, F_circle_decision⟩ := c.def_ 20 (d := d_circle_decision) rfl
  obtain ⟨fd_tail_after, F_tail_after⟩ := c.def_ 21 (d := d_tail_after) rfl
  obtain ⟨fd_state_after, F_state_after⟩ := c.def_ 22 (d := d_state_after) rfl
  obtain ⟨fd_line_way_of, F_line_way_of⟩ := c.def_ 23 (d := d_line_way_of) rfl
  obtain ⟨fd_first_list, F_first_list⟩ := c.def_ 24 (d := d_first_list) rfl
  obtain ⟨fd_line_decision, F_line_decision⟩ := c.def_ 25 (d := d_line_decision) rfl
  obtain ⟨fd_decided, F_decided⟩ := c.def_ 26 (d := d_decided) rfl
  obtain ⟨fd_check_question, F_check_question⟩ := c.def_ 27 (d := d_check_question) rfl
  obtain ⟨fd_decide, F_decide⟩ := c.def_ 28 (d := d_decide) rfl
  obtain ⟨fd_example, F_example⟩ := c.def_ 29 (d := d_example) rfl
  obtain ⟨fd_check_alphabet, F_check_alphabet⟩ := c.def_ 30 (d := d_check_alphabet) rfl
  obtain ⟨fd_check_placed, F_check_placed⟩ := c.def_ 31 (d := d_check_placed) rfl
  obtain ⟨fd_column_at, F_column_at⟩ := c.def_ 32 (d := d_column_at) rfl
  obtain ⟨fd_wrong_with, F_wrong_with⟩ := c.def_ 33 (d := d_wrong_with) rfl
  obtain ⟨fd_least_at, F_least_at⟩ := c.def_ 34 (d := d_least_at) rfl
  obtain ⟨fd_least_total, F_least_total⟩ := c.def_ 35 (d := d_least_total) rfl
  obtain ⟨fd_check_budget, F_check_budget⟩ := c.def_ 36 (d := d_check_budget) rfl
  obtain ⟨fd_letters_within, F_letters_within⟩ := c.def_ 37 (d := d_letters_within) rfl
  obtain ⟨fd_possible_letters, F_possible_letters⟩ := c.def_ 38 (d := d_possible_letters) rfl
  obtain ⟨fd_best_letters, F_best_letters⟩ := c.def_ 39 (d := d_best_letters) rfl
  obtain ⟨fd_voted, F_voted⟩ := c.def_ 40 (d := d_voted) rfl
  obtain ⟨fd_corrected, F_corrected⟩ := c.def_ 41 (d := d_corrected) rfl
  obtain ⟨fd_plain_grams, F_plain_grams⟩ := c.def_ 42 (d := d_plain_grams) rfl
  obtain ⟨fd_next_window, F_next_window⟩ := c.def_ 43 (d := d_next_window) rfl
  obtain ⟨fd_strand_from, F_strand_from⟩ := c.def_ 44 (d := d_strand_from) rfl
  obtain ⟨fd_spelled_row, F_spelled_row⟩ := c.def_ 45 (d := d_spelled_row) rfl
  obtain ⟨fd_strands, F_strands⟩ := c.def_ 46 (d := d_strands) rfl
  obtain ⟨fd_findings_of, F_findings_of⟩ := c.def_ 47 (d := d_findings_of) rfl
  obtain ⟨fd_sample_of, F_sample_of⟩ := c.def_ 48 (d := d_sample_of) rfl
  obtain ⟨fd_Report_init, F_Report_init⟩ := c.def_ 49 (d := d_Report_init) rfl
  obtain ⟨fd_Report_paper, F_Report_paper⟩ := c.def_ 50 (d := d_Report_paper) rfl
  obtain ⟨fd_assemble, F_assemble⟩ := c.def_ 51 (d := d_assemble) rfl
  obtain ⟨fd__law_begin, F__law_begin⟩ := c.def_ 52 (d := d__law_begin) rfl
  obtain ⟨fd__law_take, F__law_take⟩ := c.def_ 53 (d := d__law_take) rfl
  obtain ⟨fd__law_text, F__law_text⟩ := c.def_ 54 (d := d__law_text) rfl
  obtain ⟨fd__law_rich, F__law_rich⟩ := c.def_ 55 (d := d__law_rich) rfl
  obtain ⟨fd__law_round, F__law_round⟩ := c.def_ 56 (d := d__law_round) rfl
  obtain ⟨fd__law_on_circle, F__law_on_circle⟩ := c.def_ 57 (d := d__law_on_circle) rfl
  obtain ⟨fd__law_windows, F__law_windows⟩ := c.def_ 58 (d := d__law_windows) rfl
  obtain ⟨fd__law_explains, F__law_explains⟩ := c.def_ 59 (d := d__law_explains) rfl
  obtain ⟨fd__law_wrong, F__law_wrong⟩ := c.def_ 60 (d := d__law_wrong) rfl
  obtain ⟨fd__law_alphabet, F__law_alphabet⟩ := c.def_ 61 (d := d__law_alphabet) rfl
  obtain ⟨fd__law_many, F__law_many⟩ := c.def_ 62 (d := d__law_many) rfl
  obtain ⟨fd_law, F_law⟩ := c.def_ 63 (d := d_law) rfl
  have e := hfa.symm.trans (He.glo_ok X G (c.fact 61 (f := .glo "law") rfl))
  cases e
  have b := FunD.bindsA (ps := ["_law_script"]) F_law fun _ _ _ _ _ _ us hl => match us, hl with | [_], _ => rfl
  refine ⟨fd_law, fun s v => b s [v] rfl, fun base _ _ => ?_⟩
  have U : Bu mg := ⟨He.free_ok X G (c.fact 73 (f := .free "len") rfl), He.free_ok X G (c.fact 74 (f := .free "range") rfl), He.free_ok X G (c.fact 75 (f := .free "min") rfl), He.free_ok X G (c.fact 76 (f := .free "any") rfl), He.free_ok X G (c.fact 77 (f := .free "all") rfl), He.free_ok X G (c.fact 78 (f := .free "sum") rfl), He.free_ok X G (c.fact 79 (f := .free "sorted") rfl), He.free_ok X G (c.fact 80 (f := .free "tuple") rfl), He.free_ok X G (c.fact 81 (f := .free "list") rfl), He.free_ok X G (c.fact 82 (f := .free "int") rfl), He.free_ok X G (c.fact 83 (f := .free "abs") rfl), He.free_ok X G (c.fact 84 (f := .free "reversed") rfl)⟩
  have c_GRAIN_LIMIT : ∃ t, mg "GRAIN_LIMIT" = some (.int 12 t) := He.int_ok X G (c.fact 85 (f := .int "GRAIN_LIMIT" 12) rfl)
  have c_PIECE_LIMIT : ∃ t, mg "PIECE_LIMIT" = some (.int 40 t) := He.int_ok X G (c.fact 86 (f := .int "PIECE_LIMIT" 40) rfl)
  have c_LETTER_LIMIT : ∃ t, mg "LETTER_LIMIT" = some (.int 60 t) := He.int_ok X G (c.fact 87 (f := .int "LETTER_LIMIT" 60) rfl)
  have c_WORD_LIMIT : ∃ t, mg "WORD_LIMIT" = some (.int 60 t) := He.int_ok X G (c.fact 88 (f := .int "WORD_LIMIT" 60) rfl)
  have c_LINE_LIMIT : ∃ t, mg "LINE_LIMIT" = some (.int 8 t) := He.int_ok X G (c.fact 89 (f := .int "LINE_LIMIT" 8) rfl)
  have c_SIZE_LIMIT : ∃ t, mg "SIZE_LIMIT" = some (.int 400 t) := He.int_ok X G (c.fact 90 (f := .int "SIZE_LIMIT" 400) rfl)
  have c_NOWHERE : ∃ t, mg "NOWHERE" = some (.str (stT [32]) t) := He.str_ok X G (c.fact 91 (f := .str "NOWHERE" " ") rfl)
  have R : Rp K mg (He.ga K "Report") (He.ma K (He.ga K "Report") "__init__") (He.ma K (He.ga K "Report") "paper") := ⟨He.glo_ok X G (c.fact 62 (f := .glo "Report") rfl), He.cls_ok (c.fact 63 (f := .cls "Report") rfl), He.mkr_ok (c.fact 64 (f := .mkr "Report") rfl), He.meth_ok (c.fact 65 (f := .meth "Report" "paper") rfl), He.noat_ok (c.fact 66 (f := .noat "Report" "consensus") rfl), He.noat_ok (c.fact 67 (f := .noat "Report" "sure") rfl), He.noat_ok (c.fact 68 (f := .noat "Report" "pieces") rfl), He.noat_ok (c.fact 69 (f := .noat "Report" "grain") rfl), He.noat_ok (c.fact 70 (f := .noat "Report" "shape") rfl), He.noat_ok (c.fact 71 (f := .noat "Report" "example") rfl), He.noat_ok (c.fact 72 (f := .noat "Report" "findings") rfl)⟩
  have C_following := ok_following (P := P) (w := w) (base := base) ⟨_, fd_following, He.glo_ok X G (c.fact 0 (f := .glo "following") rfl), F_following⟩ U
  have C_check_shards := ok_check_shards (P := P) (w := w) (base := base) ⟨_, fd_check_shards, He.glo_ok X G (c.fact 1 (f := .glo "check_shards") rfl), F_check_shards⟩ U c_GRAIN_LIMIT c_LETTER_LIMIT c_PIECE_LIMIT
  have C_check_shape := ok_check_shape (P := P) (w := w) (base := base) ⟨_, fd_check_shape, He.glo_ok X G (c.fact 2 (f := .glo "check_shape") rfl), F_check_shape⟩ U
  have C_check_word := ok_check_word (P := P) (w := w) (base := base) ⟨_, fd_check_word, He.glo_ok X G (c.fact 3 (f := .glo "check_word") rfl), F_check_word⟩ U c_WORD_LIMIT
  have C_check_line := ok_check_line (P := P) (w := w) (base := base) ⟨_, fd_check_line, He.glo_ok X G (c.fact 4 (f := .glo "check_line") rfl), F_check_line⟩ U c_LINE_LIMIT
  have C_advance := ok_advance (P := P) (w := w) (base := base) ⟨_, fd_advance, He.glo_ok X G (c.fact 5 (f := .glo "advance") rfl), F_advance⟩ U
  have C_window_list := ok_window_list (P := P) (w := w) (base := base) ⟨_, fd_window_list, He.glo_ok X G (c.fact 6 (f := .glo "window_list") rfl), F_window_list⟩ U
  have C_windows_of := ok_windows_of (P := P) (w := w) (base := base) ⟨_, fd_windows_of, He.glo_ok X G (c.fact 7 (f := .glo "windows_of") rfl), F_windows_of⟩ U C_check_shards C_window_list
  have C_gram_list := ok_gram_list (P := P) (w := w) (base := base) ⟨_, fd_gram_list, He.glo_ok X G (c.fact 8 (f := .glo "gram_list") rfl), F_gram_list⟩ U
  have C_way := ok_way (P := P) (w := w) (base := base) ⟨_, fd_way, He.glo_ok X G (c.fact 9 (f := .glo "way") rfl), F_way⟩ U C_advance C_following
  have C_state_list := ok_state_list (P := P) (w := w) (base := base) ⟨_, fd_state_list, He.glo_ok X G (c.fact 10 (f := .glo "state_list") rfl), F_state_list⟩ U C_gram_list
  have C_ways_from := ok_ways_from (P := P) (w := w) (base := base) ⟨_, fd_ways_from, He.glo_ok X G (c.fact 11 (f := .glo "ways_from") rfl), F_ways_from⟩ U C_following C_way
  have C_read_within := ok_read_within (P := P) (w := w) (base := base) ⟨_, fd_read_within, He.glo_ok X G (c.fact 12 (f := .glo "read_within") rfl), F_read_within⟩ U C_way
  have C_can_read := ok_can_read (P := P) (w := w) (base := base) ⟨_, fd_can_read, He.glo_ok X G (c.fact 13 (f := .glo "can_read") rfl), F_can_read⟩ U C_read_within
  have C_finished_from := ok_finished_from (P := P) (w := w) (base := base) ⟨_, fd_finished_from, He.glo_ok X G (c.fact 14 (f := .glo "finished_from") rfl), F_finished_from⟩ U
  have C_turned_around := ok_turned_around (P := P) (w := w) (base := base) ⟨_, fd_turned_around, He.glo_ok X G (c.fact 15 (f := .glo "turned_around") rfl), F_turned_around⟩ U
  have C_components_of := ok_components_of (P := P) (w := w) (base := base) ⟨_, fd_components_of, He.glo_ok X G (c.fact 16 (f := .glo "components_of") rfl), F_components_of⟩ U C_finished_from C_turned_around
  have C_grouped := ok_grouped (P := P) (w := w) (base := base) ⟨_, fd_grouped, He.glo_ok X G (c.fact 17 (f := .glo "grouped") rfl), F_grouped⟩ U
  have C_path_to := ok_path_to (P := P) (w := w) (base := base) ⟨_, fd_path_to, He.glo_ok X G (c.fact 18 (f := .glo "path_to") rfl), F_path_to⟩ U
  have C_circle_within := ok_circle_within (P := P) (w := w) (base := base) ⟨_, fd_circle_within, He.glo_ok X G (c.fact 19 (f := .glo "circle_within") rfl), F_circle_within⟩ U C_path_to C_read_within C_way
  have C_circle_decision := ok_circle_decision (P := P) (w := w) (base := base) ⟨_, fd_circle_decision, He.glo_ok X G (c.fact 20 (f := .glo "circle_decision") rfl), F_circle_decision⟩ U C_can_read C_circle_within C_components_of C_grouped C_state_list C_ways_from
  have C_tail_after := ok_tail_after (P := P) (w := w) (base := base) ⟨_, fd_tail_after, He.glo_ok X G (c.fact 21 (f := .glo "tail_after") rfl), F_tail_after⟩ U
  have C_state_after := ok_state_after (P := P) (w := w) (base := base) ⟨_, fd_state_after, He.glo_ok X G (c.fact 22 (f := .glo "state_after") rfl), F_state_after⟩ U C_advance C_tail_after
  have C_line_way_of := ok_line_way_of (P := P) (w := w) (base := base) ⟨_, fd_line_way_of, He.glo_ok X G (c.fact 23 (f := .glo "line_way_of") rfl), F_line_way_of⟩ U C_following C_state_after
  have C_first_list := ok_first_list (P := P) (w := w) (base := base) ⟨_, fd_first_list, He.glo_ok X G (c.fact 24 (f := .glo "first_list") rfl), F_first_list⟩ U C_gram_list C_state_after
  have C_line_decision := ok_line_decision (P := P) (w := w) (base := base) ⟨_, fd_line_decision, He.glo_ok X G (c.fact 25 (f := .glo "line_decision") rfl), F_line_decision⟩ U C_first_list C_following C_line_way_of
  have C_decided := ok_decided (P := P) (w := w) (base := base) ⟨_, fd_decided, He.glo_ok X G (c.fact 26 (f := .glo "decided") rfl), F_decided⟩ U C_circle_decision C_line_decision C_window_list
  have C_check_question := ok_check_question (P := P) (w := w) (base := base) ⟨_, fd_check_question, He.glo_ok X G (c.fact 27 (f := .glo "check_question") rfl), F_check_question⟩ U C_check_shape C_check_shards
  have C_decide := ok_decide (P := P) (w := w) (base := base) ⟨_, fd_decide, He.glo_ok X G (c.fact 28 (f := .glo "decide") rfl), F_decide⟩ U C_check_line C_check_question C_check_word C_decided
  have C_example := ok_example (P := P) (w := w) (base := base) ⟨_, fd_example, He.glo_ok X G (c.fact 29 (f := .glo "example") rfl), F_example⟩ U c_NOWHERE C_check_line C_check_question C_decided
  have C_check_alphabet := ok_check_alphabet (P := P) (w := w) (base := base) ⟨_, fd_check_alphabet, He.glo_ok X G (c.fact 30 (f := .glo "check_alphabet") rfl), F_check_alphabet⟩ U
  have C_check_placed := ok_check_placed (P := P) (w := w) (base := base) ⟨_, fd_check_placed, He.glo_ok X G (c.fact 31 (f := .glo "check_placed") rfl), F_check_placed⟩ U c_SIZE_LIMIT C_check_alphabet
  have C_column_at := ok_column_at (P := P) (w := w) (base := base) ⟨_, fd_column_at, He.glo_ok X G (c.fact 32 (f := .glo "column_at") rfl), F_column_at⟩ U
  have C_wrong_with := ok_wrong_with (P := P) (w := w) (base := base) ⟨_, fd_wrong_with, He.glo_ok X G (c.fact 33 (f := .glo "wrong_with") rfl), F_wrong_with⟩ U
  have C_least_at := ok_least_at (P := P) (w := w) (base := base) ⟨_, fd_least_at, He.glo_ok X G (c.fact 34 (f := .glo "least_at") rfl), F_least_at⟩ U C_wrong_with
  have C_least_total := ok_least_total (P := P) (w := w) (base := base) ⟨_, fd_least_total, He.glo_ok X G (c.fact 35 (f := .glo "least_total") rfl), F_least_total⟩ U C_column_at C_least_at
  have C_check_budget := ok_check_budget (P := P) (w := w) (base := base) ⟨_, fd_check_budget, He.glo_ok X G (c.fact 36 (f := .glo "check_budget") rfl), F_check_budget⟩ U C_least_total
  have C_letters_within := ok_letters_within (P := P) (w := w) (base := base) ⟨_, fd_letters_within, He.glo_ok X G (c.fact 37 (f := .glo "letters_within") rfl), F_letters_within⟩ U C_least_at C_wrong_with
  have C_possible_letters := ok_possible_letters (P := P) (w := w) (base := base) ⟨_, fd_possible_letters, He.glo_ok X G (c.fact 38 (f := .glo "possible_letters") rfl), F_possible_letters⟩ U C_check_budget C_check_placed C_column_at C_letters_within
  have C_best_letters := ok_best_letters (P := P) (w := w) (base := base) ⟨_, fd_best_letters, He.glo_ok X G (c.fact 39 (f := .glo "best_letters") rfl), F_best_letters⟩ U C_column_at C_least_at C_wrong_with
  have C_voted := ok_voted (P := P) (w := w) (base := base) ⟨_, fd_voted, He.glo_ok X G (c.fact 40 (f := .glo "voted") rfl), F_voted⟩ U C_best_letters C_check_placed
  have C_corrected := ok_corrected (P := P) (w := w) (base := base) ⟨_, fd_corrected, He.glo_ok X G (c.fact 41 (f := .glo "corrected") rfl), F_corrected⟩ U
  have C_plain_grams := ok_plain_grams (P := P) (w := w) (base := base) ⟨_, fd_plain_grams, He.glo_ok X G (c.fact 42 (f := .glo "plain_grams") rfl), F_plain_grams⟩ U
  have C_next_window := ok_next_window (P := P) (w := w) (base := base) ⟨_, fd_next_window, He.glo_ok X G (c.fact 43 (f := .glo "next_window") rfl), F_next_window⟩ U
  have C_strand_from := ok_strand_from (P := P) (w := w) (base := base) ⟨_, fd_strand_from, He.glo_ok X G (c.fact 44 (f := .glo "strand_from") rfl), F_strand_from⟩ U C_next_window
  have C_spelled_row := ok_spelled_row (P := P) (w := w) (base := base) ⟨_, fd_spelled_row, He.glo_ok X G (c.fact 45 (f := .glo "spelled_row") rfl), F_spelled_row⟩ U
  have C_strands := ok_strands (P := P) (w := w) (base := base) ⟨_, fd_strands, He.glo_ok X G (c.fact 46 (f := .glo "strands") rfl), F_strands⟩ U C_plain_grams C_spelled_row C_strand_from C_windows_of
  have C_findings_of := ok_findings_of (P := P) (w := w) (base := base) ⟨_, fd_findings_of, He.glo_ok X G (c.fact 47 (f := .glo "findings_of") rfl), F_findings_of⟩ U c_WORD_LIMIT C_decided C_strands
  have C_sample_of := ok_sample_of (P := P) (w := w) (base := base) ⟨_, fd_sample_of, He.glo_ok X G (c.fact 48 (f := .glo "sample_of") rfl), F_sample_of⟩ U C_example
  have G_init := ok_Report_init (P := P) (w := w) (base := base) (f := He.ma K (He.ga K "Report") "__init__") ⟨fd_Report_init, F_Report_init⟩ U R
  have G_paper := ok_Report_paper (P := P) (w := w) (base := base) (f := He.ma K (He.ga K "Report") "paper") ⟨fd_Report_paper, F_Report_paper⟩ U R C_decide
  have C_assemble := ok_assemble (P := P) (w := w) (base := base) ⟨_, fd_assemble, He.glo_ok X G (c.fact 49 (f := .glo "assemble") rfl), F_assemble⟩ U R G_init C_check_line C_check_placed C_check_shape C_check_shards C_corrected C_findings_of C_possible_letters C_sample_of C_voted
  have C__law_begin := ok__law_begin (P := P) (w := w) (base := base) ⟨_, fd__law_begin, He.glo_ok X G (c.fact 50 (f := .glo "_law_begin") rfl), F__law_begin⟩ U
  have C__law_take := ok__law_take (P := P) (w := w) (base := base) ⟨_, fd__law_take, He.glo_ok X G (c.fact 51 (f := .glo "_law_take") rfl), F__law_take⟩ U
  have C__law_text := ok__law_text (P := P) (w := w) (base := base) ⟨_, fd__law_text, He.glo_ok X G (c.fact 52 (f := .glo "_law_text") rfl), F__law_text⟩ U C__law_take
  have C__law_rich := ok__law_rich (P := P) (w := w) (base := base) ⟨_, fd__law_rich, He.glo_ok X G (c.fact 53 (f := .glo "_law_rich") rfl), F__law_rich⟩ U C__law_take C__law_text
  have C__law_round := ok__law_round (P := P) (w := w) (base := base) ⟨_, fd__law_round, He.glo_ok X G (c.fact 54 (f := .glo "_law_round") rfl), F__law_round⟩ U
  have C__law_on_circle := ok__law_on_circle (P := P) (w := w) (base := base) ⟨_, fd__law_on_circle, He.glo_ok X G (c.fact 55 (f := .glo "_law_on_circle") rfl), F__law_on_circle⟩ U C__law_round
  have C__law_windows := ok__law_windows (P := P) (w := w) (base := base) ⟨_, fd__law_windows, He.glo_ok X G (c.fact 56 (f := .glo "_law_windows") rfl), F__law_windows⟩ U
  have C__law_explains := ok__law_explains (P := P) (w := w) (base := base) ⟨_, fd__law_explains, He.glo_ok X G (c.fact 57 (f := .glo "_law_explains") rfl), F__law_explains⟩ U C__law_on_circle C__law_round C__law_windows
  have C__law_wrong := ok__law_wrong (P := P) (w := w) (base := base) ⟨_, fd__law_wrong, He.glo_ok X G (c.fact 58 (f := .glo "_law_wrong") rfl), F__law_wrong⟩ U
  have C__law_alphabet := ok__law_alphabet (P := P) (w := w) (base := base) ⟨_, fd__law_alphabet, He.glo_ok X G (c.fact 59 (f := .glo "_law_alphabet") rfl), F__law_alphabet⟩ U
  have C__law_many := ok__law_many (P := P) (w := w) (base := base) ⟨_, fd__law_many, He.glo_ok X G (c.fact 60 (f := .glo "_law_many") rfl), F__law_many⟩ U C__law_take
  exact ok_law F_law U R G_paper C__law_alphabet C__law_begin C__law_explains C__law_many C__law_on_circle C__law_rich C__law_take C__law_wrong C_assemble
end
end K52
open PySem PySem.W PySem.Calls PyProof.Rows
set_option maxHeartbeats 0 in
theorem PySem.Challenge.cw_textshards_k52_whole_from_noisy_pieces_t_holds : PySem.Challenge.rw_textshards_k52_whole_from_noisy_pieces_t.Holds := by
  w_on; o_law
  refine HandSHeadRun.head_any (r := OpenLaw.row PySem.Challenge.rw_textshards_k52_whole_from_noisy_pieces_t) (q := view (OpenLaw.row PySem.Challenge.rw_textshards_k52_whole_from_noisy_pieces_t).prog [90]) (H := K52.Hd.hk) (ob := K52.Hd.ob) (M := 4000) (loose := K52.Hd.loose) (d := HandSHeadRun.topDef (OpenLaw.row PySem.Challenge.rw_textshards_k52_whole_from_noisy_pieces_t).prog 90) (kwd := []) K52.Hd.ob_eq
    (by kernel_rfl) (fun s => by kernel_rfl) K52.Hd.run (by kernel_rfl) (by kernel_rfl) (by kernel_rfl) (by rfl) (by first | assumption | decide +kernel) (by decide +kernel) ⟨rfl, rfl, rfl, rfl, rfl, by decide +kernel⟩ ?hw ?hc
  case hw => w_witness2
  case hc =>
    refine L2.walk_ofE (l := PySem.Challenge.rw_textshards_k52_whole_from_noisy_pieces_t) (n := 63) (k := 10) (x := "_law_script") (CX := L2.CX0) rfl (by decide) (by kernel_rfl) ⟨rfl, by decide, by decide⟩ ?F (fun _ _ _ _ z => z)
    intro w mg fa h Y G hmg0
    obtain ⟨K, KX, c⟩ := Y
    have hmg : mg ("law" : PySem.Str) = some (.ref fa) := by
      have e : (HandSHeadRun.topDef (OpenLaw.row PySem.Challenge.rw_textshards_k52_whole_from_noisy_pieces_t).prog 90).name = ("law" : PySem.Str) := by kernel_rfl
      rw [← e]
      exact hmg0
    obtain ⟨fd, hb, hF⟩ := K52.facts (P := (PySem.Challenge.rw_textshards_k52_whole_from_noisy_pieces_t).prog) (w := w) KX G hmg c
    exact ⟨K, fd, K52.sp_law K, KX, hb, fun H a ns hl _ hS => ⟨a, ns, rfl, hS, by omega, fun _ => rfl⟩, hF⟩
