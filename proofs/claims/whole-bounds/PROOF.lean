import PyProof.Rows.All
import Wide.All
import OpenK.AllK
import Wide.FinOn
import HandS.ForMost
import HandS.Head0
import HandS.Head1
import HandS.Head2
import HandS.HeadHook4
import HandS.HeadWalk
import HandS.Codes
import PyProof.CompMap
import HandS.IsInst
import HandS.Zip
import HandS.Wide
import HandS.TupAny
import HandS.Conv
import HandS.Deep
import HandS.Style
import HandS.TupLen
import HandS.More
import HandS.Walk
import KE.GoesEnum
import HandS.Sort
import HandS.SortOrd
import HandS.SortInts
import HandS.NamedTupSort
import HandS.List
import HandS.Words
import HandS.TupSets
import HandS.Lambda
import HandS.Nested
import HandS.Dict
import HandS.DictTup
import KE.KDictPairs
import HandS.Strs
import PySem.Challenge.RW_calmblanks_k63_whole_bounds_of_tables_th
set_option Elab.async false
set_option linter.all false
set_option maxRecDepth 100000
set_option maxHeartbeats 4000000
namespace Cb
open PySem L2
abbrev prg : Program := PySem.Challenge.pw_calmblanks_k63_whole_bounds_of_tables_th
def top (i : Nat) : Stmt := prg.main.body.getD i (.Pass ⟨0, 0, 0, 0⟩)
abbrev s_is_integer : Stmt := top 1
abbrev s_is_within : Stmt := top 2
abbrev s_is_pair : Stmt := top 3
abbrev s_BadSeen_init : Stmt := inClass (top 6) 0
abbrev s_BadText_init : Stmt := inClass (top 7) 0
abbrev s_divisor : Stmt := top 11
abbrev s_lowest : Stmt := top 12
abbrev s_is_fraction : Stmt := top 13
abbrev s_plus : Stmt := top 14
abbrev s_over : Stmt := top 15
abbrev s_add_all : Stmt := top 16
abbrev s_is_sizes : Stmt := top 22
abbrev s_is_view : Stmt := top 23
abbrev s_tuples_of : Stmt := top 24
abbrev s_contents_of : Stmt := top 25
abbrev s_views_of : Stmt := top 26
abbrev s_view_of : Stmt := top 27
abbrev s_pattern_of : Stmt := top 28
abbrev s_first_wrong : Stmt := top 29
abbrev s_first_bad : Stmt := top 30
abbrev s_Seen_init : Stmt := inClass (top 31) 0
abbrev s_Seen_eq : Stmt := inClass (top 31) 1
abbrev s_shares_of : Stmt := top 32
abbrev s_pattern_at : Stmt := top 33
abbrev s_family : Stmt := top 34
abbrev s_lacking : Stmt := top 35
abbrev s_is_full : Stmt := top 36
abbrev s_words_of : Stmt := top 40
abbrev s_column_of : Stmt := top 41
abbrev s_atom_of : Stmt := top 42
abbrev s_Reader_init : Stmt := inClass (top 43) 0
abbrev s_Reader_give_way : Stmt := inClass (top 43) 1
abbrev s_Reader_begin : Stmt := inClass (top 43) 2
abbrev s_Reader_take : Stmt := inClass (top 43) 3
abbrev s_Reader_is_whole : Stmt := inClass (top 43) 4
abbrev s_read_expression : Stmt := top 44
abbrev s_read_question : Stmt := top 45
abbrev s_is_met : Stmt := top 46
abbrev s_kinds_at : Stmt := top 47
abbrev s_quotient_of : Stmt := top 48
abbrev s_bounds : Stmt := top 49
abbrev s_L_hand : Stmt := top 51
abbrev s_L_draw : Stmt := top 52
abbrev s_L_any : Stmt := top 53
abbrev s_L_low : Stmt := top 54
abbrev s_L_contents : Stmt := top 55
abbrev s_L_patterns : Stmt := top 56
abbrev s_L_view : Stmt := top 57
abbrev s_L_weight : Stmt := top 58
abbrev s_L_family : Stmt := top 59
abbrev s_L_rows : Stmt := top 60
abbrev s_L_tree : Stmt := top 61
abbrev s_L_words : Stmt := top 62
abbrev s_L_join : Stmt := top 63
abbrev s_L_is_so : Stmt := top 64
abbrev s_L_question : Stmt := top 65
abbrev s_L_is_due : Stmt := top 66
abbrev s_L_shown_by : Stmt := top 67
abbrev s_L_kind : Stmt := top 68
abbrev s_L_views : Stmt := top 69
abbrev s_L_bounds : Stmt := top 70
abbrev s_L_share_question : Stmt := top 71
abbrev s_L_partial : Stmt := top 72
abbrev s_L_ends : Stmt := top 73
abbrev s_L_is_near : Stmt := top 74
abbrev s_law : Stmt := top 75
end Cb
namespace Cb
set_option maxHeartbeats 0
open PySem PySem.Spec PyProof.Rows L2
def d_is_integer : He.DefD := ⟨("is_integer", none), "is_integer", "is_integer", defArgs s_is_integer, defBody s_is_integer, defScope s_is_integer, [], []⟩
def d_is_within : He.DefD := ⟨("is_within", none), "is_within", "is_within", defArgs s_is_within, defBody s_is_within, defScope s_is_within, [], []⟩
def d_is_pair : He.DefD := ⟨("is_pair", none), "is_pair", "is_pair", defArgs s_is_pair, defBody s_is_pair, defScope s_is_pair, [], []⟩
def d_divisor : He.DefD := ⟨("divisor", none), "divisor", "divisor", defArgs s_divisor, defBody s_divisor, defScope s_divisor, [], []⟩
def d_lowest : He.DefD := ⟨("lowest", none), "lowest", "lowest", defArgs s_lowest, defBody s_lowest, defScope s_lowest, [], []⟩
def d_is_fraction : He.DefD := ⟨("is_fraction", none), "is_fraction", "is_fraction", defArgs s_is_fraction, defBody s_is_fraction, defScope s_is_fraction, [], []⟩
def d_plus : He.DefD := ⟨("plus", none), "plus", "plus", defArgs s_plus, defBody s_plus, defScope s_plus, [], []⟩
def d_over : He.DefD := ⟨("over", none), "over", "over", defArgs s_over, defBody s_over, defScope s_over, [], []⟩
def d_add_all : He.DefD := ⟨("add_all", none), "add_all", "add_all", defArgs s_add_all, defBody s_add_all, defScope s_add_all, [], []⟩
def d_is_sizes : He.DefD := ⟨("is_sizes", none), "is_sizes", "is_sizes", defArgs s_is_sizes, defBody s_is_sizes, defScope s_is_sizes, [], []⟩
def d_is_view : He.DefD := ⟨("is_view", none), "is_view", "is_view", defArgs s_is_view, defBody s_is_view, defScope s_is_view, [], []⟩
def d_tuples_of : He.DefD := ⟨("tuples_of", none), "tuples_of", "tuples_of", defArgs s_tuples_of, defBody s_tuples_of, defScope s_tuples_of, [], []⟩
def d_contents_of : He.DefD := ⟨("contents_of", none), "contents_of", "contents_of", defArgs s_contents_of, defBody s_contents_of, defScope s_contents_of, [], []⟩
def d_views_of : He.DefD := ⟨("views_of", none), "views_of", "views_of", defArgs s_views_of, defBody s_views_of, defScope s_views_of, [], []⟩
def d_view_of : He.DefD := ⟨("view_of", none), "view_of", "view_of", defArgs s_view_of, defBody s_view_of, defScope s_view_of, [], []⟩
def d_pattern_of : He.DefD := ⟨("pattern_of", none), "pattern_of", "pattern_of", defArgs s_pattern_of, defBody s_pattern_of, defScope s_pattern_of, [], []⟩
def d_first_wrong : He.DefD := ⟨("first_wrong", none), "first_wrong", "first_wrong", defArgs s_first_wrong, defBody s_first_wrong, defScope s_first_wrong, [], []⟩
def d_first_bad : He.DefD := ⟨("first_bad", none), "first_bad", "first_bad", defArgs s_first_bad, defBody s_first_bad, defScope s_first_bad, [], []⟩
def d_Seen_init : He.DefD := ⟨("Seen", some "__init__"), "__init__", "Seen.__init__", defArgs s_Seen_init, defBody s_Seen_init, defScope s_Seen_init, [], []⟩
def d_shares_of : He.DefD := ⟨("shares_of", none), "shares_of", "shares_of", defArgs s_shares_of, defBody s_shares_of, defScope s_shares_of, [], []⟩
def d_pattern_at : He.DefD := ⟨("pattern_at", none), "pattern_at", "pattern_at", defArgs s_pattern_at, defBody s_pattern_at, defScope s_pattern_at, [], []⟩
def d_family : He.DefD := ⟨("family", none), "family", "family", defArgs s_family, defBody s_family, defScope s_family, [], []⟩
def d_lacking : He.DefD := ⟨("lacking", none), "lacking", "lacking", defArgs s_lacking, defBody s_lacking, defScope s_lacking, [], []⟩
def d_is_full : He.DefD := ⟨("is_full", none), "is_full", "is_full", defArgs s_is_full, defBody s_is_full, defScope s_is_full, [], []⟩
def d_words_of : He.DefD := ⟨("words_of", none), "words_of", "words_of", defArgs s_words_of, defBody s_words_of, defScope s_words_of, [], []⟩
def d_column_of : He.DefD := ⟨("column_of", none), "column_of", "column_of", defArgs s_column_of, defBody s_column_of, defScope s_column_of, [], []⟩
def d_atom_of : He.DefD := ⟨("atom_of", none), "atom_of", "atom_of", defArgs s_atom_of, defBody s_atom_of, defScope s_atom_of, [], []⟩
def d_Reader_init : He.DefD := ⟨("Reader", some "__init__"), "__init__", "Reader.__init__", defArgs s_Reader_init, defBody s_Reader_init, defScope s_Reader_init, [], []⟩
def d_Reader_give_way : He.DefD := ⟨("Reader", some "give_way"), "give_way", "Reader.give_way", defArgs s_Reader_give_way, defBody s_Reader_give_way, defScope s_Reader_give_way, [], []⟩
def d_Reader_begin : He.DefD := ⟨("Reader", some "begin"), "begin", "Reader.begin", defArgs s_Reader_begin, defBody s_Reader_begin, defScope s_Reader_begin, [], []⟩
def d_Reader_take : He.DefD := ⟨("Reader", some "take"), "take", "Reader.take", defArgs s_Reader_take, defBody s_Reader_take, defScope s_Reader_take, [], []⟩
def d_Reader_is_whole : He.DefD := ⟨("Reader", some "is_whole"), "is_whole", "Reader.is_whole", defArgs s_Reader_is_whole, defBody s_Reader_is_whole, defScope s_Reader_is_whole, [], []⟩
def d_read_expression : He.DefD := ⟨("read_expression", none), "read_expression", "read_expression", defArgs s_read_expression, defBody s_read_expression, defScope s_read_expression, [], []⟩
def d_read_question : He.DefD := ⟨("read_question", none), "read_question", "read_question", defArgs s_read_question, defBody s_read_question, defScope s_read_question, [], []⟩
def d_is_met : He.DefD := ⟨("is_met", none), "is_met", "is_met", defArgs s_is_met, defBody s_is_met, defScope s_is_met, [], []⟩
def d_kinds_at : He.DefD := ⟨("kinds_at", none), "kinds_at", "kinds_at", defArgs s_kinds_at, defBody s_kinds_at, defScope s_kinds_at, [], []⟩
def d_quotient_of : He.DefD := ⟨("quotient_of", none), "quotient_of", "quotient_of", defArgs s_quotient_of, defBody s_quotient_of, defScope s_quotient_of, [], []⟩
def d_bounds : He.DefD := ⟨("bounds", none), "bounds", "bounds", defArgs s_bounds, defBody s_bounds, defScope s_bounds, [], []⟩
def d_L_hand : He.DefD := ⟨("_law_hand", none), "_law_hand", "_law_hand", defArgs s_L_hand, defBody s_L_hand, defScope s_L_hand, [], []⟩
def d_L_draw : He.DefD := ⟨("_law_draw", none), "_law_draw", "_law_draw", defArgs s_L_draw, defBody s_L_draw, defScope s_L_draw, [], []⟩
def d_L_any : He.DefD := ⟨("_law_any", none), "_law_any", "_law_any", defArgs s_L_any, defBody s_L_any, defScope s_L_any, [], []⟩
def d_L_low : He.DefD := ⟨("_law_low", none), "_law_low", "_law_low", defArgs s_L_low, defBody s_L_low, defScope s_L_low, [], []⟩
def d_L_contents : He.DefD := ⟨("_law_contents", none), "_law_contents", "_law_contents", defArgs s_L_contents, defBody s_L_contents, defScope s_L_contents, [], []⟩
def d_L_patterns : He.DefD := ⟨("_law_patterns", none), "_law_patterns", "_law_patterns", defArgs s_L_patterns, defBody s_L_patterns, defScope s_L_patterns, [], []⟩
def d_L_view : He.DefD := ⟨("_law_view", none), "_law_view", "_law_view", defArgs s_L_view, defBody s_L_view, defScope s_L_view, [], []⟩
def d_L_weight : He.DefD := ⟨("_law_weight", none), "_law_weight", "_law_weight", defArgs s_L_weight, defBody s_L_weight, defScope s_L_weight, [], []⟩
def d_L_family : He.DefD := ⟨("_law_family", none), "_law_family", "_law_family", defArgs s_L_family, defBody s_L_family, defScope s_L_family, [], []⟩
def d_L_rows : He.DefD := ⟨("_law_rows", none), "_law_rows", "_law_rows", defArgs s_L_rows, defBody s_L_rows, defScope s_L_rows, [], []⟩
def d_L_tree : He.DefD := ⟨("_law_tree", none), "_law_tree", "_law_tree", defArgs s_L_tree, defBody s_L_tree, defScope s_L_tree, [], []⟩
def d_L_words : He.DefD := ⟨("_law_words", none), "_law_words", "_law_words", defArgs s_L_words, defBody s_L_words, defScope s_L_words, [], []⟩
def d_L_join : He.DefD := ⟨("_law_join", none), "_law_join", "_law_join", defArgs s_L_join, defBody s_L_join, defScope s_L_join, [], []⟩
def d_L_is_so : He.DefD := ⟨("_law_is_so", none), "_law_is_so", "_law_is_so", defArgs s_L_is_so, defBody s_L_is_so, defScope s_L_is_so, [], []⟩
def d_L_question : He.DefD := ⟨("_law_question", none), "_law_question", "_law_question", defArgs s_L_question, defBody s_L_question, defScope s_L_question, [], []⟩
def d_L_is_due : He.DefD := ⟨("_law_is_due", none), "_law_is_due", "_law_is_due", defArgs s_L_is_due, defBody s_L_is_due, defScope s_L_is_due, [], []⟩
def d_L_shown_by : He.DefD := ⟨("_law_shown_by", none), "_law_shown_by", "_law_shown_by", defArgs s_L_shown_by, defBody s_L_shown_by, defScope s_L_shown_by, [], []⟩
def d_L_kind : He.DefD := ⟨("_law_kind", none), "_law_kind", "_law_kind", defArgs s_L_kind, defBody s_L_kind, defScope s_L_kind, [], []⟩
def d_L_views : He.DefD := ⟨("_law_views", none), "_law_views", "_law_views", defArgs s_L_views, defBody s_L_views, defScope s_L_views, [], []⟩
def d_L_bounds : He.DefD := ⟨("_law_bounds", none), "_law_bounds", "_law_bounds", defArgs s_L_bounds, defBody s_L_bounds, defScope s_L_bounds, [], []⟩
def d_L_share_question : He.DefD := ⟨("_law_share_question", none), "_law_share_question", "_law_share_question", defArgs s_L_share_question, defBody s_L_share_question, defScope s_L_share_question, [], []⟩
def d_L_partial : He.DefD := ⟨("_law_partial", none), "_law_partial", "_law_partial", defArgs s_L_partial, defBody s_L_partial, defScope s_L_partial, [], []⟩
def d_L_ends : He.DefD := ⟨("_law_ends", none), "_law_ends", "_law_ends", defArgs s_L_ends, defBody s_L_ends, defScope s_L_ends, [], []⟩
def d_L_is_near : He.DefD := ⟨("_law_is_near", none), "_law_is_near", "_law_is_near", defArgs s_L_is_near, defBody s_L_is_near, defScope s_L_is_near, [], []⟩
def d_law : He.DefD := ⟨("law", none), "law", "law", defArgs s_law, defBody s_law, defScope s_law, [], []⟩
def fns : List He.DefD := [d_is_integer, d_is_within, d_is_pair, d_divisor, d_lowest, d_is_fraction, d_plus, d_over, d_add_all, d_is_sizes, d_is_view, d_tuples_of, d_contents_of, d_views_of, d_view_of, d_pattern_of, d_first_wrong, d_first_bad, d_Seen_init, d_shares_of, d_pattern_at, d_family, d_lacking, d_is_full, d_words_of, d_column_of, d_atom_of, d_Reader_init, d_Reader_give_way, d_Reader_begin, d_Reader_take, d_Reader_is_whole, d_read_expression, d_read_question, d_is_met, d_kinds_at, d_quotient_of, d_bounds, d_L_hand, d_L_draw, d_L_any, d_L_low, d_L_contents, d_L_patterns, d_L_view, d_L_weight, d_L_family, d_L_rows, d_L_tree, d_L_words, d_L_join, d_L_is_so, d_L_question, d_L_is_due, d_L_shown_by, d_L_kind, d_L_views, d_L_bounds, d_L_share_question, d_L_partial, d_L_ends, d_L_is_near, d_law]
def fas : List He.Fa := [.glo "is_integer",
  .glo "is_within",
  .glo "is_pair",
  .glo "BlankError",
  .glo "BadSeen",
  .glo "BadText",
  .glo "ZERO",
  .glo "ONE",
  .glo "divisor",
  .glo "lowest",
  .glo "is_fraction",
  .glo "plus",
  .glo "over",
  .glo "add_all",
  .int "MOST_COLUMNS" 4,
  .int "MOST_WORTHS" 4,
  .int "MOST_CONTENTS" 64,
  .int "BLANK" (-1),
  .glo "is_sizes",
  .glo "is_view",
  .glo "tuples_of",
  .glo "contents_of",
  .glo "views_of",
  .glo "view_of",
  .glo "pattern_of",
  .glo "first_wrong",
  .glo "first_bad",
  .glo "Seen",
  .glo "shares_of",
  .glo "pattern_at",
  .glo "family",
  .glo "lacking",
  .glo "is_full",
  .str "FIGURES" "0123",
  .glo "BINDING",
  .glo "words_of",
  .glo "column_of",
  .glo "atom_of",
  .glo "Reader",
  .glo "read_expression",
  .glo "read_question",
  .glo "is_met",
  .glo "kinds_at",
  .glo "quotient_of",
  .glo "bounds",
  .glo "_law_hand",
  .glo "_law_draw",
  .glo "_law_any",
  .glo "_law_low",
  .glo "_law_contents",
  .glo "_law_patterns",
  .glo "_law_view",
  .glo "_law_weight",
  .glo "_law_family",
  .glo "_law_rows",
  .glo "_law_tree",
  .glo "_law_words",
  .glo "_law_join",
  .glo "_law_is_so",
  .glo "_law_question",
  .glo "_law_is_due",
  .glo "_law_shown_by",
  .glo "_law_kind",
  .glo "_law_views",
  .glo "_law_bounds",
  .glo "_law_share_question",
  .glo "_law_partial",
  .glo "_law_ends",
  .glo "_law_is_near",
  .glo "law",
  .free "ValueError",
  .free "abs",
  .free "all",
  .free "any",
  .free "bool",
  .free "dict",
  .free "enumerate",
  .free "int",
  .free "isinstance",
  .free "len",
  .free "list",
  .free "range",
  .free "set",
  .free "sorted",
  .free "str",
  .free "sum",
  .free "tuple",
  .free "zip",
  .cls "Seen",
  .mkr "Seen",
  .cls "Reader",
  .mkr "Reader",
  .noat "Seen" "sizes",
  .noat "Seen" "shares",
  .noat "Reader" "sizes",
  .noat "Reader" "steps",
  .noat "Reader" "waiting",
  .noat "Reader" "is_wanted",
  .meth "Reader" "give_way",
  .meth "Reader" "begin",
  .meth "Reader" "take",
  .meth "Reader" "is_whole"]
def tbs : List He.Tab := [(fun K => He.ga K "BINDING", ["or", "and", "not"])]
def tfs : List He.Defn := [("Seen", some "__init__")]
def exs (K : PySem.W.Frag) : Bool := He.tupB K "ZERO" [.int 0, .int 1] && He.tupB K "ONE" [.int 1, .int 1] && He.valsB K (He.ga K "BINDING") [("or", .int 1), ("and", .int 2), ("not", .int 3)]
abbrev R : PySem.W.OpenRow := PySem.W.OpenLaw.row PySem.Challenge.rw_calmblanks_k63_whole_bounds_of_tables_th
abbrev hk : PySem.W.Hook := He.hookX 6 fas fns tbs tfs exs
def ob (s : PySem.W.SharedT) : He.AlX := He.obsX 6 fas fns tbs tfs exs (HandSHeadRun.getT s)
theorem ob_eq (s : PySem.W.SharedT) : ob s = hk.obs s.abs := He.obsX_eq (HandSHeadRun.getT_eq s)
def lo0 : List PySem.Str := ["is_integer", "is_within", "is_pair", "BlankError", "BadSeen", "BadText", "ZERO", "ONE", "divisor", "lowest", "is_fraction", "plus", "over", "add_all", "MOST_COLUMNS", "MOST_WORTHS", "MOST_CONTENTS", "BLANK", "is_sizes", "is_view", "tuples_of", "contents_of", "views_of", "view_of", "pattern_of", "first_wrong", "first_bad", "Seen", "shares_of", "pattern_at"]
def lo1 : List PySem.Str := ["family", "lacking", "is_full", "FIGURES", "BINDING", "words_of", "column_of", "atom_of", "Reader", "read_expression", "read_question", "is_met", "kinds_at", "quotient_of", "bounds", "_law_hand", "_law_draw", "_law_any", "_law_low", "_law_contents", "_law_patterns", "_law_view", "_law_weight", "_law_family", "_law_rows", "_law_tree", "_law_words", "_law_join", "_law_is_so", "_law_question"]
def lo2 : List PySem.Str := ["_law_is_due", "_law_shown_by", "_law_kind", "_law_views", "_law_bounds", "_law_share_question", "_law_partial", "_law_ends", "_law_is_near"]
def loose : List PySem.Str := lo0 ++ lo1 ++ lo2
theorem run0 (w : World) : HandSHeadRun.RunEq R (PySem.W.view R.prog [75]) hk ob 4000 loose (w.withFollow "special-get-raises" false) := by
  intro os
  kernel_rfl
theorem run1 (w : World) : HandSHeadRun.RunEq R (PySem.W.view R.prog [75]) hk ob 4000 loose (w.withFollow "special-get-raises" true) := by
  intro os
  kernel_rfl
theorem run (w : World) : HandSHeadRun.RunEq R (PySem.W.view R.prog [75]) hk ob 4000 loose w := PySem.W.byRow2 "special-get-raises" (P := HandSHeadRun.RunEq R (PySem.W.view R.prog [75]) hk ob 4000 loose) run0 run1 w
end Cb
namespace Cb
open PySem PySem.Spec PyProof.Rows L2
/-! ### the head's facts by names -/
structure Txt (w : World) (K : PySem.W.Frag) (mg : Str → Option Value) : Prop where
  d : He.SaysD fas fns K
  tab : ∃ es n, KDict K w (He.ga K "BINDING") es n
  ex : exs K = true
  m : ∃ h : Heap, K.In h ∧ h.Ns mainGlobals mg
section
variable {w : World} {K : PySem.W.Frag} {mg : Str → Option Value}
theorem Txt.glo (T : Txt w K mg) {x : Str} (i : Nat) (h : fas[i]? = some (.glo x)) : mg x = some (.ref (He.ga K x)) := by
  obtain ⟨hh, X, G⟩ := T.m
  exact He.glo_ok X G (T.d.fact i h)
theorem Txt.fre (T : Txt w K mg) {x : Str} (i : Nat) (h : fas[i]? = some (.free x)) : mg x = none := by
  obtain ⟨hh, X, G⟩ := T.m
  exact He.free_ok X G (T.d.fact i h)
theorem Txt.num (T : Txt w K mg) {x : Str} {k : Int} (i : Nat) (h : fas[i]? = some (.int x k)) : ∃ u, mg x = some u ∧ RelV (.int k) u := by
  obtain ⟨hh, X, G⟩ := T.m
  obtain ⟨t, e⟩ := He.int_ok X G (T.d.fact i h)
  exact ⟨_, e, t, rfl⟩
theorem Txt.txt (T : Txt w K mg) {x z : Str} (i : Nat) (h : fas[i]? = some (.str x z)) : ∃ u, mg x = some u ∧ RelV (.str z) u := by
  obtain ⟨hh, X, G⟩ := T.m
  obtain ⟨t, e⟩ := He.str_ok X G (T.d.fact i h)
  exact ⟨_, e, t, rfl⟩
theorem Txt.ref (T : Txt w K mg) {x : Str} (i : Nat) (h : fas[i]? = some (.glo x)) : ∃ u, mg x = some u ∧ RelV (.ref (He.ga K x)) u := ⟨_, T.glo i h, rfl⟩
/-- the function object at f, as K has it -/
def fdA (K : PySem.W.Frag) (f : Addr) : FuncData := match K.lookup f with
  | some ⟨_, _, .func fd, _⟩ => fd
  | _ => default
theorem Txt.fun_ (T : Txt w K mg) (i : Nat) {d : He.DefD} (h : fns[i]? = some d) : FunD K d.name d.qual d.params d.body d.scope (d.dvs K) (d.kws K) (He.fAd K d.at_) (fdA K (He.fAd K d.at_)) := by
  obtain ⟨fd, F⟩ := T.d.def_ i h
  obtain ⟨oc, od, dV, kV, doc, pm, an, cdv, ct, osl, e, lk, r⟩ := F.ex
  have e2 : fdA K (He.fAd K d.at_) = fd := by
    unfold fdA
    rw [lk]
  rw [e2]
  exact F

theorem Txt.g_is_integer (T : Txt w K mg) : mg "is_integer" = some (.ref (He.ga K "is_integer")) := T.glo 0 rfl
theorem Txt.g_is_within (T : Txt w K mg) : mg "is_within" = some (.ref (He.ga K "is_within")) := T.glo 1 rfl
theorem Txt.g_is_pair (T : Txt w K mg) : mg "is_pair" = some (.ref (He.ga K "is_pair")) := T.glo 2 rfl
theorem Txt.g_BlankError (T : Txt w K mg) : mg "BlankError" = some (.ref (He.ga K "BlankError")) := T.glo 3 rfl
theorem Txt.g_BadSeen (T : Txt w K mg) : mg "BadSeen" = some (.ref (He.ga K "BadSeen")) := T.glo 4 rfl
theorem Txt.g_BadText (T : Txt w K mg) : mg "BadText" = some (.ref (He.ga K "BadText")) := T.glo 5 rfl
theorem Txt.g_ZERO (T : Txt w K mg) : mg "ZERO" = some (.ref (He.ga K "ZERO")) := T.glo 6 rfl
theorem Txt.v_ZERO (T : Txt w K mg) : ∃ u, mg "ZERO" = some u ∧ RelV (.ref (He.ga K "ZERO")) u := T.ref 6 rfl
theorem Txt.g_ONE (T : Txt w K mg) : mg "ONE" = some (.ref (He.ga K "ONE")) := T.glo 7 rfl
theorem Txt.v_ONE (T : Txt w K mg) : ∃ u, mg "ONE" = some u ∧ RelV (.ref (He.ga K "ONE")) u := T.ref 7 rfl
theorem Txt.g_divisor (T : Txt w K mg) : mg "divisor" = some (.ref (He.ga K "divisor")) := T.glo 8 rfl
theorem Txt.g_lowest (T : Txt w K mg) : mg "lowest" = some (.ref (He.ga K "lowest")) := T.glo 9 rfl
theorem Txt.g_is_fraction (T : Txt w K mg) : mg "is_fraction" = some (.ref (He.ga K "is_fraction")) := T.glo 10 rfl
theorem Txt.g_plus (T : Txt w K mg) : mg "plus" = some (.ref (He.ga K "plus")) := T.glo 11 rfl
theorem Txt.g_over (T : Txt w K mg) : mg "over" = some (.ref (He.ga K "over")) := T.glo 12 rfl
theorem Txt.g_add_all (T : Txt w K mg) : mg "add_all" = some (.ref (He.ga K "add_all")) := T.glo 13 rfl
theorem Txt.v_MOST_COLUMNS (T : Txt w K mg) : ∃ u, mg "MOST_COLUMNS" = some u ∧ RelV (.int 4) u := T.num 14 rfl
theorem Txt.v_MOST_WORTHS (T : Txt w K mg) : ∃ u, mg "MOST_WORTHS" = some u ∧ RelV (.int 4) u := T.num 15 rfl
theorem Txt.v_MOST_CONTENTS (T : Txt w K mg) : ∃ u, mg "MOST_CONTENTS" = some u ∧ RelV (.int 64) u := T.num 16 rfl
theorem Txt.v_BLANK (T : Txt w K mg) : ∃ u, mg "BLANK" = some u ∧ RelV (.int (-1)) u := T.num 17 rfl
theorem Txt.g_is_sizes (T : Txt w K mg) : mg "is_sizes" = some (.ref (He.ga K "is_sizes")) := T.glo 18 rfl
theorem Txt.g_is_view (T : Txt w K mg) : mg "is_view" = some (.ref (He.ga K "is_view")) := T.glo 19 rfl
theorem Txt.g_tuples_of (T : Txt w K mg) : mg "tuples_of" = some (.ref (He.ga K "tuples_of")) := T.glo 20 rfl
theorem Txt.g_contents_of (T : Txt w K mg) : mg "contents_of" = some (.ref (He.ga K "contents_of")) := T.glo 21 rfl
theorem Txt.g_views_of (T : Txt w K mg) : mg "views_of" = some (.ref (He.ga K "views_of")) := T.glo 22 rfl
theorem Txt.g_view_of (T : Txt w K mg) : mg "view_of" = some (.ref (He.ga K "view_of")) := T.glo 23 rfl
theorem Txt.g_pattern_of (T : Txt w K mg) : mg "pattern_of" = some (.ref (He.ga K "pattern_of")) := T.glo 24 rfl
theorem Txt.g_first_wrong (T : Txt w K mg) : mg "first_wrong" = some (.ref (He.ga K "first_wrong")) := T.glo 25 rfl
theorem Txt.g_first_bad (T : Txt w K mg) : mg "first_bad" = some (.ref (He.ga K "first_bad")) := T.glo 26 rfl
theorem Txt.g_Seen (T : Txt w K mg) : mg "Seen" = some (.ref (He.ga K "Seen")) := T.glo 27 rfl
theorem Txt.g_shares_of (T : Txt w K mg) : mg "shares_of" = some (.ref (He.ga K "shares_of")) := T.glo 28 rfl
theorem Txt.g_pattern_at (T : Txt w K mg) : mg "pattern_at" = some (.ref (He.ga K "pattern_at")) := T.glo 29 rfl
theorem Txt.g_family (T : Txt w K mg) : mg "family" = some (.ref (He.ga K "family")) := T.glo 30 rfl
theorem Txt.g_lacking (T : Txt w K mg) : mg "lacking" = some (.ref (He.ga K "lacking")) := T.glo 31 rfl
theorem Txt.g_is_full (T : Txt w K mg) : mg "is_full" = some (.ref (He.ga K "is_full")) := T.glo 32 rfl
theorem Txt.v_FIGURES (T : Txt w K mg) : ∃ u, mg "FIGURES" = some u ∧ RelV (.str "0123") u := T.txt 33 rfl
theorem Txt.g_BINDING (T : Txt w K mg) : mg "BINDING" = some (.ref (He.ga K "BINDING")) := T.glo 34 rfl
theorem Txt.v_BINDING (T : Txt w K mg) : ∃ u, mg "BINDING" = some u ∧ RelV (.ref (He.ga K "BINDING")) u := T.ref 34 rfl
theorem Txt.g_words_of (T : Txt w K mg) : mg "words_of" = some (.ref (He.ga K "words_of")) := T.glo 35 rfl
theorem Txt.g_column_of (T : Txt w K mg) : mg "column_of" = some (.ref (He.ga K "column_of")) := T.glo 36 rfl
theorem Txt.g_atom_of (T : Txt w K mg) : mg "atom_of" = some (.ref (He.ga K "atom_of")) := T.glo 37 rfl
theorem Txt.g_Reader (T : Txt w K mg) : mg "Reader" = some (.ref (He.ga K "Reader")) := T.glo 38 rfl
theorem Txt.g_read_expression (T : Txt w K mg) : mg "read_expression" = some (.ref (He.ga K "read_expression")) := T.glo 39 rfl
theorem Txt.g_read_question (T : Txt w K mg) : mg "read_question" = some (.ref (He.ga K "read_question")) := T.glo 40 rfl
theorem Txt.g_is_met (T : Txt w K mg) : mg "is_met" = some (.ref (He.ga K "is_met")) := T.glo 41 rfl
theorem Txt.g_kinds_at (T : Txt w K mg) : mg "kinds_at" = some (.ref (He.ga K "kinds_at")) := T.glo 42 rfl
theorem Txt.g_quotient_of (T : Txt w K mg) : mg "quotient_of" = some (.ref (He.ga K "quotient_of")) := T.glo 43 rfl
theorem Txt.g_bounds (T : Txt w K mg) : mg "bounds" = some (.ref (He.ga K "bounds")) := T.glo 44 rfl
theorem Txt.g__law_hand (T : Txt w K mg) : mg "_law_hand" = some (.ref (He.ga K "_law_hand")) := T.glo 45 rfl
theorem Txt.g__law_draw (T : Txt w K mg) : mg "_law_draw" = some (.ref (He.ga K "_law_draw")) := T.glo 46 rfl
theorem Txt.g__law_any (T : Txt w K mg) : mg "_law_any" = some (.ref (He.ga K "_law_any")) := T.glo 47 rfl
theorem Txt.g__law_low (T : Txt w K mg) : mg "_law_low" = some (.ref (He.ga K "_law_low")) := T.glo 48 rfl
theorem Txt.g__law_contents (T : Txt w K mg) : mg "_law_contents" = some (.ref (He.ga K "_law_contents")) := T.glo 49 rfl
theorem Txt.g__law_patterns (T : Txt w K mg) : mg "_law_patterns" = some (.ref (He.ga K "_law_patterns")) := T.glo 50 rfl
theorem Txt.g__law_view (T : Txt w K mg) : mg "_law_view" = some (.ref (He.ga K "_law_view")) := T.glo 51 rfl
theorem Txt.g__law_weight (T : Txt w K mg) : mg "_law_weight" = some (.ref (He.ga K "_law_weight")) := T.glo 52 rfl
theorem Txt.g__law_family (T : Txt w K mg) : mg "_law_family" = some (.ref (He.ga K "_law_family")) := T.glo 53 rfl
theorem Txt.g__law_rows (T : Txt w K mg) : mg "_law_rows" = some (.ref (He.ga K "_law_rows")) := T.glo 54 rfl
theorem Txt.g__law_tree (T : Txt w K mg) : mg "_law_tree" = some (.ref (He.ga K "_law_tree")) := T.glo 55 rfl
theorem Txt.g__law_words (T : Txt w K mg) : mg "_law_words" = some (.ref (He.ga K "_law_words")) := T.glo 56 rfl
theorem Txt.g__law_join (T : Txt w K mg) : mg "_law_join" = some (.ref (He.ga K "_law_join")) := T.glo 57 rfl
theorem Txt.g__law_is_so (T : Txt w K mg) : mg "_law_is_so" = some (.ref (He.ga K "_law_is_so")) := T.glo 58 rfl
theorem Txt.g__law_question (T : Txt w K mg) : mg "_law_question" = some (.ref (He.ga K "_law_question")) := T.glo 59 rfl
theorem Txt.g__law_is_due (T : Txt w K mg) : mg "_law_is_due" = some (.ref (He.ga K "_law_is_due")) := T.glo 60 rfl
theorem Txt.g__law_shown_by (T : Txt w K mg) : mg "_law_shown_by" = some (.ref (He.ga K "_law_shown_by")) := T.glo 61 rfl
theorem Txt.g__law_kind (T : Txt w K mg) : mg "_law_kind" = some (.ref (He.ga K "_law_kind")) := T.glo 62 rfl
theorem Txt.g__law_views (T : Txt w K mg) : mg "_law_views" = some (.ref (He.ga K "_law_views")) := T.glo 63 rfl
theorem Txt.g__law_bounds (T : Txt w K mg) : mg "_law_bounds" = some (.ref (He.ga K "_law_bounds")) := T.glo 64 rfl
theorem Txt.g__law_share_question (T : Txt w K mg) : mg "_law_share_question" = some (.ref (He.ga K "_law_share_question")) := T.glo 65 rfl
theorem Txt.g__law_partial (T : Txt w K mg) : mg "_law_partial" = some (.ref (He.ga K "_law_partial")) := T.glo 66 rfl
theorem Txt.g__law_ends (T : Txt w K mg) : mg "_law_ends" = some (.ref (He.ga K "_law_ends")) := T.glo 67 rfl
theorem Txt.g__law_is_near (T : Txt w K mg) : mg "_law_is_near" = some (.ref (He.ga K "_law_is_near")) := T.glo 68 rfl
theorem Txt.g_law (T : Txt w K mg) : mg "law" = some (.ref (He.ga K "law")) := T.glo 69 rfl
theorem Txt.z_ValueError (T : Txt w K mg) : mg "ValueError" = none := T.fre 70 rfl
theorem Txt.z_abs (T : Txt w K mg) : mg "abs" = none := T.fre 71 rfl
theorem Txt.z_all (T : Txt w K mg) : mg "all" = none := T.fre 72 rfl
theorem Txt.z_any (T : Txt w K mg) : mg "any" = none := T.fre 73 rfl
theorem Txt.z_bool (T : Txt w K mg) : mg "bool" = none := T.fre 74 rfl
theorem Txt.z_dict (T : Txt w K mg) : mg "dict" = none := T.fre 75 rfl
theorem Txt.z_enumerate (T : Txt w K mg) : mg "enumerate" = none := T.fre 76 rfl
theorem Txt.z_int (T : Txt w K mg) : mg "int" = none := T.fre 77 rfl
theorem Txt.z_isinstance (T : Txt w K mg) : mg "isinstance" = none := T.fre 78 rfl
theorem Txt.z_len (T : Txt w K mg) : mg "len" = none := T.fre 79 rfl
theorem Txt.z_list (T : Txt w K mg) : mg "list" = none := T.fre 80 rfl
theorem Txt.z_range (T : Txt w K mg) : mg "range" = none := T.fre 81 rfl
theorem Txt.z_set (T : Txt w K mg) : mg "set" = none := T.fre 82 rfl
theorem Txt.z_sorted (T : Txt w K mg) : mg "sorted" = none := T.fre 83 rfl
theorem Txt.z_str (T : Txt w K mg) : mg "str" = none := T.fre 84 rfl
theorem Txt.z_sum (T : Txt w K mg) : mg "sum" = none := T.fre 85 rfl
theorem Txt.z_tuple (T : Txt w K mg) : mg "tuple" = none := T.fre 86 rfl
theorem Txt.z_zip (T : Txt w K mg) : mg "zip" = none := T.fre 87 rfl
theorem Txt.cl_Seen (T : Txt w K mg) : Cls K (He.ga K "Seen") := He.cls_ok (T.d.fact 88 (f := .cls "Seen") rfl)
theorem Txt.mk_Seen (T : Txt w K mg) : Mk K (He.ga K "Seen") (He.ma K (He.ga K "Seen") "__init__") := He.mkr_ok (T.d.fact 89 (f := .mkr "Seen") rfl)
theorem Txt.cl_Reader (T : Txt w K mg) : Cls K (He.ga K "Reader") := He.cls_ok (T.d.fact 90 (f := .cls "Reader") rfl)
theorem Txt.mk_Reader (T : Txt w K mg) : Mk K (He.ga K "Reader") (He.ma K (He.ga K "Reader") "__init__") := He.mkr_ok (T.d.fact 91 (f := .mkr "Reader") rfl)
theorem Txt.n_Seen_sizes (T : Txt w K mg) : NoAttr K (He.ga K "Seen") "sizes" := He.noat_ok (T.d.fact 92 (f := .noat "Seen" "sizes") rfl)
theorem Txt.n_Seen_shares (T : Txt w K mg) : NoAttr K (He.ga K "Seen") "shares" := He.noat_ok (T.d.fact 93 (f := .noat "Seen" "shares") rfl)
theorem Txt.n_Reader_sizes (T : Txt w K mg) : NoAttr K (He.ga K "Reader") "sizes" := He.noat_ok (T.d.fact 94 (f := .noat "Reader" "sizes") rfl)
theorem Txt.n_Reader_steps (T : Txt w K mg) : NoAttr K (He.ga K "Reader") "steps" := He.noat_ok (T.d.fact 95 (f := .noat "Reader" "steps") rfl)
theorem Txt.n_Reader_waiting (T : Txt w K mg) : NoAttr K (He.ga K "Reader") "waiting" := He.noat_ok (T.d.fact 96 (f := .noat "Reader" "waiting") rfl)
theorem Txt.n_Reader_is_wanted (T : Txt w K mg) : NoAttr K (He.ga K "Reader") "is_wanted" := He.noat_ok (T.d.fact 97 (f := .noat "Reader" "is_wanted") rfl)
theorem Txt.m_Reader_give_way (T : Txt w K mg) : Meth K (He.ga K "Reader") "give_way" (He.ma K (He.ga K "Reader") "give_way") := He.meth_ok (T.d.fact 98 (f := .meth "Reader" "give_way") rfl)
theorem Txt.m_Reader_begin (T : Txt w K mg) : Meth K (He.ga K "Reader") "begin" (He.ma K (He.ga K "Reader") "begin") := He.meth_ok (T.d.fact 99 (f := .meth "Reader" "begin") rfl)
theorem Txt.m_Reader_take (T : Txt w K mg) : Meth K (He.ga K "Reader") "take" (He.ma K (He.ga K "Reader") "take") := He.meth_ok (T.d.fact 100 (f := .meth "Reader" "take") rfl)
theorem Txt.m_Reader_is_whole (T : Txt w K mg) : Meth K (He.ga K "Reader") "is_whole" (He.ma K (He.ga K "Reader") "is_whole") := He.meth_ok (T.d.fact 101 (f := .meth "Reader" "is_whole") rfl)
theorem Txt.F_is_integer (T : Txt w K mg) : FunD K "is_integer" "is_integer" (defArgs s_is_integer) (defBody s_is_integer) (defScope s_is_integer) [] [] (He.ga K "is_integer") (fdA K (He.ga K "is_integer")) := T.fun_ 0 (d := d_is_integer) rfl
theorem Txt.F_is_within (T : Txt w K mg) : FunD K "is_within" "is_within" (defArgs s_is_within) (defBody s_is_within) (defScope s_is_within) [] [] (He.ga K "is_within") (fdA K (He.ga K "is_within")) := T.fun_ 1 (d := d_is_within) rfl
theorem Txt.F_is_pair (T : Txt w K mg) : FunD K "is_pair" "is_pair" (defArgs s_is_pair) (defBody s_is_pair) (defScope s_is_pair) [] [] (He.ga K "is_pair") (fdA K (He.ga K "is_pair")) := T.fun_ 2 (d := d_is_pair) rfl
theorem Txt.F_divisor (T : Txt w K mg) : FunD K "divisor" "divisor" (defArgs s_divisor) (defBody s_divisor) (defScope s_divisor) [] [] (He.ga K "divisor") (fdA K (He.ga K "divisor")) := T.fun_ 3 (d := d_divisor) rfl
theorem Txt.F_lowest (T : Txt w K mg) : FunD K "lowest" "lowest" (defArgs s_lowest) (defBody s_lowest) (defScope s_lowest) [] [] (He.ga K "lowest") (fdA K (He.ga K "lowest")) := T.fun_ 4 (d := d_lowest) rfl
theorem Txt.F_is_fraction (T : Txt w K mg) : FunD K "is_fraction" "is_fraction" (defArgs s_is_fraction) (defBody s_is_fraction) (defScope s_is_fraction) [] [] (He.ga K "is_fraction") (fdA K (He.ga K "is_fraction")) := T.fun_ 5 (d := d_is_fraction) rfl
theorem Txt.F_plus (T : Txt w K mg) : FunD K "plus" "plus" (defArgs s_plus) (defBody s_plus) (defScope s_plus) [] [] (He.ga K "plus") (fdA K (He.ga K "plus")) := T.fun_ 6 (d := d_plus) rfl
theorem Txt.F_over (T : Txt w K mg) : FunD K "over" "over" (defArgs s_over) (defBody s_over) (defScope s_over) [] [] (He.ga K "over") (fdA K (He.ga K "over")) := T.fun_ 7 (d := d_over) rfl
theorem Txt.F_add_all (T : Txt w K mg) : FunD K "add_all" "add_all" (defArgs s_add_all) (defBody s_add_all) (defScope s_add_all) [] [] (He.ga K "add_all") (fdA K (He.ga K "add_all")) := T.fun_ 8 (d := d_add_all) rfl
theorem Txt.F_is_sizes (T : Txt w K mg) : FunD K "is_sizes" "is_sizes" (defArgs s_is_sizes) (defBody s_is_sizes) (defScope s_is_sizes) [] [] (He.ga K "is_sizes") (fdA K (He.ga K "is_sizes")) := T.fun_ 9 (d := d_is_sizes) rfl
theorem Txt.F_is_view (T : Txt w K mg) : FunD K "is_view" "is_view" (defArgs s_is_view) (defBody s_is_view) (defScope s_is_view) [] [] (He.ga K "is_view") (fdA K (He.ga K "is_view")) := T.fun_ 10 (d := d_is_view) rfl
theorem Txt.F_tuples_of (T : Txt w K mg) : FunD K "tuples_of" "tuples_of" (defArgs s_tuples_of) (defBody s_tuples_of) (defScope s_tuples_of) [] [] (He.ga K "tuples_of") (fdA K (He.ga K "tuples_of")) := T.fun_ 11 (d := d_tuples_of) rfl
theorem Txt.F_contents_of (T : Txt w K mg) : FunD K "contents_of" "contents_of" (defArgs s_contents_of) (defBody s_contents_of) (defScope s_contents_of) [] [] (He.ga K "contents_of") (fdA K (He.ga K "contents_of")) := T.fun_ 12 (d := d_contents_of) rfl
theorem Txt.F_views_of (T : Txt w K mg) : FunD K "views_of" "views_of" (defArgs s_views_of) (defBody s_views_of) (defScope s_views_of) [] [] (He.ga K "views_of") (fdA K (He.ga K "views_of")) := T.fun_ 13 (d := d_views_of) rfl
theorem Txt.F_view_of (T : Txt w K mg) : FunD K "view_of" "view_of" (defArgs s_view_of) (defBody s_view_of) (defScope s_view_of) [] [] (He.ga K "view_of") (fdA K (He.ga K "view_of")) := T.fun_ 14 (d := d_view_of) rfl
theorem Txt.F_pattern_of (T : Txt w K mg) : FunD K "pattern_of" "pattern_of" (defArgs s_pattern_of) (defBody s_pattern_of) (defScope s_pattern_of) [] [] (He.ga K "pattern_of") (fdA K (He.ga K "pattern_of")) := T.fun_ 15 (d := d_pattern_of) rfl
theorem Txt.F_first_wrong (T : Txt w K mg) : FunD K "first_wrong" "first_wrong" (defArgs s_first_wrong) (defBody s_first_wrong) (defScope s_first_wrong) [] [] (He.ga K "first_wrong") (fdA K (He.ga K "first_wrong")) := T.fun_ 16 (d := d_first_wrong) rfl
theorem Txt.F_first_bad (T : Txt w K mg) : FunD K "first_bad" "first_bad" (defArgs s_first_bad) (defBody s_first_bad) (defScope s_first_bad) [] [] (He.ga K "first_bad") (fdA K (He.ga K "first_bad")) := T.fun_ 17 (d := d_first_bad) rfl
theorem Txt.F_Seen_init (T : Txt w K mg) : FunD K "__init__" "Seen.__init__" (defArgs s_Seen_init) (defBody s_Seen_init) (defScope s_Seen_init) [] [] (He.ma K (He.ga K "Seen") "__init__") (fdA K (He.ma K (He.ga K "Seen") "__init__")) := T.fun_ 18 (d := d_Seen_init) rfl
theorem Txt.F_shares_of (T : Txt w K mg) : FunD K "shares_of" "shares_of" (defArgs s_shares_of) (defBody s_shares_of) (defScope s_shares_of) [] [] (He.ga K "shares_of") (fdA K (He.ga K "shares_of")) := T.fun_ 19 (d := d_shares_of) rfl
theorem Txt.F_pattern_at (T : Txt w K mg) : FunD K "pattern_at" "pattern_at" (defArgs s_pattern_at) (defBody s_pattern_at) (defScope s_pattern_at) [] [] (He.ga K "pattern_at") (fdA K (He.ga K "pattern_at")) := T.fun_ 20 (d := d_pattern_at) rfl
theorem Txt.F_family (T : Txt w K mg) : FunD K "family" "family" (defArgs s_family) (defBody s_family) (defScope s_family) [] [] (He.ga K "family") (fdA K (He.ga K "family")) := T.fun_ 21 (d := d_family) rfl
theorem Txt.F_lacking (T : Txt w K mg) : FunD K "lacking" "lacking" (defArgs s_lacking) (defBody s_lacking) (defScope s_lacking) [] [] (He.ga K "lacking") (fdA K (He.ga K "lacking")) := T.fun_ 22 (d := d_lacking) rfl
theorem Txt.F_is_full (T : Txt w K mg) : FunD K "is_full" "is_full" (defArgs s_is_full) (defBody s_is_full) (defScope s_is_full) [] [] (He.ga K "is_full") (fdA K (He.ga K "is_full")) := T.fun_ 23 (d := d_is_full) rfl
theorem Txt.F_words_of (T : Txt w K mg) : FunD K "words_of" "words_of" (defArgs s_words_of) (defBody s_words_of) (defScope s_words_of) [] [] (He.ga K "words_of") (fdA K (He.ga K "words_of")) := T.fun_ 24 (d := d_words_of) rfl
theorem Txt.F_column_of (T : Txt w K mg) : FunD K "column_of" "column_of" (defArgs s_column_of) (defBody s_column_of) (defScope s_column_of) [] [] (He.ga K "column_of") (fdA K (He.ga K "column_of")) := T.fun_ 25 (d := d_column_of) rfl
theorem Txt.F_atom_of (T : Txt w K mg) : FunD K "atom_of" "atom_of" (defArgs s_atom_of) (defBody s_atom_of) (defScope s_atom_of) [] [] (He.ga K "atom_of") (fdA K (He.ga K "atom_of")) := T.fun_ 26 (d := d_atom_of) rfl
theorem Txt.F_Reader_init (T : Txt w K mg) : FunD K "__init__" "Reader.__init__" (defArgs s_Reader_init) (defBody s_Reader_init) (defScope s_Reader_init) [] [] (He.ma K (He.ga K "Reader") "__init__") (fdA K (He.ma K (He.ga K "Reader") "__init__")) := T.fun_ 27 (d := d_Reader_init) rfl
theorem Txt.F_Reader_give_way (T : Txt w K mg) : FunD K "give_way" "Reader.give_way" (defArgs s_Reader_give_way) (defBody s_Reader_give_way) (defScope s_Reader_give_way) [] [] (He.ma K (He.ga K "Reader") "give_way") (fdA K (He.ma K (He.ga K "Reader") "give_way")) := T.fun_ 28 (d := d_Reader_give_way) rfl
theorem Txt.F_Reader_begin (T : Txt w K mg) : FunD K "begin" "Reader.begin" (defArgs s_Reader_begin) (defBody s_Reader_begin) (defScope s_Reader_begin) [] [] (He.ma K (He.ga K "Reader") "begin") (fdA K (He.ma K (He.ga K "Reader") "begin")) := T.fun_ 29 (d := d_Reader_begin) rfl
theorem Txt.F_Reader_take (T : Txt w K mg) : FunD K "take" "Reader.take" (defArgs s_Reader_take) (defBody s_Reader_take) (defScope s_Reader_take) [] [] (He.ma K (He.ga K "Reader") "take") (fdA K (He.ma K (He.ga K "Reader") "take")) := T.fun_ 30 (d := d_Reader_take) rfl
theorem Txt.F_Reader_is_whole (T : Txt w K mg) : FunD K "is_whole" "Reader.is_whole" (defArgs s_Reader_is_whole) (defBody s_Reader_is_whole) (defScope s_Reader_is_whole) [] [] (He.ma K (He.ga K "Reader") "is_whole") (fdA K (He.ma K (He.ga K "Reader") "is_whole")) := T.fun_ 31 (d := d_Reader_is_whole) rfl
theorem Txt.F_read_expression (T : Txt w K mg) : FunD K "read_expression" "read_expression" (defArgs s_read_expression) (defBody s_read_expression) (defScope s_read_expression) [] [] (He.ga K "read_expression") (fdA K (He.ga K "read_expression")) := T.fun_ 32 (d := d_read_expression) rfl
theorem Txt.F_read_question (T : Txt w K mg) : FunD K "read_question" "read_question" (defArgs s_read_question) (defBody s_read_question) (defScope s_read_question) [] [] (He.ga K "read_question") (fdA K (He.ga K "read_question")) := T.fun_ 33 (d := d_read_question) rfl
theorem Txt.F_is_met (T : Txt w K mg) : FunD K "is_met" "is_met" (defArgs s_is_met) (defBody s_is_met) (defScope s_is_met) [] [] (He.ga K "is_met") (fdA K (He.ga K "is_met")) := T.fun_ 34 (d := d_is_met) rfl
theorem Txt.F_kinds_at (T : Txt w K mg) : FunD K "kinds_at" "kinds_at" (defArgs s_kinds_at) (defBody s_kinds_at) (defScope s_kinds_at) [] [] (He.ga K "kinds_at") (fdA K (He.ga K "kinds_at")) := T.fun_ 35 (d := d_kinds_at) rfl
theorem Txt.F_quotient_of (T : Txt w K mg) : FunD K "quotient_of" "quotient_of" (defArgs s_quotient_of) (defBody s_quotient_of) (defScope s_quotient_of) [] [] (He.ga K "quotient_of") (fdA K (He.ga K "quotient_of")) := T.fun_ 36 (d := d_quotient_of) rfl
theorem Txt.F_bounds (T : Txt w K mg) : FunD K "bounds" "bounds" (defArgs s_bounds) (defBody s_bounds) (defScope s_bounds) [] [] (He.ga K "bounds") (fdA K (He.ga K "bounds")) := T.fun_ 37 (d := d_bounds) rfl
theorem Txt.F_L_hand (T : Txt w K mg) : FunD K "_law_hand" "_law_hand" (defArgs s_L_hand) (defBody s_L_hand) (defScope s_L_hand) [] [] (He.ga K "_law_hand") (fdA K (He.ga K "_law_hand")) := T.fun_ 38 (d := d_L_hand) rfl
theorem Txt.F_L_draw (T : Txt w K mg) : FunD K "_law_draw" "_law_draw" (defArgs s_L_draw) (defBody s_L_draw) (defScope s_L_draw) [] [] (He.ga K "_law_draw") (fdA K (He.ga K "_law_draw")) := T.fun_ 39 (d := d_L_draw) rfl
theorem Txt.F_L_any (T : Txt w K mg) : FunD K "_law_any" "_law_any" (defArgs s_L_any) (defBody s_L_any) (defScope s_L_any) [] [] (He.ga K "_law_any") (fdA K (He.ga K "_law_any")) := T.fun_ 40 (d := d_L_any) rfl
theorem Txt.F_L_low (T : Txt w K mg) : FunD K "_law_low" "_law_low" (defArgs s_L_low) (defBody s_L_low) (defScope s_L_low) [] [] (He.ga K "_law_low") (fdA K (He.ga K "_law_low")) := T.fun_ 41 (d := d_L_low) rfl
theorem Txt.F_L_contents (T : Txt w K mg) : FunD K "_law_contents" "_law_contents" (defArgs s_L_contents) (defBody s_L_contents) (defScope s_L_contents) [] [] (He.ga K "_law_contents") (fdA K (He.ga K "_law_contents")) := T.fun_ 42 (d := d_L_contents) rfl
theorem Txt.F_L_patterns (T : Txt w K mg) : FunD K "_law_patterns" "_law_patterns" (defArgs s_L_patterns) (defBody s_L_patterns) (defScope s_L_patterns) [] [] (He.ga K "_law_patterns") (fdA K (He.ga K "_law_patterns")) := T.fun_ 43 (d := d_L_patterns) rfl
theorem Txt.F_L_view (T : Txt w K mg) : FunD K "_law_view" "_law_view" (defArgs s_L_view) (defBody s_L_view) (defScope s_L_view) [] [] (He.ga K "_law_view") (fdA K (He.ga K "_law_view")) := T.fun_ 44 (d := d_L_view) rfl
theorem Txt.F_L_weight (T : Txt w K mg) : FunD K "_law_weight" "_law_weight" (defArgs s_L_weight) (defBody s_L_weight) (defScope s_L_weight) [] [] (He.ga K "_law_weight") (fdA K (He.ga K "_law_weight")) := T.fun_ 45 (d := d_L_weight) rfl
theorem Txt.F_L_family (T : Txt w K mg) : FunD K "_law_family" "_law_family" (defArgs s_L_family) (defBody s_L_family) (defScope s_L_family) [] [] (He.ga K "_law_family") (fdA K (He.ga K "_law_family")) := T.fun_ 46 (d := d_L_family) rfl
theorem Txt.F_L_rows (T : Txt w K mg) : FunD K "_law_rows" "_law_rows" (defArgs s_L_rows) (defBody s_L_rows) (defScope s_L_rows) [] [] (He.ga K "_law_rows") (fdA K (He.ga K "_law_rows")) := T.fun_ 47 (d := d_L_rows) rfl
theorem Txt.F_L_tree (T : Txt w K mg) : FunD K "_law_tree" "_law_tree" (defArgs s_L_tree) (defBody s_L_tree) (defScope s_L_tree) [] [] (He.ga K "_law_tree") (fdA K (He.ga K "_law_tree")) := T.fun_ 48 (d := d_L_tree) rfl
theorem Txt.F_L_words (T : Txt w K mg) : FunD K "_law_words" "_law_words" (defArgs s_L_words) (defBody s_L_words) (defScope s_L_words) [] [] (He.ga K "_law_words") (fdA K (He.ga K "_law_words")) := T.fun_ 49 (d := d_L_words) rfl
theorem Txt.F_L_join (T : Txt w K mg) : FunD K "_law_join" "_law_join" (defArgs s_L_join) (defBody s_L_join) (defScope s_L_join) [] [] (He.ga K "_law_join") (fdA K (He.ga K "_law_join")) := T.fun_ 50 (d := d_L_join) rfl
theorem Txt.F_L_is_so (T : Txt w K mg) : FunD K "_law_is_so" "_law_is_so" (defArgs s_L_is_so) (defBody s_L_is_so) (defScope s_L_is_so) [] [] (He.ga K "_law_is_so") (fdA K (He.ga K "_law_is_so")) := T.fun_ 51 (d := d_L_is_so) rfl
theorem Txt.F_L_question (T : Txt w K mg) : FunD K "_law_question" "_law_question" (defArgs s_L_question) (defBody s_L_question) (defScope s_L_question) [] [] (He.ga K "_law_question") (fdA K (He.ga K "_law_question")) := T.fun_ 52 (d := d_L_question) rfl
theorem Txt.F_L_is_due (T : Txt w K mg) : FunD K "_law_is_due" "_law_is_due" (defArgs s_L_is_due) (defBody s_L_is_due) (defScope s_L_is_due) [] [] (He.ga K "_law_is_due") (fdA K (He.ga K "_law_is_due")) := T.fun_ 53 (d := d_L_is_due) rfl
theorem Txt.F_L_shown_by (T : Txt w K mg) : FunD K "_law_shown_by" "_law_shown_by" (defArgs s_L_shown_by) (defBody s_L_shown_by) (defScope s_L_shown_by) [] [] (He.ga K "_law_shown_by") (fdA K (He.ga K "_law_shown_by")) := T.fun_ 54 (d := d_L_shown_by) rfl
theorem Txt.F_L_kind (T : Txt w K mg) : FunD K "_law_kind" "_law_kind" (defArgs s_L_kind) (defBody s_L_kind) (defScope s_L_kind) [] [] (He.ga K "_law_kind") (fdA K (He.ga K "_law_kind")) := T.fun_ 55 (d := d_L_kind) rfl
theorem Txt.F_L_views (T : Txt w K mg) : FunD K "_law_views" "_law_views" (defArgs s_L_views) (defBody s_L_views) (defScope s_L_views) [] [] (He.ga K "_law_views") (fdA K (He.ga K "_law_views")) := T.fun_ 56 (d := d_L_views) rfl
theorem Txt.F_L_bounds (T : Txt w K mg) : FunD K "_law_bounds" "_law_bounds" (defArgs s_L_bounds) (defBody s_L_bounds) (defScope s_L_bounds) [] [] (He.ga K "_law_bounds") (fdA K (He.ga K "_law_bounds")) := T.fun_ 57 (d := d_L_bounds) rfl
theorem Txt.F_L_share_question (T : Txt w K mg) : FunD K "_law_share_question" "_law_share_question" (defArgs s_L_share_question) (defBody s_L_share_question) (defScope s_L_share_question) [] [] (He.ga K "_law_share_question") (fdA K (He.ga K "_law_share_question")) := T.fun_ 58 (d := d_L_share_question) rfl
theorem Txt.F_L_partial (T : Txt w K mg) : FunD K "_law_partial" "_law_partial" (defArgs s_L_partial) (defBody s_L_partial) (defScope s_L_partial) [] [] (He.ga K "_law_partial") (fdA K (He.ga K "_law_partial")) := T.fun_ 59 (d := d_L_partial) rfl
theorem Txt.F_L_ends (T : Txt w K mg) : FunD K "_law_ends" "_law_ends" (defArgs s_L_ends) (defBody s_L_ends) (defScope s_L_ends) [] [] (He.ga K "_law_ends") (fdA K (He.ga K "_law_ends")) := T.fun_ 60 (d := d_L_ends) rfl
theorem Txt.F_L_is_near (T : Txt w K mg) : FunD K "_law_is_near" "_law_is_near" (defArgs s_L_is_near) (defBody s_L_is_near) (defScope s_L_is_near) [] [] (He.ga K "_law_is_near") (fdA K (He.ga K "_law_is_near")) := T.fun_ 61 (d := d_L_is_near) rfl
theorem Txt.F_law (T : Txt w K mg) : FunD K "law" "law" (defArgs s_law) (defBody s_law) (defScope s_law) [] [] (He.ga K "law") (fdA K (He.ga K "law")) := T.fun_ 62 (d := d_law) rfl
theorem Txt.t_ZERO (T : Txt w K mg) (H : Hp) : SqT K H (He.ga K "ZERO") [.int 0, .int 1] := He.tupB_ok (vs := [.int 0, .int 1]) (He.ba (He.ba T.ex).1).1 H
theorem Txt.t_ONE (T : Txt w K mg) (H : Hp) : SqT K H (He.ga K "ONE") [.int 1, .int 1] := He.tupB_ok (vs := [.int 1, .int 1]) (He.ba (He.ba T.ex).1).2 H
end
/-! ### a def by its body -/
section
variable {P : Program} {w : World} {K : PySem.W.Frag} {mg : Str → Option Value} {base : Heap}
/-- how the written arguments are bound -/
abbrev BindAll (x qual : Str) (st : Stmt) (ps : List Str) : Prop := ∀ (kV doc pm : Value) (an : Option Addr) (cdv ct : Value) (us : List Value), us.length = ps.length → bindArgs (PySem.W.fnOf x qual (defArgs st) (defBody st) (defScope st) .none kV doc pm an cdv ct) ⟨us, []⟩ = pure (ps.zip us)
theorem fnOk_of {x qual : Str} {st : Stmt} {f : Addr} {fd : FuncData} {N ps : List Str} {k : Nat} {sp : Sp} (F : FunD K x qual (defArgs st) (defBody st) (defScope st) [] [] f fd) (S : FnScope N ps (defScope st)) (len : ∀ vs H Q E, sp vs H Q E → vs.length = ps.length)
    (hbody : ∀ (cdv : Value) (A : Around) (outer : List Env) (s : Shared) (H : Hp) (vs : List V) (Q : VK) (E : XK), Room k (A.deeper (envOfC qual (defScope st) s.heap.objs.size f cdv)) → sp vs H Q E →
      ∃ t, PSs (cxOf CX0 P w K mg base N qual (defScope st) f cdv A outer s H E).nox (defBody st) t ∧ t { nx := fun _ H' => Q .non H', rt := Q } (start N vs) H) : FnOk P w K mg base CX0 (k + 1) f fd ps sp := by
  refine F.ok S len fun cdv A outer s H vs Q E hr hsp => ?_
  obtain ⟨t, h, q⟩ := hbody cdv A outer s H vs Q E hr hsp
  exact ⟨t, h.nox, q⟩
theorem mkCal {x : Str} {st : Stmt} {f : Addr} {fd : FuncData} {N ps : List Str} {k : Nat} {sp : Sp} (F : FunD K x x (defArgs st) (defBody st) (defScope st) [] [] f fd) (hm : mg x = some (.ref f)) (S : FnScope N ps (defScope st)) (b : BindAll x x st ps)
    (len : ∀ vs H Q E, sp vs H Q E → vs.length = ps.length)
    (hbody : ∀ (cdv : Value) (A : Around) (outer : List Env) (s : Shared) (H : Hp) (vs : List V) (Q : VK) (E : XK), Room k (A.deeper (envOfC x (defScope st) s.heap.objs.size f cdv)) → sp vs H Q E →
      ∃ t, PSs (cxOf CX0 P w K mg base N x (defScope st) f cdv A outer s H E).nox (defBody st) t ∧ t { nx := fun _ H' => Q .non H', rt := Q } (start N vs) H) : C8.Cal P w K mg base (k + 1) x sp [] :=
  ⟨f, fd, ps, [], fnOk_of F S len hbody, hm, F.kp, F.bindsN b, .nil⟩
theorem mkMet {x qual : Str} {C : Addr} {st : Stmt} {f : Addr} {fd : FuncData} {N ps : List Str} {k : Nat} {sp : Sp} (hc : Cls K C) (me : Meth K C x f) (F : FunD K x qual (defArgs st) (defBody st) (defScope st) [] [] f fd) (S : FnScope N ps (defScope st)) (b : BindAll x qual st ps)
    (len : ∀ vs H Q E, sp vs H Q E → vs.length = ps.length)
    (hbody : ∀ (cdv : Value) (A : Around) (outer : List Env) (s : Shared) (H : Hp) (vs : List V) (Q : VK) (E : XK), Room k (A.deeper (envOfC qual (defScope st) s.heap.objs.size f cdv)) → sp vs H Q E →
      ∃ t, PSs (cxOf CX0 P w K mg base N qual (defScope st) f cdv A outer s H E).nox (defBody st) t ∧ t { nx := fun _ H' => Q .non H', rt := Q } (start N vs) H) : C8.Met P w K mg base (k + 1) C x sp [] :=
  ⟨f, fd, ps, [], hc, me, fnOk_of F S len hbody, F.bindsN b, .nil⟩
end
end Cb
namespace Cb
/-! ### fractions in lowest terms (core Lean) -/
/-- the quotient n / t in lowest terms, as a list -/
def lw (n t : Int) : List Int := [n / (Int.gcd n t : Int), t / (Int.gcd n t : Int)]
def lt1 (n t : Int) : Int := n / (Int.gcd n t : Int)
def lb (n t : Int) : Int := t / (Int.gcd n t : Int)
theorem lw_eq (n t : Int) : lw n t = [lt1 n t, lb n t] := rfl
theorem gpos {n t : Int} (h : 0 < t) : (0 : Int) < (Int.gcd n t : Int) := by
  have : 0 < Int.gcd n t := Int.gcd_pos_of_ne_zero_right n (by omega)
  omega
theorem lt_mul {n t : Int} (h : 0 < t) : lt1 n t * (Int.gcd n t : Int) = n := Int.ediv_mul_cancel (Int.gcd_dvd_left ..)
theorem lb_mul {n t : Int} (h : 0 < t) : lb n t * (Int.gcd n t : Int) = t := Int.ediv_mul_cancel (Int.gcd_dvd_right ..)
theorem lb_pos {n t : Int} (h : 0 < t) : 0 < lb n t := by
  have h1 := lb_mul (n := n) h
  have h2 := gpos (n := n) h
  cases Int.lt_or_le 0 (lb n t) with
  | inl h => exact h
  | inr h3 =>
    have := Int.mul_le_mul_of_nonneg_right h3 (Int.le_of_lt h2)
    omega
theorem lt_nn {n t : Int} (h : 0 < t) (hn : 0 ≤ n) : 0 ≤ lt1 n t := Int.ediv_nonneg hn (Int.le_of_lt (gpos h))
theorem lt_pos {n t : Int} (h : 0 < t) (hn : 0 < n) : 0 < lt1 n t := by
  have h1 := lt_mul (n := n) h
  have h2 := lt_nn (n := n) h (Int.le_of_lt hn)
  cases Int.lt_or_eq_of_le h2 with
  | inl h => exact h
  | inr e => rw [← e] at h1; omega
theorem lt_le {n t : Int} (h : 0 < t) (hn : 0 ≤ n) : lt1 n t ≤ n := Int.ediv_le_self _ hn
theorem lb_le {n t : Int} (h : 0 < t) : lb n t ≤ t := Int.ediv_le_self _ (Int.le_of_lt h)
/-- what the lowest terms say -/
theorem cross {n t : Int} (h : 0 < t) : lt1 n t * t = n * lb n t := by
  have h1 := lt_mul (n := n) h
  have h2 := lb_mul (n := n) h
  have h3 := gpos (n := n) h
  have e : (lt1 n t * t - n * lb n t) * (Int.gcd n t : Int) = 0 := by
    calc (lt1 n t * t - n * lb n t) * (Int.gcd n t : Int) = (lt1 n t * (Int.gcd n t : Int)) * t - n * (lb n t * (Int.gcd n t : Int)) := by grind
      _ = 0 := by rw [h1, h2]; omega
  have := Int.mul_eq_zero.mp e
  omega
theorem cop {n t : Int} (h : 0 < t) : Int.gcd (lt1 n t) (lb n t) = 1 := by
  have h3 : 0 < Int.gcd n t := by have := gpos (n := n) h; omega
  unfold lt1 lb
  exact Int.gcd_ediv_gcd_ediv_gcd h3
/-- two that are the same quotient are the same -/
theorem lw_same {n t m s : Int} (ht : 0 < t) (hs : 0 < s) (e : n * s = m * t) : lw n t = lw m s := by
  have c1 := cross (n := n) ht
  have c2 := cross (n := m) hs
  have p1 := lb_pos (n := n) ht
  have p2 := lb_pos (n := m) hs
  have k1 := cop (n := n) ht
  have k2 := cop (n := m) hs
  -- lt1 n t * lb m s = lt1 m s * lb n t
  have q : lt1 n t * lb m s = lt1 m s * lb n t := by
    have z : (lt1 n t * lb m s - lt1 m s * lb n t) * (t * s) = 0 := by
      have a1 : (lt1 n t * lb m s - lt1 m s * lb n t) * (t * s) = (lt1 n t * t) * (lb m s * s) - (lt1 m s * s) * (lb n t * t) := by grind
      rw [a1, c1, c2]
      have a2 : n * lb n t * (lb m s * s) - m * lb m s * (lb n t * t) = (n * s - m * t) * (lb n t * lb m s) := by grind
      rw [a2, e]
      simp
    have nz : t * s ≠ 0 := by
      intro hz
      have := Int.mul_eq_zero.mp hz
      omega
    have := Int.mul_eq_zero.mp z
    omega
  -- lb n t divides lb m s and the other way round
  have d1 : lb n t ∣ lb m s := by
    have d : lb n t ∣ lt1 n t * lb m s := ⟨lt1 m s, by rw [q]; exact Int.mul_comm ..⟩
    have d' := Int.dvd_gcd_mul_iff_dvd_mul.mpr d
    rw [Int.gcd_comm, k1] at d'
    simpa using d'
  have d2 : lb m s ∣ lb n t := by
    have d : lb m s ∣ lt1 m s * lb n t := ⟨lt1 n t, by rw [← q]; exact Int.mul_comm ..⟩
    have d' := Int.dvd_gcd_mul_iff_dvd_mul.mpr d
    rw [Int.gcd_comm, k2] at d'
    simpa using d'
  have e1 : lb n t = lb m s := Int.le_antisymm (Int.le_of_dvd p2 d1) (Int.le_of_dvd p1 d2)
  have e2 : lt1 n t = lt1 m s := by
    rw [e1] at q
    exact Int.eq_of_mul_eq_mul_right (by omega) q
  rw [lw_eq, lw_eq, e1, e2]
/-- the sum of two quotients by the same -/
theorem lw_plus {a b t : Int} (ht : 0 < t) : lw (lt1 a t * lb b t + lt1 b t * lb a t) (lb a t * lb b t) = lw (a + b) t := by
  have p1 := lb_pos (n := a) ht
  have p2 := lb_pos (n := b) ht
  refine lw_same (Int.mul_pos p1 p2) ht ?_
  have c1 := cross (n := a) ht
  have c2 := cross (n := b) ht
  calc (lt1 a t * lb b t + lt1 b t * lb a t) * t = (lt1 a t * t) * lb b t + (lt1 b t * t) * lb a t := by grind
    _ = (a + b) * (lb a t * lb b t) := by rw [c1, c2]; grind
theorem lw_over {a b t : Int} (ht : 0 < t) (hb : 0 < b) : lw (lt1 a t * lb b t) (lb a t * lt1 b t) = lw a b := by
  have p1 := lb_pos (n := a) ht
  have p2 := lb_pos (n := b) ht
  have p3 := lt_pos ht hb
  refine lw_same (Int.mul_pos p1 p3) hb ?_
  have c1 := cross (n := a) ht
  have c2 := cross (n := b) ht
  have z : (lt1 a t * lb b t * b - a * (lb a t * lt1 b t)) * t = 0 := by
    calc (lt1 a t * lb b t * b - a * (lb a t * lt1 b t)) * t = (lt1 a t * t) * (b * lb b t) - a * lb a t * (lt1 b t * t) := by grind
      _ = 0 := by rw [c1, c2]; grind
  have := Int.mul_eq_zero.mp z
  omega
theorem lw_zero {t : Int} (ht : 0 < t) : lw 0 t = [0, 1] := by
  have e : lw 0 t = lw 0 1 := lw_same ht (by decide) (by omega)
  rw [e]
  decide
theorem lw_one {t : Int} (ht : 0 < t) : lw t t = [1, 1] := by
  have e : lw t t = lw 1 1 := lw_same ht (by decide) (by omega)
  rw [e]
  decide
/-- Euclid's step -/
theorem gcd_step {a b : Int} (hb : 0 < b) (ha : 0 ≤ a) : Int.gcd b (a % b) = Int.gcd a b := by
  have e := Int.gcd_add_mul_left_right b (a % b) (a / b)
  rw [Int.emod_add_mul_ediv] at e
  rw [← e, Int.gcd_comm]
end Cb
/-! contents, views, patterns, in plain Lean -/
namespace Cb
open PySem
theorem nd_map {α β : Type} {f : α → β} (h : ∀ a b, f a = f b → a = b) : ∀ {l : List α}, l.Nodup → (l.map f).Nodup
  | [], _ => List.nodup_nil
  | a :: l, q => by
    obtain ⟨h1, h2⟩ := List.nodup_cons.mp q
    rw [List.map_cons, List.nodup_cons]
    refine ⟨fun m => ?_, nd_map h h2⟩
    obtain ⟨b, hb, e⟩ := List.mem_map.mp m
    rw [h b a e] at hb
    exact h1 hb
def rng (n : Nat) : List Int := (List.range n).map Int.ofNat
theorem mem_rng {n : Nat} {x : Int} : x ∈ rng n ↔ 0 ≤ x ∧ x < n := by
  unfold rng
  rw [List.mem_map]
  constructor
  · rintro ⟨k, hk, rfl⟩
    have := List.mem_range.mp hk
    simp
    omega
  · rintro ⟨h1, h2⟩
    refine ⟨x.toNat, List.mem_range.mpr (by omega), ?_⟩
    show ((x.toNat : Nat) : Int) = x
    omega
theorem rng_len {n : Nat} : (rng n).length = n := by simp [rng]
theorem rng_nd {n : Nat} : (rng n).Nodup := by
  unfold rng
  exact nd_map (fun a b h => Int.ofNat.inj h) List.nodup_range
theorem rng_get {n i : Nat} (h : i < n) : (rng n)[i]? = some (i : Int) := by
  unfold rng
  rw [List.getElem?_map, List.getElem?_range h]
  rfl
def step (found : List (List Int)) (row : List Int) : List (List Int) := found.flatMap fun front => row.map fun item => front ++ [item]
def tup (rows : List (List Int)) : List (List Int) := rows.foldl step [[]]
theorem tup_snoc (rows : List (List Int)) (row : List Int) : tup (rows ++ [row]) = step (tup rows) row := by
  unfold tup
  rw [List.foldl_append]
  rfl
theorem step_len (found : List (List Int)) (row : List Int) : (step found row).length = found.length * row.length := by
  unfold step
  induction found with
  | nil => simp
  | cons a r ih =>
    rw [List.flatMap_cons, List.length_append, ih, List.length_map, List.length_cons, Nat.succ_mul]
    omega
/-- lists by their ends -/
theorem snoc_ind {α : Type} {p : List α → Prop} (h0 : p []) (hs : ∀ l a, p l → p (l ++ [a])) : ∀ l, p l := by
  intro l
  have : ∀ n (l : List α), l.length = n → p l := by
    intro n
    induction n with
    | zero => intro l e; rw [List.length_eq_zero_iff.mp e]; exact h0
    | succ n ih =>
      intro l e
      have hl : l ≠ [] := by intro z; rw [z] at e; cases e
      rw [← List.dropLast_concat_getLast hl]
      exact hs _ _ (ih _ (by rw [List.length_dropLast, e]; rfl))
  exact this _ l rfl
theorem tup_len (rows : List (List Int)) : (tup rows).length = (rows.map List.length).foldl (· * ·) 1 := by
  induction rows using snoc_ind with
  | h0 => rfl
  | hs l a ih =>
    rw [tup_snoc, step_len, ih, List.map_append, List.foldl_append]
    rfl
theorem foldl_mul_pow {ls : List Nat} {b : Nat} (h : ∀ n ∈ ls, n ≤ b) : ls.foldl (· * ·) 1 ≤ b ^ ls.length := by
  induction ls using snoc_ind with
  | h0 => simp
  | hs l a ih =>
    rw [List.foldl_append, List.length_append, Nat.pow_add]
    have h1 := ih fun n hn => h n (List.mem_append_left _ hn)
    have h2 := h a (List.mem_append_right _ (List.mem_singleton_self a))
    simpa using Nat.mul_le_mul h1 h2
theorem prd_app {α β : Type} {F : α → β → Prop} {as cs : List α} {bs ds : List β} (h : Paired F as bs) (g : Paired F cs ds) : Paired F (as ++ cs) (bs ++ ds) := by
  induction h with
  | nil => exact g
  | cons r t ih => exact .cons r ih
theorem prd_len {α β : Type} {F : α → β → Prop} {as : List α} {bs : List β} (h : Paired F as bs) : as.length = bs.length := by
  induction h with
  | nil => rfl
  | cons r t ih => simp [ih]
theorem prd_snoc {α β : Type} {F : α → β → Prop} : ∀ {as : List α} {bs : List β} {b : β}, Paired F as (bs ++ [b]) → ∃ as' a, as = as' ++ [a] ∧ Paired F as' bs ∧ F a b
  | _, [], b, h => by
    cases h with
    | cons r t => cases t; exact ⟨[], _, rfl, .nil, r⟩
  | _, c :: bs, b, h => by
    cases h with
    | cons r t =>
      obtain ⟨as', a, e, h1, h2⟩ := prd_snoc t
      exact ⟨_ :: as', a, by rw [e]; rfl, .cons r h1, h2⟩
theorem prd_get {α β : Type} {F : α → β → Prop} {as : List α} {bs : List β} (h : Paired F as bs) : ∀ {i : Nat} {a : α} {b : β}, as[i]? = some a → bs[i]? = some b → F a b := by
  induction h with
  | nil => intro i a b e; simp at e
  | cons r t ih =>
    intro i a b e1 e2
    cases i with
    | zero => simp at e1 e2; subst e1 e2; exact r
    | succ i => exact ih (by simpa using e1) (by simpa using e2)
theorem prd_of {α β : Type} {F : α → β → Prop} : ∀ {as : List α} {bs : List β}, as.length = bs.length → (∀ (i : Nat) (a : α) (b : β), as[i]? = some a → bs[i]? = some b → F a b) → Paired F as bs
  | [], [], _, _ => .nil
  | [], _ :: _, h, _ => by cases h
  | _ :: _, [], h, _ => by cases h
  | a :: as, b :: bs, h, f => .cons (f 0 a b rfl rfl) (prd_of (by simpa using h) fun i x y hx hy => f (i + 1) x y (by simpa using hx) (by simpa using hy))
theorem mem_tup {rows : List (List Int)} : ∀ {c : List Int}, c ∈ tup rows ↔ Paired (fun x row => x ∈ row) c rows := by
  induction rows using snoc_ind with
  | h0 =>
    intro c
    constructor
    · intro h
      have : c = [] := by simpa [tup] using h
      rw [this]
      exact .nil
    · intro h
      cases h
      simp [tup]
  | hs l a ih =>
    intro c
    rw [tup_snoc]
    unfold step
    rw [List.mem_flatMap]
    constructor
    · rintro ⟨f, hf, hc⟩
      obtain ⟨x, hx, rfl⟩ := List.mem_map.mp hc
      exact prd_app (ih.mp hf) (.cons hx .nil)
    · intro h
      obtain ⟨as', x, rfl, h1, h2⟩ := prd_snoc h
      exact ⟨as', ih.mpr h1, List.mem_map.mpr ⟨x, h2, rfl⟩⟩
theorem step_nd {found : List (List Int)} {row : List Int} (hf : found.Nodup) (hr : row.Nodup) : (step found row).Nodup := by
  unfold step
  induction found with
  | nil => simp
  | cons a r ih =>
    obtain ⟨h1, h2⟩ := List.nodup_cons.mp hf
    rw [List.flatMap_cons, List.nodup_append]
    refine ⟨nd_map (fun x y e => by simpa using e) hr, ih h2, ?_⟩
    intro x hx y hy e
    subst e
    obtain ⟨i, _, rfl⟩ := List.mem_map.mp hx
    obtain ⟨f, hf', hy'⟩ := List.mem_flatMap.mp hy
    obtain ⟨j, _, e⟩ := List.mem_map.mp hy'
    have : f = a := by
      have := congrArg List.dropLast e
      simpa using this
    exact h1 (this ▸ hf')
theorem tup_nd {rows : List (List Int)} (h : ∀ r ∈ rows, r.Nodup) : (tup rows).Nodup := by
  induction rows using snoc_ind with
  | h0 => simp [tup]
  | hs l a ih =>
    rw [tup_snoc]
    exact step_nd (ih fun r hr => h r (List.mem_append_left _ hr)) (h a (List.mem_append_right _ (List.mem_singleton_self a)))
/-! the sizes -/
structure Sz (sz : List Nat) : Prop where
  l1 : 1 ≤ sz.length
  l4 : sz.length ≤ 4
  b : ∀ n ∈ sz, 2 ≤ n ∧ n ≤ 4
  p : sz.foldl (· * ·) 1 ≤ 16
def contents (sz : List Nat) : List (List Int) := tup (sz.map rng)
theorem contents_len {sz : List Nat} : (contents sz).length = sz.foldl (· * ·) 1 := by
  unfold contents
  rw [tup_len, List.map_map]
  have : sz.map (List.length ∘ rng) = sz := by
    conv => rhs; rw [← List.map_id sz]
    exact List.map_congr_left fun n _ => rng_len
  rw [this]
theorem contents_nd {sz : List Nat} : (contents sz).Nodup := tup_nd fun r hr => by
  obtain ⟨n, _, rfl⟩ := List.mem_map.mp hr
  exact rng_nd
theorem mem_contents {sz : List Nat} {c : List Int} : c ∈ contents sz ↔ c.length = sz.length ∧ ∀ (i : Nat) (x : Int) (n : Nat), c[i]? = some x → sz[i]? = some n → 0 ≤ x ∧ x < n := by
  unfold contents
  rw [mem_tup]
  constructor
  · intro h
    refine ⟨by simpa using prd_len h, fun i x n hx hn => ?_⟩
    exact mem_rng.mp (prd_get h hx (by rw [List.getElem?_map, hn]; rfl))
  · rintro ⟨h1, h2⟩
    refine prd_of (by simpa using h1) fun i a b ha hb => ?_
    rw [List.getElem?_map] at hb
    cases hn : sz[i]? with
    | none => rw [hn] at hb; cases hb
    | some n =>
      rw [hn] at hb
      cases hb
      exact mem_rng.mpr (h2 i a n ha hn)
/-! the views -/
/-- the view of a content by a pattern -/
def viewOf (c pat : List Int) : List Int := c.zipIdx.map fun p => if (p.2 : Int) ∈ pat then p.1 else -1
theorem viewOf_len {c pat : List Int} : (viewOf c pat).length = c.length := by simp [viewOf]
theorem viewOf_get {c pat : List Int} {i : Nat} {x : Int} (h : c[i]? = some x) : (viewOf c pat)[i]? = some (if (i : Int) ∈ pat then x else -1) := by
  unfold viewOf
  rw [List.getElem?_map, List.getElem?_zipIdx, h]
  simp
/-- the columns that a view shows -/
def patOf (v : List Int) : List Int := v.zipIdx.filterMap fun p => if p.1 ≠ -1 then some (p.2 : Int) else none
def patS (k : Nat) (v : List Int) : List Int := (v.zipIdx k).filterMap fun p => if p.1 ≠ -1 then some (p.2 : Int) else none
theorem mem_patOf {v : List Int} {j : Int} : j ∈ patOf v ↔ ∃ (i : Nat) (x : Int), j = i ∧ v[i]? = some x ∧ x ≠ -1 := by
  unfold patOf
  rw [List.mem_filterMap]
  constructor
  · rintro ⟨⟨x, i⟩, h, e⟩
    have h2 := List.mem_zipIdx_iff_getElem?.mp h
    dsimp at e h2
    split at e
    · rename_i q
      exact ⟨i, x, (Option.some.inj e).symm, h2, q⟩
    · cases e
  · rintro ⟨i, x, rfl, h, q⟩
    refine ⟨(x, i), List.mem_zipIdx_iff_getElem?.mpr h, ?_⟩
    dsimp
    rw [if_pos q]
/-- the rows of the views by a pattern -/
def vrows (sz : List Nat) (pat : List Int) : List (List Int) := sz.zipIdx.map fun p => if (p.2 : Int) ∈ pat then rng p.1 else [-1]
def views (sz : List Nat) (pat : List Int) : List (List Int) := tup (vrows sz pat)
theorem vrows_get {sz : List Nat} {pat : List Int} {i n : Nat} (h : sz[i]? = some n) : (vrows sz pat)[i]? = some (if (i : Int) ∈ pat then rng n else [-1]) := by
  unfold vrows
  rw [List.getElem?_map, List.getElem?_zipIdx, h]
  simp
theorem vrows_len {sz : List Nat} {pat : List Int} : (vrows sz pat).length = sz.length := by simp [vrows]
theorem mem_views {sz : List Nat} {pat v : List Int} : v ∈ views sz pat ↔ v.length = sz.length ∧ ∀ (i : Nat) (x : Int) (n : Nat), v[i]? = some x → sz[i]? = some n → if (i : Int) ∈ pat then 0 ≤ x ∧ x < n else x = -1 := by
  unfold views
  rw [mem_tup]
  constructor
  · intro h
    refine ⟨by simpa [vrows_len] using prd_len h, fun i x n hx hn => ?_⟩
    have := prd_get h hx (vrows_get hn)
    split
    · rename_i q
      rw [if_pos q] at this
      exact mem_rng.mp this
    · rename_i q
      rw [if_neg q] at this
      simpa using this
  · rintro ⟨h1, h2⟩
    refine prd_of (by simpa [vrows_len] using h1) fun i a b ha hb => ?_
    have hi : i < sz.length := by
      have := (List.getElem?_eq_some_iff.mp ha).1
      omega
    have hn : sz[i]? = some sz[i] := List.getElem?_eq_getElem hi
    rw [vrows_get hn] at hb
    cases hb
    have := h2 i a _ ha hn
    split
    · rename_i q
      rw [if_pos q] at this
      exact mem_rng.mpr this
    · rename_i q
      rw [if_neg q] at this
      simp [this]
theorem views_nd {sz : List Nat} {pat : List Int} : (views sz pat).Nodup := tup_nd fun r hr => by
  obtain ⟨⟨n, i⟩, _, rfl⟩ := List.mem_map.mp hr
  dsimp
  split
  · exact rng_nd
  · simp
theorem views_len {sz : List Nat} {pat : List Int} (h : Sz sz) : (views sz pat).length ≤ 256 := by
  unfold views
  rw [tup_len]
  have h2 := foldl_mul_pow (ls := (vrows sz pat).map List.length) (b := 4) (by
    intro n hn
    obtain ⟨r, hr, rfl⟩ := List.mem_map.mp hn
    obtain ⟨⟨m, i⟩, hm, rfl⟩ := List.mem_map.mp hr
    have hm' := (h.b m (List.mem_of_getElem? (List.mem_zipIdx_iff_getElem?.mp hm))).2
    dsimp
    split
    · rw [rng_len]
      exact hm'
    · simp)
  have h3 : ((vrows sz pat).map List.length).length ≤ 4 := by
    rw [List.length_map, vrows_len]
    exact h.l4
  exact Nat.le_trans h2 (Nat.le_trans (Nat.pow_le_pow_right (by decide) h3) (by decide))
/-- the view of a content is one by its pattern -/
theorem viewOf_mem {sz : List Nat} {c pat : List Int} (h : c ∈ contents sz) : viewOf c pat ∈ views sz pat := by
  obtain ⟨h1, h2⟩ := mem_contents.mp h
  refine mem_views.mpr ⟨by rw [viewOf_len, h1], fun i x n hx hn => ?_⟩
  have hi : i < c.length := by
    have := (List.getElem?_eq_some_iff.mp hx).1
    rw [viewOf_len] at this
    exact this
  have hc : c[i]? = some c[i] := List.getElem?_eq_getElem hi
  rw [viewOf_get hc] at hx
  cases hx
  split
  · exact h2 i _ n hc hn
  · rfl
/-- every view by a pattern is that of a content -/
theorem mem_views_ex {sz : List Nat} {v pat : List Int} (h : Sz sz) (hv : v ∈ views sz pat) : ∃ c, c ∈ contents sz ∧ viewOf c pat = v := by
  obtain ⟨h1, h2⟩ := mem_views.mp hv
  refine ⟨v.map fun x => if x = -1 then 0 else x, mem_contents.mpr ⟨by simp [h1], fun i x n hx hn => ?_⟩, ?_⟩
  · rw [List.getElem?_map] at hx
    cases e : v[i]? with
    | none => rw [e] at hx; cases hx
    | some y =>
      rw [e] at hx
      cases hx
      have := h2 i y n e hn
      have hb := h.b n (List.mem_of_getElem? hn)
      dsimp only
      split
      · omega
      · split at this <;> omega
  · refine List.ext_getElem? fun i => ?_
    cases e : v[i]? with
    | none =>
      rw [List.getElem?_eq_none_iff] at e ⊢
      rw [viewOf_len, List.length_map]
      exact e
    | some y =>
      have hi : i < sz.length := by
        have := (List.getElem?_eq_some_iff.mp e).1
        omega
      have := h2 i y _ e (List.getElem?_eq_getElem hi)
      rw [viewOf_get (x := if y = -1 then 0 else y) (by rw [List.getElem?_map, e]; rfl)]
      split at this
      · rename_i q
        rw [if_pos q, if_neg (by omega)]
      · rename_i q
        rw [if_neg q, this]
/-- what a content that a view shows has to be -/
theorem shown {sz : List Nat} {c v : List Int} (hc : c ∈ contents sz) (hv : v.length = sz.length) : viewOf c (patOf v) = v ↔ ∀ (i : Nat) (x y : Int), v[i]? = some x → c[i]? = some y → x = -1 ∨ x = y := by
  obtain ⟨h1, h2⟩ := mem_contents.mp hc
  constructor
  · intro e i x y hx hy
    have g := viewOf_get (pat := patOf v) hy
    rw [e, hx] at g
    have g := Option.some.inj g
    split at g
    · exact .inr g
    · exact .inl g
  · intro f
    refine List.ext_getElem? fun i => ?_
    cases e : v[i]? with
    | none =>
      rw [List.getElem?_eq_none_iff] at e ⊢
      rw [viewOf_len]
      omega
    | some x =>
      have hi : i < c.length := by
        have := (List.getElem?_eq_some_iff.mp e).1
        omega
      have hy : c[i]? = some c[i] := List.getElem?_eq_getElem hi
      rw [viewOf_get hy]
      have := f i x _ e hy
      split
      · rename_i q
        obtain ⟨j, z, e1, e2, e3⟩ := mem_patOf.mp q
        have : i = j := by omega
        subst this
        rw [e] at e2
        have := Option.some.inj e2
        subst this
        rw [(f i x _ e hy).resolve_left e3]
      · rename_i q
        by_cases z : x = -1
        · rw [z]
        · exact absurd (mem_patOf.mpr ⟨i, x, rfl, e, z⟩) q
/-! the patterns: the subsets of the columns -/
def isPat (m : Nat) (p : List Int) : Prop := p.Pairwise (· < ·) ∧ ∀ x ∈ p, 0 ≤ x ∧ x < m
theorem patS_lt {v : List Int} : ∀ {k : Nat}, (patS k v).Pairwise (· < ·) ∧ ∀ x ∈ patS k v, (k : Int) ≤ x ∧ x < k + v.length := by
  induction v with
  | nil => intro k; simp [patS]
  | cons a r ih =>
    intro k
    obtain ⟨h1, h2⟩ := ih (k := k + 1)
    have e : patS k (a :: r) = if a ≠ -1 then (k : Int) :: patS (k + 1) r else patS (k + 1) r := by
      unfold patS
      rw [List.zipIdx_cons, List.filterMap_cons]
      by_cases q : a = -1
      · simp [q]
      · simp [q]
    rw [e]
    have h2' : ∀ x ∈ patS (k + 1) r, (k : Int) < x ∧ x < k + (a :: r).length := by
      intro x hx
      have := h2 x hx
      simp
      omega
    split
    · refine ⟨List.pairwise_cons.mpr ⟨fun x hx => (h2' x hx).1, h1⟩, ?_⟩
      intro x hx
      cases List.mem_cons.mp hx with
      | inl e => subst e; simp; omega
      | inr e => have := h2' x e; omega
    · exact ⟨h1, fun x hx => by have := h2' x hx; omega⟩
theorem patOf_is {v : List Int} : isPat v.length (patOf v) := by
  have h := patS_lt (v := v) (k := 0)
  refine ⟨h.1, fun x hx => ?_⟩
  have := h.2 x hx
  omega
/-- two ascending lists with the same members are one -/
theorem asc_ext : ∀ {p q : List Int}, p.Pairwise (· < ·) → q.Pairwise (· < ·) → (∀ x, x ∈ p ↔ x ∈ q) → p = q
  | [], [], _, _, _ => rfl
  | [], b :: q, _, _, h => by have := (h b).mpr List.mem_cons_self; cases this
  | a :: p, [], _, _, h => by have := (h a).mp List.mem_cons_self; cases this
  | a :: p, b :: q, hp, hq, h => by
    obtain ⟨p1, p2⟩ := List.pairwise_cons.mp hp
    obtain ⟨q1, q2⟩ := List.pairwise_cons.mp hq
    have e : a = b := by
      have h1 := (h a).mp List.mem_cons_self
      have h2 := (h b).mpr List.mem_cons_self
      cases List.mem_cons.mp h1 with
      | inl e => exact e
      | inr m1 => cases List.mem_cons.mp h2 with
        | inl e => exact e.symm
        | inr m2 => have := q1 a m1; have := p1 b m2; omega
    subst e
    rw [asc_ext p2 q2 fun x => ?_]
    constructor
    · intro m
      cases List.mem_cons.mp ((h x).mp (List.mem_cons_of_mem _ m)) with
      | inl e => have := p1 x m; omega
      | inr m => exact m
    · intro m
      cases List.mem_cons.mp ((h x).mpr (List.mem_cons_of_mem _ m)) with
      | inl e => have := q1 x m; omega
      | inr m => exact m
/-- a view by a pattern shows that pattern -/
theorem patOf_views {sz : List Nat} {v p : List Int} (hp : isPat sz.length p) (hv : v ∈ views sz p) : patOf v = p := by
  obtain ⟨h1, h2⟩ := mem_views.mp hv
  refine asc_ext patOf_is.1 hp.1 fun x => ?_
  rw [mem_patOf]
  constructor
  · rintro ⟨i, y, rfl, hy, q⟩
    have hi : i < sz.length := by
      have := (List.getElem?_eq_some_iff.mp hy).1
      omega
    have := h2 i y _ hy (List.getElem?_eq_getElem hi)
    split at this
    · rename_i m
      exact m
    · exact absurd this q
  · intro m
    have b := hp.2 x m
    have hi : x.toNat < v.length := by omega
    have hy : v[x.toNat]? = some v[x.toNat] := List.getElem?_eq_getElem hi
    refine ⟨x.toNat, _, by omega, hy, ?_⟩
    have := h2 x.toNat _ _ hy (List.getElem?_eq_getElem (by omega))
    have e : ((x.toNat : Nat) : Int) = x := by omega
    rw [e, if_pos m] at this
    omega
/-- a view is one by the pattern it shows -/
theorem views_patOf {sz : List Nat} {v p : List Int} (hp : isPat sz.length p) (hv : v ∈ views sz p) : v ∈ views sz (patOf v) := by
  rw [patOf_views hp hv]
  exact hv
end Cb
/-! questions as trees, their words, in plain Lean -/
namespace Cb
open PySem
inductive Tree where
  | yes | no | b (i : Nat) | c (i v : Nat) | not (t : Tree) | and (t u : Tree) | or (t u : Tree)
namespace Tree
def depth : Tree → Nat
  | .not t => t.depth + 1
  | .and t u => max t.depth u.depth + 1
  | .or t u => max t.depth u.depth + 1
  | _ => 0
/-- what a content answers -/
def val (c pat : List Int) : Tree → Bool
  | .yes => true
  | .no => false
  | .b i => !decide ((i : Int) ∈ pat)
  | .c i v => decide (c.getD i 0 = (v : Int))
  | .not t => !t.val c pat
  | .and t u => t.val c pat && u.val c pat
  | .or t u => t.val c pat || u.val c pat
/-- the columns and the worths are there -/
def Good (sz : List Nat) : Tree → Prop
  | .b i => i < sz.length
  | .c i v => ∃ n, sz[i]? = some n ∧ v < n
  | .not t => t.Good sz
  | .and t u => t.Good sz ∧ u.Good sz
  | .or t u => t.Good sz ∧ u.Good sz
  | _ => True
/-- how strong it binds -/
def own : Tree → Nat
  | .not _ => 3
  | .and _ _ => 2
  | .or _ _ => 1
  | _ => 4
end Tree
/-- the words -/
inductive W where
  | lp | rp | and | or | not | iff | share | yes | no | b (i : Nat) | c (i v : Nat)
def W.s : W → Str
  | .lp => "("
  | .rp => ")"
  | .and => "and"
  | .or => "or"
  | .not => "not"
  | .iff => "if"
  | .share => "share"
  | .yes => "yes"
  | .no => "no"
  | .b i => ⟨#[98, 48 + i]⟩
  | .c i v => ⟨#[99, 48 + i, 61, 48 + v]⟩
/-- ws is what stands for a part that binds as strong as o, where b is asked -/
def Rnd (C : List W → Prop) (o b : Nat) (ws : List W) : Prop := (C ws ∧ b ≤ o) ∨ ∃ w2, C w2 ∧ ws = W.lp :: (w2 ++ [W.rp])
/-- the words of a tree without parentheses around -/
def Core : Tree → List W → Prop
  | .yes, ws => ws = [.yes]
  | .no, ws => ws = [.no]
  | .b i, ws => ws = [.b i]
  | .c i v, ws => ws = [.c i v]
  | .not t, ws => ∃ w1, ws = W.not :: w1 ∧ Rnd (Core t) t.own 3 w1
  | .and t u, ws => ∃ w1 w2, ws = w1 ++ [W.and] ++ w2 ∧ Rnd (Core t) t.own 2 w1 ∧ Rnd (Core u) u.own 2 w2
  | .or t u, ws => ∃ w1 w2, ws = w1 ++ [W.or] ++ w2 ∧ Rnd (Core t) t.own 1 w1 ∧ Rnd (Core u) u.own 1 w2
abbrev Ren (t : Tree) (b : Nat) (ws : List W) : Prop := Rnd (Core t) t.own b ws
theorem rnd_len {C : List W → Prop} {o b n : Nat} {ws : List W} (h : Rnd C o b ws) (f : ∀ ws, C ws → ws.length ≤ n) : ws.length ≤ n + 2 := by
  rcases h with ⟨h, _⟩ | ⟨w2, h, rfl⟩
  · have := f ws h
    omega
  · have := f w2 h
    simp
    omega
theorem core_len : ∀ (t : Tree) (ws : List W), Core t ws → ws.length + 5 ≤ 6 * 2 ^ t.depth
  | .yes, ws, h => by simp only [Core] at h; subst h; decide
  | .no, ws, h => by simp only [Core] at h; subst h; decide
  | .b i, ws, h => by simp only [Core] at h; subst h; show 1 + 5 ≤ 6 * 1; decide
  | .c i v, ws, h => by simp only [Core] at h; subst h; show 1 + 5 ≤ 6 * 1; decide
  | .not t, ws, h => by
    simp only [Core] at h
    obtain ⟨w1, rfl, h1⟩ := h
    have := rnd_len (n := 6 * 2 ^ t.depth - 5) h1 fun ws hw => by have := core_len t ws hw; omega
    have p := Nat.pow_pos (n := t.depth) (show 0 < 2 by decide)
    show (w1.length + 1) + 5 ≤ 6 * 2 ^ (t.depth + 1)
    rw [Nat.pow_succ]
    omega
  | .and t u, ws, h => by
    simp only [Core] at h
    obtain ⟨w1, w2, rfl, h1, h2⟩ := h
    have a1 := rnd_len (n := 6 * 2 ^ t.depth - 5) h1 fun ws hw => by have := core_len t ws hw; omega
    have a2 := rnd_len (n := 6 * 2 ^ u.depth - 5) h2 fun ws hw => by have := core_len u ws hw; omega
    have p1 := Nat.pow_le_pow_right (n := 2) (by decide) (Nat.le_max_left t.depth u.depth)
    have p2 := Nat.pow_le_pow_right (n := 2) (by decide) (Nat.le_max_right t.depth u.depth)
    have q1 := Nat.pow_pos (n := t.depth) (show 0 < 2 by decide)
    have q2 := Nat.pow_pos (n := u.depth) (show 0 < 2 by decide)
    show (w1 ++ [W.and] ++ w2).length + 5 ≤ 6 * 2 ^ (max t.depth u.depth + 1)
    rw [Nat.pow_succ]
    simp
    omega
  | .or t u, ws, h => by
    simp only [Core] at h
    obtain ⟨w1, w2, rfl, h1, h2⟩ := h
    have a1 := rnd_len (n := 6 * 2 ^ t.depth - 5) h1 fun ws hw => by have := core_len t ws hw; omega
    have a2 := rnd_len (n := 6 * 2 ^ u.depth - 5) h2 fun ws hw => by have := core_len u ws hw; omega
    have p1 := Nat.pow_le_pow_right (n := 2) (by decide) (Nat.le_max_left t.depth u.depth)
    have p2 := Nat.pow_le_pow_right (n := 2) (by decide) (Nat.le_max_right t.depth u.depth)
    have q1 := Nat.pow_pos (n := t.depth) (show 0 < 2 by decide)
    have q2 := Nat.pow_pos (n := u.depth) (show 0 < 2 by decide)
    show (w1 ++ [W.or] ++ w2).length + 5 ≤ 6 * 2 ^ (max t.depth u.depth + 1)
    rw [Nat.pow_succ]
    simp
    omega
theorem ren_len {t : Tree} {b d : Nat} {ws : List W} (h : Ren t b ws) (hd : t.depth ≤ d) : ws.length + 3 ≤ 6 * 2 ^ d := by
  have := rnd_len (n := 6 * 2 ^ t.depth - 5) h fun ws hw => by have := core_len t ws hw; omega
  have p1 := Nat.pow_le_pow_right (n := 2) (by decide) hd
  have q1 := Nat.pow_pos (n := t.depth) (show 0 < 2 by decide)
  omega
/-! joined texts -/
def wc (w : Str) : List Nat := w.cps.toList
def par (w : Str) : Prop := w = "(" ∨ w = ")"
def segText (segs : List (Nat × Str)) : List Nat := segs.flatMap fun s => List.replicate s.1 32 ++ wc s.2
structure SegOk (segs : List (Nat × Str)) : Prop where
  fst : ∀ s, segs[0]? = some s → s.1 = 0
  sep : ∀ (i : Nat) (s t : Nat × Str), segs[i]? = some s → segs[i + 1]? = some t → t.1 = 0 → par s.2 ∨ par t.2
theorem segText_snoc (segs : List (Nat × Str)) (n : Nat) (w : Str) : segText (segs ++ [(n, w)]) = segText segs ++ (List.replicate n 32 ++ wc w) := by
  unfold segText
  rw [List.flatMap_append]
  simp
theorem SegOk.nil : SegOk [] := ⟨fun s h => (nomatch h), fun i s t h => (nomatch h)⟩
theorem SegOk.snoc {segs : List (Nat × Str)} {n : Nat} {w : Str} (h : SegOk segs) (h0 : segs = [] → n = 0) (h1 : ∀ s, segs[segs.length - 1]? = some s → segs ≠ [] → n = 0 → par s.2 ∨ par w) : SegOk (segs ++ [(n, w)]) := by
  constructor
  · intro s hs
    by_cases e : segs = []
    · subst e
      simp at hs
      subst hs
      exact h0 rfl
    · rw [List.getElem?_append_left (List.length_pos_iff.mpr e)] at hs
      exact h.fst s hs
  · intro i s t hs ht z
    have hi : i + 1 < (segs ++ [(n, w)]).length := (List.getElem?_eq_some_iff.mp ht).1
    rw [List.length_append] at hi
    have hi' : i < segs.length := by simp at hi; omega
    rw [List.getElem?_append_left hi'] at hs
    by_cases e : i + 1 < segs.length
    · rw [List.getElem?_append_left e] at ht
      exact h.sep i s t hs ht z
    · have e2 : i + 1 = segs.length := by omega
      rw [e2, List.getElem?_append_right (Nat.le_refl _), Nat.sub_self] at ht
      simp at ht
      subst ht
      refine h1 s ?_ (fun q => by rw [q] at hi'; cases hi') z
      rw [← e2, Nat.add_sub_cancel]
      exact hs
end Cb
/-! reading the words of a tree, in plain Lean -/
namespace Cb
open PySem
inductive Step where
  | yes | no | blank (i : Nat) | worth (i v : Nat) | not | and | or
/-- the step of an atom -/
def W.atom (sz : List Nat) : W → Option Step
  | .yes => some .yes
  | .no => some .no
  | .b i => if i < sz.length then some (.blank i) else none
  | .c i v => match sz[i]? with
    | some n => if v < n then some (.worth i v) else none
    | none => none
  | _ => none
/-- an operator's binding and step -/
def W.bind : W → Nat
  | .or => 1
  | .and => 2
  | .not => 3
  | _ => 0
def W.op : W → Step
  | .or => .or
  | .and => .and
  | _ => .not
def W.isLp : W → Bool
  | .lp => true
  | _ => false
/-- give_way: the operators that bind as strong as b go to the steps (wt: the top first) -/
def way (b : Nat) : List Step → List W → List Step × List W
  | st, [] => (st, [])
  | st, w :: r => if w.isLp = true ∨ w.bind < b then (st, w :: r) else way b (st ++ [w.op]) r
structure PS where
  st : List Step
  wt : List W
  wn : Bool
def tk (sz : List Nat) (w : W) (s : PS) : PS :=
  if s.wn = true then
    match w with
    | .not => ⟨s.st, .not :: s.wt, true⟩
    | .lp => ⟨s.st, .lp :: s.wt, true⟩
    | w => ⟨s.st ++ (w.atom sz).toList, s.wt, false⟩
  else
    match w with
    | .and => ⟨(way 2 s.st s.wt).1, .and :: (way 2 s.st s.wt).2, true⟩
    | .or => ⟨(way 1 s.st s.wt).1, .or :: (way 1 s.st s.wt).2, true⟩
    | _ => ⟨(way 0 s.st s.wt).1, (way 0 s.st s.wt).2.tail, false⟩
/-- the word may be taken -/
def okW (sz : List Nat) (w : W) (s : PS) : Prop :=
  if s.wn = true then
    match w with
    | .not => True
    | .lp => True
    | w => ∃ a, w.atom sz = some a
  else
    match w with
    | .and => True
    | .or => True
    | .rp => W.lp ∈ s.wt
    | _ => False
def tks (sz : List Nat) : List W → PS → PS
  | [], s => s
  | w :: r, s => tks sz r (tk sz w s)
def oks (sz : List Nat) : List W → PS → Prop
  | [], _ => True
  | w :: r, s => okW sz w s ∧ oks sz r (tk sz w s)
theorem tks_app (sz : List Nat) : ∀ (a b : List W) (s : PS), tks sz (a ++ b) s = tks sz b (tks sz a s)
  | [], _, _ => rfl
  | _ :: a, b, s => tks_app sz a b _
theorem oks_app (sz : List Nat) : ∀ (a b : List W) (s : PS), oks sz (a ++ b) s ↔ oks sz a s ∧ oks sz b (tks sz a s)
  | [], _, _ => ⟨fun h => ⟨trivial, h⟩, fun h => h.2⟩
  | w :: a, b, s => by
    show okW sz w s ∧ oks sz (a ++ b) (tk sz w s) ↔ (okW sz w s ∧ oks sz a (tk sz w s)) ∧ _
    rw [oks_app sz a b]
    exact ⟨fun h => ⟨⟨h.1, h.2.1⟩, h.2.2⟩, fun h => ⟨h.1.1, h.1.2, h.2⟩⟩
/-! what the steps answer -/
def ap (c pat : List Int) : Step → List Bool → List Bool
  | .yes, p => true :: p
  | .no, p => false :: p
  | .blank i, p => (!decide ((i : Int) ∈ pat)) :: p
  | .worth i v, p => decide (c.getD i 0 = (v : Int)) :: p
  | .not, a :: p => (!a) :: p
  | .not, [] => []
  | .and, a :: b :: p => (b && a) :: p
  | .and, p => p
  | .or, a :: b :: p => (b || a) :: p
  | .or, p => p
def sem (c pat : List Int) (st : List Step) : List Bool := st.foldl (fun p s => ap c pat s p) []
theorem sem_snoc (c pat : List Int) (st : List Step) (s : Step) : sem c pat (st ++ [s]) = ap c pat s (sem c pat st) := by
  unfold sem
  rw [List.foldl_append]
  rfl
def wy (c pat : List Int) (b : Nat) : List Bool → List W → List Bool × List W
  | p, [] => (p, [])
  | p, w :: r => if w.isLp = true ∨ w.bind < b then (p, w :: r) else wy c pat b (ap c pat w.op p) r
theorem wy_stop {c pat : List Int} {b : Nat} {p : List Bool} {w : W} {r : List W} (h : w.isLp = true ∨ w.bind < b) : wy c pat b p (w :: r) = (p, w :: r) := by
  conv => lhs; unfold wy
  rw [if_pos h]
theorem wy_pop {c pat : List Int} {b : Nat} {p : List Bool} {w : W} {r : List W} (h : ¬ (w.isLp = true ∨ w.bind < b)) : wy c pat b p (w :: r) = wy c pat b (ap c pat w.op p) r := by
  conv => lhs; unfold wy
  rw [if_neg h]
theorem way_sem (c pat : List Int) (b : Nat) : ∀ (wt : List W) (st : List Step), wy c pat b (sem c pat st) wt = (sem c pat (way b st wt).1, (way b st wt).2)
  | [], _ => rfl
  | w :: r, st => by
    unfold wy way
    split
    · rfl
    · rw [← sem_snoc]
      exact way_sem c pat b r _
/-- the operators above the last parenthesis bind at most as strong as b -/
def Lo (b : Nat) : List W → Prop
  | [] => True
  | w :: r => w.isLp = true ∨ (w.bind ≤ b ∧ Lo b r)
theorem Lo.mono {b c : Nat} (h : b ≤ c) : ∀ {wt : List W}, Lo b wt → Lo c wt
  | [], _ => trivial
  | _ :: _, .inl e => .inl e
  | _ :: _, .inr ⟨e, r⟩ => .inr ⟨by omega, r.mono h⟩
theorem Lo.way {b k : Nat} : ∀ {wt : List W} {st : List Step}, Lo b wt → Lo b (Cb.way k st wt).2
  | [], _, _ => trivial
  | w :: r, st, h => by
    unfold Cb.way
    split
    · exact h
    · rename_i q
      rcases h with e | ⟨_, h⟩
      · exact absurd (.inl e) q
      · exact h.way
/-- with what binds as b at most, taking and: the two ways meet -/
theorem wy_and (c pat : List Int) {b : Nat} (hb : b ≤ 2) (v : Bool) : ∀ (wt : List W) (x : Bool) (p : List Bool), Lo 2 wt → ∃ y p', (wy c pat 2 (x :: p) wt).1 = y :: p' ∧ wy c pat b ((y && v) :: p') (wy c pat 2 (x :: p) wt).2 = wy c pat b ((x && v) :: p) wt
  | [], x, p, _ => ⟨x, p, rfl, rfl⟩
  | w :: r, x, p, h => by
    by_cases q : w.isLp = true ∨ w.bind < 2
    · rw [wy_stop q]
      exact ⟨x, p, rfl, rfl⟩
    · rw [wy_pop q]
      have q1 : ¬ w.isLp = true := fun z => q (.inl z)
      have h2 : w.bind ≤ 2 ∧ Lo 2 r := h.resolve_left q1
      have hw : w = .and := by
        cases w <;> simp [W.bind, W.isLp] at q h2 ⊢
      subst hw
      have e : ¬ (W.isLp .and = true ∨ W.bind .and < b) := by
        simp [W.isLp, W.bind]
        omega
      rw [wy_pop e]
      cases p with
      | nil => exact wy_and c pat hb v r x [] h2.2
      | cons z p =>
        have := wy_and c pat hb v r (z && x) p h2.2
        obtain ⟨y, p', h3, h4⟩ := this
        refine ⟨y, p', h3, ?_⟩
        show wy c pat b ((y && v) :: p') _ = wy c pat b ((z && (x && v)) :: p) r
        rw [← Bool.and_assoc]
        exact h4
theorem wy_or (c pat : List Int) {b : Nat} (hb : b ≤ 1) (v : Bool) : ∀ (wt : List W) (x : Bool) (p : List Bool), Lo 1 wt → (∀ w ∈ wt, w = .lp ∨ w = .or ∨ w = .and ∨ w = .not) → ∃ y p', (wy c pat 1 (x :: p) wt).1 = y :: p' ∧ wy c pat b ((y || v) :: p') (wy c pat 1 (x :: p) wt).2 = wy c pat b ((x || v) :: p) wt
  | [], x, p, _, _ => ⟨x, p, rfl, rfl⟩
  | w :: r, x, p, h, hm => by
    by_cases q : w.isLp = true ∨ w.bind < 1
    · rw [wy_stop q]
      exact ⟨x, p, rfl, rfl⟩
    · rw [wy_pop q]
      have q1 : ¬ w.isLp = true := fun z => q (.inl z)
      have h2 : w.bind ≤ 1 ∧ Lo 1 r := h.resolve_left q1
      have hw : w = .or := by
        cases w <;> simp [W.bind, W.isLp] at q h2 ⊢
      subst hw
      have e : ¬ (W.isLp .or = true ∨ W.bind .or < b) := by
        simp [W.isLp, W.bind]
        omega
      rw [wy_pop e]
      have hm' := fun w hw => hm w (List.mem_cons_of_mem _ hw)
      cases p with
      | nil => exact wy_or c pat hb v r x [] h2.2 hm'
      | cons z p =>
        have := wy_or c pat hb v r (z || x) p h2.2 hm'
        obtain ⟨y, p', h3, h4⟩ := this
        refine ⟨y, p', h3, ?_⟩
        show wy c pat b ((y || v) :: p') _ = wy c pat b ((z || (x || v)) :: p) r
        rw [← Bool.or_assoc]
        exact h4
/-- what is waiting: parentheses and operators -/
def Wok (wt : List W) : Prop := ∀ w ∈ wt, w = .lp ∨ w = .or ∨ w = .and ∨ w = .not
theorem Wok.way {b : Nat} : ∀ {wt : List W} {st : List Step}, Wok wt → Wok (Cb.way b st wt).2
  | [], _, h => h
  | w :: r, st, h => by
    unfold Cb.way
    split
    · exact h
    · exact Wok.way fun x hx => h x (List.mem_cons_of_mem _ hx)
theorem Wok.cons {w : W} {wt : List W} (h : Wok wt) (e : w = .lp ∨ w = .or ∨ w = .and ∨ w = .not) : Wok (w :: wt) := fun x hx => (List.mem_cons.mp hx).elim (fun z => by rw [z]; exact e) (h x)
theorem Wok.tail {wt : List W} (h : Wok wt) : Wok wt.tail := fun x hx => h x (List.mem_of_mem_tail hx)
theorem wy_sub (c pat : List Int) (b : Nat) : ∀ (wt : List W) (p : List Bool) (w : W), w ∈ (wy c pat b p wt).2 → w ∈ wt
  | [], _, _, h => h
  | x :: r, p, w, h => by
    unfold wy at h
    split at h
    · exact h
    · exact List.mem_cons_of_mem _ (wy_sub c pat b r _ w h)
theorem wy_lp (c pat : List Int) (b : Nat) : ∀ (wt : List W) (p : List Bool), W.lp ∈ wt → W.lp ∈ (wy c pat b p wt).2
  | [], _, h => h
  | x :: r, p, h => by
    unfold wy
    split
    · exact h
    · rename_i q
      refine wy_lp c pat b r _ ?_
      rcases List.mem_cons.mp h with e | m
      · subst e
        exact absurd (.inl rfl) q
      · exact m
/-- what reading the words of t, where b is asked, comes to -/
def Reads' (sz : List Nat) (t : Tree) (b : Nat) (ws : List W) : Prop := ∀ (st : List Step) (wt : List W), Lo b wt → Wok wt → oks sz ws ⟨st, wt, true⟩ ∧ ∃ st' wt', tks sz ws ⟨st, wt, true⟩ = ⟨st', wt', false⟩ ∧ Wok wt' ∧ ∀ c pat b', b' ≤ b → wy c pat b' (sem c pat st') wt' = wy c pat b' (t.val c pat :: sem c pat st) wt
theorem reads_par {sz : List Nat} {t : Tree} {ws : List W} (h : Reads' sz t 0 ws) (b : Nat) : Reads' sz t b (W.lp :: (ws ++ [W.rp])) := by
  intro st wt _ hw
  obtain ⟨h1, st', wt', h2, hw', h3⟩ := h st (W.lp :: wt) (.inl rfl) (hw.cons (.inl rfl))
  have e0 : ∀ c pat, wy c pat 0 (sem c pat st') wt' = (t.val c pat :: sem c pat st, W.lp :: wt) := fun c pat => by
    rw [h3 c pat 0 (Nat.le_refl _), wy_stop (.inl rfl)]
  have e1 := e0 [] []
  rw [way_sem] at e1
  have lp : W.lp ∈ wt' := wy_sub [] [] 0 wt' (sem [] [] st') W.lp (by rw [way_sem, e1]; exact List.mem_cons_self)
  have e2 : (way 0 st' wt').2 = W.lp :: wt := congrArg Prod.snd e1
  have hrun : tk sz W.rp ⟨st', wt', false⟩ = ⟨(way 0 st' wt').1, wt, false⟩ := by
    show (⟨(way 0 st' wt').1, (way 0 st' wt').2.tail, false⟩ : PS) = _
    rw [e2]
    rfl
  refine ⟨⟨trivial, ?_⟩, (way 0 st' wt').1, wt, ?_, hw, fun c pat b' _ => ?_⟩
  · show oks sz (ws ++ [W.rp]) ⟨st, W.lp :: wt, true⟩
    rw [oks_app, h2]
    exact ⟨h1, lp, trivial⟩
  · show tks sz (ws ++ [W.rp]) ⟨st, W.lp :: wt, true⟩ = _
    rw [tks_app, h2]
    exact hrun
  · have e3 := e0 c pat
    rw [way_sem] at e3
    rw [show sem c pat (way 0 st' wt').1 = t.val c pat :: sem c pat st from congrArg Prod.fst e3]
theorem reads_rnd {sz : List Nat} {t : Tree} {b : Nat} {ws : List W} (hc : ∀ ws b, Core t ws → b ≤ t.own → Reads' sz t b ws) (h : Ren t b ws) : Reads' sz t b ws := by
  rcases h with ⟨h, hb⟩ | ⟨w2, h, rfl⟩
  · exact hc ws b h hb
  · exact reads_par (hc w2 0 h (Nat.zero_le _)) b
theorem reads_atom {sz : List Nat} {t : Tree} {w : W} {s : Step} {b : Nat} (ha : w.atom sz = some s) (hv : ∀ c pat p, ap c pat s p = t.val c pat :: p) : Reads' sz t b [w] := by
  intro st wt _ hw
  have hne : w ≠ .not ∧ w ≠ .lp := by
    constructor <;> (intro e; subst e; cases ha)
  have e1 : tk sz w ⟨st, wt, true⟩ = ⟨st ++ [s], wt, false⟩ := by
    unfold tk
    rw [if_pos rfl]
    cases w <;> first | (exact absurd rfl hne.1) | (exact absurd rfl hne.2) | (dsimp only; rw [ha]; rfl)
  have e2 : okW sz w ⟨st, wt, true⟩ := by
    unfold okW
    rw [if_pos rfl]
    cases w <;> first | trivial | exact ⟨s, ha⟩
  refine ⟨⟨e2, trivial⟩, st ++ [s], wt, ?_, hw, fun c pat b' _ => ?_⟩
  · show tk sz w ⟨st, wt, true⟩ = _
    exact e1
  · rw [sem_snoc, hv]
theorem core_reads {sz : List Nat} : ∀ (t : Tree), t.Good sz → ∀ (ws : List W) (b : Nat), Core t ws → b ≤ t.own → Reads' sz t b ws
  | .yes, _, ws, b, h, _ => by
    simp only [Core] at h
    subst h
    exact reads_atom (s := .yes) rfl fun _ _ _ => rfl
  | .no, _, ws, b, h, _ => by
    simp only [Core] at h
    subst h
    exact reads_atom (s := .no) rfl fun _ _ _ => rfl
  | .b i, hg, ws, b, h, _ => by
    simp only [Core] at h
    subst h
    refine reads_atom (s := .blank i) ?_ fun _ _ _ => rfl
    have hg' : i < sz.length := hg
    show (if i < sz.length then some (Step.blank i) else none) = _
    rw [if_pos hg']
  | .c i v, hg, ws, b, h, _ => by
    simp only [Core] at h
    subst h
    refine reads_atom (s := .worth i v) ?_ fun _ _ _ => rfl
    obtain ⟨n, hn, hv⟩ := hg
    show (match sz[i]? with | some n => if v < n then some (Step.worth i v) else none | none => none) = _
    rw [hn]
    dsimp
    rw [if_pos hv]
  | .not t, hg, ws, b, h, hb => by
    simp only [Core] at h
    obtain ⟨w1, rfl, h1⟩ := h
    have r1 := reads_rnd (core_reads t hg) h1
    intro st wt hl hw
    have hb3 : b ≤ 3 := hb
    obtain ⟨o1, st', wt', t1, hw', e1⟩ := r1 st (.not :: wt) (.inr ⟨Nat.le_refl _, hl.mono hb3⟩) (hw.cons (by simp))
    refine ⟨⟨trivial, o1⟩, st', wt', t1, hw', fun c pat b' hb' => ?_⟩
    rw [e1 c pat b' (by omega)]
    rw [wy_pop (by simp [W.isLp, W.bind]; omega)]
    rfl
  | .and t u, hg, ws, b, h, hb => by
    simp only [Core] at h
    obtain ⟨w1, w2, rfl, h1, h2⟩ := h
    have r1 := reads_rnd (core_reads t hg.1) h1
    have r2 := reads_rnd (core_reads u hg.2) h2
    intro st wt hl hw
    have hb2 : b ≤ 2 := hb
    obtain ⟨o1, st1, wt1, t1, hw1, e1⟩ := r1 st wt (hl.mono hb2) hw
    have e1' : ∀ c pat, (sem c pat (way 2 st1 wt1).1, (way 2 st1 wt1).2) = wy c pat 2 (t.val c pat :: sem c pat st) wt := fun c pat => by
      rw [← way_sem]
      exact e1 c pat 2 (Nat.le_refl _)
    have lo2 : Lo 2 (way 2 st1 wt1).2 := by
      have : (way 2 st1 wt1).2 = (wy [] [] 2 (t.val [] [] :: sem [] [] st) wt).2 := congrArg Prod.snd (e1' [] [])
      rw [this]
      have gen : ∀ (wt : List W) (p : List Bool), Lo 2 wt → Lo 2 (wy [] [] 2 p wt).2 := by
        intro wt
        induction wt with
        | nil => intro p h; exact h
        | cons w r ih =>
          intro p h
          unfold wy
          split
          · exact h
          · rename_i q
            rcases h with e | ⟨_, h⟩
            · exact absurd (.inl e) q
            · exact ih _ h
      exact gen _ _ (hl.mono hb2)
    obtain ⟨o2, st2, wt2, t2, hw2, e2⟩ := r2 (way 2 st1 wt1).1 (.and :: (way 2 st1 wt1).2) (.inr ⟨Nat.le_refl _, lo2⟩) (hw1.way.cons (by simp))
    have hmid : tks sz (w1 ++ [W.and]) ⟨st, wt, true⟩ = ⟨(way 2 st1 wt1).1, .and :: (way 2 st1 wt1).2, true⟩ := by
      rw [tks_app, t1]
      rfl
    refine ⟨?_, st2, wt2, ?_, hw2, fun c pat b' hb' => ?_⟩
    · rw [oks_app, oks_app, hmid, t1]
      exact ⟨⟨o1, trivial, trivial⟩, o2⟩
    · rw [tks_app, hmid]
      exact t2
    · rw [e2 c pat b' (by omega)]
      obtain ⟨y, p', q1, q2⟩ := wy_and c pat (b := b') (by omega) (u.val c pat) wt (t.val c pat) (sem c pat st) (hl.mono hb2)
      have e3 := e1' c pat
      have s1 : sem c pat (way 2 st1 wt1).1 = y :: p' := by
        rw [← q1, ← e3]
      have s2 : (way 2 st1 wt1).2 = (wy c pat 2 (t.val c pat :: sem c pat st) wt).2 := by
        rw [← e3]
      rw [s1, s2]
      rw [wy_pop (by simp [W.isLp, W.bind]; omega)]
      exact q2
  | .or t u, hg, ws, b, h, hb => by
    simp only [Core] at h
    obtain ⟨w1, w2, rfl, h1, h2⟩ := h
    have r1 := reads_rnd (core_reads t hg.1) h1
    have r2 := reads_rnd (core_reads u hg.2) h2
    intro st wt hl hw
    have hb2 : b ≤ 1 := hb
    obtain ⟨o1, st1, wt1, t1, hw1, e1⟩ := r1 st wt (hl.mono hb2) hw
    have e1' : ∀ c pat, (sem c pat (way 1 st1 wt1).1, (way 1 st1 wt1).2) = wy c pat 1 (t.val c pat :: sem c pat st) wt := fun c pat => by
      rw [← way_sem]
      exact e1 c pat 1 (Nat.le_refl _)
    have lo2 : Lo 1 (way 1 st1 wt1).2 := by
      have : (way 1 st1 wt1).2 = (wy [] [] 1 (t.val [] [] :: sem [] [] st) wt).2 := congrArg Prod.snd (e1' [] [])
      rw [this]
      have gen : ∀ (wt : List W) (p : List Bool), Lo 1 wt → Lo 1 (wy [] [] 1 p wt).2 := by
        intro wt
        induction wt with
        | nil => intro p h; exact h
        | cons w r ih =>
          intro p h
          unfold wy
          split
          · exact h
          · rename_i q
            rcases h with e | ⟨_, h⟩
            · exact absurd (.inl e) q
            · exact ih _ h
      exact gen _ _ (hl.mono hb2)
    obtain ⟨o2, st2, wt2, t2, hw2, e2⟩ := r2 (way 1 st1 wt1).1 (.or :: (way 1 st1 wt1).2) (.inr ⟨Nat.le_refl _, lo2⟩) (hw1.way.cons (by simp))
    have hmid : tks sz (w1 ++ [W.or]) ⟨st, wt, true⟩ = ⟨(way 1 st1 wt1).1, .or :: (way 1 st1 wt1).2, true⟩ := by
      rw [tks_app, t1]
      rfl
    refine ⟨?_, st2, wt2, ?_, hw2, fun c pat b' hb' => ?_⟩
    · rw [oks_app, oks_app, hmid, t1]
      exact ⟨⟨o1, trivial, trivial⟩, o2⟩
    · rw [tks_app, hmid]
      exact t2
    · rw [e2 c pat b' (by omega)]
      obtain ⟨y, p', q1, q2⟩ := wy_or c pat (b := b') (by omega) (u.val c pat) wt (t.val c pat) (sem c pat st) (hl.mono hb2) hw
      have e3 := e1' c pat
      have s1 : sem c pat (way 1 st1 wt1).1 = y :: p' := by
        rw [← q1, ← e3]
      have s2 : (way 1 st1 wt1).2 = (wy c pat 1 (t.val c pat :: sem c pat st) wt).2 := by
        rw [← e3]
      rw [s1, s2]
      rw [wy_pop (by simp [W.isLp, W.bind]; omega)]
      exact q2
/-- the whole: reading the words of t from nothing, and giving way -/
theorem reads_all {sz : List Nat} {t : Tree} {b : Nat} {ws : List W} (hg : t.Good sz) (h : Ren t b ws) :
    oks sz ws ⟨[], [], true⟩ ∧ ∃ st wt, tks sz ws ⟨[], [], true⟩ = ⟨st, wt, false⟩ ∧ Wok wt ∧ W.lp ∉ wt ∧ (way 0 st wt).2 = [] ∧ ∀ c pat, sem c pat (way 0 st wt).1 = [t.val c pat] := by
  obtain ⟨h1, st, wt, h2, h3, h4⟩ := reads_rnd (core_reads t hg) h [] [] trivial (fun _ h => by cases h)
  have e : ∀ c pat, (sem c pat (way 0 st wt).1, (way 0 st wt).2) = ([t.val c pat], []) := fun c pat => by
    rw [← way_sem]
    exact h4 c pat 0 (Nat.zero_le _)
  refine ⟨h1, st, wt, h2, h3, fun hm => ?_, congrArg Prod.snd (e [] []), fun c pat => congrArg Prod.fst (e c pat)⟩
  have := wy_lp [] [] 0 wt (sem [] [] st) hm
  rw [way_sem, show (way 0 st wt).2 = [] from congrArg Prod.snd (e [] [])] at this
  cases this
/-- no word of a tree is if -/
theorem core_no_if : ∀ (t : Tree) (ws : List W), Core t ws → W.iff ∉ ws
  | .yes, ws, h => by simp only [Core] at h; subst h; simp
  | .no, ws, h => by simp only [Core] at h; subst h; simp
  | .b i, ws, h => by simp only [Core] at h; subst h; simp
  | .c i v, ws, h => by simp only [Core] at h; subst h; simp
  | .not t, ws, h => by
    simp only [Core] at h
    obtain ⟨w1, rfl, h1⟩ := h
    have := fun ws => core_no_if t ws
    rcases h1 with ⟨h1, _⟩ | ⟨w2, h1, rfl⟩
    · have := this _ h1
      simp [this]
    · have := this _ h1
      simp [this]
  | .and t u, ws, h => by
    simp only [Core] at h
    obtain ⟨w1, w2, rfl, h1, h2⟩ := h
    have a1 : W.iff ∉ w1 := by
      rcases h1 with ⟨h1, _⟩ | ⟨w3, h1, rfl⟩
      · exact core_no_if t _ h1
      · have := core_no_if t _ h1
        simp [this]
    have a2 : W.iff ∉ w2 := by
      rcases h2 with ⟨h2, _⟩ | ⟨w3, h2, rfl⟩
      · exact core_no_if u _ h2
      · have := core_no_if u _ h2
        simp [this]
    simp [a1, a2]
  | .or t u, ws, h => by
    simp only [Core] at h
    obtain ⟨w1, w2, rfl, h1, h2⟩ := h
    have a1 : W.iff ∉ w1 := by
      rcases h1 with ⟨h1, _⟩ | ⟨w3, h1, rfl⟩
      · exact core_no_if t _ h1
      · have := core_no_if t _ h1
        simp [this]
    have a2 : W.iff ∉ w2 := by
      rcases h2 with ⟨h2, _⟩ | ⟨w3, h2, rfl⟩
      · exact core_no_if u _ h2
      · have := core_no_if u _ h2
        simp [this]
    simp [a1, a2]
theorem ren_no_if {t : Tree} {b : Nat} {ws : List W} (h : Ren t b ws) : W.iff ∉ ws := by
  rcases h with ⟨h, _⟩ | ⟨w3, h, rfl⟩
  · exact core_no_if t _ h
  · have := core_no_if t _ h
    simp [this]
end Cb
/-! the steps that are read never ask for what is not there -/
namespace Cb
open PySem
/-- the size of the pile behind a step -/
def stp : Step → Nat → Option Nat
  | .not, n => if 1 ≤ n then some n else none
  | .and, n => if 2 ≤ n then some (n - 1) else none
  | .or, n => if 2 ≤ n then some (n - 1) else none
  | _, n => some (n + 1)
def prun (st : List Step) : Option Nat := st.foldl (fun o s => o.bind (stp s)) (some 0)
theorem prun_snoc (st : List Step) (s : Step) : prun (st ++ [s]) = (prun st).bind (stp s) := by
  unfold prun
  rw [List.foldl_append]
  rfl
theorem prun_none (st : List Step) : ∀ r : List Step, (r.foldl (fun o s => o.bind (stp s)) (none : Option Nat)) = none
  | [] => rfl
  | _ :: r => prun_none st r
/-- a prun that ends is one at every prefix -/
theorem prun_take {st : List Step} {n : Nat} (h : prun st = some n) (i : Nat) : ∃ m, prun (st.take i) = some m := by
  cases e : prun (st.take i) with
  | some m => exact ⟨m, rfl⟩
  | none =>
    exfalso
    have h2 : prun st = (st.drop i).foldl (fun o s => o.bind (stp s)) (prun (st.take i)) := by
      conv => lhs; rw [← List.take_append_drop i st]
      unfold prun
      rw [List.foldl_append]
    rw [e, prun_none st] at h2
    rw [h2] at h
    cases h
theorem sem_run (c pat : List Int) {st : List Step} : ∀ {n : Nat}, prun st = some n → (sem c pat st).length = n := by
  induction st using snoc_ind with
  | h0 =>
    intro n h
    cases h
    rfl
  | hs l s ih =>
    intro n h
    rw [prun_snoc] at h
    cases e : prun l with
    | none => rw [e] at h; cases h
    | some m =>
      rw [e] at h
      have hl := ih e
      rw [sem_snoc]
      have h' : stp s m = some n := h
      cases s with
      | yes => cases h'; show (sem c pat l).length + 1 = _; rw [hl]
      | no => cases h'; show (sem c pat l).length + 1 = _; rw [hl]
      | blank i => cases h'; show (sem c pat l).length + 1 = _; rw [hl]
      | worth i v => cases h'; show (sem c pat l).length + 1 = _; rw [hl]
      | not =>
        have h2 : (if 1 ≤ m then some m else none) = some n := h'
        split at h2
        · cases h2
          cases q : sem c pat l with
          | nil => rw [q] at hl; simp at hl; omega
          | cons a p => rw [q] at hl; exact hl
        · cases h2
      | and =>
        have h2 : (if 2 ≤ m then some (m - 1) else none) = some n := h'
        split at h2
        · cases h2
          match q : sem c pat l, hl with
          | [], hl => simp at hl; omega
          | [a], hl => simp at hl; omega
          | a :: b :: p, hl =>
            show ((b && a) :: p).length = _
            simp at hl ⊢
            omega
        · cases h2
      | or =>
        have h2 : (if 2 ≤ m then some (m - 1) else none) = some n := h'
        split at h2
        · cases h2
          match q : sem c pat l, hl with
          | [], hl => simp at hl; omega
          | [a], hl => simp at hl; omega
          | a :: b :: p, hl =>
            show ((b || a) :: p).length = _
            simp at hl ⊢
            omega
        · cases h2
/-- the operators of two parts among what is waiting -/
def bin : List W → Nat
  | [] => 0
  | .and :: r => bin r + 1
  | .or :: r => bin r + 1
  | _ :: r => bin r
def StG (sz : List Nat) (st : List Step) : Prop := ∀ i v, Step.worth i v ∈ st → i < sz.length
structure PInv (sz : List Nat) (s : PS) : Prop where
  r : prun s.st = some (bin s.wt + if s.wn = true then 0 else 1)
  g : StG sz s.st
  w : Wok s.wt
theorem way_run {b : Nat} : ∀ {wt : List W} {st : List Step}, Wok wt → prun st = some (bin wt + 1) → prun (way b st wt).1 = some (bin (way b st wt).2 + 1)
  | [], _, _, h => h
  | w :: r, st, hw, h => by
    unfold way
    split
    · exact h
    · rename_i q
      refine way_run (fun x hx => hw x (List.mem_cons_of_mem _ hx)) ?_
      rw [prun_snoc, h]
      have hop := hw w List.mem_cons_self
      rcases hop with rfl | rfl | rfl | rfl
      · exact absurd (.inl rfl) q
      · show (if 2 ≤ bin r + 1 + 1 then some (bin r + 1 + 1 - 1) else none) = _
        rw [if_pos (by omega)]
        rfl
      · show (if 2 ≤ bin r + 1 + 1 then some (bin r + 1 + 1 - 1) else none) = _
        rw [if_pos (by omega)]
        rfl
      · show (if 1 ≤ bin r + 1 then some (bin r + 1) else none) = _
        rw [if_pos (by omega)]
theorem way_stg {sz : List Nat} {b : Nat} : ∀ {wt : List W} {st : List Step}, StG sz st → StG sz (way b st wt).1
  | [], _, h => h
  | w :: r, st, h => by
    unfold way
    split
    · exact h
    · refine way_stg fun i v hm => ?_
      rcases List.mem_append.mp hm with m | m
      · exact h i v m
      · have e : Step.worth i v = w.op := by simpa using m
        cases w <;> cases e
theorem way_lp0 : ∀ {wt : List W} {st : List Step}, W.lp ∈ wt → ∃ r, (way 0 st wt).2 = W.lp :: r
  | [], _, h => by cases h
  | w :: r, st, h => by
    unfold way
    by_cases q : w.isLp = true ∨ w.bind < 0
    · rw [if_pos q]
      rcases q with q | q
      · cases w <;> first | exact ⟨r, rfl⟩ | cases q
      · omega
    · rw [if_neg q]
      refine way_lp0 ?_
      rcases List.mem_cons.mp h with e | m
      · subst e
        exact absurd (.inl rfl) q
      · exact m
theorem atom_run {sz : List Nat} {w : W} {a : Step} (h : w.atom sz = some a) (n : Nat) : stp a n = some (n + 1) := by
  cases w with
  | yes => cases h; rfl
  | no => cases h; rfl
  | b i =>
    have h2 : (if i < sz.length then some (Step.blank i) else none) = some a := h
    split at h2
    · cases h2; rfl
    · cases h2
  | c i v =>
    have h2 : (match sz[i]? with | some n => if v < n then some (Step.worth i v) else none | none => none) = some a := h
    split at h2
    · split at h2
      · cases h2; rfl
      · cases h2
    · cases h2
  | _ => cases h
theorem atom_stg {sz : List Nat} {w : W} {i v : Nat} (h : w.atom sz = some (.worth i v)) : i < sz.length := by
  cases w with
  | yes => cases h
  | no => cases h
  | b j =>
    have h2 : (if j < sz.length then some (Step.blank j) else none) = some (.worth i v) := h
    split at h2 <;> cases h2
  | c j u =>
    have h2 : (match sz[j]? with | some n => if u < n then some (Step.worth j u) else none | none => none) = some (.worth i v) := h
    cases e : sz[j]? with
    | none => rw [e] at h2; cases h2
    | some n =>
      rw [e] at h2
      dsimp at h2
      split at h2
      · cases h2
        exact (List.getElem?_eq_some_iff.mp e).1
      · cases h2
  | _ => cases h
theorem tk_atom {sz : List Nat} {w : W} {s : PS} {a : Step} (hn : s.wn = true) (h : w.atom sz = some a) : tk sz w s = ⟨s.st ++ [a], s.wt, false⟩ := by
  unfold tk
  rw [if_pos hn]
  cases w <;> first | (dsimp only; rw [h]; rfl) | (cases h; rfl) | cases h
theorem tk_inv {sz : List Nat} {w : W} {s : PS} (h : PInv sz s) (ho : okW sz w s) : PInv sz (tk sz w s) := by
  obtain ⟨st, wt, wn⟩ := s
  obtain ⟨hr, hg, hw⟩ := h
  cases wn with
  | true =>
    by_cases e1 : w = .not
    · subst e1
      exact ⟨hr, hg, Wok.cons hw (by simp)⟩
    by_cases e2 : w = .lp
    · subst e2
      exact ⟨hr, hg, Wok.cons hw (by simp)⟩
    have hat : ∃ a, w.atom sz = some a := by
      unfold okW at ho
      rw [if_pos rfl] at ho
      cases w <;> first | exact absurd rfl e1 | exact absurd rfl e2 | exact ho
    obtain ⟨a, ha⟩ := hat
    rw [tk_atom rfl ha]
    have hr' : prun st = some (bin wt) := hr
    refine ⟨?_, fun i v hm => ?_, hw⟩
    · show prun (st ++ [a]) = some (bin wt + 1)
      rw [prun_snoc, hr']
      exact atom_run ha _
    · rcases List.mem_append.mp hm with m | m
      · exact hg i v m
      · have e : Step.worth i v = a := by simpa using m
        rw [← e] at ha
        exact atom_stg ha
  | false =>
    have hr' : prun st = some (bin wt + 1) := hr
    cases w with
    | and => exact ⟨way_run hw hr', way_stg hg, (Wok.way hw).cons (by simp)⟩
    | or => exact ⟨way_run hw hr', way_stg hg, (Wok.way hw).cons (by simp)⟩
    | rp =>
      have hlp : W.lp ∈ wt := ho
      obtain ⟨r, er⟩ := way_lp0 (st := st) hlp
      have h1 := way_run (b := 0) hw hr'
      refine ⟨?_, way_stg hg, (Wok.way hw).tail⟩
      show prun (way 0 st wt).1 = some (bin (way 0 st wt).2.tail + 1)
      rw [h1, er]
      rfl
    | lp => exact absurd ho (by intro z; exact z)
    | not => exact absurd ho (by intro z; exact z)
    | iff => exact absurd ho (by intro z; exact z)
    | share => exact absurd ho (by intro z; exact z)
    | yes => exact absurd ho (by intro z; exact z)
    | no => exact absurd ho (by intro z; exact z)
    | b i => exact absurd ho (by intro z; exact z)
    | c i j => exact absurd ho (by intro z; exact z)
theorem tks_inv {sz : List Nat} : ∀ {ws : List W} {s : PS}, PInv sz s → oks sz ws s → PInv sz (tks sz ws s)
  | [], _, h, _ => h
  | w :: r, s, h, ho => tks_inv (ws := r) (s := tk sz w s) (tk_inv h ho.1) ho.2
theorem inv0 {sz : List Nat} : PInv sz ⟨[], [], true⟩ := ⟨rfl, fun _ _ h => (nomatch h), fun _ h => (nomatch h)⟩
end Cb
/-! kinds, bounds, in plain Lean -/
namespace Cb
open PySem
/-! the kind of a content -/
def kindOf (t b : Tree) (c pat : List Int) : Int := if b.val c pat = true then if t.val c pat = true then 2 else 1 else 0
theorem kindOf_r (t b : Tree) (c pat : List Int) : 0 ≤ kindOf t b c pat ∧ kindOf t b c pat ≤ 2 := by
  unfold kindOf
  split
  · split <;> decide
  · decide
/-- the contents that a view may show -/
def shownC (sz : List Nat) (v : List Int) : List (List Int) := (contents sz).filter fun c => decide (viewOf c (patOf v) = v)
/-- the different ones, as they come -/
def kindsL (l : List Int) : List Int := l.foldl (fun acc k => if k ∈ acc then acc else acc ++ [k]) []
theorem kindsL_snoc (l : List Int) (k : Int) : kindsL (l ++ [k]) = if k ∈ kindsL l then kindsL l else kindsL l ++ [k] := by
  unfold kindsL
  rw [List.foldl_append]
  rfl
theorem mem_kindsL {l : List Int} : ∀ {k : Int}, k ∈ kindsL l ↔ k ∈ l := by
  induction l using snoc_ind with
  | h0 => intro k; exact Iff.rfl
  | hs l a ih =>
    intro k
    rw [kindsL_snoc]
    split
    · rename_i q
      rw [ih, List.mem_append]
      constructor
      · exact .inl
      · rintro (h | h)
        · exact h
        · have : k = a := by simpa using h
          rw [this]
          exact ih.mp q
    · rw [List.mem_append, List.mem_append, ih]
theorem kindsL_nd {l : List Int} : (kindsL l).Nodup := by
  induction l using snoc_ind with
  | h0 => exact List.nodup_nil
  | hs l a ih =>
    rw [kindsL_snoc]
    split
    · exact ih
    · rename_i q
      rw [List.nodup_append]
      refine ⟨ih, by simp, ?_⟩
      intro x hx y hy e
      have : y = a := by simpa using hy
      rw [e, this] at hx
      exact q hx
theorem kindsL_len {l : List Int} : (kindsL l).length ≤ l.length := by
  induction l using snoc_ind with
  | h0 => exact Nat.le_refl _
  | hs l a ih =>
    rw [kindsL_snoc, List.length_append]
    split
    · omega
    · rw [List.length_append]
      show _ + 1 ≤ _ + 1
      omega
def kinds (sz : List Nat) (t b : Tree) (v : List Int) : List Int := kindsL ((shownC sz v).map fun c => kindOf t b c (patOf v))
theorem mem_kinds {sz : List Nat} {t b : Tree} {v : List Int} {k : Int} : k ∈ kinds sz t b v ↔ ∃ c ∈ contents sz, viewOf c (patOf v) = v ∧ kindOf t b c (patOf v) = k := by
  unfold kinds shownC
  rw [mem_kindsL, List.mem_map]
  constructor
  · rintro ⟨c, hc, e⟩
    obtain ⟨h1, h2⟩ := List.mem_filter.mp hc
    exact ⟨c, h1, of_decide_eq_true h2, e⟩
  · rintro ⟨c, h1, h2, e⟩
    exact ⟨c, List.mem_filter.mpr ⟨h1, decide_eq_true h2⟩, e⟩
theorem kinds_r {sz : List Nat} {t b : Tree} {v : List Int} {k : Int} (h : k ∈ kinds sz t b v) : 0 ≤ k ∧ k ≤ 2 := by
  obtain ⟨c, _, _, rfl⟩ := mem_kinds.mp h
  exact kindOf_r t b c _
theorem kinds_nd {sz : List Nat} {t b : Tree} {v : List Int} : (kinds sz t b v).Nodup := kindsL_nd
theorem kinds_ne {sz : List Nat} {t b : Tree} {v p : List Int} (hz : Sz sz) (hp : isPat sz.length p) (hv : v ∈ views sz p) : kinds sz t b v ≠ [] := by
  obtain ⟨c, hc, e⟩ := mem_views_ex hz hv
  have ep := patOf_views hp hv
  have : kindOf t b c (patOf v) ∈ kinds sz t b v := mem_kinds.mpr ⟨c, hc, by rw [ep]; exact e, rfl⟩
  intro z
  rw [z] at this
  cases this
theorem kinds_len {sz : List Nat} {t b : Tree} {v : List Int} (hz : Sz sz) : (kinds sz t b v).length ≤ 16 := by
  refine Nat.le_trans kindsL_len ?_
  rw [List.length_map]
  refine Nat.le_trans (List.length_filter_le _ _) ?_
  rw [contents_len]
  exact hz.p
/-- the weights of those rows whose kinds are so -/
def sel (sz : List Nat) (t b : Tree) (f : List Int → Bool) (rs : List (List Int × Int)) : List Int := (rs.filter fun r => f (kinds sz t b r.1)).map (·.2)
def fMust (ks : List Int) : Bool := decide (ks = [2])
def fAgainst (ks : List Int) : Bool := decide ((1 : Int) ∈ ks)
def fCan (ks : List Int) : Bool := decide ((2 : Int) ∈ ks)
def fSure (ks : List Int) : Bool := decide (ks = [1])
def fZero (ks : List Int) : Bool := decide ((0 : Int) ∈ ks)
/-- the bounds -/
def bnd (sz : List Nat) (t b : Tree) (rs : List (List Int × Int)) : Option (List Int × List Int) :=
  if (rs.all fun r => fZero (kinds sz t b r.1)) = true then none
  else
    some (lw (sel sz t b fMust rs).sum ((sel sz t b fMust rs).sum + (sel sz t b fAgainst rs).sum), lw (sel sz t b fCan rs).sum ((sel sz t b fCan rs).sum + (sel sz t b fSure rs).sum))
theorem sel_nn {sz : List Nat} {t b : Tree} {f : List Int → Bool} {rs : List (List Int × Int)} (h : ∀ r ∈ rs, 0 < r.2) : ∀ n ∈ sel sz t b f rs, 0 ≤ n := fun n hn => by
  obtain ⟨r, hr, rfl⟩ := List.mem_map.mp hn
  exact Int.le_of_lt (h r (List.mem_filter.mp hr).1)
theorem sel_cons {sz : List Nat} {t b : Tree} {f : List Int → Bool} {r : List Int × Int} {rs : List (List Int × Int)} : (sel sz t b f (r :: rs)).sum = (if f (kinds sz t b r.1) = true then r.2 else 0) + (sel sz t b f rs).sum := by
  unfold sel
  rw [List.filter_cons]
  split
  · rw [List.map_cons, List.sum_cons]
  · rw [Int.zero_add]
theorem sel_sum_nn {sz : List Nat} {t b : Tree} {f : List Int → Bool} {rs : List (List Int × Int)} (h : ∀ r ∈ rs, 0 < r.2) : 0 ≤ (sel sz t b f rs).sum := by
  induction rs with
  | nil => exact Int.le_refl 0
  | cons r rs ih =>
    rw [sel_cons]
    have h1 := ih fun x hx => h x (List.mem_cons_of_mem _ hx)
    have h2 := h r List.mem_cons_self
    split <;> omega
theorem sel_le {sz : List Nat} {t b : Tree} {f : List Int → Bool} {rs : List (List Int × Int)} (h : ∀ r ∈ rs, 0 < r.2) : (sel sz t b f rs).sum ≤ (rs.map (·.2)).sum := by
  induction rs with
  | nil => exact Int.le_refl 0
  | cons r rs ih =>
    rw [sel_cons, List.map_cons, List.sum_cons]
    have h1 := ih fun x hx => h x (List.mem_cons_of_mem _ hx)
    have h2 := h r List.mem_cons_self
    split <;> omega
/-- two sums of rows that do not meet -/
theorem sel_two {sz : List Nat} {t b : Tree} {f g : List Int → Bool} {rs : List (List Int × Int)} (h : ∀ r ∈ rs, 0 < r.2) (hd : ∀ ks, f ks = true → g ks = true → False) : (sel sz t b f rs).sum + (sel sz t b g rs).sum ≤ (rs.map (·.2)).sum := by
  induction rs with
  | nil => exact Int.le_refl 0
  | cons r rs ih =>
    rw [sel_cons, sel_cons, List.map_cons, List.sum_cons]
    have h1 := ih fun x hx => h x (List.mem_cons_of_mem _ hx)
    have h2 := h r List.mem_cons_self
    by_cases a : f (kinds sz t b r.1) = true
    · by_cases c : g (kinds sz t b r.1) = true
      · exact (hd _ a c).elim
      · rw [if_pos a, if_neg c]
        omega
    · rw [if_neg a]
      split <;> omega
theorem must_against {ks : List Int} (h : fMust ks = true) (g : fAgainst ks = true) : False := by
  have h1 : ks = [2] := of_decide_eq_true h
  have h2 : (1 : Int) ∈ ks := of_decide_eq_true g
  rw [h1] at h2
  simp at h2
theorem can_sure {ks : List Int} (h : fCan ks = true) (g : fSure ks = true) : False := by
  have h1 : ks = [1] := of_decide_eq_true g
  have h2 : (2 : Int) ∈ ks := of_decide_eq_true h
  rw [h1] at h2
  simp at h2
/-- a list of 1s and 2s, not empty, each once -/
theorem ks_12 {ks : List Int} (hn : ks.Nodup) (hr : ∀ k ∈ ks, 0 ≤ k ∧ k ≤ 2) (he : ks ≠ []) (h0 : ¬ fZero ks = true) : (fMust ks = true ∨ fAgainst ks = true) ∧ (fCan ks = true ∨ fSure ks = true) := by
  have h0' : ¬ (0 : Int) ∈ ks := fun z => h0 (decide_eq_true z)
  have h12 : ∀ k ∈ ks, k = 1 ∨ k = 2 := fun k hk => by
    have := hr k hk
    by_cases e : k = 0
    · rw [e] at hk
      exact absurd hk h0'
    · omega
  have one : ∀ x : Int, (∀ k ∈ ks, k = x) → ks = [x] := fun x hx => by
    match ks, he, hn with
    | [a], _, _ => rw [hx a List.mem_cons_self]
    | a :: b :: r, _, hn =>
      have e1 := hx a List.mem_cons_self
      have e2 := hx b (List.mem_cons_of_mem _ List.mem_cons_self)
      rw [e1, e2] at hn
      simp at hn
  constructor
  · by_cases c : (1 : Int) ∈ ks
    · exact .inr (decide_eq_true c)
    · left
      refine decide_eq_true (one 2 fun k hk => ?_)
      rcases h12 k hk with e | e
      · rw [e] at hk
        exact absurd hk c
      · exact e
  · by_cases c : (2 : Int) ∈ ks
    · exact .inl (decide_eq_true c)
    · right
      refine decide_eq_true (one 1 fun k hk => ?_)
      rcases h12 k hk with e | e
      · exact e
      · rw [e] at hk
        exact absurd hk c
/-- if some row knows no 0 the sums are above 0 -/
theorem sel_pos {sz : List Nat} {t b : Tree} {f g : List Int → Bool} {rs : List (List Int × Int)} (h : ∀ r ∈ rs, 0 < r.2) {r : List Int × Int} (hr : r ∈ rs) (hf : f (kinds sz t b r.1) = true ∨ g (kinds sz t b r.1) = true) : 0 < (sel sz t b f rs).sum + (sel sz t b g rs).sum := by
  induction rs with
  | nil => cases hr
  | cons x rs ih =>
    rw [sel_cons, sel_cons]
    have hrs := fun y (hy : y ∈ rs) => h y (List.mem_cons_of_mem _ hy)
    have p1 := sel_sum_nn (sz := sz) (t := t) (b := b) (f := f) hrs
    have p2 := sel_sum_nn (sz := sz) (t := t) (b := b) (f := g) hrs
    have hx := h x List.mem_cons_self
    rcases List.mem_cons.mp hr with e | m
    · subst e
      rcases hf with e | e
      · rw [if_pos e]
        split <;> omega
      · rw [if_pos e]
        split <;> omega
    · have := ih hrs m
      split <;> split <;> omega
end Cb
namespace Cb
open PySem PySem.Spec PyProof.Rows L2
/-! ### heaps -/
/-- the tuples stay -/
def Tk (H H' : Hp) : Prop := ∀ b xs, H b = some (.tup xs) → H' b = some (.tup xs)
theorem Tk.refl (H : Hp) : Tk H H := fun _ _ h => h
theorem Tk.trans {H H1 H2 : Hp} (a : Tk H H1) (b : Tk H1 H2) : Tk H H2 := fun c xs h => b c xs (a c xs h)
theorem sm_tk {H H' : Hp} (e : Same H H') : Tk H H' := fun b xs h => e b _ h
theorem sm_new {H H' : Hp} {p : Addr} {o : HO} (e : Same H H') (h : H' p = none) : Same H (upd H' p o) := fun b u q => by
  rw [upd_ne (ne_of_none (e b u q) h)]
  exact e b u q
/-- an object that H does not know may change -/
theorem sm_mut {H H' : Hp} {p : Addr} {o : HO} (e : Same H H') (h : H p = none) : Same H (upd H' p o) := fun b u q => by
  rw [upd_ne (ne_of_none q h)]
  exact e b u q
theorem tk_new {H H' : Hp} {p : Addr} {o : HO} (e : Tk H H') (h : H' p = none) : Tk H (upd H' p o) := fun b u q => by
  rw [upd_ne (ne_of_none (e b u q) h)]
  exact e b u q
/-- a list is changed -/
theorem tk_lst {H H' : Hp} {p : Addr} {o : HO} {xs : List V} (e : Tk H H') (h : H' p = some (.lst xs)) : Tk H (upd H' p o) := fun b u q => by
  rw [upd_ne (ne_of (e b u q) h (by intro z; cases z))]
  exact e b u q
theorem sm_at {H H' : Hp} {p : Addr} {o : HO} (e : Same H H') (h : H p = some o) : H' p = some o := e p o h
theorem sm_up {H : Hp} {p : Addr} {o : HO} (h : H p = none) : Same H (upd H p o) := sm_new (Same.refl H) h
theorem up_at {H : Hp} {p q : Addr} {o u : HO} (h : H q = some u) (n : H p = none) : upd H p o q = some u := by
  rw [upd_ne (ne_of_none h n)]
  exact h
theorem sq_same {K : PySem.W.Frag} {H H' : Hp} {a : Addr} {xs : List V} (e : Same H H') (h : SqT K H a xs) : SqT K H' a xs := by
  rcases h with (h | ⟨o, h⟩) | h
  · exact .inl (.inl (e _ _ h))
  · exact .inl (.inr ⟨o, e _ _ h⟩)
  · exact .inr h

/-! ### tuples of ints -/
/-- v is a tuple of the ints ns -/
def TIn (H : Hp) (v : V) (ns : List Int) : Prop := ∃ a, v = .ref a ∧ H a = some (.tup (ns.map V.int))
theorem TIn.tk {H H' : Hp} {v : V} {ns : List Int} (h : TIn H v ns) (e : Tk H H') : TIn H' v ns := by
  obtain ⟨a, e1, h1⟩ := h
  exact ⟨a, e1, e _ _ h1⟩
theorem TIn.inj {H : Hp} {v : V} {ns ms : List Int} (h : TIn H v ns) (h' : TIn H v ms) : ns = ms := by
  obtain ⟨a, e1, h1⟩ := h
  obtain ⟨b, e2, h2⟩ := h'
  rw [e1] at e2
  cases e2
  rw [h1] at h2
  have q : ns.map V.int = ms.map V.int := HO.tup.inj (Option.some.inj h2)
  have inj : ∀ {xs ys : List Int}, xs.map V.int = ys.map V.int → xs = ys := by
    intro xs
    induction xs with
    | nil => intro ys e; cases ys with
      | nil => rfl
      | cons _ _ => cases e
    | cons x xs ih => intro ys e; cases ys with
      | nil => cases e
      | cons y ys =>
        rw [List.map_cons, List.map_cons] at e
        injection e with e1 e2
        injection e1 with e1
        rw [e1, ih e2]
  exact inj q
/-- .. that may stand in the written part -/
def TK (K : PySem.W.Frag) (H : Hp) (v : V) (ns : List Int) : Prop := ∃ a, v = .ref a ∧ SqT K H a (ns.map V.int)
theorem TIn.k {K : PySem.W.Frag} {H : Hp} {v : V} {ns : List Int} (h : TIn H v ns) : TK K H v ns := by
  obtain ⟨a, e, h⟩ := h
  exact ⟨a, e, SqT.of h⟩
theorem TK.tk {K : PySem.W.Frag} {H H' : Hp} {v : V} {ns : List Int} (h : TK K H v ns) (e : Same H H') : TK K H' v ns := by
  obtain ⟨a, e1, h1⟩ := h
  exact ⟨a, e1, sq_same e h1⟩
theorem ty_tup {K : PySem.W.Frag} {H : Hp} {a : Addr} {xs : List V} (h : SqT K H a xs) : TyX K H (.ref a) (.type "tuple") := by
  rcases h with (h | ⟨o, h⟩) | ⟨o, its, n, hk, hc, _⟩
  · exact .base (.tup h)
  · exact .fTuple h
  · exact .kTuple hk hc

/-! ### lists of values by what they are -/
/-- the values vs are, one by one, the things xs -/
abbrev P2 {α : Type} (R : V → α → Prop) : List V → List α → Prop := Paired R
section
variable {α : Type} {R S : V → α → Prop}
theorem P2.imp {vs : List V} {xs : List α} (h : P2 R vs xs) (f : ∀ v x, R v x → S v x) : P2 S vs xs := Paired.mapP h f
theorem P2.len {vs : List V} {xs : List α} (h : P2 R vs xs) : vs.length = xs.length := Paired.length h
theorem P2.snoc {vs : List V} {xs : List α} {v : V} {x : α} (h : P2 R vs xs) (hv : R v x) : P2 R (vs ++ [v]) (xs ++ [x]) := by
  induction h with
  | nil => exact .cons hv .nil
  | cons r t ih => exact .cons r ih
theorem P2.app {vs ws : List V} {xs ys : List α} (h : P2 R vs xs) (g : P2 R ws ys) : P2 R (vs ++ ws) (xs ++ ys) := by
  induction h with
  | nil => exact g
  | cons r t ih => exact .cons r ih
theorem P2.at_ {vs : List V} {xs : List α} (h : P2 R vs xs) : ∀ {i : Nat} {v : V}, vs[i]? = some v → ∃ x, xs[i]? = some x ∧ R v x := by
  induction h with
  | nil => intro i v e; simp at e
  | cons r t ih =>
    intro i v e
    cases i with
    | zero => simp at e; subst e; exact ⟨_, rfl, r⟩
    | succ i => simpa using ih (by simpa using e)
theorem P2.to {vs : List V} {xs : List α} (h : P2 R vs xs) : ∀ {i : Nat} {x : α}, xs[i]? = some x → ∃ v, vs[i]? = some v ∧ R v x := by
  induction h with
  | nil => intro i v e; simp at e
  | cons r t ih =>
    intro i v e
    cases i with
    | zero => simp at e; subst e; exact ⟨_, rfl, r⟩
    | succ i => simpa using ih (by simpa using e)
theorem P2.map {β : Type} {T : V → β → Prop} {f : β → α} {vs : List V} {xs : List β} (h : P2 T vs xs) (g : ∀ v x, T v x → R v (f x)) : P2 R vs (xs.map f) := by
  induction h with
  | nil => exact .nil
  | cons r t ih => exact .cons (g _ _ r) ih
theorem P2.unmap {β : Type} {f : β → α} {vs : List V} {xs : List β} (h : P2 R vs (xs.map f)) : P2 (fun v x => R v (f x)) vs xs := by
  induction xs generalizing vs with
  | nil => cases h; exact .nil
  | cons x xs ih =>
    cases h with
    | cons r t => exact .cons r (ih t)
theorem P2.ints : ∀ ns : List Int, P2 (fun v (n : Int) => v = V.int n) (ns.map V.int) ns
  | [] => .nil
  | _ :: r => .cons rfl (P2.ints r)
end
/-- one item further of a list -/
theorem take_snoc {α : Type} {l : List α} {i : Nat} {x : α} (h : l[i]? = some x) : l.take (i + 1) = l.take i ++ [x] := by
  rw [List.take_add_one, h]
  rfl
theorem sz {n : Nat} (h : n ≤ 100000) : n ≤ sizeLine := Nat.le_trans h (by decide)
theorem szl {n : Nat} (h : n < 100000) : n < sizeLine := Nat.lt_of_lt_of_le h (by decide)
theorem Room.units65 {k : Nat} {A : Around} (r : Room k A) : A.units + 65 < cLine := by have := r.un; omega
theorem bt_isinstance : bootBuiltins "isinstance" = some (.builtin "isinstance") := by decide +kernel
theorem bt_len : bootBuiltins "len" = some (.builtin "len") := by decide +kernel
theorem bt_abs : bootBuiltins "abs" = some (.builtin "abs") := by decide +kernel
theorem bt_all : bootBuiltins "all" = some (.builtin "all") := by decide +kernel
theorem bt_any : bootBuiltins "any" = some (.builtin "any") := by decide +kernel
theorem bt_sum : bootBuiltins "sum" = some (.builtin "sum") := by decide +kernel
theorem bt_sorted : bootBuiltins "sorted" = some (.builtin "sorted") := by decide +kernel
theorem bt_int : bootBuiltins "int" = some (.type "int") := by decide +kernel
theorem bt_bool : bootBuiltins "bool" = some (.type "bool") := by decide +kernel
theorem bt_tuple : bootBuiltins "tuple" = some (.type "tuple") := by decide +kernel
theorem bt_str : bootBuiltins "str" = some (.type "str") := by decide +kernel
theorem bt_list : bootBuiltins "list" = some (.type "list") := by decide +kernel
theorem bt_dict : bootBuiltins "dict" = some (.type "dict") := by decide +kernel
theorem bt_set : bootBuiltins "set" = some (.type "set") := by decide +kernel
end Cb
namespace Cb
open PySem PySem.Spec PyProof.Rows L2
section
variable {P : Program} {w : World} {K : PySem.W.Frag} {mg : Str → Option Value} {base : Heap}
/-! ### checks, fractions -/
def spInteger : Sp := fun vs H Q _ => ∃ i : Int, vs = [.int i] ∧ Q (.bl true) H
abbrev N_is_integer : List Str := ["thing"]
theorem sc_is_integer : FnScope N_is_integer ["thing"] (defScope s_is_integer) := ⟨rfl, rfl, rfl, by decide +kernel, rfl, by decide +kernel, by decide +kernel⟩
theorem cal_is_integer (T : Txt w K mg) : C8.Cal P w K mg base 1 "is_integer" spInteger [] := by
  refine mkCal T.F_is_integer T.g_is_integer sc_is_integer (fun _ _ _ _ _ _ us hl => match us, hl with | [_], _ => rfl) (fun vs H Q E h => ?_) (fun cdv A outer s H vs Q E hr h => ?_)
  · obtain ⟨i, rfl, _⟩ := h
    rfl
  obtain ⟨i, rfl, q⟩ := h
  refine ⟨_, (pss_one (ps_ret (pe_and (pe_callB call_isi (by rfl) T.z_isinstance bt_isinstance (pa_cons (pv 0) (pa_cons (pe_bltn (v := .ty "int") (by rfl) T.z_int bt_int rfl) pa_nil))) (pe_one (pe_not (pe_callB call_isi (by rfl) T.z_isinstance bt_isinstance (pa_cons (pv 0) (pa_cons (pe_bltn (v := .ty "bool") (by rfl) T.z_bool bt_bool rfl) pa_nil)))))))), ?_⟩
  refine ⟨_, rfl, _, _, _, _, true, rfl, .ty _, .base (.int i), kit_ty (by decide +kernel), _, rfl, ?_⟩
  refine iteT ?_
  refine ⟨_, rfl, _, _, _, _, false, rfl, .ty _, .base (.int i), kit_ty (by decide +kernel), _, rfl, ?_⟩
  exact q
def spWithin : Sp := fun vs H Q _ => ∃ a b c : Int, vs = [.int a, .int b, .int c] ∧ Q (.bl (decide (b ≤ a) && decide (a ≤ c))) H
abbrev N_is_within : List Str := ["thing", "least", "most"]
theorem sc_is_within : FnScope N_is_within ["thing", "least", "most"] (defScope s_is_within) := ⟨rfl, rfl, rfl, by decide +kernel, rfl, by decide +kernel, by decide +kernel⟩
theorem cal_is_within (T : Txt w K mg) : C8.Cal P w K mg base 2 "is_within" spWithin [] := by
  have c_is_integer := cal_is_integer (P := P) (base := base) T
  refine mkCal T.F_is_within T.g_is_within sc_is_within (fun _ _ _ _ _ _ us hl => match us, hl with | [_, _, _], _ => rfl) (fun vs H Q E h => ?_) (fun cdv A outer s H vs Q E hr h => ?_)
  · obtain ⟨a, b, c, rfl, _⟩ := h
    rfl
  obtain ⟨a, b, c, rfl, q⟩ := h
  refine ⟨_, (pss_one (ps_ret (pe_and (C8.pe_c c_is_integer hr (by decide) rfl (pa_cons (pv 0) pa_nil)) (pe_one (pe_chain op_le op_le (pv 1) (pv 0) (pv 2)))))), ?_⟩
  refine ⟨_, rfl, a, rfl, _, rfl, iteT ?_⟩
  refine ⟨_, rfl, _, rfl, _, _, rfl, rfl, _, rfl, ?_⟩
  cases e : decide (b ≤ a) with
  | true =>
    refine iteT ⟨_, rfl, _, _, rfl, rfl, ?_⟩
    rw [e] at q
    exact q
  | false =>
    refine iteF ?_
    rw [e] at q
    exact q
def spPair (K : PySem.W.Frag) : Sp := fun vs H Q _ => ∃ (a : Addr) (xs : List V), vs = [.ref a] ∧ SqT K H a xs ∧ Q (.bl (decide (xs.length = 2))) H
abbrev N_is_pair : List Str := ["thing"]
theorem sc_is_pair : FnScope N_is_pair ["thing"] (defScope s_is_pair) := ⟨rfl, rfl, rfl, by decide +kernel, rfl, by decide +kernel, by decide +kernel⟩
theorem dec_len {n m : Nat} : decide (V.int (n : Int) = V.int (m : Int)) = decide (n = m) := by
  by_cases h : n = m
  · rw [h]
    simp
  · have h2 : ¬ V.int (n : Int) = V.int (m : Int) := fun e => h (by injection e with e; omega)
    rw [decide_eq_false h, decide_eq_false h2]
theorem cal_is_pair (T : Txt w K mg) : C8.Cal P w K mg base 1 "is_pair" (spPair K) [] := by
  refine mkCal T.F_is_pair T.g_is_pair sc_is_pair (fun _ _ _ _ _ _ us hl => match us, hl with | [_], _ => rfl) (fun vs H Q E h => ?_) (fun cdv A outer s H vs Q E hr h => ?_)
  · obtain ⟨a, xs, rfl, _⟩ := h
    rfl
  obtain ⟨a, xs, rfl, hs, q⟩ := h
  refine ⟨_, (pss_one (ps_ret (pe_and (pe_callB call_isi (by rfl) T.z_isinstance bt_isinstance (pa_cons (pv 0) (pa_cons (pe_bltn (v := .ty "tuple") (by rfl) T.z_tuple bt_tuple rfl) pa_nil))) (pe_one (pe_cmpR op_eq (pe_callB call_len_seq (by rfl) T.z_len bt_len (pa_cons (pv 0) pa_nil)) pe_int (nomark _)))))), ?_⟩
  refine ⟨_, rfl, _, _, _, _, true, rfl, .ty _, ty_tup hs, kit_ty (by decide +kernel), _, rfl, iteT ?_⟩
  refine ⟨_, rfl, _, _, rfl, .inr hs, rfl, ?_⟩
  have e := dec_len (n := xs.length) (m := 2)
  rw [← e] at q
  exact q
/-! divisor: Euclid's -/
def spDivisor : Sp := fun vs H Q _ => ∃ a b : Int, vs = [.int a, .int b] ∧ 0 ≤ a ∧ 0 ≤ b ∧ Q (.int (Int.gcd a b)) H
abbrev N_divisor : List Str := ["one", "other"]
theorem sc_divisor : FnScope N_divisor ["one", "other"] (defScope s_divisor) := ⟨rfl, rfl, rfl, by decide +kernel, rfl, by decide +kernel, by decide +kernel⟩
theorem cal_divisor (T : Txt w K mg) : C8.Cal P w K mg base 1 "divisor" spDivisor [] := by
  refine mkCal T.F_divisor T.g_divisor sc_divisor (fun _ _ _ _ _ _ us hl => match us, hl with | [_, _], _ => rfl) (fun vs H Q E h => ?_) (fun cdv A outer s H vs Q E hr h => ?_)
  · obtain ⟨a, b, rfl, _⟩ := h
    rfl
  obtain ⟨a, b, rfl, ha, hb, q⟩ := h
  have nd := sc_divisor.nd
  refine ⟨_, (pss_cons (ps_while PassesOwn.never (pt_cmpR op_gt (pv 1) pe_int (nomark _))
    (pss_one (ps_par (i := 0) (j := 1) (by rfl) nd rfl rfl (by decide) rfl rfl (pa_cons (pv 1) (pa_cons (pe_op op_mod (pv 0) (pv 1)) pa_nil)) (by rfl))))
    (pss_one (ps_ret (pv 0)))), ?_⟩
  refine ⟨fun m σ H' => H' = H ∧ ∃ x y : Int, σ = [some (.int x), some (.int y)] ∧ 0 ≤ x ∧ 0 ≤ y ∧ m = y.toNat ∧ Int.gcd x y = Int.gcd a b, ⟨_, rfl, a, b, rfl, ha, hb, rfl, rfl⟩, ?_⟩
  rintro m σ H' ⟨rfl, x, y, rfl, hx, hy, rfl, hg⟩
  refine ⟨_, rfl, _, _, rfl, rfl, _, rfl, ite2 (fun c => ?_) (fun c => ?_)⟩
  · have c' : 0 < y := of_decide_eq_true c
    refine ⟨fun σ2 H2 => H2 = H' ∧ σ2 = [some (.int y), some (.int (x % y))], ?_, ?_⟩
    · rintro σ2 H2 ⟨rfl, rfl⟩
      have h1 := Int.emod_nonneg x (show y ≠ 0 by omega)
      have h2 := Int.emod_lt_of_pos x c'
      exact ⟨_, (by show (x % y).toNat < y.toNat; omega), rfl, y, x % y, rfl, hy, h1, rfl, by rw [gcd_step c' hx, hg]⟩
    · exact ⟨_, rfl, _, rfl, _, rfl, _, _, rfl, rfl, c', _, _, rfl, rfl, rfl⟩
  · have c' : ¬ 0 < y := fun z => c (decide_eq_true z)
    have e : y = 0 := by omega
    subst e
    refine ⟨_, rfl, ?_⟩
    have z : (Int.gcd a b : Int) = x := by
      rw [← hg, Int.gcd_zero_right]
      omega
    rw [z] at q
    exact q
/-! lowest -/
theorem abs_eq (i : Int) : (if i < 0 then -i else i) = (i.natAbs : Int) := by split <;> omega
def spLowest : Sp := fun vs H Q _ => ∃ a b : Int, vs = [.int a, .int b] ∧ 0 < b ∧ b.natAbs < 2 ^ 200 ∧ ∀ r H', Same H H' → TIn H' r (lw a b) → Q r H'
abbrev N_lowest : List Str := ["top", "bottom", "common"]
theorem sc_lowest : FnScope N_lowest ["top", "bottom"] (defScope s_lowest) := ⟨rfl, rfl, rfl, by decide +kernel, rfl, by decide +kernel, by decide +kernel⟩
theorem gcd_abs (a b : Int) : Int.gcd (a.natAbs : Int) b = Int.gcd a b := by
  show Nat.gcd _ _ = Nat.gcd _ _
  rw [Int.natAbs_natCast]
theorem cal_lowest (T : Txt w K mg) : C8.Cal P w K mg base 2 "lowest" spLowest [] := by
  have c_divisor := cal_divisor (P := P) (base := base) T
  refine mkCal T.F_lowest T.g_lowest sc_lowest (fun _ _ _ _ _ _ us hl => match us, hl with | [_, _], _ => rfl) (fun vs H Q E h => ?_) (fun cdv A outer s H vs Q E hr h => ?_)
  · obtain ⟨a, b, rfl, _⟩ := h
    rfl
  obtain ⟨a, b, rfl, hb, hB, q⟩ := h
  have nd := sc_lowest.nd
  refine ⟨_, (pss_cons (ps_set (i := 2) nd rfl (Or.inl rfl) (C8.pe_c c_divisor hr (by decide) rfl (pa_cons (pe_callB call_abs (by rfl) T.z_abs bt_abs (pa_cons (pv 0) pa_nil)) (pa_cons (pv 1) pa_nil))))
    (pss_one (ps_ret (pe_tup (pa_cons (pe_op op_fdivW (pv 0) (pv 2)) (pa_cons (pe_op op_fdivW (pv 1) (pv 2)) pa_nil)))))), ?_⟩
  refine ⟨_, rfl, _, rfl, _, rfl, _, _, rfl, ?_, Int.le_of_lt hb, ?_⟩
  · rw [abs_eq]
    omega
  have g := gpos (n := a) hb
  have gl : ((Int.gcd a b : Nat) : Int).natAbs < 2 ^ 200 := by
    have d : (Int.gcd a b : Int) ≤ b := Int.le_of_dvd hb (Int.gcd_dvd_right ..)
    omega
  have hd : CDivW a (Int.gcd a b : Int) := wide_div g gl (by decide) (by decide)
  have hd2 : CDivW b (Int.gcd a b : Int) := wide_div g gl (by decide) (by decide)
  rw [abs_eq, gcd_abs]
  refine ⟨_, rfl, _, rfl, _, _, rfl, rfl, hd, _, rfl, _, rfl, _, _, rfl, rfl, hd2, (by show 2 ≤ sizeLine; decide), fun p hp => ?_⟩
  exact q _ _ (sm_up hp) ⟨p, rfl, upd_same⟩
/-! the sum of two, the quotient of two -/
def FrB (a b : Int) : Prop := a.natAbs < 2 ^ 64 ∧ 0 < b ∧ b < 2 ^ 64
theorem mulL {a b : Int} (h : a.natAbs < 2 ^ 64) : CMul a b := by
  left
  omega
theorem mul_bd {a b : Int} (ha : a.natAbs < 2 ^ 64) (hb : b.natAbs < 2 ^ 64) : (a * b).natAbs < 2 ^ 200 := by
  have h := wide_lt (i := a) (j := b) ha hb
  exact Nat.lt_of_lt_of_le h (Nat.pow_le_pow_right (by decide) (by decide))
def spPlus (K : PySem.W.Frag) : Sp := fun vs H Q _ => ∃ (v u : V) (a b c d : Int), vs = [v, u] ∧ TK K H v [a, b] ∧ TK K H u [c, d] ∧ FrB a b ∧ FrB c d ∧ ∀ r H', Same H H' → TIn H' r (lw (a * d + c * b) (b * d)) → Q r H'
abbrev N_plus : List Str := ["one", "other"]
theorem sc_plus : FnScope N_plus ["one", "other"] (defScope s_plus) := ⟨rfl, rfl, rfl, by decide +kernel, rfl, by decide +kernel, by decide +kernel⟩
theorem cal_plus (T : Txt w K mg) : C8.Cal P w K mg base 3 "plus" (spPlus K) [] := by
  have c_lowest := cal_lowest (P := P) (base := base) T
  refine mkCal T.F_plus T.g_plus sc_plus (fun _ _ _ _ _ _ us hl => match us, hl with | [_, _], _ => rfl) (fun vs H Q E h => ?_) (fun cdv A outer s H vs Q E hr h => ?_)
  · obtain ⟨v, u, a, b, c, d, rfl, _⟩ := h
    rfl
  obtain ⟨v, u, a, b, c, d, rfl, ⟨p, rfl, hp⟩, ⟨p', rfl, hp'⟩, f1, f2, q⟩ := h
  refine ⟨_, (pss_one (ps_ret (C8.pe_c c_lowest hr (by decide) rfl (pa_cons (pe_op op_add (pe_op op_mul (pe_ix ix_tup (pv 0) pe_int (fun _ _ => rfl)) (pe_ix ix_tup (pv 1) pe_int (fun _ _ => rfl))) (pe_op op_mul (pe_ix ix_tup (pv 1) pe_int (fun _ _ => rfl)) (pe_ix ix_tup (pv 0) pe_int (fun _ _ => rfl)))) (pa_cons (pe_op op_mul (pe_ix ix_tup (pv 0) pe_int (fun _ _ => rfl)) (pe_ix ix_tup (pv 1) pe_int (fun _ _ => rfl))) pa_nil))))), ?_⟩
  have hb := f1.2.1
  have hd := f2.2.1
  refine ⟨_, rfl, p, _, _, _, rfl, rfl, hp, rfl, _, rfl, p', _, _, _, rfl, rfl, hp', rfl, _, _, rfl, rfl, mulL f1.1, ?_⟩
  refine ⟨_, rfl, p', _, _, _, rfl, rfl, hp', rfl, _, rfl, p, _, _, _, rfl, rfl, hp, rfl, _, _, rfl, rfl, mulL f2.1, _, _, rfl, rfl, ?_⟩
  refine ⟨_, rfl, p, _, _, _, rfl, rfl, hp, rfl, _, rfl, p', _, _, _, rfl, rfl, hp', rfl, _, _, rfl, rfl, mulL (by have := f1.2.2; omega), ?_⟩
  exact ⟨_, _, rfl, Int.mul_pos hb hd, mul_bd (by have := f1.2.2; omega) (by have := f2.2.2; omega), q⟩
def spOver (K : PySem.W.Frag) : Sp := fun vs H Q _ => ∃ (v u : V) (a b c d : Int), vs = [v, u] ∧ TK K H v [a, b] ∧ TK K H u [c, d] ∧ FrB a b ∧ FrB c d ∧ 0 < c ∧ ∀ r H', Same H H' → TIn H' r (lw (a * d) (b * c)) → Q r H'
abbrev N_over : List Str := ["one", "other"]
theorem sc_over : FnScope N_over ["one", "other"] (defScope s_over) := ⟨rfl, rfl, rfl, by decide +kernel, rfl, by decide +kernel, by decide +kernel⟩
theorem cal_over (T : Txt w K mg) : C8.Cal P w K mg base 3 "over" (spOver K) [] := by
  have c_lowest := cal_lowest (P := P) (base := base) T
  refine mkCal T.F_over T.g_over sc_over (fun _ _ _ _ _ _ us hl => match us, hl with | [_, _], _ => rfl) (fun vs H Q E h => ?_) (fun cdv A outer s H vs Q E hr h => ?_)
  · obtain ⟨v, u, a, b, c, d, rfl, _⟩ := h
    rfl
  obtain ⟨v, u, a, b, c, d, rfl, ⟨p, rfl, hp⟩, ⟨p', rfl, hp'⟩, f1, f2, hc, q⟩ := h
  refine ⟨_, (pss_one (ps_ret (C8.pe_c c_lowest hr (by decide) rfl (pa_cons (pe_op op_mul (pe_ix ix_tup (pv 0) pe_int (fun _ _ => rfl)) (pe_ix ix_tup (pv 1) pe_int (fun _ _ => rfl))) (pa_cons (pe_op op_mul (pe_ix ix_tup (pv 0) pe_int (fun _ _ => rfl)) (pe_ix ix_tup (pv 1) pe_int (fun _ _ => rfl))) pa_nil))))), ?_⟩
  have hb := f1.2.1
  have hd := f2.2.1
  refine ⟨_, rfl, p, _, _, _, rfl, rfl, hp, rfl, _, rfl, p', _, _, _, rfl, rfl, hp', rfl, _, _, rfl, rfl, mulL f1.1, ?_⟩
  refine ⟨_, rfl, p, _, _, _, rfl, rfl, hp, rfl, _, rfl, p', _, _, _, rfl, rfl, hp', rfl, _, _, rfl, rfl, mulL (by have := f1.2.2; omega), ?_⟩
  exact ⟨_, _, rfl, Int.mul_pos hb hc, mul_bd (by have := f1.2.2; omega) f2.1, q⟩
/-! the sum of a list of quotients by the same number -/
def spAddAll (K : PySem.W.Frag) : Sp := fun vs H Q _ => ∃ (a : Addr) (xs : List V) (ns : List Int) (t : Int), vs = [.ref a] ∧ SqL K H a xs ∧ P2 (fun v n => TK K H v (lw n t)) xs ns ∧ (∀ n ∈ ns, 0 ≤ n) ∧ ns.sum < 2 ^ 64 ∧ 0 < t ∧ t < 2 ^ 64 ∧
  ∀ r H', Same H H' → TK K H' r (lw ns.sum t) → Q r H'
abbrev N_add_all : List Str := ["some", "found", "part"]
theorem sc_add_all : FnScope N_add_all ["some"] (defScope s_add_all) := ⟨rfl, rfl, rfl, by decide +kernel, rfl, by decide +kernel, by decide +kernel⟩
theorem sum_take_le {ns : List Int} (h : ∀ n ∈ ns, 0 ≤ n) : ∀ i, 0 ≤ (ns.take i).sum ∧ (ns.take i).sum ≤ ns.sum := by
  induction ns with
  | nil => intro i; simp
  | cons n ns ih =>
    intro i
    have h0 := h n List.mem_cons_self
    have ih' := ih fun m hm => h m (List.mem_cons_of_mem _ hm)
    cases i with
    | zero =>
      have := ih' ns.length
      rw [List.take_length] at this
      simp
      omega
    | succ i =>
      have := ih' i
      simp
      omega
theorem frB_lw {n t : Int} (h0 : 0 ≤ n) (h1 : n < 2 ^ 64) (ht : 0 < t) (h2 : t < 2 ^ 64) : FrB (lt1 n t) (lb n t) := by
  have a1 := lt_nn ht h0
  have a2 := lt_le ht h0
  have a3 := lb_pos (n := n) ht
  have a4 := lb_le (n := n) ht
  exact ⟨by omega, a3, by omega⟩
theorem cal_add_all (T : Txt w K mg) : C8.Cal P w K mg base 4 "add_all" (spAddAll K) [] := by
  have c_plus := cal_plus (P := P) (base := base) T
  refine mkCal T.F_add_all T.g_add_all sc_add_all (fun _ _ _ _ _ _ us hl => match us, hl with | [_], _ => rfl) (fun vs H Q E h => ?_) (fun cdv A outer s H vs Q E hr h => ?_)
  · obtain ⟨a, xs, ns, t, rfl, _⟩ := h
    rfl
  obtain ⟨a, xs, ns, t, rfl, hs, hx, hn, hB, ht, hT, q⟩ := h
  have nd := sc_add_all.nd
  refine ⟨_, (pss_cons (ps_set (i := 1) nd rfl (Or.inl rfl) (C8.pe_gc (by rfl) T.v_ZERO))
    (pss_cons (ps_for PassesOwn.never rfl (pi_list (pv 0)) (pg_name (i := 2) nd rfl (Or.inl rfl))
    (pss_one (ps_set (i := 1) nd rfl (Or.inl rfl) (C8.pe_c c_plus hr (by decide) rfl (pa_cons (pv 1) (pa_cons (pv 2) pa_nil))))))
    (pss_one (ps_ret (pv 1))))), ?_⟩
  refine ⟨_, rfl, a, rfl, ⟨_, hs⟩, for_list (K := K) (a := a) (xs := xs) (fun i σ H2 => Same H H2 ∧ ∃ (r : V) (z : Option V), σ = [some (.ref a), some r, z] ∧ TK K H2 r (lw (ns.take i).sum t)) ?_ ?_ ?_ ?_⟩
  · refine ⟨Same.refl H, _, none, rfl, _, rfl, ?_⟩
    have e : lw (ns.take 0).sum t = [0, 1] := lw_zero ht
    rw [e]
    exact T.t_ZERO H
  · rintro i σ H2 _ ⟨s2, _⟩
    exact s2.seq hs
  · rintro i x σ H2 hi ⟨s2, r, z, rfl, hr2⟩
    obtain ⟨n, hni, hv⟩ := hx.at_ hi
    have b1 := sum_take_le hn i
    have mem := List.mem_of_getElem? hni
    have n0 := hn n mem
    have b2 := sum_take_le hn (i + 1)
    rw [take_snoc hni, List.sum_append] at b2
    simp at b2
    refine ⟨_, rfl, _, rfl, _, _, _, _, _, _, rfl, hr2, hv.tk s2, frB_lw b1.1 (by omega) ht hT, frB_lw n0 (by omega) ht hT, fun r' H' s' h' => ?_⟩
    refine ⟨s2.trans s', r', some x, rfl, ?_⟩
    rw [take_snoc hni, List.sum_append]
    have e := lw_plus (a := (ns.take i).sum) (b := n) ht
    have h2 : TIn H' r' (lw (lt1 (ns.take i).sum t * lb n t + lt1 n t * lb (ns.take i).sum t) (lb (ns.take i).sum t * lb n t)) := h'
    rw [e] at h2
    simpa using h2.k
  · rintro σ H2 ⟨s2, r, z, rfl, hr2⟩
    rw [hx.len, List.take_length] at hr2
    exact ⟨_, rfl, q r H2 s2 hr2⟩
/-! is_fraction, of a quotient in lowest terms -/
def spFraction (K : PySem.W.Frag) : Sp := fun vs H Q _ => ∃ (v : V) (a b : Int), vs = [v] ∧ TIn H v [a, b] ∧ 0 < b ∧ Int.gcd a b = 1 ∧ Q (.bl true) H
abbrev N_is_fraction : List Str := ["thing"]
theorem sc_is_fraction : FnScope N_is_fraction ["thing"] (defScope s_is_fraction) := ⟨rfl, rfl, rfl, by decide +kernel, rfl, by decide +kernel, by decide +kernel⟩
theorem cal_is_fraction (T : Txt w K mg) : C8.Cal P w K mg base 2 "is_fraction" (spFraction K) [] := by
  have c_divisor := cal_divisor (P := P) (base := base) T
  have c_is_pair := cal_is_pair (P := P) (base := base) T
  have c_is_integer := cal_is_integer (P := P) (base := base) T
  refine mkCal T.F_is_fraction T.g_is_fraction sc_is_fraction (fun _ _ _ _ _ _ us hl => match us, hl with | [_], _ => rfl) (fun vs H Q E h => ?_) (fun cdv A outer s H vs Q E hr h => ?_)
  · obtain ⟨v, a, b, rfl, _⟩ := h
    rfl
  obtain ⟨v, a, b, rfl, ⟨p, rfl, hp⟩, hb, hg, q⟩ := h
  have hs : SqT K H p [.int a, .int b] := SqT.of hp
  refine ⟨_, (pss_cons (ps_if (PW.pt (pw_or (pt_not (pt_val (C8.pe_c c_is_pair hr (by decide) rfl (pa_cons (pv 0) pa_nil)))) (pw_or (pt_not (pt_val (C8.pe_c c_is_integer hr (by decide) rfl (pa_cons (pe_ix ix_tup (pv 0) pe_int (fun _ _ => rfl)) pa_nil)))) (pw_or1 (pt_not (pt_val (C8.pe_c c_is_integer hr (by decide) rfl (pa_cons (pe_ix ix_tup (pv 0) pe_int (fun _ _ => rfl)) pa_nil))))))))
    (pss_one (ps_ret pe_bl))
    pss_nil)
    (pss_one (ps_ret (pe_and (pe_cmpR op_gt (pe_ix ix_tup (pv 0) pe_int (fun _ _ => rfl)) pe_int (nomark _)) (pe_one (pe_cmpR op_eq (C8.pe_c c_divisor hr (by decide) rfl (pa_cons (pe_callB call_abs (by rfl) T.z_abs bt_abs (pa_cons (pe_ix ix_tup (pv 0) pe_int (fun _ _ => rfl)) pa_nil)) (pa_cons (pe_ix ix_tup (pv 0) pe_int (fun _ _ => rfl)) pa_nil))) pe_int (nomark _))))))), ?_⟩
  refine ⟨_, rfl, p, _, rfl, hs, _, rfl, iteF ?_⟩
  refine ⟨_, rfl, p, _, _, _, rfl, rfl, hs, rfl, a, rfl, _, rfl, iteF ?_⟩
  refine ⟨_, rfl, p, _, _, _, rfl, rfl, hs, rfl, b, rfl, _, rfl, iteF ?_⟩
  refine ⟨_, rfl, p, _, _, _, rfl, rfl, hs, rfl, _, _, rfl, rfl, _, rfl, ?_⟩
  rw [decide_eq_true hb]
  refine iteT ?_
  refine ⟨_, rfl, p, _, _, _, rfl, rfl, hs, rfl, _, rfl, _, rfl, p, _, _, _, rfl, rfl, hs, rfl, _, _, rfl, ?_, Int.le_of_lt hb, rfl, ?_⟩
  · rw [abs_eq]
    omega
  · rw [abs_eq, gcd_abs, hg]
    exact q
end
end Cb
/-! rules of my own: enumerate of a tuple -/
namespace PySem
open Sem (wp)
theorem cbMeetsEnum {v : Value} {o : Obj} {G : Heap → Prop} (B : Begins v o G) :
    Meets (Builtin.«enumerate.__new__» ⟨[.type "enumerate", v], []⟩) (fun _ R s => G s.heap ∧
      R (.ok (.ret (.ref (s.heap.push o).objs.size))) { s with heap := (s.heap.push o).push { cls := .type "enumerate", data := .fields #[.none, .bool false, .ref s.heap.objs.size, rawInt 0, .none, .none] } }) :=
  .of_wp fun prog w A R s h => by
    obtain ⟨hp, g, d, tk, os⟩ := s
    obtain ⟨h1, h⟩ := h
    have hsub := sub_enumerate
    have q1 : ∀ {A' : Around} {E : Value → Shared → Prop} {Q : Value → Shared → Prop}, Q (.ref hp.objs.size) ⟨hp.push o, g, d, tk, os⟩ → wpAny (model prog w) A' (pyIter v) Q E ⟨hp, g, d, tk, os⟩ :=
      fun q => B.iter prog w _ _ ⟨hp, g, d, tk, os⟩ _ h1 q
    wp_walk using q1
    refine wpAny_stack_any fun st => wpAny_pure ?_
    split
    · rename_i c _ _ _ _ _
      cases (c == Value.type "enumerate")
      · wp_walk using q1
        exact ⟨_, rfl, h⟩
      · wp_walk using q1
        exact ⟨_, rfl, h⟩
    · wp_walk using q1
      exact ⟨_, rfl, h⟩
theorem cbCallEnum {prog : Program} {w : World} {A : Around} {E : Value → Shared → Prop} {s : Shared} {v : Value} {o : Obj} {G : Heap → Prop} {Q : Value → Shared → Prop} (B : Begins v o G) (h1 : G s.heap)
    (h : ∀ h', IsEnum h' (s.heap.objs.size + 1) s.heap.objs.size 0 .none → h'.get? s.heap.objs.size = some o → (∀ b o, s.heap.get? b = some o → h'.get? b = some o) → Q (.ref (s.heap.objs.size + 1)) { s with heap := h' }) :
    wpAny (model prog w) A (call (.type "enumerate") [v]) Q E s := by
  refine callType_new F.called_enumerate (by decide) (F.typeCall_enumerate_1 _) (F.newCall_enumerate_1 _) (fun obj => F.args_object_init_2 obj _) F.entry_enumerate_new (cbMeetsEnum B) ⟨h1, ?_⟩
  have hz : (s.heap.push o).objs.size = s.heap.objs.size + 1 := Heap.size_push ..
  show _ ∧ _
  rw [hz]
  have he : IsEnum ((s.heap.push o).push { cls := .type "enumerate", data := .fields #[.none, .bool false, .ref s.heap.objs.size, rawInt 0, .none, .none] }) (s.heap.objs.size + 1) s.heap.objs.size 0 .none := by
    have q := Heap.get?_push_size (s.heap.push o) (o := { cls := .type "enumerate", data := .fields #[.none, .bool false, .ref s.heap.objs.size, rawInt 0, .none, .none] }) rfl
    rw [hz] at q
    exact q
  exact ⟨⟨_, he, rfl⟩, h _ he (Heap.get?_push_of_some _ (Heap.get?_push_size _ B.free)) fun b o x => Heap.get?_push_of_some _ (Heap.get?_push_of_some _ x)⟩
theorem cbEnumEnd {prog : Program} {w : World} {A : Around} {E : Value → Shared → Prop} {s : Shared} {e it t : Addr} {i : Nat} {items : Array Value} {old : Value} {Q : Option Value → Shared → Prop} (hh : A.handled = none)
    (he : IsEnum s.heap e it i old) (hit : s.heap.IsTupleIter it t i) (hl : s.heap.IsTuple t items) (hx : items[i]? = none)
    (hQ : ∀ h', Heap.ExtBut it s.heap h' → Q none { s with heap := h' }) : wpAny (model prog w) A (pyNext (.ref e)) Q E s := by
  have hT : s.TypeIs (.ref e) "enumerate" := ⟨_, he, rfl⟩
  unfold pyNext
  refine wpAny_bind (wpAny_attempt (wpAny_callSpecial?_slot (name := Str.ofString "__next__") hT F.slot_enumerate_next
    (wpAny_call_entry F.slot_enumerate_next hT F.entry_enumerate_next ?_ (F.args_enumerate_next_1 _))))
  show wpAny _ _ (field (.ref e) 2 >>= _) _ _ _
  refine wpAny_bind (wpAny_field he rfl (x := .ref it) rfl ?_)
  refine wpAny_bind (wpAny_nextOf_tuple_end hh hit hl hx fun h' x he' hx' => ?_)
  obtain ⟨o, ho, hc⟩ := hx'
  exact wpAny_bind (wpAny_isInstance (T := "StopIteration") (b := true) ⟨o, ho, hc⟩ isSubtype_stop (wpAny_pure (hQ _ he')))
end PySem
namespace Cb
open PySem PySem.Spec PyProof.Rows L2
/-- the tuple at a, each item in a new pair with its place -/
def IteT (K : PySem.W.Frag) (a : Addr) : It :=
  ⟨fun i H => ∃ (xs : List V) (x : V), SqT K H a xs ∧ xs[i]? = some x, fun i H v H' => ∃ T x, v = .ref T ∧ H T = none ∧ H' = upd H T (.tup [.int (i : Nat), x]) ∧ ∀ xs, SqT K H a xs → xs[i]? = some x, fun i H => ∃ xs : List V, SqT K H a xs ∧ xs.length ≤ i⟩
theorem turnEnumT {P : Program} {w : World} {K : PySem.W.Frag} {elts : List Expr} {kk : Nat} {tpos : Pos} (a e it : Addr) :
    Turn P w K (.Tuple elts kk tpos) (IteT K a) [e, it] e (fun i h => (∃ old, IsEnum h e it ((i : Nat) : Int) old) ∧ h.IsTupleIter it a i ∧ e ≠ it ∧ a ≠ it ∧ a ≠ e) where
  mem := by simp
  obj := fun i h st b hb => by
    obtain ⟨⟨old, he⟩, ⟨o, ho, hc, hd⟩, _⟩ := st
    have e' : b = e ∨ b = it := by simpa using hb
    rcases e' with z | z
    · rw [z]
      exact ⟨_, he, fun v q => nomatch q⟩
    · rw [z]
      exact ⟨o, ho, fun v q => by rw [hd] at q; cases q⟩
  keep := fun i h h' st k => by
    obtain ⟨⟨old, he⟩, hi, hne⟩ := st
    exact ⟨⟨old, k e (by simp) _ he⟩, hi.at fun o q => k it (by simp) o q, hne⟩
  item := by
    intro X hP hw hK hc i pins s σ H E I hf st hg
    subst hP hw hK
    obtain ⟨⟨old, he⟩, hit, hne, hai, hae⟩ := st
    obtain ⟨xs, x, hq, hx⟩ := hg
    obtain ⟨its, rv, p, hz⟩ := I.tuple hq
    obtain ⟨u, hu, ru⟩ := rv.get hx
    have hel : e < s.heap.objs.size := Heap.lt_size he
    have hil : it < s.heap.objs.size := by
      obtain ⟨_, q, _⟩ := hit
      exact Heap.lt_size q
    have hlt : i < its.toArray.size := by
      have := (List.getElem?_eq_some_iff.mp hu).1
      simpa using this
    refine wpAny_pyNext_enum_itemD (Draws.tuple (prog := X.prog) (w := X.w) (A := X.A.in1) (I.ok.hd hc) it a hai its.toArray) he ⟨hit, p⟩ hlt hne (by simp; exact ⟨hne, fun z => hae z.symm⟩) fun y h' tk hP ho hst hT hsz hk => ?_
    have ey : y = u := by
      have hP' : its.toArray[i]? = some y := hP
      have hu' : its.toArray[i]? = some u := by simpa using hu
      rw [hu'] at hP'
      exact (Option.some.inj hP').symm
    subst ey
    refine ⟨_, rfl, wpAny_letOwnedTupleGo_enum (s := { s with heap := h', toks := tk + 1 }) ho fun h'' he' sb => ?_⟩
    have hT2 : h''.get? s.heap.objs.size = some { cls := .type "tuple", data := .seq #[.int i tk, y] } := (sb.2 _ (Nat.ne_of_gt hel)).trans hT
    have new : ObjOk X.prog X.w (upd H s.heap.objs.size (.tup [.int (i : Nat), x])) h'' s.heap.objs.size (.tup [.int (i : Nat), x]) :=
      ⟨by show 2 ≤ sizeLine; decide, [.int i tk, y], .cons ⟨_, rfl⟩ (.cons ru .nil), ⟨_, hT2, rfl, _, rfl⟩⟩
    have I1 : Inv X pins σ (upd H s.heap.objs.size (.tup [.int (i : Nat), x])) { s with heap := h'', toks := tk + 1 } :=
      I.turnedNew (ch := [e, it]) (fun b ob hb q => (sb.2 b (fun z => hb (by simp [z]))).trans (hk b ob (fun z => hb (by simp [z])) (fun z => hb (by simp [z])) q)) hf (Nat.le_refl _) new
    refine ⟨.ref s.heap.objs.size, _, I1, rfl, ⟨_, x, rfl, I.hok.fresh (Nat.le_refl _), rfl, fun ys hy => by rw [I.tuple_inj hy hq]; exact hx⟩, ⟨⟨y, ?_⟩, hst.1.at fun o q => (sb.2 it (Ne.symm hne)).trans q, hne, hai, hae⟩, fun b hb => ?_⟩
    · have e1 : ((i + 1 : Nat) : Int) = (i : Int) + 1 := by omega
      rw [e1]
      exact he'
    · have hb' : b < s.heap.objs.size := by
        have e' : b = e ∨ b = it := by simpa using hb
        rcases e' with z | z
        · rw [z]
          exact hel
        · rw [z]
          exact hil
      rw [upd_ne (Nat.ne_of_lt hb')]
      exact (hf b hb).1
  done := by
    intro X hP hw hK hc i pins s σ H E I hf st hg
    subst hP hw hK
    obtain ⟨⟨old, he⟩, hit, hne, hai, hae⟩ := st
    obtain ⟨xs, hq, hx⟩ := hg
    obtain ⟨its, rv, p, hz⟩ := I.tuple hq
    obtain ⟨f0, f1, f2, f3, f4, f5⟩ := hf it (by simp)
    have hl := rv.length
    -- the end by the tuple's own drawing, at a place at or behind its end
    refine cbEnumEnd (I.ok.hd hc) he hit p (by simp; omega) fun h' eb => ⟨rfl, I.turned (t' := s.toks) (fun b o hb q => eb b o hb q) f0 f1 f3 f4 f5⟩
  self := fun A i s Q E st h => by
    obtain ⟨⟨_, he⟩, _⟩ := st
    exact wpAny_pyIter_enum he h
def iEnumT (K : PySem.W.Frag) (ta : TA) : L2.TI := fun σ H R => ta σ H fun vs H1 => ∃ a xs, vs = [.ref a] ∧ SqT K H1 a xs ∧ R (IteT K a) H1
theorem pi_enumT {X : Cx} {e : Expr} {ta : TA} {p pos tpos : Pos} {elts : List Expr} {kk : Nat} (hg : Gl X "enumerate") (hm : X.mg "enumerate" = none) (ha : PA X [e] ta) (hs : starEach [e] X.env = [(false, eval e X.env)] := by rfl) :
    PI X (.Tuple elts kk tpos) (.Call (.Name "enumerate" p) [e] [] pos) (iEnumT X.K ta) := by
  refine ⟨fun pins s σ H R I h => ?_⟩
  refine Call_ (ld_blt I hg hm boot_enumerate (PyProof.Rows.callWith_type1 (thn (ha.run pos pins s σ H _ I h) fun us s1 ⟨vs, H1, I1, r1, q1⟩ => ?_) hs rfl))
  obtain ⟨a, xs, ex, hq, q⟩ := q1
  subst ex
  cases r1 with
  | cons r rr =>
    cases rr
    cases r
    obtain ⟨its, rv, p', hz⟩ := I1.tuple hq
    have hal : a < s1.heap.objs.size := p'.lt
    refine cbCallEnum (begins_tuple a its.toArray) (show s1.heap.IsTuple a its.toArray from p') fun h' he hit hk => wpAny_pyIter_enum he ?_
    have I2 : Inv X pins σ H1 { s1 with heap := h' } := I1.kept (t' := s1.toks) hk
    refine ⟨s1.heap.objs.size + 1, [s1.heap.objs.size + 1, s1.heap.objs.size], _, _, H1, rfl, I2, turnEnumT a (s1.heap.objs.size + 1) s1.heap.objs.size, ⟨⟨.none, he⟩, ⟨_, hit, rfl, rfl⟩, Nat.succ_ne_self _, Nat.ne_of_lt hal, Nat.ne_of_lt (Nat.lt_succ_of_lt hal)⟩, fun b hb => ?_, q⟩
    have e' : b = s1.heap.objs.size + 1 ∨ b = s1.heap.objs.size := by simpa using hb
    have hle : s1.heap.objs.size ≤ b := by
      rcases e' with z | z
      · rw [z]
        exact Nat.le_add_right _ _
      · rw [z]
        exact Nat.le_refl _
    exact I1.fpOk hle (I1.hok.fresh hle)
/-- [.. for i, x in enumerate(t)]: Pv by the turn and the heap; the pair is a new tuple at T -/
theorem lc_enumT {K : PySem.W.Frag} {a : Addr} {xs : List V} {g : TG} {tt : TT} {te : TE} {vs : List Nat} {σ : L2.St} {H1 : Hp} {D : Addr} {Qd : Hp → Prop} (Pv : Nat → Hp → Prop) (h0 : Pv 0 (upd H1 D (.lst []))) (hl : ∀ i H, i ≤ xs.length → Pv i H → SqT K H a xs)
    (hs : ∀ i x H T, xs[i]? = some x → Pv i H → H T = none → g (.ref T) (wipe σ vs) (upd H T (.tup [.int (i : Nat), x])) fun σ2 H2 => wipe σ2 vs = wipe σ vs ∧ tt σ2 H2 fun b H3 =>
      if b = true then te σ2 H3 fun y H4 => ∃ acc, H4 D = some (.lst acc) ∧ acc.length < sizeLine ∧ Pv (i + 1) (upd H4 D (.lst (acc ++ [y]))) else Pv (i + 1) H3) (hd : ∀ H, Pv xs.length H → Qd H) :
    ∃ W : Nat → Nat → Hp → Prop, (∃ m, W 0 m (upd H1 D (.lst []))) ∧ ∀ i m H, W i m H →
      ((IteT K a).stop i H ∧ Qd H) ∨ ((IteT K a).go i H ∧ ∃ Nx : Hp → Prop, (∀ H', Nx H' → ∃ m', m' < m ∧ W (i + 1) m' H') ∧ ∀ x H', (IteT K a).yld i H x H' → g x (wipe σ vs) H' fun σ2 H2 => wipe σ2 vs = wipe σ vs ∧ tt σ2 H2 fun b H3 =>
        if b = true then te σ2 H3 fun y H4 => ∃ acc, H4 D = some (.lst acc) ∧ acc.length < sizeLine ∧ Nx (upd H4 D (.lst (acc ++ [y]))) else Nx H3) := by
  refine ⟨fun i m H => m = xs.length - i ∧ i ≤ xs.length ∧ Pv i H, ⟨xs.length, by simp, Nat.zero_le _, h0⟩, ?_⟩
  rintro i m H ⟨rfl, hi, p⟩
  have q := hl i H hi p
  by_cases hlt : i < xs.length
  · refine .inr ⟨⟨xs, xs[i], q, by simp [hlt]⟩, Pv (i + 1), fun H' p' => ⟨xs.length - (i + 1), by omega, rfl, hlt, p'⟩, fun x H' y => ?_⟩
    obtain ⟨T, x', e1, nT, e2, hx⟩ := y
    subst e1 e2
    exact hs i x' H T (hx xs q) p nT
  · have e : i = xs.length := by omega
    subst e
    exact .inl ⟨⟨xs, q, Nat.le_refl _⟩, hd H p⟩
/-- a for over enumerate(t) -/
theorem for_enumT {K : PySem.W.Frag} {a : Addr} {xs : List V} {g : TG} {tb : TS} {D : Ends} {σ : L2.St} {H : Hp} (Pv : Nat → L2.St → Hp → Prop) (h0 : Pv 0 σ H) (hl : ∀ i σ H, i ≤ xs.length → Pv i σ H → SqT K H a xs)
    (hs : ∀ i x σ H T, xs[i]? = some x → Pv i σ H → H T = none → g (.ref T) σ (upd H T (.tup [.int (i : Nat), x])) fun σ2 H2 => tb { D with nx := Pv (i + 1), ct := Pv (i + 1), bk := D.nx } σ2 H2) (hd : ∀ σ H, Pv xs.length σ H → D.nx σ H) :
    ∃ W : Nat → Nat → L2.St → Hp → Prop, (∃ m, W 0 m σ H) ∧ ∀ i m σ H, W i m σ H →
      ((IteT K a).stop i H ∧ D.nx σ H) ∨ ((IteT K a).go i H ∧ ∃ N : L2.St → Hp → Prop, (∀ σ' H', N σ' H' → ∃ m', m' < m ∧ W (i + 1) m' σ' H') ∧ ∀ x H', (IteT K a).yld i H x H' → g x σ H' fun σ2 H2 => tb { D with nx := N, ct := N, bk := D.nx } σ2 H2) := by
  refine ⟨fun i m σ H => m = xs.length - i ∧ i ≤ xs.length ∧ Pv i σ H, ⟨xs.length, by simp, Nat.zero_le _, h0⟩, ?_⟩
  rintro i m σ H ⟨rfl, hi, p⟩
  have q := hl i σ H hi p
  by_cases hlt : i < xs.length
  · refine .inr ⟨⟨xs, xs[i], q, by simp [hlt]⟩, Pv (i + 1), fun σ' H' p' => ⟨xs.length - (i + 1), by omega, rfl, hlt, p'⟩, fun x H' y => ?_⟩
    obtain ⟨T, x', e1, nT, e2, hx⟩ := y
    subst e1 e2
    exact hs i x' σ H T (hx xs q) p nT
  · have e : i = xs.length := by omega
    subst e
    exact .inl ⟨⟨xs, q, Nat.le_refl _⟩, hd σ H p⟩
/-- a for over enumerate(list) -/
theorem for_enumL {K : PySem.W.Frag} {a : Addr} {xs : List V} {g : TG} {tb : TS} {D : Ends} {σ : L2.St} {H : Hp} (Pv : Nat → L2.St → Hp → Prop) (h0 : Pv 0 σ H) (hl : ∀ i σ H, i ≤ xs.length → Pv i σ H → SqL K H a xs)
    (hs : ∀ i x σ H T, xs[i]? = some x → Pv i σ H → H T = none → g (.ref T) σ (upd H T (.tup [.int (i : Nat), x])) fun σ2 H2 => tb { D with nx := Pv (i + 1), ct := Pv (i + 1), bk := D.nx } σ2 H2) (hd : ∀ σ H, Pv xs.length σ H → D.nx σ H) :
    ∃ W : Nat → Nat → L2.St → Hp → Prop, (∃ m, W 0 m σ H) ∧ ∀ i m σ H, W i m σ H →
      ((Ite K a).stop i H ∧ D.nx σ H) ∨ ((Ite K a).go i H ∧ ∃ N : L2.St → Hp → Prop, (∀ σ' H', N σ' H' → ∃ m', m' < m ∧ W (i + 1) m' σ' H') ∧ ∀ x H', (Ite K a).yld i H x H' → g x σ H' fun σ2 H2 => tb { D with nx := N, ct := N, bk := D.nx } σ2 H2) := by
  refine ⟨fun i m σ H => m = xs.length - i ∧ i ≤ xs.length ∧ Pv i σ H, ⟨xs.length, by simp, Nat.zero_le _, h0⟩, ?_⟩
  rintro i m σ H ⟨rfl, hi, p⟩
  have q := hl i σ H hi p
  by_cases hlt : i < xs.length
  · refine .inr ⟨⟨xs, xs[i], q, by simp [hlt]⟩, Pv (i + 1), fun σ' H' p' => ⟨xs.length - (i + 1), by omega, rfl, hlt, p'⟩, fun x H' y => ?_⟩
    obtain ⟨T, x', e1, nT, e2, hx⟩ := y
    subst e1 e2
    exact hs i x' σ H T (hx xs q) p nT
  · have e : i = xs.length := by omega
    subst e
    exact .inl ⟨⟨xs, q, Nat.le_refl _⟩, hd σ H p⟩
/-- [.. for x, y in zip(t, u)], two tuples of one length -/
theorem lc_zipT {K : PySem.W.Frag} {a b : Addr} {xs ys : List V} {g : TG} {tt : TT} {te : TE} {vs : List Nat} {σ : L2.St} {H1 : Hp} {D : Addr} {Qd : Hp → Prop} (hl2 : xs.length = ys.length) (Pv : Nat → Hp → Prop) (h0 : Pv 0 (upd H1 D (.lst [])))
    (hl : ∀ i H, i ≤ xs.length → Pv i H → SqT K H a xs ∧ SqT K H b ys)
    (hs : ∀ i x y H T, xs[i]? = some x → ys[i]? = some y → Pv i H → H T = none → g (.ref T) (wipe σ vs) (upd H T (.tup [x, y])) fun σ2 H2 => wipe σ2 vs = wipe σ vs ∧ tt σ2 H2 fun b H3 =>
      if b = true then te σ2 H3 fun y H4 => ∃ acc, H4 D = some (.lst acc) ∧ acc.length < sizeLine ∧ Pv (i + 1) (upd H4 D (.lst (acc ++ [y]))) else Pv (i + 1) H3) (hd : ∀ H, Pv xs.length H → Qd H) :
    ∃ W : Nat → Nat → Hp → Prop, (∃ m, W 0 m (upd H1 D (.lst []))) ∧ ∀ i m H, W i m H →
      ((RZ.ItzT K a b).stop i H ∧ Qd H) ∨ ((RZ.ItzT K a b).go i H ∧ ∃ Nx : Hp → Prop, (∀ H', Nx H' → ∃ m', m' < m ∧ W (i + 1) m' H') ∧ ∀ x H', (RZ.ItzT K a b).yld i H x H' → g x (wipe σ vs) H' fun σ2 H2 => wipe σ2 vs = wipe σ vs ∧ tt σ2 H2 fun b H3 =>
        if b = true then te σ2 H3 fun y H4 => ∃ acc, H4 D = some (.lst acc) ∧ acc.length < sizeLine ∧ Nx (upd H4 D (.lst (acc ++ [y]))) else Nx H3) := by
  refine ⟨fun i m H => m = xs.length - i ∧ i ≤ xs.length ∧ Pv i H, ⟨xs.length, by simp, Nat.zero_le _, h0⟩, ?_⟩
  rintro i m H ⟨rfl, hi, p⟩
  have q := hl i H hi p
  by_cases hlt : i < xs.length
  · have hlt2 : i < ys.length := by omega
    refine .inr ⟨⟨xs, ys, xs[i], ys[i], q.1, q.2, by simp [hlt], by simp [hlt2]⟩, Pv (i + 1), fun H' p' => ⟨xs.length - (i + 1), by omega, rfl, hlt, p'⟩, fun x H' y => ?_⟩
    obtain ⟨T, x', y', e1, nT, e2, hx, hy⟩ := y
    subst e1 e2
    exact hs i x' y' H T (hx xs q.1) (hy ys q.2) p nT
  · have e : i = xs.length := by omega
    subst e
    exact .inl ⟨⟨xs, ys, q.1, q.2, .inl (Nat.le_refl _)⟩, hd H p⟩
end Cb
namespace Cb
open PySem PySem.Spec PyProof.Rows L2
section
variable {P : Program} {w : World} {K : PySem.W.Frag} {mg : Str → Option Value} {base : Heap}
/-! ### comprehensions of pure parts: one rule -/
theorem walk_enumT {a : Addr} {xs : List V} : Walk (IteT K a) xs.length (fun H => SqT K H a xs) (YPair (fun i => some (.int (i : Nat))) (fun i => xs[i]?)) := by
  refine ⟨fun i _ hi q => ⟨xs, xs[i], q, by simp [hi]⟩, fun _ q => ⟨xs, q, Nat.le_refl _⟩, fun i H v H' _ q y => ?_⟩
  obtain ⟨T, x, h1, h2, h3, h4⟩ := y
  exact ⟨T, .int (i : Nat), x, h1, h2, h3, rfl, h4 xs q⟩
theorem walk_zipT {a b : Addr} {xs ys : List V} {n : Nat} (hn : n = min xs.length ys.length) : Walk (RZ.ItzT K a b) n (fun H => SqT K H a xs ∧ SqT K H b ys) (YPair (fun i => xs[i]?) (fun i => ys[i]?)) := by
  subst hn
  refine ⟨fun i _ hi q => ?_, fun _ q => ⟨xs, ys, q.1, q.2, by omega⟩, fun i H v H' _ q y => ?_⟩
  · have h1 : i < xs.length := by omega
    have h2 : i < ys.length := by omega
    exact ⟨xs, ys, xs[i], ys[i], q.1, q.2, by simp [h1], by simp [h2]⟩
  · obtain ⟨T, x, z, h1, h2, h3, h4, h5⟩ := y
    exact ⟨T, x, z, h1, h2, h3, h4 xs q.1, h5 ys q.2⟩
/-- all but the object at D stays -/
def But (D : Addr) (H H' : Hp) : Prop := ∀ b o, b ≠ D → H b = some o → H' b = some o
theorem But.of {D : Addr} {H H' : Hp} (e : Same H H') : But D H H' := fun b o _ h => e b o h
theorem But.up {D : Addr} {H : Hp} {o : HO} : But D H (upd H D o) := fun b u n h => by
  rw [upd_ne n]
  exact h
theorem But.tk {D : Addr} {H H' : Hp} {xs : List V} (e : But D H H') (h : H D = some (.lst xs)) : Tk H H' := fun b ys q => e b _ (ne_of q h (by intro z; cases z)) q
/-- R is kept by what keeps all but the list at D -/
def Kept {α : Type} (D : Addr) (R : Hp → V → α → Prop) : Prop := ∀ (H H' : Hp) (acc : List V) (v : V) (x : α), H D = some (.lst acc) → But D H H' → R H v x → R H' v x
/-- R is about tuples alone -/
def OfT {α : Type} (R : Hp → V → α → Prop) : Prop := ∀ (H H' : Hp) (v : V) (x : α), Tk H H' → R H v x → R H' v x
theorem OfT.kept {α : Type} {R : Hp → V → α → Prop} (h : OfT R) {D : Addr} : Kept D R := fun _ _ _ v x hd b r => h _ _ v x (b.tk hd) r
theorem OfT.tin : OfT TIn := fun _ _ _ _ t h => h.tk t
theorem OfT.con {α : Type} {R : V → α → Prop} : OfT (fun _ => R) := fun _ _ _ _ _ h => h
/-- what holds of the heap at turn i: the list at D has come to F i -/
def LcI {α : Type} (R : Hp → V → α → Prop) (H1 : Hp) (D : Addr) (F : Nat → List α) (i : Nat) (H : Hp) : Prop := Same H1 H ∧ ∃ acc, H D = some (.lst acc) ∧ P2 (R H) acc (F i)
section
variable {α : Type} {R : Hp → V → α → Prop} {H1 : Hp} {D : Addr} {F : Nat → List α} {i : Nat} {H : Hp}
theorem LcI.push (h : LcI R H1 D F i H) (hR : Kept D R) (nD : H1 D = none) {H4 : Hp} {y : V} {x : α} (s : Same H H4) (r : R H4 y x) (hF : F (i + 1) = F i ++ [x]) (hz : (F i).length < 100000) :
    ∃ acc, H4 D = some (.lst acc) ∧ acc.length < sizeLine ∧ LcI R H1 D F (i + 1) (upd H4 D (.lst (acc ++ [y]))) := by
  obtain ⟨s1, acc, hD, hp⟩ := h
  have hD4 := s D _ hD
  refine ⟨acc, hD4, szl (by rw [hp.len]; exact hz), sm_mut (s1.trans s) nD, _, upd_same, ?_⟩
  rw [hF]
  exact ((hp.imp fun v x q => hR H _ acc v x hD ((But.of s)) q).imp fun v x q => hR _ _ acc v x hD4 But.up q).snoc (hR _ _ acc y x hD4 But.up r)
theorem LcI.skip (h : LcI R H1 D F i H) (hR : Kept D R) {H3 : Hp} (s : Same H H3) (hF : F (i + 1) = F i) : LcI R H1 D F (i + 1) H3 := by
  obtain ⟨s1, acc, hD, hp⟩ := h
  refine ⟨s1.trans s, acc, s D _ hD, ?_⟩
  rw [hF]
  exact hp.imp fun v x q => hR H _ acc v x hD (But.of s) q
theorem LcI.sm (h : LcI R H1 D F i H) : Same H1 H := h.1
end
theorem lcI {J : It} {n : Nat} {G : Hp → Prop} {Y : Nat → Hp → V → Hp → Prop} {α : Type} (w : Walk J n G Y) {g : TG} {tt : TT} {te : TE} {vs : List Nat} {σ : L2.St} {H1 : Hp} {D : Addr} {Qd : Hp → Prop} (nD : H1 D = none)
    (R : Hp → V → α → Prop) (F : Nat → List α) (hF : F 0 = []) (hG : ∀ H, Same H1 H → G H)
    (hs : ∀ i x H H', i < n → LcI R H1 D F i H → Y i H x H' → g x (wipe σ vs) H' fun σ2 H2 => wipe σ2 vs = wipe σ vs ∧ tt σ2 H2 fun b H3 =>
      if b = true then te σ2 H3 fun y H4 => ∃ acc, H4 D = some (.lst acc) ∧ acc.length < sizeLine ∧ LcI R H1 D F (i + 1) (upd H4 D (.lst (acc ++ [y]))) else LcI R H1 D F (i + 1) H3)
    (hd : ∀ H ys, Same H1 H → H D = some (.lst ys) → P2 (R H) ys (F n) → Qd H) :
    ∃ W : Nat → Nat → Hp → Prop, (∃ m, W 0 m (upd H1 D (.lst []))) ∧ ∀ i m H, W i m H →
      (J.stop i H ∧ Qd H) ∨ (J.go i H ∧ ∃ Nx : Hp → Prop, (∀ H', Nx H' → ∃ m', m' < m ∧ W (i + 1) m' H') ∧ ∀ x H', J.yld i H x H' → g x (wipe σ vs) H' fun σ2 H2 => wipe σ2 vs = wipe σ vs ∧ tt σ2 H2 fun b H3 =>
        if b = true then te σ2 H3 fun y H4 => ∃ acc, H4 D = some (.lst acc) ∧ acc.length < sizeLine ∧ Nx (upd H4 D (.lst (acc ++ [y]))) else Nx H3) :=
  lc_it w (LcI R H1 D F) ⟨sm_up nD, [], upd_same, by rw [hF]; exact .nil⟩ (fun i H _ h => hG H h.1) hs fun H h => by
    obtain ⟨s1, acc, hD, hp⟩ := h
    exact hd H acc s1 hD hp
/-! ### lists of tuples of isz -/
/-- the list at p holds the tuples xss -/
def TLs (H : Hp) (p : Addr) (xss : List (List Int)) : Prop := ∃ vs, H p = some (.lst vs) ∧ P2 (TIn H) vs xss
theorem TLs.sm {H H' : Hp} {p : Addr} {xss : List (List Int)} (h : TLs H p xss) (s : Same H H') : TLs H' p xss := by
  obtain ⟨vs, h1, h2⟩ := h
  exact ⟨vs, s _ _ h1, h2.imp fun v x q => q.tk (sm_tk s)⟩
/-- the list at p holds lists of isz -/
def RLs (H : Hp) (p : Addr) (rows : List (List Int)) : Prop := ∃ vs, H p = some (.lst vs) ∧ P2 (fun v (row : List Int) => ∃ a, v = .ref a ∧ H a = some (.lst (row.map V.int))) vs rows
theorem P2.bls {vs : List V} {bs : List Bool} (h : P2 (fun v b => v = V.bl b) vs bs) : vs = bs.map V.bl := by
  induction h with
  | nil => rfl
  | cons r t ih => rw [List.map_cons, r, ih]
theorem P2.is {vs : List V} {ns : List Int} (h : P2 (fun v n => v = V.int n) vs ns) : vs = ns.map V.int := by
  induction h with
  | nil => rfl
  | cons r t ih => rw [List.map_cons, r, ih]
/-- the isz of a list of numbers -/
def isz (sz : List Nat) : List Int := sz.map Int.ofNat
theorem isz_get {sz : List Nat} {i n : Nat} (h : sz[i]? = some n) : (isz sz)[i]? = some (n : Int) := by
  unfold isz
  rw [List.getElem?_map, h]
  rfl
theorem map_int_get {ns : List Int} {i : Nat} {v : V} (h : (ns.map V.int)[i]? = some v) : ∃ n, ns[i]? = some n ∧ v = .int n := by
  rw [List.getElem?_map] at h
  cases e : ns[i]? with
  | none => rw [e] at h; cases h
  | some n => rw [e] at h; cases h; exact ⟨n, rfl, rfl⟩
theorem isz_get' {sz : List Nat} {i : Nat} {v : V} (h : ((isz sz).map V.int)[i]? = some v) : ∃ n : Nat, sz[i]? = some n ∧ v = .int (n : Int) := by
  obtain ⟨m, h1, rfl⟩ := map_int_get h
  unfold isz at h1
  rw [List.getElem?_map] at h1
  cases e : sz[i]? with
  | none => rw [e] at h1; cases h1
  | some n => rw [e] at h1; cases h1; exact ⟨n, rfl, rfl⟩
theorem isz_len {sz : List Nat} : (isz sz).length = sz.length := by simp [isz]
theorem map_take {α β : Type} {f : α → β} {l : List α} {i : Nat} {x : α} (h : l[i]? = some x) : (l.map f).take (i + 1) = (l.map f).take i ++ [f x] := take_snoc (by rw [List.getElem?_map, h]; rfl)
theorem yesI {σ : L2.St} {H : Hp} {A B : Hp → Prop} (h : A H) : tYes σ H (fun b H3 => if b = true then A H3 else B H3) := by
  show (if true = true then A H else B H)
  exact iteT h
abbrev rLen (K : PySem.W.Frag) : List V → Hp → VK → Prop := fun xs H Q => ∃ p ys, xs = [.ref p] ∧ (SqL K H p ys ∨ SqT K H p ys) ∧ Q (.int ys.length) H
abbrev rTupOf (K : PySem.W.Frag) : List V → Hp → VK → Prop := fun xs H Q => ∃ p ys, xs = [.ref p] ∧ ((SqL K H p ys ∧ ∀ l, H l = none → Q (.ref l) (upd H l (.tup ys))) ∨ (SqT K H p ys ∧ Q (.ref p) H))
theorem walk_range0 {n : Nat} : Walk (Itr 0 n) n (fun _ => True) (fun i H x H' => H' = H ∧ x = .int ((i : Nat) : Int)) :=
  ⟨fun _ _ hi _ => hi, fun _ _ => Nat.le_refl _, fun i _ x _ _ _ y => ⟨y.1, by rw [y.2]; show V.int (0 + (i : Int)) = _; rw [Int.zero_add]⟩⟩
end
end Cb
/-! sorted of a list of tuples of ints, any length, the empty tuple among them -/
namespace CbS
open PySem PySem.Spec PyProof.Rows
def IsIT (h : Heap) (v : Value) (ns : List Int) : Prop := ∃ (a : Addr) (its : List Value), v = .ref a ∧ IsTup h a its.toArray ∧ IntsAre its ns
theorem IsIT.keeps {h h' : Heap} {v : Value} {ns : List Int} (x : IsIT h v ns) (k : ∀ b o, v = .ref b → h.get? b = some o → h'.get? b = some o) : IsIT h' v ns := by
  obtain ⟨a, its, e, ⟨o, ho, hc, n, hd⟩, i⟩ := x
  exact ⟨a, its, e, ⟨o, k _ _ e ho, hc, n, hd⟩, i⟩
section
variable {prog : Program} {w : World} {A : Around} {E : Value → Shared → Prop} {s : Shared}
theorem lex_kat {b : Bool} {Q : Bool → Shared → Prop} {xs ys : List Value} {ns ms : List Int} (hx : IntsAre xs ns) : ∀ {ys : List Value} {ms : List Int} (i : Nat), IntsAre ys ms → Q (HT.lexLt ns ms) s → PySem.W.KatLex prog w A b (decide (ns.length < ms.length)) Q (xs.zip ys) i s := by
  induction hx with
  | nil =>
    intro ys ms i hy h
    cases hy with
    | nil => exact PySem.W.kat_nil (by simpa [HT.lexLt] using h)
    | cons c u hy => exact PySem.W.kat_nil (by simpa [HT.lexLt] using h)
  | @cons a t xs ns hx ih =>
    intro ys ms i hy h
    cases hy with
    | nil => exact PySem.W.kat_nil (by simpa [HT.lexLt] using h)
    | @cons c u ys ms hy =>
      refine PySem.W.kat_cons (SeqAt.EqAt.int_int a t c u prog w _ _ ?_)
      refine PySem.W.kat_go (fun e => ?_) (fun e => ?_)
      · have e' : a = c := by simpa using e
        subst e'
        rw [HT.lexLt_cons, if_pos rfl] at h
        have z : decide ((a :: ns).length < (a :: ms).length) = decide (ns.length < ms.length) := by simp
        rw [z]
        exact PySem.W.kat_yes (ih (i + 1) hy h)
      · have e' : ¬ a = c := by simpa using e
        rw [HT.lexLt_cons, if_neg e'] at h
        exact PySem.W.kat_no (TS.oneLt_ints _ h)
theorem cmp_tuples {v u : Value} {ns ms : List Int} (hv : IsIT s.heap v ns) (hw : IsIT s.heap u ms) : wpAny (model prog w) A (keyLt' (tuples' true) v u) (fun r s' => s' = s ∧ r = HT.lexLt ns ms) (fun _ _ => False) s := by
  obtain ⟨a, its, rfl, ⟨o, ho, hc, n, hd⟩, i⟩ := hv
  obtain ⟨a2, its2, rfl, ⟨o2, ho2, hc2, n2, hd2⟩, i2⟩ := hw
  refine PySem.W.kat_lt ho hd ho2 hd2 ?_
  have e1 : its.toArray.size = ns.length := by rw [List.size_toArray, i.length]
  have e2 : its2.toArray.size = ms.length := by rw [List.size_toArray, i2.length]
  rw [e1, e2]
  exact lex_kat (ys := its2) (ms := ms) i 0 (by simpa using i2) ⟨rfl, rfl⟩
theorem cmp_general {v u : Value} {ns ms : List Int} (hu : A.units < cLine) (hv : IsIT s.heap v ns) (hw : IsIT s.heap u ms) : wpAny (model prog w) A (keyLt' general' v u) (fun r s' => s' = s ∧ r = HT.lexLt ns ms) (fun _ _ => False) s := by
  obtain ⟨a, its, rfl, p, i⟩ := hv
  obtain ⟨a2, its2, rfl, p2, i2⟩ := hw
  show wpAny (model prog w) A (oneLt' false _ _) _ _ _
  exact PySem.W.kat_one _ _ (HT.lt_tupInts p p2 (by simpa using i) (by simpa using i2) hu ⟨rfl, rfl⟩)
theorem tl_call {a b : Addr} {items items2 : List Value} {ns ms : List Int} {Q : Value → Shared → Prop} (p : IsTup s.heap a items.toArray) (p2 : IsTup s.heap b items2.toArray) (ia : IntsAre items ns) (ib : IntsAre items2 ms) (h : Q (.bool (HT.lexLt ns ms)) s) :
    wpAny (model prog w) A (call (.builtin "tuple.__lt__") [.ref a, .ref b]) Q E s := by
  have hT := p.typeIs
  obtain ⟨⟨cls, dd, data, sl⟩, ho, hc, n, hd⟩ := p
  obtain ⟨⟨cls2, dd2, data2, sl2⟩, ho2, hc2, n2, hd2⟩ := p2
  simp only at hc hd hc2 hd2
  subst hc hd hc2 hd2
  refine wpAny_call (codeAny_call_builtin PySem.F.slot_tuple_lt.plain PySem.F.entry_tuple_lt (PySem.F.slot_tuple_lt.check _ _ _ _ _ _ _ _ hT (PySem.F.args_tuple_lt_2 _ _) ?_))
  refine wpAny_mono (HT.tuple_lt_ints a b items.toArray items2.toArray n n2 dd dd2 sl sl2 ns ms (by simpa using ia) (by simpa using ib) prog w _ (wants Q E) s ⟨ho, ho2, h⟩) (fun fin s' q => ?_) fun _ _ z => z
  cases fin with
  | done f => exact q
  | again c => exact q
theorem cmp_oneType {v u : Value} {ns ms : List Int} (hu : A.units < cLine) (hv : IsIT s.heap v ns) (hw : IsIT s.heap u ms) : wpAny (model prog w) A (keyLt' oneType' v u) (fun r s' => s' = s ∧ r = HT.lexLt ns ms) (fun _ _ => False) s := by
  obtain ⟨a, its, rfl, p, i⟩ := hv
  obtain ⟨a2, its2, rfl, p2, i2⟩ := hw
  have hT := p.typeIs
  rw [keyLt'_oneType, oneLt'_eq]
  simp only [if_true]
  refine wpAny_bind (wpAny_cRoomFor hu ?_)
  refine wpAny_bind (wpAny_callSpecialIfBound?_slot hT PySem.F.slot_tuple_lt (tl_call p p2 i i2 ?_))
  exact wpAny_truthy_bool ⟨rfl, rfl⟩
theorem firsts_its {k : Value → List Int} : ∀ (vs : List Value), (∀ v ∈ vs, IsIT s.heap v (k v)) → ∃ fs : List (Option Value), (∀ (M : Model) (E : Value → Shared → Prop) (Q : List (Option Value) → Shared → Prop), Q fs s → wpAny M A (vs.mapM firstOfTuple') Q E s) ∧ ((∃ v ∈ vs, k v = []) → (fs.all fun x => x.isSome) = false)
  | [], _ => ⟨[], fun M E Q h => by rw [List.mapM_nil]; exact wpAny_pure h, fun ⟨v, hv, _⟩ => by cases hv⟩
  | v :: vs, hv => by
    obtain ⟨fs, h1, h2⟩ := firsts_its vs fun u hu => hv u (List.mem_cons_of_mem _ hu)
    obtain ⟨a, its, e, ⟨o, ho, hc, n, hd⟩, i⟩ := hv v List.mem_cons_self
    refine ⟨its[0]? :: fs, fun M E Q h => ?_, fun ⟨u, hu, ku⟩ => ?_⟩
    · subst e
      rw [List.mapM_cons]
      refine wpAny_bind ?_
      rw [PySem.W.kas_first_eq]
      refine wpAny_bind (PySem.W.Looks.here (show PySem.W.Looks M s.heap (typeOf (.ref a)) o.cls from (PySem.W.Looks.ld ho).andThen .now) ?_)
      rw [hc, if_neg (by first | decide | simp)]
      refine wpAny_bind (listItems_at ho hd (wpAny_pure ?_))
      rw [List.getElem?_toArray]
      exact wpAny_bind (h1 M E _ (wpAny_pure h))
    · rw [List.all_cons]
      rcases List.mem_cons.mp hu with z | m
      · subst z
        rw [ku] at i
        cases i
        rfl
      · rw [h2 ⟨u, m, ku⟩, Bool.and_false]
theorem firsts_ints {k : Value → List Int} : ∀ (vs : List Value), (∀ v ∈ vs, IsIT s.heap v (k v)) → (∀ v ∈ vs, k v ≠ []) → ∃ fs : List Value, PySem.W.KatTups s.heap vs fs ∧ fs.length = vs.length ∧ ∀ f ∈ fs, ∃ x t, f = Value.int x t
  | [], _, _ => ⟨[], PySem.W.KatTups.nil, rfl, fun _ hm => by simp at hm⟩
  | v :: vs, hv, hn => by
    obtain ⟨fs, h1, h2, h3⟩ := firsts_ints vs (fun u hu => hv u (List.mem_cons_of_mem _ hu)) fun u hu => hn u (List.mem_cons_of_mem _ hu)
    obtain ⟨a, its, e, ⟨o, ho, hc, n, hd⟩, i⟩ := hv v List.mem_cons_self
    have hne := hn v List.mem_cons_self
    generalize k v = ns at i hne
    cases i with
    | nil => exact absurd rfl hne
    | cons x t i =>
      subst e
      refine ⟨.int x t :: fs, PySem.W.KatTups.cons ho hc hd (by simp) h1, by rw [List.length_cons, List.length_cons, h2], fun f hm => ?_⟩
      rcases List.mem_cons.mp hm with rfl | hm
      · exact ⟨x, t, rfl⟩
      · exact h3 f hm
theorem its_sortable {a : Addr} {vs : List Value} {k : Value → List Int} (h2 : 2 ≤ vs.length) (hu : A.units < cLine) (hv : ∀ v ∈ vs, IsIT s.heap v (k v)) (ha : ∀ v ∈ vs, v ≠ .ref a) :
    SrtO.SortableO prog w A s a vs fun v u => HT.lexLt (k v) (k u) := by
  intro h' keep
  have hv' : ∀ v ∈ vs, IsIT h' v (k v) := fun v hm => (hv v hm).keeps fun b o e g => keep b o (fun z => ha v hm (by rw [e, z])) g
  by_cases hn : ∀ v ∈ vs, k v ≠ []
  · obtain ⟨fs, f1, f2, f3⟩ := firsts_ints (s := { s with heap := h' }) vs hv' hn
    refine ⟨tuples' true, fun Q E hq => ?_, fun p q hp hq => cmp_tuples (s := { s with heap := h' }) (hv' p.1 hp) (hv' q.1 hq)⟩
    refine PySem.W.kat_kind (T := .type "int") f1 (by omega) (fun f hm => ?_) (by rfl) ?_
    · obtain ⟨x, t, rfl⟩ := f3 f hm
      exact PySem.W.Looks.now
    · have e : (Value.type "int" != Value.type "tuple") = true := by first | decide +kernel | rfl | decide
      rw [e]
      exact hq
  · have hn' : ∃ v ∈ vs, k v = [] := by
      simp at hn
      exact hn
    obtain ⟨fs, f1, f2⟩ := firsts_its (A := A) (s := { s with heap := h' }) vs hv'
    have f2' := f2 hn'
    have hT : ∀ (M : Model), ∀ v ∈ vs, PySem.W.Looks M h' (typeOf v) (.type "tuple") := fun M v hm => by
      obtain ⟨a, its, e, ⟨o, ho, hc, n, hd⟩, i⟩ := hv' v hm
      subst e
      rw [← hc]
      exact (PySem.W.Looks.ld ho).andThen .now
    by_cases hf : ((fs.toArray[0]?).bind id).isSome = true
    · refine ⟨general', fun Q E hq => ?_, fun p q hp hq => cmp_general (s := { s with heap := h' }) hu (hv' p.1 hp) (hv' q.1 hq)⟩
      rw [keyKind'_eq, List.mapM_toArray, map_eq_pure_bind]
      refine wpAny_bind (wpAny_bind (f1 _ _ _ (wpAny_pure ?_)))
      rw [if_neg (by rw [List.all_toArray, f2']; exact Bool.false_ne_true), if_pos hf]
      exact wpAny_pure hq
    · refine ⟨oneType', fun Q E hq => ?_, fun p q hp hq => cmp_oneType (s := { s with heap := h' }) hu (hv' p.1 hp) (hv' q.1 hq)⟩
      rw [keyKind'_eq, List.mapM_toArray, map_eq_pure_bind]
      refine wpAny_bind (wpAny_bind (f1 _ _ _ (wpAny_pure ?_)))
      rw [if_neg (by rw [List.all_toArray, f2']; exact Bool.false_ne_true), if_neg hf]
      rw [oneTypeOnly'_eq, List.mapM_toArray, map_eq_pure_bind]
      obtain ⟨v₁, rest, rfl⟩ : ∃ v₁ rest, vs = v₁ :: rest := by
        match vs, h2 with
        | v₁ :: rest, _ => exact ⟨v₁, rest, rfl⟩
      refine wpAny_bind (wpAny_bind (wpAny_bind (PySem.W.kas_mapM (r := Value.type "tuple") _ (fun v hv Q' hq => (hT _ v hv).here hq) (wpAny_pure ?_))))
      have hall : ((List.map (fun _ => Value.type "tuple") (v₁ :: rest)).toArray.all fun x => x == Value.type "tuple") = true := by
        simp only [List.all_toArray, List.all_map, List.all_eq_true]
        intro _ _
        rfl
      have h0 : (List.map (fun _ => Value.type "tuple") (v₁ :: rest)).toArray[0]? = some (Value.type "tuple") := by simp
      rw [h0]
      simp only [hall, if_true]
      exact wpAny_pure (wpAny_pure hq)
end
end CbS
namespace Cb
open PySem PySem.Spec PyProof.Rows L2
/-- sorted(xs), xs a list of tuples of ints: a new list of the same tuples, ascending -/
def rSortTs (K : PySem.W.Frag) : List V → Hp → VK → Prop := fun xs H Q => ∃ (a : Addr) (ts : List Addr) (k : Addr → List Int), xs = [.ref a] ∧ SqL K H a (ts.map V.ref) ∧ (∀ t ∈ ts, H t = some (.tup ((k t).map V.int))) ∧
  ∀ (ts' : List Addr) (p : Addr), ts'.Perm ts → ts'.Pairwise (fun p q => HT.lexLt (k q) (k p) = false) → H p = none → Q (.ref p) (upd H p (.lst (ts'.map V.ref)))
section
variable {X : Cx}
theorem cr_sortTs (hu : X.A.units + 64 < cLine) : CallR X (.builtin "sorted") (rSortTs X.K) := by
  intro pins s σ H vs us Q I r h
  obtain ⟨a, ts, k, rfl, hs, hN, q⟩ := h
  obtain ⟨its, rv, hl, hz⟩ := I.list hs
  rw [Vals.ref1 r]
  have ei := nts_of rv
  have hv : ∀ u ∈ its, CbS.IsIT s.heap u (k (adO u)) := fun u hm => by
    rw [ei] at hm
    obtain ⟨t, ht, rfl⟩ := List.mem_map.mp hm
    obtain ⟨_, its2, r2, p2⟩ := I.hok t _ (hN t ht)
    exact ⟨t, its2, rfl, p2, r2.ints⟩
  refine SrtO.sorted_ord (NtL.swo_lexL fun u => k (adO u)) hl.isList (by rw [← rv.length]; exact hz) (fun h2 h₁ a' ho kk => CbS.its_sortable h2 (by show X.A.units + 1 + 1 < cLine; omega) (fun u hm => (hv u hm).keeps fun b o _ g => (kk b o g).2) fun u hm z => ?_) fun out h1 h2 => ?_
  · obtain ⟨t, its2, e, ⟨o, hto, hc, _⟩, _⟩ := hv u hm
    rw [e] at z
    obtain ⟨z1, z2⟩ := kk _ _ hto
    exact z1 (Value.ref.inj z)
  obtain ⟨ep, he'⟩ := PyProof.Rows.sortedAll_at s.heap its out.toArray
  have eo : out = (out.map adO).map Value.ref := ref_map fun u hm => by
    have hm' : u ∈ its := h2.perm.mem_iff.mp hm
    rw [ei] at hm'
    obtain ⟨t, _, e⟩ := List.mem_map.mp hm'
    exact ⟨t, e.symm⟩
  have hp : (out.map adO).Perm ts := by
    have p1 := h2.perm.map adO
    rw [ei, ad_map] at p1
    exact p1
  have hss : (out.map adO).Pairwise (fun p q => HT.lexLt (k q) (k p) = false) := List.pairwise_map.mpr (h1.imp fun {x y} z => z)
  have hlen : ((out.map adO).map V.ref).length ≤ sizeLine := by
    rw [List.length_map, hp.length_eq]
    rw [List.length_map] at hz
    exact hz
  have rvo : Vals ((out.map adO).map V.ref) out := by
    have z := of_nts (out.map adO)
    rw [← eo] at z
    exact z
  exact ⟨.ref _, upd H (s.heap.objs.size + 1) (.lst ((out.map adO).map V.ref)), I.laid (t' := s.toks) (fun _ _ => PyProof.Rows.sortedAll_old) (Nat.le_succ _) ⟨hlen, out, ep, rvo, he'⟩, rfl, q _ _ hp hss (I.hok.fresh (Nat.le_succ _))⟩
end
/-- the ints of the tuple at t -/
def toI : V → Int
  | .int i => i
  | _ => 0
def kI (H : Hp) (t : Addr) : List Int := match H t with
  | some (.tup xs) => xs.map toI
  | _ => []
theorem kI_of {H : Hp} {t : Addr} {ns : List Int} (h : H t = some (.tup (ns.map V.int))) : kI H t = ns := by
  unfold kI
  rw [h]
  show (ns.map V.int).map toI = ns
  rw [List.map_map]
  exact (List.map_congr_left fun _ _ => rfl).trans (List.map_id ns)
/-- a list of tuples by its addresses -/
theorem P2.addrs {H : Hp} {vs : List V} {xss : List (List Int)} (h : P2 (TIn H) vs xss) : ∃ ts : List Addr, vs = ts.map V.ref ∧ (∀ t ∈ ts, H t = some (.tup ((kI H t).map V.int))) ∧ xss = ts.map (kI H) := by
  induction h with
  | nil => exact ⟨[], rfl, (fun _ h => nomatch h), rfl⟩
  | cons r t ih =>
    obtain ⟨ts, e1, e2, e3⟩ := ih
    obtain ⟨a, rfl, ha⟩ := r
    have ek := kI_of ha
    refine ⟨a :: ts, by rw [e1]; rfl, fun t ht => ?_, by rw [e3, List.map_cons, ek]⟩
    rcases List.mem_cons.mp ht with e | m
    · subst e
      rw [ek]
      exact ha
    · exact e2 t m
theorem P2.of_addrs {H : Hp} : ∀ {ts : List Addr}, (∀ t ∈ ts, H t = some (.tup ((kI H t).map V.int))) → P2 (TIn H) (ts.map V.ref) (ts.map (kI H))
  | [], _ => .nil
  | t :: ts, h => .cons ⟨t, rfl, h t List.mem_cons_self⟩ (P2.of_addrs fun u hu => h u (List.mem_cons_of_mem _ hu))
/-- the reading of it by what the list holds -/
theorem sortTs {K : PySem.W.Frag} {H : Hp} {a : Addr} {vs : List V} {xss : List (List Int)} {Q : VK} (h : SqL K H a vs) (hp : P2 (TIn H) vs xss)
    (q : ∀ (p : Addr) (H' : Hp) (yss : List (List Int)), Same H H' → H p = none → TLs H' p yss → yss.Perm xss → yss.Pairwise (fun x y => HT.lexLt y x = false) → Q (.ref p) H') : rSortTs K [.ref a] H Q := by
  obtain ⟨ts, e1, e2, e3⟩ := hp.addrs
  subst e1 e3
  refine ⟨a, ts, kI H, rfl, h, e2, fun ts' p pm pw hn => ?_⟩
  have e4 : ∀ t ∈ ts', H t = some (.tup ((kI H t).map V.int)) := fun t ht => e2 t (pm.mem_iff.mp ht)
  refine q p _ (ts'.map (kI H)) (sm_up hn) hn ⟨_, upd_same, (P2.of_addrs e4).imp fun v x r => r.tk (sm_tk (sm_up hn))⟩ (pm.map _) (List.pairwise_map.mpr pw)
end Cb
namespace Cb
open PySem PySem.Spec PyProof.Rows L2
section
variable {P : Program} {w : World} {K : PySem.W.Frag} {mg : Str → Option Value} {base : Heap}
/-! ### sizes, views -/
theorem prod_take {sz : List Nat} : ∀ i, (sz.take i).foldl (· * ·) 1 ≤ 4 ^ i ∨ ∃ n ∈ sz, 4 < n := by
  intro i
  by_cases h : ∀ n ∈ sz, n ≤ 4
  · left
    have h1 := foldl_mul_pow (ls := sz.take i) (b := 4) fun n hn => h n (List.mem_of_mem_take hn)
    refine Nat.le_trans h1 (Nat.pow_le_pow_right (by decide) ?_)
    rw [List.length_take]
    omega
  · right
    simp at h
    exact h
def spSizes : Sp := fun vs H Q _ => ∃ (v : V) (sz : List Nat), vs = [v] ∧ TIn H v (isz sz) ∧ Sz sz ∧ ∀ H', Same H H' → Q (.bl true) H'
abbrev N_is_sizes : List Str := ["thing", "product", "size"]
theorem sc_is_sizes : FnScope N_is_sizes ["thing"] (defScope s_is_sizes) := ⟨rfl, rfl, rfl, by decide +kernel, rfl, by decide +kernel, by decide +kernel⟩
theorem cal_is_sizes (T : Txt w K mg) : C8.Cal P w K mg base 3 "is_sizes" spSizes [] := by
  have c_is_within := cal_is_within (P := P) (base := base) T
  refine mkCal T.F_is_sizes T.g_is_sizes sc_is_sizes (fun _ _ _ _ _ _ us hl => match us, hl with | [_], _ => rfl) (fun vs H Q E h => ?_) (fun cdv A outer s H vs Q E hr h => ?_)
  · obtain ⟨v, sz, rfl, ⟨a, rfl, hs⟩, hz, q⟩ := h
    rfl
  obtain ⟨v, sz, rfl, ⟨a, rfl, hs⟩, hz, q⟩ := h
  have nd := sc_is_sizes.nd
  have hu := hu_of hr
  refine ⟨_, (pss_cons (ps_if (PW.pt (pw_or (pt_not (pt_val (pe_callB (r := rIsi K) call_isi (by rfl) T.z_isinstance bt_isinstance (pa_cons (pv 0) (pa_cons (pe_bltn (v := .ty "tuple") (by rfl) T.z_tuple bt_tuple rfl) pa_nil))))) (pw_or1 (pt_not (pt_chain op_le op_le pe_int (pe_callB (r := rLen K) call_len_seq (by rfl) T.z_len bt_len (pa_cons (pv 0) pa_nil)) (C8.pe_gc (by rfl) T.v_MOST_COLUMNS))))))
    (pss_one (ps_ret pe_bl))
    pss_nil)
    (pss_cons (ps_if (pt_not (pt_val (pe_callB (r := rAll K) (cr_all rfl) (by rfl) T.z_all bt_all (pa_cons (pe_lc (wi := iTup K _) (own := [("size", 2)]) (g := gName 2) (tt := tYes) rfl nd (pi_tup (pv 0)) (blkOk_by (N := N_is_sizes) (sc := defScope s_is_sizes) (by decide +kernel)) (fun _ _ _ _ _ => (pg_name (i := 2) nd rfl (Or.inl rfl))) (fun _ _ _ _ _ => pts_nil) (fun _ _ _ _ _ => (C8.pe_c c_is_within hr (by decide) rfl (pa_cons (pv 2) (pa_cons pe_int (pa_cons (C8.pe_gc (by rfl) T.v_MOST_WORTHS) pa_nil)))))) pa_nil))))
    (pss_one (ps_ret pe_bl))
    pss_nil)
    (pss_cons (ps_set (i := 1) nd rfl (Or.inl rfl) pe_int)
    (pss_cons (ps_for PassesOwn.never rfl (pi_tup (pv 0)) (pg_name (i := 2) nd rfl (Or.inl rfl))
    (pss_one (ps_aug (i := 1) nd rfl (Or.inl rfl) (pv 2) iop_mul)))
    (pss_one (ps_ret (pe_cmpR op_le (pv 1) (C8.pe_gc (by rfl) T.v_MOST_CONTENTS) (nomark _)))))))), ?_⟩
  have hs' : SqT K H a ((isz sz).map V.int) := SqT.of hs
  have hlen : ((isz sz).map V.int).length = sz.length := by rw [List.length_map, isz_len]
  have l1 := hz.l1
  have l4 := hz.l4
  refine ⟨_, rfl, _, _, _, _, true, rfl, .ty _, ty_tup hs', kit_ty (by decide +kernel), _, rfl, iteF ?_⟩
  refine ⟨_, rfl, _, _, rfl, .inr hs', _, _, rfl, rfl, true, congrArg V.bl (decide_eq_true (by rw [hlen]; omega)), iteT ⟨_, _, rfl, rfl, ?_⟩⟩
  refine ⟨true, congrArg V.bl (decide_eq_true (by rw [hlen]; omega)), iteF ?_⟩
  refine ⟨_, rfl, a, rfl, ⟨_, hs'⟩, fun D nD => ?_⟩
  refine lcI (walk_tup (xs := (isz sz).map V.int)) nD (fun _ v b => v = V.bl b) (fun i => List.replicate i true) rfl (fun H' s => sq_same s hs') ?_ ?_
  · rintro i x H1 _ hi L ⟨rfl, hx⟩
    obtain ⟨n, hn, rfl⟩ := isz_get' hx
    have hb := hz.b n (List.mem_of_getElem? hn)
    refine ⟨rfl, yesI ?_⟩
    refine ⟨_, rfl, _, _, _, rfl, ?_⟩
    refine L.push OfT.con.kept nD (Same.refl _) (x := true) ?_ List.replicate_succ' (by rw [List.length_replicate]; rw [hlen] at hi; omega)
    have : (decide ((2 : Int) ≤ (n : Int)) && decide ((n : Int) ≤ 4)) = true := by
      simp
      omega
    rw [this]
  · intro H1 ys s1 hD hp
    have e1 := P2.bls hp
    subst e1
    refine ⟨D, _, rfl, SqL.of hD, true, congrArg V.bl (by simp), iteF ?_⟩
    refine ⟨_, rfl, a, rfl, ⟨_, sq_same s1 hs'⟩, for_tup (K := K) (a := a) (xs := (isz sz).map V.int) (fun i σ H2 => H2 = H1 ∧ ∃ z : Option V, σ = [some (.ref a), some (.int (((sz.take i).foldl (· * ·) 1 : Nat) : Int)), z]) ⟨rfl, none, rfl⟩ ?_ ?_ ?_⟩
    · rintro i σ H2 _ ⟨rfl, _⟩
      exact sq_same s1 hs'
    · rintro i x σ H2 hi ⟨rfl, z, rfl⟩
      obtain ⟨n, hn, rfl⟩ := isz_get' hi
      have hb := hz.b n (List.mem_of_getElem? hn)
      refine ⟨_, rfl, _, rfl, _, _, rfl, rfl, .inr (by omega), rfl, some (.int n), ?_⟩
      rw [take_snoc hn, List.foldl_append]
      simp
    · rintro σ H2 ⟨rfl, z, rfl⟩
      refine ⟨_, rfl, _, _, rfl, rfl, ?_⟩
      have hp := hz.p
      have e2 : decide ((((sz.take ((isz sz).map V.int).length).foldl (· * ·) 1 : Nat) : Int) ≤ 64) = true := by
        rw [hlen, List.take_length]
        exact decide_eq_true (by omega)
      have q' := q _ s1
      rw [← e2] at q'
      exact q'
def spView : Sp := fun vs H Q _ => ∃ (v u : V) (sz : List Nat) (c : List Int), vs = [v, u] ∧ TIn H v (isz sz) ∧ TIn H u c ∧ c.length = sz.length ∧ sz.length ≤ 4 ∧ (∀ (i : Nat) (x : Int) (n : Nat), c[i]? = some x → sz[i]? = some n → -1 ≤ x ∧ x < n) ∧ ∀ H', Same H H' → Q (.bl true) H'
abbrev N_is_view : List Str := ["sizes", "thing", "worth", "size"]
theorem sc_is_view : FnScope N_is_view ["sizes", "thing"] (defScope s_is_view) := ⟨rfl, rfl, rfl, by decide +kernel, rfl, by decide +kernel, by decide +kernel⟩
theorem cal_is_view (T : Txt w K mg) : C8.Cal P w K mg base 3 "is_view" spView [] := by
  have c_is_within := cal_is_within (P := P) (base := base) T
  refine mkCal T.F_is_view T.g_is_view sc_is_view (fun _ _ _ _ _ _ us hl => match us, hl with | [_, _], _ => rfl) (fun vs H Q E h => ?_) (fun cdv A outer s H vs Q E hr h => ?_)
  · obtain ⟨v, u, sz, c, rfl, ⟨a, rfl, hs⟩, ⟨b, rfl, hc⟩, hl, l4, hb, q⟩ := h
    rfl
  obtain ⟨v, u, sz, c, rfl, ⟨a, rfl, hs⟩, ⟨b, rfl, hc⟩, hl, l4, hb, q⟩ := h
  have nd := sc_is_view.nd
  have hu := hu_of hr
  refine ⟨_, (pss_cons (ps_if (PW.pt (pw_or (pt_not (pt_val (pe_callB (r := rIsi K) call_isi (by rfl) T.z_isinstance bt_isinstance (pa_cons (pv 1) (pa_cons (pe_bltn (v := .ty "tuple") (by rfl) T.z_tuple bt_tuple rfl) pa_nil))))) (pw_or1 (pt_cmpR op_ne (pe_callB (r := rLen K) call_len_seq (by rfl) T.z_len bt_len (pa_cons (pv 1) pa_nil)) (pe_callB (r := rLen K) call_len_seq (by rfl) T.z_len bt_len (pa_cons (pv 0) pa_nil)) (nomark _)))))
    (pss_one (ps_ret pe_bl))
    pss_nil)
    (pss_one (ps_ret (pe_callB (r := rAll K) (cr_all rfl) (by rfl) T.z_all bt_all (pa_cons (pe_lc (wi := RZ.iZipA K _) (own := [("worth", 2), ("size", 3)]) (g := gTup K 2 (gCons (gName 2) (gCons (gName 3) gNil))) (tt := tYes) rfl nd (RZ.pi_zipA (by rfl) T.z_zip (pa_cons (pv 1) (pa_cons (pv 0) pa_nil))) (blkOk_by (N := N_is_view) (sc := defScope s_is_view) (by decide +kernel)) (fun _ _ _ _ _ => (pg_tup rfl (pgs_cons (pg_name (i := 2) nd rfl (Or.inl rfl)) (pgs_cons (pg_name (i := 3) nd rfl (Or.inl rfl)) pgs_nil)))) (fun _ _ _ _ _ => pts_nil) (fun _ _ _ _ _ => (C8.pe_c c_is_within hr (by decide) rfl (pa_cons (pv 2) (pa_cons (C8.pe_gc (by rfl) T.v_BLANK) (pa_cons (pe_op op_sub (pv 3) pe_int) pa_nil)))))) pa_nil))))), ?_⟩
  have hs' : SqT K H a ((isz sz).map V.int) := SqT.of hs
  have hc' : SqT K H b (c.map V.int) := SqT.of hc
  have hlen : ((isz sz).map V.int).length = sz.length := by rw [List.length_map, isz_len]
  have hlen2 : (c.map V.int).length = sz.length := by rw [List.length_map, hl]
  refine ⟨_, rfl, _, _, _, _, true, rfl, .ty _, ty_tup hc', kit_ty (by decide +kernel), _, rfl, iteF ?_⟩
  refine ⟨_, rfl, _, _, rfl, .inr hc', _, rfl, _, _, rfl, .inr hs', rfl, false, congrArg V.bl ?_, iteF ?_⟩
  · rw [hlen, hlen2]
    simp
  refine ⟨_, rfl, _, rfl, b, a, _, _, rfl, .inr ⟨hc', hs', fun D nD => ?_⟩⟩
  refine lcI (walk_zipT (xs := c.map V.int) (ys := (isz sz).map V.int) rfl) nD (fun _ v b => v = V.bl b) (fun i => List.replicate i true) rfl (fun H' s => ⟨sq_same s hc', sq_same s hs'⟩) ?_ ?_
  · rintro i x H1 _ hi L ⟨T', y, z, rfl, nT, rfl, hy, hz⟩
    obtain ⟨n, hn, rfl⟩ := isz_get' hz
    obtain ⟨m, hm, rfl⟩ := map_int_get hy
    have b1 := hb i m n hm hn
    refine ⟨T', _, rfl, SqT.of upd_same, rfl, _, _, rfl, _, _, rfl, rfl, rfl, yesI ?_⟩
    refine ⟨_, rfl, _, rfl, _, _, rfl, rfl, _, _, _, rfl, ?_⟩
    refine L.push OfT.con.kept nD (sm_up nT) (x := true) ?_ List.replicate_succ' (by rw [List.length_replicate]; rw [hlen, hlen2] at hi; omega)
    have : (decide (-1 ≤ m) && decide (m ≤ (n : Int) - 1)) = true := by
      simp
      omega
    rw [this]
  · intro H1 ys s1 hD hp
    have e1 := P2.bls hp
    subst e1
    refine ⟨D, _, rfl, SqL.of hD, ?_⟩
    have : (List.replicate (min (c.map V.int).length ((isz sz).map V.int).length) true).all id = true := by simp
    rw [this]
    exact q _ s1
/-! ### all the tuples -/
theorem map_snoc {α β : Type} {f : List α → β} {l : List α} {i : Nat} {x : α} (h : l[i]? = some x) : f (l.take (i + 1)) = f (l.take i ++ [x]) := by rw [take_snoc h]
theorem RLs.at_ {H : Hp} {p : Addr} {rows : List (List Int)} (h : RLs H p rows) : ∃ vs, H p = some (.lst vs) ∧ vs.length = rows.length ∧ ∀ (i : Nat) (v : V), vs[i]? = some v → ∃ (row : List Int) (a : Addr), rows[i]? = some row ∧ v = .ref a ∧ H a = some (.lst (row.map V.int)) := by
  obtain ⟨vs, h1, h2⟩ := h
  refine ⟨vs, h1, h2.len, fun i v hv => ?_⟩
  obtain ⟨row, hr, a, e, ha⟩ := h2.at_ hv
  exact ⟨row, a, hr, e, ha⟩
theorem tup_le {rows : List (List Int)} (hl : rows.length ≤ 4) (hb : ∀ r ∈ rows, r.length ≤ 4) : (tup rows).length ≤ 256 := by
  rw [tup_len]
  have h2 := foldl_mul_pow (ls := rows.map List.length) (b := 4) (by
    intro n hn
    obtain ⟨r, hr, rfl⟩ := List.mem_map.mp hn
    exact hb r hr)
  refine Nat.le_trans h2 (Nat.le_trans (Nat.pow_le_pow_right (n := 4) (by decide) (?_ : _ ≤ 4)) (by decide))
  rw [List.length_map]
  exact hl
def spTuples : Sp := fun vs H Q _ => ∃ (p : Addr) (rows : List (List Int)), vs = [.ref p] ∧ RLs H p rows ∧ rows.length ≤ 4 ∧ (∀ r ∈ rows, r.length ≤ 4) ∧ ∀ r H', Same H H' → H r = none → TLs H' r (tup rows) → Q (.ref r) H'
/-- front + (item,), a new tuple -/
theorem catOne {σ : L2.St} {i j : Nat} {H1 : Hp} {front : V} {fr : List Int} {n : Int} {Q : VK} (hi : σ[i]? = some (some front)) (hj : σ[j]? = some (some (.int n))) (hf : TIn H1 front fr) (hl : fr.length < 1000)
    (q : ∀ r H', Same H1 H' → TIn H' r (fr ++ [n]) → Q r H') : tOp (rCatA K) (tVar i) (tTup (tCons (tVar j) tNil)) σ H1 Q := by
  obtain ⟨a, rfl, ha⟩ := hf
  refine ⟨_, hi, _, hj, by show 1 ≤ sizeLine; decide, fun t nt => ?_⟩
  have s1 := sm_up (o := .tup [V.int n]) nt
  refine ⟨a, t, _, _, rfl, rfl, SqT.of (s1 _ _ ha), SqT.of upd_same, sz (by rw [List.length_map]; show _ + 1 ≤ _; omega), fun e => ?_, ⟨(fun _ e => nomatch e), (fun _ _ p np => ?_)⟩⟩
  · have : fr = [] := by simpa using e
    subst this
    exact q _ _ s1 ⟨t, rfl, upd_same⟩
  · refine q _ _ (sm_new s1 np) ⟨p, rfl, ?_⟩
    rw [upd_same, List.map_append]
    rfl
theorem step_take {found : List (List Int)} {row : List Int} {j : Nat} {fr : List Int} (h : found[j]? = some fr) : step (found.take (j + 1)) row = step (found.take j) row ++ row.map fun item => fr ++ [item] := by
  rw [take_snoc h]
  unfold step
  rw [List.flatMap_append]
  simp
theorem step_take_le {found : List (List Int)} {row : List Int} (j : Nat) : (step (found.take j) row).length ≤ (step found row).length := by
  rw [step_len, step_len, List.length_take]
  exact Nat.mul_le_mul_right _ (by omega)
theorem mem_tup_len {rows : List (List Int)} {c : List Int} (h : c ∈ tup rows) : c.length = rows.length := prd_len (mem_tup.mp h)
abbrev N_tuples_of : List Str := ["rows", "found", "row", "longer", "front", "item"]
theorem sc_tuples_of : FnScope N_tuples_of ["rows"] (defScope s_tuples_of) := ⟨rfl, rfl, rfl, by decide +kernel, rfl, by decide +kernel, by decide +kernel⟩
theorem cal_tuples_of (T : Txt w K mg) : C8.Cal P w K mg base 1 "tuples_of" spTuples [] := by
  refine mkCal T.F_tuples_of T.g_tuples_of sc_tuples_of (fun _ _ _ _ _ _ us hl => match us, hl with | [_], _ => rfl) (fun vs H Q E h => ?_) (fun cdv A outer s H vs Q E hr h => ?_)
  · obtain ⟨p, rows, rfl, hr0, hl, hb, q⟩ := h
    rfl
  obtain ⟨p, rows, rfl, hr0, hl, hb, q⟩ := h
  have nd := sc_tuples_of.nd
  have hu := hu_of hr
  refine ⟨_, (pss_cons (ps_set (i := 1) nd rfl (Or.inl rfl) (pe_lst (pa_cons (pe_tup pa_nil) pa_nil)))
    (pss_cons (ps_for PassesOwn.never rfl (pi_list (pv 0)) (pg_name (i := 2) nd rfl (Or.inl rfl))
    (pss_cons (ps_set (i := 3) nd rfl (Or.inl rfl) (pe_lst pa_nil))
    (pss_cons (ps_for PassesOwn.never rfl (pi_list (pv 1)) (pg_name (i := 4) nd rfl (Or.inr rfl))
    (pss_one (ps_expr (pe_bm PySem.F.plainAttrs_list PySem.F.slot_list_extend PySem.F.type_list_extend mt_extend (pv 3) (pa_cons (pe_lc (wi := iList K _) (own := [("item", 5)]) (g := gName 5) (tt := tYes) rfl nd (pi_list (pv 2)) (blkOk_by (N := N_tuples_of) (sc := defScope s_tuples_of) (by decide +kernel)) (fun _ _ _ _ _ => (pg_name (i := 5) nd rfl (Or.inl rfl))) (fun _ _ _ _ _ => pts_nil) (fun _ _ _ _ _ => (pe_op (r := rCatA K) op_catA (pv 4) (pe_tup (pa_cons (pv 5) pa_nil))))) pa_nil)))))
    (pss_one (ps_set (i := 1) nd rfl (Or.inl rfl) (pv 3))))))
    (pss_one (ps_ret (pv 1))))), ?_⟩
  obtain ⟨vs, hp, hvl, hat⟩ := hr0.at_
  refine ⟨by decide, fun t0 nt0 => ⟨(by show 1 ≤ sizeLine; decide), fun f0 nf0 => ?_⟩⟩
  have s0 : Same H (upd (upd H t0 (.tup [])) f0 (.lst [.ref t0])) := sm_new (sm_up nt0) nf0
  refine ⟨_, rfl, p, rfl, ⟨_, SqL.of (s0 _ _ hp)⟩, for_list (K := K) (a := p) (xs := vs) (fun i σ H2 => Same H H2 ∧ ∃ (f : Addr) (z3 z4 z5 z6 : Option V), σ = [some (.ref p), some (.ref f), z3, z4, z5, z6] ∧ H f = none ∧ TLs H2 f (tup (rows.take i))) ?_ ?_ ?_ ?_⟩
  · refine ⟨s0, f0, none, none, none, none, rfl, (sm_up nt0).free nf0, [.ref t0], upd_same, .cons ⟨t0, rfl, ?_⟩ .nil⟩
    exact up_at upd_same nf0
  · rintro i σ H2 _ ⟨s2, _⟩
    exact SqL.of (s2 _ _ hp)
  · rintro i x σ H2 hi ⟨s2, f, z3, z4, z5, z6, rfl, nf, fs, hf, hfs⟩
    obtain ⟨row, ra, hrow, rfl, hra⟩ := hat i x hi
    have hrl := hb row (List.mem_of_getElem? hrow)
    have hil : i < rows.length := by
      have := (List.getElem?_eq_some_iff.mp hrow).1
      exact this
    have hfl := tup_le (rows := rows.take (i + 1)) (Nat.le_trans (by rw [List.length_take]; omega) hl) fun r hr => hb r (List.mem_of_mem_take hr)
    have hst : tup (rows.take (i + 1)) = step (tup (rows.take i)) row := by rw [take_snoc hrow, tup_snoc]
    rw [hst] at hfl
    refine ⟨by decide, fun L nL => ?_⟩
    have sL : Same H2 (upd H2 L (.lst [])) := sm_up nL
    refine ⟨_, rfl, f, rfl, ⟨_, SqL.of (sL _ _ hf)⟩, for_list (K := K) (a := f) (xs := fs) (fun j σ H3 => Same H2 H3 ∧ ∃ (z4 z5 : Option V), σ = [some (.ref p), some (.ref f), some (.ref ra), some (.ref L), z4, z5] ∧ TLs H3 L (step ((tup (rows.take i)).take j) row)) ?_ ?_ ?_ ?_⟩
    · exact ⟨sL, _, _, rfl, [], upd_same, .nil⟩
    · rintro j σ H3 _ ⟨s3, _⟩
      exact SqL.of (s3 _ _ hf)
    · rintro j x σ H3 hj ⟨s3, z4, z5, rfl, acc, hL, hacc⟩
      obtain ⟨fr, hfr, htx⟩ := hfs.at_ hj
      have s23 := s2.trans s3
      have hra3 := s23 _ _ hra
      have htx3 := htx.tk (sm_tk s3)
      have hfrl : fr.length ≤ 4 := by
        rw [mem_tup_len (List.mem_of_getElem? hfr), List.length_take]
        omega
      refine ⟨_, rfl, .inl ⟨rfl, _, SqL.of hL⟩, _, rfl, ra, rfl, ⟨_, SqL.of hra3⟩, fun D nD => ?_⟩
      refine lcI (walk_list (xs := row.map V.int)) nD TIn (fun k => (row.take k).map fun item => fr ++ [item]) rfl (fun H' s => SqL.of (s _ _ hra3)) ?_ ?_
      · rintro k y H4 _ hk Lc ⟨rfl, hy⟩
        obtain ⟨n, hn, rfl⟩ := map_int_get hy
        refine ⟨rfl, yesI ?_⟩
        refine catOne rfl rfl (htx3.tk (sm_tk Lc.sm)) (by omega) fun r H' s' hr' => ?_
        refine Lc.push OfT.tin.kept nD s' hr' (by rw [take_snoc hn, List.map_append]; rfl) ?_
        rw [List.length_map, List.length_take]
        omega
      · intro H4 ys s4 hD hys
        have hL4 := s4 _ _ hL
        have ne : D ≠ L := by
          intro e
          subst e
          rw [nD] at hL
          cases hL
        have e1 : ys.length = row.length := by rw [hys.len, List.length_map, List.length_map, List.length_take]; omega
        have e2 := step_take (row := row) hfr
        have e3 := step_take_le (found := tup (rows.take i)) (row := row) (j + 1)
        refine ⟨L, D, acc, ys, rfl, rfl, hL4, hD, ?_, ?_⟩
        · refine sz ?_
          rw [hacc.len, hys.len]
          rw [e2, List.length_append, List.length_map] at e3
          rw [List.length_map, List.length_map, List.length_take]
          omega
        · have nL2 : H2 L = none := nL
          refine ⟨sm_mut (s3.trans s4) nL2, _, _, rfl, acc ++ ys, upd_same, ?_⟩
          have tk4 : Tk H4 (upd H4 L (.lst (acc ++ ys))) := tk_lst (fun _ _ h => h) hL4
          rw [e2]
          refine ((hacc.imp fun v x q => (q.tk (sm_tk s4)).tk tk4)).app ?_
          rw [List.length_map, List.take_length] at hys
          exact hys.imp fun v x q => q.tk tk4
    · rintro σ H3 ⟨s3, z4, z5, rfl, h⟩
      rw [hfs.len, List.take_length, ← hst] at h
      exact ⟨_, rfl, s2.trans s3, L, _, _, _, _, rfl, s2.free nL, h⟩
  · rintro σ H2 ⟨s2, f, z3, z4, z5, z6, rfl, nf, h⟩
    refine ⟨_, rfl, q f H2 s2 nf ?_⟩
    rw [hvl, List.take_length] at h
    exact h

end
end Cb
namespace Cb
open PySem PySem.Spec PyProof.Rows L2
section
variable {P : Program} {w : World} {K : PySem.W.Frag} {mg : Str → Option Value} {base : Heap}
/-! ### contents, views, patterns -/
theorem rgV_rng (n : Nat) : rgV 0 (n : Int) = (rng n).map V.int := by
  unfold rgV rng
  rw [List.map_map]
  have e : ((n : Int) - 0).toNat = n := by omega
  rw [e]
  exact List.map_congr_left fun i _ => by
    show V.int (0 + (i : Int)) = V.int (i : Int)
    rw [Int.zero_add]
/-- a row: a list of ints other than D -/
def RowAt (D : Addr) (H : Hp) (v : V) (row : List Int) : Prop := ∃ a, v = .ref a ∧ a ≠ D ∧ H a = some (.lst (row.map V.int))
theorem RowAt.kept {D : Addr} : Kept D (RowAt D) := fun _ _ _ _ _ _ b r => by
  obtain ⟨a, e, n, h⟩ := r
  exact ⟨a, e, n, b _ _ n h⟩
theorem rls_of {D : Addr} {H : Hp} {vs : List V} {rows : List (List Int)} (h : H D = some (.lst vs)) (p : P2 (RowAt D H) vs rows) : RLs H D rows := ⟨vs, h, p.imp fun v row ⟨a, e, _, r⟩ => ⟨a, e, r⟩⟩
structure Sz4 (sz : List Nat) : Prop where
  l4 : sz.length ≤ 4
  b : ∀ n ∈ sz, n ≤ 4
theorem Sz.s4 {sz : List Nat} (h : Sz sz) : Sz4 sz := ⟨h.l4, fun n hn => (h.b n hn).2⟩
def spContents : Sp := fun vs H Q _ => ∃ (v : V) (sz : List Nat), vs = [v] ∧ TIn H v (isz sz) ∧ Sz4 sz ∧ ∀ r H', Same H H' → H r = none → TLs H' r (contents sz) → Q (.ref r) H'
abbrev N_contents_of : List Str := ["sizes", "size"]
theorem sc_contents_of : FnScope N_contents_of ["sizes"] (defScope s_contents_of) := ⟨rfl, rfl, rfl, by decide +kernel, rfl, by decide +kernel, by decide +kernel⟩
theorem cal_contents_of (T : Txt w K mg) : C8.Cal P w K mg base 2 "contents_of" spContents [] := by
  have c_tuples_of := cal_tuples_of (P := P) (base := base) T
  refine mkCal T.F_contents_of T.g_contents_of sc_contents_of (fun _ _ _ _ _ _ us hl => match us, hl with | [_], _ => rfl) (fun vs H Q E h => ?_) (fun cdv A outer s H vs Q E hr h => ?_)
  · obtain ⟨v, sz, rfl, ⟨a, rfl, hs⟩, hz, q⟩ := h
    rfl
  obtain ⟨v, sz, rfl, ⟨a, rfl, hs⟩, hz, q⟩ := h
  have nd := sc_contents_of.nd
  have hu := hu_of hr
  refine ⟨_, (pss_one (ps_ret (C8.pe_c c_tuples_of hr (by decide) rfl (pa_cons (pe_lc (wi := iTup K _) (own := [("size", 1)]) (g := gName 1) (tt := tYes) rfl nd (pi_tup (pv 0)) (blkOk_by (N := N_contents_of) (sc := defScope s_contents_of) (by decide +kernel)) (fun _ _ _ _ _ => (pg_name (i := 1) nd rfl (Or.inl rfl))) (fun _ _ _ _ _ => pts_nil) (fun _ _ _ _ _ => (pe_listRg rfl (by rfl) T.z_list (prg_1 (by rfl) T.z_range (pv 1))))) pa_nil)))), ?_⟩
  have hs' : SqT K H a ((isz sz).map V.int) := SqT.of hs
  have hlen : ((isz sz).map V.int).length = sz.length := by rw [List.length_map, isz_len]
  refine ⟨_, rfl, a, rfl, ⟨_, hs'⟩, fun D nD => ?_⟩
  refine lcI (walk_tup (xs := (isz sz).map V.int)) nD (RowAt D) (fun i => (sz.map rng).take i) rfl (fun H' s => sq_same s hs') ?_ ?_
  · rintro i x H1 _ hi L ⟨rfl, hx⟩
    obtain ⟨n, hn, rfl⟩ := isz_get' hx
    have hb := hz.b n (List.mem_of_getElem? hn)
    refine ⟨rfl, yesI ?_⟩
    refine ⟨_, rfl, _, rfl, RgOk.of_le (by decide) (by omega) (by decide) (by omega), fun p np => ?_⟩
    refine L.push RowAt.kept nD (sm_up np) (x := rng n) ⟨p, rfl, ?_, ?_⟩ (map_take hn) (by rw [List.length_take, List.length_map]; have := hz.l4; omega)
    · intro e
      subst e
      obtain ⟨_, acc, hD, _⟩ := L
      rw [np] at hD
      cases hD
    · rw [upd_same, rgV_rng]
  · intro H1 ys s1 hD hp
    rw [hlen, List.take_of_length_le (by rw [List.length_map]; exact Nat.le_refl _)] at hp
    refine ⟨D, _, rfl, rls_of hD hp, by rw [List.length_map]; exact hz.l4, fun r hr => ?_, fun r H' s' hr t => q r H' (s1.trans s') (s1.free hr) t⟩
    obtain ⟨n, hn, rfl⟩ := List.mem_map.mp hr
    rw [rng_len]
    exact hz.b n hn
theorem inV_ints (x : Int) (ns : List Int) : inV (.int x) (ns.map V.int) = decide (x ∈ ns) := by
  unfold inV
  rw [List.any_map]
  induction ns with
  | nil => rfl
  | cons n r ih =>
    rw [List.any_cons, ih]
    show ((n == x) || _) = _
    by_cases h : n = x
    · subst h; simp
    · have h' : ¬ x = n := fun e => h e.symm
      simp [h, h']
theorem flat_ints (ns : List Int) : (ns.map V.int).all flatV = true := by
  rw [List.all_map]
  induction ns with
  | nil => rfl
  | cons n r ih => rw [List.all_cons, ih]; rfl
def spViews : Sp := fun vs H Q _ => ∃ (v u : V) (sz : List Nat) (pat : List Int), vs = [v, u] ∧ TIn H v (isz sz) ∧ TIn H u pat ∧ Sz4 sz ∧ ∀ r H', Same H H' → H r = none → TLs H' r (views sz pat) → Q (.ref r) H'
theorem vrows_take {sz : List Nat} {pat : List Int} {i n : Nat} (h : sz[i]? = some n) : (vrows sz pat).take (i + 1) = (vrows sz pat).take i ++ [if (i : Int) ∈ pat then rng n else [-1]] := take_snoc (vrows_get h)
abbrev N_views_of : List Str := ["sizes", "pattern", "column", "size"]
theorem sc_views_of : FnScope N_views_of ["sizes", "pattern"] (defScope s_views_of) := ⟨rfl, rfl, rfl, by decide +kernel, rfl, by decide +kernel, by decide +kernel⟩
theorem cal_views_of (T : Txt w K mg) : C8.Cal P w K mg base 2 "views_of" spViews [] := by
  have c_tuples_of := cal_tuples_of (P := P) (base := base) T
  refine mkCal T.F_views_of T.g_views_of sc_views_of (fun _ _ _ _ _ _ us hl => match us, hl with | [_, _], _ => rfl) (fun vs H Q E h => ?_) (fun cdv A outer s H vs Q E hr h => ?_)
  · obtain ⟨v, u, sz, pat, rfl, ⟨a, rfl, hs⟩, ⟨b, rfl, hpt⟩, hz, q⟩ := h
    rfl
  obtain ⟨v, u, sz, pat, rfl, ⟨a, rfl, hs⟩, ⟨b, rfl, hpt⟩, hz, q⟩ := h
  have nd := sc_views_of.nd
  have hu := hu_of hr
  refine ⟨_, (pss_one (ps_ret (C8.pe_c c_tuples_of hr (by decide) rfl (pa_cons (pe_lc (wi := iEnumT K _) (own := [("column", 2), ("size", 3)]) (g := gTup K 2 (gCons (gName 2) (gCons (gName 3) gNil))) (tt := tYes) rfl nd (pi_enumT (by rfl) T.z_enumerate (pa_cons (pv 0) pa_nil)) (blkOk_by (N := N_views_of) (sc := defScope s_views_of) (by decide +kernel)) (fun _ _ _ _ _ => (pg_tup rfl (pgs_cons (pg_name (i := 2) nd rfl (Or.inl rfl)) (pgs_cons (pg_name (i := 3) nd rfl (Or.inl rfl)) pgs_nil)))) (fun _ _ _ _ _ => pts_nil) (fun _ _ _ _ _ => (pe_ifExp (pt_cmpR (r := rIn K false) op_in_seq (pv 2) (pv 1) (by rfl)) (pe_listRg rfl (by rfl) T.z_list (prg_1 (by rfl) T.z_range (pv 3))) (pe_lst (pa_cons (C8.pe_gc (by rfl) T.v_BLANK) pa_nil))))) pa_nil)))), ?_⟩
  have hs' : SqT K H a ((isz sz).map V.int) := SqT.of hs
  have hp' : SqT K H b (pat.map V.int) := SqT.of hpt
  have hlen : ((isz sz).map V.int).length = sz.length := by rw [List.length_map, isz_len]
  refine ⟨_, rfl, a, _, rfl, hs', fun D nD => ?_⟩
  refine lcI (walk_enumT (xs := (isz sz).map V.int)) nD (RowAt D) (fun i => (vrows sz pat).take i) rfl (fun H' s => sq_same s hs') ?_ ?_
  · rintro i x H1 _ hi L ⟨T', y, z, rfl, nT, rfl, hy, hz1⟩
    cases hy
    obtain ⟨n, hn, rfl⟩ := isz_get' hz1
    have hb := hz.b n (List.mem_of_getElem? hn)
    have s1 : Same H (upd H1 T' (.tup [.int (i : Nat), .int (n : Nat)])) := sm_new L.sm nT
    have lle : ((vrows sz pat).take i).length < 100000 := by rw [List.length_take, vrows_len]; have := hz.l4; omega
    have neD : ∀ p, upd H1 T' (.tup [.int (i : Nat), .int (n : Nat)]) p = none → p ≠ D := fun p np e => by
      subst e
      obtain ⟨_, acc, hD, _⟩ := L
      rw [up_at hD nT] at np
      cases np
    refine ⟨T', _, rfl, SqT.of upd_same, rfl, _, _, rfl, _, _, rfl, rfl, rfl, yesI ?_⟩
    refine ⟨_, rfl, _, rfl, b, _, rfl, .inr (sq_same s1 hp'), rfl, flat_ints pat, _, rfl, ite2 (fun c => ?_) (fun c => ?_)⟩
    · have c' : (i : Int) ∈ pat := by
        have c2 : inV (.int (i : Nat)) (pat.map V.int) = true := c
        rw [inV_ints] at c2
        exact of_decide_eq_true c2
      refine ⟨_, rfl, _, rfl, RgOk.of_le (by decide) (by omega) (by decide) (by omega), fun p np => ?_⟩
      refine L.push RowAt.kept nD (sm_new (sm_up nT) np) (x := rng n) ⟨p, rfl, neD p np, ?_⟩ ?_ lle
      · rw [upd_same, rgV_rng]
      · have e := vrows_take (pat := pat) hn
        rw [if_pos c'] at e
        exact e
    · have c' : ¬ (i : Int) ∈ pat := by
        have c2 : ¬ inV (.int (i : Nat)) (pat.map V.int) = true := c
        rw [inV_ints] at c2
        exact fun z => c2 (decide_eq_true z)
      refine ⟨by show 1 ≤ sizeLine; decide, fun p np => ?_⟩
      refine L.push RowAt.kept nD (sm_new (sm_up nT) np) (x := [-1]) ⟨p, rfl, neD p np, ?_⟩ ?_ lle
      · rw [upd_same]
        rfl
      · have e := vrows_take (pat := pat) hn
        rw [if_neg c'] at e
        exact e
  · intro H1 ys s1 hD hp
    rw [hlen, List.take_of_length_le (by rw [vrows_len]; exact Nat.le_refl _)] at hp
    refine ⟨D, _, rfl, rls_of hD hp, by rw [vrows_len]; exact hz.l4, fun r hr => ?_, fun r H' s' hr t => q r H' (s1.trans s') (s1.free hr) t⟩
    obtain ⟨⟨n, i⟩, hn, rfl⟩ := List.mem_map.mp hr
    have hn' := hz.b n (List.mem_of_getElem? (List.mem_zipIdx_iff_getElem?.mp hn))
    dsimp
    split
    · rw [rng_len]
      exact hn'
    · simp
def spViewOf : Sp := fun vs H Q _ => ∃ (v u : V) (c pat : List Int), vs = [v, u] ∧ TIn H v c ∧ TIn H u pat ∧ c.length ≤ 1000 ∧ ∀ r H', Same H H' → TIn H' r (viewOf c pat) → Q r H'
theorem viewOf_take {c pat : List Int} {i : Nat} {x : Int} (h : c[i]? = some x) : (viewOf c pat).take (i + 1) = (viewOf c pat).take i ++ [if (i : Int) ∈ pat then x else -1] := take_snoc (viewOf_get h)
abbrev N_view_of : List Str := ["content", "pattern", "column", "worth"]
theorem sc_view_of : FnScope N_view_of ["content", "pattern"] (defScope s_view_of) := ⟨rfl, rfl, rfl, by decide +kernel, rfl, by decide +kernel, by decide +kernel⟩
theorem cal_view_of (T : Txt w K mg) : C8.Cal P w K mg base 1 "view_of" spViewOf [] := by
  refine mkCal T.F_view_of T.g_view_of sc_view_of (fun _ _ _ _ _ _ us hl => match us, hl with | [_, _], _ => rfl) (fun vs H Q E h => ?_) (fun cdv A outer s H vs Q E hr h => ?_)
  · obtain ⟨v, u, c, pat, rfl, ⟨a, rfl, hs⟩, ⟨b, rfl, hpt⟩, hl, q⟩ := h
    rfl
  obtain ⟨v, u, c, pat, rfl, ⟨a, rfl, hs⟩, ⟨b, rfl, hpt⟩, hl, q⟩ := h
  have nd := sc_view_of.nd
  have hu := hu_of hr
  refine ⟨_, (pss_one (ps_ret (pe_callTy (r := rTupOf K) call_tuple_of (by rfl) T.z_tuple bt_tuple (pa_cons (pe_lc (wi := iEnumT K _) (own := [("column", 2), ("worth", 3)]) (g := gTup K 2 (gCons (gName 2) (gCons (gName 3) gNil))) (tt := tYes) rfl nd (pi_enumT (by rfl) T.z_enumerate (pa_cons (pv 0) pa_nil)) (blkOk_by (N := N_view_of) (sc := defScope s_view_of) (by decide +kernel)) (fun _ _ _ _ _ => (pg_tup rfl (pgs_cons (pg_name (i := 2) nd rfl (Or.inl rfl)) (pgs_cons (pg_name (i := 3) nd rfl (Or.inl rfl)) pgs_nil)))) (fun _ _ _ _ _ => pts_nil) (fun _ _ _ _ _ => (pe_ifExp (pt_cmpR (r := rIn K false) op_in_seq (pv 2) (pv 1) (by rfl)) (pv 3) (C8.pe_gc (by rfl) T.v_BLANK)))) pa_nil)))), ?_⟩
  have hs' : SqT K H a (c.map V.int) := SqT.of hs
  have hp' : SqT K H b (pat.map V.int) := SqT.of hpt
  refine ⟨_, rfl, a, _, rfl, hs', fun D nD => ?_⟩
  refine lcI (walk_enumT (xs := c.map V.int)) nD (fun _ v n => v = V.int n) (fun i => (viewOf c pat).take i) rfl (fun H' s => sq_same s hs') ?_ ?_
  · rintro i x H1 _ hi L ⟨T', y, z, rfl, nT, rfl, hy, hz1⟩
    cases hy
    obtain ⟨n, hn, rfl⟩ := map_int_get hz1
    have s1 : Same H (upd H1 T' (.tup [.int (i : Nat), .int n])) := sm_new L.sm nT
    have lle : ((viewOf c pat).take i).length < 100000 := by rw [List.length_take, viewOf_len]; omega
    refine ⟨T', _, rfl, SqT.of upd_same, rfl, _, _, rfl, _, _, rfl, rfl, rfl, yesI ?_⟩
    refine ⟨_, rfl, _, rfl, b, _, rfl, .inr (sq_same s1 hp'), rfl, flat_ints pat, _, rfl, ite2 (fun c => ?_) (fun c => ?_)⟩
    · have c' : (i : Int) ∈ pat := by
        have c2 : inV (.int (i : Nat)) (pat.map V.int) = true := c
        rw [inV_ints] at c2
        exact of_decide_eq_true c2
      refine ⟨_, rfl, L.push OfT.con.kept nD (sm_up nT) (x := n) rfl ?_ lle⟩
      have e := viewOf_take (pat := pat) hn
      rw [if_pos c'] at e
      exact e
    · have c' : ¬ (i : Int) ∈ pat := by
        have c2 : ¬ inV (.int (i : Nat)) (pat.map V.int) = true := c
        rw [inV_ints] at c2
        exact fun z => c2 (decide_eq_true z)
      refine L.push OfT.con.kept nD (sm_up nT) (x := -1) rfl ?_ lle
      have e := viewOf_take (pat := pat) hn
      rw [if_neg c'] at e
      exact e
  · intro H1 ys s1 hD hp
    rw [List.length_map, List.take_of_length_le (by rw [viewOf_len]; exact Nat.le_refl _)] at hp
    refine ⟨D, _, rfl, .inl ⟨SqL.of hD, fun l nl => q _ _ (sm_new s1 nl) ⟨l, rfl, ?_⟩⟩⟩
    rw [upd_same, hp.is]
def spPatOf : Sp := fun vs H Q _ => ∃ (v : V) (c : List Int), vs = [v] ∧ TIn H v c ∧ c.length ≤ 1000 ∧ ∀ r H', Same H H' → TIn H' r (patOf c) → Q r H'
theorem patOf_take {c : List Int} {i : Nat} {x : Int} (h : c[i]? = some x) : patOf (c.take (i + 1)) = patOf (c.take i) ++ if x ≠ -1 then [(i : Int)] else [] := by
  rw [take_snoc h]
  unfold patOf
  have hl : (c.take i).length = i := by
    rw [List.length_take]
    have := (List.getElem?_eq_some_iff.mp h).1
    omega
  rw [List.zipIdx_append, List.filterMap_append, hl]
  congr 1
  by_cases q : x = -1
  · simp [q]
  · simp [q]
theorem patOf_le {c : List Int} : (patOf c).length ≤ c.length := by
  unfold patOf
  refine Nat.le_trans (List.length_filterMap_le ..) ?_
  rw [List.length_zipIdx]
  exact Nat.le_refl _
abbrev N_pattern_of : List Str := ["view", "column", "worth"]
theorem sc_pattern_of : FnScope N_pattern_of ["view"] (defScope s_pattern_of) := ⟨rfl, rfl, rfl, by decide +kernel, rfl, by decide +kernel, by decide +kernel⟩
theorem cal_pattern_of (T : Txt w K mg) : C8.Cal P w K mg base 1 "pattern_of" spPatOf [] := by
  refine mkCal T.F_pattern_of T.g_pattern_of sc_pattern_of (fun _ _ _ _ _ _ us hl => match us, hl with | [_], _ => rfl) (fun vs H Q E h => ?_) (fun cdv A outer s H vs Q E hr h => ?_)
  · obtain ⟨v, c, rfl, ⟨a, rfl, hs⟩, hl, q⟩ := h
    rfl
  obtain ⟨v, c, rfl, ⟨a, rfl, hs⟩, hl, q⟩ := h
  have nd := sc_pattern_of.nd
  have hu := hu_of hr
  refine ⟨_, (pss_one (ps_ret (pe_callTy (r := rTupOf K) call_tuple_of (by rfl) T.z_tuple bt_tuple (pa_cons (pe_lc (wi := iEnumT K _) (own := [("column", 1), ("worth", 2)]) (g := gTup K 2 (gCons (gName 1) (gCons (gName 2) gNil))) rfl nd (pi_enumT (by rfl) T.z_enumerate (pa_cons (pv 0) pa_nil)) (blkOk_by (N := N_pattern_of) (sc := defScope s_pattern_of) (by decide +kernel)) (fun _ _ _ _ _ => (pg_tup rfl (pgs_cons (pg_name (i := 1) nd rfl (Or.inl rfl)) (pgs_cons (pg_name (i := 2) nd rfl (Or.inl rfl)) pgs_nil)))) (fun _ _ _ _ _ => (pts_one (pt_cmpR op_ne (pv 2) (C8.pe_gc (by rfl) T.v_BLANK) (nomark _)))) (fun _ _ _ _ _ => (pv 1))) pa_nil)))), ?_⟩
  have hs' : SqT K H a (c.map V.int) := SqT.of hs
  refine ⟨_, rfl, a, _, rfl, hs', fun D nD => ?_⟩
  refine lcI (walk_enumT (xs := c.map V.int)) nD (fun _ v n => v = V.int n) (fun i => patOf (c.take i)) rfl (fun H' s => sq_same s hs') ?_ ?_
  · rintro i x H1 _ hi L ⟨T', y, z, rfl, nT, rfl, hy, hz1⟩
    cases hy
    obtain ⟨n, hn, rfl⟩ := map_int_get hz1
    have e := patOf_take hn
    refine ⟨T', _, rfl, SqT.of upd_same, rfl, _, _, rfl, _, _, rfl, rfl, rfl, ?_⟩
    refine ⟨_, rfl, rfl, _, rfl, ite2 (fun c => ?_) (fun c => ?_)⟩
    · have c' : n ≠ -1 := by
        intro z
        subst z
        cases c
      rw [if_pos c'] at e
      refine ⟨_, rfl, L.push OfT.con.kept nD (sm_up nT) (x := (i : Int)) rfl e ?_⟩
      have := patOf_le (c := ‹List Int›.take i)
      rw [List.length_take] at this
      omega
    · have c' : n = -1 := by
        by_cases z : n = -1
        · exact z
        · refine absurd ?_ c
          simp [z]
      rw [if_neg (fun z => z c'), List.append_nil] at e
      exact L.skip OfT.con.kept (sm_up nT) e
  · intro H1 ys s1 hD hp
    rw [List.length_map, List.take_of_length_le (Nat.le_refl _)] at hp
    refine ⟨D, _, rfl, .inl ⟨SqL.of hD, fun l nl => q _ _ (sm_new s1 nl) ⟨l, rfl, ?_⟩⟩⟩
    rw [upd_same, hp.is]

end
end Cb
namespace Cb
open PySem PySem.Spec PyProof.Rows L2
section
variable {P : Program} {w : World} {K : PySem.W.Frag} {mg : Str → Option Value} {base : Heap}
/-! ### the law's own contents, views, patterns -/
theorem itr_row (sz : Nat) : (Int.toNat (sz : Int)) = sz := by omega
def spLContents : Sp := spContents
abbrev N_L_contents : List Str := ["_law_sizes", "_law_found", "_law_size", "_law_longer", "_law_front", "_law_worth"]
theorem sc_L_contents : FnScope N_L_contents ["_law_sizes"] (defScope s_L_contents) := ⟨rfl, rfl, rfl, by decide +kernel, rfl, by decide +kernel, by decide +kernel⟩
theorem cal_L_contents (T : Txt w K mg) : C8.Cal P w K mg base 1 "_law_contents" spContents [] := by
  refine mkCal T.F_L_contents T.g__law_contents sc_L_contents (fun _ _ _ _ _ _ us hl => match us, hl with | [_], _ => rfl) (fun vs H Q E h => ?_) (fun cdv A outer s H vs Q E hr h => ?_)
  · obtain ⟨v, sz, rfl, ⟨a, rfl, hs⟩, hz, q⟩ := h
    rfl
  obtain ⟨v, sz, rfl, ⟨a, rfl, hs⟩, hz, q⟩ := h
  have nd := sc_L_contents.nd
  have hu := hu_of hr
  refine ⟨_, (pss_cons (ps_set (i := 1) nd rfl (Or.inl rfl) (pe_lst (pa_cons (pe_tup pa_nil) pa_nil)))
    (pss_cons (ps_for PassesOwn.never rfl (pi_tup (pv 0)) (pg_name (i := 2) nd rfl (Or.inl rfl))
    (pss_cons (ps_set (i := 3) nd rfl (Or.inl rfl) (pe_lst pa_nil))
    (pss_cons (ps_for PassesOwn.never rfl (pi_list (pv 1)) (pg_name (i := 4) nd rfl (Or.inr rfl))
    (pss_one (ps_expr (pe_bm PySem.F.plainAttrs_list PySem.F.slot_list_extend PySem.F.type_list_extend mt_extend (pv 3) (pa_cons (pe_lc (own := [("_law_worth", 5)]) (g := gName 5) (tt := tYes) rfl nd (pi_range1 (by rfl) T.z_range (pa_cons (pv 2) pa_nil)) (blkOk_by (N := N_L_contents) (sc := defScope s_L_contents) (by decide +kernel)) (fun _ _ _ _ _ => (pg_name (i := 5) nd rfl (Or.inl rfl))) (fun _ _ _ _ _ => pts_nil) (fun _ _ _ _ _ => (pe_op (r := rCatA K) op_catA (pv 4) (pe_tup (pa_cons (pv 5) pa_nil))))) pa_nil)))))
    (pss_one (ps_set (i := 1) nd rfl (Or.inl rfl) (pv 3))))))
    (pss_one (ps_ret (pv 1))))), ?_⟩
  have hs' : SqT K H a ((isz sz).map V.int) := SqT.of hs
  have hlen : ((isz sz).map V.int).length = sz.length := by rw [List.length_map, isz_len]
  have hb : ∀ r ∈ sz.map rng, r.length ≤ 4 := fun r hr => by
    obtain ⟨n, hn, rfl⟩ := List.mem_map.mp hr
    rw [rng_len]
    exact hz.b n hn
  have hl : (sz.map rng).length ≤ 4 := by rw [List.length_map]; exact hz.l4
  refine ⟨by decide, fun t0 nt0 => ⟨(by show 1 ≤ sizeLine; decide), fun f0 nf0 => ?_⟩⟩
  have s0 : Same H (upd (upd H t0 (.tup [])) f0 (.lst [.ref t0])) := sm_new (sm_up nt0) nf0
  refine ⟨_, rfl, a, rfl, ⟨_, sq_same s0 hs'⟩, for_tup (K := K) (a := a) (xs := (isz sz).map V.int) (fun i σ H2 => Same H H2 ∧ ∃ (f : Addr) (z3 z4 z5 z6 : Option V), σ = [some (.ref a), some (.ref f), z3, z4, z5, z6] ∧ H f = none ∧ TLs H2 f (tup ((sz.map rng).take i))) ?_ ?_ ?_ ?_⟩
  · refine ⟨s0, f0, none, none, none, none, rfl, (sm_up nt0).free nf0, [.ref t0], upd_same, .cons ⟨t0, rfl, ?_⟩ .nil⟩
    exact up_at upd_same nf0
  · rintro i σ H2 _ ⟨s2, _⟩
    exact sq_same s2 hs'
  · rintro i x σ H2 hi ⟨s2, f, z3, z4, z5, z6, rfl, nf, fs, hf, hfs⟩
    obtain ⟨n, hn, rfl⟩ := isz_get' hi
    have hrow : (sz.map rng)[i]? = some (rng n) := by rw [List.getElem?_map, hn]; rfl
    have hrl := hb (rng n) (List.mem_of_getElem? hrow)
    have hn4 := hz.b n (List.mem_of_getElem? hn)
    have hil : i < (sz.map rng).length := (List.getElem?_eq_some_iff.mp hrow).1
    have hfl := tup_le (rows := (sz.map rng).take (i + 1)) (Nat.le_trans (by rw [List.length_take]; omega) hl) fun r hr => hb r (List.mem_of_mem_take hr)
    have hst : tup ((sz.map rng).take (i + 1)) = step (tup ((sz.map rng).take i)) (rng n) := by rw [take_snoc hrow, tup_snoc]
    rw [hst] at hfl
    refine ⟨by decide, fun L nL => ?_⟩
    have sL : Same H2 (upd H2 L (.lst [])) := sm_up nL
    refine ⟨_, rfl, f, rfl, ⟨_, SqL.of (sL _ _ hf)⟩, for_list (K := K) (a := f) (xs := fs) (fun j σ H3 => Same H2 H3 ∧ ∃ (z4 z5 : Option V), σ = [some (.ref a), some (.ref f), some (.int (n : Int)), some (.ref L), z4, z5] ∧ TLs H3 L (step ((tup ((sz.map rng).take i)).take j) (rng n))) ?_ ?_ ?_ ?_⟩
    · exact ⟨sL, _, _, rfl, [], upd_same, .nil⟩
    · rintro j σ H3 _ ⟨s3, _⟩
      exact SqL.of (s3 _ _ hf)
    · rintro j x σ H3 hj ⟨s3, z4, z5, rfl, acc, hL, hacc⟩
      obtain ⟨fr, hfr, htx⟩ := hfs.at_ hj
      have s23 := s2.trans s3
      have htx3 := htx.tk (sm_tk s3)
      have hfrl : fr.length ≤ 4 := by
        rw [mem_tup_len (List.mem_of_getElem? hfr), List.length_take]
        omega
      refine ⟨_, rfl, .inl ⟨rfl, _, SqL.of hL⟩, _, rfl, _, rfl, by omega, by omega, fun D nD => ?_⟩
      refine lcI (walk_range (lo := 0) (n := Int.toNat (n : Int))) nD TIn (fun k => ((rng n).take k).map fun item => fr ++ [item]) rfl (fun H' s => trivial) ?_ ?_
      · rintro k y H4 _ hk Lc ⟨rfl, rfl⟩
        have hk' : k < n := by omega
        have hn' : (rng n)[k]? = some (0 + (k : Int)) := by rw [Int.zero_add]; exact rng_get hk'
        refine ⟨rfl, yesI ?_⟩
        refine catOne rfl rfl (htx3.tk (sm_tk Lc.sm)) (by omega) fun r H' s' hr' => ?_
        refine Lc.push OfT.tin.kept nD s' hr' (by rw [take_snoc hn', List.map_append]; rfl) ?_
        rw [List.length_map, List.length_take]
        omega
      · intro H4 ys s4 hD hys
        have hL4 := s4 _ _ hL
        have ne : D ≠ L := by
          intro e
          subst e
          rw [nD] at hL
          cases hL
        rw [itr_row, List.take_of_length_le (by rw [rng_len]; exact Nat.le_refl _)] at hys
        have e2 := step_take (row := rng n) hfr
        have e3 := step_take_le (found := tup ((sz.map rng).take i)) (row := rng n) (j + 1)
        refine ⟨L, D, acc, ys, rfl, rfl, hL4, hD, ?_, ?_⟩
        · refine Cb.sz ?_
          rw [hacc.len, hys.len]
          rw [e2, List.length_append] at e3
          omega
        · refine ⟨sm_mut (s3.trans s4) nL, _, _, rfl, acc ++ ys, upd_same, ?_⟩
          have tk4 : Tk H4 (upd H4 L (.lst (acc ++ ys))) := tk_lst (fun _ _ h => h) hL4
          rw [e2]
          exact ((hacc.imp fun v x q => (q.tk (sm_tk s4)).tk tk4)).app (hys.imp fun v x q => q.tk tk4)
    · rintro σ H3 ⟨s3, z4, z5, rfl, h⟩
      rw [hfs.len, List.take_length, ← hst] at h
      exact ⟨_, rfl, s2.trans s3, L, _, _, _, _, rfl, s2.free nL, h⟩
  · rintro σ H2 ⟨s2, f, z3, z4, z5, z6, rfl, nf, h⟩
    refine ⟨_, rfl, q f H2 s2 nf ?_⟩
    rw [hlen, List.take_of_length_le (by rw [List.length_map]; exact Nat.le_refl _)] at h
    exact h
abbrev N_L_view : List Str := ["_law_content", "_law_pattern", "_law_column"]
theorem sc_L_view : FnScope N_L_view ["_law_content", "_law_pattern"] (defScope s_L_view) := ⟨rfl, rfl, rfl, by decide +kernel, rfl, by decide +kernel, by decide +kernel⟩
theorem cal_L_view (T : Txt w K mg) : C8.Cal P w K mg base 1 "_law_view" spViewOf [] := by
  refine mkCal T.F_L_view T.g__law_view sc_L_view (fun _ _ _ _ _ _ us hl => match us, hl with | [_, _], _ => rfl) (fun vs H Q E h => ?_) (fun cdv A outer s H vs Q E hr h => ?_)
  · obtain ⟨v, u, c, pat, rfl, ⟨a, rfl, hs⟩, ⟨b, rfl, hpt⟩, hl, q⟩ := h
    rfl
  obtain ⟨v, u, c, pat, rfl, ⟨a, rfl, hs⟩, ⟨b, rfl, hpt⟩, hl, q⟩ := h
  have nd := sc_L_view.nd
  have hu := hu_of hr
  refine ⟨_, (pss_one (ps_ret (pe_callTy (r := rTupOf K) call_tuple_of (by rfl) T.z_tuple bt_tuple (pa_cons (pe_lc (own := [("_law_column", 2)]) (g := gName 2) (tt := tYes) rfl nd (pi_range1 (by rfl) T.z_range (pa_cons (pe_callB (r := rLen K) call_len_seq (by rfl) T.z_len bt_len (pa_cons (pv 0) pa_nil)) pa_nil)) (blkOk_by (N := N_L_view) (sc := defScope s_L_view) (by decide +kernel)) (fun _ _ _ _ _ => (pg_name (i := 2) nd rfl (Or.inl rfl))) (fun _ _ _ _ _ => pts_nil) (fun _ _ _ _ _ => (pe_ifExp (pt_cmpR (r := rIn K false) op_in_seq (pv 2) (pv 1) (by rfl)) (pe_ix (r := rIxT K) ix_tup (pv 0) (pv 2) (fun _ _ => rfl)) (pe_un un_neg pe_int)))) pa_nil)))), ?_⟩
  have hs' : SqT K H a (c.map V.int) := SqT.of hs
  have hp' : SqT K H b (pat.map V.int) := SqT.of hpt
  refine ⟨_, rfl, _, _, rfl, .inr hs', _, rfl, by omega, by rw [List.length_map]; omega, fun D nD => ?_⟩
  have hcl : Int.toNat ((c.map V.int).length : Int) = c.length := by rw [List.length_map]; omega
  refine lcI (walk_range0 (n := Int.toNat ((c.map V.int).length : Int))) nD (fun _ v n => v = V.int n) (fun i => (viewOf c pat).take i) rfl (fun H' s => trivial) ?_ ?_
  · rintro i x H1 _ hi L ⟨rfl, rfl⟩
    rw [hcl] at hi
    have hn : c[i]? = some c[i] := List.getElem?_eq_getElem hi
    have lle : ((viewOf c pat).take i).length < 100000 := by rw [List.length_take, viewOf_len]; omega
    refine ⟨rfl, yesI ?_⟩
    refine ⟨_, rfl, _, rfl, b, _, rfl, .inr (sq_same L.sm hp'), rfl, flat_ints pat, _, rfl, ite2 (fun c => ?_) (fun c => ?_)⟩
    · have c' : (i : Int) ∈ pat := by
        have c2 : inV (.int (i : Nat)) (pat.map V.int) = true := c
        rw [inV_ints] at c2
        exact of_decide_eq_true c2
      refine ⟨_, rfl, _, rfl, a, _, _, _, rfl, rfl, sq_same L.sm hs', at_of rfl (by rw [List.getElem?_map, hn]; rfl), L.push OfT.con.kept nD (Same.refl _) (x := _) rfl ?_ lle⟩
      have e := viewOf_take (pat := pat) hn
      rw [if_pos c'] at e
      exact e
    · have c' : ¬ (i : Int) ∈ pat := by
        have c2 : ¬ inV (.int (i : Nat)) (pat.map V.int) = true := c
        rw [inV_ints] at c2
        exact fun z => c2 (decide_eq_true z)
      refine ⟨_, rfl, L.push OfT.con.kept nD (Same.refl _) (x := -1) rfl ?_ lle⟩
      have e := viewOf_take (pat := pat) hn
      rw [if_neg c'] at e
      exact e
  · intro H1 ys s1 hD hp
    rw [hcl, List.take_of_length_le (by rw [viewOf_len]; exact Nat.le_refl _)] at hp
    refine ⟨D, _, rfl, .inl ⟨SqL.of hD, fun l nl => q _ _ (sm_new s1 nl) ⟨l, rfl, ?_⟩⟩⟩
    rw [upd_same, hp.is]
def pats : Nat → List (List Int)
  | 0 => [[]]
  | n + 1 => pats n ++ (pats n).map fun p => p ++ [(n : Int)]
theorem pats_is {n : Nat} : ∀ p ∈ pats n, isPat n p ∧ p.length ≤ n := by
  induction n with
  | zero =>
    intro p hp
    have : p = [] := by simpa [pats] using hp
    subst this
    exact ⟨⟨.nil, fun x hx => by cases hx⟩, Nat.le_refl _⟩
  | succ n ih =>
    intro p hp
    rw [pats, List.mem_append] at hp
    rcases hp with h | h
    · obtain ⟨⟨h1, h2⟩, h3⟩ := ih p h
      exact ⟨⟨h1, fun x hx => by have := h2 x hx; omega⟩, by omega⟩
    · obtain ⟨q, hq, rfl⟩ := List.mem_map.mp h
      obtain ⟨⟨h1, h2⟩, h3⟩ := ih q hq
      refine ⟨⟨List.pairwise_append.mpr ⟨h1, List.pairwise_singleton _ _, fun x hx y hy => ?_⟩, fun x hx => ?_⟩, by rw [List.length_append]; show _ + 1 ≤ _; omega⟩
      · have := h2 x hx
        have : y = n := by simpa using hy
        omega
      · rcases List.mem_append.mp hx with m | m
        · have := h2 x m
          omega
        · have : x = n := by simpa using m
          omega
theorem pats_len {n : Nat} : (pats n).length = 2 ^ n := by
  induction n with
  | zero => rfl
  | succ n ih => rw [pats, List.length_append, List.length_map, ih, Nat.pow_succ]; omega
theorem pats_le {n m : Nat} (h : n ≤ m) : (pats n).length ≤ (pats m).length := by
  rw [pats_len, pats_len]
  exact Nat.pow_le_pow_right (by decide) h
def spPatterns : Sp := fun vs H Q _ => ∃ (m : Nat), vs = [.int (m : Int)] ∧ m ≤ 4 ∧ ∀ r H' (xss : List (List Int)), Same H H' → H r = none → TLs H' r xss → xss.Perm (pats m) → Q (.ref r) H'
abbrev N_L_patterns : List Str := ["_law_many", "_law_found", "_law_column", "_law_lot"]
theorem sc_L_patterns : FnScope N_L_patterns ["_law_many"] (defScope s_L_patterns) := ⟨rfl, rfl, rfl, by decide +kernel, rfl, by decide +kernel, by decide +kernel⟩
theorem cal_L_patterns (T : Txt w K mg) : C8.Cal P w K mg base 1 "_law_patterns" spPatterns [] := by
  refine mkCal T.F_L_patterns T.g__law_patterns sc_L_patterns (fun _ _ _ _ _ _ us hl => match us, hl with | [_], _ => rfl) (fun vs H Q E h => ?_) (fun cdv A outer s H vs Q E hr h => ?_)
  · obtain ⟨m, rfl, hm, q⟩ := h
    rfl
  obtain ⟨m, rfl, hm, q⟩ := h
  have nd := sc_L_patterns.nd
  have hu := hu_of hr
  refine ⟨_, (pss_cons (ps_set (i := 1) nd rfl (Or.inl rfl) (pe_lst (pa_cons (pe_tup pa_nil) pa_nil)))
    (pss_cons (ps_for PassesOwn.never rfl (pi_range1 (by rfl) T.z_range (pa_cons (pv 0) pa_nil)) (pg_name (i := 2) nd rfl (Or.inr rfl))
    (pss_one (ps_set (i := 1) nd rfl (Or.inl rfl) (pe_op op_cat (pv 1) (pe_lc (wi := iList K _) (own := [("_law_lot", 3)]) (g := gName 3) (tt := tYes) rfl nd (pi_list (pv 1)) (blkOk_by (N := N_L_patterns) (sc := defScope s_L_patterns) (by decide +kernel)) (fun _ _ _ _ _ => (pg_name (i := 3) nd rfl (Or.inl rfl))) (fun _ _ _ _ _ => pts_nil) (fun _ _ _ _ _ => (pe_op (r := rCatA K) op_catA (pv 3) (pe_tup (pa_cons (pv 2) pa_nil)))))))))
    (pss_one (ps_ret (pe_callB (r := rSortTs K) (cr_sortTs hr.units) (by rfl) T.z_sorted bt_sorted (pa_cons (pv 1) pa_nil)))))), ?_⟩
  refine ⟨by decide, fun t0 nt0 => ⟨(by show 1 ≤ sizeLine; decide), fun f0 nf0 => ?_⟩⟩
  have s0 : Same H (upd (upd H t0 (.tup [])) f0 (.lst [.ref t0])) := sm_new (sm_up nt0) nf0
  have hmt : Int.toNat (m : Int) = m := by omega
  have h16 : ∀ i, i ≤ m → (pats i).length ≤ 16 := fun i hi => by
    have := pats_le (Nat.le_trans hi hm)
    rw [pats_len (n := 4)] at this
    exact this
  refine ⟨_, rfl, _, rfl, by omega, by omega, for_range (lo := 0) (n := Int.toNat (m : Int)) (fun i σ H2 => Same H H2 ∧ ∃ (f : Addr) (z3 z4 : Option V), σ = [some (.int (m : Int)), some (.ref f), z3, z4] ∧ H f = none ∧ TLs H2 f (pats i)) ?_ ?_ ?_⟩
  · refine ⟨s0, f0, none, none, rfl, (sm_up nt0).free nf0, [.ref t0], upd_same, .cons ⟨t0, rfl, ?_⟩ .nil⟩
    exact up_at upd_same nf0
  · rintro i σ H2 hi ⟨s2, f, z3, z4, rfl, nf, fs, hf, hfs⟩
    have ez : (0 : Int) + (i : Int) = (i : Int) := Int.zero_add _
    rw [ez]
    have hl1 := h16 i (by omega)
    have hl2 := h16 (i + 1) (by omega)
    refine ⟨_, rfl, _, rfl, f, rfl, ⟨_, SqL.of hf⟩, fun D nD => ?_⟩
    refine lcI (walk_list (xs := fs)) nD TIn (fun k => ((pats i).take k).map fun p => p ++ [(i : Int)]) rfl (fun H' s => SqL.of (s _ _ hf)) ?_ ?_
    · rintro k y H4 _ hk Lc ⟨rfl, hy⟩
      obtain ⟨fr, hfr, htx⟩ := hfs.at_ hy
      have hfl := (pats_is fr (List.mem_of_getElem? hfr)).2
      refine ⟨rfl, yesI ?_⟩
      refine catOne rfl rfl (htx.tk (sm_tk Lc.sm)) (by omega) fun r H' s' hr' => ?_
      refine Lc.push OfT.tin.kept nD s' hr' (by rw [take_snoc hfr, List.map_append]; rfl) ?_
      rw [List.length_map, List.length_take]
      omega
    · intro H4 ys s4 hD hys
      rw [hfs.len, List.take_length] at hys
      have hf4 := s4 _ _ hf
      refine ⟨f, D, fs, ys, rfl, rfl, hf4, hD, sz ?_, fun p np => ?_⟩
      · rw [hfs.len, hys.len, List.length_map]
        omega
      · have sp := sm_new (o := .lst (fs ++ ys)) s4 np
        refine ⟨s2.trans sp, p, _, _, rfl, s2.free (s4.free np), fs ++ ys, upd_same, ?_⟩
        exact (hfs.imp fun v x q => q.tk (sm_tk sp)).app (hys.imp fun v x q => q.tk (sm_tk (sm_up np)))
  · rintro σ H2 ⟨s2, f, z3, z4, rfl, nf, fs, hf, hfs⟩
    rw [hmt] at hfs
    exact ⟨_, rfl, sortTs (SqL.of hf) hfs fun p H' yss s' np t pm _ => q p H' yss (s2.trans s') (s2.free np) t pm⟩

end
end Cb
namespace Cb
open PySem PySem.Spec PyProof.Rows L2
section
variable {P : Program} {w : World} {K : PySem.W.Frag} {mg : Str → Option Value} {base : Heap}
/-! ### lowest terms, the law's own -/
def spLow : Sp := fun vs H Q _ => ∃ a b : Int, vs = [.int a, .int b] ∧ 0 < b ∧ b.natAbs < 2 ^ 200 ∧ ∀ r H', Same H H' → TIn H' r (lw a b) → Q r H'
abbrev N_L_low : List Str := ["_law_top", "_law_bottom", "_law_one", "_law_other"]
theorem sc_L_low : FnScope N_L_low ["_law_top", "_law_bottom"] (defScope s_L_low) := ⟨rfl, rfl, rfl, by decide +kernel, rfl, by decide +kernel, by decide +kernel⟩
theorem cal_L_low (T : Txt w K mg) : C8.Cal P w K mg base 1 "_law_low" spLow [] := by
  refine mkCal T.F_L_low T.g__law_low sc_L_low (fun _ _ _ _ _ _ us hl => match us, hl with | [_, _], _ => rfl) (fun vs H Q E h => ?_) (fun cdv A outer s H vs Q E hr h => ?_)
  · obtain ⟨a, b, rfl, hb, hB, q⟩ := h
    rfl
  obtain ⟨a, b, rfl, hb, hB, q⟩ := h
  have nd := sc_L_low.nd
  have hu := hu_of hr
  refine ⟨_, (pss_cons (ps_par (i := 2) (j := 3) (by rfl) nd rfl rfl (by decide) rfl rfl (pa_cons (pe_callB call_abs (by rfl) T.z_abs bt_abs (pa_cons (pv 0) pa_nil)) (pa_cons (pv 1) pa_nil)) (by rfl))
    (pss_cons (ps_while PassesOwn.never (pt_cmpR op_gt (pv 3) pe_int (nomark _))
    (pss_one (ps_par (i := 2) (j := 3) (by rfl) nd rfl rfl (by decide) rfl rfl (pa_cons (pv 3) (pa_cons (pe_op op_mod (pe_callTy call_int1 (by rfl) T.z_int bt_int (pa_cons (pv 2) pa_nil)) (pv 3)) pa_nil)) (by rfl))))
    (pss_one (ps_ret (pe_tup (pa_cons (pe_op op_fdivW (pv 0) (pv 2)) (pa_cons (pe_op op_fdivW (pv 1) (pv 2)) pa_nil))))))), ?_⟩
  refine ⟨_, rfl, _, rfl, _, rfl, _, _, rfl, ?_⟩
  refine ⟨fun m σ H' => H' = H ∧ ∃ x y : Int, σ = [some (.int a), some (.int b), some (.int x), some (.int y)] ∧ 0 ≤ x ∧ 0 ≤ y ∧ m = y.toNat ∧ Int.gcd x y = Int.gcd a b, ⟨_, rfl, _, _, rfl, ?_, Int.le_of_lt hb, rfl, ?_⟩, ?_⟩
  · rw [abs_eq]
    omega
  · rw [abs_eq, gcd_abs]
  rintro m σ H' ⟨rfl, x, y, rfl, hx, hy, rfl, hg⟩
  refine ⟨_, rfl, _, _, rfl, rfl, _, rfl, ite2 (fun c => ?_) (fun c => ?_)⟩
  · have c' : 0 < y := of_decide_eq_true c
    refine ⟨fun σ2 H2 => H2 = H' ∧ σ2 = [some (.int a), some (.int b), some (.int y), some (.int (x % y))], ?_, ?_⟩
    · rintro σ2 H2 ⟨rfl, rfl⟩
      have h1 := Int.emod_nonneg x (show y ≠ 0 by omega)
      have h2 := Int.emod_lt_of_pos x c'
      exact ⟨_, (by show (x % y).toNat < y.toNat; omega), rfl, y, x % y, rfl, hy, h1, rfl, by rw [gcd_step c' hx, hg]⟩
    · exact ⟨_, rfl, _, rfl, .inl ⟨_, rfl, _, rfl, _, _, rfl, rfl, c', _, _, rfl, rfl, rfl⟩⟩
  · have c' : ¬ 0 < y := fun z => c (decide_eq_true z)
    have e : y = 0 := by omega
    subst e
    have z : x = (Int.gcd a b : Int) := by
      rw [← hg, Int.gcd_zero_right]
      omega
    subst z
    have g := gpos (n := a) hb
    have gl : ((Int.gcd a b : Nat) : Int).natAbs < 2 ^ 200 := by
      have d : (Int.gcd a b : Int) ≤ b := Int.le_of_dvd hb (Int.gcd_dvd_right ..)
      omega
    have hd : CDivW a (Int.gcd a b : Int) := wide_div g gl (by decide) (by decide)
    have hd2 : CDivW b (Int.gcd a b : Int) := wide_div g gl (by decide) (by decide)
    refine ⟨_, rfl, _, rfl, _, _, rfl, rfl, hd, _, rfl, _, rfl, _, _, rfl, rfl, hd2, (by show 2 ≤ sizeLine; decide), fun p hp => ?_⟩
    exact q _ _ (sm_up hp) ⟨p, rfl, upd_same⟩
/-! ### the hand -/
def kGreat : Key := .inr "great"
def kSmall : Key := .inr "small"
def kSum : Key := .inr "sum"
def kTurn : Key := .inr "turn"
def handO (g q : Addr) (sm tn : Int) : HO := .dK [(kGreat, .ref g), (kSmall, .ref q), (kSum, .int sm), (kTurn, .int tn)]
structure Hand (p g q : Addr) (H : Hp) : Prop where
  ex : ∃ (big small : List Int) (sm tn : Int), H p = some (handO g q sm tn) ∧ H g = some (.lst (big.map V.int)) ∧ H q = some (.lst (small.map V.int)) ∧ small ≠ [] ∧ g ≠ q ∧ small.length ≤ 1000 ∧ big.length ≤ 1000
/-- all but the hand's dict and its great list stay -/
def Mv (p g : Addr) (H H' : Hp) : Prop := ∀ b o, b ≠ p → b ≠ g → H b = some o → H' b = some o
theorem Mv.refl {p g : Addr} (H : Hp) : Mv p g H H := fun _ _ _ _ h => h
theorem Mv.trans {p g : Addr} {H H1 H2 : Hp} (a : Mv p g H H1) (b : Mv p g H1 H2) : Mv p g H H2 := fun c o n m h => b c o n m (a c o n m h)
theorem Mv.of {p g : Addr} {H H' : Hp} (e : Same H H') : Mv p g H H' := fun b o _ _ h => e b o h
theorem Mv.mut {p g x : Addr} {H H' : Hp} {o : HO} (e : Mv p g H H') (h : H x = none) : Mv p g H (upd H' x o) := fun b u n m q => by
  rw [upd_ne (ne_of_none q h)]
  exact e b u n m q
theorem Mv.at_p {p g : Addr} {H H' : Hp} {o : HO} (e : Mv p g H H') : Mv p g H (upd H' p o) := fun b u n m q => by
  rw [upd_ne n]
  exact e b u n m q
theorem Mv.at_g {p g : Addr} {H H' : Hp} {o : HO} (e : Mv p g H H') : Mv p g H (upd H' g o) := fun b u n m q => by
  rw [upd_ne m]
  exact e b u n m q
section
variable {p g q : Addr} {H H' : Hp}
theorem Hand.ne_pg (h : Hand p g q H) : p ≠ g := by
  obtain ⟨big, small, sm, tn, h1, h2, _⟩ := h.ex
  intro e
  rw [e, h2] at h1
  cases h1
theorem Hand.ne_pq (h : Hand p g q H) : p ≠ q := by
  obtain ⟨big, small, sm, tn, h1, _, h2, _⟩ := h.ex
  intro e
  rw [e, h2] at h1
  cases h1
theorem Hand.ne_gq (h : Hand p g q H) : g ≠ q := by
  obtain ⟨big, small, sm, tn, _, _, _, _, h, _⟩ := h.ex
  exact h
theorem Hand.sm (h : Hand p g q H) (e : Same H H') : Hand p g q H' := by
  obtain ⟨big, small, sm, tn, h1, h2, h3, h4⟩ := h.ex
  exact ⟨big, small, sm, tn, e _ _ h1, e _ _ h2, e _ _ h3, h4⟩
theorem Hand.tk (h : Hand p g q H) (e : Mv p g H H') : Tk H H' := fun b xs hb => by
  obtain ⟨big, small, sm, tn, h1, h2, h3, h4⟩ := h.ex
  refine e b _ (fun z => ?_) (fun z => ?_) hb
  · rw [z, h1] at hb
    cases hb
  · rw [z, h2] at hb
    cases hb
/-- an address that is none of the hand's own -/
structure Fre (p g q a : Addr) : Prop where
  p : a ≠ p
  g : a ≠ g
  q : a ≠ q
theorem Hand.fre (h : Hand p g q H) {a : Addr} (n : H a = none) : Fre p g q a := by
  obtain ⟨big, small, sm, tn, h1, h2, h3, h4⟩ := h.ex
  exact ⟨(fun e => by rw [e, h1] at n; cases n), (fun e => by rw [e, h2] at n; cases n), (fun e => by rw [e, h3] at n; cases n)⟩
theorem Hand.up (h : Hand p g q H) {a : Addr} {o : HO} (f : Fre p g q a) : Hand p g q (upd H a o) := by
  obtain ⟨big, small, sm, tn, h1, h2, h3, h4⟩ := h.ex
  exact ⟨big, small, sm, tn, by rw [upd_ne f.p.symm]; exact h1, by rw [upd_ne f.g.symm]; exact h2, by rw [upd_ne f.q.symm]; exact h3, h4⟩
theorem Mv.fr (e : Mv p g H H') {a : Addr} {o : HO} (f : Fre p g q a) (h : H a = some o) : H' a = some o := e a o f.p f.g h
end
theorem v_great {g q : Addr} {sm tn : Int} : valV [(kGreat, .ref g), (kSmall, .ref q), (kSum, .int sm), (kTurn, .int tn)] kGreat = some (.ref g) := rfl
theorem v_small {g q : Addr} {sm tn : Int} : valV [(kGreat, .ref g), (kSmall, .ref q), (kSum, .int sm), (kTurn, .int tn)] kSmall = some (.ref q) := rfl
theorem v_sum {g q : Addr} {sm tn : Int} : valV [(kGreat, .ref g), (kSmall, .ref q), (kSum, .int sm), (kTurn, .int tn)] kSum = some (.int sm) := rfl
theorem v_turn {g q : Addr} {sm tn : Int} : valV [(kGreat, .ref g), (kSmall, .ref q), (kSum, .int sm), (kTurn, .int tn)] kTurn = some (.int tn) := rfl
theorem d_great {p g q : Addr} {H : Hp} {sm tn : Int} (h : H p = some (handO g q sm tn)) : DGet H p (.str "great") (some (.ref g)) := .inl ⟨_, kGreat, .inl h, rfl, v_great.symm⟩
theorem d_small {p g q : Addr} {H : Hp} {sm tn : Int} (h : H p = some (handO g q sm tn)) : DGet H p (.str "small") (some (.ref q)) := .inl ⟨_, kSmall, .inl h, rfl, v_small.symm⟩
theorem d_sum {p g q : Addr} {H : Hp} {sm tn : Int} (h : H p = some (handO g q sm tn)) : DGet H p (.str "sum") (some (.int sm)) := .inl ⟨_, kSum, .inl h, rfl, v_sum.symm⟩
theorem d_turn {p g q : Addr} {H : Hp} {sm tn : Int} (h : H p = some (handO g q sm tn)) : DGet H p (.str "turn") (some (.int tn)) := .inl ⟨_, kTurn, .inl h, rfl, v_turn.symm⟩
theorem p_turn {g q : Addr} {sm tn tn2 : Int} : putK [(kGreat, V.ref g), (kSmall, .ref q), (kSum, .int sm), (kTurn, .int tn)] kTurn (.int tn2) = [(kGreat, .ref g), (kSmall, .ref q), (kSum, .int sm), (kTurn, .int tn2)] := rfl
theorem ixN0 {n : Nat} (h : 0 < n) : ixN n 0 = some 0 := by
  unfold ixN
  rw [if_pos (by decide), if_pos (by omega)]
  rfl
theorem sqi0 {n : Nat} (h : 0 < n) : seqIndex? 0 n = some 0 := (ixN_seq (ixN0 h)).1
def spDraw : Sp := fun vs H Q _ => ∃ (p g q : Addr) (m : Int), vs = [.ref p, .int m] ∧ Hand p g q H ∧ 0 < m ∧ m < 2 ^ 62 ∧ ∀ n H', Mv p g H H' → Hand p g q H' → 0 ≤ n → n < m → Q (.int n) H'
abbrev N_L_draw : List Str := ["_law_hand_here", "_law_many", "_law_turn", "_law_seed", "_law_number"]
theorem sc_L_draw : FnScope N_L_draw ["_law_hand_here", "_law_many"] (defScope s_L_draw) := ⟨rfl, rfl, rfl, by decide +kernel, rfl, by decide +kernel, by decide +kernel⟩
theorem cal_L_draw (T : Txt w K mg) : C8.Cal P w K mg base 1 "_law_draw" spDraw [] := by
  refine mkCal T.F_L_draw T.g__law_draw sc_L_draw (fun _ _ _ _ _ _ us hl => match us, hl with | [_, _], _ => rfl) (fun vs H Q E h => ?_) (fun cdv A outer s H vs Q E hr h => ?_)
  · obtain ⟨p, g, q, m, rfl, hh, hm, hM, Qk⟩ := h
    rfl
  obtain ⟨p, g, q, m, rfl, hh, hm, hM, Qk⟩ := h
  have nd := sc_L_draw.nd
  have hu := hu_of hr
  refine ⟨_, (pss_cons (ps_if (pt_cmpR op_gt (pe_callB (r := rLen K) call_len_seq (by rfl) T.z_len bt_len (pa_cons (pe_dget hu (pv 0) pe_str (fun _ _ => rfl)) pa_nil)) pe_int (nomark _))
    (pss_cons (ps_set (i := 4) nd rfl (Or.inl rfl) (pe_ix (r := rIxL K) ix_list (pe_dget hu (pv 0) pe_str (fun _ _ => rfl)) pe_int (fun _ _ => rfl)))
    (pss_cons (ps_asg (pe_op op_fdivW (pv 4) (pv 1)) (pg_sub (pe_dget hu (pv 0) pe_str (fun _ _ => rfl)) pe_int set_list))
    (pss_cons (ps_if (pt_cmpR op_lt (pv 4) (pv 1) (nomark _))
    (pss_one (ps_expr (pe_bm PySem.F.plainAttrs_list PySem.F.slot_list_pop PySem.F.type_list_pop mt_popAt (pe_dget hu (pv 0) pe_str (fun _ _ => rfl)) (pa_cons pe_int pa_nil))))
    pss_nil)
    (pss_one (ps_ret (pe_op op_mod (pe_callTy call_int1 (by rfl) T.z_int bt_int (pa_cons (pv 4) pa_nil)) (pv 1)))))))
    pss_nil)
    (pss_cons (ps_set (i := 2) nd rfl (Or.inl rfl) (pe_op op_add (pe_dget hu (pv 0) pe_str (fun _ _ => rfl)) pe_int))
    (pss_cons (ps_dput hu (pv 0) pe_str (pv 2) rfl)
    (pss_cons (ps_set (i := 3) nd rfl (Or.inl rfl) (pe_op op_add (pe_ix (r := rIxL K) ix_list (pe_dget hu (pv 0) pe_str (fun _ _ => rfl)) (pe_op op_mod (pe_callTy call_int1 (by rfl) T.z_int bt_int (pa_cons (pv 2) pa_nil)) (pe_callB (r := rLen K) call_len_seq (by rfl) T.z_len bt_len (pa_cons (pe_dget hu (pv 0) pe_str (fun _ _ => rfl)) pa_nil))) (fun _ _ => rfl)) (pe_op op_mul pe_int (pe_dget hu (pv 0) pe_str (fun _ _ => rfl)))))
    (pss_cons (ps_set (i := 4) nd rfl (Or.inl rfl) (pe_op op_mod (pe_callTy call_int1 (by rfl) T.z_int bt_int (pa_cons (pe_op op_mul (pe_op op_add (pe_op op_add (pv 3) (pe_op op_mul pe_int (pv 2))) pe_int) pe_int) pa_nil)) pe_int))
    (pss_cons (ps_set (i := 4) nd rfl (Or.inl rfl) (pe_op op_mod (pe_callTy call_int1 (by rfl) T.z_int bt_int (pa_cons (pe_op op_mul (pv 4) (pe_op op_add (pe_op op_fdivW (pv 4) pe_int) pe_int)) pa_nil)) pe_int))
    (pss_cons (ps_set (i := 4) nd rfl (Or.inl rfl) (pe_op op_mod (pe_callTy call_int1 (by rfl) T.z_int bt_int (pa_cons (pe_op op_add (pe_op op_mul (pv 4) (pe_op op_add (pe_op op_fdivW (pv 4) pe_int) pe_int)) (pv 2)) pa_nil)) pe_int))
    (pss_one (ps_ret (pe_op op_mod (pe_callTy call_int1 (by rfl) T.z_int bt_int (pa_cons (pe_op op_fdivW (pv 4) pe_int) pa_nil)) (pv 1))))))))))), ?_⟩
  have hpg := hh.ne_pg
  have hpq := hh.ne_pq
  obtain ⟨big, small, sm, tn, h1, h2, h3, h4, h5, h6, h7⟩ := hh.ex
  have hdm : ∀ x : Int, CDivW x m := fun x => wide_div (b := 70) hm (by omega) (by decide) (by decide)
  refine ⟨_, rfl, _, _, rfl, d_great h1, _, _, rfl, .inl (SqL.of h2), _, _, rfl, rfl, _, rfl, ite2 (fun c => ?_) (fun c => ?_)⟩
  · cases big with
    | nil => exact absurd c (by simp)
    | cons b big =>
      refine ⟨_, rfl, _, _, rfl, d_great h1, _, _, _, _, rfl, rfl, SqL.of h2, at_of (j := 0) rfl rfl, ?_⟩
      refine ⟨_, rfl, _, rfl, _, _, rfl, rfl, hdm b, _, rfl, _, _, rfl, d_great h1, _, _, _, _, rfl, rfl, h2, ixN0 (by simp), ?_⟩
      have e1 : (upd H g (.lst (((b :: big).map V.int).set 0 (.int (b / m))))) p = some (handO g q sm tn) := by
        rw [upd_ne hpg]
        exact h1
      have hm1 : 0 ≤ b % m := Int.emod_nonneg b (by omega)
      have hm2 : b % m < m := Int.emod_lt_of_pos b hm
      refine ⟨_, rfl, _, rfl, _, _, rfl, rfl, _, rfl, ite2 (fun c => ?_) (fun c => ?_)⟩
      · refine ⟨_, rfl, _, _, rfl, d_great e1, .inl ⟨rfl, _, SqL.of upd_same⟩, _, _, _, 0, _, rfl, rfl, upd_same, by decide, by decide, sqi0 (by simp), rfl, ?_⟩
        refine ⟨_, rfl, .inl ⟨_, rfl, _, rfl, _, _, rfl, rfl, hm, Qk _ _ ?_ ?_ hm1 hm2⟩⟩
        · exact ((Mv.refl H).at_g).at_g
        · refine ⟨big, small, sm, tn, ?_, ?_, ?_, h4, h5, h6, by simp at h7; omega⟩
          · rw [upd_ne hpg]
            exact e1
          · rw [upd_same]
            rfl
          · rw [upd_ne h5.symm, upd_ne h5.symm]
            exact h3
      · refine ⟨_, rfl, .inl ⟨_, rfl, _, rfl, _, _, rfl, rfl, hm, Qk _ _ ?_ ?_ hm1 hm2⟩⟩
        · exact (Mv.refl H).at_g
        · refine ⟨(b / m) :: big, small, sm, tn, e1, ?_, ?_, h4, h5, h6, by simpa using h7⟩
          · rw [upd_same]
            rfl
          · rw [upd_ne h5.symm]
            exact h3
  · refine ⟨_, rfl, _, _, rfl, d_turn h1, _, _, rfl, rfl, ?_⟩
    refine ⟨_, rfl, _, rfl, _, _, rfl, .inl ⟨_, kTurn, h1, rfl, by show 4 < sizeLine; decide, rfl⟩, ?_⟩
    rw [p_turn]
    have e1 : (upd H p (handO g q sm (tn + 1))) p = some (handO g q sm (tn + 1)) := upd_same
    have e3 : (upd H p (handO g q sm (tn + 1))) q = some (.lst (small.map V.int)) := by
      rw [upd_ne hpq.symm]
      exact h3
    have hs0 : (0 : Int) < ((small.map V.int).length : Int) := by
      rw [List.length_map]
      have := List.length_pos_iff.mpr h4
      omega
    obtain ⟨x, hx⟩ : ∃ x, small[((tn + 1) % ((small.map V.int).length : Int)).toNat]? = some x := by
      have a1 := Int.emod_nonneg (tn + 1) (show ((small.map V.int).length : Int) ≠ 0 by omega)
      have a2 := Int.emod_lt_of_pos (tn + 1) hs0
      rw [List.length_map] at a1 a2 ⊢
      exact ⟨_, List.getElem?_eq_getElem (by omega)⟩
    refine ⟨_, rfl, _, _, rfl, d_small e1, _, rfl, .inl ⟨_, rfl, _, rfl, _, _, rfl, d_small e1, _, _, rfl, .inl (SqL.of e3), _, _, rfl, rfl, hs0, _, _, _, _, rfl, rfl, SqL.of e3, at_of (j := ((tn + 1) % ((small.map V.int).length : Int)).toNat) ?_ (by rw [List.getElem?_map, hx]; rfl), ?_⟩⟩
    · have a1 := Int.emod_nonneg (tn + 1) (show ((small.map V.int).length : Int) ≠ 0 by omega)
      omega
    refine ⟨_, rfl, _, _, rfl, d_sum e1, _, _, rfl, rfl, .inl ⟨by decide, by decide⟩, _, _, rfl, rfl, ?_⟩
    refine ⟨_, rfl, _, rfl, _, _, rfl, rfl, .inl ⟨by decide, by decide⟩, _, _, rfl, rfl, _, _, rfl, rfl, _, _, rfl, rfl, .inr ⟨by decide, by decide⟩, .inl ⟨_, rfl, _, _, rfl, rfl, (show (0 : Int) < 2147483647 by decide), ?_⟩⟩
    generalize hy1 : ((x + 31 * sm + 104729 * (tn + 1) + 3) * 48271) % 2147483647 = y1
    have b1 : 0 ≤ y1 ∧ y1 < 2147483647 := ⟨by rw [← hy1]; exact Int.emod_nonneg _ (by decide), by rw [← hy1]; exact Int.emod_lt_of_pos _ (by decide)⟩
    refine ⟨_, rfl, _, rfl, _, _, rfl, rfl, wide_div (b := 70) (by decide) (by decide) (by decide) (by decide), _, _, rfl, rfl, _, _, rfl, rfl, .inl ⟨by omega, by omega⟩, .inl ⟨_, rfl, _, _, rfl, rfl, (show (0 : Int) < 2147483629 by decide), ?_⟩⟩
    generalize hy2 : (y1 * (y1 / 1009 + 69621)) % 2147483629 = y2
    have b2 : 0 ≤ y2 ∧ y2 < 2147483629 := ⟨by rw [← hy2]; exact Int.emod_nonneg _ (by decide), by rw [← hy2]; exact Int.emod_lt_of_pos _ (by decide)⟩
    refine ⟨_, rfl, _, rfl, _, _, rfl, rfl, wide_div (b := 70) (by decide) (by decide) (by decide) (by decide), _, _, rfl, rfl, _, _, rfl, rfl, .inl ⟨by omega, by omega⟩, _, rfl, _, _, rfl, rfl, .inl ⟨_, rfl, _, _, rfl, rfl, (show (0 : Int) < 2147483399 by decide), ?_⟩⟩
    generalize hy3 : (y2 * (y2 / 2003 + 40692) + (tn + 1)) % 2147483399 = y3
    refine ⟨_, rfl, _, _, rfl, rfl, wide_div (b := 70) (by decide) (by decide) (by decide) (by decide), .inl ⟨_, rfl, _, rfl, _, _, rfl, rfl, hm, ?_⟩⟩
    refine Qk _ _ ((Mv.refl H).at_p) ⟨big, small, sm, tn + 1, e1, ?_, e3, h4, h5, h6, h7⟩ (Int.emod_nonneg _ (by omega)) (Int.emod_lt_of_pos _ hm)
    rw [upd_ne hpg.symm]
    exact h2
def spAny : Sp := fun vs H Q _ => ∃ (p g q a : Addr) (xs : List V), vs = [.ref p, .ref a] ∧ Hand p g q H ∧ H a = some (.lst xs) ∧ a ≠ g ∧ 0 < xs.length ∧ xs.length ≤ 100000 ∧ ∀ x H', Mv p g H H' → Hand p g q H' → x ∈ xs → Q x H'
abbrev N_L_any : List Str := ["_law_hand_here", "_law_things"]
theorem sc_L_any : FnScope N_L_any ["_law_hand_here", "_law_things"] (defScope s_L_any) := ⟨rfl, rfl, rfl, by decide +kernel, rfl, by decide +kernel, by decide +kernel⟩
theorem cal_L_any (T : Txt w K mg) : C8.Cal P w K mg base 2 "_law_any" spAny [] := by
  have c_L_draw := cal_L_draw (P := P) (base := base) T
  refine mkCal T.F_L_any T.g__law_any sc_L_any (fun _ _ _ _ _ _ us hl => match us, hl with | [_, _], _ => rfl) (fun vs H Q E h => ?_) (fun cdv A outer s H vs Q E hr h => ?_)
  · obtain ⟨p, g, q, a, xs, rfl, hh, ha, hag, hx, hX, Qk⟩ := h
    rfl
  obtain ⟨p, g, q, a, xs, rfl, hh, ha, hag, hx, hX, Qk⟩ := h
  have nd := sc_L_any.nd
  have hu := hu_of hr
  refine ⟨_, (pss_one (ps_ret (pe_ix (r := rIxL K) ix_list (pv 1) (C8.pe_c c_L_draw hr (by decide) rfl (pa_cons (pv 0) (pa_cons (pe_callB (r := rLen K) call_len_seq (by rfl) T.z_len bt_len (pa_cons (pv 1) pa_nil)) pa_nil))) (fun _ _ => rfl)))), ?_⟩
  have hap : a ≠ p := by
    obtain ⟨big, small, sm, tn, h1, _⟩ := hh.ex
    intro e
    rw [e, h1] at ha
    cases ha
  refine ⟨_, rfl, _, rfl, _, rfl, _, _, rfl, .inl (SqL.of ha), p, g, q, _, rfl, hh, by omega, by omega, fun n H' mv hh' n0 n1 => ?_⟩
  have hn : n.toNat < xs.length := by omega
  refine ⟨_, _, _, _, rfl, rfl, SqL.of (mv _ _ hap hag ha), at_of (j := n.toNat) (by omega) (List.getElem?_eq_getElem hn), Qk _ _ mv hh' (List.getElem_mem hn)⟩
def spWeight : Sp := fun vs H Q _ => ∃ (p g q : Addr), vs = [.ref p, .int 0] ∧ Hand p g q H ∧ ∀ n H', Mv p g H H' → Hand p g q H' → 1 ≤ n → n ≤ 1000 → Q (.int n) H'
abbrev N_L_weight : List Str := ["_law_hand_here", "_law_great"]
theorem sc_L_weight : FnScope N_L_weight ["_law_hand_here", "_law_great"] (defScope s_L_weight) := ⟨rfl, rfl, rfl, by decide +kernel, rfl, by decide +kernel, by decide +kernel⟩
theorem cal_L_weight (T : Txt w K mg) : C8.Cal P w K mg base 3 "_law_weight" spWeight [] := by
  have c_L_draw := cal_L_draw (P := P) (base := base) T
  have c_L_any := cal_L_any (P := P) (base := base) T
  refine mkCal T.F_L_weight T.g__law_weight sc_L_weight (fun _ _ _ _ _ _ us hl => match us, hl with | [_, _], _ => rfl) (fun vs H Q E h => ?_) (fun cdv A outer s H vs Q E hr h => ?_)
  · obtain ⟨p, g, q, rfl, hh, Qk⟩ := h
    rfl
  obtain ⟨p, g, q, rfl, hh, Qk⟩ := h
  have nd := sc_L_weight.nd
  have hu := hu_of hr
  refine ⟨_, (pss_one (ps_ret (pe_op op_add pe_int (C8.pe_c c_L_draw hr (by decide) rfl (pa_cons (pv 0) (pa_cons (pe_ifExp (pt_cmpR op_gt (pv 1) pe_int (nomark _)) (pv 1) (C8.pe_c c_L_any hr (by decide) rfl (pa_cons (pv 0) (pa_cons (pe_lst (pa_cons pe_int (pa_cons pe_int (pa_cons pe_int (pa_cons pe_int (pa_cons pe_int pa_nil)))))) pa_nil)))) pa_nil)))))), ?_⟩
  refine ⟨_, rfl, _, rfl, _, _, rfl, rfl, _, rfl, iteF ?_⟩
  refine ⟨_, rfl, by decide, fun a na => ?_⟩
  have s1 : Same H (upd H a (.lst [.int 1, .int 3, .int 10, .int 10, .int 1000])) := sm_up na
  refine ⟨p, g, q, a, _, rfl, hh.sm s1, upd_same, (hh.fre na).g, by decide, by decide, fun x H1 mv hh1 hx => ?_⟩
  have hx' : ∃ k : Int, x = .int k ∧ 0 < k ∧ k ≤ 1000 := by
    simp only [List.mem_cons, List.not_mem_nil, or_false] at hx
    rcases hx with h | h | h | h | h
    · exact ⟨1, h, by decide, by decide⟩
    · exact ⟨3, h, by decide, by decide⟩
    · exact ⟨10, h, by decide, by decide⟩
    · exact ⟨10, h, by decide, by decide⟩
    · exact ⟨1000, h, by decide, by decide⟩
  obtain ⟨k, rfl, k1, k2⟩ := hx'
  refine ⟨p, g, q, k, rfl, hh1, k1, by omega, fun n H2 mv2 hh2 n0 n1 => ?_⟩
  refine ⟨_, _, rfl, rfl, Qk _ _ (((Mv.of s1).trans mv).trans mv2) hh2 (by omega) (by omega)⟩

end
end Cb
namespace Cb
open PySem PySem.Spec PyProof.Rows L2
section
variable {P : Program} {w : World} {K : PySem.W.Frag} {mg : Str → Option Value} {base : Heap}
/-! ### families of patterns -/
theorem TLs.mv {p g q : Addr} {H H' : Hp} {r : Addr} {xss : List (List Int)} (h : TLs H r xss) (hh : Hand p g q H) (f : Fre p g q r) (e : Mv p g H H') : TLs H' r xss := by
  obtain ⟨vs, h1, h2⟩ := h
  exact ⟨vs, e _ _ f.p f.g h1, h2.imp fun v x t => t.tk (hh.tk e)⟩
def spFamily : Sp := fun vs H Q _ => ∃ (p g q : Addr) (m : Nat), vs = [.ref p, .int (m : Int)] ∧ Hand p g q H ∧ m ≤ 4 ∧ ∀ r H' (xss : List (List Int)), Mv p g H H' → Hand p g q H' → H r = none → TLs H' r xss → xss ≠ [] → (∀ x ∈ xss, isPat m x) → xss.length ≤ 16 → Q (.ref r) H'
abbrev N_L_family : List Str := ["_law_hand_here", "_law_many", "_law_patterns_here", "_law_found", "_law_pattern"]
theorem sc_L_family : FnScope N_L_family ["_law_hand_here", "_law_many"] (defScope s_L_family) := ⟨rfl, rfl, rfl, by decide +kernel, rfl, by decide +kernel, by decide +kernel⟩
theorem cal_L_family (T : Txt w K mg) : C8.Cal P w K mg base 3 "_law_family" spFamily [] := by
  have c_L_patterns := cal_L_patterns (P := P) (base := base) T
  have c_L_draw := cal_L_draw (P := P) (base := base) T
  have c_L_any := cal_L_any (P := P) (base := base) T
  refine mkCal T.F_L_family T.g__law_family sc_L_family (fun _ _ _ _ _ _ us hl => match us, hl with | [_, _], _ => rfl) (fun vs H Q E h => ?_) (fun cdv A outer s H vs Q E hr h => ?_)
  · obtain ⟨p, g, q, m, rfl, hh, hm, Qk⟩ := h
    rfl
  obtain ⟨p, g, q, m, rfl, hh, hm, Qk⟩ := h
  have nd := sc_L_family.nd
  have hu := hu_of hr
  refine ⟨_, (pss_cons (ps_set (i := 2) nd rfl (Or.inl rfl) (C8.pe_c c_L_patterns hr (by decide) rfl (pa_cons (pv 1) pa_nil)))
    (pss_cons (ps_if (pt_cmpR op_gt (C8.pe_c c_L_draw hr (by decide) rfl (pa_cons (pv 0) (pa_cons pe_int pa_nil))) pe_int (nomark _))
    (pss_one (ps_ret (pv 2)))
    pss_nil)
    (pss_cons (ps_setLc (i := 3) (own := [("_law_pattern", 4)]) (g := gName 4) rfl nd rfl rfl (sw_true rfl rfl rfl (by decide +kernel)) (pi_list (pv 2)) (blkOk_by (N := N_L_family) (sc := defScope s_L_family) (by decide +kernel)) (fun _ _ _ _ _ => (pg_name (i := 4) nd rfl (Or.inl rfl))) (fun _ _ _ _ _ => (pts_one (pt_cmpR op_gt (C8.pe_c c_L_draw hr (by decide) rfl (pa_cons (pv 0) (pa_cons pe_int pa_nil))) pe_int (nomark _)))) (fun _ _ _ _ _ => (pv 4)))
    (pss_one (ps_ret (pe_ifExp (pt_cmpR op_gt (pe_callB (r := rLen K) call_len_seq (by rfl) T.z_len bt_len (pa_cons (pv 3) pa_nil)) pe_int (nomark _)) (pv 3) (pe_lst (pa_cons (C8.pe_c c_L_any hr (by decide) rfl (pa_cons (pv 0) (pa_cons (pv 2) pa_nil))) pa_nil)))))))), ?_⟩
  refine ⟨_, rfl, m, rfl, hm, fun r H1 xss s1 nr t1 pm => ?_⟩
  have hl16 : xss.length ≤ 16 := by
    rw [pm.length_eq]
    have := pats_le hm
    rw [pats_len (n := 4)] at this
    exact this
  have hne : xss ≠ [] := by
    intro e
    have := pm.length_eq
    rw [e, pats_len] at this
    have := Nat.pow_pos (n := m) (show 0 < 2 by decide)
    simp at *
    omega
  have hpat : ∀ x ∈ xss, isPat m x := fun x hx => (pats_is x (pm.mem_iff.mp hx)).1
  have hh1 := hh.sm s1
  have fr := hh.fre nr
  refine ⟨_, rfl, p, g, q, 3, rfl, hh1, by decide, by decide, fun n H2 mv2 hh2 n0 n3 => ⟨_, _, rfl, rfl, _, rfl, ite2 (fun c => ?_) (fun c => ?_)⟩⟩
  · exact ⟨_, rfl, Qk r H2 xss ((Mv.of s1).trans mv2) hh2 nr (t1.mv hh1 fr mv2) hne hpat hl16⟩
  have t2 := t1.mv hh1 fr mv2
  obtain ⟨vs, hr2, hvs⟩ := t2
  refine ⟨_, rfl, r, rfl, ⟨_, SqL.of hr2⟩, fun D nD => ?_⟩
  have fD := hh2.fre nD
  have rD : r ≠ D := by
    intro e
    rw [← e, hr2] at nD
    cases nD
  refine lc_list (K := K) (a := r) (xs := vs) (fun i H3 => Mv p g H2 H3 ∧ Hand p g q H3 ∧ ∃ acc xs', H3 D = some (.lst acc) ∧ P2 (TIn H3) acc xs' ∧ (∀ x ∈ xs', x ∈ xss) ∧ xs'.length ≤ i) ⟨(Mv.refl H2).mut nD, hh2.up fD, [], [], upd_same, .nil, (fun x hx => nomatch hx), Nat.le_refl _⟩ ?_ ?_ ?_
  · rintro i H3 _ ⟨mv3, _⟩
    exact SqL.of (mv3.fr fr hr2)
  · rintro i x H3 hi ⟨mv3, hh3, acc, xs', hD, hacc, hmem, hlen⟩
    obtain ⟨xi, hxi, htx⟩ := hvs.at_ hi
    refine ⟨rfl, ?_⟩
    refine ⟨_, rfl, p, g, q, 3, rfl, hh3, by decide, by decide, fun n H4 mv4 hh4 n0 n3 => ⟨_, _, rfl, rfl, _, rfl, ite2 (fun c => ?_) (fun c => ?_)⟩⟩
    · have hi16 : i < 16 := by
        have := (List.getElem?_eq_some_iff.mp hxi).1
        omega
      have hD4 := mv4.fr fD hD
      have tk5 : Tk H4 (upd H4 D (.lst (acc ++ [x]))) := tk_lst (fun _ _ h => h) hD4
      refine ⟨_, rfl, acc, hD4, szl (by rw [hacc.len]; omega), (mv3.trans mv4).mut nD, hh4.up fD, acc ++ [x], xs' ++ [xi], upd_same, ?_, ?_, ?_⟩
      · exact ((hacc.imp fun v x t => (t.tk (hh3.tk mv4)).tk tk5)).snoc (((htx.tk (hh2.tk mv3)).tk (hh3.tk mv4)).tk tk5)
      · intro y hy
        rcases List.mem_append.mp hy with h | h
        · exact hmem y h
        · have : y = xi := by simpa using h
          subst this
          exact List.mem_of_getElem? hxi
      · rw [List.length_append]
        show _ + 1 ≤ _
        omega
    · exact ⟨mv3.trans mv4, hh4, acc, xs', mv4.fr fD hD, hacc.imp fun v x t => t.tk (hh3.tk mv4), hmem, by omega⟩
  · rintro H3 ⟨mv3, hh3, acc, xs', hD, hacc, hmem, hlen⟩
    rw [hvs.len] at hlen
    have mv13 := ((Mv.of s1).trans mv2).trans mv3
    refine ⟨_, rfl, D, _, rfl, .inl (SqL.of hD), _, _, rfl, rfl, _, rfl, ite2 (fun c => ?_) (fun c => ?_)⟩
    · have hne' : xs' ≠ [] := by
        intro e
        rw [e] at hacc
        cases hacc
        exact absurd c (by simp)
      have nDH : H D = none := by
        cases e : H D with
        | none => rfl
        | some o =>
          have f1 : D ≠ p := fD.p
          have f2 := ((Mv.of s1).trans mv2) D o fD.p fD.g e
          rw [nD] at f2
          cases f2
      exact ⟨_, rfl, Qk D H3 xs' mv13 hh3 nDH ⟨acc, hD, hacc⟩ hne' (fun x hx => hpat x (hmem x hx)) (by omega)⟩
    · have hr3 := mv3.fr fr hr2
      refine ⟨_, rfl, _, rfl, p, g, q, r, vs, rfl, hh3, hr3, fr.g, ?_, by rw [hvs.len]; omega, fun x H4 mv4 hh4 hx => ?_⟩
      · rw [hvs.len]
        exact List.length_pos_iff.mpr hne
      · obtain ⟨j, hj⟩ := List.mem_iff_getElem?.mp hx
        obtain ⟨xi, hxi, htx⟩ := hvs.at_ hj
        refine ⟨(by show 1 ≤ sizeLine; decide), fun a na => ?_⟩
        have mv14 := mv13.trans mv4
        have naH : H a = none := by
          cases e : H a with
          | none => rfl
          | some o =>
            have f := hh4.fre na
            have f2 := mv14 a o f.p f.g e
            rw [na] at f2
            cases f2
        refine Qk a _ [xi] (mv14.mut naH) (hh4.up (hh4.fre na)) naH ⟨[x], upd_same, .cons ?_ .nil⟩ (by simp) (fun y hy => ?_) (by simp)
        · exact (((htx.tk (hh2.tk mv3)).tk (hh3.tk mv4))).tk (sm_tk (sm_up na))
        · have : y = xi := by simpa using hy
          subst this
          exact hpat y (List.mem_of_getElem? hxi)
/-! ### the hand made -/
def spHand (K : PySem.W.Frag) : Sp := fun vs H Q _ => ∃ (a : Addr) (ns : List Int), vs = [.ref a] ∧ SqL K H a (ns.map V.int) ∧ ∀ p g q H', Same H H' → Hand p g q H' → Q (.ref p) H'
abbrev N_L_hand : List Str := ["_law_script", "_law_cells", "_law_small", "_law_great", "_law_cell"]
theorem sc_L_hand : FnScope N_L_hand ["_law_script"] (defScope s_L_hand) := ⟨rfl, rfl, rfl, by decide +kernel, rfl, by decide +kernel, by decide +kernel⟩
theorem cal_L_hand (T : Txt w K mg) : C8.Cal P w K mg base 1 "_law_hand" (spHand K) [] := by
  refine mkCal T.F_L_hand T.g__law_hand sc_L_hand (fun _ _ _ _ _ _ us hl => match us, hl with | [_], _ => rfl) (fun vs H Q E h => ?_) (fun cdv A outer s H vs Q E hr h => ?_)
  · obtain ⟨a, ns, rfl, hs, Qk⟩ := h
    rfl
  obtain ⟨a, ns, rfl, hs, Qk⟩ := h
  have nd := sc_L_hand.nd
  have hu := hu_of hr
  refine ⟨_, (pss_cons (ps_setLc (i := 1) (own := [("_law_cell", 4)]) (g := gName 4) (tt := tYes) rfl nd rfl rfl (sw_true rfl rfl rfl (by decide +kernel)) (pi_list (pe_slice sl_list (pv 0) po_none (po_some pe_int))) (blkOk_by (N := N_L_hand) (sc := defScope s_L_hand) (by decide +kernel)) (fun _ _ _ _ _ => (pg_name (i := 4) nd rfl (Or.inl rfl))) (fun _ _ _ _ _ => pts_nil) (fun _ _ _ _ _ => (pe_callB call_abs (by rfl) T.z_abs bt_abs (pa_cons (pe_callTy call_int1 (by rfl) T.z_int bt_int (pa_cons (pv 4) pa_nil)) pa_nil))))
    (pss_cons (ps_set (i := 2) nd rfl (Or.inl rfl) (pe_op op_cat (pe_lc (wi := iList K _) (own := [("_law_cell", 4)]) (g := gName 4) rfl nd (pi_list (pv 1)) (blkOk_by (N := N_L_hand) (sc := defScope s_L_hand) (by decide +kernel)) (fun _ _ _ _ _ => (pg_name (i := 4) nd rfl (Or.inl rfl))) (fun _ _ _ _ _ => (pts_one (pt_cmpR op_lt (pv 4) (pe_op op_pow pe_int pe_int) (nomark _)))) (fun _ _ _ _ _ => (pe_op op_mod (pe_callTy call_int1 (by rfl) T.z_int bt_int (pa_cons (pv 4) pa_nil)) pe_int))) (pe_lst (pa_cons (pe_op op_add (pe_op op_mul pe_int (pe_callB (r := rLen K) call_len_seq (by rfl) T.z_len bt_len (pa_cons (pv 1) pa_nil))) pe_int) pa_nil))))
    (pss_cons (ps_setLc (i := 3) (own := [("_law_cell", 4)]) (g := gName 4) rfl nd rfl rfl (sw_true rfl rfl rfl (by decide +kernel)) (pi_list (pv 1)) (blkOk_by (N := N_L_hand) (sc := defScope s_L_hand) (by decide +kernel)) (fun _ _ _ _ _ => (pg_name (i := 4) nd rfl (Or.inl rfl))) (fun _ _ _ _ _ => (pts_one (pt_cmpR op_ge (pv 4) (pe_op op_pow pe_int pe_int) (nomark _)))) (fun _ _ _ _ _ => (pv 4)))
    (pss_one (ps_ret (pe_disp (pps_cons pe_str (pv 3) (pps_cons pe_str (pv 2) (pps_cons pe_str (pe_op op_mod (pe_callTy call_int1 (by rfl) T.z_int bt_int (pa_cons (pe_callB (r := rSum K) (cr_sum rfl) (by rfl) T.z_sum bt_sum (pa_cons (pv 2) pa_nil)) pa_nil)) pe_int) (pps_cons pe_str pe_int pps_nil)))) (by rfl) (by rfl) (fun z => by cases z) (by decide))))))), ?_⟩
  refine ⟨_, rfl, _, rfl, a, _, rfl, hs, fun c nc => ?_⟩
  have ecut : cutV (ns.map V.int) none (some 63) = (ns.take 63).map V.int := by
    unfold cutV
    have e63 : HT.sIx (ns.map V.int).length (ns.map V.int).length (some 63) = min 63 (ns.map V.int).length := HT.sIx_nat _ _ 63
    rw [HT.sIx_none, e63, List.drop_zero, List.map_take]
    by_cases h : (ns.map V.int).length ≤ 63
    · rw [List.take_of_length_le (by omega), List.take_of_length_le h]
    · rw [show min 63 (ns.map V.int).length - 0 = 63 by omega]
  rw [ecut]
  have hcut : (ns.take 63).length ≤ 63 := by rw [List.length_take]; omega
  generalize ns.take 63 = ks at hcut
  have s1 : Same H (upd H c (.lst (ks.map V.int))) := sm_up nc
  refine ⟨c, rfl, ⟨_, SqL.of upd_same⟩, fun D nD => ?_⟩
  refine lcI (walk_list (xs := ks.map V.int)) nD (fun _ v n => v = V.int n) (fun i => (ks.map fun k => (k.natAbs : Int)).take i) rfl (fun H' s => SqL.of (s _ _ upd_same)) ?_ ?_
  · rintro i x H1 _ hi L ⟨rfl, hx⟩
    obtain ⟨k, hk, rfl⟩ := map_int_get hx
    refine ⟨rfl, yesI ?_⟩
    refine ⟨_, rfl, .inl ⟨_, rfl, _, rfl, ?_⟩⟩
    rw [abs_eq]
    refine L.push OfT.con.kept nD (Same.refl _) (x := (k.natAbs : Int)) rfl (take_snoc (by rw [List.getElem?_map, hk]; rfl)) ?_
    rw [List.length_take, List.length_map]
    omega
  intro H1 ys s2 hD hp
  rw [List.length_map, List.take_of_length_le (by rw [List.length_map]; exact Nat.le_refl _)] at hp
  have hcl : (ks.map fun k => (k.natAbs : Int)).length ≤ 63 := by rw [List.length_map]; exact hcut
  generalize (ks.map fun k => (k.natAbs : Int)) = cs at hp hcl
  have e1 := hp.is
  subst e1
  have hDl : SqL K H1 D (cs.map V.int) := SqL.of hD
  refine ⟨_, rfl, D, rfl, ⟨_, hDl⟩, fun D2 nD2 => ?_⟩
  refine lcI (walk_list (xs := cs.map V.int)) nD2 (fun _ v n => v = V.int n) (fun i => ((cs.take i).filter fun k => decide (k < 10 ^ 18)).map fun k => k % 1000000007) rfl (fun H' s => SqL.of (s _ _ hD)) ?_ ?_
  · rintro i x H2 _ hi L ⟨rfl, hx⟩
    obtain ⟨k, hk, rfl⟩ := map_int_get hx
    refine ⟨rfl, _, rfl, _, _, rfl, rfl, ⟨by decide, by decide, by decide⟩, _, _, rfl, rfl, _, rfl, ite2 (fun c => ?_) (fun c => ?_)⟩
    · have e : decide (k < 10 ^ 18) = true := c
      refine ⟨_, rfl, .inl ⟨_, rfl, _, _, rfl, rfl, (show (0 : Int) < 1000000007 by decide), L.push OfT.con.kept nD2 (Same.refl _) (x := k % 1000000007) rfl ?_ ?_⟩⟩
      · rw [take_snoc hk, List.filter_append, List.map_append, List.filter_cons_of_pos (by exact e)]
        rfl
      · rw [List.length_map]
        have := List.length_filter_le (fun k : Int => decide (k < 10 ^ 18)) (cs.take i)
        rw [List.length_take] at this
        omega
    · have e : ¬ decide (k < 10 ^ 18) = true := c
      refine L.skip OfT.con.kept (Same.refl _) ?_
      rw [take_snoc hk, List.filter_append, List.map_append, List.filter_cons_of_neg (by exact e)]
      exact List.append_nil _
  intro H2 ys2 s3 hD2 hp2
  have e2 := hp2.is
  subst e2
  rw [List.length_map, List.take_length] at hD2
  have hl2 : ((cs.filter fun k => decide (k < 10 ^ 18)).map fun k => k % 1000000007).length ≤ 63 := by
    rw [List.length_map]
    exact Nat.le_trans (List.length_filter_le _ _) hcl
  generalize ((cs.filter fun k => decide (k < 10 ^ 18)).map fun k => k % 1000000007) = small at hD2 hl2
  refine ⟨_, rfl, _, _, rfl, .inl (SqL.of (s3 _ _ hD)), _, _, rfl, rfl, .inl ⟨by decide, by decide⟩, _, _, rfl, rfl, ?_⟩
  refine ⟨(by show 1 ≤ sizeLine; decide), fun l nl => ?_⟩
  refine ⟨D2, l, small.map V.int, [V.int (37 * ((cs.map V.int).length : Int) + 11)], rfl, rfl, up_at hD2 nl, upd_same, sz (by rw [List.length_map]; show _ + 1 ≤ _; omega), fun q nq => ?_⟩
  have e4 : small.map V.int ++ [V.int (37 * ((cs.map V.int).length : Int) + 11)] = (small ++ [(37 * ((cs.map V.int).length : Int) + 11)]).map V.int := by rw [List.map_append]; rfl
  rw [e4]
  have s4 : Same H2 (upd (upd H2 l (.lst [V.int (37 * ((cs.map V.int).length : Int) + 11)])) q (.lst ((small ++ [(37 * ((cs.map V.int).length : Int) + 11)]).map V.int))) := sm_new (sm_up nl) nq
  have hD4 := s4 _ _ (s3 _ _ hD)
  have hq4 : (upd (upd H2 l (.lst [V.int (37 * ((cs.map V.int).length : Int) + 11)])) q (.lst ((small ++ [(37 * ((cs.map V.int).length : Int) + 11)]).map V.int))) q = some (.lst ((small ++ [(37 * ((cs.map V.int).length : Int) + 11)]).map V.int)) := upd_same
  refine ⟨_, rfl, D, rfl, ⟨_, SqL.of hD4⟩, fun g ng => ?_⟩
  refine lcI (walk_list (xs := cs.map V.int)) ng (fun _ v n => v = V.int n) (fun i => ((cs.take i).filter fun k => decide (10 ^ 18 ≤ k))) rfl (fun H' s => SqL.of (s _ _ hD4)) ?_ ?_
  · rintro i x H5 _ hi L ⟨rfl, hx⟩
    obtain ⟨k, hk, rfl⟩ := map_int_get hx
    refine ⟨rfl, _, rfl, _, _, rfl, rfl, ⟨by decide, by decide, by decide⟩, _, _, rfl, rfl, _, rfl, ite2 (fun c => ?_) (fun c => ?_)⟩
    · have e : decide (10 ^ 18 ≤ k) = true := c
      refine ⟨_, rfl, L.push OfT.con.kept ng (Same.refl _) (x := k) rfl ?_ ?_⟩
      · rw [take_snoc hk, List.filter_append, List.filter_cons_of_pos (by exact e)]
        rfl
      · have := List.length_filter_le (fun k : Int => decide (10 ^ 18 ≤ k)) (cs.take i)
        rw [List.length_take] at this
        omega
    · have e : ¬ decide (10 ^ 18 ≤ k) = true := c
      refine L.skip OfT.con.kept (Same.refl _) ?_
      rw [take_snoc hk, List.filter_append, List.filter_cons_of_neg (by exact e)]
      exact List.append_nil _
  intro H5 ys5 s5 hg hp5
  have e5 := hp5.is
  subst e5
  rw [List.length_map, List.take_length] at hg
  have hl5 := Nat.le_trans (List.length_filter_le (fun k : Int => decide (10 ^ 18 ≤ k)) cs) hcl
  generalize (cs.filter fun k => decide (10 ^ 18 ≤ k)) = big at hg hl5
  have hq5 := s5 _ _ hq4
  have ngq : g ≠ q := by
    intro e
    rw [e, hq4] at ng
    cases ng
  have s15 : Same H H5 := (((s1.trans s2).trans s3).trans s4).trans s5
  intro p np
  refine ⟨_, rfl, _, rfl, _, rfl, q, _, rfl, SqL.of (up_at hq5 np), .inl ⟨_, rfl, _, _, rfl, rfl, (show (0 : Int) < 999979 by decide), upd_same, [(kGreat, .ref g), (kSmall, .ref q), (kSum, _), (kTurn, .int 0)], rfl, (by show 4 ≤ 15; decide), ?_⟩⟩
  have npg : p ≠ g := by
    intro e
    rw [e, hg] at np
    cases np
  have npq : p ≠ q := by
    intro e
    rw [e, hq5] at np
    cases np
  refine Qk p g q _ ?_ ⟨big, small ++ [(37 * ((cs.map V.int).length : Int) + 11)], _, 0, upd_same, ?_, ?_, by simp, ngq, by rw [List.length_append]; show _ + 1 ≤ _; omega, by omega⟩
  · exact sm_mut (sm_new s15 np) (s15.free np)
  · rw [upd_ne npg.symm, upd_ne npg.symm]
    exact hg
  · rw [upd_ne npq.symm, upd_ne npq.symm]
    exact hq5

end
end Cb
namespace Cb
open PySem PySem.Spec PyProof.Rows L2
section
variable {P : Program} {w : World} {K : PySem.W.Frag} {mg : Str → Option Value} {base : Heap}
/-! ### trees -/
/-- v is the tree t -/
def TreeAt (H : Hp) : V → Tree → Prop
  | v, .yes => ∃ a, v = .ref a ∧ H a = some (.tup [.str "yes"])
  | v, .no => ∃ a, v = .ref a ∧ H a = some (.tup [.str "no"])
  | v, .b i => ∃ a, v = .ref a ∧ H a = some (.tup [.str "b", .int (i : Int)])
  | v, .c i j => ∃ a, v = .ref a ∧ H a = some (.tup [.str "c", .int (i : Int), .int (j : Int)])
  | v, .not t => ∃ a x, v = .ref a ∧ H a = some (.tup [.str "not", x]) ∧ TreeAt H x t
  | v, .and t u => ∃ a x y, v = .ref a ∧ H a = some (.tup [.str "and", x, y]) ∧ TreeAt H x t ∧ TreeAt H y u
  | v, .or t u => ∃ a x y, v = .ref a ∧ H a = some (.tup [.str "or", x, y]) ∧ TreeAt H x t ∧ TreeAt H y u
theorem TreeAt.tk {H H' : Hp} (e : Tk H H') : ∀ {t : Tree} {v : V}, TreeAt H v t → TreeAt H' v t
  | .yes, v, ⟨a, h1, h2⟩ => ⟨a, h1, e _ _ h2⟩
  | .no, v, ⟨a, h1, h2⟩ => ⟨a, h1, e _ _ h2⟩
  | .b i, v, ⟨a, h1, h2⟩ => ⟨a, h1, e _ _ h2⟩
  | .c i j, v, ⟨a, h1, h2⟩ => ⟨a, h1, e _ _ h2⟩
  | .not t, v, ⟨a, x, h1, h2, h3⟩ => ⟨a, x, h1, e _ _ h2, h3.tk e⟩
  | .and t u, v, ⟨a, x, y, h1, h2, h3, h4⟩ => ⟨a, x, y, h1, e _ _ h2, h3.tk e, h4.tk e⟩
  | .or t u, v, ⟨a, x, y, h1, h2, h3, h4⟩ => ⟨a, x, y, h1, e _ _ h2, h3.tk e, h4.tk e⟩
/-- both sides of a conditional lead on by the same facts -/
theorem ifVia {b : Bool} {ta tb : TE} {σ : L2.St} {H : Hp} {G : VK} (A : V → Hp → Prop) (h : ∀ x H1, A x H1 → G x H1) (ht : b = true → ∀ G : VK, (∀ x H1, A x H1 → G x H1) → ta σ H G) (hf : ¬ b = true → ∀ G : VK, (∀ x H1, A x H1 → G x H1) → tb σ H G) : if b = true then ta σ H G else tb σ H G := by
  by_cases c : b = true
  · rw [if_pos c]
    exact ht c G h
  · rw [if_neg c]
    exact hf c G h
/-- .. of two statements -/
theorem ifViaS {b : Bool} {ta tb : TS} {D : Ends} {σ : L2.St} {H : Hp} (A : L2.St → Hp → Prop) (h : ∀ σ' H1, A σ' H1 → D.nx σ' H1) (ht : b = true → ∀ D : Ends, (∀ σ' H1, A σ' H1 → D.nx σ' H1) → ta D σ H) (hf : ¬ b = true → ∀ D : Ends, (∀ σ' H1, A σ' H1 → D.nx σ' H1) → tb D σ H) : if b = true then ta D σ H else tb D σ H := by
  by_cases c : b = true
  · rw [if_pos c]
    exact ht c D h
  · rw [if_neg c]
    exact hf c D h
def spTree : Nat → Sp
  | 0 => fun _ _ _ _ => False
  | n + 1 => fun vs H Q _ => ∃ (p g q : Addr) (v : V) (sz : List Nat) (d : Int), vs = [.ref p, v, .int d] ∧ Hand p g q H ∧ TIn H v (isz sz) ∧ Sz sz ∧ 0 ≤ d ∧ d ≤ (n : Int) ∧
    ∀ r H' t, Mv p g H H' → Hand p g q H' → TreeAt H' r t → t.Good sz → (t.depth : Int) ≤ d → Q r H'
theorem isz_at {sz : List Nat} {i : Nat} (h : i < sz.length) : ∃ n : Nat, sz[i]? = some n ∧ ((isz sz).map V.int)[i]? = some (.int (n : Int)) := by
  refine ⟨sz[i], List.getElem?_eq_getElem h, ?_⟩
  rw [List.getElem?_map, isz_get (List.getElem?_eq_getElem h)]
  rfl
abbrev N_L_tree : List Str := ["_law_hand_here", "_law_sizes", "_law_depth", "_law_kind_here", "_law_column"]
theorem sc_L_tree : FnScope N_L_tree ["_law_hand_here", "_law_sizes", "_law_depth"] (defScope s_L_tree) := ⟨rfl, rfl, rfl, by decide +kernel, rfl, by decide +kernel, by decide +kernel⟩
theorem cal0_L_tree (T : Txt w K mg) : C8.Cal P w K mg base 3 "_law_tree" (spTree 0) [] := mkCal T.F_L_tree T.g__law_tree sc_L_tree (fun _ _ _ _ _ _ us hl => match us, hl with | [_, _, _], _ => rfl) (fun vs H Q E h => h.elim) (fun cdv A outer s H vs Q E hr h => h.elim)
theorem calS_L_tree (T : Txt w K mg) {n : Nat} (c_L_tree : C8.Cal P w K mg base (3 + n) "_law_tree" (spTree n) []) : C8.Cal P w K mg base (3 + n + 1) "_law_tree" (spTree (n + 1)) [] := by
  have c_L_draw := cal_L_draw (P := P) (base := base) T
  have c_L_any := cal_L_any (P := P) (base := base) T
  refine mkCal T.F_L_tree T.g__law_tree sc_L_tree (fun _ _ _ _ _ _ us hl => match us, hl with | [_, _, _], _ => rfl) (fun vs H Q E h => ?_) (fun cdv A outer s H vs Q E hr h => ?_)
  · obtain ⟨p, g, q, v, sz, d, rfl, hh, ⟨a, rfl, hs⟩, hz, d0, dn, Qk⟩ := h
    rfl
  obtain ⟨p, g, q, v, sz, d, rfl, hh, ⟨a, rfl, hs⟩, hz, d0, dn, Qk⟩ := h
  have nd := sc_L_tree.nd
  have hu := hu_of hr
  refine ⟨_, (pss_cons (ps_set (i := 3) nd rfl (Or.inl rfl) (pe_ifExp (pt_cmpR op_gt (pv 2) pe_int (nomark _)) (C8.pe_c c_L_draw hr (by omega) rfl (pa_cons (pv 0) (pa_cons pe_int pa_nil))) pe_int))
    (pss_cons (ps_if (pt_cmpR op_lt (pv 3) pe_int (nomark _))
    (pss_cons (ps_set (i := 4) nd rfl (Or.inl rfl) (C8.pe_c c_L_draw hr (by omega) rfl (pa_cons (pv 0) (pa_cons (pe_callB (r := rLen K) call_len_seq (by rfl) T.z_len bt_len (pa_cons (pv 1) pa_nil)) pa_nil))))
    (pss_cons (ps_if (pt_cmpR op_eq (C8.pe_c c_L_draw hr (by omega) rfl (pa_cons (pv 0) (pa_cons pe_int pa_nil))) pe_int (nomark _))
    (pss_one (ps_ret (pe_tup (pa_cons pe_str (pa_cons (pv 4) pa_nil)))))
    pss_nil)
    (pss_one (ps_ret (pe_ifExp (pt_cmpR op_gt (C8.pe_c c_L_draw hr (by omega) rfl (pa_cons (pv 0) (pa_cons pe_int pa_nil))) pe_int (nomark _)) (pe_tup (pa_cons pe_str (pa_cons (pv 4) (pa_cons (C8.pe_c c_L_draw hr (by omega) rfl (pa_cons (pv 0) (pa_cons (pe_ix (r := rIxT K) ix_tup (pv 1) (pv 4) (fun _ _ => rfl)) pa_nil))) pa_nil)))) (C8.pe_c c_L_any hr (by omega) rfl (pa_cons (pv 0) (pa_cons (pe_lst (pa_cons (pe_tup (pa_cons pe_str pa_nil)) (pa_cons (pe_tup (pa_cons pe_str pa_nil)) pa_nil))) pa_nil))))))))
    pss_nil)
    (pss_cons (ps_if (pt_cmpR op_lt (pv 3) pe_int (nomark _))
    (pss_one (ps_ret (pe_tup (pa_cons pe_str (pa_cons (C8.pe_c c_L_tree hr (by omega) rfl (pa_cons (pv 0) (pa_cons (pv 1) (pa_cons (pe_op op_sub (pv 2) pe_int) pa_nil)))) pa_nil)))))
    pss_nil)
    (pss_one (ps_ret (pe_tup (pa_cons (pe_ifExp (pt_cmpR op_lt (pv 3) pe_int (nomark _)) pe_str pe_str) (pa_cons (C8.pe_c c_L_tree hr (by omega) rfl (pa_cons (pv 0) (pa_cons (pv 1) (pa_cons (pe_op op_sub (pv 2) pe_int) pa_nil)))) (pa_cons (C8.pe_c c_L_tree hr (by omega) rfl (pa_cons (pv 0) (pa_cons (pv 1) (pa_cons (pe_op op_sub (pv 2) pe_int) pa_nil)))) pa_nil))))))))), ?_⟩
  have hs' : SqT K H a ((isz sz).map V.int) := SqT.of hs
  have hlen : ((isz sz).map V.int).length = sz.length := by rw [List.length_map, isz_len]
  have l1 := hz.l1
  have l4 := hz.l4
  refine ⟨_, rfl, _, _, rfl, rfl, _, rfl, ?_⟩
  refine ifVia (fun x H1 => ∃ k : Int, x = .int k ∧ Mv p g H H1 ∧ Hand p g q H1 ∧ 0 ≤ k ∧ (0 < k → 0 < d)) ?_ (fun c G hG => ?_) (fun c G hG => ?_)
  rotate_left
  · have c' : 0 < d := of_decide_eq_true c
    exact ⟨_, rfl, p, g, q, 12, rfl, hh, by decide, by decide, fun k H1 mv hh1 k0 _ => hG _ _ ⟨k, rfl, mv, hh1, k0, fun _ => c'⟩⟩
  · exact hG _ _ ⟨0, rfl, Mv.refl H, hh, by decide, fun z => absurd z (by decide)⟩
  rintro _ H1 ⟨k, rfl, mv1, hh1, k0, kd⟩
  refine ⟨_, rfl, _, _, rfl, rfl, _, rfl, ite2 (fun c4 => ?_) (fun c4 => ?_)⟩
  · have hs1 := hs' 
    have tk1 := hh.tk mv1
    have ha1 := tk1 _ _ hs
    refine ⟨_, rfl, _, rfl, _, _, rfl, .inr (SqT.of ha1), p, g, q, _, rfl, hh1, by omega, by omega, fun i H2 mv2 hh2 i0 i1 => ?_⟩
    have mv12 := mv1.trans mv2
    have ha2 := (hh1.tk mv2) _ _ ha1
    rw [hlen] at i1
    have hi : i.toNat < sz.length := by omega
    have ei : ((i.toNat : Nat) : Int) = i := by omega
    refine ⟨_, rfl, p, g, q, 3, rfl, hh2, by decide, by decide, fun k3 H3 mv3 hh3 _ _ => ?_⟩
    have mv13 := mv12.trans mv3
    have ha3 := (hh2.tk mv3) _ _ ha2
    refine ⟨rfl, _, rfl, ite2 (fun c => ?_) (fun c => ?_)⟩
    · refine ⟨_, rfl, (by show 2 ≤ sizeLine; decide), fun r nr => ?_⟩
      have sr := sm_up (o := .tup [V.str "b", V.int i]) nr
      refine Qk _ _ (.b i.toNat) (mv13.trans (Mv.of sr)) (hh3.sm sr) ⟨r, rfl, ?_⟩ hi (by show (0 : Int) ≤ d; exact d0)
      rw [upd_same, ei]
    · refine ⟨_, rfl, p, g, q, 6, rfl, hh3, by decide, by decide, fun k6 H4 mv4 hh4 _ _ => ⟨_, _, rfl, rfl, _, rfl, ite2 (fun c => ?_) (fun c => ?_)⟩⟩
      · have ha4 := (hh3.tk mv4) _ _ ha3
        obtain ⟨n, hn, hnv⟩ := isz_at hi
        have hb := hz.b n (List.mem_of_getElem? hn)
        refine ⟨_, rfl, _, rfl, _, rfl, _, rfl, a, _, _, _, rfl, rfl, SqT.of ha4, at_of ei.symm hnv, p, g, q, _, rfl, hh4, by omega, by omega, fun j H5 mv5 hh5 j0 j1 => ⟨(by show 3 ≤ sizeLine; decide), fun r nr => ?_⟩⟩
        have ej : ((j.toNat : Nat) : Int) = j := by omega
        have sr := sm_up (o := .tup [V.str "c", V.int i, V.int j]) nr
        refine Qk _ _ (.c i.toNat j.toNat) (((mv13.trans mv4).trans mv5).trans (Mv.of sr)) (hh5.sm sr) ⟨r, rfl, ?_⟩ ⟨n, hn, by omega⟩ (by show (0 : Int) ≤ d; exact d0)
        rw [upd_same, ei, ej]
      · refine ⟨_, rfl, (by show 1 ≤ sizeLine; decide), fun y ny => ⟨(by show 1 ≤ sizeLine; decide), fun z nz => ⟨(by show 2 ≤ sizeLine; decide), fun l nl => ?_⟩⟩⟩
        have sy := sm_up (o := .tup [V.str "yes"]) ny
        have sz1 := sm_new (o := .tup [V.str "no"]) sy nz
        have sl := sm_new (o := .lst [V.ref y, V.ref z]) sz1 nl
        have hhl := hh4.sm sl
        refine ⟨p, g, q, l, _, rfl, hhl, upd_same, (hh4.fre (sz1.free nl)).g, (by show 0 < 2; decide), (by show 2 ≤ 100000; decide), fun x H5 mv5 hh5 hx => ?_⟩
        have hy : H5 y = some (.tup [V.str "yes"]) := (hhl.tk mv5) _ _ (up_at (up_at upd_same nz) nl)
        have hz5 : H5 z = some (.tup [V.str "no"]) := (hhl.tk mv5) _ _ (up_at upd_same nl)
        have mv05 := ((mv13.trans mv4).trans (Mv.of sl)).trans mv5
        simp only [List.mem_cons, List.not_mem_nil, or_false] at hx
        rcases hx with rfl | rfl
        · exact Qk _ _ .yes mv05 hh5 ⟨y, rfl, hy⟩ trivial (by show (0 : Int) ≤ d; exact d0)
        · exact Qk _ _ .no mv05 hh5 ⟨z, rfl, hz5⟩ trivial (by show (0 : Int) ≤ d; exact d0)
  · have dpos : 0 < d := kd (by
      have : ¬ k < 4 := fun z => c4 (decide_eq_true z)
      omega)
    have ha1 := (hh.tk mv1) _ _ hs
    have hi1 : ∀ {n : Nat}, d ≤ ((n + 1 : Nat) : Int) → d - 1 ≤ (n : Int) := fun h => by omega
    cases n with
    | zero => exact absurd dpos (by omega)
    | succ n =>
    refine ⟨_, rfl, _, _, rfl, rfl, _, rfl, ite2 (fun c => ?_) (fun c => ?_)⟩
    · refine ⟨_, rfl, _, rfl, _, rfl, _, _, rfl, rfl, p, g, q, _, sz, d - 1, rfl, hh1, ⟨a, rfl, ha1⟩, hz, by omega, hi1 dn, fun r H2 t mv2 hh2 ht gt dt => ?_⟩
      refine ⟨(by show 2 ≤ sizeLine; decide), fun x nx => ?_⟩
      have sx := sm_up (o := .tup [V.str "not", r]) nx
      exact Qk _ _ (.not t) ((mv1.trans mv2).trans (Mv.of sx)) (hh2.sm sx) ⟨x, r, rfl, upd_same, ht.tk (sm_tk sx)⟩ gt (by show ((t.depth + 1 : Nat) : Int) ≤ d; omega)
    · have rest : ∀ (nm : Str) (mk : Tree → Tree → Tree), (∀ H v t u, (∃ a x y, v = .ref a ∧ H a = some (.tup [.str nm, x, y]) ∧ TreeAt H x t ∧ TreeAt H y u) → TreeAt H v (mk t u)) → (∀ t u, (mk t u).depth = max t.depth u.depth + 1) → (∀ t u, t.Good sz → u.Good sz → (mk t u).Good sz) →
          tCons (tCall (spTree (n + 1)) [] C8.E0 (tCons (tVar 0) (tCons (tVar 1) (tCons (tOp (rI0 fun i j => V.int (i - j)) (tVar 2) (tC (V.int 1))) tNil)))) (tCons (tCall (spTree (n + 1)) [] C8.E0 (tCons (tVar 0) (tCons (tVar 1) (tCons (tOp (rI0 fun i j => V.int (i - j)) (tVar 2) (tC (V.int 1))) tNil)))) tNil)
            [some (.ref p), some (.ref a), some (.int d), some (.int k), none] H1 (fun xs H2 => ((V.str nm) :: xs).length ≤ sizeLine ∧ ∀ r, H2 r = none → Q (.ref r) (upd H2 r (.tup (V.str nm :: xs)))) := by
        intro nm mk hmk hdp hgd
        refine ⟨_, rfl, _, rfl, _, rfl, _, _, rfl, rfl, p, g, q, _, sz, d - 1, rfl, hh1, ⟨a, rfl, ha1⟩, hz, by omega, hi1 dn, fun r H2 t mv2 hh2 ht gt dt => ?_⟩
        have ha2 := (hh1.tk mv2) _ _ ha1
        refine ⟨_, rfl, _, rfl, _, rfl, _, _, rfl, rfl, p, g, q, _, sz, d - 1, rfl, hh2, ⟨a, rfl, ha2⟩, hz, by omega, hi1 dn, fun r2 H3 t2 mv3 hh3 ht2 gt2 dt2 => ?_⟩
        refine ⟨(by show 3 ≤ sizeLine; decide), fun x nx => ?_⟩
        have sx := sm_up (o := .tup [V.str nm, r, r2]) nx
        refine Qk _ _ (mk t t2) (((mv1.trans mv2).trans mv3).trans (Mv.of sx)) (hh3.sm sx) (hmk _ _ _ _ ⟨x, r, r2, rfl, upd_same, (ht.tk (hh2.tk mv3)).tk (sm_tk sx), ht2.tk (sm_tk sx)⟩) (hgd _ _ gt gt2) ?_
        rw [hdp]
        omega
      refine ⟨_, rfl, _, _, rfl, rfl, _, rfl, ite2 (fun c => ?_) (fun c => ?_)⟩
      · exact rest "and" Tree.and (fun _ _ _ _ h => h) (fun _ _ => rfl) (fun _ _ a b => ⟨a, b⟩)
      · exact rest "or" Tree.or (fun _ _ _ _ h => h) (fun _ _ => rfl) (fun _ _ a b => ⟨a, b⟩)
theorem cal_L_tree (T : Txt w K mg) (n : Nat) : C8.Cal P w K mg base (3 + n) "_law_tree" (spTree n) [] := by
  induction n with
  | zero => exact cal0_L_tree T
  | succ n ih => exact calS_L_tree T ih
/-! ### what a tree answers -/
theorem iteFd {b : Bool} {A B : Prop} (hb : b = false) (h : B) : if b = true then A else B := by
  rw [hb]
  exact iteF h
theorem iteTd {b : Bool} {A B : Prop} (hb : b = true) (h : A) : if b = true then A else B := by
  rw [hb]
  exact iteT h
theorem sNe {a b : Str} (h : a ≠ b) : decide (V.str a = V.str b) = false := decide_eq_false fun e => h (V.str.inj e)
theorem sEq {a : Str} : decide (V.str a = V.str a) = true := decide_eq_true rfl
def spIsSo : Nat → Sp
  | 0 => fun _ _ _ _ => False
  | n + 1 => fun vs H Q _ => ∃ (v cv pv : V) (t : Tree) (sz : List Nat) (c pat : List Int), vs = [v, cv, pv] ∧ TreeAt H v t ∧ TIn H cv c ∧ TIn H pv pat ∧ t.Good sz ∧ c.length = sz.length ∧ t.depth ≤ n ∧ Q (.bl (t.val c pat)) H
abbrev N_L_is_so : List Str := ["_law_tree_here", "_law_content", "_law_pattern", "_law_word"]
theorem sc_L_is_so : FnScope N_L_is_so ["_law_tree_here", "_law_content", "_law_pattern"] (defScope s_L_is_so) := ⟨rfl, rfl, rfl, by decide +kernel, rfl, by decide +kernel, by decide +kernel⟩
theorem cal0_L_is_so (T : Txt w K mg) : C8.Cal P w K mg base 1 "_law_is_so" (spIsSo 0) [] := mkCal T.F_L_is_so T.g__law_is_so sc_L_is_so (fun _ _ _ _ _ _ us hl => match us, hl with | [_, _, _], _ => rfl) (fun vs H Q E h => h.elim) (fun cdv A outer s H vs Q E hr h => h.elim)
theorem calS_L_is_so (T : Txt w K mg) {n : Nat} (c_L_is_so : C8.Cal P w K mg base (1 + n) "_law_is_so" (spIsSo n) []) : C8.Cal P w K mg base (1 + n + 1) "_law_is_so" (spIsSo (n + 1)) [] := by
  refine mkCal T.F_L_is_so T.g__law_is_so sc_L_is_so (fun _ _ _ _ _ _ us hl => match us, hl with | [_, _, _], _ => rfl) (fun vs H Q E h => ?_) (fun cdv A outer s H vs Q E hr h => ?_)
  · obtain ⟨v, cv, pv, t, sz, c, pat, rfl, ht, ⟨ca, rfl, hc⟩, ⟨pa, rfl, hp⟩, hg, hcl, hd, Qk⟩ := h
    rfl
  obtain ⟨v, cv, pv, t, sz, c, pat, rfl, ht, ⟨ca, rfl, hc⟩, ⟨pa, rfl, hp⟩, hg, hcl, hd, Qk⟩ := h
  have nd := sc_L_is_so.nd
  have hu := hu_of hr
  refine ⟨_, (pss_cons (ps_set (i := 3) nd rfl (Or.inl rfl) (pe_ix (r := rIxT K) ix_tup (pv 0) pe_int (fun _ _ => rfl)))
    (pss_cons (ps_if (pt_cmpR op_eq (pv 3) pe_str (nomark _))
    (pss_one (ps_ret (pe_cmpR op_eq (pe_ix (r := rIxT K) ix_tup (pv 1) (pe_ix (r := rIxT K) ix_tup (pv 0) pe_int (fun _ _ => rfl)) (fun _ _ => rfl)) (pe_ix (r := rIxT K) ix_tup (pv 0) pe_int (fun _ _ => rfl)) (nomark _))))
    pss_nil)
    (pss_cons (ps_if (pt_cmpR op_eq (pv 3) pe_str (nomark _))
    (pss_one (ps_ret (pe_cmpR (r := rIn K true) op_notIn_seq (pe_ix (r := rIxT K) ix_tup (pv 0) pe_int (fun _ _ => rfl)) (pv 2) (by rfl))))
    pss_nil)
    (pss_cons (ps_if (pt_cmpR op_eq (pv 3) pe_str (nomark _))
    (pss_one (ps_ret (pe_not (C8.pe_c c_L_is_so hr (by omega) rfl (pa_cons (pe_ix (r := rIxT K) ix_tup (pv 0) pe_int (fun _ _ => rfl)) (pa_cons (pv 1) (pa_cons (pv 2) pa_nil)))))))
    pss_nil)
    (pss_cons (ps_if (pt_cmpR op_eq (pv 3) pe_str (nomark _))
    (pss_one (ps_ret (pe_and (C8.pe_c c_L_is_so hr (by omega) rfl (pa_cons (pe_ix (r := rIxT K) ix_tup (pv 0) pe_int (fun _ _ => rfl)) (pa_cons (pv 1) (pa_cons (pv 2) pa_nil)))) (pe_one (C8.pe_c c_L_is_so hr (by omega) rfl (pa_cons (pe_ix (r := rIxT K) ix_tup (pv 0) pe_int (fun _ _ => rfl)) (pa_cons (pv 1) (pa_cons (pv 2) pa_nil))))))))
    pss_nil)
    (pss_cons (ps_if (pt_cmpR op_eq (pv 3) pe_str (nomark _))
    (pss_one (ps_ret (pe_or (C8.pe_c c_L_is_so hr (by omega) rfl (pa_cons (pe_ix (r := rIxT K) ix_tup (pv 0) pe_int (fun _ _ => rfl)) (pa_cons (pv 1) (pa_cons (pv 2) pa_nil)))) (pe_one (C8.pe_c c_L_is_so hr (by omega) rfl (pa_cons (pe_ix (r := rIxT K) ix_tup (pv 0) pe_int (fun _ _ => rfl)) (pa_cons (pv 1) (pa_cons (pv 2) pa_nil))))))))
    pss_nil)
    (pss_one (ps_ret (pe_cmpR op_eq (pv 3) pe_str (nomark _)))))))))), ?_⟩
  have hc' : SqT K H ca (c.map V.int) := SqT.of hc
  have hp' : SqT K H pa (pat.map V.int) := SqT.of hp
  have n1 : ∀ {a b : Str}, a ≠ b → decide (V.str a = V.str b) = false := sNe
  cases t with
  | yes =>
    obtain ⟨a, rfl, ha⟩ := ht
    refine ⟨_, rfl, _, _, _, _, rfl, rfl, SqT.of ha, at_of (j := 0) rfl rfl, ?_⟩
    refine ⟨_, rfl, rfl, _, rfl, iteFd (sNe (by decide +kernel)) ?_⟩
    refine ⟨_, rfl, rfl, _, rfl, iteFd (sNe (by decide +kernel)) ?_⟩
    refine ⟨_, rfl, rfl, _, rfl, iteFd (sNe (by decide +kernel)) ?_⟩
    refine ⟨_, rfl, rfl, _, rfl, iteFd (sNe (by decide +kernel)) ?_⟩
    refine ⟨_, rfl, rfl, _, rfl, iteFd (sNe (by decide +kernel)) ?_⟩
    refine ⟨_, rfl, rfl, ?_⟩
    rw [sEq]
    exact Qk
  | no =>
    obtain ⟨a, rfl, ha⟩ := ht
    refine ⟨_, rfl, _, _, _, _, rfl, rfl, SqT.of ha, at_of (j := 0) rfl rfl, ?_⟩
    refine ⟨_, rfl, rfl, _, rfl, iteFd (sNe (by decide +kernel)) ?_⟩
    refine ⟨_, rfl, rfl, _, rfl, iteFd (sNe (by decide +kernel)) ?_⟩
    refine ⟨_, rfl, rfl, _, rfl, iteFd (sNe (by decide +kernel)) ?_⟩
    refine ⟨_, rfl, rfl, _, rfl, iteFd (sNe (by decide +kernel)) ?_⟩
    refine ⟨_, rfl, rfl, _, rfl, iteFd (sNe (by decide +kernel)) ?_⟩
    refine ⟨_, rfl, rfl, ?_⟩
    rw [sNe (by decide +kernel)]
    exact Qk
  | b i =>
    obtain ⟨a, rfl, ha⟩ := ht
    refine ⟨_, rfl, _, _, _, _, rfl, rfl, SqT.of ha, at_of (j := 0) rfl rfl, ?_⟩
    refine ⟨_, rfl, rfl, _, rfl, iteFd (sNe (by decide +kernel)) ?_⟩
    refine ⟨_, rfl, rfl, _, rfl, iteTd sEq ?_⟩
    refine ⟨_, rfl, _, _, _, _, rfl, rfl, SqT.of ha, at_of (j := 1) rfl rfl, _, rfl, pa, _, rfl, .inr hp', rfl, flat_ints pat, ?_⟩
    have e : (if true then !inV (.int (i : Int)) (pat.map V.int) else inV (.int (i : Int)) (pat.map V.int)) = (Tree.b i).val c pat := by
      rw [inV_ints]
      rfl
    rw [← e] at Qk
    exact Qk
  | c i j =>
    obtain ⟨a, rfl, ha⟩ := ht
    refine ⟨_, rfl, _, _, _, _, rfl, rfl, SqT.of ha, at_of (j := 0) rfl rfl, ?_⟩
    refine ⟨_, rfl, rfl, _, rfl, iteTd sEq ?_⟩
    obtain ⟨n, hn, hj⟩ := hg
    have hi : i < c.length := by
      rw [hcl]
      exact (List.getElem?_eq_some_iff.mp hn).1
    refine ⟨_, rfl, _, rfl, _, _, _, _, rfl, rfl, SqT.of ha, at_of (j := 1) rfl rfl, _, _, _, _, rfl, rfl, hc', at_of (j := i) rfl (by rw [List.getElem?_map, List.getElem?_eq_getElem hi]; rfl), _, rfl, _, _, _, _, rfl, rfl, SqT.of ha, at_of (j := 2) rfl rfl, rfl, ?_⟩
    have e : decide (V.int c[i] = V.int (j : Int)) = (Tree.c i j).val c pat := by
      have e1 : c.getD i 0 = c[i] := by rw [List.getD_eq_getElem?_getD, List.getElem?_eq_getElem hi]; rfl
      show _ = decide (c.getD i 0 = (j : Int))
      rw [e1]
      simp
    rw [← e] at Qk
    exact Qk
  | not t =>
    obtain ⟨a, x, rfl, ha, hx⟩ := ht
    refine ⟨_, rfl, _, _, _, _, rfl, rfl, SqT.of ha, at_of (j := 0) rfl rfl, ?_⟩
    refine ⟨_, rfl, rfl, _, rfl, iteFd (sNe (by decide +kernel)) ?_⟩
    refine ⟨_, rfl, rfl, _, rfl, iteFd (sNe (by decide +kernel)) ?_⟩
    refine ⟨_, rfl, rfl, _, rfl, iteTd sEq ?_⟩
    cases n with
    | zero => exact absurd hd (by show ¬ t.depth + 1 ≤ 0; omega)
    | succ n =>
      refine ⟨_, rfl, _, _, _, _, rfl, rfl, SqT.of ha, at_of (j := 1) rfl rfl, _, rfl, _, rfl, _, _, _, t, sz, c, pat, rfl, hx, ⟨ca, rfl, hc⟩, ⟨pa, rfl, hp⟩, hg, hcl, by have h2 : t.depth + 1 ≤ n + 1 := hd; omega, _, rfl, Qk⟩
  | and t u =>
    obtain ⟨a, x, y, rfl, ha, hx, hy⟩ := ht
    refine ⟨_, rfl, _, _, _, _, rfl, rfl, SqT.of ha, at_of (j := 0) rfl rfl, ?_⟩
    refine ⟨_, rfl, rfl, _, rfl, iteFd (sNe (by decide +kernel)) ?_⟩
    refine ⟨_, rfl, rfl, _, rfl, iteFd (sNe (by decide +kernel)) ?_⟩
    refine ⟨_, rfl, rfl, _, rfl, iteFd (sNe (by decide +kernel)) ?_⟩
    refine ⟨_, rfl, rfl, _, rfl, iteTd sEq ?_⟩
    have hd2 : max t.depth u.depth + 1 ≤ n := hd
    cases n with
    | zero => exact absurd hd2 (by omega)
    | succ n =>
      refine ⟨_, rfl, _, _, _, _, rfl, rfl, SqT.of ha, at_of (j := 1) rfl rfl, _, rfl, _, rfl, _, _, _, t, sz, c, pat, rfl, hx, ⟨ca, rfl, hc⟩, ⟨pa, rfl, hp⟩, hg.1, hcl, by omega, _, rfl, ?_⟩
      refine ite2 (fun c1 => ?_) (fun c1 => ?_)
      · refine ⟨_, rfl, _, _, _, _, rfl, rfl, SqT.of ha, at_of (j := 2) rfl rfl, _, rfl, _, rfl, _, _, _, u, sz, c, pat, rfl, hy, ⟨ca, rfl, hc⟩, ⟨pa, rfl, hp⟩, hg.2, hcl, by omega, ?_⟩
        have e : (Tree.and t u).val c pat = u.val c pat := by
          show (t.val c pat && u.val c pat) = _
          rw [c1, Bool.true_and]
        rw [e] at Qk
        exact Qk
      · have e : (Tree.and t u).val c pat = false := by
          show (t.val c pat && u.val c pat) = _
          rw [Bool.eq_false_iff.mpr c1, Bool.false_and]
        rw [e] at Qk
        exact Qk
  | or t u =>
    obtain ⟨a, x, y, rfl, ha, hx, hy⟩ := ht
    refine ⟨_, rfl, _, _, _, _, rfl, rfl, SqT.of ha, at_of (j := 0) rfl rfl, ?_⟩
    refine ⟨_, rfl, rfl, _, rfl, iteFd (sNe (by decide +kernel)) ?_⟩
    refine ⟨_, rfl, rfl, _, rfl, iteFd (sNe (by decide +kernel)) ?_⟩
    refine ⟨_, rfl, rfl, _, rfl, iteFd (sNe (by decide +kernel)) ?_⟩
    refine ⟨_, rfl, rfl, _, rfl, iteFd (sNe (by decide +kernel)) ?_⟩
    refine ⟨_, rfl, rfl, _, rfl, iteTd sEq ?_⟩
    have hd2 : max t.depth u.depth + 1 ≤ n := hd
    cases n with
    | zero => exact absurd hd2 (by omega)
    | succ n =>
      refine ⟨_, rfl, _, _, _, _, rfl, rfl, SqT.of ha, at_of (j := 1) rfl rfl, _, rfl, _, rfl, _, _, _, t, sz, c, pat, rfl, hx, ⟨ca, rfl, hc⟩, ⟨pa, rfl, hp⟩, hg.1, hcl, by omega, _, rfl, ?_⟩
      refine ite2 (fun c1 => ?_) (fun c1 => ?_)
      · have e : (Tree.or t u).val c pat = true := by
          show (t.val c pat || u.val c pat) = _
          rw [c1, Bool.true_or]
        rw [e] at Qk
        exact Qk
      · refine ⟨_, rfl, _, _, _, _, rfl, rfl, SqT.of ha, at_of (j := 2) rfl rfl, _, rfl, _, rfl, _, _, _, u, sz, c, pat, rfl, hy, ⟨ca, rfl, hc⟩, ⟨pa, rfl, hp⟩, hg.2, hcl, by omega, ?_⟩
        have e : (Tree.or t u).val c pat = u.val c pat := by
          show (t.val c pat || u.val c pat) = _
          rw [Bool.eq_false_iff.mpr c1, Bool.false_or]
        rw [e] at Qk
        exact Qk
theorem cal_L_is_so (T : Txt w K mg) (n : Nat) : C8.Cal P w K mg base (1 + n) "_law_is_so" (spIsSo n) [] := by
  induction n with
  | zero => exact cal0_L_is_so T
  | succ n ih => exact calS_L_is_so T ih

end
end Cb
namespace Cb
open PySem PySem.Spec PyProof.Rows L2
section
variable {P : Program} {w : World} {K : PySem.W.Frag} {mg : Str → Option Value} {base : Heap}
/-! ### words -/
theorem orVia {b : Bool} {t : TT} {σ : L2.St} {H : Hp} {Q : Bool → Hp → Prop} (A : Bool → Hp → Prop) (h : ∀ c H', A c H' → Q c H') (h1 : b = true → A true H) (h2 : ¬ b = true → ∀ Q : Bool → Hp → Prop, (∀ c H', A c H' → Q c H') → t σ H Q) : if b = true then Q true H else t σ H Q := by
  by_cases c : b = true
  · rw [if_pos c]
    exact h _ _ (h1 c)
  · rw [if_neg c]
    exact h2 c Q h
theorem dig {i : Nat} (h : i ≤ 3) : Str.ofString (toString (i : Int)) = ⟨#[48 + i]⟩ := by
  match i, h with
  | 0, _ => decide +kernel
  | 1, _ => decide +kernel
  | 2, _ => decide +kernel
  | 3, _ => decide +kernel
theorem digl {i : Nat} (h : i ≤ 3) : ((i : Int)).natAbs.log2 < 1920 := by
  match i, h with
  | 0, _ => decide +kernel
  | 1, _ => decide +kernel
  | 2, _ => decide +kernel
  | 3, _ => decide +kernel
theorem s_b : Str.ofString "b" = ⟨#[98]⟩ := by decide +kernel
theorem s_c : Str.ofString "c" = ⟨#[99]⟩ := by decide +kernel
theorem s_eq : Str.ofString "=" = ⟨#[61]⟩ := by decide +kernel
theorem s_emp : Str.ofString "" = ⟨#[]⟩ := by decide +kernel
/-- the words' values -/
def wv (ws : List W) : List V := ws.map fun w => V.str w.s
theorem wv_len (ws : List W) : (wv ws).length = ws.length := List.length_map ..
theorem wv_app (a b : List W) : wv (a ++ b) = wv a ++ wv b := List.map_append ..
def spWords : Nat → Sp
  | 0 => fun _ _ _ _ => False
  | n + 1 => fun vs H Q _ => ∃ (p g q : Addr) (v : V) (t : Tree) (sz : List Nat) (b : Nat), vs = [.ref p, v, .int (b : Int)] ∧ Hand p g q H ∧ TreeAt H v t ∧ t.Good sz ∧ Sz sz ∧ t.depth ≤ n ∧ t.depth ≤ 3 ∧
    ∀ r H' ws, Mv p g H H' → Hand p g q H' → H r = none → H' r = some (.lst (wv ws)) → Ren t b ws → Q (.ref r) H'
theorem ren45 {t : Tree} {b : Nat} {ws : List W} (h : Ren t b ws) (hd : t.depth ≤ 3) : ws.length ≤ 45 := by
  have := ren_len h hd
  omega
theorem core43 {t : Tree} {ws : List W} (h : Core t ws) (hd : t.depth ≤ 3) : ws.length ≤ 43 := by
  have := core_len t ws h
  have p1 := Nat.pow_le_pow_right (n := 2) (by decide) hd
  omega
theorem Mv.none {p g q : Addr} {H H' : Hp} (e : Mv p g H H') (hh : Hand p g q H') {a : Addr} (n : H' a = none) : H a = none := by
  cases h : H a with
  | none => rfl
  | some o =>
    have f := hh.fre n
    have f2 := e a o f.p f.g h
    rw [n] at f2
    cases f2
abbrev N_L_words : List Str := ["_law_hand_here", "_law_tree_here", "_law_binds", "_law_word", "_law_found", "_law_own"]
theorem sc_L_words : FnScope N_L_words ["_law_hand_here", "_law_tree_here", "_law_binds"] (defScope s_L_words) := ⟨rfl, rfl, rfl, by decide +kernel, rfl, by decide +kernel, by decide +kernel⟩
theorem cal0_L_words (T : Txt w K mg) : C8.Cal P w K mg base 2 "_law_words" (spWords 0) [] := mkCal T.F_L_words T.g__law_words sc_L_words (fun _ _ _ _ _ _ us hl => match us, hl with | [_, _, _], _ => rfl) (fun vs H Q E h => h.elim) (fun cdv A outer s H vs Q E hr h => h.elim)
theorem calS_L_words (T : Txt w K mg) {n : Nat} (c_L_words : C8.Cal P w K mg base (2 + n) "_law_words" (spWords n) []) : C8.Cal P w K mg base (2 + n + 1) "_law_words" (spWords (n + 1)) [] := by
  have c_L_draw := cal_L_draw (P := P) (base := base) T
  refine mkCal T.F_L_words T.g__law_words sc_L_words (fun _ _ _ _ _ _ us hl => match us, hl with | [_, _, _], _ => rfl) (fun vs H Q E h => ?_) (fun cdv A outer s H vs Q E hr h => ?_)
  · obtain ⟨p, g, q, v, t, sz, b, rfl, hh, ht, hg, hz, hdn, hd3, Qk⟩ := h
    rfl
  obtain ⟨p, g, q, v, t, sz, b, rfl, hh, ht, hg, hz, hdn, hd3, Qk⟩ := h
  have nd := sc_L_words.nd
  have hu := hu_of hr
  refine ⟨_, (pss_cons (ps_set (i := 3) nd rfl (Or.inl rfl) (pe_ix (r := rIxT K) ix_tup (pv 1) pe_int (fun _ _ => rfl)))
    (pss_cons (ps_if (pt_cmpR (r := rIn K false) op_in_seq (pv 3) (pe_lst (pa_cons pe_str (pa_cons pe_str pa_nil))) (by rfl))
    (pss_one (ps_par (i := 4) (j := 5) (by rfl) nd rfl rfl (by decide) rfl rfl (pa_cons (pe_lst (pa_cons (pv 3) pa_nil)) (pa_cons pe_int pa_nil)) (by rfl)))
    (pss_one (ps_if (pt_cmpR (r := rIn K false) op_in_seq (pv 3) (pe_lst (pa_cons pe_str (pa_cons pe_str pa_nil))) (by rfl))
    (pss_one (ps_par (i := 4) (j := 5) (by rfl) nd rfl rfl (by decide) rfl rfl (pa_cons (pe_lst (pa_cons (pe_op op_add_str (pe_op op_add_str (pv 3) (pe_callTy call_str_int (by rfl) T.z_str bt_str (pa_cons (pe_ix (r := rIxT K) ix_tup (pv 1) pe_int (fun _ _ => rfl)) pa_nil))) (pe_ifExp (pt_cmpR op_eq (pv 3) pe_str (nomark _)) (pe_op op_add_str pe_str (pe_callTy call_str_int (by rfl) T.z_str bt_str (pa_cons (pe_ix (r := rIxT K) ix_tup (pv 1) pe_int (fun _ _ => rfl)) pa_nil))) pe_str)) pa_nil)) (pa_cons pe_int pa_nil)) (by rfl)))
    (pss_one (ps_if (pt_cmpR op_eq (pv 3) pe_str (nomark _))
    (pss_one (ps_par (i := 4) (j := 5) (by rfl) nd rfl rfl (by decide) rfl rfl (pa_cons (pe_op op_cat (pe_lst (pa_cons pe_str pa_nil)) (C8.pe_c c_L_words hr (by omega) rfl (pa_cons (pv 0) (pa_cons (pe_ix (r := rIxT K) ix_tup (pv 1) pe_int (fun _ _ => rfl)) (pa_cons pe_int pa_nil))))) (pa_cons pe_int pa_nil)) (by rfl)))
    (pss_cons (ps_set (i := 5) nd rfl (Or.inl rfl) (pe_ifExp (pt_cmpR op_eq (pv 3) pe_str (nomark _)) pe_int pe_int))
    (pss_one (ps_set (i := 4) nd rfl (Or.inl rfl) (pe_op op_cat (pe_op op_cat (C8.pe_c c_L_words hr (by omega) rfl (pa_cons (pv 0) (pa_cons (pe_ix (r := rIxT K) ix_tup (pv 1) pe_int (fun _ _ => rfl)) (pa_cons (pv 5) pa_nil)))) (pe_lst (pa_cons (pv 3) pa_nil))) (C8.pe_c c_L_words hr (by omega) rfl (pa_cons (pv 0) (pa_cons (pe_ix (r := rIxT K) ix_tup (pv 1) pe_int (fun _ _ => rfl)) (pa_cons (pv 5) pa_nil)))))))))))))
    (pss_one (ps_ret (pe_ifExp (PW.pt (pw_or (pt_cmpR op_lt (pv 5) (pv 2) (nomark _)) (pw_or1 (pt_cmpR op_eq (C8.pe_c c_L_draw hr (by omega) rfl (pa_cons (pv 0) (pa_cons pe_int pa_nil))) pe_int (nomark _))))) (pe_op op_cat (pe_op op_cat (pe_lst (pa_cons pe_str pa_nil)) (pv 4)) (pe_lst (pa_cons pe_str pa_nil))) (pv 4)))))), ?_⟩
  have tail : ∀ (w : V) (f : Addr) (core : List W) (H2 : Hp), Mv p g H H2 → Hand p g q H2 → H f = none → H2 f = some (.lst (wv core)) → Core t core →
      tRet (tIf (tOr (tTest (tOp (rI0 fun i j => V.bl (decide (i < j))) (tVar 5) (tVar 2))) (tTest (tOp rEq (tCall spDraw [] C8.E0 (tCons (tVar 0) (tCons (tC (V.int 8)) tNil))) (tC (V.int 0))))) (tOp rCat (tOp rCat (tLst (tCons (tC (V.str "(")) tNil)) (tVar 4)) (tLst (tCons (tC (V.str ")")) tNil))) (tVar 4))
        { nx := fun _ H' => Q V.non H', rt := Q } [some (.ref p), some v, some (.int (b : Int)), some w, some (.ref f), some (.int (t.own : Int))] H2 := by
    intro w f core H2 mv hh2 nf hf hc
    have hlen := core43 hc hd3
    refine ⟨_, rfl, _, rfl, _, _, rfl, rfl, _, rfl, ?_⟩
    refine orVia (fun c H3 => Mv p g H H3 ∧ Hand p g q H3 ∧ H3 f = some (.lst (wv core)) ∧ (¬ c = true → b ≤ t.own)) ?_ (fun _ => ⟨mv, hh2, hf, fun z => absurd rfl z⟩) (fun c1 G hG => ?_)
    rotate_left
    · have c2 : b ≤ t.own := by
        have : ¬ ((t.own : Int) < (b : Int)) := fun z => c1 (decide_eq_true z)
        omega
      refine ⟨_, rfl, p, g, q, 8, rfl, hh2, by decide, by decide, fun k H3 mv3 hh3 _ _ => ⟨rfl, _, rfl, hG _ _ ⟨mv.trans mv3, hh3, mv3 _ _ (hh.fre nf).p (hh.fre nf).g hf, fun _ => c2⟩⟩⟩
    rintro c H3 ⟨mv3, hh3, hf3, hc3⟩
    refine ite2 (fun c1 => ?_) (fun c1 => ?_)
    · refine ⟨(by show 1 ≤ sizeLine; decide), fun l nl => ?_⟩
      have sl := sm_up (o := .lst [V.str "("]) nl
      refine ⟨_, rfl, l, f, _, _, rfl, rfl, upd_same, sl _ _ hf3, Cb.sz (by rw [wv_len]; show 1 + _ ≤ _; omega), fun l2 nl2 => ?_⟩
      have s2 := sm_new (o := .lst ([V.str "("] ++ wv core)) sl nl2
      refine ⟨(by show 1 ≤ sizeLine; decide), fun l3 nl3 => ?_⟩
      have s3 := sm_new (o := .lst [V.str ")"]) s2 nl3
      refine ⟨l2, l3, _, _, rfl, rfl, up_at upd_same nl3, upd_same, Cb.sz (by rw [List.length_append, wv_len]; show 1 + _ + 1 ≤ _; omega), fun r nr => ?_⟩
      have s4 := sm_new (o := .lst ([V.str "("] ++ wv core ++ [V.str ")"])) s3 nr
      refine Qk r _ (W.lp :: (core ++ [W.rp])) (mv3.trans (Mv.of s4)) (hh3.sm s4) (mv3.none hh3 (s3.free nr)) ?_ (.inr ⟨core, hc, rfl⟩)
      rw [upd_same]
      have e : wv (W.lp :: (core ++ [W.rp])) = [V.str "("] ++ wv core ++ [V.str ")"] := by
        show wv ([W.lp] ++ (core ++ [W.rp])) = _
        rw [wv_app, wv_app, List.append_assoc]
        rfl
      rw [e]
    · exact ⟨_, rfl, Qk f H3 core mv3 hh3 nf hf3 (.inl ⟨hc, hc3 c1⟩)⟩
  have atom : ∀ (w : V) (f : Addr) (H1 : Hp) (word : W) (x : Str), x = word.s → Core t [word] → t.own = 4 → Same H H1 → H1 f = none → 
      tRet (tIf (tOr (tTest (tOp (rI0 fun i j => V.bl (decide (i < j))) (tVar 5) (tVar 2))) (tTest (tOp rEq (tCall spDraw [] C8.E0 (tCons (tVar 0) (tCons (tC (V.int 8)) tNil))) (tC (V.int 0))))) (tOp rCat (tOp rCat (tLst (tCons (tC (V.str "(")) tNil)) (tVar 4)) (tLst (tCons (tC (V.str ")")) tNil))) (tVar 4))
        { nx := fun _ H' => Q V.non H', rt := Q } [some (.ref p), some v, some (.int (b : Int)), some w, some (.ref f), some (.int 4)] (upd H1 f (.lst [V.str x])) := by
    intro w f H1 word x hx hc ho s1 nf
    have s2 := sm_new (o := .lst [V.str word.s]) s1 nf
    have := tail w f [word] _ (Mv.of s2) (hh.sm s2) (s1.free nf) upd_same hc
    rw [ho] at this
    rw [hx]
    exact this
  cases t with
  | yes =>
    obtain ⟨a, rfl, ha⟩ := ht
    refine ⟨_, rfl, _, _, _, _, rfl, rfl, SqT.of ha, at_of (j := 0) rfl rfl, ?_⟩
    refine ⟨_, rfl, (by show 2 ≤ sizeLine; decide), fun l nl => ⟨l, _, rfl, .inl (SqL.of upd_same), rfl, rfl, _, rfl, iteTd (by decide +kernel) ?_⟩⟩
    refine ⟨_, rfl, (by show 1 ≤ sizeLine; decide), fun f nf => ⟨_, _, rfl, ?_⟩⟩
    exact atom _ f _ .yes _ rfl rfl rfl (sm_up nl) nf
  | no =>
    obtain ⟨a, rfl, ha⟩ := ht
    refine ⟨_, rfl, _, _, _, _, rfl, rfl, SqT.of ha, at_of (j := 0) rfl rfl, ?_⟩
    refine ⟨_, rfl, (by show 2 ≤ sizeLine; decide), fun l nl => ⟨l, _, rfl, .inl (SqL.of upd_same), rfl, rfl, _, rfl, iteTd (by decide +kernel) ?_⟩⟩
    refine ⟨_, rfl, (by show 1 ≤ sizeLine; decide), fun f nf => ⟨_, _, rfl, ?_⟩⟩
    exact atom _ f _ .no _ rfl rfl rfl (sm_up nl) nf
  | b i =>
    obtain ⟨a, rfl, ha⟩ := ht
    have hi : i ≤ 3 := by
      have h1 : i < sz.length := hg
      have := hz.l4
      omega
    refine ⟨_, rfl, _, _, _, _, rfl, rfl, SqT.of ha, at_of (j := 0) rfl rfl, ?_⟩
    refine ⟨_, rfl, (by show 2 ≤ sizeLine; decide), fun l nl => ⟨l, _, rfl, .inl (SqL.of upd_same), rfl, rfl, _, rfl, iteFd (by decide +kernel) ?_⟩⟩
    refine ⟨_, rfl, (by show 2 ≤ sizeLine; decide), fun l2 nl2 => ⟨l2, _, rfl, .inl (SqL.of upd_same), rfl, rfl, _, rfl, iteTd (by decide +kernel) ?_⟩⟩
    have s2 := sm_new (o := .lst [V.str "b", V.str "c"]) (sm_up (o := .lst [V.str "yes", V.str "no"]) nl) nl2
    refine ⟨_, rfl, _, rfl, _, _, _, _, rfl, rfl, SqT.of (s2 _ _ ha), at_of (j := 1) rfl rfl, _, rfl, digl hi, _, _, rfl, rfl, ?_, ?_⟩
    · rw [dig hi, s_b]
      show 2 ≤ sizeLine
      decide
    refine ⟨_, rfl, rfl, _, rfl, iteFd (sNe (by decide +kernel)) ⟨_, _, rfl, rfl, ?_, (by show 1 ≤ sizeLine; decide), fun f nf => ⟨_, _, rfl, ?_⟩⟩⟩
    · rw [dig hi, s_b, s_emp]
      show 2 ≤ sizeLine
      decide
    refine atom _ f _ (.b i) _ ?_ rfl rfl s2 nf
    rw [dig hi, s_b, s_emp]
    rfl
  | c i j =>
    obtain ⟨a, rfl, ha⟩ := ht
    obtain ⟨m, hm, hj⟩ := hg
    have hi : i ≤ 3 := by
      have h1 : i < sz.length := (List.getElem?_eq_some_iff.mp hm).1
      have := hz.l4
      omega
    have hj3 : j ≤ 3 := by
      have := (hz.b m (List.mem_of_getElem? hm)).2
      omega
    refine ⟨_, rfl, _, _, _, _, rfl, rfl, SqT.of ha, at_of (j := 0) rfl rfl, ?_⟩
    refine ⟨_, rfl, (by show 2 ≤ sizeLine; decide), fun l nl => ⟨l, _, rfl, .inl (SqL.of upd_same), rfl, rfl, _, rfl, iteFd (by decide +kernel) ?_⟩⟩
    refine ⟨_, rfl, (by show 2 ≤ sizeLine; decide), fun l2 nl2 => ⟨l2, _, rfl, .inl (SqL.of upd_same), rfl, rfl, _, rfl, iteTd (by decide +kernel) ?_⟩⟩
    have s2 := sm_new (o := .lst [V.str "b", V.str "c"]) (sm_up (o := .lst [V.str "yes", V.str "no"]) nl) nl2
    refine ⟨_, rfl, _, rfl, _, _, _, _, rfl, rfl, SqT.of (s2 _ _ ha), at_of (j := 1) rfl rfl, _, rfl, digl hi, _, _, rfl, rfl, ?_, ?_⟩
    · rw [dig hi, s_c]
      show 2 ≤ sizeLine
      decide
    refine ⟨_, rfl, rfl, _, rfl, iteTd sEq ⟨_, rfl, _, _, _, _, rfl, rfl, SqT.of (s2 _ _ ha), at_of (j := 2) rfl rfl, _, rfl, digl hj3, _, _, rfl, rfl, ?_, _, _, rfl, rfl, ?_, (by show 1 ≤ sizeLine; decide), fun f nf => ⟨_, _, rfl, ?_⟩⟩⟩
    · rw [dig hj3, s_eq]
      show 2 ≤ sizeLine
      decide
    · rw [dig hi, dig hj3, s_c, s_eq]
      show 4 ≤ sizeLine
      decide
    refine atom _ f _ (.c i j) _ ?_ rfl rfl s2 nf
    rw [dig hi, dig hj3, s_c, s_eq]
    rfl
  | not t =>
    obtain ⟨a, x, rfl, ha, hx⟩ := ht
    have hd3' : t.depth + 1 ≤ 3 := hd3
    cases n with
    | zero => exact absurd hdn (by show ¬ t.depth + 1 ≤ 0; omega)
    | succ n =>
    have hdn' : t.depth + 1 ≤ n + 1 := hdn
    refine ⟨_, rfl, _, _, _, _, rfl, rfl, SqT.of ha, at_of (j := 0) rfl rfl, ?_⟩
    refine ⟨_, rfl, (by show 2 ≤ sizeLine; decide), fun l nl => ⟨l, _, rfl, .inl (SqL.of upd_same), rfl, rfl, _, rfl, iteFd (by decide +kernel) ?_⟩⟩
    refine ⟨_, rfl, (by show 2 ≤ sizeLine; decide), fun l2 nl2 => ⟨l2, _, rfl, .inl (SqL.of upd_same), rfl, rfl, _, rfl, iteFd (by decide +kernel) ?_⟩⟩
    have s2 := sm_new (o := .lst [V.str "b", V.str "c"]) (sm_up (o := .lst [V.str "yes", V.str "no"]) nl) nl2
    refine ⟨_, rfl, rfl, _, rfl, iteTd sEq ?_⟩
    refine ⟨(by show 1 ≤ sizeLine; decide), fun l3 nl3 => ?_⟩
    have s3 := sm_new (o := .lst [V.str "not"]) s2 nl3
    have hh3 := hh.sm s3
    refine ⟨_, rfl, _, rfl, _, _, _, _, rfl, rfl, SqT.of (s3 _ _ ha), at_of (j := 1) rfl rfl, p, g, q, x, t, sz, 3, rfl, hh3, hx.tk (sm_tk s3), hg, hz, by omega, by omega, fun r H4 ws mv4 hh4 nr hr4 hren => ?_⟩
    have hl4 : H4 l3 = some (.lst [V.str "not"]) := mv4.fr (hh.fre (s2.free nl3)) upd_same
    have w45 := ren45 hren (by omega)
    refine ⟨l3, r, _, _, rfl, rfl, hl4, hr4, Cb.sz (by rw [wv_len]; show 1 + _ ≤ _; omega), fun f nf => ⟨_, _, rfl, ?_⟩⟩
    have sf := sm_up (o := .lst ([V.str "not"] ++ wv ws)) nf
    have mvf := ((Mv.of s3).trans mv4).trans (Mv.of sf)
    exact tail _ f (W.not :: ws) _ mvf (hh4.sm sf) ((((Mv.of s3).trans mv4)).none hh4 nf) upd_same ⟨ws, rfl, hren⟩
  | and t u =>
    obtain ⟨a, x, y, rfl, ha, hx, hy⟩ := ht
    have hd3' : max t.depth u.depth + 1 ≤ 3 := hd3
    cases n with
    | zero => exact absurd hdn (by show ¬ max t.depth u.depth + 1 ≤ 0; omega)
    | succ n =>
    have hdn' : max t.depth u.depth + 1 ≤ n + 1 := hdn
    refine ⟨_, rfl, _, _, _, _, rfl, rfl, SqT.of ha, at_of (j := 0) rfl rfl, ?_⟩
    refine ⟨_, rfl, (by show 2 ≤ sizeLine; decide), fun l nl => ⟨l, _, rfl, .inl (SqL.of upd_same), rfl, rfl, _, rfl, iteFd (by decide +kernel) ?_⟩⟩
    refine ⟨_, rfl, (by show 2 ≤ sizeLine; decide), fun l2 nl2 => ⟨l2, _, rfl, .inl (SqL.of upd_same), rfl, rfl, _, rfl, iteFd (by decide +kernel) ?_⟩⟩
    have s2 := sm_new (o := .lst [V.str "b", V.str "c"]) (sm_up (o := .lst [V.str "yes", V.str "no"]) nl) nl2
    have hh2 := hh.sm s2
    refine ⟨_, rfl, rfl, _, rfl, iteFd (sNe (by decide +kernel)) ?_⟩
    refine ⟨_, rfl, rfl, _, rfl, iteTd sEq ?_⟩
    refine ⟨_, rfl, _, rfl, _, _, _, _, rfl, rfl, SqT.of (s2 _ _ ha), at_of (j := 1) rfl rfl, _, rfl, p, g, q, x, t, sz, 2, rfl, hh2, hx.tk (sm_tk s2), hg.1, hz, by omega, by omega, fun r H4 ws mv4 hh4 nr hr4 hren => ?_⟩
    have w45 := ren45 hren (by omega)
    have fr := hh2.fre nr
    have tk4 : Tk H H4 := (hh.tk ((Mv.of s2).trans mv4))
    refine ⟨_, rfl, (by show 1 ≤ sizeLine; decide), fun l3 nl3 => ?_⟩
    have s5 := sm_up (o := .lst [V.str "and"]) nl3
    refine ⟨r, l3, _, _, rfl, rfl, s5 _ _ hr4, upd_same, Cb.sz (by rw [wv_len]; show _ + 1 ≤ _; omega), fun r2 nr2 => ?_⟩
    have s6 := sm_new (o := .lst (wv ws ++ [V.str "and"])) s5 nr2
    have hh6 := hh4.sm s6
    have tk6 : Tk H _ := fun b xs h => (sm_tk s6) _ _ (tk4 b xs h)
    refine ⟨_, rfl, _, rfl, _, _, _, _, rfl, rfl, SqT.of (tk6 _ _ ha), at_of (j := 2) rfl rfl, _, rfl, p, g, q, y, u, sz, 2, rfl, hh6, hy.tk tk6, hg.2, hz, by omega, by omega, fun r3 H7 ws3 mv7 hh7 nr3 hr7 hren3 => ?_⟩
    have w45' := ren45 hren3 (by omega)
    have hr2 : H7 r2 = some (.lst (wv ws ++ [V.str "and"])) := mv7.fr (hh4.fre (s5.free nr2)) upd_same
    refine ⟨r2, r3, _, _, rfl, rfl, hr2, hr7, Cb.sz (by rw [List.length_append, wv_len, wv_len]; show _ + 1 + _ ≤ _; omega), fun f nf => ?_⟩
    have sf := sm_up (o := .lst (wv ws ++ [V.str "and"] ++ wv ws3)) nf
    have mv07 := (((Mv.of s2).trans mv4).trans (Mv.of s6)).trans mv7
    refine tail _ f (ws ++ [W.and] ++ ws3) _ (mv07.trans (Mv.of sf)) (hh7.sm sf) (mv07.none hh7 nf) ?_ ⟨ws, ws3, rfl, hren, hren3⟩
    rw [upd_same, wv_app, wv_app]
    rfl
  | or t u =>
    obtain ⟨a, x, y, rfl, ha, hx, hy⟩ := ht
    have hd3' : max t.depth u.depth + 1 ≤ 3 := hd3
    cases n with
    | zero => exact absurd hdn (by show ¬ max t.depth u.depth + 1 ≤ 0; omega)
    | succ n =>
    have hdn' : max t.depth u.depth + 1 ≤ n + 1 := hdn
    refine ⟨_, rfl, _, _, _, _, rfl, rfl, SqT.of ha, at_of (j := 0) rfl rfl, ?_⟩
    refine ⟨_, rfl, (by show 2 ≤ sizeLine; decide), fun l nl => ⟨l, _, rfl, .inl (SqL.of upd_same), rfl, rfl, _, rfl, iteFd (by decide +kernel) ?_⟩⟩
    refine ⟨_, rfl, (by show 2 ≤ sizeLine; decide), fun l2 nl2 => ⟨l2, _, rfl, .inl (SqL.of upd_same), rfl, rfl, _, rfl, iteFd (by decide +kernel) ?_⟩⟩
    have s2 := sm_new (o := .lst [V.str "b", V.str "c"]) (sm_up (o := .lst [V.str "yes", V.str "no"]) nl) nl2
    have hh2 := hh.sm s2
    refine ⟨_, rfl, rfl, _, rfl, iteFd (sNe (by decide +kernel)) ?_⟩
    refine ⟨_, rfl, rfl, _, rfl, iteFd (sNe (by decide +kernel)) ?_⟩
    refine ⟨_, rfl, _, rfl, _, _, _, _, rfl, rfl, SqT.of (s2 _ _ ha), at_of (j := 1) rfl rfl, _, rfl, p, g, q, x, t, sz, 1, rfl, hh2, hx.tk (sm_tk s2), hg.1, hz, by omega, by omega, fun r H4 ws mv4 hh4 nr hr4 hren => ?_⟩
    have w45 := ren45 hren (by omega)
    have fr := hh2.fre nr
    have tk4 : Tk H H4 := (hh.tk ((Mv.of s2).trans mv4))
    refine ⟨_, rfl, (by show 1 ≤ sizeLine; decide), fun l3 nl3 => ?_⟩
    have s5 := sm_up (o := .lst [V.str "or"]) nl3
    refine ⟨r, l3, _, _, rfl, rfl, s5 _ _ hr4, upd_same, Cb.sz (by rw [wv_len]; show _ + 1 ≤ _; omega), fun r2 nr2 => ?_⟩
    have s6 := sm_new (o := .lst (wv ws ++ [V.str "or"])) s5 nr2
    have hh6 := hh4.sm s6
    have tk6 : Tk H _ := fun b xs h => (sm_tk s6) _ _ (tk4 b xs h)
    refine ⟨_, rfl, _, rfl, _, _, _, _, rfl, rfl, SqT.of (tk6 _ _ ha), at_of (j := 2) rfl rfl, _, rfl, p, g, q, y, u, sz, 1, rfl, hh6, hy.tk tk6, hg.2, hz, by omega, by omega, fun r3 H7 ws3 mv7 hh7 nr3 hr7 hren3 => ?_⟩
    have w45' := ren45 hren3 (by omega)
    have hr2 : H7 r2 = some (.lst (wv ws ++ [V.str "or"])) := mv7.fr (hh4.fre (s5.free nr2)) upd_same
    refine ⟨r2, r3, _, _, rfl, rfl, hr2, hr7, Cb.sz (by rw [List.length_append, wv_len, wv_len]; show _ + 1 + _ ≤ _; omega), fun f nf => ?_⟩
    have sf := sm_up (o := .lst (wv ws ++ [V.str "or"] ++ wv ws3)) nf
    have mv07 := (((Mv.of s2).trans mv4).trans (Mv.of s6)).trans mv7
    refine tail _ f (ws ++ [W.or] ++ ws3) _ (mv07.trans (Mv.of sf)) (hh7.sm sf) (mv07.none hh7 nf) ?_ ⟨ws, ws3, rfl, hren, hren3⟩
    rw [upd_same, wv_app, wv_app]
    rfl
theorem cal_L_words (T : Txt w K mg) (n : Nat) : C8.Cal P w K mg base (2 + n) "_law_words" (spWords n) [] := by
  induction n with
  | zero => exact cal0_L_words T
  | succ n ih => exact calS_L_words T ih

end
end Cb
namespace Cb
open PySem PySem.Spec PyProof.Rows L2
section
variable {P : Program} {w : World} {K : PySem.W.Frag} {mg : Str → Option Value} {base : Heap}
/-! ### texts -/
theorem W.s_len : ∀ w : W, w.s.length ≤ 5
  | .lp => by decide +kernel
  | .rp => by decide +kernel
  | .and => by decide +kernel
  | .or => by decide +kernel
  | .not => by decide +kernel
  | .iff => by decide +kernel
  | .share => by decide +kernel
  | .yes => by decide +kernel
  | .no => by decide +kernel
  | .b i => by show 2 ≤ 5; decide
  | .c i j => by show 4 ≤ 5; decide
theorem str_app (a b : Str) : (a ++ b).cps.toList = a.cps.toList ++ b.cps.toList := Array.toList_append
theorem str_len (a : Str) : a.length = a.cps.toList.length := by rw [Array.length_toList]; rfl
theorem str_app_len (a b : Str) : (a ++ b).length = a.length + b.length := by rw [str_len, str_app, List.length_append, str_len, str_len]
def sp (k : Nat) : Str := ⟨(List.replicate k 32).toArray⟩
theorem sp0 : Str.ofString "" = sp 0 := by decide +kernel
theorem sp1 : Str.ofString " " = sp 1 := by decide +kernel
theorem sp2 : Str.ofString "  " = sp 2 := by decide +kernel
theorem sp3 : Str.ofString "   " = sp 3 := by decide +kernel
theorem inV_par {w : Str} : inV (.str w) [.str "(", .str ")"] = true ↔ par w := by
  show ((Str.ofString "(" == w) || ((Str.ofString ")" == w) || false)) = true ↔ _
  unfold par
  generalize Str.ofString "(" = x
  generalize Str.ofString ")" = y
  rw [Bool.or_eq_true, Bool.or_eq_true, beq_iff_eq, beq_iff_eq]
  constructor
  · rintro (h | h | h)
    · exact .inl h.symm
    · exact .inr h.symm
    · cases h
  · rintro (h | h)
    · exact .inl h.symm
    · exact .inr (.inl h.symm)
theorem str_list_get {ws : List Str} {i : Nat} (h : i < ws.length) : ∃ w, ws[i]? = some w ∧ (ws.map V.str)[i]? = some (.str w) := by
  refine ⟨ws[i], List.getElem?_eq_getElem h, ?_⟩
  rw [List.getElem?_map, List.getElem?_eq_getElem h]
  rfl
def spJoin : Sp := fun vs H Q _ => ∃ (p g q a : Addr) (ws : List Str), vs = [.ref p, .ref a] ∧ Hand p g q H ∧ H a = some (.lst (ws.map V.str)) ∧ Fre p g q a ∧ ws.length ≤ 1000 ∧ (∀ w ∈ ws, w.length ≤ 5) ∧
  ∀ z H' (segs : List (Nat × Str)), Mv p g H H' → Hand p g q H' → segs.map (·.2) = ws → SegOk segs → z.cps.toList = segText segs → z.length ≤ 8 * ws.length → Q (.str z) H'
abbrev N_L_join : List Str := ["_law_hand_here", "_law_words_here", "_law_text", "_law_at", "_law_beside"]
theorem sc_L_join : FnScope N_L_join ["_law_hand_here", "_law_words_here"] (defScope s_L_join) := ⟨rfl, rfl, rfl, by decide +kernel, rfl, by decide +kernel, by decide +kernel⟩
theorem cal_L_join (T : Txt w K mg) : C8.Cal P w K mg base 3 "_law_join" spJoin [] := by
  have c_L_any := cal_L_any (P := P) (base := base) T
  refine mkCal T.F_L_join T.g__law_join sc_L_join (fun _ _ _ _ _ _ us hl => match us, hl with | [_, _], _ => rfl) (fun vs H Q E h => ?_) (fun cdv A outer s H vs Q E hr h => ?_)
  · obtain ⟨p, g, q, a, ws, rfl, hh, ha, fa, hl, hw, Qk⟩ := h
    rfl
  obtain ⟨p, g, q, a, ws, rfl, hh, ha, fa, hl, hw, Qk⟩ := h
  have nd := sc_L_join.nd
  have hu := hu_of hr
  refine ⟨_, (pss_cons (ps_set (i := 2) nd rfl (Or.inl rfl) pe_str)
    (pss_cons (ps_for PassesOwn.never rfl (pi_range1 (by rfl) T.z_range (pa_cons (pe_callB (r := rLen K) call_len_seq (by rfl) T.z_len bt_len (pa_cons (pv 1) pa_nil)) pa_nil)) (pg_name (i := 3) nd rfl (Or.inl rfl))
    (pss_cons (ps_if (pt_cmpR op_gt (pv 3) pe_int (nomark _))
    (pss_cons (ps_set (i := 4) nd rfl (Or.inl rfl) (pe_or (pe_cmpR (r := rIn K false) op_in_seq (pe_ix (r := rIxL K) ix_list (pv 1) (pv 3) (fun _ _ => rfl)) (pe_lst (pa_cons pe_str (pa_cons pe_str pa_nil))) (by rfl)) (pe_one (pe_cmpR (r := rIn K false) op_in_seq (pe_ix (r := rIxL K) ix_list (pv 1) (pe_op op_sub (pv 3) pe_int) (fun _ _ => rfl)) (pe_lst (pa_cons pe_str (pa_cons pe_str pa_nil))) (by rfl)))))
    (pss_one (ps_set (i := 2) nd rfl (Or.inl rfl) (pe_op op_add_str (pv 2) (C8.pe_c c_L_any hr (by decide) rfl (pa_cons (pv 0) (pa_cons (pe_ifExp (pt_val (pv 4)) (pe_lst (pa_cons pe_str (pa_cons pe_str (pa_cons pe_str (pa_cons pe_str (pa_cons pe_str pa_nil)))))) (pe_lst (pa_cons pe_str (pa_cons pe_str (pa_cons pe_str (pa_cons pe_str (pa_cons pe_str pa_nil))))))) pa_nil)))))))
    pss_nil)
    (pss_one (ps_set (i := 2) nd rfl (Or.inl rfl) (pe_op op_add_str (pv 2) (pe_ix (r := rIxL K) ix_list (pv 1) (pv 3) (fun _ _ => rfl)))))))
    (pss_one (ps_ret (pv 2))))), ?_⟩
  have hlen : Int.toNat ((ws.map V.str).length : Int) = ws.length := by rw [List.length_map]; omega
  refine ⟨_, rfl, _, _, rfl, .inl (SqL.of ha), _, rfl, by omega, by rw [List.length_map]; omega, ?_⟩
  refine for_it (walk_range0 (n := Int.toNat ((ws.map V.str).length : Int))) (fun i σ H2 => Mv p g H H2 ∧ Hand p g q H2 ∧ ∃ (z : Str) (z3 z4 : Option V) (segs : List (Nat × Str)), σ = [some (.ref p), some (.ref a), some (.str z), z3, z4] ∧ segs.map (·.2) = ws.take i ∧ SegOk segs ∧ z.cps.toList = segText segs ∧ z.length ≤ 8 * i) ?_ (fun _ _ _ _ _ => trivial) ?_ ?_
  · exact ⟨Mv.refl H, hh, "", none, none, [], rfl, rfl, SegOk.nil, rfl, Nat.zero_le _⟩
  · rintro i _ σ _ H2 hi ⟨mv2, hh2, z, z3, z4, segs, rfl, hsg, hok, hz, hzl⟩ ⟨rfl, rfl⟩
    rw [hlen] at hi
    have hsl : segs.length = i := by
      have := congrArg List.length hsg
      rw [List.length_map, List.length_take] at this
      omega
    obtain ⟨w, hwi, hwv⟩ := str_list_get hi
    have hw5 := hw w (List.mem_of_getElem? hwi)
    refine ⟨_, rfl, _, _, rfl, rfl, _, rfl, ?_⟩
    refine ifViaS (fun σ' H3 => Mv p g H H3 ∧ Hand p g q H3 ∧ ∃ (z4' : Option V) (k : Nat) (z' : Str), σ' = [some (.ref p), some (.ref a), some (.str z'), some (.int (i : Int)), z4'] ∧ k ≤ 3 ∧ z'.cps.toList = segText segs ++ List.replicate k 32 ∧ z'.length ≤ z.length + k ∧ (i = 0 → k = 0) ∧ (k = 0 → ∀ s, segs[i - 1]? = some s → i ≠ 0 → par s.2 ∨ par w)) ?_ (fun c D hD => ?_) (fun c D hD => ?_)
    · rintro σ' H3 ⟨mv3, hh3, z4', k, z', rfl, hk, hz', hzl', h0, h1⟩
      have ha3 := mv3.fr fa ha
      refine ⟨_, rfl, _, rfl, _, rfl, a, _, _, _, rfl, rfl, SqL.of ha3, at_of rfl hwv, _, _, rfl, rfl, Cb.sz (by omega), ?_⟩
      refine ⟨mv3, hh3, z' ++ w, _, _, segs ++ [(k, w)], rfl, ?_, hok.snoc (fun e => ?_) (fun s hs hne hk0 => ?_), ?_, ?_⟩
      · rw [List.map_append, hsg, take_snoc hwi]
        rfl
      · refine h0 ?_
        rw [← hsl, e]
        rfl
      · rw [hsl] at hs
        exact h1 hk0 s hs (by rw [← hsl]; intro z; exact hne (List.length_eq_zero_iff.mp z))
      · rw [str_app, hz', segText_snoc, List.append_assoc]
        rfl
      · rw [str_app_len]
        omega
    · have c' : 0 < i := by
        have : (0 : Int) < (i : Int) := of_decide_eq_true c
        omega
      have ha2 := mv2.fr fa ha
      obtain ⟨w0, hw0, hw0v⟩ := str_list_get (ws := ws) (i := i - 1) (by omega)
      -- the rest, by what stands beside
      have rest : ∀ (bs : Bool) (H3 : Hp), Same H2 H3 → (bs = true → par w0 ∨ par w) →
          tAsg (tOp (fun x y H Q => ∃ i j, x = V.str i ∧ y = V.str j ∧ i.length + j.length ≤ sizeLine ∧ Q (V.str (i ++ j)) H) (tVar 2) (tCall spAny [] C8.E0 (tCons (tVar 0) (tCons (tIf (tB (tVar 4)) (tLst (tCons (tC (V.str "")) (tCons (tC (V.str "")) (tCons (tC (V.str " ")) (tCons (tC (V.str " ")) (tCons (tC (V.str "   ")) tNil)))))) (tLst (tCons (tC (V.str " ")) (tCons (tC (V.str " ")) (tCons (tC (V.str " ")) (tCons (tC (V.str " ")) (tCons (tC (V.str "  ")) tNil))))))) tNil)))) (gName 2) D [some (.ref p), some (.ref a), some (.str z), some (.int (i : Int)), some (.bl bs)] H3 := by
        intro bs H3 s3 hbs
        have hh3 := hh2.sm s3
        have mv3 := mv2.trans (Mv.of s3)
        have fin : ∀ (H4 : Hp) (k : Nat), Mv p g H H4 → Hand p g q H4 → k ≤ 3 → (k = 0 → par w0 ∨ par w) → D.nx [some (.ref p), some (.ref a), some (.str (z ++ sp k)), some (.int (i : Int)), some (.bl bs)] H4 := by
          intro H4 k mv4 hh4 hk hk0
          refine hD _ _ ⟨mv4, hh4, _, k, z ++ sp k, rfl, hk, ?_, ?_, fun e => by omega, fun e s hs _ => ?_⟩
          · rw [str_app, hz]
            rfl
          · rw [str_app_len, str_len (sp k)]
            show _ + (List.replicate k 32).length ≤ _
            rw [List.length_replicate]
            exact Nat.le_refl _
          · have e1 : (segs.map (·.2))[i - 1]? = some s.2 := by rw [List.getElem?_map, hs]; rfl
            rw [hsg, List.getElem?_take_of_lt (by omega), hw0] at e1
            rw [← Option.some.inj e1]
            exact hk0 e
        have spl : ∀ k, k ≤ 3 → (sp k).length ≤ 3 := fun k hk => by
          rw [str_len]
          show (List.replicate k 32).length ≤ 3
          rw [List.length_replicate]
          exact hk
        refine ⟨_, rfl, _, rfl, _, rfl, _, rfl, ite2 (fun cb => ?_) (fun cb => ?_)⟩
        · refine ⟨(by show 5 ≤ sizeLine; decide), fun l nl => ?_⟩
          have sl := sm_up (o := .lst [V.str "", V.str "", V.str " ", V.str " ", V.str "   "]) nl
          refine ⟨p, g, q, l, _, rfl, hh3.sm sl, upd_same, (hh3.fre nl).g, (by show 0 < 5; decide), (by show 5 ≤ 100000; decide), fun x H4 mv4 hh4 hx => ?_⟩
          have mv04 := (mv3.trans (Mv.of sl)).trans mv4
          have hx' : ∃ k, k ≤ 3 ∧ x = .str (sp k) := by
            simp only [List.mem_cons, List.not_mem_nil, or_false] at hx
            rcases hx with h | h | h | h | h
            · exact ⟨0, by decide, by rw [h, sp0]⟩
            · exact ⟨0, by decide, by rw [h, sp0]⟩
            · exact ⟨1, by decide, by rw [h, sp1]⟩
            · exact ⟨1, by decide, by rw [h, sp1]⟩
            · exact ⟨3, by decide, by rw [h, sp3]⟩
          obtain ⟨k, hk, rfl⟩ := hx'
          have := spl k hk
          exact ⟨_, _, rfl, rfl, Cb.sz (by omega), fin H4 k mv04 hh4 hk fun _ => hbs cb⟩
        · refine ⟨(by show 5 ≤ sizeLine; decide), fun l nl => ?_⟩
          have sl := sm_up (o := .lst [V.str " ", V.str " ", V.str " ", V.str " ", V.str "  "]) nl
          refine ⟨p, g, q, l, _, rfl, hh3.sm sl, upd_same, (hh3.fre nl).g, (by show 0 < 5; decide), (by show 5 ≤ 100000; decide), fun x H4 mv4 hh4 hx => ?_⟩
          have mv04 := (mv3.trans (Mv.of sl)).trans mv4
          have hx' : ∃ k, k ≤ 3 ∧ k ≠ 0 ∧ x = .str (sp k) := by
            simp only [List.mem_cons, List.not_mem_nil, or_false] at hx
            rcases hx with h | h | h | h | h
            · exact ⟨1, by decide, by decide, by rw [h, sp1]⟩
            · exact ⟨1, by decide, by decide, by rw [h, sp1]⟩
            · exact ⟨1, by decide, by decide, by rw [h, sp1]⟩
            · exact ⟨1, by decide, by decide, by rw [h, sp1]⟩
            · exact ⟨2, by decide, by decide, by rw [h, sp2]⟩
          obtain ⟨k, hk, hk0, rfl⟩ := hx'
          have := spl k hk
          exact ⟨_, _, rfl, rfl, Cb.sz (by omega), fin H4 k mv04 hh4 hk fun z => absurd z hk0⟩
      refine ⟨_, rfl, _, rfl, a, _, _, _, rfl, rfl, SqL.of ha2, at_of rfl hwv, (by show 2 ≤ sizeLine; decide), fun l nl => ⟨l, _, rfl, .inl (SqL.of upd_same), rfl, rfl, _, rfl, ite2 (fun c1 => ?_) (fun c1 => ?_)⟩⟩
      · exact rest true _ (sm_up nl) fun _ => .inr (inV_par.mp c1)
      · have sl := sm_up (o := .lst [V.str "(", V.str ")"]) nl
        refine ⟨_, rfl, _, rfl, _, _, rfl, rfl, a, _, _, _, rfl, rfl, SqL.of (sl _ _ ha2), at_of (j := i - 1) (by omega) hw0v, (by show 2 ≤ sizeLine; decide), fun l2 nl2 => ⟨l2, _, rfl, .inl (SqL.of upd_same), rfl, rfl, ?_⟩⟩
        exact rest _ _ (sm_new sl nl2) fun e => .inl (inV_par.mp e)
    · have c' : i = 0 := by
        have : ¬ (0 : Int) < (i : Int) := fun z => c (decide_eq_true z)
        omega
      exact hD _ _ ⟨mv2, hh2, _, 0, z, rfl, by decide, by rw [hz]; simp, Nat.le_refl _, fun _ => rfl, fun _ s _ ne => absurd c' ne⟩
  · rintro σ H2 ⟨mv2, hh2, z, z3, z4, segs, rfl, hsg, hok, hz, hzl⟩
    rw [hlen] at hsg hzl
    rw [List.take_length] at hsg
    exact ⟨_, rfl, Qk z H2 segs mv2 hh2 hsg hok hz hzl⟩

end
end Cb
namespace Cb
open PySem PySem.Spec PyProof.Rows L2
section
variable {P : Program} {w : World} {K : PySem.W.Frag} {mg : Str → Option Value} {base : Heap}
/-! ### questions -/
/-- the words of a question of a share -/
def ShareWs (ws : List W) (t b : Tree) : Prop := (∃ w1, ws = W.share :: w1 ∧ Ren t 0 w1 ∧ b = .yes) ∨ ∃ w1 w2, ws = W.share :: w1 ++ [W.iff] ++ w2 ∧ Ren t 0 w1 ∧ Ren b 0 w2
def ShareTx (z : Str) (t b : Tree) : Prop := ∃ (segs : List (Nat × Str)) (ws : List W), SegOk segs ∧ z.cps.toList = segText segs ∧ z.length ≤ 2000 ∧ segs.map (·.2) = ws.map W.s ∧ ShareWs ws t b
def ShareAt (sz : List Nat) (H : Hp) (r : V) (z : Str) (t b : Tree) : Prop := ∃ (a : Addr) (tv bv : V), r = .ref a ∧ H a = some (.tup [.str z, .str "share", tv, bv]) ∧ TreeAt H tv t ∧ TreeAt H bv b ∧ t.Good sz ∧ b.Good sz ∧ t.depth ≤ 3 ∧ b.depth ≤ 3 ∧ ShareTx z t b
theorem ShareAt.tk {sz : List Nat} {H H' : Hp} {r : V} {z : Str} {t b : Tree} (h : ShareAt sz H r z t b) (e : Tk H H') : ShareAt sz H' r z t b := by
  obtain ⟨a, tv, bv, e1, h1, h2, h3, h4⟩ := h
  exact ⟨a, tv, bv, e1, e _ _ h1, h2.tk e, h3.tk e, h4⟩
theorem wvs (ws : List W) : wv ws = (ws.map W.s).map V.str := by
  rw [List.map_map]
  rfl
theorem ws_len5 {ws : List W} : ∀ w ∈ ws.map W.s, w.length ≤ 5 := fun w hw => by
  obtain ⟨x, _, rfl⟩ := List.mem_map.mp hw
  exact x.s_len
def spQuestion : Sp := fun vs H Q _ => ∃ (p g q : Addr) (v : V) (sz : List Nat), vs = [.ref p, v] ∧ Hand p g q H ∧ TIn H v (isz sz) ∧ Sz sz ∧
  ∀ r H', Mv p g H H' → Hand p g q H' → ((∃ (a : Addr) (x0 x2 x3 : V), r = .ref a ∧ H' a = some (.tup [x0, .str "mean", x2, x3])) ∨ ∃ z t b, ShareAt sz H' r z t b) → Q r H'
abbrev N_L_question : List Str := ["_law_hand_here", "_law_sizes", "_law_behind", "_law_tree_here", "_law_words_here", "_law_column"]
theorem sc_L_question : FnScope N_L_question ["_law_hand_here", "_law_sizes"] (defScope s_L_question) := ⟨rfl, rfl, rfl, by decide +kernel, rfl, by decide +kernel, by decide +kernel⟩
theorem cal_L_question (T : Txt w K mg) : C8.Cal P w K mg base 8 "_law_question" spQuestion [] := by
  have c_L_draw := cal_L_draw (P := P) (base := base) T
  have c_L_any := cal_L_any (P := P) (base := base) T
  have c_L_tree := cal_L_tree (P := P) (base := base) T 4
  have c_L_words := cal_L_words (P := P) (base := base) T 4
  have c_L_join := cal_L_join (P := P) (base := base) T
  refine mkCal T.F_L_question T.g__law_question sc_L_question (fun _ _ _ _ _ _ us hl => match us, hl with | [_, _], _ => rfl) (fun vs H Q E h => ?_) (fun cdv A outer s H vs Q E hr h => ?_)
  · obtain ⟨p, g, q, v, sz, rfl, hh, ⟨a, rfl, hs⟩, hz, Qk⟩ := h
    rfl
  obtain ⟨p, g, q, v, sz, rfl, hh, ⟨a, rfl, hs⟩, hz, Qk⟩ := h
  have nd := sc_L_question.nd
  have hu := hu_of hr
  refine ⟨_, (pss_cons (ps_set (i := 2) nd rfl (Or.inl rfl) (C8.pe_c c_L_tree hr (by decide) rfl (pa_cons (pv 0) (pa_cons (pv 1) (pa_cons (C8.pe_c c_L_any hr (by decide) rfl (pa_cons (pv 0) (pa_cons (pe_lst (pa_cons pe_int (pa_cons pe_int (pa_cons pe_int (pa_cons pe_int (pa_cons pe_int pa_nil)))))) pa_nil))) pa_nil)))))
    (pss_cons (ps_if (pt_cmpR op_eq (C8.pe_c c_L_draw hr (by decide) rfl (pa_cons (pv 0) (pa_cons pe_int pa_nil))) pe_int (nomark _))
    (pss_cons (ps_set (i := 5) nd rfl (Or.inl rfl) (C8.pe_c c_L_draw hr (by decide) rfl (pa_cons (pv 0) (pa_cons (pe_callB (r := rLen K) call_len_seq (by rfl) T.z_len bt_len (pa_cons (pv 1) pa_nil)) pa_nil))))
    (pss_cons (ps_set (i := 4) nd rfl (Or.inl rfl) (pe_op op_cat (pe_lst (pa_cons pe_str (pa_cons (pe_op op_add_str pe_str (pe_callTy call_str_int (by rfl) T.z_str bt_str (pa_cons (pv 5) pa_nil))) (pa_cons pe_str pa_nil)))) (C8.pe_c c_L_words hr (by decide) rfl (pa_cons (pv 0) (pa_cons (pv 2) (pa_cons pe_int pa_nil))))))
    (pss_one (ps_ret (pe_tup (pa_cons (C8.pe_c c_L_join hr (by decide) rfl (pa_cons (pv 0) (pa_cons (pv 4) pa_nil))) (pa_cons pe_str (pa_cons (pv 5) (pa_cons (pv 2) pa_nil)))))))))
    pss_nil)
    (pss_cons (ps_set (i := 3) nd rfl (Or.inl rfl) (C8.pe_c c_L_tree hr (by decide) rfl (pa_cons (pv 0) (pa_cons (pv 1) (pa_cons (C8.pe_c c_L_any hr (by decide) rfl (pa_cons (pv 0) (pa_cons (pe_lst (pa_cons pe_int (pa_cons pe_int (pa_cons pe_int (pa_cons pe_int pa_nil))))) pa_nil))) pa_nil)))))
    (pss_cons (ps_set (i := 4) nd rfl (Or.inl rfl) (pe_op op_cat (pe_lst (pa_cons pe_str pa_nil)) (C8.pe_c c_L_words hr (by decide) rfl (pa_cons (pv 0) (pa_cons (pv 3) (pa_cons pe_int pa_nil))))))
    (pss_cons (ps_if (pt_cmpR op_eq (C8.pe_c c_L_draw hr (by decide) rfl (pa_cons (pv 0) (pa_cons pe_int pa_nil))) pe_int (nomark _))
    (pss_one (ps_ret (pe_tup (pa_cons (C8.pe_c c_L_join hr (by decide) rfl (pa_cons (pv 0) (pa_cons (pv 4) pa_nil))) (pa_cons pe_str (pa_cons (pv 3) (pa_cons (pe_tup (pa_cons pe_str pa_nil)) pa_nil)))))))
    pss_nil)
    (pss_one (ps_ret (pe_tup (pa_cons (C8.pe_c c_L_join hr (by decide) rfl (pa_cons (pv 0) (pa_cons (pe_op op_cat (pe_op op_cat (pv 4) (pe_lst (pa_cons pe_str pa_nil))) (C8.pe_c c_L_words hr (by decide) rfl (pa_cons (pv 0) (pa_cons (pv 2) (pa_cons pe_int pa_nil))))) pa_nil))) (pa_cons pe_str (pa_cons (pv 3) (pa_cons (pv 2) pa_nil)))))))))))), ?_⟩
  have hs' : SqT K H a ((isz sz).map V.int) := SqT.of hs
  have hlen : ((isz sz).map V.int).length = sz.length := by rw [List.length_map, isz_len]
  have l1 := hz.l1
  have l4 := hz.l4
  refine ⟨_, rfl, _, rfl, _, rfl, (by show 5 ≤ sizeLine; decide), fun l nl => ?_⟩
  have sl := sm_up (o := .lst [V.int 0, V.int 1, V.int 1, V.int 2, V.int 3]) nl
  refine ⟨p, g, q, l, _, rfl, hh.sm sl, upd_same, (hh.fre nl).g, (by show 0 < 5; decide), (by show 5 ≤ 100000; decide), fun x H1 mv1 hh1 hx => ?_⟩
  have hx' : ∃ k : Int, 0 ≤ k ∧ k ≤ 3 ∧ x = .int k := by
    simp only [List.mem_cons, List.not_mem_nil, or_false] at hx
    rcases hx with h | h | h | h | h
    · exact ⟨0, by decide, by decide, h⟩
    · exact ⟨1, by decide, by decide, h⟩
    · exact ⟨1, by decide, by decide, h⟩
    · exact ⟨2, by decide, by decide, h⟩
    · exact ⟨3, by decide, by decide, h⟩
  obtain ⟨k, k0, k3, rfl⟩ := hx'
  have mv01 := (Mv.of sl).trans mv1
  have ha1 := (hh.tk mv01) _ _ hs
  refine ⟨p, g, q, _, sz, k, rfl, hh1, ⟨a, rfl, ha1⟩, hz, k0, k3, fun bv H2 b mv2 hh2 hb gb db => ?_⟩
  have mv02 := mv01.trans mv2
  have ha2 := (hh1.tk mv2) _ _ ha1
  have hb3 : b.depth ≤ 3 := by omega
  refine ⟨_, rfl, p, g, q, 4, rfl, hh2, by decide, by decide, fun k4 H3 mv3 hh3 _ _ => ⟨rfl, _, rfl, ite2 (fun c => ?_) (fun c => ?_)⟩⟩
  · have ha3 := (hh2.tk mv3) _ _ ha2
    have hb3' := hb.tk (hh2.tk mv3)
    have mv03 := mv02.trans mv3
    refine ⟨_, rfl, _, rfl, _, _, rfl, .inr (SqT.of ha3), p, g, q, _, rfl, hh3, by omega, by omega, fun i H4 mv4 hh4 i0 i1 => ?_⟩
    rw [hlen] at i1
    have mv04 := mv03.trans mv4
    have hb4 := hb3'.tk (hh3.tk mv4)
    have hi : i.toNat ≤ 3 := by omega
    have ei : i = ((i.toNat : Nat) : Int) := by omega
    generalize i.toNat = j at hi ei
    subst ei
    refine ⟨_, rfl, _, rfl, digl hi, _, _, rfl, rfl, ?_, (by show 3 ≤ sizeLine; decide), fun l3 nl3 => ?_⟩
    · rw [dig hi, s_c]
      show 2 ≤ sizeLine
      decide
    have s5 := sm_up (o := .lst [V.str "mean", V.str (Str.ofString "c" ++ Str.ofString (toString (j : Int))), V.str "if"]) nl3
    have hh5 := hh4.sm s5
    refine ⟨_, rfl, _, rfl, p, g, q, bv, b, sz, 0, rfl, hh5, hb4.tk (sm_tk s5), gb, hz, hb3, hb3, fun r H6 ws mv6 hh6 nr hr6 hren => ?_⟩
    have w45 := ren45 hren hb3
    have hl6 := mv6.fr (hh4.fre nl3) (upd_same (H := H4) (a := l3) (o := .lst [V.str "mean", V.str (Str.ofString "c" ++ Str.ofString (toString (j : Int))), V.str "if"]))
    refine ⟨l3, r, _, _, rfl, rfl, hl6, hr6, Cb.sz (by rw [wv_len]; show 3 + _ ≤ _; omega), fun f nf => ?_⟩
    have sf := sm_up (o := .lst ([V.str "mean", V.str (Str.ofString "c" ++ Str.ofString (toString (j : Int))), V.str "if"] ++ wv ws)) nf
    have hhf := hh6.sm sf
    have mv0f := ((mv04.trans (Mv.of s5)).trans mv6).trans (Mv.of sf)
    refine ⟨_, rfl, _, rfl, p, g, q, f, [Str.ofString "mean", Str.ofString "c" ++ Str.ofString (toString (j : Int)), Str.ofString "if"] ++ ws.map W.s, rfl, hhf, ?_, hh6.fre nf, ?_, ?_, fun z H7 segs mv7 hh7 _ _ _ _ => ?_⟩
    · rw [upd_same, wvs, List.map_append]
      rfl
    · rw [List.length_append, List.length_map]
      show 3 + _ ≤ _
      omega
    · intro w hw
      rcases List.mem_append.mp hw with h | h
      · simp only [List.mem_cons, List.not_mem_nil, or_false] at h
        rcases h with h | h | h
        · rw [h]
          decide +kernel
        · rw [h, dig hi, s_c]
          show 2 ≤ 5
          decide
        · rw [h]
          decide +kernel
      · exact ws_len5 w h
    · refine ⟨_, rfl, _, rfl, (by show 4 ≤ sizeLine; decide), fun e ne => ?_⟩
      have se := sm_up (o := .tup [V.str z, V.str "mean", V.int (j : Int), bv]) ne
      exact Qk _ _ ((mv0f.trans mv7).trans (Mv.of se)) (hh7.sm se) (.inl ⟨e, _, _, _, rfl, upd_same⟩)
  · have ha3 := (hh2.tk mv3) _ _ ha2
    have hb3' := hb.tk (hh2.tk mv3)
    have mv03 := mv02.trans mv3
    refine ⟨_, rfl, _, rfl, _, rfl, (by show 4 ≤ sizeLine; decide), fun l3 nl3 => ?_⟩
    have sl3 := sm_up (o := .lst [V.int 0, V.int 1, V.int 2, V.int 3]) nl3
    refine ⟨p, g, q, l3, _, rfl, hh3.sm sl3, upd_same, (hh3.fre nl3).g, (by show 0 < 4; decide), (by show 4 ≤ 100000; decide), fun x H4 mv4 hh4 hx => ?_⟩
    have hx' : ∃ k : Int, 0 ≤ k ∧ k ≤ 3 ∧ x = .int k := by
      simp only [List.mem_cons, List.not_mem_nil, or_false] at hx
      rcases hx with h | h | h | h
      · exact ⟨0, by decide, by decide, h⟩
      · exact ⟨1, by decide, by decide, h⟩
      · exact ⟨2, by decide, by decide, h⟩
      · exact ⟨3, by decide, by decide, h⟩
    obtain ⟨k2, k20, k23, rfl⟩ := hx'
    have mv34 := (Mv.of sl3).trans mv4
    have mv04 := mv03.trans mv34
    have ha4 := (hh3.tk mv34) _ _ ha3
    have hb4 := hb3'.tk (hh3.tk mv34)
    refine ⟨p, g, q, _, sz, k2, rfl, hh4, ⟨a, rfl, ha4⟩, hz, k20, k23, fun tv H5 t mv5 hh5 ht gt dt => ?_⟩
    have ht3 : t.depth ≤ 3 := by omega
    have mv05 := mv04.trans mv5
    have hb5 := hb4.tk (hh4.tk mv5)
    refine ⟨(by show 1 ≤ sizeLine; decide), fun l6 nl6 => ?_⟩
    have s6 := sm_up (o := .lst [V.str "share"]) nl6
    have hh6 := hh5.sm s6
    refine ⟨_, rfl, _, rfl, p, g, q, tv, t, sz, 0, rfl, hh6, ht.tk (sm_tk s6), gt, hz, ht3, ht3, fun r H7 ws mv7 hh7 nr hr7 hren => ?_⟩
    have w45 := ren45 hren ht3
    have hl7 := mv7.fr (hh5.fre nl6) (upd_same (H := H5) (a := l6) (o := .lst [V.str "share"]))
    refine ⟨l6, r, _, _, rfl, rfl, hl7, hr7, Cb.sz (by rw [wv_len]; show 1 + _ ≤ _; omega), fun f nf => ?_⟩
    have sf := sm_up (o := .lst ([V.str "share"] ++ wv ws)) nf
    have hhf := hh7.sm sf
    have mv57 := (Mv.of s6).trans mv7
    have mv5f := mv57.trans (Mv.of sf)
    have mv0f := mv05.trans mv5f
    have htf := ht.tk (hh5.tk mv5f)
    have hbf := hb5.tk (hh5.tk mv5f)
    have hff : (upd H7 f (.lst ([V.str "share"] ++ wv ws))) f = some (.lst ((W.share :: ws).map W.s |>.map V.str)) := by
      rw [upd_same, ← wvs]
      rfl
    refine ⟨_, rfl, p, g, q, 3, rfl, hhf, by decide, by decide, fun k3 H8 mv8 hh8 _ _ => ⟨rfl, _, rfl, ite2 (fun c => ?_) (fun c => ?_)⟩⟩
    · have hf8 := mv8.fr (hh7.fre nf) hff
      refine ⟨_, rfl, _, rfl, p, g, q, f, _, rfl, hh8, hf8, hh7.fre nf, ?_, ws_len5, fun z H9 segs mv9 hh9 hsg hok hzt hzl => ?_⟩
      · rw [List.length_map]
        show _ + 1 ≤ _
        omega
      · refine ⟨_, rfl, (by show 1 ≤ sizeLine; decide), fun y ny => ?_⟩
        have sy := sm_up (o := .tup [V.str "yes"]) ny
        refine ⟨(by show 4 ≤ sizeLine; decide), fun e ne => ?_⟩
        have se := sm_up (o := .tup [V.str z, V.str "share", tv, V.ref y]) ne
        have mv9e := (Mv.of (p := p) (g := g) sy).trans (Mv.of se)
        have hh9e := (hh9.sm sy).sm se
        have tk9e := hh9.tk mv9e
        refine Qk _ _ (((mv0f.trans mv8).trans mv9).trans mv9e) hh9e (.inr ⟨z, t, .yes, e, tv, .ref y, rfl, upd_same, ((htf.tk (hhf.tk mv8)).tk (hh8.tk mv9)).tk tk9e, ⟨y, rfl, up_at upd_same ne⟩, gt, trivial, ht3, Nat.zero_le _, segs, _, hok, hzt, ?_, hsg, .inl ⟨ws, rfl, hren, rfl⟩⟩)
        rw [List.length_map] at hzl
        have : (W.share :: ws).length = ws.length + 1 := rfl
        omega
    · have hf8 := mv8.fr (hh7.fre nf) hff
      have htf8 := htf.tk (hhf.tk mv8)
      have hbf8 := hbf.tk (hhf.tk mv8)
      refine ⟨_, rfl, _, rfl, (by show 1 ≤ sizeLine; decide), fun l9 nl9 => ?_⟩
      have s9 := sm_up (o := .lst [V.str "if"]) nl9
      refine ⟨f, l9, _, _, rfl, rfl, s9 _ _ hf8, upd_same, Cb.sz (by rw [List.length_map, List.length_map]; show _ + 1 + 1 ≤ _; omega), fun f2 nf2 => ?_⟩
      have s10 := sm_new (o := .lst (((W.share :: ws).map W.s |>.map V.str) ++ [V.str "if"])) s9 nf2
      have hh10 := hh8.sm s10
      refine ⟨_, rfl, _, rfl, p, g, q, bv, b, sz, 0, rfl, hh10, hbf8.tk (sm_tk s10), gb, hz, hb3, hb3, fun r2 H11 ws2 mv11 hh11 nr2 hr11 hren2 => ?_⟩
      have w45' := ren45 hren2 hb3
      have hf11 := mv11.fr (hh8.fre (s9.free nf2)) (upd_same (a := f2) (o := .lst (((W.share :: ws).map W.s |>.map V.str) ++ [V.str "if"])))
      refine ⟨f2, r2, _, _, rfl, rfl, hf11, hr11, Cb.sz (by rw [List.length_append, List.length_map, List.length_map, wv_len]; show _ + 1 + 1 + _ ≤ _; omega), fun f3 nf3 => ?_⟩
      have s12 := sm_up (o := .lst (((W.share :: ws).map W.s |>.map V.str) ++ [V.str "if"] ++ wv ws2)) nf3
      have hh12 := hh11.sm s12
      have mv812 := ((Mv.of (p := p) (g := g) s10).trans mv11).trans (Mv.of s12)
      have htf12 := htf8.tk (hh8.tk mv812)
      have hbf12 := hbf8.tk (hh8.tk mv812)
      refine ⟨p, g, q, f3, (W.share :: ws ++ [W.iff] ++ ws2).map W.s, rfl, hh12, ?_, hh11.fre nf3, ?_, ws_len5, fun z H13 segs mv13 hh13 hsg hok hzt hzl => ?_⟩
      · rw [upd_same, wvs, List.map_append, List.map_append, List.map_append, List.map_append]
        rfl
      · rw [List.length_map, List.length_append, List.length_append]
        show _ + 1 + 1 + _ ≤ _
        omega
      · refine ⟨_, rfl, _, rfl, (by show 4 ≤ sizeLine; decide), fun e ne => ?_⟩
        have se := sm_up (o := .tup [V.str z, V.str "share", tv, bv]) ne
        have tk13 := hh12.tk mv13
        refine Qk _ _ ((((mv0f.trans mv8).trans mv812).trans mv13).trans (Mv.of se)) (hh13.sm se) (.inr ⟨z, t, b, e, tv, bv, rfl, upd_same, (htf12.tk tk13).tk (sm_tk se), (hbf12.tk tk13).tk (sm_tk se), gt, gb, ht3, hb3, segs, _, hok, hzt, ?_, hsg, .inr ⟨ws, ws2, rfl, hren, hren2⟩⟩)
        rw [List.length_map, List.length_append, List.length_append] at hzl
        have : (W.share :: ws).length = ws.length + 1 := rfl
        have : ([W.iff] : List W).length = 1 := rfl
        omega
def spShareQ : Sp := fun vs H Q _ => ∃ (p g q : Addr) (v : V) (sz : List Nat), vs = [.ref p, v] ∧ Hand p g q H ∧ TIn H v (isz sz) ∧ Sz sz ∧
  ∀ r H' z t b, Mv p g H H' → Hand p g q H' → ShareAt sz H' r z t b → Q r H'
abbrev N_L_share_question : List Str := ["_law_hand_here", "_law_sizes", "_law_question_here", "_law_tree_here"]
theorem sc_L_share_question : FnScope N_L_share_question ["_law_hand_here", "_law_sizes"] (defScope s_L_share_question) := ⟨rfl, rfl, rfl, by decide +kernel, rfl, by decide +kernel, by decide +kernel⟩
theorem cal_L_share_question (T : Txt w K mg) : C8.Cal P w K mg base 9 "_law_share_question" spShareQ [] := by
  have c_L_question := cal_L_question (P := P) (base := base) T
  have c_L_draw := cal_L_draw (P := P) (base := base) T
  have c_L_tree := cal_L_tree (P := P) (base := base) T 4
  have c_L_words := cal_L_words (P := P) (base := base) T 4
  have c_L_join := cal_L_join (P := P) (base := base) T
  refine mkCal T.F_L_share_question T.g__law_share_question sc_L_share_question (fun _ _ _ _ _ _ us hl => match us, hl with | [_, _], _ => rfl) (fun vs H Q E h => ?_) (fun cdv A outer s H vs Q E hr h => ?_)
  · obtain ⟨p, g, q, v, sz, rfl, hh, ⟨a, rfl, hs⟩, hz, Qk⟩ := h
    rfl
  obtain ⟨p, g, q, v, sz, rfl, hh, ⟨a, rfl, hs⟩, hz, Qk⟩ := h
  have nd := sc_L_share_question.nd
  have hu := hu_of hr
  refine ⟨_, (pss_cons (ps_set (i := 2) nd rfl (Or.inl rfl) (C8.pe_c c_L_question hr (by decide) rfl (pa_cons (pv 0) (pa_cons (pv 1) pa_nil))))
    (pss_cons (ps_if (PW.pt (pw_or (pt_cmpR op_eq (pe_ix (r := rIxT K) ix_tup (pv 2) pe_int (fun _ _ => rfl)) pe_str (nomark _)) (pw_or1 (pt_cmpR op_eq (C8.pe_c c_L_draw hr (by decide) rfl (pa_cons (pv 0) (pa_cons pe_int pa_nil))) pe_int (nomark _)))))
    (pss_cons (ps_set (i := 3) nd rfl (Or.inl rfl) (C8.pe_c c_L_tree hr (by decide) rfl (pa_cons (pv 0) (pa_cons (pv 1) (pa_cons pe_int pa_nil)))))
    (pss_one (ps_ret (pe_tup (pa_cons (C8.pe_c c_L_join hr (by decide) rfl (pa_cons (pv 0) (pa_cons (pe_op op_cat (pe_lst (pa_cons pe_str pa_nil)) (C8.pe_c c_L_words hr (by decide) rfl (pa_cons (pv 0) (pa_cons (pv 3) (pa_cons pe_int pa_nil))))) pa_nil))) (pa_cons pe_str (pa_cons (pv 3) (pa_cons (pe_tup (pa_cons pe_str pa_nil)) pa_nil))))))))
    pss_nil)
    (pss_one (ps_ret (pv 2))))), ?_⟩
  refine ⟨_, rfl, _, rfl, p, g, q, _, sz, rfl, hh, ⟨a, rfl, hs⟩, hz, fun r H1 mv1 hh1 hq => ?_⟩
  have tk1 := hh.tk mv1
  have go : ∃ (e : Addr) (x0 x2 x3 : V) (s : Str), r = .ref e ∧ H1 e = some (.tup [x0, .str s, x2, x3]) ∧ (s ≠ "mean" → ∃ z t b, ShareAt sz H1 r z t b) := by
    rcases hq with ⟨e, x0, x2, x3, rfl, he⟩ | ⟨z, t, b, h⟩
    · exact ⟨e, x0, x2, x3, _, rfl, he, fun n => absurd rfl n⟩
    · obtain ⟨e, tv, bv, rfl, he, _⟩ := id h
      exact ⟨e, _, _, _, _, rfl, he, fun _ => ⟨z, t, b, h⟩⟩
  obtain ⟨e, x0, x2, x3, nm, rfl, he, hsh⟩ := go
  refine ⟨_, rfl, _, _, _, _, rfl, rfl, SqT.of he, at_of (j := 1) rfl rfl, rfl, _, rfl, ?_⟩
  refine orVia (fun c H3 => Mv p g H H3 ∧ Hand p g q H3 ∧ (¬ c = true → ∃ z t b, ShareAt sz H3 (.ref e) z t b)) ?_ (fun _ => ⟨mv1, hh1, fun z => absurd rfl z⟩) (fun c1 G hG => ?_)
  rotate_left
  · have hne : nm ≠ "mean" := fun z => c1 (by rw [z]; exact sEq)
    obtain ⟨z, t, b, h⟩ := hsh hne
    exact ⟨_, rfl, p, g, q, 3, rfl, hh1, by decide, by decide, fun k H3 mv3 hh3 _ _ => ⟨rfl, _, rfl, hG _ _ ⟨mv1.trans mv3, hh3, fun _ => ⟨z, t, b, h.tk (hh1.tk mv3)⟩⟩⟩⟩
  rintro c H3 ⟨mv3, hh3, hc3⟩
  refine ite2 (fun c1 => ?_) (fun c1 => ?_)
  · have ha3 := (hh.tk mv3) _ _ hs
    refine ⟨_, rfl, _, rfl, p, g, q, _, sz, 2, rfl, hh3, ⟨a, rfl, ha3⟩, hz, by decide, by decide, fun tv H5 t mv5 hh5 ht gt dt => ?_⟩
    have ht3 : t.depth ≤ 3 := by omega
    have mv05 := mv3.trans mv5
    refine ⟨_, rfl, (by show 1 ≤ sizeLine; decide), fun l6 nl6 => ?_⟩
    have s6 := sm_up (o := .lst [V.str "share"]) nl6
    have hh6 := hh5.sm s6
    refine ⟨_, rfl, _, rfl, p, g, q, tv, t, sz, 0, rfl, hh6, ht.tk (sm_tk s6), gt, hz, ht3, ht3, fun r H7 ws mv7 hh7 nr hr7 hren => ?_⟩
    have w45 := ren45 hren ht3
    have hl7 := mv7.fr (hh5.fre nl6) (upd_same (H := H5) (a := l6) (o := .lst [V.str "share"]))
    refine ⟨l6, r, _, _, rfl, rfl, hl7, hr7, Cb.sz (by rw [wv_len]; show 1 + _ ≤ _; omega), fun f nf => ?_⟩
    have sf := sm_up (o := .lst ([V.str "share"] ++ wv ws)) nf
    have hhf := hh7.sm sf
    have mv57 := (Mv.of (p := p) (g := g) s6).trans mv7
    have mv5f := mv57.trans (Mv.of sf)
    have mv0f := mv05.trans mv5f
    have htf := ht.tk (hh5.tk mv5f)
    have hff : (upd H7 f (.lst ([V.str "share"] ++ wv ws))) f = some (.lst ((W.share :: ws).map W.s |>.map V.str)) := by
      rw [upd_same, ← wvs]
      rfl
    refine ⟨p, g, q, f, _, rfl, hhf, hff, hh7.fre nf, ?_, ws_len5, fun z H9 segs mv9 hh9 hsg hok hzt hzl => ?_⟩
    · rw [List.length_map]
      show _ + 1 ≤ _
      omega
    · refine ⟨_, rfl, (by show 1 ≤ sizeLine; decide), fun y ny => ?_⟩
      have sy := sm_up (o := .tup [V.str "yes"]) ny
      refine ⟨(by show 4 ≤ sizeLine; decide), fun e2 ne => ?_⟩
      have se := sm_up (o := .tup [V.str z, V.str "share", tv, V.ref y]) ne
      have mv9e := (Mv.of (p := p) (g := g) sy).trans (Mv.of se)
      have hh9e := (hh9.sm sy).sm se
      have tk9e := hh9.tk mv9e
      refine Qk _ _ z t .yes ((mv0f.trans mv9).trans mv9e) hh9e ⟨e2, tv, .ref y, rfl, upd_same, (htf.tk (hhf.tk mv9)).tk tk9e, ⟨y, rfl, up_at upd_same ne⟩, gt, trivial, ht3, Nat.zero_le _, segs, _, hok, hzt, ?_, hsg, .inl ⟨ws, rfl, hren, rfl⟩⟩
      rw [List.length_map] at hzl
      have : (W.share :: ws).length = ws.length + 1 := rfl
      omega
  · obtain ⟨z, t, b, h⟩ := hc3 c1
    exact ⟨_, rfl, Qk _ _ z t b mv3 hh3 h⟩
def spKind : Sp := fun vs H Q _ => ∃ (v cv pv : V) (z : Str) (t b : Tree) (sz : List Nat) (c pat : List Int), vs = [v, cv, pv] ∧ ShareAt sz H v z t b ∧ TIn H cv c ∧ TIn H pv pat ∧ c.length = sz.length ∧ Q (.int (kindOf t b c pat)) H
abbrev N_L_kind : List Str := ["_law_question_here", "_law_content", "_law_pattern"]
theorem sc_L_kind : FnScope N_L_kind ["_law_question_here", "_law_content", "_law_pattern"] (defScope s_L_kind) := ⟨rfl, rfl, rfl, by decide +kernel, rfl, by decide +kernel, by decide +kernel⟩
theorem cal_L_kind (T : Txt w K mg) : C8.Cal P w K mg base 6 "_law_kind" spKind [] := by
  have c_L_is_so := cal_L_is_so (P := P) (base := base) T 4
  refine mkCal T.F_L_kind T.g__law_kind sc_L_kind (fun _ _ _ _ _ _ us hl => match us, hl with | [_, _, _], _ => rfl) (fun vs H Q E h => ?_) (fun cdv A outer s H vs Q E hr h => ?_)
  · obtain ⟨v, cv, pw, z, t, b, sz, c, pat, rfl, hq, hc, hp, hl, Qk⟩ := h
    rfl
  obtain ⟨v, cv, pw, z, t, b, sz, c, pat, rfl, hq, hc, hp, hl, Qk⟩ := h
  have nd := sc_L_kind.nd
  have hu := hu_of hr
  refine ⟨_, (pss_cons (ps_if (pt_not (pt_val (C8.pe_c c_L_is_so hr (by decide) rfl (pa_cons (pe_ix (r := rIxT K) ix_tup (pv 0) pe_int (fun _ _ => rfl)) (pa_cons (pv 1) (pa_cons (pv 2) pa_nil))))))
    (pss_one (ps_ret pe_int))
    pss_nil)
    (pss_one (ps_ret (pe_ifExp (pt_val (C8.pe_c c_L_is_so hr (by decide) rfl (pa_cons (pe_ix (r := rIxT K) ix_tup (pv 0) pe_int (fun _ _ => rfl)) (pa_cons (pv 1) (pa_cons (pv 2) pa_nil))))) pe_int pe_int)))), ?_⟩
  obtain ⟨e, tv, bv, rfl, he, ht, hb, gt, gb, dt, db, _⟩ := hq
  refine ⟨_, rfl, _, _, _, _, rfl, rfl, SqT.of he, at_of (j := 3) rfl rfl, _, rfl, _, rfl, bv, cv, pw, b, sz, c, pat, rfl, hb, hc, hp, gb, hl, db, _, rfl, ?_⟩
  cases e1 : b.val c pat with
  | false =>
    refine iteT ?_
    have e2 : kindOf t b c pat = 0 := by
      unfold kindOf
      rw [e1]
      rfl
    rw [e2] at Qk
    exact Qk
  | true =>
    refine iteF ?_
    refine ⟨_, rfl, _, _, _, _, rfl, rfl, SqT.of he, at_of (j := 2) rfl rfl, _, rfl, _, rfl, tv, cv, pw, t, sz, c, pat, rfl, ht, hc, hp, gt, hl, dt, _, rfl, ?_⟩
    have e2 : kindOf t b c pat = if t.val c pat = true then 2 else 1 := by
      unfold kindOf
      rw [e1]
      rfl
    rw [e2] at Qk
    cases e3 : t.val c pat with
    | true =>
      rw [e3] at Qk
      exact iteT Qk
    | false =>
      rw [e3] at Qk
      exact iteF Qk

end
end Cb
namespace Cb
open PySem PySem.Spec PyProof.Rows L2
section
variable {P : Program} {w : World} {K : PySem.W.Frag} {mg : Str → Option Value} {base : Heap}
/-! ### the words of a text -/
def WordOk (w : Str) : Prop := par w ∨ (wc w ≠ [] ∧ ∀ c ∈ wc w, c ≠ 32 ∧ c ≠ 40 ∧ c ≠ 41)
theorem wc_lp : wc "(" = [40] := by decide +kernel
theorem wc_rp : wc ")" = [41] := by decide +kernel
theorem par_wc {w : Str} (h : par w) : ∃ c, wc w = [c] ∧ (c = 40 ∨ c = 41) := by
  rcases h with rfl | rfl
  · exact ⟨40, wc_lp, .inl rfl⟩
  · exact ⟨41, wc_rp, .inr rfl⟩
theorem W.ok : ∀ {w : W}, (∀ i, w = .b i → i ≤ 3) → (∀ i j, w = .c i j → i ≤ 3 ∧ j ≤ 3) → WordOk w.s
  | .lp, _, _ => .inl (.inl rfl)
  | .rp, _, _ => .inl (.inr rfl)
  | .and, _, _ => .inr (by decide +kernel)
  | .or, _, _ => .inr (by decide +kernel)
  | .not, _, _ => .inr (by decide +kernel)
  | .iff, _, _ => .inr (by decide +kernel)
  | .share, _, _ => .inr (by decide +kernel)
  | .yes, _, _ => .inr (by decide +kernel)
  | .no, _, _ => .inr (by decide +kernel)
  | .b i, h, _ => .inr ⟨by show [98, 48 + i] ≠ []; simp, fun c hc => by
      have hc' : c ∈ [98, 48 + i] := hc
      simp at hc'
      omega⟩
  | .c i j, _, h => .inr ⟨by show [99, 48 + i, 61, 48 + j] ≠ []; simp, fun c hc => by
      have hc' : c ∈ [99, 48 + i, 61, 48 + j] := hc
      simp at hc'
      omega⟩
def SepT : List (Nat × Str) → Prop
  | a :: b :: r => (b.1 = 0 → par a.2 ∨ par b.2) ∧ SepT (b :: r)
  | _ => True
theorem SepT.of : ∀ {segs : List (Nat × Str)}, (∀ (i : Nat) (s t : Nat × Str), segs[i]? = some s → segs[i + 1]? = some t → t.1 = 0 → par s.2 ∨ par t.2) → SepT segs
  | [], _ => trivial
  | [_], _ => trivial
  | a :: b :: r, h => ⟨h 0 a b rfl rfl, SepT.of fun i s t hs ht => h (i + 1) s t (by simpa using hs) (by simpa using ht)⟩
theorem SepT.tl {a : Nat × Str} {r : List (Nat × Str)} (h : SepT (a :: r)) : SepT r := by
  cases r with
  | nil => trivial
  | cons b r => exact h.2
theorem SepT.fst {k k' : Nat} {w : Str} {r : List (Nat × Str)} (h : SepT ((k, w) :: r)) : SepT ((k', w) :: r) := by
  cases r with
  | nil => trivial
  | cons b r => exact h
theorem segText_cons (k : Nat) (w : Str) (r : List (Nat × Str)) : segText ((k, w) :: r) = List.replicate k 32 ++ wc w ++ segText r := by
  unfold segText
  rw [List.flatMap_cons]
theorem s_sep : (Str.ofString " ()").cps.toList = [32, 40, 41] := by decide +kernel
theorem s_sp : Str.ofString " " = ⟨#[32]⟩ := by decide +kernel
/-- a pair of a place and the word there -/
def PWat (H : Hp) (v : V) (w : Str) : Prop := ∃ (a : Addr) (pl : Int), v = .ref a ∧ H a = some (.tup [.int pl, .str w])
theorem PWat.tk {H H' : Hp} {v : V} {w : Str} (h : PWat H v w) (e : Tk H H') : PWat H' v w := by
  obtain ⟨a, pl, e1, h1⟩ := h
  exact ⟨a, pl, e1, e _ _ h1⟩
theorem drop_at {L : List Nat} {p : Nat} {t : List Nat} (h : L.drop p = t) (m : Nat) : L[p + m]? = t[m]? := by
  rw [← h, List.getElem?_drop]
theorem drop_drop' {L : List Nat} {p : Nat} {s t : List Nat} (h : L.drop p = s ++ t) : L.drop (p + s.length) = t := by
  rw [← List.drop_drop, h, List.drop_left]
theorem cut_at {z : Str} {p e : Nat} {s t : List Nat} (h : z.cps.toList.drop p = s ++ t) (he : e = p + s.length) : Txt.slice z (some (p : Int)) (some (e : Int)) = ⟨s.toArray⟩ := by
  rw [← C8.cutS_slice]
  unfold cutS
  have hl : p ≤ z.length ∨ s = [] := by
    by_cases q : p ≤ z.length
    · exact .inl q
    · right
      rw [List.drop_eq_nil_of_le (by rw [← str_len]; omega)] at h
      exact (List.append_eq_nil_iff.mp h.symm).1
  have hl2 : s.length + t.length = z.length - p := by
    have := congrArg List.length h
    rw [List.length_drop, List.length_append, ← str_len] at this
    omega
  rw [HT.sIx_nat, HT.sIx_nat]
  rcases hl with hl | hl
  · rw [Nat.min_eq_left hl, Nat.min_eq_left (by omega), h, he, Nat.add_sub_cancel_left, List.take_left]
  · subst hl
    rw [he]
    have : min (p + ([] : List Nat).length) z.length - min p z.length = 0 := by simp
    rw [this, List.take_zero]
theorem atn {α : Type} {xs : List α} {i : Int} {j : Nat} {x : α} (e : i = (j : Int)) (h : xs[j]? = some x) : atI xs i = some x := by
  subst e
  unfold atI ixN
  have hj : j < xs.length := (List.getElem?_eq_some_iff.mp h).1
  rw [if_pos (by omega), if_pos (by omega)]
  show xs[((j : Nat) : Int).toNat]? = some x
  rw [Int.toNat_natCast]
  exact h
def spWordsOf : Sp := fun vs H Q _ => ∃ (z : Str) (segs : List (Nat × Str)), vs = [.str z] ∧ z.cps.toList = segText segs ∧ SegOk segs ∧ (∀ s ∈ segs, WordOk s.2) ∧ z.length ≤ 2000 ∧
  ∀ (r : Addr) (H' : Hp) (ys : List V), Same H H' → H r = none → H' r = some (.lst ys) → P2 (PWat H') ys (segs.map (·.2)) → Q (.ref r) H'
abbrev N_words_of : List Str := ["text", "found", "place", "end"]
theorem sc_words_of : FnScope N_words_of ["text"] (defScope s_words_of) := ⟨rfl, rfl, rfl, by decide +kernel, rfl, by decide +kernel, by decide +kernel⟩
theorem cal_words_of (T : Txt w K mg) : C8.Cal P w K mg base 1 "words_of" spWordsOf [] := by
  refine mkCal T.F_words_of T.g_words_of sc_words_of (fun _ _ _ _ _ _ us hl => match us, hl with | [_], _ => rfl) (fun vs H Q E h => ?_) (fun cdv A outer s H vs Q E hr h => ?_)
  · obtain ⟨z, segs, rfl, hz, hok, hw, hzl, Qk⟩ := h
    rfl
  obtain ⟨z, segs, rfl, hz, hok, hw, hzl, Qk⟩ := h
  have nd := sc_words_of.nd
  have hu := hu_of hr
  refine ⟨_, (pss_cons (ps_set (i := 1) nd rfl (Or.inl rfl) (pe_lst pa_nil))
    (pss_cons (ps_set (i := 2) nd rfl (Or.inl rfl) pe_int)
    (pss_cons (ps_while PassesOwn.never (pt_cmpR op_lt (pv 2) (pe_callB call_len_str (by rfl) T.z_len bt_len (pa_cons (pv 0) pa_nil)) (nomark _))
    (pss_cons (ps_set (i := 3) nd rfl (Or.inl rfl) (pe_op op_add (pv 2) pe_int))
    (pss_cons (ps_if (pt_cmpR op_notIn_sign (pe_ix ix_str (pv 0) (pv 2) (fun _ _ => rfl)) pe_str (by rfl))
    (pss_one (ps_while PassesOwn.never (PW.pt (pw_and (pt_cmpR op_lt (pv 3) (pe_callB call_len_str (by rfl) T.z_len bt_len (pa_cons (pv 0) pa_nil)) (nomark _)) (pw_and1 (pt_cmpR op_notIn_sign (pe_ix ix_str (pv 0) (pv 3) (fun _ _ => rfl)) pe_str (by rfl)))))
    (pss_one (ps_aug (i := 3) nd rfl (Or.inl rfl) pe_int ip_add))))
    pss_nil)
    (pss_cons (ps_if (pt_cmpR op_ne (pe_ix ix_str (pv 0) (pv 2) (fun _ _ => rfl)) pe_str (nomark _))
    (pss_one (ps_expr (pe_bm PySem.F.plainAttrs_list PySem.F.slot_list_append PySem.F.type_list_append mt_append (pv 1) (pa_cons (pe_tup (pa_cons (pv 2) (pa_cons (pe_slice C8.sl_txt (pv 0) (po_some (pv 2)) (po_some (pv 3))) pa_nil))) pa_nil))))
    pss_nil)
    (pss_one (ps_set (i := 2) nd rfl (Or.inl rfl) (pv 3)))))))
    (pss_one (ps_ret (pv 1)))))), ?_⟩
  have hzs : z.length ≤ sizeLine := Cb.sz (by omega)
  have hL : z.length = z.cps.toList.length := str_len z
  refine ⟨by decide, fun f nf => ?_⟩
  refine ⟨fun m σ H2 => ∃ (place : Nat) (todo : List (Nat × Str)) (dn : List Str) (ys : List V) (z3 : Option V), m = z.length - place ∧ place ≤ z.length ∧ z.cps.toList.drop place = segText todo ∧ SepT todo ∧ (∀ t ∈ todo, WordOk t.2) ∧ dn ++ todo.map (·.2) = segs.map (·.2) ∧ Same H H2 ∧ H2 f = some (.lst ys) ∧ P2 (PWat H2) ys dn ∧ dn.length ≤ place ∧ σ = [some (.str z), some (.ref f), some (.int (place : Int)), z3], ⟨_, 0, segs, [], [], none, rfl, Nat.zero_le _, hz, SepT.of hok.sep, hw, rfl, sm_up nf, upd_same, .nil, Nat.le_refl _, rfl⟩, ?_⟩
  rintro m σ H2 ⟨place, todo, dn, ys, z3, rfl, hpl, htx, hsep, hwd, hdn, s2, hf, hys, hdl, rfl⟩
  refine ⟨_, rfl, _, rfl, z, rfl, hzs, _, _, rfl, rfl, _, rfl, ite2 (fun c => ?_) (fun c => ?_)⟩
  rotate_left
  · have c' : ¬ place < z.length := fun q => c (decide_eq_true (by omega))
    have htx2 : segText todo = [] := by
      rw [← htx]
      exact List.drop_eq_nil_of_le (by omega)
    have htd : todo = [] := by
      cases todo with
      | nil => rfl
      | cons t r =>
        exfalso
        obtain ⟨k, w⟩ := t
        rw [segText_cons] at htx2
        have h1 : wc w = [] := (List.append_eq_nil_iff.mp (List.append_eq_nil_iff.mp htx2).1).2
        rcases hwd (k, w) List.mem_cons_self with hp | hp
        · obtain ⟨c, e, _⟩ := par_wc hp
          rw [e] at h1
          cases h1
        · exact hp.1 h1
    subst htd
    rw [List.map_nil, List.append_nil] at hdn
    rw [hdn] at hys
    exact ⟨_, rfl, Qk f H2 ys s2 nf hf hys⟩
  have c' : place < z.length := by
    have : (place : Int) < (z.length : Int) := of_decide_eq_true c
    omega
  -- the next turn's facts
  obtain ⟨N, hN⟩ : ∃ N : L2.St → Hp → Prop, N = fun σ' H3 => ∃ (place' : Nat) (todo' : List (Nat × Str)) (dn' : List Str) (ys' : List V) (z3' : Option V), place < place' ∧ place' ≤ z.length ∧ z.cps.toList.drop place' = segText todo' ∧ SepT todo' ∧ (∀ t ∈ todo', WordOk t.2) ∧ dn' ++ todo'.map (·.2) = segs.map (·.2) ∧ Same H H3 ∧ H3 f = some (.lst ys') ∧ P2 (PWat H3) ys' dn' ∧ dn'.length ≤ place' ∧ σ' = [some (.str z), some (.ref f), some (.int (place' : Int)), z3'] := ⟨_, rfl⟩
  refine ⟨N, ?_, ?_⟩
  · intro σ' H3 hn
    rw [hN] at hn
    obtain ⟨place', todo', dn', ys', z3', h0, h1, h2, h3, h4, h5, h6, h7, h8, h9, rfl⟩ := hn
    exact ⟨z.length - place', by omega, place', todo', dn', ys', z3', rfl, h1, h2, h3, h4, h5, h6, h7, h8, h9, rfl⟩
  cases todo with
  | nil =>
    exfalso
    have e0 : z.cps.toList.drop place = [] := htx
    have := congrArg List.length e0
    rw [List.length_drop] at this
    simp at this
    rw [Array.length_toList] at hL
    omega
  | cons t r =>
  obtain ⟨k, w⟩ := t
  have hww := hwd (k, w) List.mem_cons_self
  have hwr : ∀ t ∈ r, WordOk t.2 := fun t ht => hwd t (List.mem_cons_of_mem _ ht)
  refine ⟨_, rfl, _, _, rfl, rfl, ?_⟩
  cases k with
  | succ k =>
    have e1 : z.cps.toList.drop place = [32] ++ segText ((k, w) :: r) := by
      rw [htx, segText_cons, segText_cons, List.replicate_succ]
      rfl
    have hc : z.cps.toList[place]? = some 32 := by
      have := drop_at e1 0
      simpa using this
    refine ⟨_, rfl, _, rfl, z, _, 32, rfl, rfl, hzs, atn rfl hc, 32, _, rfl, rfl, _, rfl, iteFd (by rw [s_sep]; decide) ?_⟩
    refine ⟨_, rfl, _, rfl, z, _, 32, rfl, rfl, hzs, atn rfl hc, rfl, _, rfl, iteFd (by rw [s_sp]; simp) ?_⟩
    refine ⟨_, rfl, ?_⟩
    show N _ _
    rw [hN]
    exact ⟨place + 1, (k, w) :: r, dn, ys, _, by omega, by omega, drop_drop' e1, hsep.fst, fun t ht => (List.mem_cons.mp ht).elim (fun e => by rw [e]; exact hww) (hwr t), hdn, s2, hf, hys, by omega, rfl⟩
  | zero =>
    have e0 : z.cps.toList.drop place = wc w ++ segText r := by
      rw [htx, segText_cons]
      rfl
    have hlw : (wc w).length + (segText r).length = z.length - place := by
      have := congrArg List.length e0
      rw [List.length_drop, List.length_append, ← hL] at this
      omega
    -- the word is appended
    have app : ∀ (D : Ends) (e : Nat), (∀ σ' H3, N σ' H3 → D.nx σ' H3) → e = place + (wc w).length → wc w ≠ [] → (∀ c ∈ wc w, c ≠ 32) →
        tSeq (tIfS (tTest (tOp rNe (tOp rIxS (tVar 0) (tVar 2)) (tC (V.str " ")))) (tDrop (tBM K "list" rAppend (tVar 1) (tCons (tTup (tCons (tVar 2) (tCons (tSl C8.rSlX (tVar 0) (tPart (tVar 2)) (tPart (tVar 3))) tNil))) tNil))) tNext) (tAsg (tVar 3) (gName 2))
          D [some (.str z), some (.ref f), some (.int (place : Int)), some (.int (e : Int))] H2 := by
      intro D e hD he hne h32
      obtain ⟨c0, w0, hw0⟩ : ∃ c0 w0, wc w = c0 :: w0 := by
        cases h : wc w with
        | nil => exact absurd h hne
        | cons a b => exact ⟨a, b, rfl⟩
      have hc0 : c0 ≠ 32 := h32 c0 (by rw [hw0]; exact List.mem_cons_self)
      have hc : z.cps.toList[place]? = some c0 := by
        have := drop_at e0 0
        rw [hw0] at this
        simpa using this
      have hcut := cut_at e0 he
      have hwz : (⟨(wc w).toArray⟩ : Str) = w := by
        unfold wc
        rw [Array.toArray_toList]
      rw [hwz] at hcut
      refine ⟨_, rfl, _, rfl, z, _, c0, rfl, rfl, hzs, atn rfl hc, rfl, _, rfl, iteTd (by rw [s_sp]; simp [hc0]) ?_⟩
      refine ⟨_, rfl, .inl ⟨rfl, _, SqL.of hf⟩, _, rfl, _, rfl, _, rfl, _, rfl, _, rfl, _, rfl, z, rfl, hzs, ?_⟩
      rw [hcut]
      refine ⟨(by show 2 ≤ sizeLine; decide), fun a na => ?_⟩
      have sa := sm_up (o := .tup [V.int (place : Int), V.str w]) na
      have hfa := sa _ _ hf
      refine ⟨f, ys, _, rfl, rfl, hfa, szl (by rw [hys.len]; omega), ?_⟩
      have tkf : Tk _ (upd (upd H2 a (.tup [V.int (place : Int), V.str w])) f (.lst (ys ++ [.ref a]))) := tk_lst (fun _ _ h => h) hfa
      refine ⟨_, rfl, hD _ _ ?_⟩
      rw [hN]
      have hpos : 0 < (wc w).length := by rw [hw0]; exact Nat.succ_pos _
      refine ⟨e, r, dn ++ [w], ys ++ [.ref a], _, by omega, by omega, ?_, hsep.tl, hwr, ?_, sm_mut (s2.trans sa) nf, upd_same, ?_, ?_, rfl⟩
      · rw [he]
        exact drop_drop' e0
      · rw [← hdn, List.append_assoc]
        rfl
      · exact (hys.imp fun v x q => (q.tk (sm_tk sa)).tk tkf).snoc ⟨a, _, rfl, tkf _ _ upd_same⟩
      · rw [List.length_append]
        show _ + 1 ≤ _
        omega
    rcases hww with hp | ⟨hne, hch⟩
    · obtain ⟨c, ec, hcc⟩ := par_wc hp
      have hc : z.cps.toList[place]? = some c := by
        have := drop_at e0 0
        rw [ec] at this
        simpa using this
      refine ⟨_, rfl, _, rfl, z, _, c, rfl, rfl, hzs, atn rfl hc, c, _, rfl, rfl, _, rfl, iteFd (by rw [s_sep]; rcases hcc with h | h <;> (rw [h]; decide)) ?_⟩
      exact app _ (place + 1) (fun _ _ h => h) (by rw [ec]; rfl) (by rw [ec]; simp) (by rw [ec]; intro x hx; simp at hx; omega)
    · obtain ⟨c0, w0, hw0⟩ : ∃ c0 w0, wc w = c0 :: w0 := by
        cases h : wc w with
        | nil => exact absurd h hne
        | cons a b => exact ⟨a, b, rfl⟩
      have nin : ∀ x, x ≠ 32 ∧ x ≠ 40 ∧ x ≠ 41 → (!decide (x ∈ (Str.ofString " ()").cps.toList)) = true := fun x hx => by
        rw [s_sep]
        simp
        omega
      have hc0 := hch c0 (by rw [hw0]; exact List.mem_cons_self)
      have hc : z.cps.toList[place]? = some c0 := by
        have := drop_at e0 0
        rw [hw0] at this
        simpa using this
      have hpos : 0 < (wc w).length := by rw [hw0]; exact Nat.succ_pos _
      refine ⟨_, rfl, _, rfl, z, _, c0, rfl, rfl, hzs, atn rfl hc, c0, _, rfl, rfl, _, rfl, iteTd (nin c0 hc0) ?_⟩
      refine ⟨fun m σ H3 => H3 = H2 ∧ ∃ e : Nat, σ = [some (.str z), some (.ref f), some (.int (place : Int)), some (.int ((place + e : Nat) : Int))] ∧ 1 ≤ e ∧ e ≤ (wc w).length ∧ m = (wc w).length - e, ⟨_, rfl, 1, rfl, Nat.le_refl _, hpos, rfl⟩, ?_⟩
      rintro m σ H3 ⟨rfl, e, rfl, e1, el, rfl⟩
      have hxe := drop_at e0 e
      by_cases q : e < (wc w).length
      · obtain ⟨x, hx⟩ : ∃ x, (wc w)[e]? = some x := ⟨_, List.getElem?_eq_getElem q⟩
        have hxm := hch x (List.mem_of_getElem? hx)
        rw [List.getElem?_append_left q, hx] at hxe
        refine ⟨_, rfl, _, rfl, z, rfl, hzs, _, _, rfl, rfl, _, rfl, iteTd (decide_eq_true (by omega)) ?_⟩
        refine ⟨_, rfl, _, rfl, z, _, x, rfl, rfl, hzs, atn rfl hxe, x, _, rfl, rfl, _, rfl, iteTd (nin x hxm) ?_⟩
        refine ⟨fun σ2 H4 => H4 = H3 ∧ σ2 = [some (.str z), some (.ref f), some (.int (place : Int)), some (.int ((place + (e + 1) : Nat) : Int))], ?_, ?_⟩
        · rintro σ2 H4 ⟨rfl, rfl⟩
          exact ⟨(wc w).length - (e + 1), by omega, rfl, e + 1, rfl, by omega, by omega, rfl⟩
        · exact ⟨_, rfl, _, _, rfl, rfl, rfl, rfl⟩
      · have he : e = (wc w).length := by omega
        by_cases q2 : place + e < z.length
        · have hx2 : ∃ x, z.cps.toList[place + e]? = some x ∧ (x = 32 ∨ x = 40 ∨ x = 41) := by
            rw [hxe, List.getElem?_append_right (by omega), he, Nat.sub_self]
            cases r with
            | nil =>
              exfalso
              have : (segText ([] : List (Nat × Str))).length = 0 := rfl
              omega
            | cons t r =>
              obtain ⟨k2, w2⟩ := t
              cases k2 with
              | succ k2 => exact ⟨32, by rw [segText_cons, List.replicate_succ]; rfl, .inl rfl⟩
              | zero =>
                have hpw : par w2 := by
                  rcases hsep.1 rfl with h | h
                  · obtain ⟨c, ec, hcc⟩ := par_wc h
                    have := hch c (by show c ∈ wc w; rw [show wc w = [c] from ec]; exact List.mem_cons_self)
                    omega
                  · exact h
                obtain ⟨c, ec, hcc⟩ := par_wc hpw
                refine ⟨c, ?_, .inr hcc⟩
                rw [segText_cons, ec]
                rfl
          obtain ⟨x, hx, hx3⟩ := hx2
          refine ⟨_, rfl, _, rfl, z, rfl, hzs, _, _, rfl, rfl, _, rfl, iteTd (decide_eq_true (by omega)) ?_⟩
          refine ⟨_, rfl, _, rfl, z, _, x, rfl, rfl, hzs, atn rfl hx, x, _, rfl, rfl, _, rfl, iteFd (by rw [s_sep]; rcases hx3 with h | h | h <;> (rw [h]; decide)) ?_⟩
          exact app _ (place + e) (fun _ _ h => h) (by rw [he]) hne (fun x hx => (hch x hx).1)
        · refine ⟨_, rfl, _, rfl, z, rfl, hzs, _, _, rfl, rfl, _, rfl, iteFd (decide_eq_false (by omega)) ?_⟩
          exact app _ (place + e) (fun _ _ h => h) (by rw [he]) hne (fun x hx => (hch x hx).1)

end
end Cb
namespace Cb
open PySem PySem.Spec PyProof.Rows L2
section
variable {P : Program} {w : World} {K : PySem.W.Frag} {mg : Str → Option Value} {base : Heap}
/-! ### columns, atoms -/
def Step.tup : Step → List V
  | .yes => [.str "yes"]
  | .no => [.str "no"]
  | .blank i => [.str "blank", .int (i : Int)]
  | .worth i v => [.str "worth", .int (i : Int), .int (v : Int)]
  | .not => [.str "not"]
  | .and => [.str "and"]
  | .or => [.str "or"]
def StepAt (H : Hp) (v : V) (s : Step) : Prop := ∃ a, v = .ref a ∧ H a = some (.tup s.tup)
theorem OfT.step : OfT StepAt := fun _ _ _ _ t ⟨a, e, h⟩ => ⟨a, e, t _ _ h⟩
theorem StepAt.tk {H H' : Hp} {v : V} {s : Step} (h : StepAt H v s) (e : Tk H H') : StepAt H' v s := OfT.step _ _ _ _ e h
theorem fin4 {p : Nat → Prop} (h : ∀ i : Fin 4, p i.1) {i : Nat} (hi : i ≤ 3) : p i := h ⟨i, by omega⟩
theorem fin44 {p : Nat → Nat → Prop} (h : ∀ i j : Fin 4, p i.1 j.1) {i j : Nat} (hi : i ≤ 3) (hj : j ≤ 3) : p i j := h ⟨i, by omega⟩ ⟨j, by omega⟩
theorem intD {i : Nat} (h : i ≤ 3) : PySem.intText? ⟨#[48 + i]⟩ = some (i : Int) := fin4 (p := fun i => PySem.intText? ⟨#[48 + i]⟩ = some (i : Int)) (by decide +kernel) h
theorem s_fig : (Str.ofString "0123").cps.toList = [48, 49, 50, 51] := by decide +kernel
theorem fig_in {i : Nat} (h : i ≤ 3) : (!decide (48 + i ∈ (Str.ofString "0123").cps.toList)) = false := by
  rw [s_fig]
  exact fin4 (p := fun i => (!decide (48 + i ∈ [48, 49, 50, 51])) = false) (by decide) h
def spColumn (K : PySem.W.Frag) : Sp := fun vs H Q _ => ∃ (v : V) (sz : List Nat) (w g : Str), vs = [v, .str w, .str g] ∧ TIn H v (isz sz) ∧ Sz sz ∧
  ((w.length ≠ 2 ∧ w.length ≤ 1000 ∧ Q .non H) ∨ ∃ s i : Nat, w = ⟨#[s, 48 + i]⟩ ∧ g = ⟨#[s]⟩ ∧ i < sz.length ∧ Q (.int (i : Int)) H)
abbrev N_column_of : List Str := ["sizes", "word", "sign"]
theorem sc_column_of : FnScope N_column_of ["sizes", "word", "sign"] (defScope s_column_of) := ⟨rfl, rfl, rfl, by decide +kernel, rfl, by decide +kernel, by decide +kernel⟩
theorem cal_column_of (T : Txt w K mg) : C8.Cal P w K mg base 1 "column_of" (spColumn K) [] := by
  refine mkCal T.F_column_of T.g_column_of sc_column_of (fun _ _ _ _ _ _ us hl => match us, hl with | [_, _, _], _ => rfl) (fun vs H Q E h => ?_) (fun cdv A outer s H vs Q E hr h => ?_)
  · obtain ⟨v, sz, w, gs, rfl, ⟨a, rfl, hs⟩, hz, hQ⟩ := h
    rfl
  obtain ⟨v, sz, w, gs, rfl, ⟨a, rfl, hs⟩, hz, hQ⟩ := h
  have nd := sc_column_of.nd
  have hu := hu_of hr
  refine ⟨_, (pss_cons (ps_if (PW.pt (pw_or (pt_cmpR op_ne (pe_callB call_len_str (by rfl) T.z_len bt_len (pa_cons (pv 1) pa_nil)) pe_int (nomark _)) (pw_or (pt_cmpR op_ne (pe_ix ix_str (pv 1) pe_int (fun _ _ => rfl)) (pv 2) (nomark _)) (pw_or (pt_cmpR op_notIn_sign (pe_ix ix_str (pv 1) pe_int (fun _ _ => rfl)) (C8.pe_gc (by rfl) T.v_FIGURES) (by rfl)) (pw_or1 (pt_cmpR op_ge (pe_callTy call_int_str (by rfl) T.z_int bt_int (pa_cons (pe_ix ix_str (pv 1) pe_int (fun _ _ => rfl)) pa_nil)) (pe_callB (r := rLen K) call_len_seq (by rfl) T.z_len bt_len (pa_cons (pv 0) pa_nil)) (nomark _)))))))
    (pss_one (ps_ret pe_non))
    pss_nil)
    (pss_one (ps_ret (pe_callTy call_int_str (by rfl) T.z_int bt_int (pa_cons (pe_ix ix_str (pv 1) pe_int (fun _ _ => rfl)) pa_nil))))), ?_⟩
  have hs' : SqT K H a ((isz sz).map V.int) := SqT.of hs
  have hlen : ((isz sz).map V.int).length = sz.length := by rw [List.length_map, isz_len]
  have l4 := hz.l4
  rcases hQ with ⟨h2, h1000, Qk⟩ | ⟨s, i, rfl, rfl, hi, Qk⟩
  · refine ⟨_, rfl, _, rfl, Cb.sz (by omega), rfl, _, rfl, iteTd (by simp; omega) ?_⟩
    exact Qk
  · have hi3 : i ≤ 3 := by omega
    have hl : Str.length ⟨#[s, 48 + i]⟩ ≤ sizeLine := by show 2 ≤ sizeLine; decide
    have h0 : atI (⟨#[s, 48 + i]⟩ : Str).cps.toList 0 = some s := atn (j := 0) rfl rfl
    have h1 : atI (⟨#[s, 48 + i]⟩ : Str).cps.toList 1 = some (48 + i) := atn (j := 1) rfl rfl
    refine ⟨_, rfl, _, rfl, hl, rfl, _, rfl, iteFd (by show (!decide (V.int (2 : Int) = V.int 2)) = false; simp) ?_⟩
    refine ⟨_, rfl, _, _, s, rfl, rfl, hl, h0, _, rfl, rfl, _, rfl, iteFd (by simp) ?_⟩
    refine ⟨_, rfl, _, _, 48 + i, rfl, rfl, hl, h1, _, _, rfl, rfl, _, rfl, iteFd (fig_in hi3) ?_⟩
    refine ⟨_, rfl, _, _, 48 + i, rfl, rfl, hl, h1, _, _, rfl, intD hi3, (by show 1 ≤ 640; decide), _, rfl, _, _, rfl, .inr hs', _, _, rfl, rfl, _, rfl, iteFd (decide_eq_false (by rw [hlen]; omega)) ?_⟩
    refine ⟨_, rfl, _, _, 48 + i, rfl, rfl, hl, h1, _, _, rfl, intD hi3, (by show 1 ≤ 640; decide), Qk⟩
theorem yn_b {i : Nat} (h : i ≤ 3) : inV (.str (W.b i).s) [.str "yes", .str "no"] = false := fin4 (p := fun i => inV (.str (W.b i).s) [.str "yes", .str "no"] = false) (by decide +kernel) h
theorem yn_c {i j : Nat} (h : i ≤ 3) (hj : j ≤ 3) : inV (.str (W.c i j).s) [.str "yes", .str "no"] = false := fin44 (p := fun i j => inV (.str (W.c i j).s) [.str "yes", .str "no"] = false) (by decide +kernel) h hj
def spAtom : Sp := fun vs H Q _ => ∃ (v : V) (sz : List Nat) (w : W) (s : Step), vs = [v, .str w.s] ∧ TIn H v (isz sz) ∧ Sz sz ∧ w.atom sz = some s ∧ ∀ r H', Same H H' → StepAt H' r s → Q r H'
abbrev N_atom_of : List Str := ["sizes", "word", "column"]
theorem sc_atom_of : FnScope N_atom_of ["sizes", "word"] (defScope s_atom_of) := ⟨rfl, rfl, rfl, by decide +kernel, rfl, by decide +kernel, by decide +kernel⟩
theorem cal_atom_of (T : Txt w K mg) : C8.Cal P w K mg base 2 "atom_of" spAtom [] := by
  have c_column_of := cal_column_of (P := P) (base := base) T
  refine mkCal T.F_atom_of T.g_atom_of sc_atom_of (fun _ _ _ _ _ _ us hl => match us, hl with | [_, _], _ => rfl) (fun vs H Q E h => ?_) (fun cdv A outer s H vs Q E hr h => ?_)
  · obtain ⟨v, sz, w, s, rfl, ⟨a, rfl, hs⟩, hz, ha, Qk⟩ := h
    rfl
  obtain ⟨v, sz, w, s, rfl, ⟨a, rfl, hs⟩, hz, ha, Qk⟩ := h
  have nd := sc_atom_of.nd
  have hu := hu_of hr
  refine ⟨_, (pss_cons (ps_if (pt_cmpR (r := rIn K false) op_in_seq (pv 1) (pe_tup (pa_cons pe_str (pa_cons pe_str pa_nil))) (by rfl))
    (pss_one (ps_ret (pe_tup (pa_cons (pv 1) pa_nil))))
    pss_nil)
    (pss_cons (ps_set (i := 2) nd rfl (Or.inl rfl) (C8.pe_c c_column_of hr (by decide) rfl (pa_cons (pv 0) (pa_cons (pv 1) (pa_cons pe_str pa_nil)))))
    (pss_cons (ps_if (pt_cmpR op_notN (pv 2) pe_non (nomark _))
    (pss_one (ps_ret (pe_tup (pa_cons pe_str (pa_cons (pv 2) pa_nil)))))
    pss_nil)
    (pss_cons (ps_set (i := 2) nd rfl (Or.inl rfl) (C8.pe_c c_column_of hr (by decide) rfl (pa_cons (pv 0) (pa_cons (pe_slice C8.sl_txt (pv 1) po_none (po_some pe_int)) (pa_cons pe_str pa_nil)))))
    (pss_cons (ps_if (PW.pt (pw_or (pt_cmpR op_isN (pv 2) pe_non (nomark _)) (pw_or (pt_cmpR op_ne (pe_callB call_len_str (by rfl) T.z_len bt_len (pa_cons (pv 1) pa_nil)) pe_int (nomark _)) (pw_or (pt_cmpR op_ne (pe_ix ix_str (pv 1) pe_int (fun _ _ => rfl)) pe_str (nomark _)) (pw_or1 (pt_cmpR op_notIn_sign (pe_ix ix_str (pv 1) pe_int (fun _ _ => rfl)) (C8.pe_gc (by rfl) T.v_FIGURES) (by rfl)))))))
    (pss_one (ps_ret pe_non))
    pss_nil)
    (pss_one (ps_ret (pe_ifExp (pt_cmpR op_lt (pe_callTy call_int_str (by rfl) T.z_int bt_int (pa_cons (pe_ix ix_str (pv 1) pe_int (fun _ _ => rfl)) pa_nil)) (pe_ix (r := rIxT K) ix_tup (pv 0) (pv 2) (fun _ _ => rfl)) (nomark _)) (pe_tup (pa_cons pe_str (pa_cons (pv 2) (pa_cons (pe_callTy call_int_str (by rfl) T.z_int bt_int (pa_cons (pe_ix ix_str (pv 1) pe_int (fun _ _ => rfl)) pa_nil)) pa_nil)))) pe_non)))))))), ?_⟩
  have l4 := hz.l4
  cases w with
  | lp => cases ha
  | rp => cases ha
  | and => cases ha
  | or => cases ha
  | not => cases ha
  | iff => cases ha
  | share => cases ha
  | yes =>
    cases ha
    refine ⟨_, rfl, (by show 2 ≤ sizeLine; decide), fun t nt => ⟨t, _, rfl, .inr (SqT.of upd_same), rfl, rfl, _, rfl, iteTd (by decide +kernel) ?_⟩⟩
    refine ⟨_, rfl, (by show 1 ≤ sizeLine; decide), fun r nr => Qk _ _ (sm_new (sm_up nt) nr) ⟨r, rfl, upd_same⟩⟩
  | no =>
    cases ha
    refine ⟨_, rfl, (by show 2 ≤ sizeLine; decide), fun t nt => ⟨t, _, rfl, .inr (SqT.of upd_same), rfl, rfl, _, rfl, iteTd (by decide +kernel) ?_⟩⟩
    refine ⟨_, rfl, (by show 1 ≤ sizeLine; decide), fun r nr => Qk _ _ (sm_new (sm_up nt) nr) ⟨r, rfl, upd_same⟩⟩
  | b i =>
    have hi : i < sz.length ∧ s = .blank i := by
      have h2 : (if i < sz.length then some (Step.blank i) else none) = some s := ha
      split at h2
      · rename_i q
        exact ⟨q, (Option.some.inj h2).symm⟩
      · cases h2
    obtain ⟨hi, rfl⟩ := hi
    refine ⟨_, rfl, (by show 2 ≤ sizeLine; decide), fun t nt => ⟨t, _, rfl, .inr (SqT.of upd_same), rfl, rfl, _, rfl, iteFd (yn_b (by omega)) ?_⟩⟩
    have st := sm_up (o := .tup [V.str "yes", V.str "no"]) nt
    refine ⟨_, rfl, _, rfl, _, sz, _, _, rfl, ⟨a, rfl, st _ _ hs⟩, hz, .inr ⟨98, i, rfl, s_b, hi, ?_⟩⟩
    refine ⟨_, rfl, rfl, _, rfl, iteTd (by simp) ?_⟩
    refine ⟨_, rfl, (by show 2 ≤ sizeLine; decide), fun r nr => Qk _ _ (sm_new st nr) ⟨r, rfl, upd_same⟩⟩
  | c i j =>
    have hi : ∃ n, sz[i]? = some n ∧ j < n ∧ s = .worth i j := by
      have h2 : (match sz[i]? with | some n => if j < n then some (Step.worth i j) else none | none => none) = some s := ha
      cases e : sz[i]? with
      | none => rw [e] at h2; cases h2
      | some n =>
        rw [e] at h2
        dsimp at h2
        split at h2
        · rename_i q
          exact ⟨n, rfl, q, (Option.some.inj h2).symm⟩
        · cases h2
    obtain ⟨n, hn, hj, rfl⟩ := hi
    have hi : i < sz.length := (List.getElem?_eq_some_iff.mp hn).1
    have hi3 : i ≤ 3 := by omega
    have hj3 : j ≤ 3 := by
      have := (hz.b n (List.mem_of_getElem? hn)).2
      omega
    have hl : Str.length (W.c i j).s ≤ sizeLine := by show 4 ≤ sizeLine; decide
    refine ⟨_, rfl, (by show 2 ≤ sizeLine; decide), fun t nt => ⟨t, _, rfl, .inr (SqT.of upd_same), rfl, rfl, _, rfl, iteFd (yn_c hi3 hj3) ?_⟩⟩
    have st := sm_up (o := .tup [V.str "yes", V.str "no"]) nt
    have hst := st _ _ hs
    refine ⟨_, rfl, _, rfl, _, sz, _, _, rfl, ⟨a, rfl, hst⟩, hz, .inl ⟨(by show 4 ≠ 2; decide), (by show 4 ≤ 1000; decide), ?_⟩⟩
    refine ⟨_, rfl, rfl, _, rfl, iteFd (by simp) ?_⟩
    have hcut : Txt.slice (W.c i j).s none (some 2) = ⟨#[99, 48 + i]⟩ := by
      rw [← C8.cutS_slice]
      rfl
    refine ⟨_, rfl, _, rfl, _, rfl, _, rfl, hl, ?_⟩
    rw [hcut]
    refine ⟨_, sz, _, _, rfl, ⟨a, rfl, hst⟩, hz, .inr ⟨99, i, rfl, s_c, hi, ?_⟩⟩
    have h2 : atI (W.c i j).s.cps.toList 2 = some 61 := atn (j := 2) rfl rfl
    have h3 : atI (W.c i j).s.cps.toList 3 = some (48 + j) := atn (j := 3) rfl rfl
    refine ⟨_, rfl, rfl, _, rfl, iteFd (by simp) ?_⟩
    refine ⟨_, rfl, _, rfl, hl, rfl, _, rfl, iteFd (by show (!decide (V.int (4 : Int) = V.int 4)) = false; simp) ?_⟩
    refine ⟨_, rfl, _, _, 61, rfl, rfl, hl, h2, rfl, _, rfl, iteFd (by rw [s_eq]; simp) ?_⟩
    refine ⟨_, rfl, _, _, 48 + j, rfl, rfl, hl, h3, _, _, rfl, rfl, _, rfl, iteFd (fig_in hj3) ?_⟩
    have hnv : ((isz sz).map V.int)[i]? = some (.int (n : Int)) := by
      rw [List.getElem?_map, isz_get hn]
      rfl
    refine ⟨_, rfl, _, _, 48 + j, rfl, rfl, hl, h3, _, _, rfl, intD hj3, (by show 1 ≤ 640; decide), _, rfl, _, rfl, a, _, _, _, rfl, rfl, SqT.of hst, at_of rfl hnv, _, _, rfl, rfl, _, rfl, iteTd (decide_eq_true (by omega)) ?_⟩
    refine ⟨_, rfl, _, rfl, _, _, 48 + j, rfl, rfl, hl, h3, _, _, rfl, intD hj3, (by show 1 ≤ 640; decide), (by show 3 ≤ sizeLine; decide), fun r nr => Qk _ _ (sm_new st nr) ⟨r, rfl, upd_same⟩⟩

end
end Cb
namespace Cb
open PySem PySem.Spec PyProof.Rows L2
section
variable {P : Program} {w : World} {K : PySem.W.Frag} {mg : Str → Option Value} {base : Heap}
/-! ### the reader -/
abbrev CR (K : PySem.W.Frag) : Addr := He.ga K "Reader"
def rdFs (v : V) (S U : Addr) (wn : Bool) : List (Str × V) := [("sizes", v), ("steps", .ref S), ("waiting", .ref U), ("is_wanted", .bl wn)]
structure RdAt (C : Addr) (H : Hp) (r S U : Addr) (v : V) (s : PS) : Prop where
  o : ∃ dx, H r = some (.ins C dx (rdFs v S U s.wn))
  st : ∃ ys, H S = some (.lst ys) ∧ P2 (StepAt H) ys s.st
  wt : H U = some (.lst (wv s.wt.reverse))
  ne : S ≠ U
/-- all but the reader's own stays -/
def RB (r S U : Addr) (H H' : Hp) : Prop := ∀ b o, b ≠ r → b ≠ S → b ≠ U → H b = some o → H' b = some o
theorem RB.refl {r S U : Addr} (H : Hp) : RB r S U H H := fun _ _ _ _ _ h => h
theorem RB.trans {r S U : Addr} {H H1 H2 : Hp} (a : RB r S U H H1) (b : RB r S U H1 H2) : RB r S U H H2 := fun x o n1 n2 n3 h => b x o n1 n2 n3 (a x o n1 n2 n3 h)
theorem RB.of {r S U : Addr} {H H' : Hp} (e : Same H H') : RB r S U H H' := fun b o _ _ _ h => e b o h
theorem RB.at_ {r S U x : Addr} {H H' : Hp} {o : HO} (e : RB r S U H H') (h : x = r ∨ x = S ∨ x = U) : RB r S U H (upd H' x o) := fun b u n1 n2 n3 q => by
  have ne : b ≠ x := by
    rcases h with rfl | rfl | rfl
    · exact n1
    · exact n2
    · exact n3
  rw [upd_ne ne]
  exact e b u n1 n2 n3 q
theorem RB.sm {r S U : Addr} {H0 H H' : Hp} (e : RB r S U H H') (s : Same H0 H) (hr : H0 r = none) (hS : H0 S = none) (hU : H0 U = none) : Same H0 H' := fun b o h => e b o (ne_of_none h hr) (ne_of_none h hS) (ne_of_none h hU) (s b o h)
section
variable {C r S U : Addr} {v : V} {s : PS} {H : Hp}
theorem RdAt.rS (h : RdAt C H r S U v s) : r ≠ S := by
  obtain ⟨dx, h1⟩ := h.o
  obtain ⟨ys, h2, _⟩ := h.st
  intro e
  rw [e, h2] at h1
  cases h1
theorem RdAt.rU (h : RdAt C H r S U v s) : r ≠ U := by
  obtain ⟨dx, h1⟩ := h.o
  intro e
  rw [e, h.wt] at h1
  cases h1
theorem RdAt.sm {H' : Hp} (h : RdAt C H r S U v s) (e : Same H H') : RdAt C H' r S U v s := by
  obtain ⟨dx, h1⟩ := h.o
  obtain ⟨ys, h2, h3⟩ := h.st
  exact ⟨⟨dx, e _ _ h1⟩, ⟨ys, e _ _ h2, h3.imp fun v x q => q.tk (sm_tk e)⟩, e _ _ h.wt, h.ne⟩
theorem RdAt.tkS (h : RdAt C H r S U v s) {ys : List V} : Tk H (upd H S (.lst ys)) := by
  obtain ⟨zs, h2, _⟩ := h.st
  exact tk_lst (fun _ _ h => h) h2
/-- a step is appended -/
theorem RdAt.push (h : RdAt C H r S U v s) {ys : List V} (hS : H S = some (.lst ys)) {x : V} {p : Step} (hx : StepAt H x p) : RdAt C (upd H S (.lst (ys ++ [x]))) r S U v ⟨s.st ++ [p], s.wt, s.wn⟩ := by
  obtain ⟨dx, h1⟩ := h.o
  obtain ⟨zs, h2, h3⟩ := h.st
  rw [hS] at h2
  cases h2
  have tk := h.tkS (ys := ys ++ [x])
  refine ⟨⟨dx, by rw [upd_ne h.rS]; exact h1⟩, ⟨ys ++ [x], upd_same, (h3.imp fun v x q => q.tk tk).snoc (hx.tk tk)⟩, by rw [upd_ne h.ne.symm]; exact h.wt, h.ne⟩
/-- what is waiting is changed -/
theorem RdAt.wait (h : RdAt C H r S U v s) (wt : List W) : RdAt C (upd H U (.lst (wv wt.reverse))) r S U v ⟨s.st, wt, s.wn⟩ := by
  obtain ⟨dx, h1⟩ := h.o
  obtain ⟨ys, h2, h3⟩ := h.st
  have tk : Tk H (upd H U (.lst (wv wt.reverse))) := tk_lst (fun _ _ h => h) h.wt
  exact ⟨⟨dx, by rw [upd_ne h.rU]; exact h1⟩, ⟨ys, by rw [upd_ne h.ne]; exact h2, h3.imp fun v x q => q.tk tk⟩, upd_same, h.ne⟩
/-- wanted or not is changed -/
theorem RdAt.want (h : RdAt C H r S U v s) {dx : Addr} (hr : H r = some (.ins C dx (rdFs v S U s.wn))) (b : Bool) : RdAt C (upd H r (.ins C dx (rdFs v S U b))) r S U v ⟨s.st, s.wt, b⟩ := by
  obtain ⟨ys, h2, h3⟩ := h.st
  have tk : Tk H (upd H r (.ins C dx (rdFs v S U b))) := fun b xs q => by
    rw [upd_ne (ne_of q hr (by intro z; cases z))]
    exact q
  exact ⟨⟨dx, upd_same⟩, ⟨ys, by rw [upd_ne h.rS.symm]; exact h2, h3.imp fun v x q => q.tk tk⟩, by rw [upd_ne h.rU.symm]; exact h.wt, h.ne⟩
end
theorem at_last {ys : List V} {y : V} : atI (ys ++ [y]) (-1) = some y := by
  unfold atI ixN
  rw [if_neg (by decide), if_pos (by rw [List.length_append]; show -(((_ + 1 : Nat)) : Int) ≤ -1; omega)]
  show (ys ++ [y])[((-1 : Int) + ((ys ++ [y]).length : Int)).toNat]? = some y
  have e : ((-1 : Int) + ((ys ++ [y]).length : Int)).toNat = ys.length := by
    rw [List.length_append]
    show ((-1 : Int) + ((ys.length + 1 : Nat) : Int)).toNat = _
    omega
  rw [e, List.getElem?_append_right (Nat.le_refl _), Nat.sub_self]
  rfl
theorem wv_rev (w : W) (r : List W) : wv (w :: r).reverse = wv r.reverse ++ [.str w.s] := by
  rw [List.reverse_cons, wv_app]
  rfl
theorem Txt.kd (T : Txt w K mg) {x : Str} {n : Int} (h : (x, He.Dv.int n) ∈ [(("or" : Str), He.Dv.int 1), ("and", .int 2), ("not", .int 3)]) : KDct K w (He.ga K "BINDING") x (.int n) := by
  obtain ⟨es, m, D⟩ := T.tab
  obtain ⟨u, e, r⟩ := He.valsB_ok (He.ba T.ex).2 h
  exact ⟨es, m, u, D.at_, D.lit, e, r⟩
theorem Txt.kdW (T : Txt w K mg) {x : W} (h : x = .or ∨ x = .and ∨ x = .not) : KDct K w (He.ga K "BINDING") x.s (.int (x.bind : Int)) := by
  rcases h with rfl | rfl | rfl
  · exact T.kd (by simp [W.s, W.bind])
  · exact T.kd (by simp [W.s, W.bind])
  · exact T.kd (by simp [W.s, W.bind])
theorem op_tup {x : W} (h : x = .or ∨ x = .and ∨ x = .not) : x.op.tup = [.str x.s] := by
  rcases h with rfl | rfl | rfl <;> rfl
def spGive (K : PySem.W.Frag) : Sp := fun vs H Q _ => ∃ (r S U : Addr) (v : V) (s : PS) (b : Nat), vs = [.ref r, .int (b : Int)] ∧ RdAt (CR K) H r S U v s ∧ Wok s.wt ∧ s.st.length + s.wt.length ≤ 1000 ∧
  ∀ H', RB r S U H H' → RdAt (CR K) H' r S U v ⟨(way b s.st s.wt).1, (way b s.st s.wt).2, s.wn⟩ → Q .non H'
theorem way_stop {b : Nat} {st : List Step} {w : W} {r : List W} (h : w.isLp = true ∨ w.bind < b) : way b st (w :: r) = (st, w :: r) := by
  conv => lhs; unfold way
  rw [if_pos h]
theorem way_pop {b : Nat} {st : List Step} {w : W} {r : List W} (h : ¬ (w.isLp = true ∨ w.bind < b)) : way b st (w :: r) = way b (st ++ [w.op]) r := by
  conv => lhs; unfold way
  rw [if_neg h]
abbrev N_Reader_give_way : List Str := ["self", "binding"]
theorem sc_Reader_give_way : FnScope N_Reader_give_way ["self", "binding"] (defScope s_Reader_give_way) := ⟨rfl, rfl, rfl, by decide +kernel, rfl, by decide +kernel, by decide +kernel⟩
theorem met_Reader_give_way (T : Txt w K mg) : C8.Met P w K mg base 1 (He.ga K "Reader") "give_way" (spGive K) [] := by
  refine mkMet T.cl_Reader T.m_Reader_give_way T.F_Reader_give_way sc_Reader_give_way (fun _ _ _ _ _ _ us hl => match us, hl with | [_, _], _ => rfl) (fun vs H Q E h => ?_) (fun cdv A outer s H vs Q E hr h => ?_)
  · obtain ⟨r, S, U, v, s, b, rfl, hR, hw, hlen, Qk⟩ := h
    rfl
  obtain ⟨r, S, U, v, s, b, rfl, hR, hw, hlen, Qk⟩ := h
  have nd := sc_Reader_give_way.nd
  have hu := hu_of hr
  refine ⟨_, (pss_one (ps_while PassesOwn.never (PW.pt (pw_and (pt_cmpR op_gt (pe_callB (r := rLen K) call_len_seq (by rfl) T.z_len bt_len (pa_cons (pe_fld (pv 0) rfl) pa_nil)) pe_int (nomark _)) (pw_and (pt_cmpR op_ne (pe_ix (r := rIxL K) ix_list (pe_fld (pv 0) rfl) (pe_un un_neg pe_int) (fun _ _ => rfl)) pe_str (nomark _)) (pw_and1 (pt_cmpR op_ge (pe_ix (r := rIxD K w) ix_kdict (C8.pe_gc (by rfl) T.v_BINDING) (pe_ix (r := rIxL K) ix_list (pe_fld (pv 0) rfl) (pe_un un_neg pe_int) (fun _ _ => rfl)) (fun _ _ => rfl)) (pv 1) (nomark _))))))
    (pss_one (ps_expr (pe_bm PySem.F.plainAttrs_list PySem.F.slot_list_append PySem.F.type_list_append mt_append (pe_fld (pv 0) rfl) (pa_cons (pe_tup (pa_cons (pe_bm0 PySem.F.plainAttrs_list PySem.F.slot_list_pop PySem.F.type_list_pop mt_pop (pe_fld (pv 0) rfl)) pa_nil)) pa_nil)))))), ?_⟩
  have hC := T.cl_Reader
  refine ⟨fun m σ H2 => ∃ (st : List Step) (wt : List W), m = wt.length ∧ σ = [some (.ref r), some (.int (b : Int))] ∧ RB r S U H H2 ∧ RdAt (CR K) H2 r S U v ⟨st, wt, s.wn⟩ ∧ Wok wt ∧ st.length + wt.length ≤ 1000 ∧ way b st wt = way b s.st s.wt, ⟨_, s.st, s.wt, rfl, rfl, RB.refl H, hR, hw, hlen, rfl⟩, ?_⟩
  rintro m σ H2 ⟨st, wt, rfl, rfl, hrb, hR2, hw2, hl2, hway⟩
  obtain ⟨dx, ho⟩ := hR2.o
  obtain ⟨ys, hS, hys⟩ := hR2.st
  have hU := hR2.wt
  have fin : way b st wt = (st, wt) → Q .non H2 := fun e => by
    refine Qk H2 hrb ?_
    rw [← hway, e]
    exact hR2
  cases wt with
  | nil =>
    refine ⟨_, rfl, r, _, dx, _, _, rfl, ho, hC, T.n_Reader_waiting, rfl, _, _, rfl, .inl (SqL.of hU), _, _, rfl, rfl, _, rfl, iteFd rfl ?_⟩
    exact fin rfl
  | cons w wt =>
    have hUe : H2 U = some (.lst (wv wt.reverse ++ [.str w.s])) := by rw [← wv_rev]; exact hU
    refine ⟨_, rfl, r, _, dx, _, _, rfl, ho, hC, T.n_Reader_waiting, rfl, _, _, rfl, .inl (SqL.of hUe), _, _, rfl, rfl, _, rfl, iteTd (decide_eq_true (by rw [List.length_append]; show (0 : Int) < ((_ + 1 : Nat) : Int); omega)) ?_⟩
    refine ⟨_, rfl, r, _, dx, _, _, rfl, ho, hC, T.n_Reader_waiting, rfl, _, rfl, U, _, _, _, rfl, rfl, SqL.of hUe, at_last, rfl, _, rfl, ?_⟩
    by_cases hlp : w = .lp
    · subst hlp
      refine iteFd (by show (!decide (V.str "(" = V.str "(")) = false; rw [sEq]; rfl) ?_
      exact fin (way_stop (.inl rfl))
    · have hop : w = .or ∨ w = .and ∨ w = .not := (hw2 w List.mem_cons_self).resolve_left hlp
      refine iteTd (by rcases hop with rfl | rfl | rfl <;> (show (!decide (_ = _)) = true; rw [sNe (by decide +kernel)]; rfl)) ?_
      refine ⟨_, rfl, r, _, dx, _, _, rfl, ho, hC, T.n_Reader_waiting, rfl, _, rfl, U, _, _, _, rfl, rfl, SqL.of hUe, at_last, _, _, _, rfl, rfl, T.kdW hop, _, rfl, _, _, rfl, rfl, _, rfl, ite2 (fun c => ?_) (fun c => ?_)⟩
      · have hge : ¬ (w.isLp = true ∨ w.bind < b) := by
          have c' : (b : Int) ≤ (w.bind : Int) := of_decide_eq_true c
          have : w.isLp = false := by rcases hop with rfl | rfl | rfl <;> rfl
          rw [this]
          simp
          omega
        refine ⟨fun σ' H3 => σ' = [some (.ref r), some (.int (b : Int))] ∧ RB r S U H H3 ∧ RdAt (CR K) H3 r S U v ⟨st ++ [w.op], wt, s.wn⟩, ?_, ?_⟩
        · rintro σ' H3 ⟨rfl, hrb3, hR3⟩
          refine ⟨wt.length, Nat.lt_succ_self _, st ++ [w.op], wt, rfl, rfl, hrb3, hR3, (fun x hx => hw2 x (List.mem_cons_of_mem _ hx)), ?_, ?_⟩
          · rw [List.length_append]
            show _ + 1 + _ ≤ _
            rw [List.length_cons] at hl2
            omega
          · rw [← hway, way_pop hge]
        · -- pop, the tuple, append
          have hlast : (wv wt.reverse ++ [V.str w.s])[(wv wt.reverse ++ [V.str w.s]).length - 1]? = some (.str w.s) := by
            rw [List.length_append]
            show (_ ++ _)[_ + 1 - 1]? = _
            rw [Nat.add_sub_cancel, List.getElem?_append_right (Nat.le_refl _), Nat.sub_self]
            rfl
          have R3 := hR2.wait wt
          have e3 : (wv wt.reverse ++ [V.str w.s]).dropLast = wv wt.reverse := List.dropLast_concat
          refine ⟨_, rfl, r, _, dx, _, _, rfl, ho, hC, T.n_Reader_steps, rfl, .inl ⟨rfl, _, SqL.of hS⟩, _, rfl, r, _, dx, _, _, rfl, ho, hC, T.n_Reader_waiting, rfl, .inl ⟨rfl, _, SqL.of hUe⟩, U, _, _, rfl, rfl, hUe, hlast, ?_⟩
          rw [e3]
          refine ⟨(by show 1 ≤ sizeLine; decide), fun t nt => ?_⟩
          have s4 := sm_up (o := .tup [V.str w.s]) nt
          have R4 := R3.sm s4
          obtain ⟨zs, hS4, hzs⟩ := R4.st
          have hS3 : (upd H2 U (.lst (wv wt.reverse))) S = some (.lst ys) := by rw [upd_ne hR2.ne]; exact hS
          have hS4' := s4 _ _ hS3
          refine ⟨S, ys, _, rfl, rfl, hS4', szl (by rw [hys.len]; show st.length < 100000; omega), ⟨rfl, ?_, ?_⟩⟩
          · exact ((hrb.at_ (.inr (.inr rfl))).trans (RB.of s4)).at_ (.inr (.inl rfl))
          · exact R4.push hS4' (x := .ref t) (p := w.op) ⟨t, rfl, by rw [op_tup hop]; exact upd_same⟩
      · have hlt : w.bind < b := by
          have : ¬ (b : Int) ≤ (w.bind : Int) := fun z => c (decide_eq_true z)
          omega
        exact fin (way_stop (.inr hlt))
/-! begin -/
theorem s_lp : Str.ofString "(" = ⟨#[40]⟩ := by decide +kernel
theorem s_rp : Str.ofString ")" = ⟨#[41]⟩ := by decide +kernel
theorem W.s_one {w : W} {n : Nat} (h : w.s = ⟨#[n]⟩) : (n = 40 ∧ w = .lp) ∨ (n = 41 ∧ w = .rp) := by
  have hl := congrArg Str.length h
  cases w with
  | lp =>
    left
    have e : (⟨#[40]⟩ : Str) = ⟨#[n]⟩ := by rw [← s_lp]; exact h
    injection e with e
    have := congrArg (fun a => a[0]?) e
    simp at this
    exact ⟨this.symm, rfl⟩
  | rp =>
    right
    have e : (⟨#[41]⟩ : Str) = ⟨#[n]⟩ := by rw [← s_rp]; exact h
    injection e with e
    have := congrArg (fun a => a[0]?) e
    simp at this
    exact ⟨this.symm, rfl⟩
  | and => exact absurd hl (by show ¬ Str.length (Str.ofString "and") = 1; decide +kernel)
  | or => exact absurd hl (by show ¬ Str.length (Str.ofString "or") = 1; decide +kernel)
  | not => exact absurd hl (by show ¬ Str.length (Str.ofString "not") = 1; decide +kernel)
  | iff => exact absurd hl (by show ¬ Str.length (Str.ofString "if") = 1; decide +kernel)
  | share => exact absurd hl (by show ¬ Str.length (Str.ofString "share") = 1; decide +kernel)
  | yes => exact absurd hl (by show ¬ Str.length (Str.ofString "yes") = 1; decide +kernel)
  | no => exact absurd hl (by show ¬ Str.length (Str.ofString "no") = 1; decide +kernel)
  | b i => exact absurd hl (by show ¬ 2 = 1; decide)
  | c i j => exact absurd hl (by show ¬ 4 = 1; decide)
theorem inV_lp {ws : List W} : inV (.str "(") (wv ws) = true ↔ W.lp ∈ ws := by
  unfold inV wv
  rw [List.any_map, List.any_eq_true]
  constructor
  · rintro ⟨w, hw, e⟩
    have e2 : (w.s == Str.ofString "(") = true := e
    rw [beq_iff_eq, s_lp] at e2
    rcases W.s_one e2 with ⟨_, q⟩ | ⟨q, _⟩
    · rw [← q]
      exact hw
    · cases q
  · intro h
    refine ⟨_, h, ?_⟩
    show (W.lp.s == Str.ofString "(") = true
    exact beq_iff_eq.mpr rfl
theorem flat_wv (ws : List W) : (wv ws).all flatV = true := by
  unfold wv
  rw [List.all_map]
  induction ws with
  | nil => rfl
  | cons n r ih => rw [List.all_cons, ih]; rfl
theorem TIn.rb {C r S U : Addr} {v x : V} {s : PS} {H H' : Hp} {ns : List Int} (h : TIn H x ns) (R : RdAt C H r S U v s) (e : RB r S U H H') : TIn H' x ns := by
  obtain ⟨a, rfl, ha⟩ := h
  obtain ⟨dx, ho⟩ := R.o
  obtain ⟨ys, hS, _⟩ := R.st
  exact ⟨a, rfl, e _ _ (ne_of ha ho (by intro z; cases z)) (ne_of ha hS (by intro z; cases z)) (ne_of ha R.wt (by intro z; cases z)) ha⟩
theorem nl_b {i : Nat} (h : i ≤ 3) : inV (.str (W.b i).s) [.str "not", .str "("] = false := fin4 (p := fun i => inV (.str (W.b i).s) [.str "not", .str "("] = false) (by decide +kernel) h
theorem nl_c {i j : Nat} (h : i ≤ 3) (hj : j ≤ 3) : inV (.str (W.c i j).s) [.str "not", .str "("] = false := fin44 (p := fun i j => inV (.str (W.c i j).s) [.str "not", .str "("] = false) (by decide +kernel) h hj
theorem atom_nl {sz : List Nat} {w : W} {s : Step} (hz : Sz sz) (h : w.atom sz = some s) : inV (.str w.s) [.str "not", .str "("] = false := by
  have l4 := hz.l4
  cases w with
  | lp => cases h
  | rp => cases h
  | and => cases h
  | or => cases h
  | not => cases h
  | iff => cases h
  | share => cases h
  | yes => decide +kernel
  | no => decide +kernel
  | b i =>
    have h2 : (if i < sz.length then some (Step.blank i) else none) = some s := h
    split at h2
    · exact nl_b (by omega)
    · cases h2
  | c i j =>
    have h2 : (match sz[i]? with | some n => if j < n then some (Step.worth i j) else none | none => none) = some s := h
    cases e : sz[i]? with
    | none => rw [e] at h2; cases h2
    | some n =>
      rw [e] at h2
      dsimp at h2
      have hi : i < sz.length := (List.getElem?_eq_some_iff.mp e).1
      have hn := (hz.b n (List.mem_of_getElem? e)).2
      split at h2
      · exact nl_c (by omega) (by omega)
      · cases h2
def spBegin (K : PySem.W.Frag) : Sp := fun vs H Q _ => ∃ (r S U : Addr) (v : V) (s : PS) (x : W) (sz : List Nat), vs = [.ref r, .str x.s] ∧ RdAt (CR K) H r S U v s ∧ s.wn = true ∧ okW sz x s ∧ TIn H v (isz sz) ∧ Sz sz ∧ s.st.length + s.wt.length ≤ 1000 ∧
  ∀ H', RB r S U H H' → RdAt (CR K) H' r S U v (tk sz x s) → Q (.bl true) H'
abbrev N_Reader_begin : List Str := ["self", "word", "step"]
theorem sc_Reader_begin : FnScope N_Reader_begin ["self", "word"] (defScope s_Reader_begin) := ⟨rfl, rfl, rfl, by decide +kernel, rfl, by decide +kernel, by decide +kernel⟩
theorem met_Reader_begin (T : Txt w K mg) : C8.Met P w K mg base 3 (He.ga K "Reader") "begin" (spBegin K) [] := by
  have c_atom_of := cal_atom_of (P := P) (base := base) T
  refine mkMet T.cl_Reader T.m_Reader_begin T.F_Reader_begin sc_Reader_begin (fun _ _ _ _ _ _ us hl => match us, hl with | [_, _], _ => rfl) (fun vs H Q E h => ?_) (fun cdv A outer s H vs Q E hr h => ?_)
  · obtain ⟨r, S, U, v, s, x, sz, rfl, hR, hn, hok, hv, hz, hlen, Qk⟩ := h
    rfl
  obtain ⟨r, S, U, v, s, x, sz, rfl, hR, hn, hok, hv, hz, hlen, Qk⟩ := h
  have nd := sc_Reader_begin.nd
  have hu := hu_of hr
  refine ⟨_, (pss_cons (ps_if (pt_cmpR (r := rIn K false) op_in_seq (pv 1) (pe_tup (pa_cons pe_str (pa_cons pe_str pa_nil))) (by rfl))
    (pss_cons (ps_expr (pe_bm PySem.F.plainAttrs_list PySem.F.slot_list_append PySem.F.type_list_append mt_append (pe_fld (pv 0) rfl) (pa_cons (pv 1) pa_nil)))
    (pss_one (ps_ret pe_bl)))
    pss_nil)
    (pss_cons (ps_set (i := 2) nd rfl (Or.inl rfl) (C8.pe_c c_atom_of hr (by decide) rfl (pa_cons (pe_fld (pv 0) rfl) (pa_cons (pv 1) pa_nil))))
    (pss_cons (ps_if (pt_cmpR op_isN (pv 2) pe_non (nomark _))
    (pss_one (ps_ret pe_bl))
    pss_nil)
    (pss_cons (ps_expr (pe_bm PySem.F.plainAttrs_list PySem.F.slot_list_append PySem.F.type_list_append mt_append (pe_fld (pv 0) rfl) (pa_cons (pv 2) pa_nil)))
    (pss_cons (ps_fld (pv 0) pe_bl rfl)
    (pss_one (ps_ret pe_bl))))))), ?_⟩
  have hC := T.cl_Reader
  have push : ∀ (t : Addr) (y : W), inV (.str y.s) [.str "not", .str "("] = true → x = y → tk sz y s = ⟨s.st, y :: s.wt, true⟩ → H t = none →
      tSeq (tDrop (tBM K "list" rAppend (tFld K (tVar 0) "waiting") (tCons (tVar 1) tNil))) (tRet (tC (V.bl true))) { nx := fun _ H' => Q V.non H', rt := Q } [some (.ref r), some (.str y.s), none] (upd H t (.tup [.str "not", .str "("])) := by
    intro t y _ hx htk nt
    have st := sm_up (o := .tup [V.str "not", V.str "("]) nt
    have R2 := hR.sm st
    obtain ⟨dx, ho⟩ := R2.o
    have hU := R2.wt
    refine ⟨_, rfl, r, _, dx, _, _, rfl, ho, hC, T.n_Reader_waiting, rfl, .inl ⟨rfl, _, SqL.of hU⟩, _, rfl, U, _, _, rfl, rfl, hU, szl (by rw [wv_len, List.length_reverse]; omega), ?_⟩
    refine Qk _ ((RB.of st).at_ (.inr (.inr rfl))) ?_
    rw [hx, htk, ← wv_rev]
    have := R2.wait (y :: s.wt)
    rw [hn] at this
    exact this
  by_cases hxn : x = .not
  · subst hxn
    refine ⟨_, rfl, (by show 2 ≤ sizeLine; decide), fun t nt => ⟨t, _, rfl, .inr (SqT.of upd_same), rfl, rfl, _, rfl, iteTd (by decide +kernel) ?_⟩⟩
    exact push t .not (by decide +kernel) rfl (by unfold tk; rw [if_pos hn]) nt
  by_cases hxl : x = .lp
  · subst hxl
    refine ⟨_, rfl, (by show 2 ≤ sizeLine; decide), fun t nt => ⟨t, _, rfl, .inr (SqT.of upd_same), rfl, rfl, _, rfl, iteTd (by decide +kernel) ?_⟩⟩
    exact push t .lp (by decide +kernel) rfl (by unfold tk; rw [if_pos hn]) nt
  have hat : ∃ a, x.atom sz = some a := by
    unfold okW at hok
    rw [if_pos hn] at hok
    cases x <;> first | exact absurd rfl hxn | exact absurd rfl hxl | exact hok
  obtain ⟨a, ha⟩ := hat
  refine ⟨_, rfl, (by show 2 ≤ sizeLine; decide), fun t nt => ⟨t, _, rfl, .inr (SqT.of upd_same), rfl, rfl, _, rfl, iteFd (atom_nl hz ha) ?_⟩⟩
  have st := sm_up (o := .tup [V.str "not", V.str "("]) nt
  have R2 := hR.sm st
  obtain ⟨dx, ho⟩ := R2.o
  refine ⟨_, rfl, r, _, dx, _, _, rfl, ho, hC, T.n_Reader_sizes, rfl, _, rfl, v, sz, x, a, rfl, hv.tk (sm_tk st), hz, ha, fun q H3 s3 hq => ?_⟩
  have R3 := R2.sm s3
  have ho3 := s3 _ _ ho
  obtain ⟨ys, hS, hys⟩ := R3.st
  obtain ⟨qa, rfl, hqa⟩ := hq
  refine ⟨_, rfl, rfl, _, rfl, iteF ?_⟩
  refine ⟨_, rfl, r, _, dx, _, _, rfl, ho3, hC, T.n_Reader_steps, rfl, .inl ⟨rfl, _, SqL.of hS⟩, _, rfl, S, ys, _, rfl, rfl, hS, szl (by rw [hys.len]; show s.st.length < 100000; omega), ?_⟩
  have R4 := R3.push hS (x := .ref qa) (p := a) ⟨qa, rfl, hqa⟩
  have ho4 : (upd H3 S (.lst (ys ++ [.ref qa]))) r = some (.ins (CR K) dx (rdFs v S U s.wn)) := by rw [upd_ne R3.rS]; exact ho3
  refine ⟨_, rfl, r, _, dx, _, rfl, ho4, hC, T.n_Reader_is_wanted, (by show 4 < 1000; decide), ?_⟩
  refine Qk _ ((((RB.of st).trans (RB.of s3)).at_ (.inr (.inl rfl))).at_ (.inl rfl)) ?_
  rw [tk_atom hn ha]
  exact R4.want ho4 false

end
end Cb
namespace Cb
open PySem PySem.Spec PyProof.Rows L2
section
variable {P : Program} {w : World} {K : PySem.W.Frag} {mg : Str → Option Value} {base : Heap}
/-! ### the reader takes words -/
theorem way_len {b : Nat} : ∀ {wt : List W} {st : List Step}, (way b st wt).1.length + (way b st wt).2.length = st.length + wt.length
  | [], _ => rfl
  | w :: r, st => by
    unfold way
    split
    · rfl
    · rw [way_len (wt := r), List.length_append]
      show _ + 1 + _ = _ + (_ + 1)
      omega
theorem way0_lp : ∀ {wt : List W} {st : List Step}, W.lp ∈ wt → ∃ r, (way 0 st wt).2 = W.lp :: r
  | [], _, h => by cases h
  | w :: r, st, h => by
    unfold way
    by_cases q : w.isLp = true ∨ w.bind < 0
    · rw [if_pos q]
      rcases q with q | q
      · cases w <;> first | exact ⟨r, rfl⟩ | cases q
      · omega
    · rw [if_neg q]
      refine way0_lp ?_
      rcases List.mem_cons.mp h with e | m
      · subst e
        exact absurd (.inl rfl) q
      · exact m
theorem tk_len {sz : List Nat} {w : W} {s : PS} : (tk sz w s).st.length + (tk sz w s).wt.length ≤ s.st.length + s.wt.length + 1 := by
  unfold tk
  split
  · have ha : ∀ w : W, (w.atom sz).toList.length ≤ 1 := fun w => by cases w.atom sz <;> simp
    have := ha w
    cases w <;> (dsimp only; simp only [List.length_cons, List.length_append]; omega)
  · cases w <;> (dsimp only; first | (have := way_len (b := 0) (wt := s.wt) (st := s.st); simp; omega) | (have := way_len (b := 1) (wt := s.wt) (st := s.st); simp; omega) | (have := way_len (b := 2) (wt := s.wt) (st := s.st); simp; omega))
theorem tk_wok {sz : List Nat} {w : W} {s : PS} (h : Wok s.wt) : Wok (tk sz w s).wt := by
  unfold tk
  split
  · cases w <;> first | exact h | exact h.cons (by simp)
  · cases w <;> first | exact (h.way).tail | exact h.way.cons (by simp)
theorem len1000 {C r S U : Addr} {v : V} {s : PS} {H : Hp} (h : RdAt C H r S U v s) : True := trivial
def spTake (K : PySem.W.Frag) : Sp := fun vs H Q _ => ∃ (r S U : Addr) (v : V) (s : PS) (x : W) (sz : List Nat), vs = [.ref r, .str x.s] ∧ RdAt (CR K) H r S U v s ∧ Wok s.wt ∧ okW sz x s ∧ TIn H v (isz sz) ∧ Sz sz ∧ s.st.length + s.wt.length ≤ 900 ∧
  ∀ H', RB r S U H H' → RdAt (CR K) H' r S U v (tk sz x s) → Q (.bl true) H'
abbrev N_Reader_take : List Str := ["self", "word"]
theorem sc_Reader_take : FnScope N_Reader_take ["self", "word"] (defScope s_Reader_take) := ⟨rfl, rfl, rfl, by decide +kernel, rfl, by decide +kernel, by decide +kernel⟩
theorem met_Reader_take (T : Txt w K mg) : C8.Met P w K mg base 4 (He.ga K "Reader") "take" (spTake K) [] := by
  have c_Reader_begin := met_Reader_begin (P := P) (base := base) T
  have c_Reader_give_way := met_Reader_give_way (P := P) (base := base) T
  refine mkMet T.cl_Reader T.m_Reader_take T.F_Reader_take sc_Reader_take (fun _ _ _ _ _ _ us hl => match us, hl with | [_, _], _ => rfl) (fun vs H Q E h => ?_) (fun cdv A outer s H vs Q E hr h => ?_)
  · obtain ⟨r, S, U, v, s, x, sz, rfl, hR, hw, hok, hv, hz, hlen, Qk⟩ := h
    rfl
  obtain ⟨r, S, U, v, s, x, sz, rfl, hR, hw, hok, hv, hz, hlen, Qk⟩ := h
  have nd := sc_Reader_take.nd
  have hu := hu_of hr
  refine ⟨_, (pss_cons (ps_if (pt_val (pe_fld (pv 0) rfl))
    (pss_one (ps_ret (C8.pe_mt c_Reader_begin hr (by decide) (pv 0) (pa_cons (pv 1) pa_nil))))
    pss_nil)
    (pss_cons (ps_if (pt_cmpR (r := rIn K false) op_in_seq (pv 1) (pe_tup (pa_cons pe_str (pa_cons pe_str pa_nil))) (by rfl))
    (pss_cons (ps_expr (C8.pe_mt c_Reader_give_way hr (by decide) (pv 0) (pa_cons (pe_ix (r := rIxD K w) ix_kdict (C8.pe_gc (by rfl) T.v_BINDING) (pv 1) (fun _ _ => rfl)) pa_nil)))
    (pss_cons (ps_expr (pe_bm PySem.F.plainAttrs_list PySem.F.slot_list_append PySem.F.type_list_append mt_append (pe_fld (pv 0) rfl) (pa_cons (pv 1) pa_nil)))
    (pss_cons (ps_fld (pv 0) pe_bl rfl)
    (pss_one (ps_ret pe_bl)))))
    pss_nil)
    (pss_cons (ps_if (PW.pt (pw_or (pt_cmpR op_ne (pv 1) pe_str (nomark _)) (pw_or1 (pt_cmpR (r := rIn K true) op_notIn_seq pe_str (pe_fld (pv 0) rfl) (by rfl)))))
    (pss_one (ps_ret pe_bl))
    pss_nil)
    (pss_cons (ps_expr (C8.pe_mt c_Reader_give_way hr (by decide) (pv 0) (pa_cons pe_int pa_nil)))
    (pss_cons (ps_expr (pe_bm0 PySem.F.plainAttrs_list PySem.F.slot_list_pop PySem.F.type_list_pop mt_pop (pe_fld (pv 0) rfl)))
    (pss_one (ps_ret pe_bl))))))), ?_⟩
  have hC := T.cl_Reader
  obtain ⟨dx, ho⟩ := hR.o
  obtain ⟨st, wt, wn⟩ := s
  cases wn with
  | true =>
    refine ⟨_, rfl, r, _, dx, _, _, rfl, ho, hC, T.n_Reader_is_wanted, rfl, _, rfl, iteT ?_⟩
    refine ⟨_, rfl, r, dx, _, rfl, ho, rfl, _, rfl, r, S, U, v, _, x, sz, rfl, hR, rfl, hok, hv, hz, by have : st.length + wt.length ≤ 900 := hlen; show st.length + wt.length ≤ 1000; omega, Qk⟩
  | false =>
    refine ⟨_, rfl, r, _, dx, _, _, rfl, ho, hC, T.n_Reader_is_wanted, rfl, _, rfl, iteF ?_⟩
    have hlen' : st.length + wt.length ≤ 900 := hlen
    have hw' : Wok wt := hw
    -- and, or
    have bin : ∀ (t : Addr) (y : W), (y = .or ∨ y = .and ∨ y = .not) → x = y → tk sz y ⟨st, wt, false⟩ = ⟨(way y.bind st wt).1, y :: (way y.bind st wt).2, true⟩ → H t = none →
        tSeq (tDrop (tMeth (He.ga K "Reader") "give_way" (spGive K) [] C8.E0 (tVar 0) (tCons (tOp (rIxD K w) (tC (V.ref (He.ga K "BINDING"))) (tVar 1)) tNil))) (tSeq (tDrop (tBM K "list" rAppend (tFld K (tVar 0) "waiting") (tCons (tVar 1) tNil))) (tSeq (sFld K (tVar 0) (tC (V.bl true)) "is_wanted") (tRet (tC (V.bl true))))) { nx := fun _ H' => Q V.non H', rt := Q } [some (.ref r), some (.str y.s)] (upd H t (.tup [.str "and", .str "or"])) := by
      intro t y hop hx htk nt
      have sm := sm_up (o := .tup [V.str "and", V.str "or"]) nt
      have R2 := hR.sm sm
      refine ⟨_, rfl, r, dx, _, rfl, sm _ _ ho, rfl, _, rfl, _, _, _, rfl, rfl, T.kdW hop, r, S, U, v, _, y.bind, rfl, R2, hw', (by show st.length + wt.length ≤ 1000; omega), fun H3 rb3 R3 => ?_⟩
      obtain ⟨dx3, ho3⟩ := R3.o
      have hU3 := R3.wt
      have hl3 := way_len (b := y.bind) (wt := wt) (st := st)
      refine ⟨_, rfl, r, _, dx3, _, _, rfl, ho3, hC, T.n_Reader_waiting, rfl, .inl ⟨rfl, _, SqL.of hU3⟩, _, rfl, U, _, _, rfl, rfl, hU3, szl (by rw [wv_len, List.length_reverse]; show (way y.bind st wt).2.length < 100000; omega), ?_⟩
      rw [show wv (way y.bind st wt).2.reverse ++ [V.str y.s] = wv (y :: (way y.bind st wt).2).reverse from (wv_rev _ _).symm]
      have R4 := R3.wait (y :: (way y.bind st wt).2)
      have ho4 : (upd H3 U (.lst (wv (y :: (way y.bind st wt).2).reverse))) r = some (.ins (CR K) dx3 (rdFs v S U false)) := by rw [upd_ne R3.rU]; exact ho3
      refine ⟨_, rfl, r, _, dx3, _, rfl, ho4, hC, T.n_Reader_is_wanted, (by show 4 < 1000; decide), ?_⟩
      refine Qk _ ((((RB.of sm).trans rb3).at_ (.inr (.inr rfl))).at_ (.inl rfl)) ?_
      rw [hx, htk]
      exact R4.want ho4 true
    cases x with
    | and =>
      refine ⟨_, rfl, (by show 2 ≤ sizeLine; decide), fun t nt => ⟨t, _, rfl, .inr (SqT.of upd_same), rfl, rfl, _, rfl, iteTd (by decide +kernel) ?_⟩⟩
      exact bin t .and (by simp) rfl rfl nt
    | or =>
      refine ⟨_, rfl, (by show 2 ≤ sizeLine; decide), fun t nt => ⟨t, _, rfl, .inr (SqT.of upd_same), rfl, rfl, _, rfl, iteTd (by decide +kernel) ?_⟩⟩
      exact bin t .or (by simp) rfl rfl nt
    | rp =>
      have hlp : W.lp ∈ wt := hok
      refine ⟨_, rfl, (by show 2 ≤ sizeLine; decide), fun t nt => ⟨t, _, rfl, .inr (SqT.of upd_same), rfl, rfl, _, rfl, iteFd (by decide +kernel) ?_⟩⟩
      have sm := sm_up (o := .tup [V.str "and", V.str "or"]) nt
      have R2 := hR.sm sm
      have ho2 := sm _ _ ho
      refine ⟨_, rfl, rfl, _, rfl, iteFd (by show (!decide (V.str ")" = V.str ")")) = false; rw [sEq]; rfl) ?_⟩
      refine ⟨_, rfl, r, _, dx, _, _, rfl, ho2, hC, T.n_Reader_waiting, rfl, U, _, rfl, .inl (SqL.of R2.wt), rfl, flat_wv _, _, rfl, iteFd (by show (!inV (.str "(") (wv wt.reverse)) = false; rw [inV_lp.mpr (by simpa using hlp)]; rfl) ?_⟩
      refine ⟨_, rfl, r, dx, _, rfl, ho2, rfl, r, S, U, v, _, 0, rfl, R2, hw', (by show st.length + wt.length ≤ 1000; omega), fun H3 rb3 R3 => ?_⟩
      obtain ⟨dx3, ho3⟩ := R3.o
      obtain ⟨rest, hrest⟩ := way0_lp (st := st) hlp
      have hU3 : H3 U = some (.lst (wv rest.reverse ++ [.str "("])) := by
        have := R3.wt
        rw [show (way 0 st wt).2 = W.lp :: rest from hrest] at this
        rw [this]
        show some (HO.lst (wv (W.lp :: rest).reverse)) = _
        rw [wv_rev]
        rfl
      have hlast : (wv rest.reverse ++ [V.str "("])[(wv rest.reverse ++ [V.str "("]).length - 1]? = some (.str "(") := by
        rw [List.length_append]
        show (_ ++ _)[_ + 1 - 1]? = _
        rw [Nat.add_sub_cancel, List.getElem?_append_right (Nat.le_refl _), Nat.sub_self]
        rfl
      refine ⟨_, rfl, r, _, dx3, _, _, rfl, ho3, hC, T.n_Reader_waiting, rfl, .inl ⟨rfl, _, SqL.of hU3⟩, U, _, _, rfl, rfl, hU3, hlast, ?_⟩
      rw [show (wv rest.reverse ++ [V.str "("]).dropLast = wv rest.reverse from List.dropLast_concat]
      refine Qk _ (((RB.of sm).trans rb3).at_ (.inr (.inr rfl))) ?_
      have R4 := R3.wait rest
      have e : tk sz .rp ⟨st, wt, false⟩ = ⟨(way 0 st wt).1, rest, false⟩ := by
        show (⟨(way 0 st wt).1, (way 0 st wt).2.tail, false⟩ : PS) = _
        rw [hrest]
        rfl
      rw [e]
      exact R4
    | lp => exact absurd hok (by intro z; exact z)
    | not => exact absurd hok (by intro z; exact z)
    | iff => exact absurd hok (by intro z; exact z)
    | share => exact absurd hok (by intro z; exact z)
    | yes => exact absurd hok (by intro z; exact z)
    | no => exact absurd hok (by intro z; exact z)
    | b i => exact absurd hok (by intro z; exact z)
    | c i j => exact absurd hok (by intro z; exact z)
def spWhole (K : PySem.W.Frag) : Sp := fun vs H Q _ => ∃ (r S U : Addr) (v : V) (s : PS) (k : Bool), vs = [.ref r] ∧ RdAt (CR K) H r S U v s ∧ (k = true ↔ s.wn = false ∧ W.lp ∉ s.wt) ∧ Q (.bl k) H
abbrev N_Reader_is_whole : List Str := ["self"]
theorem sc_Reader_is_whole : FnScope N_Reader_is_whole ["self"] (defScope s_Reader_is_whole) := ⟨rfl, rfl, rfl, by decide +kernel, rfl, by decide +kernel, by decide +kernel⟩
theorem met_Reader_is_whole (T : Txt w K mg) : C8.Met P w K mg base 1 (He.ga K "Reader") "is_whole" (spWhole K) [] := by
  refine mkMet T.cl_Reader T.m_Reader_is_whole T.F_Reader_is_whole sc_Reader_is_whole (fun _ _ _ _ _ _ us hl => match us, hl with | [_], _ => rfl) (fun vs H Q E h => ?_) (fun cdv A outer s H vs Q E hr h => ?_)
  · obtain ⟨r, S, U, v, s, k, rfl, hR, hk, Qk⟩ := h
    rfl
  obtain ⟨r, S, U, v, s, k, rfl, hR, hk, Qk⟩ := h
  have nd := sc_Reader_is_whole.nd
  have hu := hu_of hr
  refine ⟨_, (pss_one (ps_ret (pe_and (pe_not (pe_fld (pv 0) rfl)) (pe_one (pe_cmpR (r := rIn K true) op_notIn_seq pe_str (pe_fld (pv 0) rfl) (by rfl)))))), ?_⟩
  have hC := T.cl_Reader
  obtain ⟨dx, ho⟩ := hR.o
  refine ⟨_, rfl, r, _, dx, _, _, rfl, ho, hC, T.n_Reader_is_wanted, rfl, _, rfl, _, rfl, ?_⟩
  obtain ⟨st, wt, wn⟩ := s
  cases wn with
  | true =>
    have e : k = false := by
      cases k with
      | false => rfl
      | true => exact absurd (hk.mp rfl).1 (by intro z; cases z)
    subst e
    exact iteF Qk
  | false =>
    refine iteT ?_
    refine ⟨_, rfl, r, _, dx, _, _, rfl, ho, hC, T.n_Reader_waiting, rfl, U, _, rfl, .inl (SqL.of hR.wt), rfl, flat_wv _, ?_⟩
    have e : (if true then !inV (.str "(") (wv wt.reverse) else inV (.str "(") (wv wt.reverse)) = k := by
      show (!inV (.str "(") (wv wt.reverse)) = k
      cases k with
      | true =>
        have h2 : ¬ inV (.str "(") (wv wt.reverse) = true := fun z => (hk.mp rfl).2 (by simpa using inV_lp.mp z)
        rw [Bool.eq_false_iff.mpr h2]
        rfl
      | false =>
        have h2 : inV (.str "(") (wv wt.reverse) = true := by
          by_cases q : W.lp ∈ wt
          · exact inV_lp.mpr (by simpa using q)
          · exact absurd (hk.mpr ⟨rfl, q⟩) (by intro z; cases z)
        rw [h2]
        rfl
    rw [← e] at Qk
    exact Qk

end
end Cb
namespace Cb
open PySem PySem.Spec PyProof.Rows L2
section
variable {P : Program} {w : World} {K : PySem.W.Frag} {mg : Str → Option Value} {base : Heap}
/-! ### reading an expression -/
def spRInit (K : PySem.W.Frag) : Sp := fun vs H Q _ => ∃ (x : Addr) (v : V) (dx : Addr), vs = [.ref x, v] ∧ H x = some (.ins (CR K) dx []) ∧
  ∀ S U H', (∀ b o, b ≠ x → H b = some o → H' b = some o) → H S = none → H U = none → RdAt (CR K) H' x S U v ⟨[], [], true⟩ → Q .non H'
abbrev N_Reader_init : List Str := ["self", "sizes"]
theorem sc_Reader_init : FnScope N_Reader_init ["self", "sizes"] (defScope s_Reader_init) := ⟨rfl, rfl, rfl, by decide +kernel, rfl, by decide +kernel, by decide +kernel⟩
theorem mak_Reader (T : Txt w K mg) : C8.Mak P w K mg base 1 "Reader" (CR K) (spRInit K) [] := by
  have b : BindAll "__init__" "Reader.__init__" s_Reader_init ["self", "sizes"] := fun _ _ _ _ _ _ us hl => match us, hl with | [_, _], _ => rfl
  refine ⟨_, _, _, [], T.mk_Reader, fnOk_of T.F_Reader_init sc_Reader_init (fun vs H Q E h => ?_) (fun cdv A outer s H vs Q E hr h => ?_), T.g_Reader, T.F_Reader_init.bindsN b, .nil⟩
  · obtain ⟨x, v, dx, rfl, _⟩ := h
    rfl
  obtain ⟨x, v, dx, rfl, hx, Qk⟩ := h
  have hC := T.cl_Reader
  refine ⟨_, (pss_cons (ps_fld (pv 0) (pv 1) rfl)
    (pss_cons (ps_fld (pv 0) (pe_lst pa_nil) rfl)
    (pss_cons (ps_fld (pv 0) (pe_lst pa_nil) rfl)
    (pss_one (ps_fld (pv 0) pe_bl rfl))))), ?_⟩
  refine ⟨_, rfl, _, rfl, x, _, dx, _, rfl, hx, hC, T.n_Reader_sizes, (by show 0 < 1000; decide), ?_⟩
  refine ⟨by decide, fun S nS => ⟨_, rfl, x, _, dx, _, rfl, up_at upd_same nS, hC, T.n_Reader_steps, (by show 1 < 1000; decide), ?_⟩⟩
  refine ⟨by decide, fun U nU => ⟨_, rfl, x, _, dx, _, rfl, up_at upd_same nU, hC, T.n_Reader_waiting, (by show 2 < 1000; decide), ?_⟩⟩
  refine ⟨_, rfl, x, _, dx, _, rfl, upd_same, hC, T.n_Reader_is_wanted, (by show 3 < 1000; decide), ?_⟩
  have xS : x ≠ S := by
    intro e
    rw [← e, upd_same] at nS
    cases nS
  have xU : x ≠ U := by
    intro e
    rw [← e, upd_same] at nU
    cases nU
  have SU : S ≠ U := by
    intro e
    rw [← e, upd_ne xS.symm, upd_same] at nU
    cases nU
  have nS0 : H S = none := by rw [upd_ne xS.symm] at nS; exact nS
  have nU0 : H U = none := by
    rw [upd_ne xU.symm, upd_ne SU.symm, upd_ne xU.symm] at nU
    exact nU
  refine Qk S U _ (fun b o hb h => ?_) nS0 nU0 ⟨⟨dx, upd_same⟩, ⟨[], ?_, .nil⟩, ?_, SU⟩
  · have h1 : b ≠ S := ne_of_none h nS0
    have h2 : b ≠ U := ne_of_none h nU0
    rw [upd_ne hb, upd_ne hb, upd_ne h2, upd_ne hb, upd_ne h1, upd_ne hb]
    exact h
  · rw [upd_ne xS.symm, upd_ne xS.symm, upd_ne SU, upd_ne xS.symm, upd_same]
  · rw [upd_ne xU.symm, upd_ne xU.symm, upd_same]
    rfl
theorem W.s_if {w : W} (h : w.s = "if") : w = .iff := by
  cases w with
  | iff => rfl
  | lp => exact absurd h (by show ¬ Str.ofString "(" = Str.ofString "if"; decide +kernel)
  | rp => exact absurd h (by show ¬ Str.ofString ")" = Str.ofString "if"; decide +kernel)
  | and => exact absurd h (by show ¬ Str.ofString "and" = Str.ofString "if"; decide +kernel)
  | or => exact absurd h (by show ¬ Str.ofString "or" = Str.ofString "if"; decide +kernel)
  | not => exact absurd h (by show ¬ Str.ofString "not" = Str.ofString "if"; decide +kernel)
  | share => exact absurd h (by show ¬ Str.ofString "share" = Str.ofString "if"; decide +kernel)
  | yes => exact absurd h (by show ¬ Str.ofString "yes" = Str.ofString "if"; decide +kernel)
  | no => exact absurd h (by show ¬ Str.ofString "no" = Str.ofString "if"; decide +kernel)
  | b i =>
    have e : Str.ofString "if" = ⟨#[105, 102]⟩ := by decide +kernel
    rw [e] at h
    injection h with h
    have := congrArg (fun a => a[0]?) h
    simp at this
  | c i j =>
    have := congrArg Str.length h
    exact absurd this (by show ¬ 4 = Str.length (Str.ofString "if"); decide +kernel)
/-- the steps that answer as the tree -/
def StepsAt (H : Hp) (sz : List Nat) (L : Addr) (t : Tree) : Prop := ∃ ys st, H L = some (.lst ys) ∧ P2 (StepAt H) ys st ∧ st.length ≤ 1000 ∧ prun st = some 1 ∧ StG sz st ∧ ∀ c pat, sem c pat st = [t.val c pat]
theorem StepsAt.sm {H H' : Hp} {sz : List Nat} {L : Addr} {t : Tree} (h : StepsAt H sz L t) (e : Same H H') : StepsAt H' sz L t := by
  obtain ⟨ys, st, h1, h2, h3⟩ := h
  exact ⟨ys, st, e _ _ h1, h2.imp fun v x q => q.tk (sm_tk e), h3⟩
def spRead : Sp := fun vs H Q _ => ∃ (v : V) (wl : Addr) (n : Int) (first : Bool) (sz : List Nat) (ys : List V) (t : Tree) (w1 rest : List W), vs = [v, .ref wl, .int n, .bl first] ∧ TIn H v (isz sz) ∧ Sz sz ∧ H wl = some (.lst ys) ∧ P2 (PWat H) ys ((w1 ++ rest).map W.s) ∧
  (rest = [] ∨ first = true ∧ ∃ r, rest = W.iff :: r) ∧ t.Good sz ∧ Ren t 0 w1 ∧ w1.length ≤ 100 ∧
  ∀ (a L : Addr) H', Same H H' → H' a = some (.tup [.ref L, .int (w1.length : Int)]) → StepsAt H' sz L t → Q (.ref a) H'
theorem tks_take {sz : List Nat} {ws : List W} {i : Nat} {w : W} {s : PS} (h : ws[i]? = some w) : tks sz (ws.take (i + 1)) s = tk sz w (tks sz (ws.take i) s) := by
  rw [take_snoc h, tks_app]
  rfl
theorem oks_at {sz : List Nat} : ∀ {ws : List W} {i : Nat} {w : W} {s : PS}, oks sz ws s → ws[i]? = some w → okW sz w (tks sz (ws.take i) s)
  | [], i, w, s, _, h => by simp at h
  | x :: r, 0, w, s, h, e => by
    simp at e
    subst e
    exact h.1
  | x :: r, i + 1, w, s, h, e => oks_at (ws := r) (i := i) h.2 (by simpa using e)
theorem tks_wok {sz : List Nat} : ∀ {ws : List W} {s : PS}, Wok s.wt → Wok (tks sz ws s).wt
  | [], _, h => h
  | w :: r, s, h => tks_wok (ws := r) (s := tk sz w s) (tk_wok h)
theorem tks_len {sz : List Nat} : ∀ {ws : List W} {s : PS}, (tks sz ws s).st.length + (tks sz ws s).wt.length ≤ s.st.length + s.wt.length + ws.length
  | [], _ => Nat.le_refl _
  | w :: r, s => by
    have h1 := tks_len (sz := sz) (ws := r) (s := tk sz w s)
    have h2 := tk_len (sz := sz) (w := w) (s := s)
    show (tks sz r (tk sz w s)).st.length + (tks sz r (tk sz w s)).wt.length ≤ _ + (r.length + 1)
    omega
abbrev N_read_expression : List Str := ["sizes", "words", "length", "is_first", "reader", "at", "place", "word"]
theorem sc_read_expression : FnScope N_read_expression ["sizes", "words", "length", "is_first"] (defScope s_read_expression) := ⟨rfl, rfl, rfl, by decide +kernel, rfl, by decide +kernel, by decide +kernel⟩
theorem cal_read_expression (T : Txt w K mg) : C8.Cal P w K mg base 5 "read_expression" spRead [] := by
  have c_Reader_take := met_Reader_take (P := P) (base := base) T
  have c_Reader_is_whole := met_Reader_is_whole (P := P) (base := base) T
  have c_Reader_give_way := met_Reader_give_way (P := P) (base := base) T
  refine mkCal T.F_read_expression T.g_read_expression sc_read_expression (fun _ _ _ _ _ _ us hl => match us, hl with | [_, _, _, _], _ => rfl) (fun vs H Q E h => ?_) (fun cdv A outer s H vs Q E hr h => ?_)
  · obtain ⟨v, wl, n, first, sz, ys, t, w1, rest, rfl, ⟨a, rfl, hs⟩, hz, hwl, hys, hrest, hg, hren, hl1, Qk⟩ := h
    rfl
  obtain ⟨v, wl, n, first, sz, ys, t, w1, rest, rfl, ⟨a, rfl, hs⟩, hz, hwl, hys, hrest, hg, hren, hl1, Qk⟩ := h
  have nd := sc_read_expression.nd
  have hu := hu_of hr
  refine ⟨_, (pss_cons (ps_set (i := 4) nd rfl (Or.inl rfl) (C8.pe_mk (mak_Reader T) hr (by decide) rfl (pa_cons (pv 0) pa_nil)))
    (pss_cons (ps_for PassesOwn.never rfl (pi_enum (by rfl) T.z_enumerate (pa_cons (pv 1) pa_nil)) (pg_tup rfl (pgs_cons (pg_name (i := 5) nd rfl (Or.inl rfl)) (pgs_cons (pg_tup rfl (pgs_cons (pg_name (i := 6) nd rfl (Or.inl rfl)) (pgs_cons (pg_name (i := 7) nd rfl (Or.inl rfl)) pgs_nil))) pgs_nil)))
    (pss_cons (ps_if (PW.pt (pw_and (pt_cmpR op_eq (pv 7) pe_str (nomark _)) (pw_and (pt_val (pv 3)) (pw_and1 (pt_val (C8.pe_mt0 c_Reader_is_whole hr (by decide) (pv 4)))))))
    (pss_cons (ps_expr (C8.pe_mt c_Reader_give_way hr (by decide) (pv 4) (pa_cons pe_int pa_nil)))
    (pss_one (ps_ret (pe_tup (pa_cons (pe_fld (pv 4) rfl) (pa_cons (pv 5) pa_nil))))))
    pss_nil)
    (pss_one (ps_if (pt_not (pt_val (C8.pe_mt c_Reader_take hr (by decide) (pv 4) (pa_cons (pv 7) pa_nil))))
    (pss_one ps_never)
    pss_nil))))
    (pss_cons (ps_if (pt_not (pt_val (C8.pe_mt0 c_Reader_is_whole hr (by decide) (pv 4))))
    (pss_one ps_never)
    pss_nil)
    (pss_cons (ps_expr (C8.pe_mt c_Reader_give_way hr (by decide) (pv 4) (pa_cons pe_int pa_nil)))
    (pss_one (ps_ret (pe_tup (pa_cons (pe_fld (pv 4) rfl) (pa_cons (pe_callB (r := rLen K) call_len_seq (by rfl) T.z_len bt_len (pa_cons (pv 1) pa_nil)) pa_nil))))))))), ?_⟩
  have hC := T.cl_Reader
  obtain ⟨hoks, st0, wt0, htks, hwok0, hnlp, hway, hsem⟩ := reads_all hg hren
  have hnif := ren_no_if hren
  refine ⟨_, rfl, fun x dx nx ndx hdx => ?_⟩
  refine ⟨x, _, dx, rfl, upd_same, fun S U H1 keep nS nU R1 => ⟨rfl, ?_⟩⟩
  have nS' : H S = none := by
    have h1 : S ≠ x := by
      intro e
      rw [e, upd_same] at nS
      cases nS
    have h2 : S ≠ dx := by
      intro e
      rw [e, upd_ne hdx, upd_same] at nS
      cases nS
    rw [upd_ne h1, upd_ne h2] at nS
    exact nS
  have nU' : H U = none := by
    have h1 : U ≠ x := by
      intro e
      rw [e, upd_same] at nU
      cases nU
    have h2 : U ≠ dx := by
      intro e
      rw [e, upd_ne hdx, upd_same] at nU
      cases nU
    rw [upd_ne h1, upd_ne h2] at nU
    exact nU
  have s1 : Same H H1 := fun b o h => keep b o (ne_of_none h nx) (by rw [upd_ne (ne_of_none h nx), upd_ne (ne_of_none h ndx)]; exact h)
  -- what is said at the end
  have fin : ∀ (H2 : Hp) (σ : L2.St) (at_ : TE), Same H H2 → RdAt (CR K) H2 x S U (.ref a) ⟨st0, wt0, false⟩ → σ[4]? = some (some (.ref x)) → (∀ (H' : Hp) (Q : VK), Same H H' → Q (.int (w1.length : Int)) H' → at_ σ H' Q) →
      tSeq (tDrop (tMeth (CR K) "give_way" (spGive K) [] C8.E0 (tVar 4) (tCons (tC (V.int 0)) tNil))) (tRet (tTup (tCons (tFld K (tVar 4) "steps") (tCons at_ tNil)))) { nx := fun _ H' => Q V.non H', rt := Q } σ H2 := by
    intro H2 σ at_ s2 R2 h4 hat
    obtain ⟨dx2, ho2⟩ := R2.o
    have hlen : st0.length + wt0.length ≤ 100 := by
      have := tks_len (sz := sz) (ws := w1) (s := ⟨[], [], true⟩)
      rw [htks] at this
      have h0 : (PS.mk [] [] true).st.length + (PS.mk [] [] true).wt.length = 0 := rfl
      have : st0.length + wt0.length ≤ 0 + w1.length := this
      omega
    refine ⟨_, h4, x, dx2, _, rfl, ho2, rfl, x, S, U, _, _, 0, rfl, R2, hwok0, (by show st0.length + wt0.length ≤ 1000; omega), fun H3 rb3 R3 => ?_⟩
    have s3 : Same H H3 := rb3.sm s2 nx nS' nU'
    obtain ⟨dx3, ho3⟩ := R3.o
    obtain ⟨zs, hS3, hzs⟩ := R3.st
    refine ⟨_, h4, x, _, dx3, _, _, rfl, ho3, hC, T.n_Reader_steps, rfl, hat H3 _ s3 ⟨(by show 2 ≤ sizeLine; decide), fun e ne => ?_⟩⟩
    have se := sm_up (o := .tup [V.ref S, V.int (w1.length : Int)]) ne
    have pinv := tks_inv inv0 hoks
    rw [htks] at pinv
    have hrun : prun (way 0 st0 wt0).1 = some 1 := by
      have := way_run (b := 0) pinv.w pinv.r
      rw [hway] at this
      exact this
    refine Qk e S _ (s3.trans se) upd_same ⟨zs, _, se _ _ hS3, hzs.imp fun v x q => q.tk (sm_tk se), ?_, hrun, way_stg pinv.g, hsem⟩
    have := way_len (b := 0) (wt := wt0) (st := st0)
    show (way 0 st0 wt0).1.length ≤ 1000
    omega
  have hwl1 := s1 _ _ hwl
  refine ⟨_, rfl, wl, _, rfl, SqL.of hwl1, ?_⟩
  refine for_it (walk_enum (xs := ys)) (fun i σ H2 => i ≤ w1.length ∧ Same H H2 ∧ RdAt (CR K) H2 x S U (.ref a) (tks sz (w1.take i) ⟨[], [], true⟩) ∧ ∃ z5 z6 z7 : Option V, σ = [some (.ref a), some (.ref wl), some (.int n), some (.bl first), some (.ref x), z5, z6, z7]) ⟨Nat.zero_le _, s1, R1, _, _, _, rfl⟩ (fun i σ H2 _ h => SqL.of (h.2.1 _ _ hwl)) ?_ ?_
  · rintro i _ σ H2 _ hi ⟨hi1, s2, R2, z5, z6, z7, rfl⟩ ⟨T', y0, y, rfl, nT, rfl, hy0, hy⟩
    cases hy0
    obtain ⟨wrd, hwrd, hpw⟩ := hys.at_ hy
    rw [List.getElem?_map] at hwrd
    obtain ⟨w, hw, rfl⟩ : ∃ w, (w1 ++ rest)[i]? = some w ∧ wrd = w.s := by
      cases e : (w1 ++ rest)[i]? with
      | none => rw [e] at hwrd; cases hwrd
      | some w => rw [e] at hwrd; exact ⟨w, rfl, (Option.some.inj hwrd).symm⟩
    have sT := sm_up (o := .tup [V.int (i : Nat), y]) nT
    have s3 := s2.trans sT
    have R3 := R2.sm sT
    obtain ⟨pa_, pl, rfl, hpa⟩ := hpw.tk (sm_tk s3)
    refine ⟨T', _, rfl, SqT.of upd_same, rfl, _, _, rfl, _, _, rfl, ⟨pa_, _, rfl, SqT.of hpa, rfl, _, _, rfl, _, _, rfl, rfl, rfl, ?_⟩⟩
    by_cases hlt : i < w1.length
    · have hwi : w1[i]? = some w := by
        rw [List.getElem?_append_left hlt] at hw
        exact hw
      have hne : w ≠ .iff := fun e => hnif (by rw [← e]; exact List.mem_of_getElem? hwi)
      have hok := oks_at hoks hwi
      have hwk := tks_wok (sz := sz) (ws := w1.take i) (s := ⟨[], [], true⟩) (fun x hx => by cases hx)
      have hln := tks_len (sz := sz) (ws := w1.take i) (s := ⟨[], [], true⟩)
      have h0 : (PS.mk [] [] true).st.length + (PS.mk [] [] true).wt.length = 0 := rfl
      rw [List.length_take] at hln
      refine ⟨_, rfl, rfl, _, rfl, iteFd (sNe fun e => hne (W.s_if e)) ?_⟩
      obtain ⟨dx3, ho3⟩ := R3.o
      refine ⟨_, rfl, x, dx3, _, rfl, ho3, rfl, _, rfl, x, S, U, _, _, w, sz, rfl, R3, hwk, hok, ⟨a, rfl, s3 _ _ hs⟩, hz, by omega, fun H4 rb4 R4 => ⟨_, rfl, iteF ?_⟩⟩
      refine ⟨hlt, rb4.sm s3 nx nS' nU', ?_, _, _, _, rfl⟩
      rw [tks_take hwi]
      exact R4
    · have e1 : i = w1.length := by omega
      subst e1
      rw [List.getElem?_append_right (Nat.le_refl _), Nat.sub_self] at hw
      rcases hrest with e | ⟨rfl, r, e⟩
      · rw [e] at hw
        cases hw
      rw [e] at hw
      cases hw
      rw [List.take_length, htks] at R3
      refine ⟨_, rfl, rfl, _, rfl, iteTd sEq ?_⟩
      refine ⟨_, rfl, _, rfl, iteT ?_⟩
      obtain ⟨dx3, ho3⟩ := R3.o
      refine ⟨_, rfl, x, dx3, _, rfl, ho3, rfl, x, S, U, _, _, true, rfl, R3, ⟨fun _ => ⟨rfl, hnlp⟩, fun _ => rfl⟩, _, rfl, iteT ?_⟩
      exact fin _ _ (tVar 5) s3 R3 rfl fun H' Q _ h => ⟨_, rfl, h⟩
  · rintro σ H2 ⟨hi1, s2, R2, z5, z6, z7, rfl⟩
    have hyl := hys.len
    rw [List.length_map, List.length_append] at hyl
    have hr0 : rest = [] := by
      cases rest with
      | nil => rfl
      | cons a b => exfalso; rw [List.length_cons] at hyl; omega
    subst hr0
    have hyl2 : ys.length = w1.length := by simpa using hyl
    rw [hyl2, List.take_length, htks] at R2
    obtain ⟨dx3, ho3⟩ := R2.o
    refine ⟨_, rfl, x, dx3, _, rfl, ho3, rfl, x, S, U, _, _, true, rfl, R2, ⟨fun _ => ⟨rfl, hnlp⟩, fun _ => rfl⟩, _, rfl, iteF ?_⟩
    refine fin _ _ (tCB (rLen K) (tCons (tVar 1) tNil)) s2 R2 rfl fun H' Q sH h => ⟨_, rfl, _, _, rfl, .inl (SqL.of (sH _ _ hwl)), ?_⟩
    rw [hyl2]
    exact h

end
end Cb
namespace Cb
open PySem PySem.Spec PyProof.Rows L2
section
variable {P : Program} {w : World} {K : PySem.W.Frag} {mg : Str → Option Value} {base : Heap}
/-! ### reading a question -/
theorem core_ok {sz : List Nat} (hz : Sz sz) : ∀ (t : Tree), t.Good sz → ∀ ws, Core t ws → ∀ w ∈ ws, WordOk w.s
  | .yes, _, ws, h, w, hw => by simp only [Core] at h; subst h; simp at hw; subst hw; exact W.ok (fun _ e => by cases e) (fun _ _ e => by cases e)
  | .no, _, ws, h, w, hw => by simp only [Core] at h; subst h; simp at hw; subst hw; exact W.ok (fun _ e => by cases e) (fun _ _ e => by cases e)
  | .b i, hg, ws, h, w, hw => by
    simp only [Core] at h
    subst h
    simp at hw
    subst hw
    have h1 : i < sz.length := hg
    have := hz.l4
    exact W.ok (fun _ e => by cases e; omega) (fun _ _ e => by cases e)
  | .c i v, hg, ws, h, w, hw => by
    simp only [Core] at h
    subst h
    simp at hw
    subst hw
    obtain ⟨n, hn, hv⟩ := hg
    have h1 : i < sz.length := (List.getElem?_eq_some_iff.mp hn).1
    have h2 := (hz.b n (List.mem_of_getElem? hn)).2
    have := hz.l4
    exact W.ok (fun _ e => by cases e) (fun _ _ e => by cases e; omega)
  | .not t, hg, ws, h, w, hw => by
    simp only [Core] at h
    obtain ⟨w1, rfl, h1⟩ := h
    have pp : WordOk W.lp.s ∧ WordOk W.rp.s ∧ WordOk W.not.s := ⟨W.ok (fun _ e => by cases e) (fun _ _ e => by cases e), W.ok (fun _ e => by cases e) (fun _ _ e => by cases e), W.ok (fun _ e => by cases e) (fun _ _ e => by cases e)⟩
    rcases List.mem_cons.mp hw with rfl | hw
    · exact pp.2.2
    rcases h1 with ⟨h1, _⟩ | ⟨w2, h1, rfl⟩
    · exact core_ok hz t hg _ h1 w hw
    · rcases List.mem_cons.mp hw with rfl | hw
      · exact pp.1
      · rcases List.mem_append.mp hw with hw | hw
        · exact core_ok hz t hg _ h1 w hw
        · simp at hw
          subst hw
          exact pp.2.1
  | .and t u, hg, ws, h, w, hw => by
    simp only [Core] at h
    obtain ⟨w1, w2, rfl, h1, h2⟩ := h
    have pp : WordOk W.lp.s ∧ WordOk W.rp.s ∧ WordOk W.and.s := ⟨W.ok (fun _ e => by cases e) (fun _ _ e => by cases e), W.ok (fun _ e => by cases e) (fun _ _ e => by cases e), W.ok (fun _ e => by cases e) (fun _ _ e => by cases e)⟩
    rcases List.mem_append.mp hw with hw | hw
    · rcases List.mem_append.mp hw with hw | hw
      · rcases h1 with ⟨h1, _⟩ | ⟨w3, h1, rfl⟩
        · exact core_ok hz t hg.1 _ h1 w hw
        · rcases List.mem_cons.mp hw with rfl | hw
          · exact pp.1
          · rcases List.mem_append.mp hw with hw | hw
            · exact core_ok hz t hg.1 _ h1 w hw
            · simp at hw
              subst hw
              exact pp.2.1
      · simp at hw
        subst hw
        exact pp.2.2
    · rcases h2 with ⟨h2, _⟩ | ⟨w3, h2, rfl⟩
      · exact core_ok hz u hg.2 _ h2 w hw
      · rcases List.mem_cons.mp hw with rfl | hw
        · exact pp.1
        · rcases List.mem_append.mp hw with hw | hw
          · exact core_ok hz u hg.2 _ h2 w hw
          · simp at hw
            subst hw
            exact pp.2.1
  | .or t u, hg, ws, h, w, hw => by
    simp only [Core] at h
    obtain ⟨w1, w2, rfl, h1, h2⟩ := h
    have pp : WordOk W.lp.s ∧ WordOk W.rp.s ∧ WordOk W.or.s := ⟨W.ok (fun _ e => by cases e) (fun _ _ e => by cases e), W.ok (fun _ e => by cases e) (fun _ _ e => by cases e), W.ok (fun _ e => by cases e) (fun _ _ e => by cases e)⟩
    rcases List.mem_append.mp hw with hw | hw
    · rcases List.mem_append.mp hw with hw | hw
      · rcases h1 with ⟨h1, _⟩ | ⟨w3, h1, rfl⟩
        · exact core_ok hz t hg.1 _ h1 w hw
        · rcases List.mem_cons.mp hw with rfl | hw
          · exact pp.1
          · rcases List.mem_append.mp hw with hw | hw
            · exact core_ok hz t hg.1 _ h1 w hw
            · simp at hw
              subst hw
              exact pp.2.1
      · simp at hw
        subst hw
        exact pp.2.2
    · rcases h2 with ⟨h2, _⟩ | ⟨w3, h2, rfl⟩
      · exact core_ok hz u hg.2 _ h2 w hw
      · rcases List.mem_cons.mp hw with rfl | hw
        · exact pp.1
        · rcases List.mem_append.mp hw with hw | hw
          · exact core_ok hz u hg.2 _ h2 w hw
          · simp at hw
            subst hw
            exact pp.2.1
theorem ren_ok {sz : List Nat} (hz : Sz sz) {t : Tree} {b : Nat} {ws : List W} (hg : t.Good sz) (h : Ren t b ws) : ∀ w ∈ ws, WordOk w.s := fun w hw => by
  rcases h with ⟨h, _⟩ | ⟨w3, h, rfl⟩
  · exact core_ok hz t hg _ h w hw
  · rcases List.mem_cons.mp hw with rfl | hw
    · exact W.ok (fun _ e => by cases e) (fun _ _ e => by cases e)
    · rcases List.mem_append.mp hw with hw | hw
      · exact core_ok hz t hg _ h w hw
      · simp at hw
        subst hw
        exact W.ok (fun _ e => by cases e) (fun _ _ e => by cases e)
theorem cut_from (xs : List V) (k : Nat) : cutV xs (some (k : Int)) none = xs.drop k := by
  unfold cutV
  rw [HT.sIx_none, HT.sIx_nat]
  by_cases h : k ≤ xs.length
  · rw [Nat.min_eq_left h, List.take_of_length_le (by rw [List.length_drop]; exact Nat.le_refl _)]
  · rw [Nat.min_eq_right (by omega), Nat.sub_self, List.take_zero, List.drop_eq_nil_of_le (by omega)]
theorem P2.drop {α : Type} {R : V → α → Prop} {vs : List V} {xs : List α} (h : P2 R vs xs) : ∀ k, P2 R (vs.drop k) (xs.drop k) := by
  induction h with
  | nil => intro k; simp; exact .nil
  | cons r t ih =>
    intro k
    cases k with
    | zero => exact .cons r t
    | succ k => exact ih k
def QuesAt (H : Hp) (sz : List Nat) (a : Addr) (t b : Tree) : Prop := ∃ L1 L2, H a = some (.tup [.str "share", .ref L1, .ref L2]) ∧ StepsAt H sz L1 t ∧ StepsAt H sz L2 b
theorem QuesAt.sm {H H' : Hp} {sz : List Nat} {a : Addr} {t b : Tree} (h : QuesAt H sz a t b) (e : Same H H') : QuesAt H' sz a t b := by
  obtain ⟨L1, L2, h1, h2, h3⟩ := h
  exact ⟨L1, L2, e _ _ h1, h2.sm e, h3.sm e⟩
def spReadQ : Sp := fun vs H Q _ => ∃ (v : V) (z : Str) (sz : List Nat) (t b : Tree), vs = [v, .str z] ∧ TIn H v (isz sz) ∧ Sz sz ∧ ShareTx z t b ∧ t.Good sz ∧ b.Good sz ∧ t.depth ≤ 3 ∧ b.depth ≤ 3 ∧
  ∀ a H', Same H H' → QuesAt H' sz a t b → Q (.ref a) H'
abbrev N_read_question : List Str := ["sizes", "text", "words", "kind", "column", "rest", "steps", "many"]
theorem sc_read_question : FnScope N_read_question ["sizes", "text"] (defScope s_read_question) := ⟨rfl, rfl, rfl, by decide +kernel, rfl, by decide +kernel, by decide +kernel⟩
theorem cal_read_question (T : Txt w K mg) : C8.Cal P w K mg base 6 "read_question" spReadQ [] := by
  have c_words_of := cal_words_of (P := P) (base := base) T
  have c_column_of := cal_column_of (P := P) (base := base) T
  have c_read_expression := cal_read_expression (P := P) (base := base) T
  refine mkCal T.F_read_question T.g_read_question sc_read_question (fun _ _ _ _ _ _ us hl => match us, hl with | [_, _], _ => rfl) (fun vs H Q E h => ?_) (fun cdv A outer s H vs Q E hr h => ?_)
  · obtain ⟨v, z, sz, t, b, rfl, hv, hz, ⟨segs, ws, hok, hzt, hzl, hsg, hws⟩, gt, gb, dt, db, Qk⟩ := h
    rfl
  obtain ⟨v, z, sz, t, b, rfl, hv, hz, ⟨segs, ws, hok, hzt, hzl, hsg, hws⟩, gt, gb, dt, db, Qk⟩ := h
  have nd := sc_read_question.nd
  have hu := hu_of hr
  refine ⟨_, (pss_cons (ps_if (pt_not (pt_val (pe_callB (r := rIsi K) call_isi (by rfl) T.z_isinstance bt_isinstance (pa_cons (pv 1) (pa_cons (pe_bltn (v := .ty "str") (by rfl) T.z_str bt_str rfl) pa_nil)))))
    (pss_one ps_never)
    pss_nil)
    (pss_cons (ps_set (i := 2) nd rfl (Or.inl rfl) (C8.pe_c c_words_of hr (by decide) rfl (pa_cons (pv 1) pa_nil)))
    (pss_cons (ps_if (pt_cmpR op_eq (pe_callB (r := rLen K) call_len_seq (by rfl) T.z_len bt_len (pa_cons (pv 2) pa_nil)) pe_int (nomark _))
    (pss_one ps_never)
    pss_nil)
    (pss_cons (ps_set (i := 3) nd rfl (Or.inl rfl) (pe_ix (r := rIxT K) ix_tup (pe_ix (r := rIxL K) ix_list (pv 2) pe_int (fun _ _ => rfl)) pe_int (fun _ _ => rfl)))
    (pss_cons (ps_if (pt_cmpR op_eq (pv 3) pe_str (nomark _))
    (pss_cons (ps_asg (C8.pe_c c_read_expression hr (by decide) rfl (pa_cons (pv 0) (pa_cons (pe_slice sl_list (pv 2) (po_some pe_int) po_none) (pa_cons (pe_callB call_len_str (by rfl) T.z_len bt_len (pa_cons (pv 1) pa_nil)) (pa_cons pe_bl pa_nil))))) (pg_tup rfl (pgs_cons (pg_name (i := 6) nd rfl (Or.inl rfl)) (pgs_cons (pg_name (i := 7) nd rfl (Or.inl rfl)) pgs_nil))))
    (pss_cons (ps_set (i := 5) nd rfl (Or.inl rfl) (pe_slice sl_list (pv 2) (po_some (pe_op op_add pe_int (pv 7))) po_none))
    (pss_one (ps_ret (pe_tup (pa_cons (pv 3) (pa_cons (pv 6) (pa_cons (pe_ifExp (pt_cmpR op_gt (pe_callB (r := rLen K) call_len_seq (by rfl) T.z_len bt_len (pa_cons (pv 5) pa_nil)) pe_int (nomark _)) (pe_ix (r := rIxT K) ix_tup (C8.pe_c c_read_expression hr (by decide) rfl (pa_cons (pv 0) (pa_cons (pe_slice sl_list (pv 5) (po_some pe_int) po_none) (pa_cons (pe_callB call_len_str (by rfl) T.z_len bt_len (pa_cons (pv 1) pa_nil)) (pa_cons pe_bl pa_nil))))) pe_int (fun _ _ => rfl)) (pe_lst (pa_cons (pe_tup (pa_cons pe_str pa_nil)) pa_nil))) pa_nil))))))))
    pss_nil)
    (pss_cons (ps_if (pt_cmpR op_ne (pv 3) pe_str (nomark _))
    (pss_one ps_never)
    pss_nil)
    (pss_cons (ps_if (pt_cmpR op_lt (pe_callB (r := rLen K) call_len_seq (by rfl) T.z_len bt_len (pa_cons (pv 2) pa_nil)) pe_int (nomark _))
    (pss_one ps_never)
    pss_nil)
    (pss_cons (ps_set (i := 4) nd rfl (Or.inl rfl) (C8.pe_c c_column_of hr (by decide) rfl (pa_cons (pv 0) (pa_cons (pe_ix (r := rIxT K) ix_tup (pe_ix (r := rIxL K) ix_list (pv 2) pe_int (fun _ _ => rfl)) pe_int (fun _ _ => rfl)) (pa_cons pe_str pa_nil)))))
    (pss_cons (ps_if (pt_cmpR op_isN (pv 4) pe_non (nomark _))
    (pss_one ps_never)
    pss_nil)
    (pss_cons (ps_if (pt_cmpR op_lt (pe_callB (r := rLen K) call_len_seq (by rfl) T.z_len bt_len (pa_cons (pv 2) pa_nil)) pe_int (nomark _))
    (pss_one ps_never)
    pss_nil)
    (pss_cons (ps_if (pt_cmpR op_ne (pe_ix (r := rIxT K) ix_tup (pe_ix (r := rIxL K) ix_list (pv 2) pe_int (fun _ _ => rfl)) pe_int (fun _ _ => rfl)) pe_str (nomark _))
    (pss_one ps_never)
    pss_nil)
    (pss_one (ps_ret (pe_tup (pa_cons (pv 3) (pa_cons (pv 4) (pa_cons (pe_ix (r := rIxT K) ix_tup (C8.pe_c c_read_expression hr (by decide) rfl (pa_cons (pv 0) (pa_cons (pe_slice sl_list (pv 2) (po_some pe_int) po_none) (pa_cons (pe_callB call_len_str (by rfl) T.z_len bt_len (pa_cons (pv 1) pa_nil)) (pa_cons pe_bl pa_nil))))) pe_int (fun _ _ => rfl)) pa_nil))))))))))))))))), ?_⟩
  obtain ⟨w1, rest, ews, hren, hrest, hb⟩ : ∃ w1 rest, ws = W.share :: (w1 ++ rest) ∧ Ren t 0 w1 ∧ (rest = [] ∨ true = true ∧ ∃ r, rest = W.iff :: r) ∧ ((rest = [] ∧ b = .yes) ∨ ∃ w2, rest = W.iff :: w2 ∧ Ren b 0 w2) := by
    rcases hws with ⟨w1, e, h1, h2⟩ | ⟨w1, w2, e, h1, h2⟩
    · exact ⟨w1, [], by rw [e, List.append_nil], h1, .inl rfl, .inl ⟨rfl, h2⟩⟩
    · exact ⟨w1, W.iff :: w2, by rw [e]; simp, h1, .inr ⟨rfl, w2, rfl⟩, .inr ⟨w2, rfl, h2⟩⟩
  have l1 := ren45 hren dt
  have hsh : WordOk W.share.s := W.ok (fun _ e => by cases e) (fun _ _ e => by cases e)
  have hif : WordOk W.iff.s := W.ok (fun _ e => by cases e) (fun _ _ e => by cases e)
  have hwok : ∀ s ∈ segs, WordOk s.2 := fun s hs => by
    have hm : s.2 ∈ segs.map (·.2) := List.mem_map.mpr ⟨s, hs, rfl⟩
    rw [hsg] at hm
    obtain ⟨w, hw, e⟩ := List.mem_map.mp hm
    rw [← e]
    rw [ews] at hw
    rcases List.mem_cons.mp hw with rfl | hw
    · exact hsh
    rcases List.mem_append.mp hw with hw | hw
    · exact ren_ok hz gt hren w hw
    · rcases hb with ⟨e, _⟩ | ⟨w2, e, h2⟩
      · rw [e] at hw
        cases hw
      · rw [e] at hw
        rcases List.mem_cons.mp hw with rfl | hw
        · exact hif
        · exact ren_ok hz gb h2 w hw
  have hzs : z.length ≤ sizeLine := Cb.sz (by omega)
  refine ⟨_, rfl, _, _, _, _, true, rfl, .ty _, .base (.str _), kit_ty (by decide +kernel), _, rfl, iteF ?_⟩
  refine ⟨_, rfl, z, segs, rfl, hzt, hok, hwok, hzl, fun r H1 ys s1 nr hr1 hp => ?_⟩
  rw [hsg, ews] at hp
  cases hp with
  | @cons y0 _ ys _ hp0 hp =>
  obtain ⟨a0, pl0, rfl, ha0⟩ := hp0
  refine ⟨_, rfl, _, _, rfl, .inl (SqL.of hr1), rfl, _, rfl, iteFd (by
    show decide (V.int ((ys.length + 1 : Nat) : Int) = V.int 0) = false
    refine decide_eq_false fun e => ?_
    injection e with e
    omega) ?_⟩
  refine ⟨_, rfl, r, _, _, _, rfl, rfl, SqL.of hr1, at_of (j := 0) rfl rfl, a0, _, _, _, rfl, rfl, SqT.of ha0, at_of (j := 1) rfl rfl, ?_⟩
  refine ⟨_, rfl, rfl, _, rfl, iteTd sEq ?_⟩
  refine ⟨_, rfl, _, rfl, _, rfl, r, _, rfl, SqL.of hr1, fun l nl => ?_⟩
  have ecut : cutV (V.ref a0 :: ys) (some 1) none = ys := cut_from _ 1
  rw [ecut]
  have s2 := sm_new (o := .lst ys) s1 nl
  have hp2 : P2 (PWat (upd H1 l (.lst ys))) ys ((w1 ++ rest).map W.s) := P2.imp hp fun v x q => q.tk (sm_tk (sm_up nl))
  refine ⟨_, rfl, z, rfl, hzs, v, l, _, true, sz, ys, t, w1, rest, rfl, hv.tk (sm_tk s2), hz, upd_same, hp2, hrest, gt, hren, by omega, fun a L H3 s3 ha3 hst3 => ?_⟩
  have s03 := s2.trans s3
  refine ⟨a, _, rfl, SqT.of ha3, rfl, _, _, rfl, _, _, rfl, rfl, ?_⟩
  have hr3 := (sm_up nl).trans s3 _ _ hr1
  refine ⟨_, rfl, _, rfl, _, _, rfl, rfl, _, rfl, r, _, rfl, SqL.of hr3, fun l2 nl2 => ?_⟩
  have ecut2 : cutV (V.ref a0 :: ys) (some (1 + (w1.length : Int))) none = ys.drop w1.length := by
    have : (1 : Int) + (w1.length : Int) = ((w1.length + 1 : Nat) : Int) := by omega
    rw [this, cut_from]
    rfl
  rw [ecut2]
  have s4 := sm_new (o := .lst (ys.drop w1.length)) s03 nl2
  have hst4 := hst3.sm (sm_up (o := .lst (ys.drop w1.length)) nl2)
  have hp4 : P2 (PWat (upd H3 l2 (.lst (ys.drop w1.length)))) (ys.drop w1.length) (rest.map W.s) := by
    have h := (hp2.drop w1.length).imp fun v x (q : PWat _ v x) => q.tk (sm_tk (s3.trans (sm_up (o := .lst (ys.drop w1.length)) nl2)))
    have e : (w1.map W.s ++ rest.map W.s).drop w1.length = rest.map W.s := by
      have := List.drop_left (l₁ := w1.map W.s) (l₂ := rest.map W.s)
      rw [List.length_map] at this
      exact this
    rw [List.map_append, e] at h
    exact h
  refine ⟨_, rfl, _, rfl, _, rfl, _, _, rfl, .inl (SqL.of upd_same), _, _, rfl, rfl, _, rfl, ?_⟩
  rcases hb with ⟨rfl, rfl⟩ | ⟨w2, rfl, hren2⟩
  · have e0 : ys.drop w1.length = [] := by
      have := hp4.len
      exact List.length_eq_zero_iff.mp this
    refine iteFd (decide_eq_false (by rw [e0]; decide)) ?_
    refine ⟨(by show 1 ≤ sizeLine; decide), fun y ny => ⟨(by show 1 ≤ sizeLine; decide), fun L2 nL2 => ⟨(by show 3 ≤ sizeLine; decide), fun e ne => ?_⟩⟩⟩
    have sy := sm_up (o := .tup [V.str "yes"]) ny
    have sL := sm_new (o := .lst [V.ref y]) sy nL2
    have se := sm_new (o := .tup [V.str "share", V.ref L, V.ref L2]) sL ne
    refine Qk e _ (s4.trans se) ⟨L, L2, upd_same, hst4.sm se, [.ref y], [.yes], up_at upd_same ne, .cons ⟨y, rfl, up_at (up_at upd_same nL2) ne⟩ .nil, (by decide), rfl, (fun i v h => by simp at h), fun c pat => rfl⟩
  · cases hys : ys.drop w1.length with
    | nil =>
      rw [hys] at hp4
      cases hp4
    | cons y1 ys2 =>
    rw [hys] at hp4 s4 hst4
    cases hp4 with
    | cons _ hp5 =>
    refine iteTd (decide_eq_true (by show (0 : Int) < ((ys2.length + 1 : Nat) : Int); omega)) ?_
    have l2' := ren45 hren2 db
    refine ⟨_, rfl, _, rfl, _, rfl, l2, _, rfl, SqL.of upd_same, fun l3 nl3 => ?_⟩
    have ecut3 : cutV (y1 :: ys2) (some 1) none = ys2 := cut_from _ 1
    rw [ecut3]
    have s5 := sm_new (o := .lst ys2) s4 nl3
    have hst5 := hst4.sm (sm_up (o := .lst ys2) nl3)
    refine ⟨_, rfl, z, rfl, hzs, v, l3, _, false, sz, ys2, b, w2, [], rfl, hv.tk (sm_tk s5), hz, upd_same, ?_, .inl rfl, gb, hren2, by omega, fun a2 L2 H6 s6 ha6 hst6 => ?_⟩
    · rw [List.append_nil]
      exact P2.imp hp5 fun v x q => q.tk (sm_tk (sm_up nl3))
    · refine ⟨a2, _, _, _, rfl, rfl, SqT.of ha6, at_of (j := 0) rfl rfl, (by show 3 ≤ sizeLine; decide), fun e ne => ?_⟩
      have se := sm_up (o := .tup [V.str "share", V.ref L, V.ref L2]) ne
      exact Qk e _ ((s5.trans s6).trans se) ⟨L, L2, upd_same, (hst5.sm s6).sm se, hst6.sm se⟩

end
end Cb
namespace Cb
open PySem PySem.Spec PyProof.Rows L2
section
variable {P : Program} {w : World} {K : PySem.W.Frag} {mg : Str → Option Value} {base : Heap}
/-! ### what a content answers to steps -/
def bls (p : List Bool) : List V := p.reverse.map V.bl
theorem bls_cons (a : Bool) (p : List Bool) : bls (a :: p) = bls p ++ [.bl a] := by
  unfold bls
  rw [List.reverse_cons, List.map_append]
  rfl
theorem bls_len (p : List Bool) : (bls p).length = p.length := by
  unfold bls
  rw [List.length_map, List.length_reverse]
theorem last_snoc {xs : List V} {y : V} : (xs ++ [y])[(xs ++ [y]).length - 1]? = some y := by
  rw [List.length_append]
  show (xs ++ [y])[xs.length + 1 - 1]? = _
  rw [Nat.add_sub_cancel, List.getElem?_append_right (Nat.le_refl _), Nat.sub_self]
  rfl
theorem sm_mut2 {H H' : Hp} {p : Addr} {o : HO} {xs : List V} (e : Same H H') (h : H p = none) : Same H (upd H' p o) := sm_mut e h
def spMet : Sp := fun vs H Q _ => ∃ (L : Addr) (cv pw : V) (sz : List Nat) (t : Tree) (c pat : List Int), vs = [.ref L, cv, pw] ∧ StepsAt H sz L t ∧ TIn H cv c ∧ TIn H pw pat ∧ c.length = sz.length ∧ ∀ H', Same H H' → Q (.bl (t.val c pat)) H'
abbrev N_is_met : List Str := ["steps", "content", "pattern", "pile", "step", "last", "first"]
theorem sc_is_met : FnScope N_is_met ["steps", "content", "pattern"] (defScope s_is_met) := ⟨rfl, rfl, rfl, by decide +kernel, rfl, by decide +kernel, by decide +kernel⟩
theorem cal_is_met (T : Txt w K mg) : C8.Cal P w K mg base 1 "is_met" spMet [] := by
  refine mkCal T.F_is_met T.g_is_met sc_is_met (fun _ _ _ _ _ _ us hl => match us, hl with | [_, _, _], _ => rfl) (fun vs H Q E h => ?_) (fun cdv A outer s H vs Q E hr h => ?_)
  · obtain ⟨L, cv, pw, sz, t, c, pat, rfl, ⟨ys, st, hL, hys, hlen, hrun, hstg, hsem⟩, ⟨ca, rfl, hc⟩, ⟨pa2, rfl, hp⟩, hcl, Qk⟩ := h
    rfl
  obtain ⟨L, cv, pw, sz, t, c, pat, rfl, ⟨ys, st, hL, hys, hlen, hrun, hstg, hsem⟩, ⟨ca, rfl, hc⟩, ⟨pa2, rfl, hp⟩, hcl, Qk⟩ := h
  have nd := sc_is_met.nd
  have hu := hu_of hr
  refine ⟨_, (pss_cons (ps_set (i := 3) nd rfl (Or.inl rfl) (pe_lst pa_nil))
    (pss_cons (ps_for PassesOwn.never rfl (pi_list (pv 0)) (pg_name (i := 4) nd rfl (Or.inl rfl))
    (pss_one (ps_if (pt_cmpR op_eq (pe_ix (r := rIxT K) ix_tup (pv 4) pe_int (fun _ _ => rfl)) pe_str (nomark _))
    (pss_one (ps_expr (pe_bm PySem.F.plainAttrs_list PySem.F.slot_list_append PySem.F.type_list_append mt_append (pv 3) (pa_cons (pe_cmpR op_eq (pe_ix (r := rIxT K) ix_tup (pv 1) (pe_ix (r := rIxT K) ix_tup (pv 4) pe_int (fun _ _ => rfl)) (fun _ _ => rfl)) (pe_ix (r := rIxT K) ix_tup (pv 4) pe_int (fun _ _ => rfl)) (nomark _)) pa_nil))))
    (pss_one (ps_if (pt_cmpR op_eq (pe_ix (r := rIxT K) ix_tup (pv 4) pe_int (fun _ _ => rfl)) pe_str (nomark _))
    (pss_one (ps_expr (pe_bm PySem.F.plainAttrs_list PySem.F.slot_list_append PySem.F.type_list_append mt_append (pv 3) (pa_cons (pe_cmpR (r := rIn K true) op_notIn_seq (pe_ix (r := rIxT K) ix_tup (pv 4) pe_int (fun _ _ => rfl)) (pv 2) (by rfl)) pa_nil))))
    (pss_one (ps_if (pt_cmpR (r := rIn K false) op_in_seq (pe_ix (r := rIxT K) ix_tup (pv 4) pe_int (fun _ _ => rfl)) (pe_tup (pa_cons pe_str (pa_cons pe_str pa_nil))) (by rfl))
    (pss_one (ps_expr (pe_bm PySem.F.plainAttrs_list PySem.F.slot_list_append PySem.F.type_list_append mt_append (pv 3) (pa_cons (pe_cmpR op_eq (pe_ix (r := rIxT K) ix_tup (pv 4) pe_int (fun _ _ => rfl)) pe_str (nomark _)) pa_nil))))
    (pss_one (ps_if (pt_cmpR op_eq (pe_ix (r := rIxT K) ix_tup (pv 4) pe_int (fun _ _ => rfl)) pe_str (nomark _))
    (pss_one (ps_expr (pe_bm PySem.F.plainAttrs_list PySem.F.slot_list_append PySem.F.type_list_append mt_append (pv 3) (pa_cons (pe_not (pe_bm0 PySem.F.plainAttrs_list PySem.F.slot_list_pop PySem.F.type_list_pop mt_pop (pv 3))) pa_nil))))
    (pss_cons (ps_par (i := 5) (j := 6) (by rfl) nd rfl rfl (by decide) rfl rfl (pa_cons (pe_bm0 PySem.F.plainAttrs_list PySem.F.slot_list_pop PySem.F.type_list_pop mt_pop (pv 3)) (pa_cons (pe_bm0 PySem.F.plainAttrs_list PySem.F.slot_list_pop PySem.F.type_list_pop mt_pop (pv 3)) pa_nil)) (by rfl))
    (pss_one (ps_expr (pe_bm PySem.F.plainAttrs_list PySem.F.slot_list_append PySem.F.type_list_append mt_append (pv 3) (pa_cons (pe_ifExp (pt_cmpR op_eq (pe_ix (r := rIxT K) ix_tup (pv 4) pe_int (fun _ _ => rfl)) pe_str (nomark _)) (pe_and (pv 6) (pe_one (pv 5))) (pe_or (pv 6) (pe_one (pv 5)))) pa_nil))))))))))))))
    (pss_one (ps_ret (pe_ix (r := rIxL K) ix_list (pv 3) pe_int (fun _ _ => rfl)))))), ?_⟩
  refine ⟨by decide, fun D nD => ?_⟩
  have s0 : Same H (upd H D (.lst [])) := sm_up nD
  refine ⟨_, rfl, L, rfl, ⟨_, SqL.of (s0 _ _ hL)⟩, for_list (K := K) (a := L) (xs := ys) (fun i σ H2 => Same H H2 ∧ H2 D = some (.lst (bls (sem c pat (st.take i)))) ∧ ∃ z4 z5 z6 : Option V, σ = [some (.ref L), some (.ref ca), some (.ref pa2), some (.ref D), z4, z5, z6]) ⟨s0, upd_same, _, _, _, rfl⟩ (fun i σ H2 _ h => SqL.of (h.1 _ _ hL)) ?_ ?_⟩
  rotate_left
  · rintro σ H2 ⟨s2, hD, z4, z5, z6, rfl⟩
    rw [hys.len, List.take_length, hsem] at hD
    exact ⟨_, rfl, D, _, _, _, rfl, rfl, SqL.of hD, at_of (j := 0) rfl rfl, Qk H2 s2⟩
  rintro i x σ H2 hi ⟨s2, hD, z4, z5, z6, rfl⟩
  obtain ⟨s, hsi, hsx⟩ := hys.at_ hi
  obtain ⟨a, rfl, ha⟩ := hsx.tk (sm_tk s2)
  obtain ⟨m, hm⟩ := prun_take hrun i
  obtain ⟨m', hm'⟩ := prun_take hrun (i + 1)
  have hsl := sem_run c pat hm
  have hil : i < st.length := (List.getElem?_eq_some_iff.mp hsi).1
  have hm1000 : m ≤ 1000 := by
    have h1 : (sem c pat (st.take i)).length ≤ (st.take i).length := by
      have gen : ∀ l : List Step, (sem c pat l).length ≤ l.length := by
        intro l
        induction l using snoc_ind with
        | h0 => exact Nat.le_refl _
        | hs l s ih =>
          rw [sem_snoc, List.length_append]
          show _ ≤ _ + 1
          generalize sem c pat l = p at ih
          cases s with
          | not => cases p <;> simp [ap] at ih ⊢ <;> omega
          | and =>
            match p with
            | [] => simp [ap]
            | [a] => simp [ap] at ih ⊢
            | a :: b :: p => simp [ap] at ih ⊢; omega
          | or =>
            match p with
            | [] => simp [ap]
            | [a] => simp [ap] at ih ⊢
            | a :: b :: p => simp [ap] at ih ⊢; omega
          | _ => simp [ap] at ih ⊢; omega
      exact gen _
    rw [List.length_take] at h1
    omega
  have hnext : sem c pat (st.take (i + 1)) = ap c pat s (sem c pat (st.take i)) := by rw [take_snoc hsi, sem_snoc]
  have hstp : stp s m = some m' := by
    have h := hm'
    rw [take_snoc hsi, prun_snoc, hm] at h
    exact h
  generalize hpile : sem c pat (st.take i) = p at hD hsl hnext
  have hpl : p.length ≤ 1000 := by omega
  -- the next turn
  have done : ∀ (D' : Ends) (H3 : Hp) (p2 : List Bool) (v : Bool) (z4' z5' z6' : Option V), (∀ σ' H', (Same H H' ∧ H' D = some (.lst (bls (sem c pat (st.take (i + 1))))) ∧ ∃ z4 z5 z6 : Option V, σ' = [some (.ref L), some (.ref ca), some (.ref pa2), some (.ref D), z4, z5, z6]) → D'.nx σ' H') →
      Same H H3 → sem c pat (st.take (i + 1)) = v :: p2 → D'.nx [some (.ref L), some (.ref ca), some (.ref pa2), some (.ref D), z4', z5', z6'] (upd H3 D (.lst (bls p2 ++ [.bl v]))) := by
    intro D' H3 p2 v z4' z5' z6' hN s3 e
    refine hN _ _ ⟨sm_mut s3 nD, ?_, _, _, _, rfl⟩
    rw [upd_same, e, bls_cons]
  cases s with
  | worth j u =>
    have hj : j < c.length := by
      rw [hcl]
      exact hstg j u (List.mem_of_getElem? hsi)
    refine ⟨_, rfl, a, _, _, _, rfl, rfl, SqT.of ha, at_of (j := 0) rfl rfl, rfl, _, rfl, iteTd sEq ?_⟩
    refine ⟨_, rfl, .inl ⟨rfl, _, SqL.of hD⟩, _, rfl, _, rfl, a, _, _, _, rfl, rfl, SqT.of ha, at_of (j := 1) rfl rfl, ca, _, _, _, rfl, rfl, SqT.of (s2 _ _ hc), at_of (j := j) rfl (by rw [List.getElem?_map, List.getElem?_eq_getElem hj]; rfl), _, rfl, a, _, _, _, rfl, rfl, SqT.of ha, at_of (j := 2) rfl rfl, rfl, D, _, _, rfl, rfl, hD, szl (by rw [bls_len]; omega), ?_⟩
    refine done _ _ p _ _ _ _ (fun _ _ h => h) s2 ?_
    rw [hnext]
    show decide (c.getD j 0 = (u : Int)) :: p = _
    have e1 : c.getD j 0 = c[j] := by rw [List.getD_eq_getElem?_getD, List.getElem?_eq_getElem hj]; rfl
    rw [e1]
    simp
  | blank j =>
    refine ⟨_, rfl, a, _, _, _, rfl, rfl, SqT.of ha, at_of (j := 0) rfl rfl, rfl, _, rfl, iteFd (sNe (by decide +kernel)) ?_⟩
    refine ⟨_, rfl, a, _, _, _, rfl, rfl, SqT.of ha, at_of (j := 0) rfl rfl, rfl, _, rfl, iteTd sEq ?_⟩
    refine ⟨_, rfl, .inl ⟨rfl, _, SqL.of hD⟩, _, rfl, a, _, _, _, rfl, rfl, SqT.of ha, at_of (j := 1) rfl rfl, _, rfl, pa2, _, rfl, .inr (SqT.of (s2 _ _ hp)), rfl, flat_ints pat, D, _, _, rfl, rfl, hD, szl (by rw [bls_len]; omega), ?_⟩
    refine done _ _ p _ _ _ _ (fun _ _ h => h) s2 ?_
    rw [hnext]
    show (!decide ((j : Int) ∈ pat)) :: p = (!inV (.int (j : Int)) (pat.map V.int)) :: p
    rw [inV_ints]
  | yes =>
    refine ⟨_, rfl, a, _, _, _, rfl, rfl, SqT.of ha, at_of (j := 0) rfl rfl, rfl, _, rfl, iteFd (sNe (by decide +kernel)) ?_⟩
    refine ⟨_, rfl, a, _, _, _, rfl, rfl, SqT.of ha, at_of (j := 0) rfl rfl, rfl, _, rfl, iteFd (sNe (by decide +kernel)) ?_⟩
    refine ⟨_, rfl, a, _, _, _, rfl, rfl, SqT.of ha, at_of (j := 0) rfl rfl, (by show 2 ≤ sizeLine; decide), fun q nq => ⟨q, _, rfl, .inr (SqT.of upd_same), rfl, rfl, _, rfl, iteTd (by decide +kernel) ?_⟩⟩
    have sq := sm_up (o := .tup [V.str "yes", V.str "no"]) nq
    refine ⟨_, rfl, .inl ⟨rfl, _, SqL.of (sq _ _ hD)⟩, _, rfl, a, _, _, _, rfl, rfl, SqT.of (sq _ _ ha), at_of (j := 0) rfl rfl, rfl, D, _, _, rfl, rfl, sq _ _ hD, szl (by rw [bls_len]; omega), ?_⟩
    refine done _ _ p _ _ _ _ (fun _ _ h => h) (s2.trans sq) ?_
    rw [hnext, sEq]
    rfl
  | no =>
    refine ⟨_, rfl, a, _, _, _, rfl, rfl, SqT.of ha, at_of (j := 0) rfl rfl, rfl, _, rfl, iteFd (sNe (by decide +kernel)) ?_⟩
    refine ⟨_, rfl, a, _, _, _, rfl, rfl, SqT.of ha, at_of (j := 0) rfl rfl, rfl, _, rfl, iteFd (sNe (by decide +kernel)) ?_⟩
    refine ⟨_, rfl, a, _, _, _, rfl, rfl, SqT.of ha, at_of (j := 0) rfl rfl, (by show 2 ≤ sizeLine; decide), fun q nq => ⟨q, _, rfl, .inr (SqT.of upd_same), rfl, rfl, _, rfl, iteTd (by decide +kernel) ?_⟩⟩
    have sq := sm_up (o := .tup [V.str "yes", V.str "no"]) nq
    refine ⟨_, rfl, .inl ⟨rfl, _, SqL.of (sq _ _ hD)⟩, _, rfl, a, _, _, _, rfl, rfl, SqT.of (sq _ _ ha), at_of (j := 0) rfl rfl, rfl, D, _, _, rfl, rfl, sq _ _ hD, szl (by rw [bls_len]; omega), ?_⟩
    refine done _ _ p _ _ _ _ (fun _ _ h => h) (s2.trans sq) ?_
    rw [hnext, sNe (by decide +kernel)]
    rfl
  | not =>
    have hm1 : 1 ≤ m := by
      have h : (if 1 ≤ m then some m else none) = some m' := hstp
      split at h
      · assumption
      · cases h
    obtain ⟨b0, p', rfl⟩ : ∃ b0 p', p = b0 :: p' := by
      cases p with
      | nil => simp at hsl; omega
      | cons b0 p' => exact ⟨b0, p', rfl⟩
    rw [bls_cons] at hD
    refine ⟨_, rfl, a, _, _, _, rfl, rfl, SqT.of ha, at_of (j := 0) rfl rfl, rfl, _, rfl, iteFd (sNe (by decide +kernel)) ?_⟩
    refine ⟨_, rfl, a, _, _, _, rfl, rfl, SqT.of ha, at_of (j := 0) rfl rfl, rfl, _, rfl, iteFd (sNe (by decide +kernel)) ?_⟩
    refine ⟨_, rfl, a, _, _, _, rfl, rfl, SqT.of ha, at_of (j := 0) rfl rfl, (by show 2 ≤ sizeLine; decide), fun q nq => ⟨q, _, rfl, .inr (SqT.of upd_same), rfl, rfl, _, rfl, iteFd (by decide +kernel) ?_⟩⟩
    have sq := sm_up (o := .tup [V.str "yes", V.str "no"]) nq
    have hD2 := sq _ _ hD
    refine ⟨_, rfl, a, _, _, _, rfl, rfl, SqT.of (sq _ _ ha), at_of (j := 0) rfl rfl, rfl, _, rfl, iteTd sEq ?_⟩
    refine ⟨_, rfl, .inl ⟨rfl, _, SqL.of hD2⟩, _, rfl, .inl ⟨rfl, _, SqL.of hD2⟩, D, _, _, rfl, rfl, hD2, last_snoc, ?_⟩
    rw [List.dropLast_concat]
    refine ⟨b0, rfl, D, bls p', _, rfl, rfl, upd_same, szl (by rw [bls_len]; simp at hpl; omega), ?_⟩
    refine done _ _ p' _ _ _ _ (fun _ _ h => h) (sm_mut (s2.trans sq) nD) ?_
    rw [hnext]
    rfl
  | and =>
    have hm1 : 2 ≤ m := by
      have h : (if 2 ≤ m then some (m - 1) else none) = some m' := hstp
      split at h
      · assumption
      · cases h
    obtain ⟨b0, b1, p', rfl⟩ : ∃ b0 b1 p', p = b0 :: b1 :: p' := by
      match p, hsl with
      | [], hsl => simp at hsl; omega
      | [a], hsl => simp at hsl; omega
      | a :: b :: p, _ => exact ⟨a, b, p, rfl⟩
    rw [bls_cons, bls_cons] at hD
    refine ⟨_, rfl, a, _, _, _, rfl, rfl, SqT.of ha, at_of (j := 0) rfl rfl, rfl, _, rfl, iteFd (sNe (by decide +kernel)) ?_⟩
    refine ⟨_, rfl, a, _, _, _, rfl, rfl, SqT.of ha, at_of (j := 0) rfl rfl, rfl, _, rfl, iteFd (sNe (by decide +kernel)) ?_⟩
    refine ⟨_, rfl, a, _, _, _, rfl, rfl, SqT.of ha, at_of (j := 0) rfl rfl, (by show 2 ≤ sizeLine; decide), fun q nq => ⟨q, _, rfl, .inr (SqT.of upd_same), rfl, rfl, _, rfl, iteFd (by decide +kernel) ?_⟩⟩
    have sq := sm_up (o := .tup [V.str "yes", V.str "no"]) nq
    have hD2 := sq _ _ hD
    have ha2 := sq _ _ ha
    refine ⟨_, rfl, a, _, _, _, rfl, rfl, SqT.of ha2, at_of (j := 0) rfl rfl, rfl, _, rfl, iteFd (sNe (by decide +kernel)) ?_⟩
    refine ⟨_, rfl, .inl ⟨rfl, _, SqL.of hD2⟩, D, _, _, rfl, rfl, hD2, last_snoc, ?_⟩
    rw [List.dropLast_concat]
    refine ⟨_, rfl, .inl ⟨rfl, _, SqL.of upd_same⟩, D, _, _, rfl, rfl, upd_same, last_snoc, ?_⟩
    rw [List.dropLast_concat]
    have s4 : Same H (upd (upd (upd H2 q (.tup [V.str "yes", V.str "no"])) D (.lst (bls p' ++ [.bl b1]))) D (.lst (bls p'))) := sm_mut (sm_mut (s2.trans sq) nD) nD
    have ha4 : (upd (upd (upd H2 q (.tup [V.str "yes", V.str "no"])) D (.lst (bls p' ++ [.bl b1]))) D (.lst (bls p'))) a = some (.tup (Step.tup .and)) := by
      rw [upd_ne (ne_of ha2 hD2 (by intro z; cases z)), upd_ne (ne_of ha2 hD2 (by intro z; cases z))]
      exact ha2
    refine ⟨_, _, rfl, ?_⟩
    refine ⟨_, rfl, .inl ⟨rfl, _, SqL.of upd_same⟩, _, rfl, a, _, _, _, rfl, rfl, SqT.of ha4, at_of (j := 0) rfl rfl, rfl, _, rfl, iteTd sEq ?_⟩
    refine ⟨_, rfl, b1, rfl, ?_⟩
    cases b1 with
    | true => exact iteT ⟨_, rfl, D, bls p', _, rfl, rfl, upd_same, szl (by rw [bls_len]; simp at hpl; omega), done _ _ p' _ _ _ _ (fun _ _ h => h) s4 (by rw [hnext]; simp [ap])⟩
    | false => exact iteF ⟨D, bls p', _, rfl, rfl, upd_same, szl (by rw [bls_len]; simp at hpl; omega), done _ _ p' _ _ _ _ (fun _ _ h => h) s4 (by rw [hnext]; simp [ap])⟩
  | or =>
    have hm1 : 2 ≤ m := by
      have h : (if 2 ≤ m then some (m - 1) else none) = some m' := hstp
      split at h
      · assumption
      · cases h
    obtain ⟨b0, b1, p', rfl⟩ : ∃ b0 b1 p', p = b0 :: b1 :: p' := by
      match p, hsl with
      | [], hsl => simp at hsl; omega
      | [a], hsl => simp at hsl; omega
      | a :: b :: p, _ => exact ⟨a, b, p, rfl⟩
    rw [bls_cons, bls_cons] at hD
    refine ⟨_, rfl, a, _, _, _, rfl, rfl, SqT.of ha, at_of (j := 0) rfl rfl, rfl, _, rfl, iteFd (sNe (by decide +kernel)) ?_⟩
    refine ⟨_, rfl, a, _, _, _, rfl, rfl, SqT.of ha, at_of (j := 0) rfl rfl, rfl, _, rfl, iteFd (sNe (by decide +kernel)) ?_⟩
    refine ⟨_, rfl, a, _, _, _, rfl, rfl, SqT.of ha, at_of (j := 0) rfl rfl, (by show 2 ≤ sizeLine; decide), fun q nq => ⟨q, _, rfl, .inr (SqT.of upd_same), rfl, rfl, _, rfl, iteFd (by decide +kernel) ?_⟩⟩
    have sq := sm_up (o := .tup [V.str "yes", V.str "no"]) nq
    have hD2 := sq _ _ hD
    have ha2 := sq _ _ ha
    refine ⟨_, rfl, a, _, _, _, rfl, rfl, SqT.of ha2, at_of (j := 0) rfl rfl, rfl, _, rfl, iteFd (sNe (by decide +kernel)) ?_⟩
    refine ⟨_, rfl, .inl ⟨rfl, _, SqL.of hD2⟩, D, _, _, rfl, rfl, hD2, last_snoc, ?_⟩
    rw [List.dropLast_concat]
    refine ⟨_, rfl, .inl ⟨rfl, _, SqL.of upd_same⟩, D, _, _, rfl, rfl, upd_same, last_snoc, ?_⟩
    rw [List.dropLast_concat]
    have s4 : Same H (upd (upd (upd H2 q (.tup [V.str "yes", V.str "no"])) D (.lst (bls p' ++ [.bl b1]))) D (.lst (bls p'))) := sm_mut (sm_mut (s2.trans sq) nD) nD
    have ha4 : (upd (upd (upd H2 q (.tup [V.str "yes", V.str "no"])) D (.lst (bls p' ++ [.bl b1]))) D (.lst (bls p'))) a = some (.tup (Step.tup .or)) := by
      rw [upd_ne (ne_of ha2 hD2 (by intro z; cases z)), upd_ne (ne_of ha2 hD2 (by intro z; cases z))]
      exact ha2
    refine ⟨_, _, rfl, ?_⟩
    refine ⟨_, rfl, .inl ⟨rfl, _, SqL.of upd_same⟩, _, rfl, a, _, _, _, rfl, rfl, SqT.of ha4, at_of (j := 0) rfl rfl, rfl, _, rfl, iteFd (sNe (by decide +kernel)) ?_⟩
    refine ⟨_, rfl, b1, rfl, ?_⟩
    cases b1 with
    | true => exact iteT ⟨D, bls p', _, rfl, rfl, upd_same, szl (by rw [bls_len]; simp at hpl; omega), done _ _ p' _ _ _ _ (fun _ _ h => h) s4 (by rw [hnext]; simp [ap])⟩
    | false => exact iteF ⟨_, rfl, D, bls p', _, rfl, rfl, upd_same, szl (by rw [bls_len]; simp at hpl; omega), done _ _ p' _ _ _ _ (fun _ _ h => h) s4 (by rw [hnext]; simp [ap])⟩

end
end Cb
/-! a tuple with its object -/
namespace Cb
open PySem PySem.Spec PyProof.Rows L2
/-- a tuple as it was made: its object is told -/
def TupF (H : Hp) (a : Addr) (xs : List V) : Prop := ∃ o : Obj, o.cls = .type "tuple" ∧ o.dict = none ∧ H a = some (.frz o (.tup xs))
theorem TupF.sq {K : PySem.W.Frag} {H : Hp} {a : Addr} {xs : List V} (h : TupF H a xs) : SqT K H a xs := by
  obtain ⟨o, _, _, h⟩ := h
  exact .inl (.inr ⟨o, h⟩)
theorem TupF.sm {H H' : Hp} {a : Addr} {xs : List V} (h : TupF H a xs) (e : Same H H') : TupF H' a xs := by
  obtain ⟨o, h1, h2, h⟩ := h
  exact ⟨o, h1, h2, e _ _ h⟩
section
variable {X : Cx}
theorem call_tupleF : CallR X (.type "tuple") (fun xs H Q => ∃ p ys, xs = [.ref p] ∧ SqL X.K H p ys ∧ ∀ l o, H l = none → o.cls = .type "tuple" → o.dict = none → Q (.ref l) (upd H l (.frz o (.tup ys)))) := by
  intro pins s σ H xs us Q I r h
  obtain ⟨p, ys, rfl, hq, q⟩ := h
  obtain ⟨u, rfl, rx⟩ := vals1 r
  cases rx
  obtain ⟨its, r', pl, hz⟩ := I.list hq
  have hlen := r'.length
  refine call_tuple_list pl.isList (fun h' kp => ?_) (by simp only [List.size_toArray] <;> omega)
  have I1 : Inv X pins σ H { s with heap := h' } := I.kept (t' := s.toks) kp
  have new : (h'.push { cls := .type "tuple", data := .seq its.toArray }).get? h'.objs.size = some { cls := .type "tuple", data := .seq its.toArray } := Heap.get?_push_size _ rfl
  have I2 : Inv X pins σ (upd H h'.objs.size (.frz { cls := .type "tuple", data := .seq its.toArray } (.tup ys))) { s with heap := h'.push { cls := .type "tuple", data := .seq its.toArray } } :=
    I1.laid (t' := s.toks) (fun b o e => Heap.get?_push_of_some _ e) (Nat.le_refl _) (show ObjOk X.prog X.w _ _ _ (.frz _ (.tup ys)) from ⟨new, hz, its, r', IsTup.new _ _⟩)
  exact ⟨.ref h'.objs.size, _, I2, rfl, q _ _ (I1.hok.fresh (Nat.le_refl _)) rfl rfl⟩
end
end Cb
namespace Cb
open PySem PySem.Spec PyProof.Rows L2
section
variable {P : Program} {w : World} {K : PySem.W.Frag} {mg : Str → Option Value} {base : Heap}
/-! ### kinds -/
theorem dpI {H : Hp} : ∀ ns : List Int, DpAll K H (ns.map V.int) (ns.map PyData.int)
  | [] => .nil
  | n :: r => .cons (.int n) (dpI r)
theorem TIn.dp {H : Hp} {v : V} {ns : List Int} (h : TIn H v ns) : Dp K H v (.tuple (ns.map PyData.int)) := by
  obtain ⟨a, rfl, ha⟩ := h
  exact .tup (SqT.of ha) (dpI ns)
theorem TK.dp {H : Hp} {v : V} {ns : List Int} (h : TK K H v ns) : Dp K H v (.tuple (ns.map PyData.int)) := by
  obtain ⟨a, rfl, ha⟩ := h
  exact .tup ha (dpI ns)
theorem lst_dp {H : Hp} {a : Addr} {ns : List Int} (h : H a = some (.lst (ns.map V.int))) : Dp K H (.ref a) (.list (ns.map PyData.int)) := .lst (SqL.of h) (dpI ns)
theorem shT (ns : List Int) : SeqAt.shaped (.tuple (ns.map PyData.int)) = true := by
  have h := PySem.W.shaped_ints ns
  have h' : (PyData.canLay0 (.list (ns.map PyData.int)) && decide (PyData.depth (.list (ns.map PyData.int)) ≤ 64)) = true := h
  show (PyData.canLay0 (.tuple (ns.map PyData.int)) && decide (PyData.depth (.tuple (ns.map PyData.int)) ≤ 64)) = true
  simp only [PyData.canLay0, PyData.depth] at h' ⊢
  exact h'
theorem shL (ns : List Int) : SeqAt.shaped (.list (ns.map PyData.int)) = true := PySem.W.shaped_ints ns
theorem eqvAll_ints : ∀ ns ms : List Int, PyData.eqvAll (ns.map PyData.int) (ms.map PyData.int) = decide (ns = ms)
  | [], [] => by simp [PyData.eqvAll]
  | [], _ :: _ => by simp [PyData.eqvAll]
  | _ :: _, [] => by simp [PyData.eqvAll]
  | n :: r, k :: q => by
    simp only [List.map_cons, PyData.eqvAll, PyData.eqv, eqvAll_ints r q]
    by_cases h : n = k <;> simp [h]
theorem eqvT (ns ms : List Int) : PyData.eqv (.tuple (ns.map PyData.int)) (.tuple (ms.map PyData.int)) = decide (ns = ms) := by
  rw [PyData.eqv, eqvAll_ints]
theorem eqvL (ns ms : List Int) : PyData.eqv (.list (ns.map PyData.int)) (.list (ms.map PyData.int)) = decide (ns = ms) := by
  rw [PyData.eqv, eqvAll_ints]
def spKindsAt : Sp := fun vs H Q _ => ∃ (v vv : V) (qa : Addr) (sz : List Nat) (view : List Int) (t b : Tree), vs = [v, vv, .ref qa] ∧ TIn H v (isz sz) ∧ Sz sz ∧ TIn H vv view ∧ view.length = sz.length ∧ QuesAt H sz qa t b ∧
  ∀ r H', Same H H' → H r = none → H' r = some (.lst ((kinds sz t b view).map V.int)) → Q (.ref r) H'
abbrev N_kinds_at : List Str := ["sizes", "view", "question", "pattern", "found", "content", "kind"]
theorem sc_kinds_at : FnScope N_kinds_at ["sizes", "view", "question"] (defScope s_kinds_at) := ⟨rfl, rfl, rfl, by decide +kernel, rfl, by decide +kernel, by decide +kernel⟩
theorem cal_kinds_at (T : Txt w K mg) : C8.Cal P w K mg base 3 "kinds_at" spKindsAt [] := by
  have c_pattern_of := cal_pattern_of (P := P) (base := base) T
  have c_contents_of := cal_contents_of (P := P) (base := base) T
  have c_view_of := cal_view_of (P := P) (base := base) T
  have c_is_met := cal_is_met (P := P) (base := base) T
  refine mkCal T.F_kinds_at T.g_kinds_at sc_kinds_at (fun _ _ _ _ _ _ us hl => match us, hl with | [_, _, _], _ => rfl) (fun vs H Q E h => ?_) (fun cdv A outer s H vs Q E hr h => ?_)
  · obtain ⟨v, vv, qa, sz, view, t, b, rfl, hv, hz, hvv, hvl, hq, Qk⟩ := h
    rfl
  obtain ⟨v, vv, qa, sz, view, t, b, rfl, hv, hz, hvv, hvl, hq, Qk⟩ := h
  have nd := sc_kinds_at.nd
  have hu := hu_of hr
  refine ⟨_, (pss_cons (ps_set (i := 3) nd rfl (Or.inl rfl) (C8.pe_c c_pattern_of hr (by decide) rfl (pa_cons (pv 1) pa_nil)))
    (pss_cons (ps_set (i := 4) nd rfl (Or.inl rfl) (pe_lst pa_nil))
    (pss_cons (ps_for PassesOwn.never rfl (pi_list (C8.pe_c c_contents_of hr (by decide) rfl (pa_cons (pv 0) pa_nil))) (pg_name (i := 5) nd rfl (Or.inl rfl))
    (pss_one (ps_if (pt_cmpR (r := rEqD K) (op_eqD hr.units) (C8.pe_c c_view_of hr (by decide) rfl (pa_cons (pv 5) (pa_cons (pv 3) pa_nil))) (pv 1) (nomark _))
    (pss_cons (ps_set (i := 6) nd rfl (Or.inl rfl) pe_int)
    (pss_cons (ps_if (pt_val (C8.pe_c c_is_met hr (by decide) rfl (pa_cons (pe_ix (r := rIxT K) ix_tup (pv 2) pe_int (fun _ _ => rfl)) (pa_cons (pv 5) (pa_cons (pv 3) pa_nil)))))
    (pss_one (ps_set (i := 6) nd rfl (Or.inl rfl) (pe_ifExp (pt_val (C8.pe_c c_is_met hr (by decide) rfl (pa_cons (pe_ix (r := rIxT K) ix_tup (pv 2) pe_int (fun _ _ => rfl)) (pa_cons (pv 5) (pa_cons (pv 3) pa_nil))))) pe_int pe_int)))
    pss_nil)
    (pss_one (ps_if (pt_cmpR (r := rIn K true) op_notIn_seq (pv 6) (pv 4) (by rfl))
    (pss_one (ps_expr (pe_bm PySem.F.plainAttrs_list PySem.F.slot_list_append PySem.F.type_list_append mt_append (pv 4) (pa_cons (pv 6) pa_nil))))
    pss_nil))))
    pss_nil)))
    (pss_one (ps_ret (pv 4)))))), ?_⟩
  have l4 := hz.l4
  refine ⟨_, rfl, vv, view, rfl, hvv, by omega, fun pt H1 s1 hpt => ?_⟩
  refine ⟨by decide, fun D nD => ?_⟩
  have sD := sm_new (o := .lst []) s1 nD
  have nD0 := s1.free nD
  refine ⟨_, rfl, v, sz, rfl, hv.tk (sm_tk sD), hz.s4, fun cl H2 s2 ncl hcl => ?_⟩
  obtain ⟨cs, hcl2, hcs⟩ := hcl
  have s02 := sD.trans s2
  obtain ⟨F, hF⟩ : ∃ F : Nat → List Int, F = fun i => kindsL ((((contents sz).take i).filter fun c => decide (viewOf c (patOf view) = view)).map fun c => kindOf t b c (patOf view)) := ⟨_, rfl⟩
  have hFn : F (contents sz).length = kinds sz t b view := by rw [hF]; show kindsL _ = kindsL _; rw [List.take_length]; rfl
  have hclen : (contents sz).length ≤ 16 := by rw [contents_len]; exact hz.p
  have hFl : ∀ i, (F i).length ≤ 16 := fun i => by
    rw [hF]
    refine Nat.le_trans kindsL_len ?_
    rw [List.length_map]
    refine Nat.le_trans (List.length_filter_le _ _) ?_
    rw [List.length_take]
    omega
  have hD2 : H2 D = some (.lst []) := s2 _ _ upd_same
  have clD : cl ≠ D := by
    intro e
    rw [e, upd_same] at ncl
    cases ncl
  have bsm : ∀ {H3 : Hp}, But D H2 H3 → Same H H3 := fun hb x o h => hb x o (ne_of_none h nD0) (s02 x o h)
  refine ⟨cl, rfl, ⟨_, SqL.of hcl2⟩, for_list (K := K) (a := cl) (xs := cs) (fun i σ H3 => But D H2 H3 ∧ H3 D = some (.lst ((F i).map V.int)) ∧ ∃ z5 z6 : Option V, σ = [some v, some vv, some (.ref qa), some pt, some (.ref D), z5, z6]) ?_ (fun i σ H3 _ h => SqL.of (h.1 _ _ clD hcl2)) ?_ ?_⟩
  · refine ⟨fun x o _ h => h, ?_, _, _, rfl⟩
    rw [hF]
    exact hD2
  · rintro i x σ H3 hi ⟨hb, hD, z5, z6, rfl⟩
    obtain ⟨c, hci, hcx⟩ := hcs.at_ hi
    have hcm := List.mem_of_getElem? hci
    obtain ⟨hcl, _⟩ := mem_contents.mp hcm
    have tk3 : Tk H2 H3 := hb.tk hD2
    have hcx3 := hcx.tk tk3
    have s03 := bsm hb
    have hpt3 : TIn H3 pt (patOf view) := (hpt.tk (sm_tk ((sm_up (o := .lst []) nD).trans s2))).tk tk3
    have hFs : F (i + 1) = if viewOf c (patOf view) = view then (if kindOf t b c (patOf view) ∈ F i then F i else F i ++ [kindOf t b c (patOf view)]) else F i := by
      rw [hF]
      show kindsL _ = _
      rw [take_snoc hci, List.filter_append, List.map_append]
      by_cases q : viewOf c (patOf view) = view
      · rw [if_pos q, List.filter_cons_of_pos (by exact decide_eq_true q)]
        exact kindsL_snoc _ _
      · rw [if_neg q, List.filter_cons_of_neg (by simpa using q)]
        show kindsL (_ ++ []) = _
        rw [List.append_nil]
    refine ⟨_, rfl, _, rfl, x, pt, c, patOf view, rfl, hcx3, hpt3, by omega, fun u H4 s4 hu => ?_⟩
    have hD4 := s4 _ _ hD
    have b4 : But D H2 H4 := fun y o n h => s4 _ _ (hb y o n h)
    refine ⟨_, rfl, _, _, TIn.dp hu, TIn.dp (hvv.tk (sm_tk (bsm b4))), shT _, shT _, _, rfl, ite2 (fun e => ?_) (fun e => ?_)⟩
    · have e' : viewOf c (patOf view) = view := by
        rw [eqvT] at e
        exact of_decide_eq_true e
      rw [if_pos e'] at hFs
      have hq4 := hq.sm (bsm b4)
      obtain ⟨L1, L2, hqa, hL1, hL2⟩ := hq4
      have hcx4 := hcx3.tk (sm_tk s4)
      have hpt4 := hpt3.tk (sm_tk s4)
      have hccl : c.length = sz.length := hcl
      refine ⟨_, rfl, qa, _, _, _, rfl, rfl, SqT.of hqa, at_of (j := 2) rfl rfl, _, rfl, _, rfl, L2, x, pt, sz, b, c, patOf view, rfl, hL2, hcx4, hpt4, hccl, fun H5 s5 => ⟨_, rfl, ?_⟩⟩
      refine ifViaS (fun σ' H6 => Same H4 H6 ∧ σ' = [some v, some vv, some (.ref qa), some pt, some (.ref D), some x, some (.int (kindOf t b c (patOf view)))]) ?_ (fun eb D' hD' => ?_) (fun eb D' hD' => ?_)
      · rintro σ' H6 ⟨s6, rfl⟩
        have hD6 := s6 _ _ hD4
        have b6 : But D H2 H6 := fun y o n h => s6 _ _ (b4 y o n h)
        refine ⟨_, rfl, _, rfl, D, _, rfl, .inl (SqL.of hD6), rfl, flat_ints (F i), _, rfl, ite2 (fun ek => ?_) (fun ek => ?_)⟩
        · have ek' : ¬ kindOf t b c (patOf view) ∈ F i := by
            intro m
            have : (!inV (.int (kindOf t b c (patOf view))) ((F i).map V.int)) = true := ek
            rw [inV_ints, decide_eq_true m] at this
            cases this
          rw [if_neg ek'] at hFs
          have := hFl i
          refine ⟨_, rfl, .inl ⟨rfl, _, SqL.of hD6⟩, _, rfl, D, _, _, rfl, rfl, hD6, szl (by rw [List.length_map]; omega), ?_⟩
          refine ⟨fun y o n h => by rw [upd_ne n]; exact b6 y o n h, ?_, _, _, rfl⟩
          rw [upd_same, hFs, List.map_append]
          rfl
        · have ek' : kindOf t b c (patOf view) ∈ F i := by
            by_cases m : kindOf t b c (patOf view) ∈ F i
            · exact m
            · refine absurd ?_ ek
              show (!inV (.int (kindOf t b c (patOf view))) ((F i).map V.int)) = true
              rw [inV_ints, decide_eq_false m]
              rfl
          rw [if_pos ek'] at hFs
          refine ⟨b6, ?_, _, _, rfl⟩
          rw [hFs]
          exact hD6
      · have hL1' := hL1.sm s5
        refine ⟨_, rfl, qa, _, _, _, rfl, rfl, SqT.of (s5 _ _ hqa), at_of (j := 1) rfl rfl, _, rfl, _, rfl, L1, x, pt, sz, t, c, patOf view, rfl, hL1', hcx4.tk (sm_tk s5), hpt4.tk (sm_tk s5), hccl, fun H6 s6 => ⟨_, rfl, ite2 (fun et => ?_) (fun et => ?_)⟩⟩
        · refine hD' _ _ ⟨s5.trans s6, ?_⟩
          have ek : kindOf t b c (patOf view) = 2 := by
            unfold kindOf
            rw [if_pos eb, if_pos et]
          rw [ek]
          rfl
        · refine hD' _ _ ⟨s5.trans s6, ?_⟩
          have ek : kindOf t b c (patOf view) = 1 := by
            unfold kindOf
            rw [if_pos eb, if_neg et]
          rw [ek]
          rfl
      · refine hD' _ _ ⟨s5, ?_⟩
        have ek : kindOf t b c (patOf view) = 0 := by
          unfold kindOf
          rw [if_neg eb]
        rw [ek]
        rfl
    · have e' : ¬ viewOf c (patOf view) = view := by
        intro z
        refine e ?_
        rw [eqvT]
        exact decide_eq_true z
      rw [if_neg e'] at hFs
      refine ⟨b4, ?_, _, _, rfl⟩
      rw [hFs]
      exact hD4
  · rintro σ H3 ⟨hb, hD, z5, z6, rfl⟩
    rw [hcs.len, hFn] at hD
    exact ⟨_, rfl, Qk D H3 (bsm hb) nD0 hD⟩
/-! ### quotients -/
def spQuot (K : PySem.W.Frag) : Sp := fun vs H Q _ => ∃ (x y : V) (m n t : Int), vs = [x, y] ∧ TK K H x (lw m t) ∧ TK K H y (lw n t) ∧ 0 ≤ m ∧ 0 ≤ n ∧ 0 < m + n ∧ m + n < 2 ^ 64 ∧ 0 < t ∧ t < 2 ^ 64 ∧ ∀ r H', Same H H' → TIn H' r (lw m (m + n)) → Q r H'
abbrev N_quotient_of : List Str := ["first", "second"]
theorem sc_quotient_of : FnScope N_quotient_of ["first", "second"] (defScope s_quotient_of) := ⟨rfl, rfl, rfl, by decide +kernel, rfl, by decide +kernel, by decide +kernel⟩
theorem cal_quotient_of (T : Txt w K mg) : C8.Cal P w K mg base 5 "quotient_of" (spQuot K) [] := by
  have c_over := cal_over (P := P) (base := base) T
  have c_add_all := cal_add_all (P := P) (base := base) T
  refine mkCal T.F_quotient_of T.g_quotient_of sc_quotient_of (fun _ _ _ _ _ _ us hl => match us, hl with | [_, _], _ => rfl) (fun vs H Q E h => ?_) (fun cdv A outer s H vs Q E hr h => ?_)
  · obtain ⟨x, y, m, n, t, rfl, hx, hy, hm, hn, hmn, hB, ht, hT, Qk⟩ := h
    rfl
  obtain ⟨x, y, m, n, t, rfl, hx, hy, hm, hn, hmn, hB, ht, hT, Qk⟩ := h
  have nd := sc_quotient_of.nd
  have hu := hu_of hr
  refine ⟨_, (pss_one (ps_ret (C8.pe_c c_over hr (by decide) rfl (pa_cons (pv 0) (pa_cons (C8.pe_c c_add_all hr (by decide) rfl (pa_cons (pe_lst (pa_cons (pv 0) (pa_cons (pv 1) pa_nil))) pa_nil)) pa_nil))))), ?_⟩
  refine ⟨_, rfl, _, rfl, _, rfl, (by show 2 ≤ sizeLine; decide), fun l nl => ?_⟩
  have sl := sm_up (o := .lst [x, y]) nl
  refine ⟨l, [x, y], [m, n], t, rfl, SqL.of upd_same, .cons (hx.tk sl) (.cons (hy.tk sl) .nil), ?_, ?_, ht, hT, fun r H2 s2 hr => ?_⟩
  · intro k hk
    simp only [List.mem_cons, List.not_mem_nil, or_false] at hk
    rcases hk with rfl | rfl
    · exact hm
    · exact hn
  · show m + (n + 0) < _
    omega
  · have e : ([m, n] : List Int).sum = m + n := by show m + (n + 0) = _; omega
    rw [e] at hr
    have s02 := sl.trans s2
    have p1 := lt_pos (n := m + n) ht hmn
    refine ⟨x, r, lt1 m t, lb m t, lt1 (m + n) t, lb (m + n) t, rfl, hx.tk s02, hr, frB_lw hm (by omega) ht hT, frB_lw (by omega) hB ht hT, p1, fun q H' s' hq => ?_⟩
    rw [lw_over ht hmn] at hq
    exact Qk q H' (s02.trans s') hq
/-! ### the bounds -/
/-- the table: its sizes and its shares, views by their weights of a total -/
structure SeenAt (K : PySem.W.Frag) (H : Hp) (a : Addr) (sz : List Nat) (rs : List (List Int × Int)) (t : Int) : Prop where
  ex : ∃ (dx sa : Addr) (v : V) (xs : List V), H a = some (.ins (He.ga K "Seen") dx [("sizes", v), ("shares", .ref sa)]) ∧ TIn H v (isz sz) ∧ TupF H sa xs ∧ P2 (fun x (r : List Int × Int) => ∃ (p : Addr) (y z : V), x = .ref p ∧ H p = some (.tup [y, z]) ∧ TIn H y r.1 ∧ TIn H z (lw r.2 t)) xs rs
theorem SeenAt.sm {H H' : Hp} {a : Addr} {sz : List Nat} {rs : List (List Int × Int)} {t : Int} (h : SeenAt K H a sz rs t) (e : Same H H') : SeenAt K H' a sz rs t := by
  obtain ⟨dx, sa, v, xs, h1, h2, h3, h4⟩ := h.ex
  exact ⟨dx, sa, v, xs, e _ _ h1, h2.tk (sm_tk e), h3.sm e, h4.imp fun x r ⟨p, y, z, e1, e2, e3, e4⟩ => ⟨p, y, z, e1, e _ _ e2, e3.tk (sm_tk e), e4.tk (sm_tk e)⟩⟩
/-- what bounds gives -/
def BndAt (H : Hp) (r : V) : Option (List Int × List Int) → Prop
  | none => r = .non
  | some p => ∃ (a : Addr) (x y : V), r = .ref a ∧ H a = some (.tup [x, y]) ∧ TIn H x p.1 ∧ TIn H y p.2
/-- the rows of a table, as they are told -/
structure RowsOk (sz : List Nat) (rs : List (List Int × Int)) (t : Int) : Prop where
  pos : ∀ r ∈ rs, 0 < r.2
  sum : (rs.map (·.2)).sum = t
  top : t < 2 ^ 64
  view : ∀ r ∈ rs, ∃ p, isPat sz.length p ∧ r.1 ∈ views sz p
  len : rs.length ≤ 1000
def spBounds (K : PySem.W.Frag) : Sp := fun vs H Q _ => ∃ (a : Addr) (z : Str) (sz : List Nat) (rs : List (List Int × Int)) (tot : Int) (t b : Tree), vs = [.ref a, .str z] ∧ SeenAt K H a sz rs tot ∧ Sz sz ∧ RowsOk sz rs tot ∧ ShareTx z t b ∧ t.Good sz ∧ b.Good sz ∧ t.depth ≤ 3 ∧ b.depth ≤ 3 ∧
  ∀ r H', Same H H' → BndAt H' r (bnd sz t b rs) → Q r H'
/-- a row of a part and its kinds -/
def PKat (K : PySem.W.Frag) (sz : List Nat) (t b : Tree) (tot : Int) (H : Hp) (x : V) (r : List Int × Int) : Prop := ∃ (p : Addr) (z : V) (k : Addr), x = .ref p ∧ H p = some (.tup [z, .ref k]) ∧ TIn H z (lw r.2 tot) ∧ H k = some (.lst ((kinds sz t b r.1).map V.int))
theorem PKat.sm {sz : List Nat} {t b : Tree} {tot : Int} {H H' : Hp} {x : V} {r : List Int × Int} (h : PKat K sz t b tot H x r) (e : Same H H') : PKat K sz t b tot H' x r := by
  obtain ⟨p, z, k, h1, h2, h3, h4⟩ := h
  exact ⟨p, z, k, h1, e _ _ h2, h3.tk (sm_tk e), e _ _ h4⟩

end
end Cb
namespace Cb
open PySem PySem.Spec PyProof.Rows L2
section
variable {P : Program} {w : World} {K : PySem.W.Frag} {mg : Str → Option Value} {base : Heap}
/-! ### bounds -/
theorem sel_take {sz : List Nat} {t b : Tree} {f : List Int → Bool} {rs : List (List Int × Int)} {i : Nat} {r : List Int × Int} (h : rs[i]? = some r) : sel sz t b f (rs.take (i + 1)) = sel sz t b f (rs.take i) ++ if f (kinds sz t b r.1) = true then [r.2] else [] := by
  unfold sel
  rw [take_snoc h, List.filter_append, List.map_append]
  congr 1
  by_cases q : f (kinds sz t b r.1) = true
  · rw [if_pos q, List.filter_cons_of_pos (by exact q)]
    rfl
  · rw [if_neg q, List.filter_cons_of_neg (by exact q)]
    rfl
theorem sel_len {sz : List Nat} {t b : Tree} {f : List Int → Bool} {rs : List (List Int × Int)} : (sel sz t b f rs).length ≤ rs.length := by
  unfold sel
  rw [List.length_map]
  exact List.length_filter_le _ _
/-- the parts of the rows whose kinds are so -/
theorem selC {sz : List Nat} {t b : Tree} {tot : Int} {rs : List (List Int × Int)} {D D2 : Addr} {ys : List V} {H1 : Hp} {tt : TT} {f : List Int → Bool} {a0 a1 a2 a3 a4 a5 a6 a7 a8 a9 a10 : Option V} {Qd : Hp → Prop}
    (hD : H1 D = some (.lst ys)) (hys : P2 (PKat K sz t b tot H1) ys rs) (nD2 : H1 D2 = none) (hlen : rs.length ≤ 1000)
    (ht : ∀ (σ : L2.St) (H3 : Hp) (k : Addr) (ks : List Int) (Q : Bool → Hp → Prop), σ[10]? = some (some (.ref k)) → H3 k = some (.lst (ks.map V.int)) → (∀ H4, Same H3 H4 → Q (f ks) H4) → tt σ H3 Q)
    (hd : ∀ H ys2, Same H1 H → H D2 = some (.lst ys2) → P2 (fun v n => TIn H v (lw n tot)) ys2 (sel sz t b f rs) → Qd H) :
    ∃ W : Nat → Nat → Hp → Prop, (∃ m, W 0 m (upd H1 D2 (.lst []))) ∧ ∀ i m H, W i m H →
      ((Itl K D).stop i H ∧ Qd H) ∨ ((Itl K D).go i H ∧ ∃ Nx : Hp → Prop, (∀ H', Nx H' → ∃ m', m' < m ∧ W (i + 1) m' H') ∧ ∀ x H', (Itl K D).yld i H x H' → gTup K 2 (gCons (gName 9) (gCons (gName 10) gNil)) x (wipe [a0, a1, a2, a3, a4, a5, a6, a7, a8, a9, a10] [9, 10]) H' fun σ2 H2 => wipe σ2 [9, 10] = wipe [a0, a1, a2, a3, a4, a5, a6, a7, a8, a9, a10] [9, 10] ∧ tt σ2 H2 fun b H3 =>
        if b = true then tVar 9 σ2 H3 fun y H4 => ∃ acc, H4 D2 = some (.lst acc) ∧ acc.length < sizeLine ∧ Nx (upd H4 D2 (.lst (acc ++ [y]))) else Nx H3) := by
  refine lcI (walk_list (xs := ys)) nD2 (fun H v n => TIn H v (lw n tot)) (fun i => sel sz t b f (rs.take i)) rfl (fun H' s => SqL.of (s _ _ hD)) ?_ ?_
  · rintro i x H2 _ hi L ⟨rfl, hx⟩
    obtain ⟨r, hr, hpk⟩ := hys.at_ hx
    obtain ⟨p, z, k, rfl, hp, hz, hk⟩ := hpk.sm L.sm
    have hs := sel_take (sz := sz) (t := t) (b := b) (f := f) hr
    have hl : (sel sz t b f (rs.take i)).length < 100000 := by
      have h1 := sel_len (sz := sz) (t := t) (b := b) (f := f) (rs := rs.take i)
      rw [List.length_take] at h1
      omega
    refine ⟨p, _, rfl, SqT.of hp, rfl, _, _, rfl, _, _, rfl, rfl, rfl, ?_⟩
    refine ht _ _ k _ _ rfl hk fun H4 s4 => ite2 (fun c => ?_) (fun c => ?_)
    · rw [if_pos c] at hs
      exact ⟨_, rfl, L.push (fun _ _ acc _ _ hd b r => r.tk (b.tk hd)) nD2 s4 (hz.tk (sm_tk s4)) hs hl⟩
    · rw [if_neg c, List.append_nil] at hs
      exact L.skip (fun _ _ acc _ _ hd b r => r.tk (b.tk hd)) s4 hs
  · intro H ys2 s hD2 hp
    rw [hys.len, List.take_length] at hp
    exact hd H ys2 s hD2 hp
theorem pe_fldK {X : Cx} {K : PySem.W.Frag} {e : Expr} {f : Str} {ta : TE} {pos : Pos} (hK : X.K = K) (he : PE X e ta) (hb : attributeBase e f X.env (eval e X.env) = eval e X.env) : PE X (.Attribute e f pos) (tFld K ta f) := by
  subst hK
  exact pe_fld he hb
abbrev N_bounds : List Str := ["seen", "text", "question", "rows", "must", "against", "can", "sure", "view", "part", "kinds"]
theorem sc_bounds : FnScope N_bounds ["seen", "text"] (defScope s_bounds) := ⟨rfl, rfl, rfl, by decide +kernel, rfl, by decide +kernel, by decide +kernel⟩
theorem cal_bounds (T : Txt w K mg) : C8.Cal P w K mg base 7 "bounds" (spBounds K) [] := by
  have c_read_question := cal_read_question (P := P) (base := base) T
  have c_kinds_at := cal_kinds_at (P := P) (base := base) T
  have c_add_all := cal_add_all (P := P) (base := base) T
  have c_quotient_of := cal_quotient_of (P := P) (base := base) T
  refine mkCal T.F_bounds T.g_bounds sc_bounds (fun _ _ _ _ _ _ us hl => match us, hl with | [_, _], _ => rfl) (fun vs H Q E h => ?_) (fun cdv A outer s H vs Q E hr h => ?_)
  · obtain ⟨a, z, sz, rs, tot, t, b, rfl, hS, hz, hR, htx, gt, gb, dt, db, Qk⟩ := h
    rfl
  obtain ⟨a, z, sz, rs, tot, t, b, rfl, hS, hz, hR, htx, gt, gb, dt, db, Qk⟩ := h
  have nd := sc_bounds.nd
  have hu := hu_of hr
  refine ⟨_, (pss_cons (ps_set (i := 2) nd rfl (Or.inr rfl) (C8.pe_c c_read_question hr (by decide) rfl (pa_cons (pe_fld (pv 0) rfl) (pa_cons (pv 1) pa_nil))))
    (pss_cons (ps_if (pt_cmpR op_ne (pe_ix (r := rIxT K) ix_tup (pv 2) pe_int (fun _ _ => rfl)) pe_str (nomark _))
    (pss_one ps_never)
    pss_nil)
    (pss_cons (ps_setLc (i := 3) (own := [("view", 8), ("part", 9)]) (g := gTup K 2 (gCons (gName 8) (gCons (gName 9) gNil))) (tt := tYes) rfl nd rfl rfl (sw_true rfl rfl rfl (by decide +kernel)) (pi_tup (pe_fld (pv 0) rfl)) (blkOk_by (N := N_bounds) (sc := defScope s_bounds) (by decide +kernel)) (fun _ _ _ _ _ => (pg_tup rfl (pgs_cons (pg_name (i := 8) nd rfl (Or.inl rfl)) (pgs_cons (pg_name (i := 9) nd rfl (Or.inl rfl)) pgs_nil)))) (fun _ _ _ _ _ => pts_nil) (fun _ _ _ _ _ => (pe_tup (pa_cons (pv 9) (pa_cons (C8.pe_c c_kinds_at hr (by decide) rfl (pa_cons (pe_fldK (K := K) rfl (pv 0) rfl) (pa_cons (pv 8) (pa_cons (pv 2) pa_nil)))) pa_nil)))))
    (pss_cons (ps_if (pt_val (pe_callB (r := rAll K) (cr_all rfl) (by rfl) T.z_all bt_all (pa_cons (pe_lc (wi := iList K _) (own := [("part", 9), ("kinds", 10)]) (g := gTup K 2 (gCons (gName 9) (gCons (gName 10) gNil))) (tt := tYes) rfl nd (pi_list (pv 3)) (blkOk_by (N := N_bounds) (sc := defScope s_bounds) (by decide +kernel)) (fun _ _ _ _ _ => (pg_tup rfl (pgs_cons (pg_name (i := 9) nd rfl (Or.inl rfl)) (pgs_cons (pg_name (i := 10) nd rfl (Or.inl rfl)) pgs_nil)))) (fun _ _ _ _ _ => pts_nil) (fun _ _ _ _ _ => (pe_cmpR (r := rIn K false) op_in_seq pe_int (pv 10) (by rfl)))) pa_nil)))
    (pss_one (ps_ret pe_non))
    pss_nil)
    (pss_cons (ps_set (i := 4) nd rfl (Or.inl rfl) (C8.pe_c c_add_all hr (by decide) rfl (pa_cons (pe_lc (wi := iList K _) (own := [("part", 9), ("kinds", 10)]) (g := gTup K 2 (gCons (gName 9) (gCons (gName 10) gNil))) rfl nd (pi_list (pv 3)) (blkOk_by (N := N_bounds) (sc := defScope s_bounds) (by decide +kernel)) (fun _ _ _ _ _ => (pg_tup rfl (pgs_cons (pg_name (i := 9) nd rfl (Or.inl rfl)) (pgs_cons (pg_name (i := 10) nd rfl (Or.inl rfl)) pgs_nil)))) (fun _ _ _ _ _ => (pts_one (pt_cmpR (r := rEqD K) (op_eqD hr.units) (pv 10) (pe_lst (pa_cons pe_int pa_nil)) (nomark _)))) (fun _ _ _ _ _ => (pv 9))) pa_nil)))
    (pss_cons (ps_set (i := 5) nd rfl (Or.inl rfl) (C8.pe_c c_add_all hr (by decide) rfl (pa_cons (pe_lc (wi := iList K _) (own := [("part", 9), ("kinds", 10)]) (g := gTup K 2 (gCons (gName 9) (gCons (gName 10) gNil))) rfl nd (pi_list (pv 3)) (blkOk_by (N := N_bounds) (sc := defScope s_bounds) (by decide +kernel)) (fun _ _ _ _ _ => (pg_tup rfl (pgs_cons (pg_name (i := 9) nd rfl (Or.inl rfl)) (pgs_cons (pg_name (i := 10) nd rfl (Or.inl rfl)) pgs_nil)))) (fun _ _ _ _ _ => (pts_one (pt_cmpR (r := rIn K false) op_in_seq pe_int (pv 10) (by rfl)))) (fun _ _ _ _ _ => (pv 9))) pa_nil)))
    (pss_cons (ps_set (i := 6) nd rfl (Or.inl rfl) (C8.pe_c c_add_all hr (by decide) rfl (pa_cons (pe_lc (wi := iList K _) (own := [("part", 9), ("kinds", 10)]) (g := gTup K 2 (gCons (gName 9) (gCons (gName 10) gNil))) rfl nd (pi_list (pv 3)) (blkOk_by (N := N_bounds) (sc := defScope s_bounds) (by decide +kernel)) (fun _ _ _ _ _ => (pg_tup rfl (pgs_cons (pg_name (i := 9) nd rfl (Or.inl rfl)) (pgs_cons (pg_name (i := 10) nd rfl (Or.inl rfl)) pgs_nil)))) (fun _ _ _ _ _ => (pts_one (pt_cmpR (r := rIn K false) op_in_seq pe_int (pv 10) (by rfl)))) (fun _ _ _ _ _ => (pv 9))) pa_nil)))
    (pss_cons (ps_set (i := 7) nd rfl (Or.inl rfl) (C8.pe_c c_add_all hr (by decide) rfl (pa_cons (pe_lc (wi := iList K _) (own := [("part", 9), ("kinds", 10)]) (g := gTup K 2 (gCons (gName 9) (gCons (gName 10) gNil))) rfl nd (pi_list (pv 3)) (blkOk_by (N := N_bounds) (sc := defScope s_bounds) (by decide +kernel)) (fun _ _ _ _ _ => (pg_tup rfl (pgs_cons (pg_name (i := 9) nd rfl (Or.inl rfl)) (pgs_cons (pg_name (i := 10) nd rfl (Or.inl rfl)) pgs_nil)))) (fun _ _ _ _ _ => (pts_one (pt_cmpR (r := rEqD K) (op_eqD hr.units) (pv 10) (pe_lst (pa_cons pe_int pa_nil)) (nomark _)))) (fun _ _ _ _ _ => (pv 9))) pa_nil)))
    (pss_one (ps_ret (pe_tup (pa_cons (C8.pe_c c_quotient_of hr (by decide) rfl (pa_cons (pv 4) (pa_cons (pv 5) pa_nil))) (pa_cons (C8.pe_c c_quotient_of hr (by decide) rfl (pa_cons (pv 6) (pa_cons (pv 7) pa_nil))) pa_nil))))))))))))), ?_⟩
  obtain ⟨dx, sa, v, xs, ha, hv, hsa, hxs⟩ := hS.ex
  have hC := T.cl_Seen
  have l4 := hz.l4
  refine ⟨_, rfl, a, _, dx, _, _, rfl, ha, hC, T.n_Seen_sizes, rfl, _, rfl, v, z, sz, t, b, rfl, hv, hz, htx, gt, gb, dt, db, fun qa H1 s1 hq => ?_⟩
  obtain ⟨qs1, qs2, hqa, _, _⟩ := id hq
  refine ⟨_, rfl, qa, _, _, _, rfl, rfl, SqT.of hqa, at_of (j := 0) rfl rfl, rfl, _, rfl, iteFd (by show (!decide (V.str "share" = V.str "share")) = false; rw [sEq]; rfl) ?_⟩
  have ha1 := s1 _ _ ha
  have hsa1 := hsa.sm s1
  refine ⟨_, rfl, a, _, dx, _, _, rfl, ha1, hC, T.n_Seen_shares, rfl, sa, rfl, ⟨_, hsa1.sq⟩, fun D nD => ?_⟩
  refine lcI (walk_tup (xs := xs)) nD (fun H x (r : List Int × Int) => ∃ (p : Addr) (z : V) (k : Addr), x = .ref p ∧ H p = some (.tup [z, .ref k]) ∧ TIn H z (lw r.2 tot) ∧ k ≠ D ∧ H k = some (.lst ((kinds sz t b r.1).map V.int))) (fun i => rs.take i) rfl (fun H' s => (hsa1.sm s).sq) ?_ ?_
  · rintro i x H2 _ hi L ⟨rfl, hx⟩
    obtain ⟨r, hr, p, y, zz, rfl, hp, hy, hzz⟩ := hxs.at_ hx
    have s02 := s1.trans L.sm
    obtain ⟨pt, hpt, hvw⟩ := hR.view r (List.mem_of_getElem? hr)
    refine ⟨p, _, rfl, SqT.of (s02 _ _ hp), rfl, _, _, rfl, _, _, rfl, rfl, rfl, yesI ?_⟩
    refine ⟨_, rfl, _, rfl, a, _, dx, _, _, rfl, s02 _ _ ha, hC, T.n_Seen_sizes, rfl, _, rfl, _, rfl, v, y, qa, sz, r.1, t, b, rfl, hv.tk (sm_tk s02), hz, hy.tk (sm_tk s02), (mem_views.mp hvw).1, hq.sm L.sm, fun k H3 s3 nk hk => ⟨(by show 2 ≤ sizeLine; decide), fun e ne => ?_⟩⟩
    have se := sm_up (o := .tup [zz, V.ref k]) ne
    have kD : k ≠ D := by
      intro e
      obtain ⟨_, acc, hD, _⟩ := L
      rw [e, hD] at nk
      cases nk
    refine L.push ?_ nD (s3.trans se) (x := r) ⟨e, zz, k, rfl, upd_same, ((hzz.tk (sm_tk s02)).tk (sm_tk s3)).tk (sm_tk se), kD, se _ _ hk⟩ (take_snoc hr) ?_
    · rintro G G' acc x r hd bt ⟨p, z, k, e1, e2, e3, e4, e5⟩
      exact ⟨p, z, k, e1, bt.tk hd _ _ e2, e3.tk (bt.tk hd), e4, bt _ _ e4 e5⟩
    · rw [List.length_take]
      have := hR.len
      omega
  intro H2 ys s2 hD hys
  rw [hxs.len, List.take_length] at hys
  have hys : P2 (PKat K sz t b tot H2) ys rs := hys.imp fun x r ⟨p, z, k, e1, e2, e3, _, e5⟩ => ⟨p, z, k, e1, e2, e3, e5⟩
  have s02 := s1.trans s2
  -- all of them know 0
  refine ⟨_, rfl, D, rfl, ⟨_, SqL.of hD⟩, fun D2 nD2 => ?_⟩
  refine lcI (walk_list (xs := ys)) nD2 (fun _ v b => v = V.bl b) (fun i => (rs.take i).map fun r => fZero (kinds sz t b r.1)) rfl (fun H' s => SqL.of (s _ _ hD)) ?_ ?_
  · rintro i x H3 _ hi L ⟨rfl, hx⟩
    obtain ⟨r, hr, hpk⟩ := hys.at_ hx
    obtain ⟨p, zz, k, rfl, hp, hzz, hk⟩ := hpk.sm L.sm
    refine ⟨p, _, rfl, SqT.of hp, rfl, _, _, rfl, _, _, rfl, rfl, rfl, yesI ?_⟩
    refine ⟨_, rfl, k, _, rfl, .inl (SqL.of hk), rfl, flat_ints _, L.push OfT.con.kept nD2 (Same.refl _) (x := fZero (kinds sz t b r.1)) ?_ ?_ ?_⟩
    · show V.bl (inV (.int 0) ((kinds sz t b r.1).map V.int)) = _
      rw [inV_ints]
      rfl
    · rw [take_snoc hr, List.map_append]
      rfl
    · rw [List.length_map, List.length_take]
      have := hR.len
      omega
  intro H3 bs s3 hD2 hbs
  rw [hys.len, List.take_length] at hbs
  have ebs := P2.bls hbs
  subst ebs
  refine ⟨D2, _, rfl, SqL.of hD2, _, rfl, ite2 (fun c => ?_) (fun c => ?_)⟩
  · refine Qk .non H3 (s02.trans s3) ?_
    have e : bnd sz t b rs = none := by
      unfold bnd
      rw [if_pos]
      have c' : (rs.map fun r => fZero (kinds sz t b r.1)).all id = true := c
      rw [List.all_map] at c'
      exact c'
    rw [e]
    rfl
  have c' : ¬ (rs.all fun r => fZero (kinds sz t b r.1)) = true := by
    intro q
    refine c ?_
    show (rs.map fun r => fZero (kinds sz t b r.1)).all id = true
    rw [List.all_map]
    exact q
  have hD3 := s3 _ _ hD
  have hys3 : P2 (PKat K sz t b tot H3) ys rs := hys.imp fun x r q => q.sm s3
  have s03 := s02.trans s3
  have t0 : 0 < tot := by
    rw [← hR.sum]
    cases hrs : rs with
    | nil => rw [hrs] at c'; exact absurd rfl c'
    | cons r rs' =>
      have h1 := hR.pos r (by rw [hrs]; exact List.mem_cons_self)
      have h2 : 0 ≤ (rs'.map (·.2)).sum := by
        have gen : ∀ l : List (List Int × Int), (∀ r ∈ l, 0 < r.2) → 0 ≤ (l.map (·.2)).sum := by
          intro l
          induction l with
          | nil => intro _; exact Int.le_refl 0
          | cons x l ih =>
            intro h
            rw [List.map_cons, List.sum_cons]
            have h1 := h x List.mem_cons_self
            have h2 := ih fun y hy => h y (List.mem_cons_of_mem _ hy)
            omega
        exact gen rs' fun y hy => hR.pos y (by rw [hrs]; exact List.mem_cons_of_mem _ hy)
      rw [List.map_cons, List.sum_cons]
      omega
  have nn : ∀ f, ∀ n ∈ sel sz t b f rs, 0 ≤ n := fun f => sel_nn hR.pos
  have sle : ∀ f, (sel sz t b f rs).sum ≤ tot := fun f => by
    rw [← hR.sum]
    exact sel_le hR.pos
  have top := hR.top
  have tst : ∀ (kk : Int) (σ : L2.St) (H3 : Hp) (k : Addr) (ks : List Int) (Q : Bool → Hp → Prop), σ[10]? = some (some (.ref k)) → H3 k = some (.lst (ks.map V.int)) → (∀ H4, Same H3 H4 → Q (decide (ks = [kk])) H4) → tTest (tOp (rEqD K) (tVar 10) (tLst (tCons (tC (V.int kk)) tNil))) σ H3 Q := by
    intro kk σ H3 k ks Q h1 h2 h3
    refine ⟨_, h1, (by show 1 ≤ sizeLine; decide), fun l nl => ?_⟩
    have sl := sm_up (o := .lst [V.int kk]) nl
    refine ⟨.list (ks.map PyData.int), .list (([kk] : List Int).map PyData.int), lst_dp (sl _ _ h2), lst_dp (ns := [kk]) upd_same, shL ks, shL [kk], _, rfl, ?_⟩
    rw [eqvL]
    exact h3 _ sl
  have tst2 : ∀ (kk : Int) (σ : L2.St) (H3 : Hp) (k : Addr) (ks : List Int) (Q : Bool → Hp → Prop), σ[10]? = some (some (.ref k)) → H3 k = some (.lst (ks.map V.int)) → (∀ H4, Same H3 H4 → Q (decide (kk ∈ ks)) H4) → tTest (tOp (rIn K false) (tC (V.int kk)) (tVar 10)) σ H3 Q := by
    intro kk σ H3 k ks Q h1 h2 h3
    refine ⟨_, h1, k, _, rfl, .inl (SqL.of h2), rfl, flat_ints _, _, rfl, ?_⟩
    have e : (if false then !inV (.int kk) (ks.map V.int) else inV (.int kk) (ks.map V.int)) = decide (kk ∈ ks) := inV_ints kk ks
    have h3' := h3 _ (Same.refl H3)
    rw [← e] at h3'
    exact h3'
  have hl := hR.len
  refine ⟨_, rfl, D, rfl, ⟨_, SqL.of hD3⟩, fun E1 nE1 => ?_⟩
  refine selC (f := fMust) hD3 hys3 nE1 hl (tst 2) fun H4 e1 s4 hE1 hp1 => ?_
  refine ⟨E1, _, _, tot, rfl, SqL.of hE1, hp1.imp fun v n q => q.k, nn _, by have := sle fMust; omega, t0, top, fun mv H5 s5 hmv => ?_⟩
  have s35 := s4.trans s5
  refine ⟨_, rfl, D, rfl, ⟨_, SqL.of (s35 _ _ hD3)⟩, fun E2 nE2 => ?_⟩
  refine selC (f := fAgainst) (s35 _ _ hD3) (hys3.imp fun x r q => q.sm s35) nE2 hl (tst2 1) fun H6 e2 s6 hE2 hp2 => ?_
  refine ⟨E2, _, _, tot, rfl, SqL.of hE2, hp2.imp fun v n q => q.k, nn _, by have := sle fAgainst; omega, t0, top, fun av H7 s7 hav => ?_⟩
  have s57 := s6.trans s7
  have s37 := s35.trans s57
  refine ⟨_, rfl, D, rfl, ⟨_, SqL.of (s37 _ _ hD3)⟩, fun E3 nE3 => ?_⟩
  refine selC (f := fCan) (s37 _ _ hD3) (hys3.imp fun x r q => q.sm s37) nE3 hl (tst2 2) fun H8 e3 s8 hE3 hp3 => ?_
  refine ⟨E3, _, _, tot, rfl, SqL.of hE3, hp3.imp fun v n q => q.k, nn _, by have := sle fCan; omega, t0, top, fun cv H9 s9 hcv => ?_⟩
  have s79 := s8.trans s9
  have s39 := s37.trans s79
  refine ⟨_, rfl, D, rfl, ⟨_, SqL.of (s39 _ _ hD3)⟩, fun E4 nE4 => ?_⟩
  refine selC (f := fSure) (s39 _ _ hD3) (hys3.imp fun x r q => q.sm s39) nE4 hl (tst 1) fun H10 e4 s10 hE4 hp4 => ?_
  refine ⟨E4, _, _, tot, rfl, SqL.of hE4, hp4.imp fun v n q => q.k, nn _, by have := sle fSure; omega, t0, top, fun sv H11 s11 hsv => ?_⟩
  have s911 := s10.trans s11
  -- some row knows no 0
  obtain ⟨r, hr, hr0⟩ : ∃ r ∈ rs, ¬ fZero (kinds sz t b r.1) = true := by
    by_cases q : ∀ r ∈ rs, fZero (kinds sz t b r.1) = true
    · exact absurd (List.all_eq_true.mpr q) c'
    · simp only [Classical.not_forall] at q
      obtain ⟨r, hr, h⟩ := q
      exact ⟨r, hr, h⟩
  obtain ⟨pt, hpt, hvw⟩ := hR.view r hr
  have h12 := ks_12 (kinds_nd (sz := sz) (t := t) (b := b) (v := r.1)) (fun k hk => kinds_r hk) (kinds_ne hz hpt hvw) hr0
  have p1 := sel_pos (sz := sz) (t := t) (b := b) (f := fMust) (g := fAgainst) hR.pos hr h12.1
  have p2 := sel_pos (sz := sz) (t := t) (b := b) (f := fCan) (g := fSure) hR.pos hr h12.2
  have q1 := sel_two (sz := sz) (t := t) (b := b) (f := fMust) (g := fAgainst) hR.pos fun ks => must_against
  have q2 := sel_two (sz := sz) (t := t) (b := b) (f := fCan) (g := fSure) hR.pos fun ks => can_sure
  rw [hR.sum] at q1 q2
  have m0 := sel_sum_nn (sz := sz) (t := t) (b := b) (f := fMust) hR.pos
  have m1 := sel_sum_nn (sz := sz) (t := t) (b := b) (f := fAgainst) hR.pos
  have m2 := sel_sum_nn (sz := sz) (t := t) (b := b) (f := fCan) hR.pos
  have m3 := sel_sum_nn (sz := sz) (t := t) (b := b) (f := fSure) hR.pos
  have s511 := (s57.trans s79).trans s911
  have s711 := s79.trans s911
  refine ⟨_, rfl, _, rfl, mv, av, _, _, tot, rfl, hmv.tk s511, hav.tk s711, m0, m1, p1, by omega, t0, top, fun x H12 s12 hx => ?_⟩
  refine ⟨_, rfl, _, rfl, cv, sv, _, _, tot, rfl, hcv.tk (s911.trans s12), hsv.tk s12, m2, m3, p2, by omega, t0, top, fun y H13 s13 hy => ⟨(by show 2 ≤ sizeLine; decide), fun e ne => ?_⟩⟩
  have se := sm_up (o := .tup [x, y]) ne
  refine Qk _ _ (((((s03.trans s35).trans s511).trans s12).trans s13).trans se) ?_
  have eb : bnd sz t b rs = some (lw (sel sz t b fMust rs).sum ((sel sz t b fMust rs).sum + (sel sz t b fAgainst rs).sum), lw (sel sz t b fCan rs).sum ((sel sz t b fCan rs).sum + (sel sz t b fSure rs).sum)) := by
    unfold bnd
    rw [if_neg c']
  rw [eb]
  exact ⟨e, x, y, rfl, upd_same, (hx.tk (sm_tk s13)).tk (sm_tk se), hy.tk (sm_tk se)⟩

end
end Cb
namespace Cb
open PySem PySem.Spec PyProof.Rows L2
section
variable {P : Program} {w : World} {K : PySem.W.Frag} {mg : Str → Option Value} {base : Heap}
/-! ### contents that a view shows, the law's own -/
theorem negone : (-(1 : Int)) = -1 := rfl
def spShown : Sp := fun vs H Q _ => ∃ (v vv : V) (sz : List Nat) (view : List Int), vs = [v, vv] ∧ TIn H v (isz sz) ∧ Sz4 sz ∧ TIn H vv view ∧ view.length = sz.length ∧ ∀ r H', Same H H' → H r = none → TLs H' r (shownC sz view) → Q (.ref r) H'
theorem inV2_ints (x a b : Int) : inV (.int x) [.int a, .int b] = decide (x = a ∨ x = b) := by
  have h := inV_ints x [a, b]
  show inV (.int x) ([a, b].map V.int) = _
  rw [h]
  simp
abbrev N_L_shown_by : List Str := ["_law_sizes", "_law_view_here", "_law_one", "_law_at"]
theorem sc_L_shown_by : FnScope N_L_shown_by ["_law_sizes", "_law_view_here"] (defScope s_L_shown_by) := ⟨rfl, rfl, rfl, by decide +kernel, rfl, by decide +kernel, by decide +kernel⟩
theorem cal_L_shown_by (T : Txt w K mg) : C8.Cal P w K mg base 2 "_law_shown_by" spShown [] := by
  have c_L_contents := cal_L_contents (P := P) (base := base) T
  refine mkCal T.F_L_shown_by T.g__law_shown_by sc_L_shown_by (fun _ _ _ _ _ _ us hl => match us, hl with | [_, _], _ => rfl) (fun vs H Q E h => ?_) (fun cdv A outer s H vs Q E hr h => ?_)
  · obtain ⟨v, vv, sz, view, rfl, hv, hz, hvv, hvl, Qk⟩ := h
    rfl
  obtain ⟨v, vv, sz, view, rfl, hv, hz, hvv, hvl, Qk⟩ := h
  have nd := sc_L_shown_by.nd
  have hu := hu_of hr
  refine ⟨_, (pss_one (ps_ret (pe_lc (wi := iList K _) (own := [("_law_one", 2)]) (g := gName 2) rfl nd (pi_list (C8.pe_c c_L_contents hr (by decide) rfl (pa_cons (pv 0) pa_nil))) (blkOk_by (N := N_L_shown_by) (sc := defScope s_L_shown_by) (by decide +kernel)) (fun _ _ _ _ _ => (pg_name (i := 2) nd rfl (Or.inr rfl))) (fun _ _ _ _ _ => (pts_one (pt_val (pe_callB (r := rAll K) (cr_all rfl) (by rfl) T.z_all bt_all (pa_cons (pe_lc (own := [("_law_at", 3)]) (g := gName 3) (tt := tYes) rfl nd (pi_range1 (by rfl) T.z_range (pa_cons (pe_callB (r := rLen K) call_len_seq (by rfl) T.z_len bt_len (pa_cons (pv 1) pa_nil)) pa_nil)) (blkOk_by (N := N_L_shown_by) (by rfl)) (fun _ _ _ _ _ => (pg_name (i := 3) nd rfl (Or.inl rfl))) (fun _ _ _ _ _ => pts_nil) (fun _ _ _ _ _ => (pe_cmpR (r := rIn K false) op_in_seq (pe_ix (r := rIxT K) ix_tup (pv 1) (pv 3) (fun _ _ => rfl)) (pe_lst (pa_cons (pe_un un_neg pe_int) (pa_cons (pe_ix (r := rIxT K) ix_tup (pv 2) (pv 3) (fun _ _ => rfl)) pa_nil))) (by rfl)))) pa_nil))))) (fun _ _ _ _ _ => (pv 2))))), ?_⟩
  obtain ⟨va, rfl, hva⟩ := hvv
  have l4 := hz.l4
  have hcl16 : (contents sz).length ≤ 256 := by
    rw [contents_len]
    refine Nat.le_trans (foldl_mul_pow hz.b) ?_
    exact Nat.le_trans (Nat.pow_le_pow_right (n := 4) (by decide) l4) (by decide)
  refine ⟨_, rfl, v, sz, rfl, hv, hz, fun cl H1 s1 ncl hcl => ?_⟩
  obtain ⟨cs, hcl1, hcs⟩ := hcl
  have hva1 := s1 _ _ hva
  refine ⟨cl, rfl, ⟨_, SqL.of hcl1⟩, fun D nD => ?_⟩
  refine lcI (walk_list (xs := cs)) nD TIn (fun i => ((contents sz).take i).filter fun c => decide (viewOf c (patOf view) = view)) rfl (fun H' s => SqL.of (s _ _ hcl1)) ?_ ?_
  rotate_left
  · intro H2 ys s2 hD hys
    rw [hcs.len, List.take_length] at hys
    exact Qk D H2 (s1.trans s2) (s1.free nD) ⟨ys, hD, hys⟩
  rintro i x H2 _ hi L ⟨rfl, hx⟩
  obtain ⟨c, hci, hcx⟩ := hcs.at_ hx
  have hcm := List.mem_of_getElem? hci
  have hcl := (mem_contents.mp hcm).1
  have hcx2 := hcx.tk (sm_tk L.sm)
  obtain ⟨ca, rfl, hca⟩ := hcx2
  have hva2 := L.sm _ _ hva1
  refine ⟨rfl, ?_⟩
  refine ⟨_, rfl, _, _, rfl, .inr (SqT.of hva2), _, rfl, by omega, by rw [List.length_map]; omega, fun D2 nD2 => ?_⟩
  have hn : Int.toNat ((view.map V.int).length : Int) = view.length := by rw [List.length_map]; omega
  refine lcI (walk_range0 (n := Int.toNat ((view.map V.int).length : Int))) nD2 (fun _ v b => v = V.bl b) (fun i => (List.range i).map fun j => decide (view.getD j 0 = -1 ∨ view.getD j 0 = c.getD j 0)) rfl (fun H' s => trivial) ?_ ?_
  · rintro j _ _ H3 hj Lj ⟨rfl, rfl⟩
    rw [hn] at hj
    have hj2 : j < c.length := by omega
    have e1 : (view.map V.int)[j]? = some (.int (view.getD j 0)) := by
      rw [List.getElem?_map, List.getElem?_eq_getElem hj, List.getD_eq_getElem?_getD, List.getElem?_eq_getElem hj]
      rfl
    have e2 : (c.map V.int)[j]? = some (.int (c.getD j 0)) := by
      rw [List.getElem?_map, List.getElem?_eq_getElem hj2, List.getD_eq_getElem?_getD, List.getElem?_eq_getElem hj2]
      rfl
    refine ⟨rfl, yesI ?_⟩
    refine ⟨_, rfl, _, rfl, va, _, _, _, rfl, rfl, SqT.of (Lj.sm _ _ hva2), at_of rfl e1, _, rfl, _, rfl, _, rfl, ca, _, _, _, rfl, rfl, SqT.of (Lj.sm _ _ hca), at_of rfl e2, (by show 2 ≤ sizeLine; decide), fun l nl => ⟨l, _, rfl, .inl (SqL.of upd_same), rfl, rfl, ?_⟩⟩
    refine Lj.push OfT.con.kept nD2 (sm_up nl) (x := decide (view.getD j 0 = -1 ∨ view.getD j 0 = c.getD j 0)) ?_ ?_ ?_
    · show V.bl (inV (.int (view.getD j 0)) [.int (-1), .int (c.getD j 0)]) = _
      rw [inV2_ints]
    · rw [List.range_succ, List.map_append]
      rfl
    · rw [List.length_map, List.length_range]
      omega
  · intro H3 bs s3 hD2 hbs
    have eb := P2.bls hbs
    subst eb
    have hs := shown hcm hvl
    have key : ((List.range (Int.toNat ((view.map V.int).length : Int))).map fun j => decide (view.getD j 0 = -1 ∨ view.getD j 0 = c.getD j 0)).all id = decide (viewOf c (patOf view) = view) := by
      rw [hn]
      by_cases q : viewOf c (patOf view) = view
      · rw [decide_eq_true q, List.all_eq_true]
        intro b hb
        obtain ⟨j, hj, rfl⟩ := List.mem_map.mp hb
        have hj' := List.mem_range.mp hj
        have hj2 : j < c.length := by omega
        refine decide_eq_true (hs.mp q j _ _ ?_ ?_)
        · rw [List.getD_eq_getElem?_getD, List.getElem?_eq_getElem hj']
          rfl
        · rw [List.getD_eq_getElem?_getD, List.getElem?_eq_getElem hj2]
          rfl
      · rw [decide_eq_false q, Bool.eq_false_iff]
        intro hall
        rw [List.all_eq_true] at hall
        refine q (hs.mpr fun j x y hx hy => ?_)
        have hj : j < view.length := (List.getElem?_eq_some_iff.mp hx).1
        have := hall _ (List.mem_map.mpr ⟨j, List.mem_range.mpr hj, rfl⟩)
        have h2 : view.getD j 0 = -1 ∨ view.getD j 0 = c.getD j 0 := of_decide_eq_true this
        rw [List.getD_eq_getElem?_getD, hx, List.getD_eq_getElem?_getD, hy] at h2
        exact h2
    refine ⟨D2, _, rfl, SqL.of hD2, _, rfl, ite2 (fun e => ?_) (fun e => ?_)⟩
    · have e' : decide (viewOf c (patOf view) = view) = true := by rw [← key]; exact e
      refine ⟨_, rfl, L.push OfT.tin.kept nD s3 (x := c) ⟨ca, rfl, s3 _ _ hca⟩ ?_ ?_⟩
      · rw [take_snoc hci, List.filter_append, List.filter_cons_of_pos (by exact e')]
        rfl
      · refine Nat.lt_of_le_of_lt (List.length_filter_le _ _) ?_
        rw [List.length_take]
        omega
    · have e' : ¬ decide (viewOf c (patOf view) = view) = true := by rw [← key]; exact e
      refine L.skip OfT.tin.kept s3 ?_
      rw [take_snoc hci, List.filter_append, List.filter_cons_of_neg (by exact e')]
      exact List.append_nil _
/-! is_due, is_near -/
def spDue (K : PySem.W.Frag) : Sp := fun vs H Q _ => ∃ (x y : V) (ns : List Int), vs = [x, y] ∧ TIn H x ns ∧ TIn H y ns ∧ ns.length = 2 ∧ ∀ H', Same H H' → Q (.bl true) H'
abbrev N_L_is_due : List Str := ["_law_told", "_law_due", "_law_part"]
theorem sc_L_is_due : FnScope N_L_is_due ["_law_told", "_law_due"] (defScope s_L_is_due) := ⟨rfl, rfl, rfl, by decide +kernel, rfl, by decide +kernel, by decide +kernel⟩
theorem cal_L_is_due (T : Txt w K mg) : C8.Cal P w K mg base 1 "_law_is_due" (spDue K) [] := by
  refine mkCal T.F_L_is_due T.g__law_is_due sc_L_is_due (fun _ _ _ _ _ _ us hl => match us, hl with | [_, _], _ => rfl) (fun vs H Q E h => ?_) (fun cdv A outer s H vs Q E hr h => ?_)
  · obtain ⟨x, y, ns, rfl, hx, hy, hl, Qk⟩ := h
    rfl
  obtain ⟨x, y, ns, rfl, hx, hy, hl, Qk⟩ := h
  have nd := sc_L_is_due.nd
  have hu := hu_of hr
  refine ⟨_, (pss_cons (ps_if (pt_cmpR op_isN (pv 1) pe_non (nomark _))
    (pss_one (ps_ret (pe_cmpR op_isN (pv 0) pe_non (nomark _))))
    pss_nil)
    (pss_cons (ps_if (PW.pt (pw_or (pt_not (pt_val (pe_callB (r := rIsi K) call_isi (by rfl) T.z_isinstance bt_isinstance (pa_cons (pv 0) (pa_cons (pe_bltn (v := .ty "tuple") (by rfl) T.z_tuple bt_tuple rfl) pa_nil))))) (pw_or (pt_cmpR op_ne (pe_callB (r := rLen K) call_len_seq (by rfl) T.z_len bt_len (pa_cons (pv 0) pa_nil)) pe_int (nomark _)) (pw_or1 (pt_cmpR (r := rNeD K) (op_neD hr.units) (pv 0) (pv 1) (nomark _))))))
    (pss_one (ps_ret pe_bl))
    pss_nil)
    (pss_one (ps_ret (pe_callB (r := rAll K) (cr_all rfl) (by rfl) T.z_all bt_all (pa_cons (pe_lc (wi := iTup K _) (own := [("_law_part", 2)]) (g := gName 2) (tt := tYes) rfl nd (pi_tup (pv 0)) (blkOk_by (N := N_L_is_due) (sc := defScope s_L_is_due) (by decide +kernel)) (fun _ _ _ _ _ => (pg_name (i := 2) nd rfl (Or.inl rfl))) (fun _ _ _ _ _ => pts_nil) (fun _ _ _ _ _ => (pe_and (pe_callB (r := rIsi K) call_isi (by rfl) T.z_isinstance bt_isinstance (pa_cons (pv 2) (pa_cons (pe_bltn (v := .ty "int") (by rfl) T.z_int bt_int rfl) pa_nil))) (pe_one (pe_not (pe_callB (r := rIsi K) call_isi (by rfl) T.z_isinstance bt_isinstance (pa_cons (pv 2) (pa_cons (pe_bltn (v := .ty "bool") (by rfl) T.z_bool bt_bool rfl) pa_nil)))))))) pa_nil)))))), ?_⟩
  obtain ⟨a, rfl, ha⟩ := id hx
  obtain ⟨b, rfl, hb⟩ := id hy
  have hlen : (ns.map V.int).length = 2 := by rw [List.length_map, hl]
  refine ⟨_, rfl, rfl, _, rfl, iteF ?_⟩
  refine ⟨_, rfl, _, _, _, _, true, rfl, .ty _, ty_tup (SqT.of (K := K) ha), kit_ty (by decide +kernel), _, rfl, iteF ?_⟩
  refine ⟨_, rfl, _, _, rfl, .inr (SqT.of ha), rfl, _, rfl, iteFd (by rw [hlen]; simp) ?_⟩
  refine ⟨_, rfl, _, rfl, _, _, TIn.dp hx, TIn.dp hy, shT _, shT _, _, rfl, iteFd (by rw [eqvT]; simp) ?_⟩
  refine ⟨_, rfl, a, rfl, ⟨_, SqT.of ha⟩, fun D nD => ?_⟩
  refine lcI (walk_tup (xs := ns.map V.int)) nD (fun _ v b => v = V.bl b) (fun i => List.replicate i true) rfl (fun H' s => SqT.of (s _ _ ha)) ?_ ?_
  · rintro i x H2 _ hi L ⟨rfl, hx⟩
    obtain ⟨n, hn, rfl⟩ := map_int_get hx
    refine ⟨rfl, yesI ?_⟩
    refine ⟨_, rfl, _, _, _, _, true, rfl, .ty _, .base (.int n), kit_ty (by decide +kernel), _, rfl, iteT ?_⟩
    refine ⟨_, rfl, _, _, _, _, false, rfl, .ty _, .base (.int n), kit_ty (by decide +kernel), _, rfl, ?_⟩
    exact L.push OfT.con.kept nD (Same.refl _) (x := true) rfl List.replicate_succ' (by rw [List.length_replicate]; omega)
  · intro H2 bs s2 hD hbs
    have eb := P2.bls hbs
    subst eb
    refine ⟨D, _, rfl, SqL.of hD, ?_⟩
    have e : (List.replicate (ns.map V.int).length true).all id = true := by simp
    rw [e]
    exact Qk _ s2
def spNear : Sp := fun vs H Q _ => ∃ (x y : V) (a b c d : Int), vs = [x, y] ∧ TIn H x [a, b] ∧ TIn H y [c, d] ∧ FrB a b ∧ FrB c d ∧ Q (.bl (decide (((a * d - c * b).natAbs : Int) * 1000 ≤ b * d))) H
abbrev N_L_is_near : List Str := ["_law_one", "_law_other", "_law_apart"]
theorem sc_L_is_near : FnScope N_L_is_near ["_law_one", "_law_other"] (defScope s_L_is_near) := ⟨rfl, rfl, rfl, by decide +kernel, rfl, by decide +kernel, by decide +kernel⟩
theorem cal_L_is_near (T : Txt w K mg) : C8.Cal P w K mg base 1 "_law_is_near" spNear [] := by
  refine mkCal T.F_L_is_near T.g__law_is_near sc_L_is_near (fun _ _ _ _ _ _ us hl => match us, hl with | [_, _], _ => rfl) (fun vs H Q E h => ?_) (fun cdv A outer s H vs Q E hr h => ?_)
  · obtain ⟨x, y, a, b, c, d, rfl, ⟨p, rfl, hp⟩, ⟨p', rfl, hp'⟩, f1, f2, Qk⟩ := h
    rfl
  obtain ⟨x, y, a, b, c, d, rfl, ⟨p, rfl, hp⟩, ⟨p', rfl, hp'⟩, f1, f2, Qk⟩ := h
  have nd := sc_L_is_near.nd
  have hu := hu_of hr
  refine ⟨_, (pss_cons (ps_set (i := 2) nd rfl (Or.inl rfl) (pe_callB call_abs (by rfl) T.z_abs bt_abs (pa_cons (pe_op op_sub (pe_op op_mul (pe_ix (r := rIxT K) ix_tup (pv 0) pe_int (fun _ _ => rfl)) (pe_ix (r := rIxT K) ix_tup (pv 1) pe_int (fun _ _ => rfl))) (pe_op op_mul (pe_ix (r := rIxT K) ix_tup (pv 1) pe_int (fun _ _ => rfl)) (pe_ix (r := rIxT K) ix_tup (pv 0) pe_int (fun _ _ => rfl)))) pa_nil)))
    (pss_one (ps_ret (pe_cmpR op_le (pe_op op_mul (pv 2) pe_int) (pe_op op_mul (pe_ix (r := rIxT K) ix_tup (pv 0) pe_int (fun _ _ => rfl)) (pe_ix (r := rIxT K) ix_tup (pv 1) pe_int (fun _ _ => rfl))) (nomark _))))), ?_⟩
  have b0 := f1.2.1
  have d0 := f2.2.1
  have b1 := f1.2.2
  have d1 := f2.2.2
  refine ⟨_, rfl, p, _, _, _, rfl, rfl, SqT.of (xs := [a, b].map V.int) hp, at_of (j := 0) rfl rfl, _, rfl, p', _, _, _, rfl, rfl, SqT.of (xs := [c, d].map V.int) hp', at_of (j := 1) rfl rfl, _, _, rfl, rfl, mulL f1.1, ?_⟩
  refine ⟨_, rfl, p', _, _, _, rfl, rfl, SqT.of (xs := [c, d].map V.int) hp', at_of (j := 0) rfl rfl, _, rfl, p, _, _, _, rfl, rfl, SqT.of (xs := [a, b].map V.int) hp, at_of (j := 1) rfl rfl, _, _, rfl, rfl, mulL f2.1, _, _, rfl, rfl, _, rfl, ?_⟩
  rw [abs_eq]
  refine ⟨_, rfl, _, _, rfl, rfl, .inr ⟨by decide, by decide⟩, ?_⟩
  refine ⟨_, rfl, p, _, _, _, rfl, rfl, SqT.of (xs := [a, b].map V.int) hp, at_of (j := 1) rfl rfl, _, rfl, p', _, _, _, rfl, rfl, SqT.of (xs := [c, d].map V.int) hp', at_of (j := 1) rfl rfl, _, _, rfl, rfl, mulL (by omega), _, _, rfl, rfl, Qk⟩

end
end Cb
/-! sets of tuples of ints, as many as there are: tables of any power of two -/
namespace CbT
open PySem PySem.Spec PyProof.Rows L2
/-! ### x to 5x+1 meets every rest modulo a power of two -/
def it : Nat → Nat → Nat
  | 0, x => x
  | n + 1, x => 5 * it n x + 1
theorem it_add (x : Nat) (b : Nat) : ∀ a, it (a + b) x = it a (it b x)
  | 0 => by rw [Nat.zero_add]; rfl
  | a + 1 => by
    rw [Nat.succ_add]
    show 5 * it (a + b) x + 1 = 5 * it a (it b x) + 1
    rw [it_add x b a]
theorem it_two (k : Nat) : ∃ c, c % 2 = 1 ∧ ∀ x, it (2 ^ k) x = x + 2 ^ k * (c * (4 * x + 1)) := by
  induction k with
  | zero => exact ⟨1, rfl, fun x => by show 5 * x + 1 = x + 1 * (1 * (4 * x + 1)); omega⟩
  | succ k ih =>
    obtain ⟨c, hc, h⟩ := ih
    refine ⟨c * (1 + 2 * (2 ^ k * c)), by rw [Nat.mul_mod, hc, Nat.add_mul_mod_self_left], fun x => ?_⟩
    have e : (2 : Nat) ^ (k + 1) = 2 ^ k + 2 ^ k := by rw [Nat.pow_succ]; omega
    rw [e, it_add, h x, h]
    generalize (2 : Nat) ^ k = P
    grind
theorem meets_all (k : Nat) : ∀ x j : Nat, ∃ n, n < 2 ^ k ∧ it n x % 2 ^ k = j % 2 ^ k := by
  induction k with
  | zero => intro x j; exact ⟨0, by decide, by rw [Nat.pow_zero, Nat.mod_one, Nat.mod_one]⟩
  | succ k ih =>
    intro x j
    obtain ⟨n, hn, e⟩ := ih x j
    obtain ⟨c, hc, h⟩ := it_two k
    have hP : 0 < 2 ^ k := Nat.pow_pos (by decide)
    have hb := h (it n x)
    rw [← it_add] at hb
    have ho : (c * (4 * it n x + 1)) % 2 = 1 := by
      rw [Nat.mul_mod, hc]
      omega
    obtain ⟨y, hy⟩ : ∃ y, y = it n x := ⟨_, rfl⟩
    obtain ⟨P, hp⟩ : ∃ P, P = 2 ^ k := ⟨_, rfl⟩
    rw [← hy] at e hb ho
    rw [← hp] at hn e hb hP
    rw [Nat.pow_succ, ← hp]
    have mm : ∀ z, z % (P * 2) = z % P + P * (z / P % 2) := fun z => Nat.mod_mul
    by_cases q : y / P % 2 = j / P % 2
    · refine ⟨n, by omega, ?_⟩
      rw [← hy, mm, mm, e, q]
    · refine ⟨P + n, by omega, ?_⟩
      rw [hb]
      generalize c * (4 * y + 1) = o at ho
      rw [mm, mm, Nat.add_mul_mod_self_left, e, Nat.add_mul_div_left _ _ hP]
      have : (y / P + o) % 2 = j / P % 2 := by omega
      rw [this]
/-! ### tables' masks -/
/-- one below a power of two -/
def Pow2 (m : Nat) : Prop := ∃ k, 3 ≤ k ∧ m + 1 = 2 ^ k
theorem Pow2.odd {m : Nat} (h : Pow2 m) : m % 2 = 1 := by
  obtain ⟨k, hk, e⟩ := h
  obtain ⟨r, rfl⟩ : ∃ r, k = r + 1 := ⟨k - 1, by omega⟩
  rw [Nat.pow_succ] at e
  omega
theorem lcg_it {m : Nat} {i : Nat} (hi : i ≤ m) : ∀ n, lcgI m i n = it n i % (m + 1)
  | 0 => (Nat.mod_eq_of_lt (Nat.lt_succ_of_le hi)).symm
  | n + 1 => by
    show (lcgI m i n * 5 + 1) % (m + 1) = (5 * it n i + 1) % (m + 1)
    rw [lcg_it hi n, Nat.add_mod, Nat.mul_mod, Nat.mod_mod, ← Nat.mul_mod, ← Nat.add_mod, Nat.mul_comm]
theorem lcg_add (m i a : Nat) : ∀ b, lcgI m (lcgI m i a) b = lcgI m i (a + b)
  | 0 => rfl
  | b + 1 => by
    show (lcgI m (lcgI m i a) b * 5 + 1) % (m + 1) = (lcgI m i (a + b) * 5 + 1) % (m + 1)
    rw [lcg_add m i a b]
theorem cover {m : Nat} (g : Pow2 m) {i j : Nat} (hi : i ≤ m) (hj : j ≤ m) : ∃ n, n ≤ m ∧ lcgI m i n = j := by
  obtain ⟨k, _, e⟩ := g
  obtain ⟨n, hn, h⟩ := meets_all k i j
  refine ⟨n, by omega, ?_⟩
  rw [lcg_it hi, e, h, ← e, Nat.mod_eq_of_lt (Nat.lt_succ_of_le hj)]
/-- within a round no two are the same -/
theorem apart {m : Nat} (g : Pow2 m) {i : Nat} (hi : i ≤ m) {a b : Nat} (hab : a < b) (hb : b ≤ m) : lcgI m i a ≠ lcgI m i b := by
  intro e
  have back : ∀ n, ∃ n', n' < b ∧ lcgI m i n = lcgI m i n' := by
    intro n
    induction n using Nat.strongRecOn with
    | ind n ih =>
      by_cases h : n < b
      · exact ⟨n, h, rfl⟩
      · obtain ⟨r, rfl⟩ : ∃ r, n = b + r := ⟨n - b, by omega⟩
        obtain ⟨n', h1, h2⟩ := ih (a + r) (by omega)
        refine ⟨n', h1, ?_⟩
        rw [← h2, ← lcg_add, ← e, lcg_add]
  have h := nat_nodup_len (List.range (m + 1)) ((List.range b).map fun n => lcgI m i n) List.nodup_range fun j hj => by
    obtain ⟨n, _, e1⟩ := cover g hi (Nat.le_of_lt_succ (List.mem_range.mp hj))
    obtain ⟨n', h1, h2⟩ := back n
    exact List.mem_map.mpr ⟨n', List.mem_range.mpr h1, by rw [← h2]; exact e1⟩
  rw [List.length_range, List.length_map, List.length_range] at h
  omega
/-- soon a run begins at a slot that is not in pl -/
theorem fresh_run {m : Nat} (g : Pow2 m) (h : Int) (pl : List Nat) (hl : pl.length ≤ m) : ∃ n, n ≤ 12 + pl.length ∧ runI m (SetTable.bits h) n ∉ pl := by
  rcases Classical.em (∃ n, n ≤ 12 + pl.length ∧ runI m (SetTable.bits h) n ∉ pl) with c | c
  · exact c
  · exfalso
    have all : ∀ n, n ≤ 12 + pl.length → runI m (SetTable.bits h) n ∈ pl := fun n hn => by
      rcases Classical.em (runI m (SetTable.bits h) n ∈ pl) with q | q
      · exact q
      · exact absurd ⟨n, hn, q⟩ c
    have nd : ((List.range (pl.length + 1)).map fun k => lcgI m (runI m (SetTable.bits h) 12) k).Nodup := by
      refine List.pairwise_map.mpr ?_
      refine List.Pairwise.imp_of_mem (fun {a b} _ hb hlt => ?_) List.pairwise_lt_range
      exact apart g (runI_le _ _ _) hlt (by have := List.mem_range.mp hb; omega)
    have := nat_nodup_len _ pl nd fun x hx => by
      obtain ⟨k, hk, rfl⟩ := List.mem_map.mp hx
      rw [← runI_tail (bits_lt h)]
      exact all _ (by have := List.mem_range.mp hk; omega)
    rw [List.length_map, List.length_range] at this
    omega
/-- any slot begins a run -/
theorem any_run {m : Nat} (g : Pow2 m) (h : Int) {j : Nat} (hj : j ≤ m) : ∃ n, n ≤ m + 12 ∧ runI m (SetTable.bits h) n = j := by
  obtain ⟨k, hk, e⟩ := cover g (runI_le m (SetTable.bits h) 12) hj
  refine ⟨12 + k, by omega, ?_⟩
  rw [runI_tail (bits_lt h)]
  exact e
/-! ### tables -/
structure TabG (t : SetTable) (hs : List Int) : Prop where
  ris : Ris t.place.toList
  dm : t.dummies = #[]
  sz : t.place.size = hs.length
  g : Pow2 t.mask
  fnd : ∀ (i : Nat) (h : Int) (j : Nat), hs[i]? = some h → t.place.toList[i]? = some j → ∃ k, way t.mask h k = j ∧ ∀ k', k' < k → way t.mask h k' ∈ t.place.toList
section
variable {t : SetTable} {hs : List Int}
theorem TabG.len (T : TabG t hs) : t.place.toList.length = hs.length := by
  rw [Array.length_toList]
  exact T.sz
/-- the way's first empty slot -/
theorem TabG.gap (T : TabG t hs) (hl : hs.length ≤ t.mask) (h : Int) : ∃ q, q ≤ 10 * (12 + hs.length) ∧ way t.mask h q ∉ t.place.toList ∧ ∀ k, k < q → way t.mask h k ∈ t.place.toList := by
  obtain ⟨n, hn, e⟩ := fresh_run T.g h t.place.toList (by rw [T.len]; exact hl)
  rw [T.len] at hn
  obtain ⟨k, hk, e2⟩ := run_nth t.mask (SetTable.bits h) n
  have hw : way t.mask h k = runI t.mask (SetTable.bits h) n := congrArg SetTable.Probe.j e2
  obtain ⟨q, q1, q2, q3⟩ := st_least (p := fun k => way t.mask h k ∉ t.place.toList) k (by rw [hw]; exact e)
  refine ⟨q, by omega, q2, fun k' hk' => ?_⟩
  exact Classical.not_not.mp (q3 k' hk')
theorem TabG.ahead (T : TabG t hs) {h : Int} {q i j : Nat} (hq : way t.mask h q ∉ t.place.toList) (hi : hs[i]? = some h) (hj : t.place.toList[i]? = some j) : ∃ k, k < q ∧ way t.mask h k = j := by
  obtain ⟨k, e, below⟩ := T.fnd i h j hi hj
  refine ⟨k, Nat.lt_of_not_le fun c => ?_, e⟩
  rcases Nat.eq_or_lt_of_le c with z | z
  · subst z
    exact hq (by rw [e]; exact List.mem_of_getElem? hj)
  · exact hq (below q z)
theorem way_in (m : Nat) (h : Int) (k : Nat) : way m h k ≤ m := by
  have b := nth_in (m := m) k (runAt m (SetTable.bits h % (m + 1)) (SetTable.bits h)) (by
    have r := runEnd_bd (m := m) (i := SetTable.bits h % (m + 1)) (Nat.le_of_lt_succ (Nat.mod_lt _ (Nat.succ_pos _)))
    show SetTable.bits h % (m + 1) + (SetTable.runEnd m (SetTable.bits h % (m + 1)) - SetTable.bits h % (m + 1)) ≤ m
    omega)
  exact Nat.le_trans (Nat.le_add_right _ _) b
/-- one more, at the gap -/
theorem TabG.put (T : TabG t hs) {h : Int} {q j : Nat} (ej : way t.mask h q = j) (hq : j ∉ t.place.toList) (hb : ∀ k, k < q → way t.mask h k ∈ t.place.toList) :
    SetTable.below t.place j ≤ hs.length ∧ TabG (t.put j).1 (hs.take (SetTable.below t.place j) ++ h :: hs.drop (SetTable.below t.place j)) ∧ (t.put j).1.fill = hs.length + 1 := by
  have cut := (below_cut T.ris j).1
  generalize hp : SetTable.below t.place j = p at cut ⊢
  have pl := put_place t j
  rw [hp] at pl
  have p1 : p ≤ t.place.toList.length := by rw [Array.length_toList]; exact cut
  have p2 : p ≤ hs.length := by rw [← T.len]; exact p1
  have new : t.place[p]? ≠ some j := fun e => hq (List.mem_of_getElem? (Array.getElem?_toList.trans e))
  have size : (t.put j).1.place.size = hs.length + 1 := by
    rw [← Array.length_toList, pl, len_ins _ p1, T.len]
  have keep : ∀ x, x ∈ t.place.toList → x ∈ (t.put j).1.place.toList := fun x hx => by rw [pl]; exact mem_ins.2 (.inr hx)
  have old : ∀ (i : Nat) (h' : Int) (j' : Nat), hs[i]? = some h' → t.place.toList[i]? = some j' → ∃ k, way t.mask h' k = j' ∧ ∀ k', k' < k → way t.mask h' k' ∈ (t.put j).1.place.toList := fun i h' j' a b => by
    obtain ⟨k, e, z⟩ := T.fnd i h' j' a b
    exact ⟨k, e, fun k' c => keep _ (z k' c)⟩
  refine ⟨p2, ⟨?_, put_dm T.dm j, ?_, T.g, ?_⟩, ?_⟩
  · have r := ris_insert T.ris (j := j) (by rw [hp]; exact new)
    exact r
  · rw [size, len_ins _ p2]
  · intro i h' j' a b
    rw [tins_get hs p2] at a
    rw [pl, tins_get _ p1] at b
    split at a
    · rename_i c
      rw [if_pos c] at b
      exact old i h' j' a b
    · rename_i c
      rw [if_neg c] at b
      split at a
      · rename_i d
        rw [if_pos d] at b
        cases a
        cases b
        exact ⟨q, ej, fun k' c => keep _ (hb k' c)⟩
      · rename_i d
        rw [if_neg d] at b
        exact old (i - 1) h' j' a b
  · show (t.put j).1.place.size + (t.put j).1.dummies.size = _
    rw [size, put_dm T.dm j]
    rfl
end
/-! ### laid anew -/
theorem spot {m : Nat} (g : Pow2 m) (owner : Array (Option Nat)) (h : Int) {j : Nat} (hj : j ≤ m) (hf : oAt owner j = none) :
    ∃ q, SetTable.layClean.free m owner (SetTable.turns m) (SetTable.bits h % (m + 1)) (SetTable.bits h) = some (way m h q) ∧ oAt owner (way m h q) = none ∧ ∀ k, k < q → oAt owner (way m h k) ≠ none := by
  obtain ⟨n, hn, e⟩ := any_run g h hj
  generalize hO : off m (SetTable.bits h % (m + 1)) (SetTable.bits h) n = O
  have at_ : way m h O = j := by
    have e1 := nth_off m n (SetTable.bits h % (m + 1)) (SetTable.bits h)
    rw [itL_run, hO] at e1
    exact (congrArg SetTable.Probe.j e1).trans e
  obtain ⟨q, q1, q2, q3⟩ := st_least (p := fun k => oAt owner (way m h k) = none) O (by rw [at_]; exact hf)
  have fuel : n < SetTable.turns m := by unfold SetTable.turns; omega
  refine ⟨q, free_spec m owner _ n _ _ q fuel (by rw [hO]; exact q1) (fun k hk => ?_) ?_, q2, q3⟩
  · cases z : oAt owner (way m h k) with
    | none => exact absurd z (q3 k hk)
    | some v => rfl
  · rw [show oAt owner (nth m (runAt m (SetTable.bits h % (m + 1)) (SetTable.bits h)) q).j = none from q2]
    rfl
theorem own_more {m : Nat} (g : Pow2 m) {done : List Int} {owner : Array (Option Nat)} (O : Own m done owner) (hl : done.length ≤ m) (h : Int) :
    ∃ j, SetTable.layClean.free m owner (SetTable.turns m) (SetTable.bits h % (m + 1)) (SetTable.bits h) = some j ∧ Own m (done ++ [h]) (owner.setIfInBounds j (some done.length)) := by
  obtain ⟨ps, hps, hin⟩ := O.ps
  obtain ⟨j0, h0, n0⟩ := st_missing ps (m + 1) (by omega)
  have free0 : oAt owner j0 = none := by
    cases z : oAt owner j0 with
    | none => rfl
    | some v => exact absurd (hin j0 (by omega) (by rw [z]; intro c; cases c)) n0
  obtain ⟨q, e, hq, occ⟩ := spot g owner h (j := j0) (by omega) free0
  have inb := way_in m h q
  generalize hw : way m h q = j at e hq inb
  have jlt : j < owner.size := by rw [O.sz]; omega
  have me := oAt_set_self (some done.length) jlt
  have other : ∀ i, i ≠ j → oAt (owner.setIfInBounds j (some done.length)) i = oAt owner i := fun i hi => oAt_set_ne _ hi
  have still : ∀ i, oAt owner i ≠ none → oAt (owner.setIfInBounds j (some done.length)) i ≠ none := fun i hi => by
    by_cases c : i = j
    · rw [c, me]
      intro z
      cases z
    · rw [other i c]
      exact hi
  have len1 : (done ++ [h]).length = done.length + 1 := by rw [List.length_append]; rfl
  refine ⟨j, e, ⟨by rw [Array.size_setIfInBounds]; exact O.sz, ?_, ?_, j :: ps, by rw [List.length_cons, hps, len1], ?_⟩⟩
  · intro i k hi ek
    by_cases c : i = j
    · rw [c, me] at ek
      cases ek
      exact ⟨h, q, by rw [List.getElem?_append_right (Nat.le_refl _), Nat.sub_self]; rfl, by rw [c]; exact hw, fun k' hk' => still _ (occ k' hk')⟩
    · rw [other i c] at ek
      obtain ⟨h', q', a1, a2, a3⟩ := O.at_ i k hi ek
      exact ⟨h', q', by rw [List.getElem?_append_left (List.getElem?_eq_some_iff.mp a1).1]; exact a1, a2, fun k' hk' => still _ (a3 k' hk')⟩
  · intro k hk
    by_cases c : k < done.length
    · obtain ⟨i, hi, ei⟩ := O.all k c
      refine ⟨i, hi, ?_⟩
      rw [other i (fun z => by rw [z, hq] at ei; cases ei)]
      exact ei
    · have : k = done.length := by omega
      exact ⟨j, inb, by rw [me, this]⟩
  · intro i hi ei
    by_cases c : i = j
    · rw [c]
      exact List.mem_cons_self
    · rw [other i c] at ei
      exact List.mem_cons_of_mem _ (hin i hi ei)
theorem lay_all {m : Nat} (g : Pow2 m) (rest : List Int) : ∀ (done : List Int) (owner : Array (Option Nat)), Own m done owner → done.length + rest.length ≤ m →
    ∃ o2 n2, rest.foldl (stepF m) (some (owner, done.length)) = some (o2, n2) ∧ Own m (done ++ rest) o2 := by
  induction rest with
  | nil => intro done owner O _; exact ⟨owner, done.length, rfl, by rw [List.append_nil]; exact O⟩
  | cons h rest ih =>
    intro done owner O hl
    rw [List.length_cons] at hl
    obtain ⟨j, e, O1⟩ := own_more g O (by omega) h
    have len1 : (done ++ [h]).length = done.length + 1 := by rw [List.length_append]; rfl
    obtain ⟨o2, n2, e2, O2⟩ := ih (done ++ [h]) _ O1 (by rw [len1]; omega)
    rw [List.append_assoc] at O2
    rw [len1] at e2
    exact ⟨o2, n2, by rw [List.foldl_cons, stepF_some e]; exact e2, O2⟩
theorem lay_ok {m : Nat} (g : Pow2 m) (hs : Array Int) (hn : hs.size ≤ m) : ∃ owner, SetTable.layClean m hs = some owner ∧ Own m hs.toList owner := by
  obtain ⟨o2, n2, e, O⟩ := lay_all g hs.toList [] _ (Own.init m) (by show 0 + hs.toList.length ≤ m; rw [Nat.zero_add]; exact hn)
  refine ⟨o2, ?_, O⟩
  rw [layClean_eq]
  rw [show (some (Array.replicate (m + 1) none, 0) : Option (Array (Option Nat) × Nat)) = some (Array.replicate (m + 1) none, ([] : List Int).length) from rfl, e]
  rfl
theorem relay_ok (t : SetTable) (hs : Array Int) {wanted m : Nat} (hw : SetTable.sizeAbove wanted - 1 = m) (g : Pow2 m) (hn : hs.size ≤ m) :
    ∃ t' order, t.relaid hs wanted = some (t', order) ∧ order.toList.Perm (List.range hs.size) ∧ TabG t' (order.toList.map fun i => hs.getD i 0) ∧ t'.mask = m ∧ t'.led = t.led ∧ t'.plain = t.plain := by
  obtain ⟨owner, e, O⟩ := lay_ok g hs hn
  have live : ∀ {j k : Nat}, (j, k) ∈ liveOf m owner ↔ j ≤ m ∧ oAt owner j = some k := mem_live O.sz
  obtain ⟨r1, r2⟩ : Ris ((liveOf m owner).map (·.1)) ∧ ∀ x ∈ (liveOf m owner).map (·.1), x ∈ List.range (m + 1) := ris_live (fun j => owner.getD j none) (List.range (m + 1)) (by unfold Ris; exact List.pairwise_lt_range)
  have count : (liveOf m owner).length = hs.size := by
    obtain ⟨ps, p1, p2⟩ := O.ps
    have le := nat_nodup_len _ ps (List.Pairwise.imp (fun h => Nat.ne_of_lt h) r1) fun x hx => by
      obtain ⟨⟨y, k⟩, hq, rfl⟩ := List.mem_map.mp hx
      obtain ⟨b1, b2⟩ := live.1 hq
      exact p2 y b1 (by rw [b2]; intro z; cases z)
    have ge := nat_nodup_len (List.range hs.size) ((liveOf m owner).map (·.2)) List.nodup_range fun k hk => by
      obtain ⟨j, b1, b2⟩ := O.all k (by rw [Array.length_toList]; exact List.mem_range.mp hk)
      exact List.mem_map.mpr ⟨(j, k), live.2 ⟨b1, b2⟩, rfl⟩
    rw [List.length_map, p1] at le
    rw [List.length_map, List.length_range] at ge
    exact Nat.le_antisymm le ge
  refine ⟨tabOf t m owner, ((liveOf m owner).map (·.2)).toArray, ?_, ?_, ⟨r1, rfl, ?_, g, ?_⟩, rfl, rfl, rfl⟩
  · rw [relaid_eq, hw, e]
    rfl
  · refine perm_range hs.size _ (by rw [List.length_map]; exact count) fun k hk => ?_
    obtain ⟨j, b1, b2⟩ := O.all k (by rw [Array.length_toList]; exact hk)
    exact List.mem_map.mpr ⟨(j, k), live.2 ⟨b1, b2⟩, rfl⟩
  · show ((liveOf m owner).map (·.1)).toArray.size = _
    simp
  · intro i h j a b
    have b' : ((liveOf m owner).map (·.1))[i]? = some j := b
    have a' : (((liveOf m owner).map (·.2)).map fun i => hs.getD i 0)[i]? = some h := a
    rw [List.getElem?_map] at b'
    rw [List.getElem?_map, List.getElem?_map] at a'
    obtain ⟨⟨y, k⟩, hq, rfl⟩ := Option.map_eq_some_iff.mp b'
    rw [hq] at a'
    obtain ⟨b1, b2⟩ := live.1 (List.mem_of_getElem? hq)
    obtain ⟨h0, q, c1, c2, c3⟩ := O.at_ y k b1 b2
    have eh : h0 = h := by
      have : hs.getD k 0 = h0 := by
        rw [Array.getD_eq_getD_getElem?, ← Array.getElem?_toList, c1]
        rfl
      rw [← this]
      exact Option.some.inj a'
    subst eh
    refine ⟨q, c2, fun k' hk' => ?_⟩
    show way m h0 k' ∈ (liveOf m owner).map (·.1)
    obtain ⟨v, hv⟩ := Option.ne_none_iff_exists'.mp (c3 k' hk')
    exact List.mem_map.mpr ⟨(way m h0 k', v), live.2 ⟨way_in m h0 k', hv⟩, rfl⟩
/-- the size that is taken: a power of two, above n, not above its double -/
theorem size_go (n : Nat) : ∀ (f s : Nat), (∃ k, 3 ≤ k ∧ s = 2 ^ k) → n < s * 2 ^ f → (∃ k, 3 ≤ k ∧ SetTable.sizeAbove.go n f s = 2 ^ k) ∧ n < SetTable.sizeAbove.go n f s ∧ (SetTable.sizeAbove.go n f s ≤ s ∨ SetTable.sizeAbove.go n f s ≤ 2 * n)
  | 0, s, hs, hn => ⟨hs, (by show n < s; simpa using hn), .inl (Nat.le_refl _)⟩
  | f + 1, s, ⟨k, hk, e⟩, hn => by
    unfold SetTable.sizeAbove.go
    by_cases c : s ≤ n
    · rw [if_pos c]
      obtain ⟨a1, a2, a3⟩ := size_go n f (s * 2) ⟨k + 1, by omega, by rw [e, Nat.pow_succ]⟩ (by rw [Nat.pow_succ] at hn; rw [Nat.mul_assoc, Nat.mul_comm 2]; exact hn)
      refine ⟨a1, a2, .inr ?_⟩
      rcases a3 with h | h <;> omega
    · rw [if_neg c]
      exact ⟨⟨k, hk, e⟩, by omega, .inl (Nat.le_refl _)⟩
theorem size_ok {n : Nat} (h : n < 2 ^ 60) : Pow2 (SetTable.sizeAbove n - 1) ∧ n < SetTable.sizeAbove n ∧ (SetTable.sizeAbove n ≤ 8 ∨ SetTable.sizeAbove n ≤ 2 * n) := by
  obtain ⟨⟨k, hk, e⟩, a2, a3⟩ := size_go n 64 8 ⟨3, Nat.le_refl _, rfl⟩ (by omega)
  refine ⟨⟨k, hk, ?_⟩, a2, a3⟩
  show SetTable.sizeAbove n - 1 + 1 = _
  have : SetTable.sizeAbove n = 2 ^ k := e
  have p := Nat.pow_pos (n := k) (show 0 < 2 by decide)
  omega
end CbT
/-! sets of tuples of ints: search, add -/
namespace CbT
open PySem PySem.Spec PyProof.Rows L2
structure SetG (P : Program) (w : World) (h : Heap) (a : Addr) (L : List (Addr × List Int)) (es : Array (Int × Value)) (ep : Nat) (t : SetTable) : Prop where
  ob : ∃ o, h.get? a = some o ∧ o.ExactSet ∧ o.data = .set es ep t
  rows : es.toList = rowsOf P w L
  tab : TabG t (L.map fun p => thash P w p.2)
  nd : (L.map (·.2)).Nodup
  tup : ∀ p ∈ L, IsT P w h p.2 p.1
  plain : t.plain = true
  led : w.params.followText "set-order" = true ∨ t.led = true
  room : L.length * 5 < t.mask * 3
  few : L.length ≤ 9000
abbrev pr (m : Nat) (h : Int) (c : Nat) : SetTable.Probe := nth m (runAt m (SetTable.bits h % (m + 1)) (SetTable.bits h)) c
theorem pr_dummy (m : Nat) (h : Int) (c : Nat) : (pr m h c).dummy = none := by
  have gen : ∀ (n : Nat) (p : SetTable.Probe), p.dummy = none → (nth m p n).dummy = none := fun n => by
    induction n with
    | zero => exact fun p e => e
    | succ n ih => exact fun p e => ih _ (by unfold adv; split <;> exact e)
  exact gen c _ rfl
theorem pr_add (m : Nat) (h : Int) (c q : Nat) : nth m (pr m h c) q = pr m h (c + q) := (nth_add m c _ q).symm
section
variable {P : Program} {w : World} {A : Around} {E : Value → Shared → Prop} {s : Shared} {a : Addr} {L : List (Addr × List Int)} {es : Array (Int × Value)} {ep : Nat} {t : SetTable}
theorem SetG.size (R : SetG P w s.heap a L es ep t) : es.size = L.length := by
  have e := congrArg List.length R.rows
  rw [Array.length_toList, show (rowsOf P w L).length = L.length from List.length_map _] at e
  exact e
theorem SetG.psz (R : SetG P w s.heap a L es ep t) : t.place.toList.length = L.length := by
  rw [R.tab.len, List.length_map]
theorem SetG.fits (R : SetG P w s.heap a L es ep t) : t.fits es.size = true := by
  have e1 := R.psz
  have e2 := R.size
  have e3 := R.room
  rw [Array.length_toList] at e1
  unfold SetTable.fits SetTable.fill
  rw [R.tab.dm, Bool.and_eq_true, beq_iff_eq, decide_eq_true_eq]
  refine ⟨by omega, ?_⟩
  show t.place.size + 0 ≤ t.mask
  omega
theorem SetG.entry (R : SetG P w s.heap a L es ep t) {i : Nat} {p : Addr × List Int} (h : L[i]? = some p) : es[i]? = some (thash P w p.2, Value.ref p.1) := by
  rw [← Array.getElem?_toList, R.rows]
  show (L.map _)[i]? = _
  rw [List.getElem?_map, h]
  rfl
theorem SetG.calm (R : SetG P w s.heap a L es ep t) : ¬ t.gaveWay = true := by
  have e := R.tab.g.odd
  unfold SetTable.gaveWay
  rw [e]
  decide
theorem search (R : SetG P w s.heap a L es ep t) {x : Addr} {k : List Int} (hx : IsT P w s.heap k x) (hu : A.units < cLine) {q : Nat} (hq : way t.mask (thash P w k) q ∉ t.place.toList)
    (hqb : ∀ c, c < q → way t.mask (thash P w k) c ∈ t.place.toList) (hqf : q < 10 * SetTable.turns t.mask) {Q : SetFound → Shared → Prop}
    (hin : k ∈ L.map (·.2) → Q (.there none) s) (hout : k ∉ L.map (·.2) → Q (.free (way t.mask (thash P w k) q) false) s) :
    ∀ (f c : Nat) (stand : Option SetTable.Probe), stand.getD (t.probeStart (thash P w k)) = pr t.mask (thash P w k) c → c ≤ q → q - c < f →
      (∀ (i : Nat) (p : Addr × List Int), L[i]? = some p → p.2 = k → ∃ c', c ≤ c' ∧ c' < q ∧ t.place.toList[i]? = some (way t.mask (thash P w k) c')) →
      wpAny (model P w) A (setSearchFrom a (.ref x) (thash P w k) true f stand) Q E s := by
  intro f
  induction f with
  | zero => intro c stand _ _ hf; omega
  | succ f ih =>
    intro c stand hst hc hf hall
    obtain ⟨o, ho, hex, hd⟩ := R.ob
    have hashAt : ∀ (i : Nat) (p : Addr × List Int), L[i]? = some p → (fun i => (es[i]?.map (·.1)).getD 0) i = thash P w p.2 := fun i p hp => by
      show (es[i]?.map (·.1)).getD 0 = _
      rw [R.entry hp]
      rfl
    have jat : ∀ d, (nth t.mask (pr t.mask (thash P w k) c) d).j = way t.mask (thash P w k) (c + d) := fun d => congrArg SetTable.Probe.j (pr_add t.mask (thash P w k) c d)
    rw [setSearchFrom_succ]
    refine wpAny_bind (wpAny_setState_of ho hd R.fits ?_)
    dsimp only
    refine wp_if_neg R.calm ?_
    try refine wpAny_bind (wpAny_pure ?_)
    have seen := go_spec t R.tab.ris R.tab.dm (fun i => (es[i]?.map (·.1)).getD 0) (thash P w k) (10 * SetTable.turns t.mask) (q - c) (pr t.mask (thash P w k) c) (pr_dummy _ _ _) (by omega)
      (fun d hd' => by rw [jat]; exact hqb _ (by omega)) (by rw [jat, show c + (q - c) = q by omega]; exact hq)
    rcases seen with ⟨d, i, hdq, hi, _, hno, e⟩ | ⟨hno, e⟩
    · rw [jat] at hi e
      rw [pr_add] at e
      have met : t.probe (fun i => (es[i]?.map (·.1)).getD 0) (thash P w k) (stand.getD (t.probeStart (thash P w k))) = some (.candidate (way t.mask (thash P w k) (c + d)) i (pr t.mask (thash P w k) (c + (d + 1)))) := by
        rw [hst]
        exact e
      rw [met]
      dsimp only
      have hil : i < L.length := by
        rw [← R.psz]
        exact (List.getElem?_eq_some_iff.mp hi).1
      obtain ⟨p, hp⟩ : ∃ p, L[i]? = some p := ⟨_, List.getElem?_eq_getElem hil⟩
      have hpm := List.mem_of_getElem? hp
      have go : wpAny (model P w) A (searchRest a (.ref x) (thash P w k) true f es t (way t.mask (thash P w k) (c + d)) i (pr t.mask (thash P w k) (c + (d + 1)))) Q E s := by
        unfold searchRest
        rw [R.entry hp]
        dsimp only
        refine wpAny_bind (wpAny_holding (wpAny_eqBool_tuple hu (R.tup p hpm) hx ?_))
        refine wpAny_bind (wpAny_setState_of ho hd R.fits ?_)
        dsimp only
        by_cases hk : p.2 = k
        · refine wp_if_pos (by simp [hk]) ?_
          exact wpAny_pure (hin (List.mem_map.mpr ⟨p, hpm, hk⟩))
        · refine wp_if_neg (by simp [hk]) ?_
          try refine wpAny_bind (wpAny_pure ?_)
          have live := slot_live R.tab.ris hi
          rw [sameMem]
          dsimp only
          simp only [if_true, live, R.entry hp]
          refine wpAny_bind (wpAny_isSame_ref_self (wpAny_bind (wpAny_pure ?_)))
          simp only [if_true]
          refine wp_if_neg (by simp [hk]) ?_
          refine ih (c + (d + 1)) _ rfl (by omega) (by omega) fun i0 p0 h0 hk0 => ?_
          obtain ⟨c', c1, c2, c3⟩ := hall i0 p0 h0 hk0
          refine ⟨c', ?_, c2, c3⟩
          have hh0 := (hashAt i0 p0 h0).trans (congrArg (thash P w) hk0)
          by_cases z : c' < c + d
          · refine absurd hh0 (hno (c' - c) i0 (by omega) ?_)
            rw [jat, show c + (c' - c) = c' by omega]
            exact c3
          · by_cases y : c' = c + d
            · rw [y] at c3
              have l0 := slot_live R.tab.ris c3
              rw [live] at l0
              injection l0 with l0
              rw [← l0, hp] at h0
              exact absurd ((congrArg Prod.snd (Option.some.inj h0)).trans hk0) hk
            · omega
      by_cases hl : t.led = true
      · refine wp_if_neg (by simp [hl]) ?_
        try refine wpAny_bind (wpAny_pure ?_)
        exact go
      · refine wp_if_pos (by simp [hl]) ?_
        refine wpAny_bind (seen_tup hx (fun y hy => ?_) ?_)
        · obtain ⟨e1, he, rfl⟩ := List.mem_map.mp hy
          have m1 : e1 ∈ es.toList := by
            have : e1 ∈ es ∧ e1.1 = thash P w k := by simpa using he
            simpa using this.1
          rw [R.rows] at m1
          obtain ⟨p2, hp2, e2⟩ := List.mem_map.mp m1
          exact ⟨p2.2, p2.1, by rw [← e2], R.tup p2 hp2⟩
        · refine wp_if_neg (by decide) ?_
          try refine wpAny_bind (wpAny_pure ?_)
          exact go
    · rw [jat, show c + (q - c) = q by omega] at e
      have met : t.probe (fun i => (es[i]?.map (·.1)).getD 0) (thash P w k) (stand.getD (t.probeStart (thash P w k))) = some (.empty (way t.mask (thash P w k) q) none) := by
        rw [hst]
        exact e
      rw [met]
      dsimp only
      refine wpAny_pure (hout fun hm => ?_)
      obtain ⟨p0, m0, hk0⟩ := List.mem_map.mp hm
      obtain ⟨i0, h0⟩ := List.mem_iff_getElem?.mp m0
      obtain ⟨c', c1, c2, c3⟩ := hall i0 p0 h0 hk0
      refine hno (c' - c) i0 (by omega) ?_ ((hashAt i0 p0 h0).trans (congrArg (thash P w) hk0))
      rw [jat, show c + (c' - c) = c' by omega]
      exact c3
theorem search_all (R : SetG P w s.heap a L es ep t) {x : Addr} {k : List Int} (hx : IsT P w s.heap k x) (hu : A.units < cLine) {Q : SetFound → Shared → Prop}
    (hin : k ∈ L.map (·.2) → Q (.there none) s)
    (hout : ∀ q, k ∉ L.map (·.2) → way t.mask (thash P w k) q ∉ t.place.toList → (∀ c, c < q → way t.mask (thash P w k) c ∈ t.place.toList) → Q (.free (way t.mask (thash P w k) q) false) s) :
    wpAny (model P w) A (setSearch a (.ref x) (thash P w k) true) Q E s := by
  have room := R.room
  have few := R.few
  obtain ⟨q, q1, q2, q3⟩ := R.tab.gap (by rw [List.length_map]; omega) (thash P w k)
  rw [List.length_map] at q1
  unfold setSearch
  refine search R hx hu q2 q3 (by unfold SetTable.turns; omega) hin (fun hn => hout q hn q2 q3) 100000 0 none rfl (Nat.zero_le _) (by omega) fun i p hp hk => ?_
  have hh : (L.map fun p => thash P w p.2)[i]? = some (thash P w k) := by
    rw [List.getElem?_map, hp, ← hk]
    rfl
  have hil : i < t.place.toList.length := by
    rw [R.psz]
    exact (List.getElem?_eq_some_iff.mp hp).1
  obtain ⟨c, c1, c2⟩ := R.tab.ahead q2 hh (List.getElem?_eq_getElem hil)
  exact ⟨c, Nat.zero_le _, c1, by rw [List.getElem?_eq_getElem hil, c2]⟩
theorem relay (o : Obj) (ho : s.heap.get? a = some o) (hex : o.ExactSet) (hd : o.data = .set es ep t) (hrows : es.toList = rowsOf P w L) (hsz : t.place.size = es.size) (hdm : t.dummies = #[]) (hfl : es.size ≤ t.mask)
    (nd : (L.map (·.2)).Nodup) (tup : ∀ p ∈ L, IsT P w s.heap p.2 p.1) (pl : t.plain = true) (ld : w.params.followText "set-order" = true ∨ t.led = true) (few : L.length ≤ 9000) {wanted : Nat} (hw : wanted ≤ 40000) (hr : L.length * 2 ≤ wanted) (h0 : 0 < wanted) {Q : Unit → Shared → Prop}
    (hQ : ∀ h' L' es' ep' t', Heap.SameBut a s.heap h' → SetG P w h' a L' es' ep' t' → L'.Perm L → Q () { s with heap := h' }) : wpAny (model P w) A (setRelay a wanted) Q E s := by
  obtain ⟨g, s1, s2⟩ := size_ok (n := wanted) (by omega)
  have hsl : es.size = L.length := by
    have e := congrArg List.length hrows
    rw [Array.length_toList, show (rowsOf P w L).length = L.length from List.length_map _] at e
    exact e
  have hfits : t.fits es.size = true := by
    unfold SetTable.fits SetTable.fill
    rw [hdm, Bool.and_eq_true, beq_iff_eq, decide_eq_true_eq]
    exact ⟨hsz, by show t.place.size + 0 ≤ t.mask; omega⟩
  obtain ⟨t', order, e, hp, T, em, el, e6⟩ := relay_ok t (es.map (·.1)) (wanted := wanted) rfl g (by rw [Array.size_map, hsl]; omega)
  rw [Array.size_map, hsl] at hp
  obtain ⟨L2', r1, r2, r3⟩ := order_rows L es order hrows hp
  rw [← r3] at T
  have hs2 : (order.filterMap (es[·]?)).size = es.size := by
    have e := congrArg List.length r1
    rw [Array.length_toList, show (rowsOf P w L2').length = L2'.length from List.length_map _, r2.length_eq] at e
    rw [e, hsl]
  have line : (100000 : Nat) ≤ sizeLine := by decide
  rw [setRelay_eq]
  refine wpAny_bind (wpAny_setState_of ho hd hfits ?_)
  dsimp only
  refine wp_if_neg (by omega) ?_
  try refine wpAny_bind (wpAny_pure ?_)
  rw [e]
  dsimp only
  refine wpAny_bind ?_
  refine wp_if_neg (by rw [hs2]; simp) ?_
  try refine wpAny_bind (wpAny_pure ?_)
  refine wpAny_pure ?_
  dsimp only
  refine wpAny_storeSet_of ho hd ?_ (by rw [hs2, hsl]; omega)
  have sb : Heap.SameBut a s.heap (s.heap.update a (Obj.putSet (order.filterMap (es[·]?)) t')) := Heap.SameBut.update ..
  refine hQ _ L2' _ (ep + 1) t' sb ⟨⟨_, store_at ho hd, ⟨hex.1, hex.2.1, hex.2.2⟩, rfl⟩, r1, T, (r2.map _).nodup_iff.mpr nd, fun p hpm => isT_same (tup p (r2.mem_iff.mp hpm)) ho hd sb, by rw [e6]; exact pl, by rw [el]; exact ld, ?_, by rw [r2.length_eq]; exact few⟩ r2
  rw [r2.length_eq, em]
  omega
end
end CbT
/-! sets of tuples of ints: set(xs) -/
namespace CbT
open PySem PySem.Spec PyProof.Rows L2
section
variable {P : Program} {w : World} {A : Around} {E : Value → Shared → Prop} {s : Shared} {a : Addr} {L : List (Addr × List Int)} {es : Array (Int × Value)} {ep : Nat} {t : SetTable}
theorem add (R : SetG P w s.heap a L es ep t) {x : Addr} {k : List Int} (hx : IsT P w s.heap k x) (hu : A.units < cLine) (hfew : L.length + 1 ≤ 9000) {Q : Bool → Shared → Prop}
    (hQ : ∀ b h' L' es' ep' t', Heap.SameBut a s.heap h' → SetG P w h' a L' es' ep' t' → (k ∈ L.map (·.2) → L' = L) → (k ∉ L.map (·.2) → L'.Perm ((x, k) :: L)) → Q b { s with heap := h' }) :
    wpAny (model P w) A (setAddHashed a (.ref x) (thash P w k)) Q E s := by
  obtain ⟨o, ho, hex, hd⟩ := R.ob
  have hsl := R.size
  have hroom := R.room
  unfold setAddHashed
  refine wpAny_holding ?_
  rw [show (100000 : Nat) = 99999 + 1 from rfl, setAddHashedIn_succ]
  refine wpAny_bind (wpAny_setState_of ho hd R.fits ?_)
  dsimp only
  refine wp_if_neg (by simp [byScan, Value.scannable]) ?_
  try refine wpAny_bind (wpAny_pure ?_)
  refine wpAny_bind (search_all R hx hu (fun hm => ?_) fun q hm hq hb => ?_)
  · dsimp only
    exact wpAny_pure (hQ false s.heap L es ep t (Heap.SameBut.refl a s.heap) R (fun _ => rfl) fun z => absurd hm z)
  · dsimp only
    refine wpAny_bind (wpAny_setState_of ho hd R.fits ?_)
    dsimp only
    obtain ⟨q2, q3, q9⟩ := R.tab.put rfl hq hb
    generalize way t.mask (thash P w k) q = j at q2 q3 q9 ⊢
    have hpm : (t.put j).1.mask = t.mask := rfl
    have hpl : (t.put j).1.led = t.led := rfl
    have hp1 : (t.put j).1.plain = true := R.plain
    have hp2 : (t.put j).2 = SetTable.below t.place j := rfl
    generalize hpt : t.put j = pt at q3 q9 hpm hpl hp1 hp2 ⊢
    obtain ⟨t1, p⟩ := pt
    dsimp only at q3 q9 hpm hpl hp1 hp2 ⊢
    subst hp2
    first
      | (refine wpAny_bind ?_; refine wp_if_pos hp1 ?_; refine hashBy_tup hx ?_)
      | refine wp_if_pos hp1 (wpAny_bind (hashBy_tup hx ?_))
    simp only [if_true]
    have hin : (SetTable.insertAt es (SetTable.below t.place j) (thash P w k, Value.ref x)).toList = rowsOf P w (L.take (SetTable.below t.place j) ++ (x, k) :: L.drop (SetTable.below t.place j)) := by
      rw [SetTable.toList_insertAt, rows_put, R.rows]
    generalize hpp : SetTable.below t.place j = p at q2 q3 hin ⊢
    have pm := put_perm L p (x, k)
    have hlen : (L.take p ++ (x, k) :: L.drop p).length = L.length + 1 := pm.length_eq
    have hhs : (L.take p ++ (x, k) :: L.drop p).map (fun p => thash P w p.2) = (L.map fun p => thash P w p.2).take p ++ thash P w k :: (L.map fun p => thash P w p.2).drop p := by
      rw [List.map_append, List.map_cons, List.map_take, List.map_drop]
    rw [← hhs] at q3
    have nd1 : ((L.take p ++ (x, k) :: L.drop p).map (·.2)).Nodup := by
      refine (pm.map (·.2)).nodup_iff.mpr ?_
      rw [List.map_cons]
      exact List.nodup_cons.mpr ⟨hm, R.nd⟩
    have hes : (SetTable.insertAt es p (thash P w k, Value.ref x)).size = L.length + 1 := by
      have h := congrArg List.length hin
      unfold rowsOf at h
      rw [Array.length_toList, List.length_map, hlen] at h
      exact h
    generalize SetTable.insertAt es p (thash P w k, Value.ref x) = es1 at hin hes ⊢
    generalize L.take p ++ (x, k) :: L.drop p = L1 at pm hlen q3 nd1 hin
    refine wpAny_bind (wpAny_storeSet_of ho hd ?_ (by rw [hes, sizeLine_eq]; omega))
    have sb : Heap.SameBut a s.heap (s.heap.update a (Obj.putSet es1 t1)) := Heap.SameBut.update ..
    have ho1 := store_at (es' := es1) (t' := t1) ho hd
    generalize s.heap.update a (Obj.putSet es1 t1) = h1 at sb ho1 ⊢
    have tup1 : ∀ p ∈ L1, IsT P w h1 p.2 p.1 := fun p hp => by
      rcases List.mem_cons.mp (pm.mem_iff.mp hp) with e | hp
      · rw [e]; exact isT_same hx ho hd sb
      · exact isT_same (R.tup p hp) ho hd sb
    have ld1 : w.params.followText "set-order" = true ∨ t1.led = true := by rw [hpl]; exact R.led
    by_cases hf : t1.tooFull = true
    · first
        | (refine wpAny_bind ?_; refine wp_if_pos (by simp [hf]) ?_)
        | (refine wp_if_pos (by simp [hf]) ?_; refine wpAny_bind ?_)
      rw [hsl]
      have hsz1 : t1.place.size = es1.size := by
        have h := q3.sz
        rw [List.length_map, hlen] at h
        rw [h, hes]
      have hg : SetTable.grown (L.length + 1) = (L.length + 1) * 4 := by
        unfold SetTable.grown
        rw [if_neg (by omega)]
      rw [hg]
      refine relay (s := { s with heap := h1 }) _ ho1 ⟨hex.1, hex.2.1, hex.2.2⟩ rfl hin hsz1 q3.dm (by rw [hes, hpm]; omega) nd1 tup1 hp1 ld1 (by rw [hlen]; exact hfew) (by omega) (by rw [hlen]; omega) (by omega) ?_
      intro h2 L2' es2 ep2 t2 sb2 R2 pm2
      refine wpAny_pure (hQ true h2 L2' es2 ep2 t2 (sb.trans sb2) R2 (fun z => absurd z hm) fun _ => pm2.trans pm)
    · first
        | refine wp_if_neg (by simp [hf]) ?_
        | (refine wpAny_bind ?_; refine wp_if_neg (by simp [hf]) ?_; refine wpAny_pure ?_)
      refine wpAny_pure (hQ true h1 L1 es1 (ep + 1) t1 sb ⟨⟨_, ho1, ⟨hex.1, hex.2.1, hex.2.2⟩, rfl⟩, hin, q3, nd1, tup1, hp1, ld1, ?_, by rw [hlen]; exact hfew⟩ (fun z => absurd z hm) fun _ => pm)
      have h := hf
      unfold SetTable.tooFull at h
      rw [decide_eq_true_eq, q9, List.length_map] at h
      rw [hlen]
      omega
theorem SetG.keep {h h' : Heap} {a : Addr} {L : List (Addr × List Int)} {es : Array (Int × Value)} {ep : Nat} {t : SetTable} (R : SetG P w h a L es ep t) (ha : ∀ o, h.get? a = some o → h'.get? a = some o) (ht : ∀ p ∈ L, IsT P w h' p.2 p.1) : SetG P w h' a L es ep t := by
  obtain ⟨o, ho, r⟩ := R.ob
  exact ⟨⟨o, ha o ho, r⟩, R.rows, R.tab, R.nd, ht, R.plain, R.led, R.room, R.few⟩
theorem setG_fresh {h : Heap} {a : Addr} (ho : h.get? a = some { cls := .type "set", dict := none, data := .set #[] 0 (.fresh 0 0 (!w.params.followText "set-order")) }) : SetG P w h a [] #[] 0 (.fresh 0 0 (!w.params.followText "set-order")) where
  ob := ⟨_, ho, ⟨rfl, rfl, rfl⟩, rfl⟩
  rows := rfl
  tab := ⟨List.Pairwise.nil, rfl, rfl, ⟨3, Nat.le_refl _, rfl⟩, fun i h j hi => (by simp at hi)⟩
  nd := List.nodup_nil
  tup := fun p hp => (by cases hp)
  plain := rfl
  led := by
    show _ ∨ (!w.params.followText "set-order") = true
    cases w.params.followText "set-order"
    · exact .inr rfl
    · exact .inl rfl
  room := by
    show 0 * 5 < 7 * 3
    decide
  few := by
    show 0 ≤ 9000
    decide
/-- the update's loop -/
theorem upd_loop {I : Addr} {fp wr : List Addr} {G : Array GenState → Array GenState → Prop} {n : Nat} {Pv : Nat → Value → Prop} {St : Nat → Shared → Prop} {R : Result → Shared → Prop}
    (W : WalksS P w A.in1 I fp wr G n Pv St) (S : Addr) (hSf : S ∉ fp) (ks : List (Addr × List Int)) (hn : n = ks.length) (hfew : ks.length ≤ 9000) (hval : ∀ i v, Pv i v → ∃ p, ks[i]? = some p ∧ v = .ref p.1)
    (h0 : Heap) (hk : ∀ p ∈ ks, IsT P w h0 p.2 p.1) (hS0 : h0.get? S = none) (hw0 : ∀ b ∈ wr, h0.get? b = none) (hu : A.in1.units < cLine) :
    ∀ (k i : Nat) (s : Shared), n - i = k → i ≤ n → St i s → (∀ b o, h0.get? b = some o → s.heap.get? b = some o) → (∃ L es ep t, SetG P w s.heap S L es ep t ∧ Got ks i L) →
      (∀ s' L es ep t, Moved (S :: wr) G s s' → SetG P w s'.heap S L es ep t → Got ks n L → (∀ b o, h0.get? b = some o → s'.heap.get? b = some o) → R (.ok (.ret .none)) s') →
      codeAny (model P w) A (.builtin "set.update.loop" ⟨[.ref S, .ref I], []⟩) R s := by
  have hSw : S ∉ wr := fun h => hSf (W.sub _ h)
  have hsub : ∀ b ∈ wr, b ∈ S :: wr := fun b hb => List.mem_cons_of_mem _ hb
  have keepM : ∀ {s s' : Shared}, Moved wr G s s' → (∀ b o, h0.get? b = some o → s.heap.get? b = some o) → ∀ b o, h0.get? b = some o → s'.heap.get? b = some o := fun hm hkp b o e =>
    hm.heap b o (fun hb => by rw [hw0 b hb] at e; cases e) (hkp b o e)
  intro k
  induction k with
  | zero =>
    intro i s hk' hi hst hkp ⟨L, es, ep, t, hS, g⟩ hR
    have hin : i = n := by omega
    subst hin
    refine codeAny_builtin F.entry_set_update_loop ?_
    rw [Around.under_plainId F.plain_set_update_loop _]
    show wpAny _ A.in1 (pyNext (.ref I) >>= _) _ _ s
    refine wpAny_bind (W.done s _ _ hst fun s' hm => ?_)
    show wpAny _ A.in1 (ret Value.none) _ _ s'
    have hkp' := keepM hm hkp
    have sub : ∀ p ∈ L, p ∈ ks := fun p hp => List.mem_of_mem_take (g.sub p hp)
    exact wpAny_pure (hR s' L es ep t (hm.mono hsub) (hS.keep (fun o e => hm.heap S o hSw e) fun p hp => isT_keep (hk p (sub p hp)) hkp') g hkp')
  | succ k ih =>
    intro i s hk' hi hst hkp ⟨L, es, ep, t, hS, g⟩ hR
    have hlt : i < n := by omega
    refine codeAny_builtin F.entry_set_update_loop ?_
    rw [Around.under_plainId F.plain_set_update_loop _]
    show wpAny _ A.in1 (pyNext (.ref I) >>= _) _ _ s
    refine wpAny_bind (W.item i s _ _ hlt hst fun v s' hP hst' hm => ?_)
    obtain ⟨p, hp, rfl⟩ := hval i v hP
    have hkp' := keepM hm hkp
    have sub : ∀ p ∈ L, p ∈ ks := fun p hp => List.mem_of_mem_take (g.sub p hp)
    have hS' : SetG P w s'.heap S L es ep t := hS.keep (fun o e => hm.heap S o hSw e) fun q hq => isT_keep (hk q (sub q hq)) hkp'
    have hx : IsT P w s'.heap p.2 p.1 := isT_keep (hk p (List.mem_of_getElem? hp)) hkp'
    show wpAny _ A.in1 (holding [Value.ref p.1] (setAdd S (.ref p.1)) >>= _) _ _ s'
    refine wpAny_bind (wpAny_holding ?_)
    unfold setAdd
    refine wpAny_holding ?_
    refine wpAny_bind (wpAny_pyHash_tuple hu hx ?_)
    refine add (s := { s' with toks := s'.toks + (p.2.length + 1) }) hS' hx hu (by have := g.len; omega) fun b h' L' es' ep' t' hsb hS2 c1 c2 => ?_
    have g' : Got ks (i + 1) L' := by
      rcases Classical.em (p.2 ∈ L.map (·.2)) with c | c
      · rw [c1 c]; exact g.same hp c
      · exact g.more hp (c2 c)
    have hkp2 : ∀ b o, h0.get? b = some o → h'.get? b = some o := fun b o e => (hsb.2 b (fun z => by rw [z, hS0] at e; cases e)).trans (hkp' b o e)
    refine wpAny_pure ⟨plainId_quiet F.plain_set_update_loop _, ih (i + 1) _ (by omega) hlt (W.frame _ s' _ _ hst' (Nat.le_add_right _ _) fun b hb o e => ?_) hkp2 ⟨L', es', ep', t', hS2, g'⟩ fun s'' L2' es2 ep2 t2 hm'' hS'' g'' hkp'' => ?_⟩
    · rw [hsb.2 b (fun h : b = S => hSf (by rw [← h]; exact hb))]; exact e
    · refine hR s'' L2' es2 ep2 t2 (Moved.trans W.gtrans ((hm.mono hsub).then_heap (Nat.le_add_right _ _) fun b o hb e => ?_) hm'') hS'' g'' hkp''
      rw [hsb.2 b (fun h : b = S => hb (by rw [h]; exact List.mem_cons_self))]; exact e
end
end CbT
/-! sets of tuples of ints: set(xs), sorted -/
namespace CbT
open PySem PySem.Spec PyProof.Rows L2
section
variable {P : Program} {w : World} {A : Around} {E : Value → Shared → Prop} {s : Shared}
theorem call_set {l : Addr} {items : Array Value} (ks : List (Addr × List Int)) {Q : Value → Shared → Prop} (hh : A.handled = none) (hl : s.heap.IsList l items) (hit : items.toList = ks.map fun p => Value.ref p.1)
    (hk : ∀ p ∈ ks, IsT P w s.heap p.2 p.1) (hfew : ks.length ≤ 9000) (hu : A.units + 3 < cLine)
    (h : ∀ (h' : Heap) (tk : Nat) L es ep t, SetG P w h' s.heap.objs.size L es ep t → Got ks ks.length L → (∀ b o, s.heap.get? b = some o → h'.get? b = some o) → Q (.ref s.heap.objs.size) { s with heap := h', toks := tk }) :
    wpAny (model P w) A (call (.type "set") [.ref l]) Q E s := by
  have hisz : items.size = ks.length := by
    have q := congrArg List.length hit
    rw [Array.length_toList, List.length_map] at q
    exact q
  obtain ⟨c, tl, hmro⟩ := F.called_set.mro
  have hmade := F.called_set.made
  have hsub := F.called_set.sub
  refine wpAny_call (codeAny_of_tree ?_)
  show wpAny _ _ (callAny (.type "set") _) _ _ _
  refine wpAny_pure ⟨Code.quiet_builtin _ (by decide +kernel), codeAny_builtin F.entry_type_call ?_⟩
  rw [Around.under_plain (weight_type_call_type "set" [.ref l] []) rfl]
  have h1 := F.called_set.notType
  have h2 := F.called_set.canCreate
  have hct := F.typeCall_set_1 (.ref l)
  repeat (any_goals (first | assumption | wp_step))

  refine codeAny_mono (code_set_led1 (.ref l) (E := E) (Q₁ := fun obj s₁ => obj = .ref s.heap.objs.size ∧ s₁ = { s with heap := s.heap.push { cls := .type "set", dict := none, data := .set #[] 0 (.fresh 0 0 (!w.params.followText "set-order")) } }) ⟨rfl, rfl⟩) fun r s₁ hr => ?_
  cases r with
  | error e => exact hr
  | ok fl =>
    cases fl with
    | ret obj =>
      obtain ⟨rfl, rfl⟩ := hr
      have hS : (s.heap.push { cls := .type "set", dict := none, data := .set #[] 0 (.fresh 0 0 (!w.params.followText "set-order")) }).get? s.heap.objs.size = some { cls := .type "set", dict := none, data := .set #[] 0 (.fresh 0 0 (!w.params.followText "set-order")) } := Heap.get?_push_size _ rfl
      have hT : Shared.TypeIs { s with heap := s.heap.push { cls := .type "set", dict := none, data := .set #[] 0 (.fresh 0 0 (!w.params.followText "set-order")) } } (.ref s.heap.objs.size) "set" := ⟨_, hS, rfl⟩
      have hli := F.called_set.init.lookup
      have hbi := F.called_set.init.bind (.ref s.heap.objs.size)
      repeat (any_goals (first | assumption | wp_step))

      refine codeAny_mono (codeAny_call_builtin (R := wants (fun r s₂ => r = .none ∧ ∃ h' tk L es ep t, s₂ = { s with heap := h', toks := tk } ∧ SetG P w h' s.heap.objs.size L es ep t ∧ Got ks ks.length L ∧
          (∀ b o, s.heap.get? b = some o → h'.get? b = some o)) E) F.called_set.init.plain F.entry_set_init (check_set_init_1 hT ?_)) fun r₂ s₂ hr₂ => ?_
      · obtain ⟨ol, hol, hcl, nl, hdl⟩ := hl
        obtain ⟨ocls, odict, odata, oslots⟩ := ol
        simp only at hcl hdl
        subst hcl; subst hdl
        have hol' : (s.heap.push { cls := .type "set", dict := none, data := .set #[] 0 (.fresh 0 0 (!w.params.followText "set-order")) }).get? l = some { cls := .type "list", dict := odict, data := .seq items nl, slots := oslots } := Heap.get?_push_of_some _ hol
        have hsls := F.sub_list_set
        have hslf := F.sub_list_frozenset
        have hne : (Value.type "list" == Value.type "dict") = false := by decide
        have hl1 : (s.heap.push { cls := .type "set", dict := none, data := .set #[] 0 (.fresh 0 0 (!w.params.followText "set-order")) }).IsList l items := ⟨_, hol', rfl, nl, rfl⟩
        unfold Builtin.«set.__init__» noKeywords Builtin.Frozenset.updateFrom
        generalize hPI : pyIter = PI
        wp_walk
        subst hPI

        refine wpAny_pyIter_list hl1 ?_
        refine wpAny_bind (wpAny_runValue ?_)
        have hlS : l < s.heap.objs.size := Heap.lt_size hol
        have hh3 : A.in1.in1.in1.handled = none := by simp [hh]
        have hz1 : (s.heap.push { cls := .type "set", dict := none, data := .set #[] 0 (.fresh 0 0 (!w.params.followText "set-order")) }).objs.size = s.heap.objs.size + 1 := Heap.size_push ..
        have hneI : l ≠ (s.heap.push { cls := .type "set", dict := none, data := .set #[] 0 (.fresh 0 0 (!w.params.followText "set-order")) }).objs.size := by
          rw [Heap.size_push]; exact Nat.ne_of_lt (Nat.lt_succ_of_lt hlS)
        have hSf : s.heap.objs.size ∉ [(s.heap.push { cls := .type "set", dict := none, data := .set #[] 0 (.fresh 0 0 (!w.params.followText "set-order")) }).objs.size, l] := by
          rw [Heap.size_push]; simp only [List.mem_cons, List.mem_singleton, List.not_mem_nil, or_false, not_or]
          exact ⟨Nat.ne_of_lt (Nat.lt_succ_self _), Nat.ne_of_gt hlS⟩
        have hval : ∀ (i : Nat) (v : Value), items[i]? = some v → ∃ p, ks[i]? = some p ∧ v = .ref p.1 := fun i v hv => by
          have q : items.toList[i]? = some v := by rw [Array.getElem?_toList]; exact hv
          rw [hit, List.getElem?_map] at q
          cases hq : ks[i]? with
          | none => rw [hq] at q; cases q
          | some p =>
            rw [hq] at q
            exact ⟨p, rfl, (Option.some.inj q).symm⟩
        have none_of : ∀ b, s.heap.objs.size ≤ b → s.heap.get? b = none := fun b hb => by
          cases q : s.heap.get? b with
          | none => rfl
          | some o => exact absurd (Nat.lt_of_lt_of_le (Heap.lt_size q) hb) (Nat.lt_irrefl _)
        refine upd_loop ((Walks.list hh3 _ l hneI items).toS) s.heap.objs.size
          hSf ks hisz hfew hval s.heap hk (none_of _ (Nat.le_refl _)) (fun b hb => none_of b (by
            rw [List.mem_singleton.mp hb, Heap.size_push]
            exact Nat.le_succ _)) hu (items.size - 0) 0 _ (by omega) (Nat.zero_le _)
          ⟨⟨_, Heap.get?_push_size _ rfl, rfl, rfl⟩, (hl1.push _)⟩ (fun b o e => Heap.get?_push_of_some _ (Heap.get?_push_of_some _ e)) ?hS0 ?hR
        case hS0 =>
          have hget : ((s.heap.push { cls := .type "set", dict := none, data := .set #[] 0 (.fresh 0 0 (!w.params.followText "set-order")) }).push { cls := .type "list_iterator", data := .fields #[.ref l, .int 0 0] }).get? s.heap.objs.size
              = some { cls := .type "set", dict := none, data := .set #[] 0 (.fresh 0 0 (!w.params.followText "set-order")) } := Heap.get?_push_of_some _ hS
          exact ⟨[], #[], 0, _, setG_fresh hget, Got.zero ks⟩
        case hR =>
          intro s' L es ep t hm hS' g' hkp
          obtain ⟨h', g2, d', tk', os'⟩ := s'
          have eg : g2 = s.gens := hm.gens
          have ed : d' = s.drawn := hm.drawn
          have eo : os' = s.os := hm.os
          subst eg; subst ed; subst eo
          show wpAny _ _ _ _ _ _
          refine wpAny_pure ?_
          show wpAny _ _ (ret Value.none) _ _ _
          rw [hisz] at g'
          exact wpAny_pure ⟨rfl, h', tk', L, es, ep, t, rfl, hS', g', hkp⟩

      · cases r₂ with
        | error e => exact hr₂
        | ok fl₂ =>
          cases fl₂ with
          | ret r =>
            obtain ⟨rfl, h', tk, L, es, ep, t, rfl, hS', g', hk'⟩ := hr₂
            repeat (any_goals (first | assumption | wp_step))
            exact h _ _ _ _ _ _ hS' g' hk'
          | _ => exact hr₂.elim
    | _ => exact hr.elim

end
section
variable {P : Program} {w : World} {A : Around} {E : Value → Shared → Prop} {s : Shared} {a : Addr} {es : Array (Int × Value)} {ep : Nat} {t : SetTable}
theorem iterG {Q : Value → Shared → Prop} (ha : SetAt s.heap a es ep t) (hf : t.fits es.size = true) (hsz : es.size ≤ sizeLine) (r : Ris t.place.toList)
    (hl : w.params.followText "set-order" = true ∨ t.led = true) (hQ : ∀ s₂ I, SetIt P w s a es s₂ I → Q (.ref I) s₂) : wpAny (model P w) A (pyIter (.ref a)) Q E s := by
  obtain ⟨o, ho, hc, hd⟩ := id ha
  have hT : s.TypeIs (.ref a) "set" := ⟨o, ho, hc⟩
  have hlt : a < s.heap.objs.size := Heap.lt_size ho
  refine wpAny_pyIter_slot hT F.slot_set_iter (wpAny_call_entry F.slot_set_iter hT entry_s_iter ?_ (F.args_set_iter_1 _))
  unfold Builtin.«frozenset.__iter__»
  refine wpAny_bind (m := Builtin.Frozenset.slot0 "__iter__" _) (wpAny_of_eq (a := a) (by rfl) ?_)
  refine wpAny_bind (m := Builtin.Frozenset.sizeOf a) ?_
  unfold Builtin.Frozenset.sizeOf
  refine wpAny_bind (wpAny_setEntries_of ho hd hf (wpAny_pure ?_))
  first | refine wpAny_bind (setDrawn_at ha hf ?_) | refine wpAny_bind (wpAny_bind (setDrawn_at ha hf ?_))
  cases hb : w.params.followText "set-order" with
  | true =>
    refine wp_if_neg (by simp) ?_
    first | refine wpAny_bind (wpAny_pure ?_) | refine wpAny_pure ?_
    refine wpAny_bind (wpAny_setEpoch_of ho hd hf ?_)
    refine wpAny_bind (wpAny_newObj_type (wpAny_pure ⟨_, rfl, "set_iterator", _, ⟨_, Heap.get?_push_size _ rfl, rfl⟩, slot_si_next.lookup, ?_⟩))
    have hne : a ≠ s.heap.objs.size := Nat.ne_of_lt hlt
    have hp := pick_perm (w.params.setOrder a ep) es
    have hlen : ((pickOrder (w.params.setOrder a ep) es).toList.map (·.2)).length = (pickOrder (w.params.setOrder a ep) es).size := by rw [List.length_map, Array.length_toList]
    refine hQ _ _ (SetIt.of (fun A' hA' => walks_text (P := P) (ep := ep) hA' hne hf hb) hlen (fun b u e => Heap.get?_push_of_some _ e) rfl rfl rfl (Nat.le_refl _) (fun b hb' => ?_) (hp.map _)
      (fun j v q => ?_) ⟨⟨_, Heap.get?_push_size _ rfl, rfl, rfl⟩, ha.at fun u e => Heap.get?_push_of_some _ e⟩)
    · rcases List.mem_cons.mp hb' with z | z
      · exact .inr (Nat.le_of_eq z.symm)
      · exact .inl (List.mem_singleton.mp z)
    · rw [List.getElem?_map, Array.getElem?_toList]; exact q
  | false =>
    have hled : t.led = true := hl.resolve_left (by rw [hb]; exact Bool.false_ne_true)
    cases hdr : (!t.plain && decide (es.size > 1)) with
    | false =>
      refine wp_if_neg (by simp) ?_
      first | refine wpAny_bind (wpAny_pure ?_) | refine wpAny_pure ?_
      refine wpAny_bind (wpAny_setEpoch_of ho hd hf ?_)
      refine wpAny_bind (wpAny_newObj_type (wpAny_pure ⟨_, rfl, "set_iterator", _, ⟨_, Heap.get?_push_size _ rfl, rfl⟩, slot_si_next.lookup, ?_⟩))
      have hne : a ≠ s.heap.objs.size := Nat.ne_of_lt hlt
      have hlen : (es.toList.map (·.2)).length = es.size := by rw [List.length_map, Array.length_toList]
      refine hQ _ _ (SetIt.of (fun A' hA' => walks_led (P := P) (ep := ep) hA' hne hf r hb hdr hled) hlen (fun b u e => Heap.get?_push_of_some _ e) rfl rfl rfl (Nat.le_refl _) (fun b hb' => ?_) (List.Perm.refl _)
        (fun j v q => ?_) ⟨⟨_, Heap.get?_push_size _ rfl, rfl, rfl⟩, ha.at fun u e => Heap.get?_push_of_some _ e⟩)
      · rcases List.mem_cons.mp hb' with z | z
        · exact .inr (Nat.le_of_eq z.symm)
        · exact .inl (List.mem_singleton.mp z)
      · rw [List.getElem?_map, Array.getElem?_toList]; exact q
    | true =>
      refine wp_if_pos rfl ?_
      refine wpAny_bind (drawOrder_at _ _ _ _ (Nat.le_of_eq List.length_range) fun ys d hp => ?_)
      have hyl : ys.length = es.size := by rw [hp.length_eq, List.length_range]
      have hsl : (ys.map fun (k : Nat) => rawInt (k : Int)).length ≤ sizeLine := by rw [List.length_map, hyl]; exact hsz
      first | refine wpAny_bind (wpAny_newTuple ?_ hsl) | refine wpAny_newTuple ?_ hsl
      have ho2 : (s.heap.push { cls := .type "tuple", data := .seq (ys.map fun (k : Nat) => rawInt (k : Int)).toArray }).get? a = some o := Heap.get?_push_of_some _ ho
      refine wpAny_bind (wpAny_setEpoch_of ho2 hd hf ?_)
      refine wpAny_bind (wpAny_newObj_type (wpAny_pure ⟨_, rfl, "set_iterator", _, ⟨_, Heap.get?_push_size _ rfl, rfl⟩, slot_si_next.lookup, ?_⟩))
      have hsz2 : (s.heap.push { cls := .type "tuple", data := .seq (ys.map fun (k : Nat) => rawInt (k : Int)).toArray }).objs.size = s.heap.objs.size + 1 := size_push' _ _
      have hne : a ≠ (s.heap.push { cls := .type "tuple", data := .seq (ys.map fun (k : Nat) => rawInt (k : Int)).toArray }).objs.size := by rw [hsz2]; exact Nat.ne_of_lt (Nat.lt_succ_of_lt (Heap.lt_size ho))
      have hpe : s.heap.objs.size ≠ (s.heap.push { cls := .type "tuple", data := .seq (ys.map fun (k : Nat) => rawInt (k : Int)).toArray }).objs.size := by rw [hsz2]; omega
      have hys : ∀ j ∈ ys, j < es.size := fun j hj => List.mem_range.mp (hp.mem_iff.mp hj)
      have hlen : (ys.map fun q => ((es[q]?).map (·.2)).getD Value.none).length = ys.length := List.length_map _
      have hpm : (ys.map fun q => ((es[q]?).map (·.2)).getD Value.none).Perm (es.toList.map (·.2)) := by
        rw [← range_map es]
        exact hp.map _
      refine hQ _ _ (SetIt.of (fun A' hA' => walks_drawn (P := P) (w := w) (ep := ep) (t := t) hA' hne hpe hf hys) hlen (fun b u e => Heap.get?_push_of_some _ (Heap.get?_push_of_some _ e)) rfl rfl rfl ?_ (fun b hb' => ?_) hpm
        (fun j v q => ?_) ⟨⟨_, Heap.get?_push_size _ rfl, rfl, rfl⟩, ha.at fun u e => Heap.get?_push_of_some _ (Heap.get?_push_of_some _ e), Heap.get?_push_of_some _ (Heap.get?_push_size _ rfl)⟩)
      · rw [hsz2]; exact Nat.le_succ _
      · rcases List.mem_cons.mp hb' with z | z
        · exact .inr (by rw [z, hsz2]; exact Nat.le_succ _)
        · rcases List.mem_cons.mp z with z | z
          · exact .inl z
          · exact .inr (Nat.le_of_eq (List.mem_singleton.mp z).symm)
      · rw [List.getElem?_map]
        cases hy : ys[j]? with
        | none => rw [hy] at q; cases q
        | some k =>
          rw [hy] at q
          have q' : (es[k]?).map (·.2) = some v := q
          show some (((es[k]?).map (·.2)).getD Value.none) = some v
          rw [q'] <;> rfl

theorem collectG {Q : List Value → Shared → Prop} (hh : A.handled = none) (ha : SetAt s.heap a es ep t) (hf : t.fits es.size = true) (hsz : es.size ≤ sizeLine) (r : Ris t.place.toList)
    (hl : w.params.followText "set-order" = true ∨ t.led = true)
    (hQ : ∀ s' out, (∀ b o, s.heap.get? b = some o → s'.heap.get? b = some o) → s.heap.objs.size ≤ s'.heap.objs.size → s'.gens = s.gens → s'.os = s.os → out.Perm (es.toList.map (·.2)) → Q out s') :
    wpAny (model P w) A (collect (.ref a)) Q E s := by
  obtain ⟨o, ho, hc, hd⟩ := id ha
  have hlt : a < s.heap.objs.size := Heap.lt_size ho
  have hSa : s.heap.objs.size ≠ a := Nat.ne_of_gt hlt
  unfold collect
  refine wpAny_bind (wpAny_runValue (codeAny_builtin F.entry_proto_collect ?_))
  rw [Around.under_plainId F.plain_proto_collect _]
  show wpAny _ A.in1 (newList [] >>= fun l => again (.builtin "list.__iadd__" ⟨[l, .ref a], []⟩)) _ _ s
  refine wpAny_bind (wpAny_newObj_type ?_)
  refine wpAny_pure ⟨plainId_quiet F.plain_list_iadd _, codeAny_builtin F.entry_list_iadd ?_⟩
  rw [Around.under_plainId F.plain_list_iadd _]
  have hS : (s.heap.push { cls := .type "list", data := .seq ([] : List Value).toArray }).get? s.heap.objs.size = some { cls := .type "list", data := .seq ([] : List Value).toArray } := Heap.get?_push_size _ rfl
  have ha1 : SetAt (s.heap.push { cls := .type "list", data := .seq ([] : List Value).toArray }) a es ep t := ha.at fun u e => Heap.get?_push_of_some _ e
  have hz1 : (s.heap.push { cls := .type "list", data := .seq ([] : List Value).toArray }).objs.size = s.heap.objs.size + 1 := size_push' _ _
  show wpAny _ A.in1 (Builtin.List.listExtendWith (.ref s.heap.objs.size) (.ref a) (.ref s.heap.objs.size)) _ _ _
  unfold Builtin.List.listExtendWith
  refine wpAny_bind (wpAny_typeOf (T := "set") ⟨o, Heap.get?_push_of_some _ ho, hc⟩ ?_)
  have h1 : Builtin.List.listSameRef (.ref s.heap.objs.size) (.ref a) = false := by simp [Builtin.List.listSameRef, hSa]
  have h2 : (Value.type "set" == Value.type "list") = false := by decide
  have h3 : (Value.type "set" == Value.type "tuple") = false := by decide
  simp only [h1, h2, h3, Bool.or_false, Bool.false_eq_true, if_false]
  refine wpAny_bind (iterG (s := { s with heap := s.heap.push { cls := .type "list", data := .seq ([] : List Value).toArray } }) ha1 hf hsz r hl fun s₂ I hit => ?_)
  obtain ⟨fp, St, out, Pv, k2, g2, o2, t2, hI, hfp, hp, hW, hPv, hst⟩ := hit
  have hI' : s.heap.objs.size + 1 ≤ I := by rw [← hz1]; exact hI
  have hSf : s.heap.objs.size ∉ fp := fun hm => by
    rcases hfp _ hm with z | z
    · exact hSa z
    · have z' : s.heap.objs.size + 1 ≤ s.heap.objs.size := by rw [← hz1]; exact z
      omega
  have ho2 := k2 a o (Heap.get?_push_of_some _ ho)
  have hT2 : s₂.TypeIs (.ref a) "set" := ⟨o, ho2, hc⟩
  refine wpAny_bind (wpAny_holding ?_)
  unfold Builtin.List.listLengthHint
  refine wpAny_bind (wpAny_specialOf hT2 F.slot_set_len.lookup ?_)
  (generalize hid : ("set.__len__" : String) = id0; (fail_if_success (clear hid id0)); wp_delta; rw [show splitId id0 = some ("set", "__len__") from by subst hid; decide +kernel]; subst hid)
  refine wpAny_bind (wpAny_isInstance (b := true) hT2 sub_set_self ?_)
  show wpAny _ A.in1 (typeOf (.ref a) >>= _) _ _ _
  refine wpAny_bind (wpAny_typeOf hT2 ?_)
  refine wpAny_pure ?_
  show wpAny _ A.in1 (rule "list.extend.makes-room" >>= fun _ => Builtin.List.listTouch (.ref s.heap.objs.size) >>= fun _ =>
    again (.builtin "list.extend.loop" ⟨[.ref s.heap.objs.size, .ref I, .ref s.heap.objs.size], []⟩)) _ _ _
  refine wpAny_bind (wpAny_rule ?_)
  have hS2 := k2 _ _ hS
  refine wpAny_bind ?_
  show wpAny _ A.in1 (updateSeq s.heap.objs.size (·.push .none) >>= fun _ => updateSeq s.heap.objs.size (·.pop)) _ _ _
  refine wpAny_bind (wpAny_updateSeq hS2 rfl ?_)
  have hS3 := Heap.get?_update_self (Obj.mapSeq (·.push Value.none)) hS2 rfl
  refine wpAny_updateSeq hS3 rfl ?_
  have hS4 := Heap.get?_update_self (Obj.mapSeq (·.pop)) hS3 rfl
  have oth : ∀ b u, b ≠ s.heap.objs.size → s₂.heap.get? b = some u → ((s₂.heap.update s.heap.objs.size (Obj.mapSeq (·.push Value.none))).update s.heap.objs.size (Obj.mapSeq (·.pop))).get? b = some u :=
    fun b u hb e => (Heap.get?_update_other _ _ (Ne.symm hb)).trans ((Heap.get?_update_other _ _ (Ne.symm hb)).trans e)
  have hn : out.length ≤ sizeLine := by
    rw [hp.length_eq, List.length_map, Array.length_toList]
    exact hsz
  have W := hW A.in1 hh
  have hst2 : St 0 ((s₂.heap.update s.heap.objs.size (Obj.mapSeq (·.push Value.none))).update s.heap.objs.size (Obj.mapSeq (·.pop))) :=
    W.frame 0 _ _ hst fun b hb u e => oth b u (fun z => hSf (z ▸ hb)) e
  refine wpAny_pure ⟨plainId_quiet F.plain_extend_loop _, codeAny_extend_loopS W.toS hn _ hSf _ out.length 0 _ _ _ rfl (Nat.zero_le _) hst2 hS4 (ItemsOf.nil Pv) fun s' acc' c' hm hS' hacc => ?_⟩
  show wpAny _ A (load s.heap.objs.size >>= _) _ _ s'
  refine wpAny_bind (wpAny_load hS' ?_)
  have eo := items_out hacc hPv
  refine wpAny_pure ?_
  show Q acc'.toList s'
  rw [eo]
  refine hQ s' out (fun b u e => ?_) (Nat.le_of_lt (Heap.lt_size hS')) (Eq.trans hm.gens g2) (Eq.trans hm.os o2) hp
  have hbl : b < s.heap.objs.size := Heap.lt_size e
  refine hm.heap b u (fun z => ?_) (oth b u (Nat.ne_of_lt hbl) (k2 b u (Heap.get?_push_of_some _ e)))
  rcases List.mem_cons.mp z with z | z
  · first
      | exact absurd hbl (by rw [z]; exact Nat.lt_irrefl _)
      | exact absurd hbl (by rw [z]; exact Nat.not_lt_of_le (Nat.le_of_succ_le hI'))
  · have z := List.mem_singleton.mp z
    first
      | exact absurd hbl (by rw [z]; exact Nat.lt_irrefl _)
      | exact absurd hbl (by rw [z]; exact Nat.not_lt_of_le (Nat.le_of_succ_le hI'))

end
end CbT
/-! sets of tuples of ints: sorted, and the rules -/
namespace CbT
open PySem PySem.Spec PyProof.Rows L2
section
variable {P : Program} {w : World} {A : Around} {E : Value → Shared → Prop} {s : Shared} {a : Addr} {L : List (Addr × List Int)} {es : Array (Int × Value)} {ep : Nat} {t : SetTable}
theorem isIT_of {h : Heap} {k : List Int} {b : Addr} (x : IsT P w h k b) : CbS.IsIT h (.ref b) k := by
  obtain ⟨o, items, n, ho, hc, hd, hi⟩ := x
  exact ⟨b, items.toList, rfl, ⟨o, ho, hc, n, by simpa using hd⟩, ints_of_items hi⟩
theorem sortedG (R : SetG P w s.heap a L es ep t) (hh : A.handled = none) (hu : A.units + 8 < cLine) {k : Addr → List Int} (hk : ∀ p ∈ L, k p.1 = p.2) {Q : Value → Shared → Prop}
    (hQ : ∀ s' p (out : Array Value) (c : Nat) (ts : List Addr), (∀ b o, s.heap.get? b = some o → s'.heap.get? b = some o) → s'.gens = s.gens → s'.os = s.os → s.heap.objs.size ≤ p →
      s'.heap.get? p = some (seqObj "list" out c) → out.toList = ts.map Value.ref → ts.Perm (L.map (·.1)) → ts.Pairwise (fun p q => HT.lexLt (k q) (k p) = false) → Q (.ref p) s') :
    wpAny (model P w) A (call (.builtin "sorted") [.ref a]) Q E s := by
  obtain ⟨o, ho, hex, hd⟩ := R.ob
  have hsz := R.size
  have hfew := R.few
  refine Calls.call_function_entry kind_sorted plain_sorted entry_sorted (args_sorted1 _) ?_
  unfold Builtin.«sorted»
  refine wpAny_bind (m := checkCount "sorted" 1 1 _) (wpAny_pure ?_)
  refine wpAny_bind (collectG (A := A.in1) hh ⟨o, ho, hex.1, hd⟩ R.fits (by rw [sizeLine_eq]; omega) R.tab.ris R.led fun s1 vs k1 hz g1 o1 pm => ?_)
  have hes : es.toList.map (·.2) = (L.map (·.1)).map Value.ref := by
    rw [R.rows]
    unfold rowsOf
    rw [List.map_map, List.map_map] <;> rfl
  rw [hes] at pm
  have hvl : vs.length ≤ sizeLine := by rw [pm.length_eq, List.length_map, List.length_map, sizeLine_eq]; omega
  refine wpAny_bind (wpAny_newList ?_ hvl)
  have hoL : (s1.heap.push (seqObj "list" vs.toArray 0)).get? s1.heap.objs.size = some (seqObj "list" vs.toArray 0) := Heap.get?_push_size _ rfl
  have hv : ∀ v ∈ vs, CbS.IsIT (s1.heap.push (seqObj "list" vs.toArray 0)) v (k (adO v)) := fun v hm => by
    obtain ⟨b, hb, rfl⟩ := List.mem_map.mp (pm.mem_iff.mp hm)
    obtain ⟨p, hp, rfl⟩ := List.mem_map.mp hb
    have e : k (adO (Value.ref p.1)) = p.2 := hk p hp
    rw [e]
    exact isIT_of (isT_keep (R.tup p hp) fun b u e => Heap.get?_push_of_some _ (k1 b u e))
  have ha : ∀ v ∈ vs, v ≠ .ref s1.heap.objs.size := fun v hm z => by
    obtain ⟨b, hb, rfl⟩ := List.mem_map.mp (pm.mem_iff.mp hm)
    obtain ⟨p, hp, rfl⟩ := List.mem_map.mp hb
    obtain ⟨o2, _, _, ho2, _⟩ := R.tup p hp
    have z1 := Heap.lt_size (k1 _ _ ho2)
    exact Nat.ne_of_lt z1 (Value.ref.inj z)
  refine wpAny_bind (wpAny_holding (wpAny_call_entry slot_list_sort ⟨_, hoL, rfl⟩ entry_list_sort (SrtO.list_sort_ord (s := { s1 with heap := s1.heap.push (seqObj "list" vs.toArray 0) }) (NtL.swo_lexL fun u => k (adO u)) hoL hvl
    (fun h2 => CbS.its_sortable h2 (by show A.units + 1 + 1 < cLine; omega) hv ha) fun out hs hb => ⟨_, rfl, ?_⟩) (args_list_sort _)))
  obtain ⟨c, hc⟩ := sortedHeap_at (vs := vs) (out := out.toArray) hoL
  have eo : out = (out.map adO).map Value.ref := ref_map fun u hm => by
    obtain ⟨b, _, e⟩ := List.mem_map.mp (pm.mem_iff.mp (hb.perm.mem_iff.mp hm))
    exact ⟨b, e.symm⟩
  have hp : (out.map adO).Perm (L.map (·.1)) := by
    have p1 := (hb.perm.trans pm).map adO
    rw [ad_map] at p1
    exact p1
  have hss : (out.map adO).Pairwise (fun p q => HT.lexLt (k q) (k p) = false) := List.pairwise_map.mpr (hs.imp fun {x y} z => z)
  refine wpAny_pure ⟨_, rfl, hQ _ s1.heap.objs.size out.toArray c (out.map adO) (fun b u e => ?_) g1 o1 hz hc eo hp hss⟩
  have q := k1 b u e
  have hlt := Heap.lt_size q
  show (sortedHeap (s1.heap.push (seqObj "list" vs.toArray 0)) s1.heap.objs.size vs out.toArray).get? b = some u
  rw [sortedHeap_old (Nat.ne_of_lt hlt) (by rw [size_push']; exact Nat.lt_succ_of_lt hlt)]
  exact Heap.get?_push_of_some _ q
end
/-- the set at a, without the tuples themselves -/
structure SetG0 (P : Program) (w : World) (h : Heap) (a : Addr) (L : List (Addr × List Int)) : Prop where
  ex : ∃ (es : Array (Int × Value)) (ep : Nat) (t : SetTable), (∃ o, h.get? a = some o ∧ o.ExactSet ∧ o.data = .set es ep t) ∧ es.toList = rowsOf P w L ∧ TabG t (L.map fun p => thash P w p.2) ∧ (L.map (·.2)).Nodup ∧ t.plain = true ∧
    (w.params.followText "set-order" = true ∨ t.led = true) ∧ L.length * 5 < t.mask * 3 ∧ L.length ≤ 9000
def SetGO (P : Program) (w : World) (a : Addr) (L : List (Addr × List Int)) : HO := .ext fun h => SetG0 P w h a L
theorem SetG.g0 {h : Heap} {a : Addr} {L : List (Addr × List Int)} {es : Array (Int × Value)} {ep : Nat} {t : SetTable} {P : Program} {w : World} (R : SetG P w h a L es ep t) : SetG0 P w h a L :=
  ⟨es, ep, t, R.ob, R.rows, R.tab, R.nd, R.plain, R.led, R.room, R.few⟩
theorem SetG0.full {P : Program} {w : World} {h : Heap} {a : Addr} {L : List (Addr × List Int)} (R : SetG0 P w h a L) (ht : ∀ p ∈ L, IsT P w h p.2 p.1) : ∃ es ep t, SetG P w h a L es ep t := by
  obtain ⟨es, ep, t, h1, h2, h3, h4, h5, h6, h7, h8⟩ := R.ex
  exact ⟨es, ep, t, h1, h2, h3, h4, ht, h5, h6, h7, h8⟩
theorem setGO_new {P : Program} {w : World} {H : Hp} {h : Heap} {a : Addr} {L : List (Addr × List Int)} (R : SetG0 P w h a L) : ObjOk P w H h a (SetGO P w a L) := by
  have ⟨es, ep, t, ⟨o, ho, r⟩, q⟩ := R.ex
  refine ⟨R, ⟨o, ho⟩, fun h1 h2 p k => ?_⟩
  have ⟨es', ep', t', ⟨o', ho', r'⟩, q'⟩ := SetG0.ex p
  exact ⟨es', ep', t', ⟨o', k o' ho', r'⟩, q'⟩
section
variable {X : Cx}
/-- set(xs), xs a list of tuples of ints -/
def rSetG (K : PySem.W.Frag) (P : Program) (w : World) : List V → Hp → VK → Prop := fun xs H Q => ∃ (l : Addr) (ts : List Addr), xs = [V.ref l] ∧ SqL K H l (ts.map V.ref) ∧ (∀ t ∈ ts, H t = some (.tup ((Cb.kI H t).map V.int))) ∧ ts.length ≤ 9000 ∧
  ∀ a (us : List Addr), H a = none → (∀ t ∈ us, t ∈ ts) → (∀ t ∈ ts, Cb.kI H t ∈ us.map (Cb.kI H)) → (us.map (Cb.kI H)).Nodup → Q (.ref a) (upd H a (SetGO P w a (us.map fun u => (u, Cb.kI H u))))
theorem cr_setG (hc : X.calm = true) (hu : X.A.units + 64 < cLine) : CallR X (.type "set") (rSetG X.K X.prog X.w) := by
  intro pins s σ H xs us Q I r h
  obtain ⟨l, ts, rfl, hl, hk, hf, q⟩ := h
  rw [Vals.ref1 r]
  obtain ⟨its, rv, pl, hz⟩ := I.list hl
  have hn : H s.heap.objs.size = none := I.hok.fresh (Nat.le_refl _)
  have ei := nts_of rv
  have hT : ∀ t ∈ ts, IsT X.prog X.w s.heap (Cb.kI H t) t := fun t ht => I.isT (.inl (.inl (hk t ht)))
  refine call_set (P := X.prog) (w := X.w) (ts.map fun u => (u, Cb.kI H u)) (I.ok.hd hc) pl.isList (by rw [List.map_map]; exact ei) (fun p hp => ?_) (by rw [List.length_map]; exact hf) (by omega) fun h' tk L es ep t R g k => ?_
  · obtain ⟨u, hu, rfl⟩ := List.mem_map.mp hp
    exact hT u hu
  have sub : ∀ p ∈ L, ∃ u ∈ ts, (u, Cb.kI H u) = p := fun p hp => List.mem_map.mp (List.mem_of_mem_take (g.sub p hp))
  have eL : L = (L.map (·.1)).map fun u => (u, Cb.kI H u) := by
    rw [List.map_map]
    refine (List.map_id L).symm.trans (List.map_congr_left fun p hp => ?_)
    obtain ⟨u, _, rfl⟩ := sub p hp
    rfl
  have ek : L.map (·.2) = (L.map (·.1)).map (Cb.kI H) := by
    rw [List.map_map]
    refine List.map_congr_left fun p hp => ?_
    obtain ⟨u, _, rfl⟩ := sub p hp
    rfl
  have R0 := R.g0
  rw [eL] at R0
  refine ⟨.ref s.heap.objs.size, upd H s.heap.objs.size (SetGO X.prog X.w s.heap.objs.size ((L.map (·.1)).map fun u => (u, Cb.kI H u))), I.laid (t' := tk) k (Nat.le_refl _) (setGO_new R0), rfl, q _ (L.map (·.1)) hn (fun u hu => ?_) (fun u hu => ?_) ?_⟩
  · obtain ⟨p, hp, rfl⟩ := List.mem_map.mp hu
    obtain ⟨u, hm, rfl⟩ := sub p hp
    exact hm
  · rw [← ek]
    exact g.all (u, Cb.kI H u) (by rw [List.take_length]; exact List.mem_map.mpr ⟨u, hu, rfl⟩)
  · rw [← ek]
    exact R.nd
/-- sorted(set) -/
def rSortG (K : PySem.W.Frag) (P : Program) (w : World) : List V → Hp → VK → Prop := fun vs H Q => ∃ (a : Addr) (us : List Addr) (k : Addr → List Int), vs = [V.ref a] ∧ H a = some (SetGO P w a (us.map fun u => (u, k u))) ∧ (∀ u ∈ us, H u = some (.tup ((k u).map V.int))) ∧
  ∀ (ts : List Addr) (p : Addr), ts.Perm us → ts.Pairwise (fun p q => HT.lexLt (k q) (k p) = false) → H p = none → Q (.ref p) (upd H p (.lst (ts.map V.ref)))
theorem cr_sortG (hc : X.calm = true) (hu : X.A.units + 64 < cLine) : CallR X (.builtin "sorted") (rSortG X.K X.prog X.w) := by
  intro pins s σ H vs xs Q I r h
  obtain ⟨a, us, k, rfl, ha, hk, q⟩ := h
  have R0 : SetG0 X.prog X.w s.heap a (us.map fun u => (u, k u)) := (I.hok a _ ha).1
  obtain ⟨es, ep, t, R⟩ := R0.full fun p hp => by
    obtain ⟨u, hu, rfl⟩ := List.mem_map.mp hp
    exact I.isT (.inl (.inl (hk u hu)))
  rw [Vals.ref1 r]
  refine sortedG R (I.ok.hd hc) (by omega) (k := k) (fun p hp => by obtain ⟨u, hu, rfl⟩ := List.mem_map.mp hp; rfl) fun s' p out c ts kk g o hp hg hout pm pw => ?_
  have e1 : (us.map fun u => (u, k u)).map (·.1) = us := by rw [List.map_map]; exact List.map_id us
  rw [e1] at pm
  have hfew := R.few
  rw [List.length_map] at hfew
  have hlen : (ts.map V.ref).length ≤ sizeLine := by rw [List.length_map, pm.length_eq, sizeLine_eq]; omega
  have hn : H p = none := I.hok.fresh hp
  have hv : Vals (ts.map V.ref) out.toList := by rw [hout]; exact of_nts ts
  have J : Inv X pins σ (upd H p (.lst (ts.map V.ref))) { s with heap := s'.heap, gens := s'.gens, drawn := s'.drawn, toks := s'.toks } :=
    I.call (ch := []) (Un.laid kk hp hn) (I.hok.laid kk hp ⟨hlen, out.toList, c, hv, hg⟩) (by rw [g]; exact I.bare) (fun _ z => nomatch z)
  have e : s' = { s with heap := s'.heap, gens := s'.gens, drawn := s'.drawn, toks := s'.toks } := by
    cases s'
    cases s
    cases o
    rfl
  rw [e]
  exact ⟨.ref p, _, J, rfl, q ts p pm pw hn⟩
end
end CbT
/-! a lambda with one parameter, handed through two defs -/
namespace Cb
open PySem PySem.Spec PyProof.Rows L2 LamX NdefX
/-- the lambda at f and its cells, seen from the frames outer -/
structure LamC (F : NF) (params : Arguments) (body : Expr) (f : Addr) (fr : List Str) (ws : List (Option V)) (outer : List Env) (s : Shared) (H : Hp) : Prop where
  cells : CellsAt F.cl fr ws s.heap H
  nfr : ∀ y c, F.cl.lookup y = some c → c ∉ frs outer
  fn : ∃ pm ctv, s.heap.get? f = some (PySem.W.kla_obj "<lambda>" F.qual params body F.scope F.cl pm F.c ctv)
  ffree : H f = none
  ffr : f ∉ frs outer
section
variable {X : Cx} {pins : List (Addr × Obj)} {σ : L2.St} {H : Hp} {s : Shared} {F : NF} {params : Arguments} {body : Expr} {f : Addr} {fr : List Str} {ws : List (Option V)}
theorem LamC.later (C : LamC F params body f fr ws X.outer X.s_0 X.H_0) (hx : X.ex = []) (hs : frs X.stack = X.s_0.heap.objs.size :: frs X.outer) (I : Inv X pins σ H s) : LamC F params body f fr ws X.stack s H := by
  have nx : ∀ b : Addr, b ∉ X.ex := fun b z => by rw [hx] at z; cases z
  obtain ⟨pm, ctv, ho⟩ := C.fn
  refine ⟨C.cells.later C.nfr (fun _ c _ => nx c) I, fun y c e z => ?_, ⟨pm, ctv, I.base.keep f _ ho C.ffree C.ffr (nx f)⟩, I.base.free f _ ho C.ffree (nx f), fun z => ?_⟩
  · rw [hs] at z
    rcases List.mem_cons.mp z with z | z
    · obtain ⟨_, v, o, hc, _⟩ := C.cells.all y c e
      exact Nat.ne_of_lt (Heap.lt_size hc) z
    · exact C.nfr y c e z
  · rw [hs] at z
    rcases List.mem_cons.mp z with z | z
    · exact Nat.ne_of_lt (Heap.lt_size ho) z
    · exact C.ffr z
/-- a(e), a a name that holds the lambda -/
theorem pe_key {N ps : List Str} {k i : Nat} {a : Str} {e : Expr} {es : List Expr} {t : TA} {tb : TE} {p pos : Pos}
    (S : NScope N ps fr F.scope) (hL : ∀ pins σ H s, Inv X pins σ H s → LamC F params body f fr ws X.stack s H) (hr : Room (k + 1) X.A)
    (hbind : ∀ (pm ctv : Value) (us : List Value), us.length = ps.length → bindArgs (PySem.W.kla_fn "<lambda>" F.qual params body F.scope F.cl pm (.ref F.c) ctv) ⟨us, []⟩ = pure (ps.zip us))
    (hbody : ∀ (A : Around) (outer : List Env) (s : Shared) (H : Hp), Room k (A.deeper (envF F f s.heap.objs.size)) → PE (ncx CX0 X.prog X.w X.K X.mg X.base N F f A outer s H E0) body tb)
    (hN : X.N[i]? = some a) (hv : Vis X.env.scope a) (ha : PA X (e :: es) t)
    (hd : (a == ("__debug__" : Str)) = false := by decide) (hcd : (a == ("__classdict__" : Str)) = false := by decide)
    (he : starEach (e :: es) X.env = (false, eval e X.env) :: starEach es X.env := by rfl) (hpl : (backTo pos (starEach es X.env)).any (·.1) = false := by rfl) :
    PE X (.Call (.Name a p) (e :: es) [] pos) (fun σ H Q => σ[i]? = some (some (.ref f)) ∧ t σ H fun vs H1 => vs.length = ps.length ∧ H1 F.c = some (CodeO F.c F.qual) ∧ tb (startF N vs ws) H1 Q) := by
  refine ⟨fun pins s σ H Q I h => ?_⟩
  obtain ⟨hs, ht⟩ := h
  refine wpAny_Call_Name_kw (thn ((pe_var (pos := p) hN hv hd hcd).run pins s σ H (fun v H1 => v = .ref f ∧ H1 = H) I ⟨.ref f, hs, rfl, rfl⟩) fun u s1 ⟨v, H1, I1, r1, q1⟩ => ?_)
  obtain ⟨ev, eH⟩ := q1
  subst ev
  rw [eH] at I1
  obtain rfl : u = Value.ref f := r1
  have fnAt : ∀ {pins σ H s}, Inv X pins σ H s → PySem.W.FnAt f s.heap := fun I => by
    obtain ⟨pm, ctv, ho⟩ := (hL _ _ _ _ I).fn
    exact ⟨_, _, _, _, ho⟩
  refine PySem.W.callWith_F (first := []) (fnAt I1) (thn (ha.run pos pins s1 σ H _ I1 ht) fun us s2 ⟨vs, H2, I2, r, hl, hc, q⟩ => ⟨fnAt I2, ?_⟩) he hpl
  show wpAny _ _ (call (.ref f) us) _ _ _
  have C := hL _ _ _ _ I2
  obtain ⟨pm, ctv, ho⟩ := C.fn
  have e0 := I2.env0
  have lim : s2.heap.NoLimit := I2.nolimit
  have rc : codeAny (model X.prog X.w) X.A (.call (.ref f) ⟨us, []⟩) (L2.CR CX0 X.stack X.prog X.w H2 s2 Q E0) s2 := by
    refine PySem.W.kla_callFunE hr.depth ho rfl S.co S.gen rfl (codeO_at I2.hok hc) ?_
    rw [hbind pm ctv us (by rw [← r.length]; exact hl)]
    refine wpAny_pure (wpAny_newFunctionEnv S.nocell (fun ⟨n, _⟩ hy => S.par n (List.of_mem_zip hy).1) (fun h₁ hns hsb => ⟨lim.fresh _ hsb, ?_⟩) S.kind)
    show codeAny _ _ (.expr body (envF F f s2.heap.objs.size)) _ _
    have kp : ∀ b o, s2.heap.get? b = some o → h₁.get? b = some o := fun b o e => hsb.extBut b o (Nat.ne_of_lt (Heap.lt_size e)) (Heap.get?_push_of_some _ e)
    have J : Inv (ncx CX0 X.prog X.w X.K X.mg X.base N F f X.A X.stack s2 H2 E0) [] (startF N vs ws) H2 { s2 with heap := h₁, toks := s2.toks + (ps.zip us).length } := inv_startN S hr.hd e0 hl r C.cells hns kp
    refine PySem.W.kla_codeExpr (wpAny_mono ((hbody _ _ s2 H2 (hr.deeper _)).run [] _ _ H2 Q J q) (fun v s' hq => ?_) fun e s' hq => ?_)
    · obtain ⟨w', H', J', rv, q⟩ := hq
      exact ⟨w', H', J'.os, J'.bare, J'.base, J'.hok, rv, q⟩
    · exact hq
  refine wpAny_call (codeAny_mono rc fun r s' hq => ?_)
  cases r with
  | error e => exact hq.elim
  | ok fl =>
    cases fl with
    | ret u => exact I2.after hq
    | next => exact False.elim hq
    | brk => exact False.elim hq
    | cont => exact False.elim hq
end
/-- a def's promise, its code object told -/
theorem fnOk_cd {P : Program} {w : World} {K : PySem.W.Frag} {mg : Str → Option Value} {base : Heap} {x qual : Str} {st : Stmt} {d : Str × Option Str} {fd : FuncData} {N ps : List Str} {k : Nat} {sp : Sp} (F : FunD K x qual (defArgs st) (defBody st) (defScope st) [] [] (He.fAd K d) fd) (S : FnScope N ps (defScope st)) (len : ∀ vs H Q E, sp vs H Q E → vs.length = ps.length)
    (hbody : ∀ (A : Around) (outer : List Env) (s : Shared) (H : Hp) (vs : List V) (Q : VK) (E : XK), Room k (A.deeper (envOfC qual (defScope st) s.heap.objs.size (He.fAd K d) (.ref (He.codeOf K d)))) → sp vs H Q E →
      ∃ t, PSs (cxOf CX0 P w K mg base N qual (defScope st) (He.fAd K d) (.ref (He.codeOf K d)) A outer s H E).nox (defBody st) t ∧ t { nx := fun _ H' => Q .non H', rt := Q } (start N vs) H) : FnOk P w K mg base CX0 (k + 1) (He.fAd K d) fd ps sp := by
  obtain ⟨oc, od, dV, kV, doc, pm, an, cdv, ct, osl, rfl, lk, hcd, hdv, _⟩ := F.ex
  refine ⟨len, fun A outer s H args us vs Q E hr e0 hb r h => ?_⟩
  refine run_ofS lk hcd S hr e0 hb r (len _ _ _ _ h) fun hr' => ?_
  obtain ⟨c, ec⟩ := He.codeIn_ref hcd
  subst ec
  have e := He.codeOf_eq lk rfl
  obtain ⟨t, ht, hq⟩ := hbody A outer s H vs Q E (by rw [e]; exact hr') h
  rw [e] at ht
  exact ⟨t, ht.nox, hq⟩
/-- a def that is called at states of the kind C only -/
structure CalC (P : Program) (w : World) (K : PySem.W.Frag) (mg : Str → Option Value) (base : Heap) (C : List Env → Shared → Hp → Prop) (k : Nat) (x : Str) (sp : Sp) : Prop where
  ex : ∃ (f : Addr) (fd : FuncData) (ps : List Str), (∀ vs H Q E, sp vs H Q E → vs.length = ps.length) ∧
    (∀ (A : Around) (outer : List Env) (s : Shared) (H : Hp) (args : Args) (us : List Value) (vs : List V) (Q : VK) (E : XK), Room k A → Env0 P w K mg base A outer s H → C outer s H → BindsTo s fd args (ps.zip us) → Vals vs us → sp vs H Q E →
      codeAny (model P w) A (.call (.ref f) args) (L2.CR CX0 outer P w H s Q E) s) ∧ mg x = some (.ref f) ∧ PySem.W.keepIn K (.ref f) = true ∧ Binds K fd ps []
section
variable {P : Program} {w : World} {K : PySem.W.Frag} {mg : Str → Option Value} {base : Heap} {C : List Env → Shared → Hp → Prop}
theorem mkCalC {x : Str} {st : Stmt} {f : Addr} {fd : FuncData} {N ps : List Str} {k : Nat} {sp : Sp} (F : FunD K x x (defArgs st) (defBody st) (defScope st) [] [] f fd) (hm : mg x = some (.ref f)) (S : FnScope N ps (defScope st)) (b : BindAll x x st ps)
    (len : ∀ vs H Q E, sp vs H Q E → vs.length = ps.length)
    (hbody : ∀ (cdv : Value) (A : Around) (outer : List Env) (s : Shared) (H : Hp) (vs : List V) (Q : VK) (E : XK), C outer s H → Room k (A.deeper (envOfC x (defScope st) s.heap.objs.size f cdv)) → sp vs H Q E →
      ∃ t, PSs (cxOf CX0 P w K mg base N x (defScope st) f cdv A outer s H E).nox (defBody st) t ∧ t { nx := fun _ H' => Q .non H', rt := Q } (start N vs) H) : CalC P w K mg base C (k + 1) x sp := by
  obtain ⟨oc, od, dV, kV, doc, pm, an, cdv, ct, osl, rfl, lk, hcd, hdv, _⟩ := id F.ex
  refine ⟨f, _, ps, len, fun A outer s H args us vs Q E hr e0 hC hb r h => ?_, hm, F.kp, F.bindsN b⟩
  refine run_ofS lk hcd S hr e0 hb r (len _ _ _ _ h) fun hr' => ?_
  obtain ⟨t, ht, hq⟩ := hbody cdv A outer s H vs Q E hC hr' h
  exact ⟨t, ht.nox, hq⟩
end
section
variable {X : Cx} {C : List Env → Shared → Hp → Prop}
theorem run_cC {pins : List (Addr × Obj)} {σ : L2.St} {H : Hp} {s : Shared} {Q : VK} {f : Addr} {fd : FuncData} {ps : List Str} {us : List Value} {vs : List V} {sp : Sp} {k : Nat}
    (len : ∀ vs H Q E, sp vs H Q E → vs.length = ps.length)
    (run : ∀ (A : Around) (outer : List Env) (s : Shared) (H : Hp) (args : Args) (us : List Value) (vs : List V) (Q : VK) (E : XK), Room k A → Env0 X.prog X.w X.K X.mg X.base A outer s H → C outer s H → BindsTo s fd args (ps.zip us) → Vals vs us → sp vs H Q E →
      codeAny (model X.prog X.w) A (.call (.ref f) args) (L2.CR CX0 outer X.prog X.w H s Q E) s) (hr : Room k X.A) (hb : Binds X.K fd ps []) (I : Inv X pins σ H s) (hC : C X.stack s H) (r : Vals vs us) (h : sp vs H Q E0) :
    wpAny (model X.prog X.w) X.A (call (.ref f) us) (EP X pins σ Q) X.xe s := by
  have hl : (us ++ []).length = ps.length := by rw [List.append_nil, ← r.length]; exact len _ _ _ _ h
  have hb' := hb s us I.kIn hl
  rw [List.append_nil] at hb'
  refine wpAny_call (codeAny_mono (run X.A X.stack s H ⟨us, []⟩ us vs Q E0 hr I.env0 hC hb' r h) fun r s' hq => ?_)
  cases r with
  | error e => exact hq.elim
  | ok fl =>
    cases fl with
    | ret u => exact I.after hq
    | next => exact False.elim hq
    | brk => exact False.elim hq
    | cont => exact False.elim hq
theorem pe_cC {x : Str} {sp : Sp} {k j : Nat} {e : Expr} {es : List Expr} {t : TA} {p pos : Pos} (c : CalC X.prog X.w X.K X.mg X.base C k x sp) (hC : ∀ pins σ H s, Inv X pins σ H s → C X.stack s H) (hr : Room j X.A) (hk : k ≤ j) (hg : Gl X x) (ha : PA X (e :: es) t)
    (hdb : (x == ("__debug__" : Str)) = false := by decide) (he : starEach (e :: es) X.env = (false, eval e X.env) :: starEach es X.env := by rfl) (hpl : (backTo pos (starEach es X.env)).any (·.1) = false := by rfl) :
    PE X (.Call (.Name x p) (e :: es) [] pos) (tCall sp [] E0 t) := by
  obtain ⟨f, fd, ps, len, run, hm, kp, hb⟩ := c.ex
  refine ⟨fun pins s σ H Q I h => ?_⟩
  refine wpAny_Call_Name_kw (ld_glob I hg hm ?_ hdb)
  refine PySem.W.callWith_K (h₀ := X.base) I.ok.mod.kin kp (thn (ha.run pos pins s σ H _ I h) fun us s1 ⟨vs, H1, I1, r, q⟩ => ⟨I1.kIn, ?_⟩) he hpl
  have q : sp (vs ++ []) H1 Q E0 := q
  rw [List.append_nil] at q
  exact run_cC len run (hr.mono hk) hb I1 (hC _ _ _ _ I1) r q
/-- the lambda as the third of three arguments -/
theorem pe_lam3 {T : List (Addr × Str)} {x y z fv : Str} {c P : Addr} {k j i1 i2 m : Nat} {params : Arguments} {body : Expr} {scope : Scope} {sp : Addr → Addr → Option V → Sp} {p p1 p2 lpos pos : Pos}
    (cc : ∀ (f c' : Addr) (v : Option V), CalC X.prog X.w X.K X.mg X.base (LamC ⟨"<lambda>", X.env.qual ++ "<lambda>", params, [], scope, cloFrom X.env.cells scope.names [], c'⟩ params body f [fv] [v]) k x (sp f c' v))
    (hr : Room j X.A) (hk : k ≤ j) (hg : Gl X x) (hN1 : X.N[i1]? = some y) (hv1 : Vis X.env.scope y) (hN2 : X.N[i2]? = some z) (hv2 : Vis X.env.scope z)
    (TB : TabB X.base X.mg c P) (hcode : X.env.code = .ref c) (hmT : (P, X.env.qual ++ "<lambda>") ∈ T) (hu : ∀ p ∈ T, p.1 = P → p.2 = X.env.qual ++ "<lambda>") (hdef : defaultsOf params X.env = ([], []))
    (hfree : ∀ y ∈ scope.names, y.2 = .free → X.env.scope.names.lookup y.1 = some .cell ∨ X.env.scope.names.lookup y.1 = some .free) (hfr : (fv, NameKind.free) ∈ scope.names) (hm : X.N[m]? = some fv)
    (hfnn : ∀ y, X.fn y = true)
    (hdb : (x == ("__debug__" : Str)) = false := by decide) (hd1 : (y == ("__debug__" : Str)) = false := by decide) (hc1 : (y == ("__classdict__" : Str)) = false := by decide) (hd2 : (z == ("__debug__" : Str)) = false := by decide) (hc2 : (z == ("__classdict__" : Str)) = false := by decide) :
    PE X (.Call (.Name x p) [.Name y p1, .Name z p2, .Lambda params body scope lpos] [] pos)
      (fun σ H Q => Tabs T H ∧ ∃ a b, σ[i1]? = some (some a) ∧ σ[i2]? = some (some b) ∧ ∀ f c' H1, ExtN H H1 → Tabs T H1 → H1 c' = some (CodeO c' (X.env.qual ++ "<lambda>")) → sp f c' (NdefX.slotAt σ m) [a, b, .ref f] H1 Q E0) := by
  refine ⟨fun pins s σ H Q I h => ?_⟩
  obtain ⟨hT, a, b, ea, eb, h⟩ := h
  have kp : ∃ g, X.mg x = some (.ref g) ∧ PySem.W.keepIn X.K (.ref g) = true := by
    obtain ⟨g, fd, ps, len, run, hm, kp, hb⟩ := (cc 0 0 none).ex
    exact ⟨g, hm, kp⟩
  obtain ⟨g, hmg, hkp⟩ := kp
  refine wpAny_Call_Name_kw (ld_glob I hg hmg ?_ hdb)
  refine PySem.W.callWith_K (h₀ := X.base) I.ok.mod.kin hkp ?_ (by rfl) (by rfl)
  show wpAny _ _ (spliced ((false, eval (.Name y p1) X.env) :: (false, eval (.Name z p2) X.env) :: (false, eval (.Lambda params body scope lpos) X.env) :: backTo pos (starEach [] X.env))) _ _ s
  refine Calls.spliced_cons (thn ((pe_var (pos := p1) hN1 hv1 hd1 hc1).run pins s σ H (fun v H1 => v = a ∧ H1 = H) I ⟨a, ea, rfl, rfl⟩) fun u1 s1 ⟨v1, H1, I1, r1, q1⟩ => ?_)
  obtain ⟨ev1, eH1⟩ := q1
  rw [eH1] at I1
  rw [ev1] at r1
  refine Calls.spliced_cons (thn ((pe_var (pos := p2) hN2 hv2 hd2 hc2).run pins s1 σ H (fun v H1 => v = b ∧ H1 = H) I1 ⟨b, eb, rfl, rfl⟩) fun u2 s2 ⟨v2, H2, I2, r2, q2⟩ => ?_)
  obtain ⟨ev2, eH2⟩ := q2
  rw [eH2] at I2
  rw [ev2] at r2
  have cp : Caps X (cloFrom X.env.cells scope.names []) [fv] [m] := Caps.made I.ok hfree (fun y hy => by rw [List.mem_singleton.mp hy]; exact hfr) (by rw [List.map_cons, List.map_nil, hm]; rfl)
  have hf2 : ∀ y ∈ scope.names, y.2 = .free → ∃ c, X.env.cells.lookup y.1 = some c := fun y hy e => (hfree y hy e).elim (fun z => I.ok.has _ (.inl z)) fun z => I.ok.has _ (.inr z)
  refine Calls.spliced_cons (lam_make2 I2 TB hcode hmT hu hT hdef hf2 fun f c' pm' ctv H3 s3 I3 eN T3 hf hfn hfs hco => ?_)
  refine Calls.spliced_nil ⟨I3.kIn, ?_⟩
  have hcf : ∀ (y : Str) (c : Addr), X.env.cells.lookup y = some c → c ∉ frs X.stack := fun y c e z => by
    rcases List.mem_cons.mp (I3.stkSub _ z) with q | q
    · exact I3.cne y c e q
    · obtain ⟨_, o, ho, _⟩ := I3.ok.funs.mem q
      exact Nat.not_lt_of_le (I3.ok.cab y c (hfnn y) e) (Heap.lt_size ho)
  obtain ⟨g', fd, ps, len, run, hm', kp', hb⟩ := (cc f c' (NdefX.slotAt σ m)).ex
  rw [hmg] at hm'
  cases hm'
  refine run_cC (vs := [a, b, .ref f]) len run (hr.mono hk) hb I3 ⟨cells_of I3 cp, fun y c e z => hcf y c (cp.sub y c e) z, ⟨pm', ctv, hf⟩, hfn, hfs⟩ (.cons r1 (.cons r2 (.cons rfl .nil))) (h f c' H3 eN T3 hco)
end
end Cb
namespace Cb
open PySem PySem.Spec PyProof.Rows L2
section
variable {P : Program} {w : World} {K : PySem.W.Frag} {mg : Str → Option Value} {base : Heap}
/-! ### the lambda of Seen's making -/
def lamE : Expr → Arguments × Expr × Scope
  | .Call _ [_, _, .Lambda p b s _] _ _ => (p, b, s)
  | _ => (⟨[], [], none, [], [], none, []⟩, .Constant .none 0 ⟨0, 0, 0, 0⟩, ⟨.function, [], false, false, []⟩)
def lamS : List Stmt → Arguments × Expr × Scope
  | .Assign _ e _ :: _ => lamE e
  | _ => lamE (.Constant .none 0 ⟨0, 0, 0, 0⟩)
abbrev lamP : Arguments := (lamS (defBody s_Seen_init)).1
abbrev lamB : Expr := (lamS (defBody s_Seen_init)).2.1
abbrev lamSc : Scope := (lamS (defBody s_Seen_init)).2.2
abbrev lamN : List Str := ["thing", "sizes"]
theorem sc_lam : NdefX.NScope lamN ["thing"] ["sizes"] lamSc := NdefX.nscope_by (by decide +kernel)
/-- the lambda, its cells at cl, its code object at c' -/
abbrev lamF (ql : Str) (cl : List (Str × Addr)) (c' : Addr) : NdefX.NF := ⟨"<lambda>", ql, lamP, [], lamSc, cl, c'⟩
/-- a row of a table: a view and its share -/
def RwAt (t : Int) (H : Hp) (x : V) (r : List Int × Int) : Prop := ∃ (p : Addr) (y z : V), x = .ref p ∧ H p = some (.tup [y, z]) ∧ TIn H y r.1 ∧ TIn H z (lw r.2 t)
theorem RwAt.sm {t : Int} {H H' : Hp} {x : V} {r : List Int × Int} (h : RwAt t H x r) (e : Same H H') : RwAt t H' x r := by
  obtain ⟨p, y, z, h1, h2, h3, h4⟩ := h
  exact ⟨p, y, z, h1, e _ _ h2, h3.tk (sm_tk e), h4.tk (sm_tk e)⟩
/-- the rows that Seen takes -/
structure RowsG (sz : List Nat) (rs : List (List Int × Int)) (t : Int) : Prop where
  pos : ∀ r ∈ rs, 0 < r.2
  sum : (rs.map (·.2)).sum = t
  tpos : 0 < t
  top : t < 2 ^ 64
  vlen : ∀ r ∈ rs, r.1.length = sz.length
  vbd : ∀ r ∈ rs, ∀ (i : Nat) (x : Int) (n : Nat), r.1[i]? = some x → sz[i]? = some n → -1 ≤ x ∧ x < n
  asc : rs.Pairwise fun r s => HT.lexLt r.1 s.1 = true
  len : rs.length ≤ 1000
def spWrong (ql : Str) (f c' : Addr) (v : Option V) : Sp := fun vs H Q _ => ∃ (sa : Addr) (xs : List V) (rs : List (List Int × Int)) (t : Int) (sv : V) (sz : List Nat), vs = [.ref sa, .ref f] ∧ TupF H sa xs ∧ P2 (RwAt t H) xs rs ∧ v = some sv ∧ TIn H sv (isz sz) ∧ sz.length ≤ 4 ∧ RowsG sz rs t ∧
  H c' = some (LamX.CodeO c' ql) ∧ ∀ H', Same H H' → Q .non H'
abbrev N_first_wrong : List Str := ["shares", "is_key", "last", "at", "item"]
theorem sc_first_wrong : FnScope N_first_wrong ["shares", "is_key"] (defScope s_first_wrong) := ⟨rfl, rfl, rfl, by decide +kernel, rfl, by decide +kernel, by decide +kernel⟩
theorem cal_first_wrong (T : Txt w K mg) (ql : Str) (f c' : Addr) (v : Option V) (cl : List (Str × Addr)) : CalC P w K mg base (LamC (lamF ql cl c') lamP lamB f ["sizes"] [v]) 5 "first_wrong" (spWrong ql f c' v) := by
  have c_is_pair := cal_is_pair (P := P) (base := base) T
  have c_is_fraction := cal_is_fraction (P := P) (base := base) T
  have c_is_view := cal_is_view (P := P) (base := base) T
  refine mkCalC T.F_first_wrong T.g_first_wrong sc_first_wrong (fun _ _ _ _ _ _ us hl => match us, hl with | [_, _], _ => rfl) (fun vs H Q E h => ?_) (fun cdv A outer s H vs Q E hC hr h => ?_)
  · obtain ⟨sa, xs, rs, t, sv, sz, rfl, hsa, hxs, rfl, hsv, l4, G, hco, Qk⟩ := h
    rfl
  obtain ⟨sa, xs, rs, t, sv, sz, rfl, hsa, hxs, rfl, hsv, l4, G, hco, Qk⟩ := h
  have hL := fun pins σ H1 s1 (I : Inv (cxOf CX0 P w K mg base N_first_wrong "first_wrong" (defScope s_first_wrong) (He.ga K "first_wrong") cdv A outer s H E).nox pins σ H1 s1) => LamC.later hC rfl rfl I
  have nd := sc_first_wrong.nd
  have hu := hu_of hr
  refine ⟨_, (pss_cons (ps_set (i := 2) nd rfl (Or.inl rfl) pe_non)
    (pss_cons (ps_for PassesOwn.never rfl (pi_enumT (by rfl) T.z_enumerate (pa_cons (pv 0) pa_nil)) (pg_tup rfl (pgs_cons (pg_name (i := 3) nd rfl (Or.inl rfl)) (pgs_cons (pg_name (i := 4) nd rfl (Or.inl rfl)) pgs_nil)))
    (pss_cons (ps_if (PW.pt (pw_or (pt_not (pt_val (C8.pe_c c_is_pair hr (by decide) rfl (pa_cons (pv 4) pa_nil)))) (pw_or (pt_not (pt_val (pe_key (N := lamN) (ps := ["thing"]) (k := 3) (i := 1) sc_lam hL hr (fun _ _ us hl => match us, hl with | [_], _ => rfl) (fun A outer s H hr => C8.pe_c c_is_view hr (by decide) rfl (pa_cons (pv 1) (pa_cons (pv 0) pa_nil))) rfl (Or.inl rfl) (pa_cons (pe_ix ix_tup (pv 4) pe_int (fun _ _ => rfl)) pa_nil)))) (pw_or (pt_not (pt_val (C8.pe_c c_is_fraction hr (by decide) rfl (pa_cons (pe_ix (r := rIxT K) ix_tup (pv 4) pe_int (fun _ _ => rfl)) pa_nil)))) (pw_or1 (pt_cmpR op_le (pe_ix (r := rIxT K) ix_tup (pe_ix (r := rIxT K) ix_tup (pv 4) pe_int (fun _ _ => rfl)) pe_int (fun _ _ => rfl)) pe_int (nomark _)))))))
    (pss_one (ps_ret (pv 3)))
    pss_nil)
    (pss_cons (ps_if (PW.pt (pw_and (pt_cmpR op_notN (pv 2) pe_non (nomark _)) (pw_and1 (pt_not (pt_cmpR (r := rLtT K) (op_ltT hr.units0) (pv 2) (pe_ix (r := rIxT K) ix_tup (pv 4) pe_int (fun _ _ => rfl)) (nomark _))))))
    (pss_one (ps_ret (pv 3)))
    pss_nil)
    (pss_one (ps_set (i := 2) nd rfl (Or.inl rfl) (pe_ix (r := rIxT K) ix_tup (pv 4) pe_int (fun _ _ => rfl)))))))
    (pss_one (ps_ret pe_non)))), ?_⟩
  have hsT : SqT K H sa xs := hsa.sq
  refine ⟨_, rfl, sa, _, rfl, hsT, ?_⟩
  refine for_it (walk_enumT (xs := xs)) (fun i σ H2 => Same H H2 ∧ ∃ (lv : V) (z3 z4 : Option V), σ = [some (.ref sa), some (.ref f), some lv, z3, z4] ∧ (i = 0 → lv = .non) ∧ ∀ j r, i = j + 1 → rs[j]? = some r → TIn H2 lv r.1) ⟨Same.refl H, .non, _, _, rfl, fun _ => rfl, fun j r e => by omega⟩ (fun i σ H2 _ h => (hsa.sm h.1).sq) ?_ ?_
  · rintro i _ σ H2 _ hi ⟨s2, lv, z3, z4, rfl, h0, hp1⟩ ⟨T', y0, x, rfl, nT, rfl, hy0, hx⟩
    cases hy0
    obtain ⟨r, hri, hxr⟩ := hxs.at_ hx
    have hrm := List.mem_of_getElem? hri
    have sT := sm_up (o := .tup [V.int (i : Nat), x]) nT
    have s3 := s2.trans sT
    obtain ⟨p, y, z, rfl, hp, hy, hz⟩ := hxr.sm s3
    have hpS : SqT K _ p [y, z] := SqT.of hp
    obtain ⟨za, rfl, hza⟩ := hz
    have lp := lt_pos (n := r.2) G.tpos (G.pos r hrm)
    have lbp := lb_pos (n := r.2) G.tpos
    have hzS : SqT K _ za [V.int (lt1 r.2 t), V.int (lb r.2 t)] := SqT.of hza
    have hz : TIn _ (.ref za) [lt1 r.2 t, lb r.2 t] := ⟨za, rfl, hza⟩
    refine ⟨T', _, rfl, SqT.of upd_same, rfl, _, _, rfl, _, _, rfl, rfl, ?_⟩
    refine ⟨_, rfl, p, _, rfl, hpS, _, rfl, iteF ?_⟩
    refine ⟨rfl, _, rfl, p, _, _, _, rfl, rfl, hpS, rfl, rfl, s3 _ _ hco, _, rfl, _, rfl, sv, y, sz, r.1, rfl, hsv.tk (sm_tk s3), hy, G.vlen r hrm, l4, G.vbd r hrm, fun H4 s4 => ?_⟩
    refine ⟨_, rfl, iteF ?_⟩
    refine ⟨_, rfl, p, _, _, _, rfl, rfl, SqT.of (s4 _ _ hp), rfl, _, _, _, rfl, hz.tk (sm_tk s4), lbp, cop G.tpos, _, rfl, iteF ?_⟩
    refine ⟨_, rfl, p, _, _, _, rfl, rfl, SqT.of (s4 _ _ hp), rfl, za, _, _, _, rfl, rfl, SqT.of (xs := [V.int (lt1 r.2 t), V.int (lb r.2 t)]) (s4 _ _ hza), rfl, _, _, rfl, rfl, _, rfl, iteFd (by rw [decide_eq_false (by omega)]) ?_⟩
    have done : ∀ H5, Same H4 H5 → Same H H5 ∧ ∃ (lv' : V) (z3 z4 : Option V), [some (V.ref sa), some (V.ref f), some y, some (V.int (i : Nat)), some (V.ref p)] = [some (V.ref sa), some (V.ref f), some lv', z3, z4] ∧ (i + 1 = 0 → lv' = .non) ∧ ∀ j r, i + 1 = j + 1 → rs[j]? = some r → TIn H5 lv' r.1 := fun H5 s5 => by
      refine ⟨(s3.trans s4).trans s5, y, _, _, rfl, fun e => by omega, fun j r' e hr' => ?_⟩
      have ej : j = i := by omega
      rw [ej, hri] at hr'
      cases hr'
      exact hy.tk (sm_tk (s4.trans s5))
    cases i with
    | zero =>
      have hlv := h0 rfl
      subst hlv
      refine ⟨_, rfl, rfl, _, rfl, iteF ?_⟩
      exact ⟨_, rfl, p, _, _, _, rfl, rfl, SqT.of (s4 _ _ hp), rfl, done H4 (Same.refl _)⟩
    | succ j =>
      have hjr : j < rs.length := by
        have := (List.getElem?_eq_some_iff.mp hri).1
        omega
      have hlt := hp1 j rs[j] rfl (List.getElem?_eq_getElem hjr)
      obtain ⟨la, rfl, hla⟩ := hlt.tk (sm_tk (sT.trans s4))
      obtain ⟨ya, rfl, hya⟩ := hy.tk (sm_tk s4)
      have lt : HT.lexLt rs[j].1 r.1 = true := by
        have er : r = rs[j + 1]'(List.getElem?_eq_some_iff.mp hri).1 := ((List.getElem?_eq_some_iff.mp hri).2).symm
        rw [er]
        exact List.pairwise_iff_getElem.mp G.asc j (j + 1) hjr _ (by omega)
      refine ⟨_, rfl, rfl, _, rfl, iteT ?_⟩
      refine ⟨_, rfl, _, rfl, p, _, _, _, rfl, rfl, SqT.of (s4 _ _ hp), rfl, la, ya, _, _, rfl, rfl, SqT.of hla, SqT.of hya, _, rfl, iteFd (by rw [lt]; rfl) ?_⟩
      exact ⟨_, rfl, p, _, _, _, rfl, rfl, SqT.of (s4 _ _ hp), rfl, done H4 (Same.refl _)⟩
  · rintro σ H2 ⟨s2, lv, z3, z4, rfl, _, _⟩
    exact Qk H2 s2

end
end Cb
namespace Cb
open PySem PySem.Spec PyProof.Rows L2
section
variable {P : Program} {w : World} {K : PySem.W.Frag} {mg : Str → Option Value} {base : Heap}
/-! ### first_bad, Seen -/
def spBad (ql : Str) (f c' : Addr) (v : Option V) : Sp := fun vs H Q _ => ∃ (sa : Addr) (xs : List V) (rs : List (List Int × Int)) (t : Int) (sv : V) (sz : List Nat), vs = [sv, .ref sa, .ref f] ∧ TupF H sa xs ∧ P2 (RwAt t H) xs rs ∧ v = some sv ∧ TIn H sv (isz sz) ∧ Sz sz ∧ RowsG sz rs t ∧
  H c' = some (LamX.CodeO c' ql) ∧ ∀ H', Same H H' → Q .non H'
abbrev N_first_bad : List Str := ["sizes", "shares", "is_key", "wrong", "key", "share"]
theorem sc_first_bad : FnScope N_first_bad ["sizes", "shares", "is_key"] (defScope s_first_bad) := ⟨rfl, rfl, rfl, by decide +kernel, rfl, by decide +kernel, by decide +kernel⟩
theorem cal_first_bad (T : Txt w K mg) (ql : Str) (f c' : Addr) (v : Option V) (cl : List (Str × Addr)) : CalC P w K mg base (LamC (lamF ql cl c') lamP lamB f ["sizes"] [v]) 6 "first_bad" (spBad ql f c' v) := by
  have c_is_sizes := cal_is_sizes (P := P) (base := base) T
  have c_add_all := cal_add_all (P := P) (base := base) T
  refine mkCalC T.F_first_bad T.g_first_bad sc_first_bad (fun _ _ _ _ _ _ us hl => match us, hl with | [_, _, _], _ => rfl) (fun vs H Q E h => ?_) (fun cdv A outer s H vs Q E hC hr h => ?_)
  · obtain ⟨sa, xs, rs, t, sv, sz, rfl, hsa, hxs, rfl, hsv, hz, G, hco, Qk⟩ := h
    rfl
  obtain ⟨sa, xs, rs, t, sv, sz, rfl, hsa, hxs, rfl, hsv, hz, G, hco, Qk⟩ := h
  have hL := fun pins σ H1 s1 (I : Inv (cxOf CX0 P w K mg base N_first_bad "first_bad" (defScope s_first_bad) (He.ga K "first_bad") cdv A outer s H E).nox pins σ H1 s1) => LamC.later hC rfl rfl I
  have nd := sc_first_bad.nd
  have hu := hu_of hr
  refine ⟨_, (pss_cons (ps_if (pt_not (pt_val (C8.pe_c c_is_sizes hr (by decide) rfl (pa_cons (pv 0) pa_nil))))
    (pss_one (ps_ret pe_str))
    pss_nil)
    (pss_cons (ps_if (pt_not (pt_val (pe_callB (r := rIsi K) call_isi (by rfl) T.z_isinstance bt_isinstance (pa_cons (pv 1) (pa_cons (pe_bltn (v := .ty "tuple") (by rfl) T.z_tuple bt_tuple rfl) pa_nil)))))
    (pss_one (ps_ret pe_str))
    pss_nil)
    (pss_cons (ps_set (i := 3) nd rfl (Or.inl rfl) (pe_cC (cal_first_wrong T ql f c' (some sv) cl) hL hr (by decide) rfl (pa_cons (pv 1) (pa_cons (pv 2) pa_nil))))
    (pss_cons (ps_if (pt_cmpR op_notN (pv 3) pe_non (nomark _))
    (pss_one (ps_ret (pv 3)))
    pss_nil)
    (pss_one (ps_ret (pe_ifExp (pt_cmpR (r := rEqD K) (op_eqD hr.units) (C8.pe_c c_add_all hr (by decide) rfl (pa_cons (pe_lc (wi := iTup K _) (own := [("key", 4), ("share", 5)]) (g := gTup K 2 (gCons (gName 4) (gCons (gName 5) gNil))) (tt := tYes) rfl nd (pi_tup (pv 1)) (blkOk_by (N := N_first_bad) (sc := defScope s_first_bad) (by decide +kernel)) (fun _ _ _ _ _ => (pg_tup rfl (pgs_cons (pg_name (i := 4) nd rfl (Or.inl rfl)) (pgs_cons (pg_name (i := 5) nd rfl (Or.inl rfl)) pgs_nil)))) (fun _ _ _ _ _ => pts_nil) (fun _ _ _ _ _ => (pv 5))) pa_nil)) (C8.pe_gc (by rfl) T.v_ONE) (nomark _)) pe_non pe_str))))))), ?_⟩
  have hsT : SqT K H sa xs := hsa.sq
  refine ⟨_, rfl, sv, sz, rfl, hsv, hz, fun H1 s1 => ⟨_, rfl, iteF ?_⟩⟩
  refine ⟨_, rfl, _, _, _, _, true, rfl, .ty _, ty_tup (K := K) (hsa.sm s1).sq, kit_ty (by decide +kernel), _, rfl, iteF ?_⟩
  refine ⟨_, rfl, _, rfl, sa, xs, rs, t, sv, sz, rfl, hsa.sm s1, hxs.imp fun x r h => h.sm s1, rfl, hsv.tk (sm_tk s1), hz.l4, G, s1 _ _ hco, fun H2 s2 => ?_⟩
  have s02 := s1.trans s2
  refine ⟨_, rfl, rfl, _, rfl, iteF ?_⟩
  have hsa2 := hsa.sm s02
  refine ⟨_, rfl, sa, rfl, ⟨_, hsa2.sq⟩, fun D nD => ?_⟩
  refine lcI (walk_tup (xs := xs)) nD (fun H v n => TIn H v (lw n t)) (fun i => (rs.take i).map (·.2)) rfl (fun H' s => (hsa2.sm s).sq) ?_ ?_
  · rintro i x H3 _ hi L ⟨rfl, hx⟩
    obtain ⟨r, hr, hxr⟩ := hxs.at_ hx
    obtain ⟨p, y, z, rfl, hp, hy, hz⟩ := hxr.sm (s02.trans L.sm)
    refine ⟨p, _, rfl, SqT.of hp, rfl, _, _, rfl, _, _, rfl, rfl, rfl, yesI ?_⟩
    refine ⟨_, rfl, L.push (fun _ _ acc _ _ hd b r => r.tk (b.tk hd)) nD (Same.refl _) (x := r.2) hz ?_ ?_⟩
    · rw [take_snoc hr, List.map_append]
      rfl
    · rw [List.length_map, List.length_take]
      have := G.len
      omega
  · intro H3 ys s3 hD hys
    rw [hxs.len, List.take_length] at hys
    refine ⟨D, ys, rs.map (·.2), t, rfl, SqL.of hD, hys.imp fun v n h => h.k, fun n hn => ?_, by rw [G.sum]; exact G.top, G.tpos, G.top, fun r H4 s4 hr => ?_⟩
    · obtain ⟨r, hr, rfl⟩ := List.mem_map.mp hn
      exact Int.le_of_lt (G.pos r hr)
    · rw [G.sum, lw_one G.tpos] at hr
      have h1 : TK K H4 (.ref (He.ga K "ONE")) [1, 1] := ⟨_, rfl, T.t_ONE H4⟩
      refine ⟨_, _, TK.dp hr, TK.dp h1, shT _, shT _, _, rfl, iteTd (by rw [eqvT]; rfl) ?_⟩
      exact Qk H4 ((s02.trans s3).trans s4)
/-- Seen's making -/
def spSeenI (K : PySem.W.Frag) (tb : Addr) (ql : Str) : Sp := fun vs H Q _ => ∃ (x sa dx : Addr) (v : V) (xs : List V) (rs : List (List Int × Int)) (t : Int) (sz : List Nat), vs = [.ref x, v, .ref sa] ∧ H x = some (.ins (He.ga K "Seen") dx []) ∧ TIn H v (isz sz) ∧ Sz sz ∧ TupF H sa xs ∧ P2 (RwAt t H) xs rs ∧ RowsG sz rs t ∧
  LamX.Tabs [(tb, ql)] H ∧ ∀ H', (∀ b o, b ≠ x → H b = some o → (∀ ps, o ≠ .tbl ps) → H' b = some o) → LamX.Tabs [(tb, ql)] H' → H' x = some (.ins (He.ga K "Seen") dx [("sizes", v), ("shares", .ref sa)]) → Q .non H'
abbrev dSeen : Str × Option Str := ("Seen", some "__init__")
abbrev qSeen : Str := (envOfC "Seen.__init__" (defScope s_Seen_init) 0 0 .none).qual ++ "<lambda>"
abbrev N_Seen_init : List Str := ["self", "sizes", "shares", "bad"]
theorem sc_Seen_init : FnScope N_Seen_init ["self", "sizes", "shares"] (defScope s_Seen_init) := ⟨rfl, rfl, rfl, by decide +kernel, rfl, by decide +kernel, by decide +kernel⟩
theorem mak_Seen (T : Txt w K mg) (TB : LamX.TabB base mg (He.codeOf K dSeen) (He.tabOf K (He.codeOf K dSeen))) : C8.Mak P w K mg base 7 "Seen" (He.ga K "Seen") (spSeenI K (He.tabOf K (He.codeOf K dSeen)) qSeen) [] := by
  have b : BindAll "__init__" "Seen.__init__" s_Seen_init ["self", "sizes", "shares"] := fun _ _ _ _ _ _ us hl => match us, hl with | [_, _, _], _ => rfl
  refine ⟨_, _, _, [], T.mk_Seen, fnOk_cd (d := dSeen) T.F_Seen_init sc_Seen_init (fun vs H Q E h => ?_) (fun A outer s H vs Q E hr h => ?_), T.g_Seen, T.F_Seen_init.bindsN b, .nil⟩
  · obtain ⟨x, sa, dx, v, xs, rs, t, sz, rfl, _⟩ := h
    rfl
  obtain ⟨x, sa, dx, v, xs, rs, t, sz, rfl, hx, hv, hz, hsa, hxs, G, hT, Qk⟩ := h
  have hC := T.cl_Seen
  have nd := sc_Seen_init.nd
  refine ⟨_, (pss_cons (ps_set (i := 3) nd rfl (Or.inl rfl) (pe_lam3 (T := [(He.tabOf K (He.codeOf K dSeen), qSeen)]) (i1 := 1) (i2 := 2) (m := 1) (fv := "sizes") (fun f c' v => cal_first_bad T _ f c' v _) hr (by decide) rfl rfl (Or.inr (Or.inl rfl)) rfl (Or.inl rfl) TB rfl (List.mem_singleton.mpr rfl) (fun p hp _ => by rw [List.mem_singleton.mp hp]; rfl) rfl (NdefX.ndef_free (sc := defScope s_Seen_init) (nsc := lamSc) (fr := ["sizes"]) (by decide +kernel)) (by decide +kernel) rfl (fun _ => rfl)))
    (pss_cons (ps_if (pt_cmpR op_notN (pv 3) pe_non (nomark _))
    (pss_one ps_never)
    pss_nil)
    (pss_cons (ps_fld (pv 0) (pv 1) rfl)
    (pss_one (ps_fld (pv 0) (pv 2) rfl))))), ?_⟩
  refine ⟨hT, v, .ref sa, rfl, rfl, fun f c' H1 e1 hT1 hco => ?_⟩
  obtain ⟨va, rfl, hva⟩ := id hv
  have hsa1 : TupF H1 sa xs := by
    obtain ⟨o, h1, h2, h3⟩ := hsa
    exact ⟨o, h1, h2, e1 _ _ h3 (fun ps z => nomatch z)⟩
  have tk1 : Tk H H1 := fun b xs h => e1 b _ h (fun ps z => nomatch z)
  refine ⟨sa, xs, rs, t, .ref va, sz, rfl, hsa1, hxs.imp fun y r ⟨p, a, z, h1, h2, h3, h4⟩ => ⟨p, a, z, h1, tk1 _ _ h2, h3.tk tk1, h4.tk tk1⟩, rfl, hv.tk tk1, hz, G, hco, fun H2 s2 => ?_⟩
  refine ⟨_, rfl, rfl, _, rfl, iteF ?_⟩
  have hx2 : H2 x = some (.ins (He.ga K "Seen") dx []) := s2 _ _ (e1 _ _ hx (fun ps z => nomatch z))
  refine ⟨_, rfl, _, rfl, x, _, dx, _, rfl, hx2, hC, T.n_Seen_sizes, (by show 0 < 1000; decide), ?_⟩
  refine ⟨_, rfl, _, rfl, x, _, dx, _, rfl, upd_same, hC, T.n_Seen_shares, (by show 1 < 1000; decide), ?_⟩
  refine Qk _ (fun b o hb h nt => ?_) (fun p hp => ?_) upd_same
  · rw [upd_ne hb, upd_ne hb]
    exact s2 _ _ (e1 _ _ h nt)
  · obtain ⟨ps, h1, h2, h3⟩ := hT1 p hp
    have hx1 : H1 x = some (.ins (He.ga K "Seen") dx []) := e1 _ _ hx (fun ps z => nomatch z)
    have keep : ∀ b o, H1 b = some o → b ≠ x → upd (upd H2 x (.ins (He.ga K "Seen") dx [("sizes", .ref va)])) x (.ins (He.ga K "Seen") dx [("sizes", .ref va), ("shares", .ref sa)]) b = some o := fun b o h hb => by
      rw [upd_ne hb, upd_ne hb]
      exact s2 _ _ h
    refine ⟨ps, keep _ _ h1 (fun e => ?_), h2, fun pos cv hc => ?_⟩
    · rw [e, hx1] at h1
      cases h1
    · obtain ⟨c, ec, hcc⟩ := h3 pos cv hc
      refine ⟨c, ec, keep _ _ hcc (fun e => ?_)⟩
      rw [e, hx1] at hcc
      unfold LamX.CodeO at hcc
      cases hcc

end
end Cb
/-! dict(t), t a tuple of pairs whose firsts are tuples of ints -/
namespace CbD
open PySem PySem.Spec PyProof.Rows L2 PySem.W
theorem tuple_keys_none : typeLookup (.type "tuple") "keys" = pure none := am_miss_of_fast (by first | decide +kernel | rfl)
section
variable {prog : Program} {w : World} {A : Around} {E : Value → Shared → Prop}
theorem miss_tuple {s : Shared} {a : Addr} {o : Obj} {xs : Array Value} {k : Nat} {Q : Option Value → Shared → Prop} (hx : s.heap.get? a = some o) (hc : o.cls = .type "tuple") (hdat : o.data = .seq xs k) (hd : o.dict = none) (hA : A.handled = none)
    (h : ∀ h' tk, (∀ b ob, s.heap.get? b = some ob → h'.get? b = some ob) → Q none { s with heap := h', toks := tk }) : wpAny (model prog w) A (getAttr? (.ref a) "keys") Q E s := by
  obtain ⟨c, dct, dat, sl⟩ := o
  simp only at hc hdat hd
  subst hc hdat hd
  obtain ⟨hp, g, d, tk, os⟩ := s
  have hT : ∀ tk', (⟨hp, g, d, tk', os⟩ : Shared).TypeIs (.ref a) "tuple" := fun _ => ⟨_, hx, rfl⟩
  have hmiss := tuple_keys_none
  have hname : (["__module__", "__name__", "__qualname__", "__doc__", "__annotations__"] : List Str).contains "keys" = false := by decide +kernel
  have hsz : ("keys" : Str).length + 100 ≤ sizeLine := by first | size_fits | decide +kernel
  have f1 := sub_AttributeError
  have f3 := PySem.F.slot_tuple_getattribute.lookup
  have f4 := PySem.F.slot_tuple_getattribute.bind (.ref a)
  have f5 := am_tuple_getattr_none
  unfold getAttr? getAttrBy? getAttrBy
  repeat (any_goals (first | assumption | exact hT _ | ((with_reducible show wpAny _ _ (call (Value.builtin "tuple.__getattribute__") _ _) _ _ _); refine call_meets PySem.F.slot_tuple_getattribute (hT _) am_entry_tuple_getattribute (PySem.F.args_tuple_getattribute_2 _ _) (meets_getattribute_miss_tuple a xs k sl "keys" _ hmiss hname hsz) ⟨hx, hA, fun h' tk' e hx' => ?_⟩) | wp_step))
  obtain ⟨t', u', he⟩ := hx'.there
  show wpAny _ _ (getattributeRaised _ _ _ _ _ _ _) _ _ _
  unfold getattributeRaised
  repeat (any_goals (first | assumption | wp_step))
  all_goals first | exact h _ _ hx'.keeps | (dsimp only; repeat (any_goals (first | assumption | exact h _ _ hx'.keeps | wp_step)))
abbrev knd (prog : Program) (w : World) := tupleKind (mixKind prog w)
theorem kis_keep {h h' : Heap} {k : List Key} {a : Addr} (x : (knd prog w).is h k a) (e : ∀ o, h.get? a = some o → h'.get? a = some o) : (knd prog w).is h' k a := by
  obtain ⟨o, items, n, ho, r⟩ := x
  exact ⟨o, items, n, e o ho, r⟩
theorem kis_ne {h : Heap} {k : List Key} {a b : Addr} {o : Obj} {T : String} (x : (knd prog w).is h k a) (ho : h.get? b = some o) (hc : o.cls = .type T) (hT : T ≠ "tuple") : a ≠ b := by
  rintro rfl
  obtain ⟨o', items, n, ho', hc', _⟩ := x
  rw [ho] at ho'
  cases ho'
  rw [hc] at hc'
  exact hT (Value.type.inj hc')
theorem tup_ne {h : Heap} {a b : Addr} {items : Array Value} {o : Obj} {T : String} (x : IsTup h a items) (ho : h.get? b = some o) (hc : o.cls = .type T) (hT : T ≠ "tuple") : a ≠ b := by
  rintro rfl
  obtain ⟨o', ho', hc', _⟩ := x
  rw [ho] at ho'
  cases ho'
  rw [hc] at hc'
  exact hT (Value.type.inj hc')
theorem doh_keep {h h' : Heap} {d : Addr} {xs : List (List Key × Addr × Value)} (x : h.DictOfH (knd prog w) d xs) (hd : ∀ o, h.get? d = some o → h'.get? d = some o) {I : Addr} {o : Obj} {T : String} (ho : h.get? I = some o) (hc : o.cls = .type T) (hT : T ≠ "tuple")
    (k : ∀ b o, b ≠ I → h.get? b = some o → h'.get? b = some o) : h'.DictOfH (knd prog w) d xs := by
  obtain ⟨o2, es, ep, h1, h2, h3, h4, his, h5⟩ := x
  exact ⟨o2, es, ep, hd o2 h1, h2, h3, h4, fun y hy => kis_keep (his y hy) fun u hu => k _ u (kis_ne (his y hy) ho hc hT) hu, h5⟩
/-- the walk over the pairs -/
theorem upd_loopT {R : Result → Shared → Prop} {S I l : Addr} {items : Array Value} {res : Value} (hh : A.handled = none) (hu : A.units + 1 < cLine) :
    ∀ (rest : List (List Key × Addr × Value)) (i : Nat) (acc : List (List Key × Addr × Value)) (ix : Int) (t : Tok) (s : Shared), items.size = i + rest.length → acc.length + rest.length ≤ sizeLine →
      (∀ (j : Nat) (q : List Key × Addr × Value), rest[j]? = some q → ∃ b : Addr, items[i + j]? = some (.ref b) ∧ IsTup s.heap b #[.ref q.2.1, q.2.2] ∧ (knd prog w).is s.heap q.1 q.2.1) →
      IsTupIter s.heap I l i → IsTup s.heap l items → s.heap.DictOfH (knd prog w) S acc →
      (∀ h' tk, h'.DictOfH (knd prog w) S (storedAllH acc rest) → (∀ b o, b ≠ S → b ≠ I → s.heap.get? b = some o → h'.get? b = some o) → R (.ok (.ret res)) { s with heap := h', toks := tk }) →
      codeAny (model prog w) A (.builtin "dict.update.loop" ⟨[.ref S, .ref I, .int ix t, res], []⟩) R s
  | [], i, acc, ix, t, s, hsz, hln, ht, hit, hl, hm, hR => by
    refine codeAny_builtin ud_entry ?_
    rw [Around.under_plainId ud_plain _]
    show wpAny _ A.in1 (pyNext (.ref I) >>= _) _ _ s
    obtain ⟨oI, hoI, hcI, _⟩ := id hit
    have hSI : S ≠ I := by
      rintro rfl
      obtain ⟨o, es, ep, ho, hc, _⟩ := id hm
      rw [hoI] at ho
      cases ho
      rw [hc.1] at hcI
      exact absurd (Value.type.inj hcI) (by decide)
    refine wpAny_bind (next_tuple_end (A := A.in1) hh hit hl (by first | exact Array.getElem?_eq_none (Nat.le_of_eq hsz) | (simp at hsz; simp; omega)) fun h' he => ?_)
    show wpAny _ A.in1 (Builtin.Dict.addKeywords S [] >>= _) _ _ _
    refine wpAny_bind (wpAny_pure (wpAny_pure ?_))
    exact hR h' s.toks (doh_keep hm (fun o e => he S o hSI e) hoI hcI (by decide) fun b o hb e => he b o hb e) fun b o _ hb e => he b o hb e
  | q :: rest, i, acc, ix, t, s, hsz, hln, ht, hit, hl, hm, hR => by
    obtain ⟨b, hb, htup, hk⟩ := ht 0 q rfl
    rw [List.length_cons] at hsz hln
    refine codeAny_builtin ud_entry ?_
    rw [Around.under_plainId ud_plain _]
    show wpAny _ A.in1 (pyNext (.ref I) >>= _) _ _ s
    obtain ⟨oI, hoI, hcI, _⟩ := id hit
    obtain ⟨oS, esS, epS, hoS, hcS, _⟩ := id hm
    have hSI : S ≠ I := by
      rintro rfl
      rw [hoI] at hoS
      cases hoS
      rw [hcS.1] at hcI
      exact absurd (Value.type.inj hcI) (by decide)
    refine wpAny_bind (next_tuple_item (x := .ref b) hit hl (by simpa using hb) fun h1 hit1 hs1 => ?_)
    have ht1 : IsTup h1 b #[.ref q.2.1, q.2.2] := htup.extBut hs1.extBut (tup_ne htup hoI hcI (by decide))
    have hl1 : IsTup h1 l items := hl.extBut hs1.extBut (tup_ne hl hoI hcI (by decide))
    have hk1 : (knd prog w).is h1 q.1 q.2.1 := kis_keep hk fun o e => hs1.extBut _ o (kis_ne hk hoI hcI (by decide)) e
    have hoS1 := hs1.extBut S _ hSI hoS
    have hm1 : h1.DictOfH (knd prog w) S acc := doh_keep hm (fun o e => hs1.extBut S o hSI e) hoI hcI (by decide) fun b o hb e => hs1.extBut b o hb e
    obtain ⟨o, ho, hc, n, hd⟩ := id ht1
    show wpAny _ A.in1 (holding [Value.ref b] _ >>= _) _ _ _
    refine wpAny_bind (wpAny_holding ?_)
    refine wpAny_bind (wpAny_tryCatch ?_)
    unfold Builtin.Dict.pairItems
    refine wpAny_bind (wpAny_typeOf (T := "tuple") ⟨o, ho, hc⟩ ?_)
    rw [if_pos (by first | decide | rfl | simp)]
    refine wpAny_bind (wpAny_seqItems ho hd (wpAny_pure ?_))
    show wpAny _ A.in1 (holding [Value.ref q.2.1, q.2.2] (dictSet S (.ref q.2.1) q.2.2)) _ _ _
    refine wpAny_holding (wpAny_dictSet_heap (knd := knd prog w) (k := q.1) (tupleKind_room_in1 hu) hk1 hm1 (fun h2 hm2 hs2 => ?_) (by omega))
    have ne2 : ∀ {x : Addr} {its : Array Value}, IsTup h1 x its → x ≠ S := fun x => tup_ne x hoS1 hcS.1 (by decide)
    refine wpAny_pure ⟨plainId_quiet ud_plain _, upd_loopT (S := S) (I := I) (l := l) (items := items) hh hu rest (i + 1) (storedH acc q.1 q.2.1 q.2.2) (ix + 1) 0 _ (show items.size = i + 1 + rest.length by omega) ?_ (fun j q' e => ?_) ?_ ?_ hm2 fun h' tk hd' k => ?_⟩
    · have z := storedH_length acc q.1 q.2.1 q.2.2
      omega
    · obtain ⟨b', hb', htup', hk'⟩ := ht (j + 1) q' (by simpa using e)
      have t1 := htup'.extBut hs1.extBut (tup_ne htup' hoI hcI (by decide))
      have k1 : (knd prog w).is h1 q'.1 q'.2.1 := kis_keep hk' fun o e => hs1.extBut _ o (kis_ne hk' hoI hcI (by decide)) e
      refine ⟨b', ?_, t1.extBut hs2.extBut (ne2 t1), kis_keep k1 fun o e => hs2.extBut _ o (kis_ne k1 hoS1 hcS.1 (by decide)) e⟩
      rw [show i + 1 + j = i + (j + 1) by omega]
      exact hb'
    · obtain ⟨o1, ho1, r1⟩ := hit1
      exact ⟨o1, hs2.extBut I o1 (Ne.symm hSI) ho1, r1⟩
    · exact hl1.extBut hs2.extBut (ne2 hl1)
    · exact hR h' tk hd' fun c oc h3 h4 e => k c oc h3 h4 (hs2.extBut c oc h3 (hs1.extBut c oc h4 e))
/-- dict(t) -/
theorem call_dict_tup {s : Shared} {l : Addr} {ol : Obj} {items : Array Value} {n : Nat} {trips : List (List Key × Addr × Value)} {Q : Value → Shared → Prop} (hh : A.handled = none) (hu : A.units + 16 < cLine) (hl : s.heap.get? l = some ol) (hc : ol.cls = .type "tuple") (hd : ol.dict = none)
    (hdat : ol.data = .seq items n) (hsz : items.size = trips.length) (hln : trips.length ≤ sizeLine)
    (ht : ∀ (j : Nat) (q : List Key × Addr × Value), trips[j]? = some q → ∃ b : Addr, items[j]? = some (.ref b) ∧ IsTup s.heap b #[.ref q.2.1, q.2.2] ∧ (knd prog w).is s.heap q.1 q.2.1)
    (h : ∀ h' tk, h'.DictOfH (knd prog w) s.heap.objs.size (storedAllH [] trips) → (∀ b o, s.heap.get? b = some o → h'.get? b = some o) → Q (.ref s.heap.objs.size) { s with heap := h', toks := tk }) :
    wpAny (model prog w) A (call (.type "dict") [.ref l]) Q E s := by
  refine callType_codes (Q₁ := fun obj s₁ => obj = .ref s.heap.objs.size ∧ s₁ = { s with heap := s.heap.push { cls := .type "dict", data := .dict #[] } }) PySem.F.kt_called_dict (PySem.F.kt_typeCall_dict_1 _) PySem.F.entry_dict_init (kt_code_dict_new _ ⟨rfl, rfl⟩) ?_
  rintro obj s₁ ⟨rfl, rfl⟩
  have hnew : (s.heap.push { cls := .type "dict", data := .dict #[] }).DictOfH (knd prog w) s.heap.objs.size [] := Heap.DictOfH.new s.heap
  have hT : Shared.TypeIs { s with heap := s.heap.push { cls := .type "dict", data := .dict #[] } } (.ref s.heap.objs.size) "dict" := ⟨_, Heap.get?_push_size _ rfl, rfl⟩
  have k0 : ∀ b o, s.heap.get? b = some o → (s.heap.push { cls := .type "dict", data := .dict #[] }).get? b = some o := fun b o e => Heap.get?_push_of_some _ e
  refine ⟨hT, PySem.F.args_dict_init_2 _ _, ?_⟩
  unfold Builtin.«dict.__init__»
  refine wpAny_bind ?_
  unfold Builtin.Dict.selfAndRest
  refine wpAny_bind (wpAny_notOrdered_dict hT ?_)
  show wpAny _ _ (pure (s.heap.objs.size, [Value.ref l])) _ _ _
  refine wpAny_pure ?_
  show wpAny _ _ (Builtin.Dict.updateFrom "dict.__init__" s.heap.objs.size (.ref l) [] .none) _ _ _
  unfold Builtin.Dict.updateFrom
  refine wpAny_bind (wpAny_typeOf (T := "tuple") ⟨ol, k0 _ _ hl, hc⟩ ?_)
  rw [if_pos (by first | decide | rfl | simp)]
  refine wpAny_bind (miss_tuple (k0 _ _ hl) hc hdat hd hh fun h1 tk1 hk1 => ?_)
  rw [if_pos (show (none : Option Value).isNone = true from rfl)]
  refine wpAny_bind (wpAny_rule ?_)
  have hl1 : IsTup h1 l items := ⟨ol, hk1 _ _ (k0 _ _ hl), hc, n, hdat⟩
  have hS1 : s.heap.objs.size < h1.objs.size := by
    have e : (s.heap.push { cls := .type "dict", data := .dict #[] }).get? s.heap.objs.size = some { cls := .type "dict", data := .dict #[] } := Heap.get?_push_size _ rfl
    exact Heap.lt_size (hk1 _ _ e)
  refine wpAny_bind (wpAny_pyIter_tuple hl1 ?_)
  have k2 : ∀ b o, h1.get? b = some o → (h1.push { cls := .type "tuple_iterator", data := .fields #[.ref l, .int 0 0] }).get? b = some o := fun b o e => Heap.get?_push_of_some _ e
  have key := upd_loopT (prog := prog) (w := w) (A := A.in1) (R := wants (fun r s₂ => r = .none ∧ Q (.ref s.heap.objs.size) s₂) E) (S := s.heap.objs.size) (I := h1.objs.size) (l := l) (items := items) (res := Value.none) hh
    (by show A.units + 1 + 1 < cLine; omega) trips 0 [] 0 0
    { s with heap := h1.push { cls := .type "tuple_iterator", data := .fields #[.ref l, .int 0 0] }, toks := tk1 } (by rw [hsz, Nat.zero_add]) (by rw [List.length_nil, Nat.zero_add]; exact hln)
    (fun j q e => by
      obtain ⟨b, e1, e2, e3⟩ := ht j q e
      exact ⟨b, by rw [Nat.zero_add]; exact e1, e2.keeps fun c o z => k2 _ _ (hk1 _ _ (k0 _ _ z)), kis_keep e3 fun o z => k2 _ _ (hk1 _ _ (k0 _ _ z))⟩)
    ⟨_, Heap.get?_push_size _ rfl, rfl, rfl⟩ (hl1.keeps fun c o z => k2 _ _ z) (by
      obtain ⟨o2, es, ep, g1, g2, g3, g4, his, g5⟩ := hnew
      exact ⟨o2, es, ep, k2 _ _ (hk1 _ _ g1), g2, g3, g4, (fun y hy => nomatch hy), g5⟩)
    (fun h' tk hd' k => ⟨rfl, h h' tk hd' fun b o e => k b o (Nat.ne_of_lt (Heap.lt_size e)) (Nat.ne_of_lt (Nat.lt_trans (Heap.lt_size e) hS1)) (k2 _ _ (hk1 _ _ (k0 _ _ e)))⟩)
  first
    | exact wpAny_pure ⟨plainId_quiet ud_plain _, key⟩
    | exact wpAny_bind (wpAny_pure (wpAny_pure ⟨plainId_quiet ud_plain _, key⟩))
end
end CbD
/-! dict(t), sorted(d): the rules -/
namespace Cb
open PySem PySem.Spec PyProof.Rows L2 PySem.W
theorem atKey_no {xs : List (List Key × Addr × Value)} {k : List Key} (h : k ∉ xs.map (·.1)) : atKey xs k = none := by
  unfold atKey
  rw [Option.map_eq_none_iff, List.find?_eq_none]
  intro x hx
  rw [decide_eq_true_eq]
  exact fun e => h (e ▸ List.mem_map.mpr ⟨x, hx, rfl⟩)
theorem storedAll_nd : ∀ (ts acc : List (List Key × Addr × Value)), ((acc ++ ts).map (·.1)).Nodup → storedAllH acc ts = acc ++ ts
  | [], acc, _ => by rw [List.append_nil]; rfl
  | t :: ts, acc, h => by
    have hn : t.1 ∉ acc.map (·.1) := by
      rw [List.map_append, List.map_cons, List.nodup_append] at h
      exact fun z => h.2.2 _ z _ List.mem_cons_self rfl
    have e : storedH acc t.1 t.2.1 t.2.2 = acc ++ [t] := storedH_new (atKey_no hn) _ _
    show storedAllH (storedH acc t.1 t.2.1 t.2.2) ts = _
    rw [e, storedAll_nd ts (acc ++ [t]) (by rw [List.append_assoc]; exact h), List.append_assoc]
    rfl
theorem kt_keys {H : Hp} {kvs : List (List Key × V)} {ts : List (List Key × Addr × Value)} (h : KT H kvs ts) : kvs.map (·.1) = ts.map (·.1) := by
  induction h with
  | nil => rfl
  | cons r t ih => rw [List.map_cons, List.map_cons, r.1, ih]
/-- a pair of a key (a tuple) and a value -/
def KvAt (H : Hp) (x : V) (kv : List Key × V) : Prop := ∃ (p b : Addr), x = .ref p ∧ H p = some (.tup [.ref b, kv.2]) ∧ H b = some (.tup (kv.1.map kV))
section
variable {X : Cx} {pins : List (Addr × Obj)} {σ : L2.St} {H : Hp} {s : Shared}
theorem trips_of (I : Inv X pins σ H s) {vs : List V} {kvs : List (List Key × V)} (h : P2 (KvAt H) vs kvs) :
    ∃ ts : List (List Key × Addr × Value), KT H kvs ts ∧ ts.length = vs.length ∧ ∀ (j : Nat) (q : List Key × Addr × Value), ts[j]? = some q → ∃ b : Addr, vs[j]? = some (.ref b) ∧ IsTup s.heap b #[.ref q.2.1, q.2.2] ∧ (CbD.knd X.prog X.w).is s.heap q.1 q.2.1 := by
  induction h with
  | nil => exact ⟨[], .nil, rfl, fun j q e => by simp at e⟩
  | @cons x kv vs kvs r t ih =>
    obtain ⟨ts, h1, h2, h3⟩ := ih
    obtain ⟨p, b, rfl, hp, hb⟩ := r
    obtain ⟨_, its, rv, ht⟩ := I.hok p _ hp
    obtain ⟨u, y, ei, ru, ry⟩ := vals2 rv
    subst ei
    cases ru
    refine ⟨(kv.1, b, y) :: ts, .cons ⟨rfl, hb, ry⟩ h1, by rw [List.length_cons, List.length_cons, h2], fun j q e => ?_⟩
    cases j with
    | zero =>
      have e' : (kv.1, b, y) = q := Option.some.inj e
      subst e'
      exact ⟨p, rfl, ht, key_of I.hok hb⟩
    | succ j => exact h3 j q (by simpa using e)
/-- dict(t), t a tuple of pairs, no key twice -/
def rDictT : List V → Hp → VK → Prop := fun xs H Q => ∃ (a : Addr) (vs : List V) (kvs : List (List Key × V)), xs = [.ref a] ∧ TupF H a vs ∧ P2 (KvAt H) vs kvs ∧ (kvs.map (·.1)).Nodup ∧ ∀ p, H p = none → Q (.ref p) (upd H p (.dT kvs))
theorem cr_dictT (hcalm : X.calm = true) (hu : X.A.units + 64 < cLine) : CallR X (.type "dict") rDictT := by
  intro pins s σ H xs us Q I r h
  obtain ⟨a, vs, kvs, rfl, ⟨o, hoc, hod, ha⟩, hp, nd, q⟩ := h
  rw [Vals.ref1 r]
  obtain ⟨ho, hz, its, rv, ⟨o2, ho2, _, n, hdat⟩⟩ := I.hok a _ ha
  rw [ho] at ho2
  cases ho2
  obtain ⟨ts, kt, hl, ht⟩ := trips_of I hp
  have hil : its.length = vs.length := rv.length.symm
  refine CbD.call_dict_tup (trips := ts) (I.ok.hd hcalm) (by omega) ho hoc hod hdat (by rw [List.size_toArray, hil, hl]) (by rw [hl]; exact hz) (fun j q' e => ?_) fun h' tk hd' k => ?_
  · obtain ⟨b, e1, e2, e3⟩ := ht j q' e
    refine ⟨b, ?_, e2, e3⟩
    rw [List.getElem?_toArray]
    obtain ⟨u, hu', ru⟩ := Vals.get rv e1
    cases ru
    exact hu'
  · have hm : (s.heap.objs.size == sysModules) = false := beq_eq_false_iff_ne.mpr (Nat.ne_of_gt I.big)
    have ek := kt_keys kt
    have nd2 : (([] ++ ts : List (List Key × Addr × Value)).map (·.1)).Nodup := by
      rw [List.nil_append, ← ek]
      exact nd
    rw [storedAll_nd ts [] nd2, List.nil_append] at hd'
    have hlen : kvs.length ≤ sizeLine := by
      rw [Paired.length kt, hl]
      exact hz
    have hn : H s.heap.objs.size = none := I.hok.fresh (Nat.le_refl _)
    obtain ⟨o3, es, ep, g1, g2, g3, g4, _, g5⟩ := hd'
    exact ⟨.ref s.heap.objs.size, upd H s.heap.objs.size (.dT kvs), I.laid (t' := tk) k (Nat.le_refl _) (show ObjOk X.prog X.w _ _ _ (.dT kvs) from ⟨hlen, hm, ts, kt.keeps fun b ys e => up_at e hn, o3, es, ep, g1, g2, g3, g4, g5⟩), rfl, q _ hn⟩
end
end Cb
/-! sorted(d), d a dict whose keys are tuples of ints -/
namespace Cb
open PySem PySem.Spec PyProof.Rows L2
section
variable {X : Cx}
/-- sorted(d): the keys, ascending -/
def rSortDT : List V → Hp → VK → Prop := fun xs H Q => ∃ (a : Addr) (kvs : List (List Key × V)) (kss : List (List Int)), xs = [.ref a] ∧ Rd H a (.dT kvs) ∧ kvs.map (·.1) = kss.map (fun ns => ns.map Sum.inl) ∧
  ∀ (p : Addr) (H' : Hp) (yss : List (List Int)), Same H H' → H p = none → TLs H' p yss → yss.Perm kss → yss.Pairwise (fun x y => HT.lexLt y x = false) → Q (.ref p) H'
theorem keys_P2 {H : Hp} {kvs : List (List Key × V)} {bs : List Addr} (h : IsKeys H kvs bs) : ∀ {kss : List (List Int)}, kvs.map (·.1) = kss.map (fun ns => ns.map Sum.inl) → P2 (TIn H) (bs.map V.ref) kss := by
  unfold IsKeys at h
  induction h with
  | nil =>
    intro kss e
    cases kss with
    | nil => exact .nil
    | cons _ _ => cases e
  | @cons kv b kvs bs r t ih =>
    intro kss e
    cases kss with
    | nil => cases e
    | cons ns kss =>
      rw [List.map_cons, List.map_cons] at e
      injection e with e1 e2
      refine .cons ⟨b, rfl, ?_⟩ (ih e2)
      rw [r, e1, List.map_map]
      rfl
theorem cr_sortDT (hc : X.calm = true) (hu : X.A.units + 64 < cLine) : CallR X (.builtin "sorted") rSortDT := by
  intro pins s σ H xs us Q I r h
  obtain ⟨a, kvs, kss, rfl, hd, hks, q⟩ := h
  rw [Vals.ref1 r]
  obtain ⟨z, lo, ts, kt, o, es, ep, ho, hx, hdt, hes, his, hnd⟩ := dt_rd I.hok hd
  have bk := isKeys_of kt
  have hP := keys_P2 bk hks
  generalize hbs : ts.map (fun x => x.2.1) = bs at bk hP
  have hel : es.size = bs.length := by
    have e := congrArg List.length hes
    rw [Array.length_toList, List.length_map] at e
    rw [e, ← hbs, List.length_map]
  have hz : bs.length ≤ sizeLine := by
    have e := hP.len
    rw [List.length_map] at e
    have e2 := congrArg List.length hks
    rw [List.length_map, List.length_map] at e2
    omega
  refine Calls.call_function_entry kind_sorted plain_sorted entry_sorted (args_sorted1 _) ?_
  unfold Builtin.«sorted»
  refine wpAny_bind (m := checkCount "sorted" 1 1 _) (wpAny_pure ?_)
  refine wpAny_bind (PySem.W.kdu_collect (A := X.A.in1) (kdl_raw lo hx hdt) (I.ok.hd hc) ho (by omega) fun h' tk acc kp it => ?_)
  have eacc : acc.toList = bs.map Value.ref := by
    apply List.ext_getElem?
    intro i
    rw [Array.getElem?_toList]
    cases e : acc[i]? with
    | none =>
      rw [Array.getElem?_eq_none_iff, it.1, hel] at e
      rw [List.getElem?_map, List.getElem?_eq_none e]
      rfl
    | some v =>
      obtain ⟨en, e1, e2⟩ := it.2 i v e
      rw [← Array.getElem?_toList, hes, List.getElem?_map] at e1
      obtain ⟨t, ht, rfl⟩ := Option.map_eq_some_iff.mp e1
      rw [← hbs, List.map_map, List.getElem?_map, ht, e2]
      rfl
  have I1 : Inv X pins σ H { s with heap := h', toks := tk } := I.kept kp
  refine wpAny_bind (wpAny_newList ?_ (by rw [eacc, List.length_map]; exact hz))
  have hoL : (h'.push (seqObj "list" acc.toList.toArray 0)).get? h'.objs.size = some (seqObj "list" acc.toList.toArray 0) := Heap.get?_push_size _ rfl
  rw [eacc] at hoL ⊢
  have hk : ∀ b ∈ bs, H b = some (.tup ((kI H b).map V.int)) := fun b hb => by
    obtain ⟨i, hi⟩ := List.mem_iff_getElem?.mp hb
    obtain ⟨ns, _, c, ec, hcc⟩ := hP.at_ (i := i) (v := .ref b) (by rw [List.getElem?_map, hi]; rfl)
    cases ec
    rw [kI_of hcc]
    exact hcc
  have hb2 : ∀ b ∈ bs, b < h'.objs.size := fun b hb => by
    obtain ⟨_, its, rv, o2, ho2, _⟩ := I1.hok b _ (hk b hb)
    exact Heap.lt_size ho2
  have hv : ∀ v ∈ bs.map Value.ref, CbS.IsIT (h'.push (seqObj "list" (bs.map Value.ref).toArray 0)) v (kI H (adO v)) := fun v hm => by
    obtain ⟨b, hb, rfl⟩ := List.mem_map.mp hm
    obtain ⟨_, its, rv, o2, ho2, hc2, n2, hd2⟩ := I1.hok b _ (hk b hb)
    exact ⟨b, its, rfl, ⟨o2, Heap.get?_push_of_some _ ho2, hc2, n2, hd2⟩, rv.ints⟩
  have ha : ∀ v ∈ bs.map Value.ref, v ≠ .ref h'.objs.size := fun v hm e => by
    obtain ⟨b, hb, rfl⟩ := List.mem_map.mp hm
    exact Nat.ne_of_lt (hb2 b hb) (Value.ref.inj e)
  refine wpAny_bind (wpAny_holding (wpAny_call_entry slot_list_sort ⟨_, hoL, rfl⟩ entry_list_sort (SrtO.list_sort_ord (s := { s with heap := h'.push (seqObj "list" (bs.map Value.ref).toArray 0), toks := tk }) (NtL.swo_lexL fun u => kI H (adO u)) hoL (by rw [List.length_map]; exact hz)
    (fun h2 => CbS.its_sortable h2 (by show X.A.units + 1 + 1 < cLine; omega) hv ha) fun out hs hb => ⟨_, rfl, ?_⟩) (args_list_sort _)))
  obtain ⟨c, hc'⟩ := sortedHeap_at (vs := bs.map Value.ref) (out := out.toArray) hoL
  have eo : out = (out.map adO).map Value.ref := ref_map fun u hm => by
    obtain ⟨b, _, e⟩ := List.mem_map.mp (hb.perm.mem_iff.mp hm)
    exact ⟨b, e.symm⟩
  have hp : (out.map adO).Perm bs := by
    have p1 := hb.perm.map adO
    rw [ad_map] at p1
    exact p1
  have hss : (out.map adO).Pairwise (fun p q => HT.lexLt (kI H q) (kI H p) = false) := List.pairwise_map.mpr (hs.imp fun {x y} z => z)
  have hn : H h'.objs.size = none := I1.hok.fresh (Nat.le_refl _)
  have hlen : ((out.map adO).map V.ref).length ≤ sizeLine := by rw [List.length_map, hp.length_eq]; exact hz
  have rvo : Vals ((out.map adO).map V.ref) out := by
    have z := of_nts (out.map adO)
    rw [← eo] at z
    exact z
  have e4 : ∀ t ∈ out.map adO, H t = some (.tup ((kI H t).map V.int)) := fun t ht => hk t (hp.mem_iff.mp ht)
  have ek : bs.map (kI H) = kss := by
    have z := P2.of_addrs hk
    refine List.ext_getElem? fun i => ?_
    have l1 := z.len
    have l2 := hP.len
    cases e : bs[i]? with
    | none =>
      have h1 : bs.length ≤ i := List.getElem?_eq_none_iff.mp e
      rw [List.getElem?_map, e, List.getElem?_eq_none (by rw [List.length_map] at l2; omega)]
      rfl
    | some b =>
      obtain ⟨ns, h1, h2⟩ := hP.at_ (i := i) (v := .ref b) (by rw [List.getElem?_map, e]; rfl)
      obtain ⟨c, ec, hcc⟩ := h2
      cases ec
      rw [List.getElem?_map, e, h1]
      show some (kI H b) = _
      rw [kI_of hcc]
  refine wpAny_pure ⟨_, rfl, .ref h'.objs.size, upd H h'.objs.size (.lst ((out.map adO).map V.ref)), I1.laid (t' := tk) (fun b u e => ?_) (Nat.le_refl _) (show ObjOk X.prog X.w _ _ _ (.lst _) from ⟨hlen, out, c, rvo, hc'⟩), rfl,
    q _ _ ((out.map adO).map (kI H)) (sm_up hn) hn ⟨_, upd_same, (P2.of_addrs e4).imp fun v x r => r.tk (sm_tk (sm_up hn))⟩ (by rw [← ek]; exact hp.map _) (List.pairwise_map.mpr hss)⟩
  have hlt : b < h'.objs.size := Heap.lt_size e
  rw [sortedHeap_old (Nat.ne_of_lt hlt) (by rw [size_push']; exact Nat.lt_succ_of_lt hlt)]
  exact Heap.get?_push_of_some _ e
end
end Cb
namespace Cb
open PySem PySem.Spec PyProof.Rows L2
section
variable {P : Program} {w : World} {K : PySem.W.Frag} {mg : Str → Option Value} {base : Heap}
/-! ### the set of tuples, sorted; shares_of, pattern_at, family -/
theorem setSort {P : Program} {w : World} {K : PySem.W.Frag} {H : Hp} {l : Addr} {vs : List V} {xss : List (List Int)} {Q : VK} (h : SqL K H l vs) (hp : P2 (TIn H) vs xss) (hlen : xss.length ≤ 9000)
    (q : ∀ (p : Addr) (H' : Hp) (yss : List (List Int)), Same H H' → H p = none → TLs H' p yss → (∀ y, y ∈ yss ↔ y ∈ xss) → yss.Nodup → yss.Pairwise (fun x y => HT.lexLt y x = false) → Q (.ref p) H') :
    CbT.rSetG K P w [.ref l] H (fun v H1 => CbT.rSortG K P w [v] H1 Q) := by
  obtain ⟨ts, e1, e2, e3⟩ := hp.addrs
  subst e1 e3
  rw [List.length_map] at hlen
  refine ⟨l, ts, rfl, h, e2, hlen, fun a us ha h1 h2 h3 => ?_⟩
  have sa := sm_up (o := CbT.SetGO P w a (us.map fun u => (u, kI H u))) ha
  have e4 : ∀ t ∈ us, H t = some (.tup ((kI H t).map V.int)) := fun t ht => e2 t (h1 t ht)
  refine ⟨a, us, kI H, rfl, upd_same, fun u hu => sa _ _ (e4 u hu), fun ts' p pm pw hn => ?_⟩
  have np : H p = none := sa.free hn
  have s2 : Same H (upd (upd H a (CbT.SetGO P w a (us.map fun u => (u, kI H u)))) p (.lst (ts'.map V.ref))) := sm_new sa hn
  refine q p _ (ts'.map (kI H)) s2 np ⟨_, upd_same, (P2.of_addrs fun t ht => e4 t (pm.mem_iff.mp ht)).imp fun v x r => r.tk (sm_tk s2)⟩ (fun y => ⟨fun hy => ?_, fun hy => ?_⟩) ((pm.map _).nodup_iff.mpr h3) (List.pairwise_map.mpr pw)
  · obtain ⟨t, ht, rfl⟩ := List.mem_map.mp hy
    exact List.mem_map.mpr ⟨t, h1 t (pm.mem_iff.mp ht), rfl⟩
  · obtain ⟨t, ht, rfl⟩ := List.mem_map.mp hy
    obtain ⟨u, hu, e⟩ := List.mem_map.mp (h2 t ht)
    exact List.mem_map.mpr ⟨u, pm.mem_iff.mpr hu, e⟩
theorem kv_inl (ns : List Int) : (ns.map (Sum.inl : Int → Key)).map kV = ns.map V.int := by
  rw [List.map_map]
  rfl
theorem inl_inj {ns ms : List Int} (h : ns.map (Sum.inl : Int → Key) = ms.map Sum.inl) : ns = ms := by
  have := congrArg (List.map fun (k : Key) => match k with | .inl i => i | .inr _ => 0) h
  rw [List.map_map, List.map_map] at this
  exact (List.map_id ns).symm.trans (this.trans (List.map_id ms))
def spSharesOf (K : PySem.W.Frag) : Sp := fun vs H Q _ => ∃ (a : Addr) (sz : List Nat) (rs : List (List Int × Int)) (t : Int), vs = [.ref a] ∧ SeenAt K H a sz rs t ∧ (rs.map (·.1)).Nodup ∧
  ∀ p kvs, H p = none → kvs.map (·.1) = (rs.map (·.1)).map (fun ns => ns.map Sum.inl) → Q (.ref p) (upd H p (.dT kvs))
abbrev N_shares_of : List Str := ["table"]
theorem sc_shares_of : FnScope N_shares_of ["table"] (defScope s_shares_of) := ⟨rfl, rfl, rfl, by decide +kernel, rfl, by decide +kernel, by decide +kernel⟩
theorem cal_shares_of (T : Txt w K mg) : C8.Cal P w K mg base 1 "shares_of" (spSharesOf K) [] := by
  refine mkCal T.F_shares_of T.g_shares_of sc_shares_of (fun _ _ _ _ _ _ us hl => match us, hl with | [_], _ => rfl) (fun vs H Q E h => ?_) (fun cdv A outer s H vs Q E hr h => ?_)
  · obtain ⟨a, sz, rs, t, rfl, hS, nd0, Qk⟩ := h
    rfl
  obtain ⟨a, sz, rs, t, rfl, hS, nd0, Qk⟩ := h
  have nd := sc_shares_of.nd
  have hu := hu_of hr
  refine ⟨_, (pss_one (ps_ret (pe_callTy (cr_dictT rfl hr.units) (by rfl) T.z_dict bt_dict (pa_cons (pe_fld (pv 0) rfl) pa_nil)))), ?_⟩
  obtain ⟨dx, sa, v, xs, ha, hv, hsa, hxs⟩ := hS.ex
  have hC := T.cl_Seen
  have hz : ∃ zs : List V, P2 (fun (x : V) (rz : (List Int × Int) × V) => ∃ (p : Addr) (y : V), x = .ref p ∧ H p = some (.tup [y, rz.2]) ∧ TIn H y rz.1.1) xs (rs.zip zs) ∧ zs.length = rs.length := by
    clear ha hsa nd0 Qk hS
    induction hxs with
    | nil => exact ⟨[], .nil, rfl⟩
    | cons r t ih =>
      obtain ⟨zs, h1, h2⟩ := ih
      obtain ⟨p, y, z, e1, e2, e3, e4⟩ := r
      exact ⟨z :: zs, .cons ⟨p, y, e1, e2, e3⟩ h1, by rw [List.length_cons, List.length_cons, h2]⟩
  obtain ⟨zs, hzs, hzl⟩ := hz
  have hkv : P2 (KvAt H) xs ((rs.zip zs).map fun rz => (rz.1.1.map Sum.inl, rz.2)) := P2.map hzs fun x rz ⟨p, y, e1, e2, e3⟩ => by
    obtain ⟨b, rfl, hb⟩ := e3
    exact ⟨p, b, e1, e2, by rw [kv_inl]; exact hb⟩
  have ek : ((rs.zip zs).map fun rz => (rz.1.1.map (Sum.inl : Int → Key), rz.2)).map (·.1) = (rs.map (·.1)).map (fun ns => ns.map Sum.inl) := by
    have e := List.map_fst_zip (l₁ := rs) (l₂ := zs) (by omega)
    rw [List.map_map, List.map_map]
    conv => rhs; rw [← e, List.map_map]
    rfl
  refine ⟨_, rfl, a, _, dx, _, _, rfl, ha, hC, T.n_Seen_shares, rfl, sa, xs, _, rfl, hsa, hkv, ?_, fun p hn => Qk p _ hn ek⟩
  rw [ek]
  exact List.pairwise_map.mpr (nd0.imp fun {x y} ne e => ne (inl_inj e))
def spPatAt : Sp := fun vs H Q _ => ∃ (v : V) (sz : List Nat) (view p : List Int), vs = [v] ∧ TIn H v view ∧ view.length ≤ 1000 ∧ ∀ r H', Same H H' → TIn H' r (patOf view) → Q r H'
abbrev N_pattern_at : List Str := ["key"]
theorem sc_pattern_at : FnScope N_pattern_at ["key"] (defScope s_pattern_at) := ⟨rfl, rfl, rfl, by decide +kernel, rfl, by decide +kernel, by decide +kernel⟩
theorem cal_pattern_at (T : Txt w K mg) : C8.Cal P w K mg base 2 "pattern_at" spPatAt [] := by
  have c_is_pair := cal_is_pair (P := P) (base := base) T
  have c_pattern_of := cal_pattern_of (P := P) (base := base) T
  refine mkCal T.F_pattern_at T.g_pattern_at sc_pattern_at (fun _ _ _ _ _ _ us hl => match us, hl with | [_], _ => rfl) (fun vs H Q E h => ?_) (fun cdv A outer s H vs Q E hr h => ?_)
  · obtain ⟨v, sz, view, p, rfl, hv, hl, Qk⟩ := h
    rfl
  obtain ⟨v, sz, view, p, rfl, hv, hl, Qk⟩ := h
  have nd := sc_pattern_at.nd
  have hu := hu_of hr
  refine ⟨_, (pss_one (ps_ret (pe_ifExp (PW.pt (pw_and (pt_val (C8.pe_c c_is_pair hr (by decide) rfl (pa_cons (pv 0) pa_nil))) (pw_and1 (pt_val (pe_callB (r := rIsi K) call_isi (by rfl) T.z_isinstance bt_isinstance (pa_cons (pe_ix (r := rIxT K) ix_tup (pv 0) pe_int (fun _ _ => rfl)) (pa_cons (pe_bltn (v := .ty "tuple") (by rfl) T.z_tuple bt_tuple rfl) pa_nil))))))) (pe_ix (r := rIxT K) ix_tup (pv 0) pe_int (fun _ _ => rfl)) (C8.pe_c c_pattern_of hr (by decide) rfl (pa_cons (pv 0) pa_nil))))), ?_⟩
  obtain ⟨va, rfl, hva⟩ := id hv
  have hS : SqT K H va (view.map V.int) := SqT.of hva
  refine ⟨_, rfl, va, _, rfl, hS, _, rfl, ?_⟩
  by_cases h2 : (view.map V.int).length = 2
  · rw [decide_eq_true h2]
    refine iteT ?_
    rw [List.length_map] at h2
    obtain ⟨x, hx⟩ : ∃ x, view[1]? = some x := ⟨_, List.getElem?_eq_getElem (by omega)⟩
    have hx2 : (view.map V.int)[1]? = some (.int x) := by rw [List.getElem?_map, hx]; rfl
    refine ⟨_, rfl, va, _, _, _, rfl, rfl, hS, at_of (j := 1) rfl hx2, _, _, _, _, false, rfl, .ty _, .base (.int x), kit_ty (by decide +kernel), _, rfl, iteF ?_⟩
    exact ⟨_, rfl, _, _, rfl, hv, hl, Qk⟩
  · rw [decide_eq_false h2]
    exact iteF ⟨_, rfl, _, _, rfl, hv, hl, Qk⟩
/-- the patterns of the rows -/
def spFam (K : PySem.W.Frag) : Sp := fun vs H Q _ => ∃ (a : Addr) (sz : List Nat) (rs : List (List Int × Int)) (t : Int), vs = [.ref a] ∧ SeenAt K H a sz rs t ∧ rs.length ≤ 1000 ∧ (∀ r ∈ rs, r.1.length ≤ 1000) ∧
  ∀ p H' yss, Same H H' → H p = none → TLs H' p yss → (∀ y, y ∈ yss ↔ ∃ r ∈ rs, y = patOf r.1) → yss.Nodup → Q (.ref p) H'
abbrev N_family : List Str := ["table", "key", "share"]
theorem sc_family : FnScope N_family ["table"] (defScope s_family) := ⟨rfl, rfl, rfl, by decide +kernel, rfl, by decide +kernel, by decide +kernel⟩
theorem cal_family (T : Txt w K mg) : C8.Cal P w K mg base 3 "family" (spFam K) [] := by
  have c_pattern_at := cal_pattern_at (P := P) (base := base) T
  refine mkCal T.F_family T.g_family sc_family (fun _ _ _ _ _ _ us hl => match us, hl with | [_], _ => rfl) (fun vs H Q E h => ?_) (fun cdv A outer s H vs Q E hr h => ?_)
  · obtain ⟨a, sz, rs, t, rfl, hS, hl, hvl, Qk⟩ := h
    rfl
  obtain ⟨a, sz, rs, t, rfl, hS, hl, hvl, Qk⟩ := h
  have nd := sc_family.nd
  have hu := hu_of hr
  refine ⟨_, (pss_one (ps_ret (pe_callB (r := CbT.rSortG K P w) (CbT.cr_sortG rfl hr.units) (by rfl) T.z_sorted bt_sorted (pa_cons (pe_callTy (r := CbT.rSetG K P w) (CbT.cr_setG rfl hr.units) (by rfl) T.z_set bt_set (pa_cons (pe_lc (wi := iTup K _) (own := [("key", 1), ("share", 2)]) (g := gTup K 2 (gCons (gName 1) (gCons (gName 2) gNil))) (tt := tYes) rfl nd (pi_tup (pe_fldK (K := K) rfl (pv 0) rfl)) (blkOk_by (N := N_family) (sc := defScope s_family) (by decide +kernel)) (fun _ _ _ _ _ => (pg_tup rfl (pgs_cons (pg_name (i := 1) nd rfl (Or.inl rfl)) (pgs_cons (pg_name (i := 2) nd rfl (Or.inl rfl)) pgs_nil)))) (fun _ _ _ _ _ => pts_nil) (fun _ _ _ _ _ => (C8.pe_c c_pattern_at hr (by decide) rfl (pa_cons (pv 1) pa_nil)))) pa_nil)) pa_nil)))), ?_⟩
  obtain ⟨dx, sa, v, xs, ha, hv, hsa, hxs⟩ := hS.ex
  have hC := T.cl_Seen
  refine ⟨_, rfl, a, _, dx, _, _, rfl, ha, hC, T.n_Seen_shares, rfl, sa, rfl, ⟨_, hsa.sq⟩, fun D nD => ?_⟩
  refine lcI (walk_tup (xs := xs)) nD TIn (fun i => (rs.take i).map fun r => patOf r.1) rfl (fun H' s => (hsa.sm s).sq) ?_ ?_
  · rintro i x H2 _ hi L ⟨rfl, hx⟩
    obtain ⟨r, hr, p, y, z, rfl, hp, hy, hz⟩ := hxs.at_ hx
    have s2 := L.sm
    refine ⟨p, _, rfl, SqT.of (s2 _ _ hp), rfl, _, _, rfl, _, _, rfl, rfl, rfl, yesI ?_⟩
    refine ⟨_, rfl, y, sz, r.1, r.1, rfl, hy.tk (sm_tk s2), hvl r (List.mem_of_getElem? hr), fun q H3 s3 hq => ?_⟩
    refine L.push OfT.tin.kept nD s3 hq ?_ ?_
    · rw [take_snoc hr, List.map_append]
      rfl
    · rw [List.length_map, List.length_take]
      omega
  · intro H2 ys s2 hD hys
    rw [hxs.len, List.take_length] at hys
    refine setSort (SqL.of hD) hys (by rw [List.length_map]; omega) fun p H' yss s3 np ht hm hnd _ => Qk p H' yss (s2.trans s3) (s2.free np) ht (fun y => ?_) hnd
    rw [hm]
    constructor
    · intro h
      obtain ⟨r, hr, rfl⟩ := List.mem_map.mp h
      exact ⟨r, hr, rfl⟩
    · rintro ⟨r, hr, rfl⟩
      exact List.mem_map.mpr ⟨r, hr, rfl⟩

end
end Cb
namespace Cb
open PySem PySem.Spec PyProof.Rows L2
section
variable {P : Program} {w : World} {K : PySem.W.Frag} {mg : Str → Option Value} {base : Heap}
/-! ### lacking, is_full -/
/-- every view of every pattern of the rows is a row's -/
def Full (sz : List Nat) (ks : List (List Int)) : Prop := ∀ k ∈ ks, ∀ v ∈ views sz (patOf k), v ∈ ks
def lackF (sz : List Nat) (ks : List (List Int)) (p : List Int) : List (List Int) := (views sz p).filter fun v => decide (v ∉ ks)
theorem lackF_len {sz : List Nat} (h : Sz sz) (ks : List (List Int)) (p : List Int) : (lackF sz ks p).length ≤ 256 := Nat.le_trans (List.length_filter_le _ _) (views_len h)
theorem flat_len {sz : List Nat} (h : Sz sz) (ks : List (List Int)) : ∀ fam : List (List Int), (fam.flatMap (lackF sz ks)).length ≤ 256 * fam.length
  | [] => Nat.le_refl _
  | p :: fam => by
    have := lackF_len h ks p
    have := flat_len h ks fam
    rw [List.flatMap_cons, List.length_append, List.length_cons]
    omega
theorem lack_full {sz : List Nat} {ks fam : List (List Int)} (hm : ∀ y, y ∈ fam ↔ ∃ k ∈ ks, y = patOf k) : fam.flatMap (lackF sz ks) = [] ↔ Full sz ks := by
  rw [List.flatMap_eq_nil_iff]
  constructor
  · intro h k hk v hv
    have e := h (patOf k) ((hm _).mpr ⟨k, hk, rfl⟩)
    unfold lackF at e
    rw [List.filter_eq_nil_iff] at e
    have := e v hv
    rw [decide_eq_true_eq] at this
    exact Classical.not_not.mp this
  · intro h p hp
    obtain ⟨k, hk, rfl⟩ := (hm p).mp hp
    unfold lackF
    rw [List.filter_eq_nil_iff]
    intro v hv
    rw [decide_eq_true_eq]
    exact fun n => n (h k hk v hv)
theorem dT_some {kvs : List (List Key × V)} {ks : List (List Int)} (e : kvs.map (·.1) = ks.map (fun ns => ns.map Sum.inl)) (v : List Int) : (valV kvs (v.map Sum.inl)).isSome = decide (v ∈ ks) := by
  rw [← valV_any, Bool.eq_iff_iff, List.any_eq_true, decide_eq_true_eq]
  constructor
  · rintro ⟨kv, hkv, h⟩
    have h := of_decide_eq_true h
    have hm : kv.1 ∈ kvs.map (·.1) := List.mem_map.mpr ⟨kv, hkv, rfl⟩
    rw [e, h] at hm
    obtain ⟨ns, hns, q⟩ := List.mem_map.mp hm
    rw [← inl_inj q]
    exact hns
  · intro h
    have hm : v.map (Sum.inl : Int → Key) ∈ kvs.map (·.1) := by
      rw [e]
      exact List.mem_map.mpr ⟨v, h, rfl⟩
    obtain ⟨kv, hkv, q⟩ := List.mem_map.mp hm
    exact ⟨kv, hkv, decide_eq_true q⟩
/-- what lacking and is_full ask of the rows -/
structure RowsK (sz : List Nat) (rs : List (List Int × Int)) : Prop where
  gz : Sz sz
  nd : (rs.map (·.1)).Nodup
  len : rs.length ≤ 300
  vl : ∀ r ∈ rs, r.1.length = sz.length
def spLack (K : PySem.W.Frag) : Sp := fun vs H Q _ => ∃ (a : Addr) (sz : List Nat) (rs : List (List Int × Int)) (t : Int), vs = [.ref a] ∧ SeenAt K H a sz rs t ∧ RowsK sz rs ∧
  ∀ p H' yss, Same H H' → H p = none → TLs H' p yss → (yss = [] ↔ Full sz (rs.map (·.1))) → Q (.ref p) H'
abbrev N_lacking : List Str := ["seen", "known", "found", "pattern", "one"]
theorem sc_lacking : FnScope N_lacking ["seen"] (defScope s_lacking) := ⟨rfl, rfl, rfl, by decide +kernel, rfl, by decide +kernel, by decide +kernel⟩
theorem cal_lacking (T : Txt w K mg) : C8.Cal P w K mg base 4 "lacking" (spLack K) [] := by
  have c_shares_of := cal_shares_of (P := P) (base := base) T
  have c_family := cal_family (P := P) (base := base) T
  have c_views_of := cal_views_of (P := P) (base := base) T
  refine mkCal T.F_lacking T.g_lacking sc_lacking (fun _ _ _ _ _ _ us hl => match us, hl with | [_], _ => rfl) (fun vs H Q E h => ?_) (fun cdv A outer s H vs Q E hr h => ?_)
  · obtain ⟨a, sz, rs, t, rfl, hS, G, Qk⟩ := h
    rfl
  obtain ⟨a, sz, rs, t, rfl, hS, G, Qk⟩ := h
  have nd := sc_lacking.nd
  have hu := hu_of hr
  refine ⟨_, (pss_cons (ps_set (i := 1) nd rfl (Or.inr rfl) (C8.pe_c c_shares_of hr (by decide) rfl (pa_cons (pv 0) pa_nil)))
    (pss_cons (ps_set (i := 2) nd rfl (Or.inl rfl) (pe_lst pa_nil))
    (pss_cons (ps_for PassesOwn.never rfl (pi_list (C8.pe_c c_family hr (by decide) rfl (pa_cons (pv 0) pa_nil))) (pg_name (i := 3) nd rfl (Or.inl rfl))
    (pss_one (ps_expr (pe_bm PySem.F.plainAttrs_list PySem.F.slot_list_extend PySem.F.type_list_extend mt_extend (pv 2) (pa_cons (pe_lc (wi := iList K _) (own := [("one", 4)]) (g := gName 4) rfl nd (pi_list (C8.pe_c c_views_of hr (by decide) rfl (pa_cons (pe_fldK (K := K) rfl (pv 0) rfl) (pa_cons (pv 3) pa_nil)))) (blkOk_by (N := N_lacking) (sc := defScope s_lacking) (by decide +kernel)) (fun _ _ _ _ _ => (pg_name (i := 4) nd rfl (Or.inl rfl))) (fun _ _ _ _ _ => (pts_one (pt_cmp (pc_dnotin hu (pv 4) (pv 1))))) (fun _ _ _ _ _ => (pv 4))) pa_nil)))))
    (pss_one (ps_ret (pe_callB (r := rSortTs K) (cr_sortTs hr.units) (by rfl) T.z_sorted bt_sorted (pa_cons (pv 2) pa_nil))))))), ?_⟩
  obtain ⟨dx, sa, v, xs, ha, hv, hsa, hxs⟩ := hS.ex
  have hC := T.cl_Seen
  have hz := G.gz
  have l4 := hz.l4
  refine ⟨_, rfl, a, sz, rs, t, rfl, hS, G.nd, fun kp kvs nk ek => ?_⟩
  refine ⟨by decide, fun f nf => ?_⟩
  have s1 : Same H (upd (upd H kp (.dT kvs)) f (.lst [])) := sm_new (sm_up nk) nf
  have nfH : H f = none := (sm_up nk).free nf
  have hk1 : upd (upd H kp (.dT kvs)) f (.lst []) kp = some (.dT kvs) := up_at upd_same nf
  refine ⟨_, rfl, a, sz, rs, t, rfl, hS.sm s1, Nat.le_trans G.len (by decide), fun r hr => by rw [G.vl r hr]; omega, fun pf H2 fam s2 npf hfam hmem hnd => ?_⟩
  have s02 := s1.trans s2
  have ha2 := s02 _ _ ha
  have hv2 := hv.tk (sm_tk s02)
  have hk2 := s2 _ _ hk1
  have hf2 : H2 f = some (.lst []) := s2 _ _ upd_same
  obtain ⟨fvs, hpf, hfv⟩ := hfam
  have hfl : fam.length ≤ 300 := by
    have : fam.length ≤ (rs.map fun r => patOf r.1).length := hnd.length_le_of_subset fun y hy => by
      obtain ⟨r, hr, rfl⟩ := (hmem y).mp hy
      exact List.mem_map.mpr ⟨r, hr, rfl⟩
    rw [List.length_map] at this
    exact Nat.le_trans this G.len
  have pff : pf ≠ f := by
    intro e
    rw [e, upd_same] at npf
    cases npf
  have kpf : kp ≠ f := ne_of hk2 hf2 (by intro z; cases z)
  have aff : a ≠ f := ne_of ha2 hf2 (by intro z; cases z)
  refine ⟨pf, rfl, ⟨_, SqL.of hpf⟩, for_list (K := K) (a := pf) (xs := fvs) (fun i σ H3 => But f H2 H3 ∧ (∃ acc, H3 f = some (.lst acc) ∧ P2 (TIn H3) acc ((fam.take i).flatMap (lackF sz (rs.map (·.1))))) ∧ ∃ z3 z4 : Option V, σ = [some (.ref a), some (.ref kp), some (.ref f), z3, z4]) ?_ ?_ ?_ ?_⟩
  · exact ⟨But.of (Same.refl _), ⟨[], hf2, .nil⟩, _, _, rfl⟩
  · rintro i σ H3 _ ⟨b3, _⟩
    exact SqL.of (b3 _ _ pff hpf)
  · rintro i x σ H3 hi ⟨b3, ⟨acc, hf3, hacc⟩, z3, z4, rfl⟩
    obtain ⟨p, hp, hxp⟩ := hfv.at_ hi
    have tk3 := b3.tk hf2
    have hxp3 := hxp.tk tk3
    refine ⟨_, rfl, .inl ⟨rfl, _, SqL.of hf3⟩, ?_⟩
    refine ⟨_, rfl, a, _, dx, _, _, rfl, b3 _ _ aff ha2, hC, T.n_Seen_sizes, rfl, _, rfl, v, x, sz, p, rfl, hv2.tk tk3, hxp3, hz.s4, fun c H4 s4 nc hc => ?_⟩
    obtain ⟨vvs, hc4, hvv⟩ := hc
    refine ⟨c, rfl, ⟨_, SqL.of hc4⟩, fun D nD => ?_⟩
    have hk4 := s4 _ _ (b3 _ _ kpf hk2)
    refine lcI (walk_list (xs := vvs)) nD TIn (fun k => ((views sz p).take k).filter fun v => decide (v ∉ rs.map (·.1))) rfl (fun H' s => SqL.of (s _ _ hc4)) ?_ ?_
    · rintro k y H5 _ hk Lc ⟨rfl, hy⟩
      obtain ⟨u, hu, hyu⟩ := hvv.at_ hy
      obtain ⟨ya, rfl, hya⟩ := hyu.tk (sm_tk Lc.sm)
      refine ⟨rfl, ?_⟩
      refine ⟨_, rfl, _, rfl, kp, _, rfl, DGet.t (k := u.map Sum.inl) (Lc.sm _ _ hk4) (by rw [kv_inl]; exact hya), _, rfl, ?_⟩
      rw [dT_some ek]
      have hlen : (((views sz p).take k).filter fun v => decide (v ∉ rs.map (·.1))).length < 100000 := by
        refine Nat.lt_of_le_of_lt (List.length_filter_le _ _) ?_
        have := views_len (pat := p) hz
        rw [List.length_take]
        omega
      refine ite2 (fun e => ?_) (fun e => ?_)
      · have e' : decide (u ∉ rs.map (·.1)) = true := by
          rw [decide_not]
          exact e
        refine ⟨_, rfl, Lc.push OfT.tin.kept nD (Same.refl _) (x := u) ⟨ya, rfl, hya⟩ ?_ hlen⟩
        rw [take_snoc hu, List.filter_append, List.filter_cons_of_pos (p := fun v => decide (v ∉ rs.map (·.1))) e']
        rfl
      · have e' : ¬ decide (u ∉ rs.map (·.1)) = true := by
          rw [decide_not]
          exact e
        refine Lc.skip OfT.tin.kept (Same.refl _) ?_
        rw [take_snoc hu, List.filter_append, List.filter_cons_of_neg (p := fun v => decide (v ∉ rs.map (·.1))) e']
        exact List.append_nil _
    · intro H5 ys s5 hD hys
      rw [hvv.len, List.take_length] at hys
      have hys : P2 (TIn H5) ys (lackF sz (rs.map (·.1)) p) := hys
      have s35 := s4.trans s5
      have hf5 := s35 _ _ hf3
      have fl := flat_len hz (rs.map (·.1)) (fam.take i)
      have tl : (fam.take i).length ≤ 300 := by rw [List.length_take]; omega
      have yl := lackF_len hz (rs.map (·.1)) p
      refine ⟨f, D, acc, ys, rfl, rfl, hf5, hD, ?_, ?_⟩
      · refine Cb.sz ?_
        rw [hacc.len, hys.len]
        omega
      · have tk5 : Tk H5 (upd H5 f (.lst (acc ++ ys))) := tk_lst (fun _ _ h => h) hf5
        refine ⟨fun b o hb h => ?_, ⟨acc ++ ys, upd_same, ?_⟩, _, _, rfl⟩
        · rw [upd_ne hb]
          exact s35 _ _ (b3 _ _ hb h)
        · rw [take_snoc hp, List.flatMap_append, List.flatMap_cons, List.flatMap_nil, List.append_nil]
          exact (hacc.imp fun v x q => (q.tk (sm_tk s35)).tk tk5).app (hys.imp fun v x q => q.tk tk5)
  · rintro σ H3 ⟨b3, ⟨acc, hf3, hacc⟩, z3, z4, rfl⟩
    rw [hfv.len, List.take_length] at hacc
    have s3 : Same H H3 := fun b o h => b3 b o (ne_of_none h nfH) (s02 b o h)
    refine ⟨_, rfl, sortTs (SqL.of hf3) hacc fun p H' yss s np ht pm _ => Qk p H' yss (s3.trans s) (s3.free np) ht ?_⟩
    rw [← lack_full (ks := rs.map (·.1)) (fam := fam) (fun y => ?_)]
    · constructor
      · intro e
        rw [e] at pm
        exact pm.symm.eq_nil
      · intro e
        rw [e] at pm
        exact pm.eq_nil
    · rw [hmem]
      constructor
      · rintro ⟨r, hr, rfl⟩
        exact ⟨r.1, List.mem_map.mpr ⟨r, hr, rfl⟩, rfl⟩
      · rintro ⟨k, hk, rfl⟩
        obtain ⟨r, hr, rfl⟩ := List.mem_map.mp hk
        exact ⟨r, hr, rfl⟩
def spFull (K : PySem.W.Frag) : Sp := fun vs H Q _ => ∃ (a : Addr) (sz : List Nat) (rs : List (List Int × Int)) (t : Int), vs = [.ref a] ∧ SeenAt K H a sz rs t ∧ RowsK sz rs ∧
  ∀ b H', Same H H' → (b = true ↔ Full sz (rs.map (·.1))) → Q (.bl b) H'
abbrev N_is_full : List Str := ["seen"]
theorem sc_is_full : FnScope N_is_full ["seen"] (defScope s_is_full) := ⟨rfl, rfl, rfl, by decide +kernel, rfl, by decide +kernel, by decide +kernel⟩
theorem cal_is_full (T : Txt w K mg) : C8.Cal P w K mg base 5 "is_full" (spFull K) [] := by
  have c_lacking := cal_lacking (P := P) (base := base) T
  refine mkCal T.F_is_full T.g_is_full sc_is_full (fun _ _ _ _ _ _ us hl => match us, hl with | [_], _ => rfl) (fun vs H Q E h => ?_) (fun cdv A outer s H vs Q E hr h => ?_)
  · obtain ⟨a, sz, rs, t, rfl, hS, G, Qk⟩ := h
    rfl
  obtain ⟨a, sz, rs, t, rfl, hS, G, Qk⟩ := h
  have nd := sc_is_full.nd
  have hu := hu_of hr
  refine ⟨_, (pss_one (ps_ret (pe_cmpR op_eq (pe_callB (r := rLen K) call_len_seq (by rfl) T.z_len bt_len (pa_cons (C8.pe_c c_lacking hr (by decide) rfl (pa_cons (pv 0) pa_nil)) pa_nil)) pe_int (nomark _)))), ?_⟩
  refine ⟨_, rfl, a, sz, rs, t, rfl, hS, G, fun p H' yss s np ht hf => ?_⟩
  obtain ⟨vs, hp, hv⟩ := ht
  refine ⟨_, _, rfl, .inl (SqL.of hp), rfl, Qk _ H' s ?_⟩
  rw [← hf]
  rw [decide_eq_true_eq, hv.len]
  constructor
  · intro e
    injection e with e
    exact List.length_eq_zero_iff.mp (by omega)
  · intro e
    rw [e]
    rfl

end
end Cb
namespace Cb
open PySem PySem.Spec PyProof.Rows L2
section
variable {P : Program} {w : World} {K : PySem.W.Frag} {mg : Str → Option Value} {base : Heap}
/-! ### weights by views; _law_rows -/
theorem lex_tri : ∀ {x y : List Int}, HT.lexLt x y = false → HT.lexLt y x = false → x = y
  | [], [], _, _ => rfl
  | [], _ :: _, h, _ => by cases h
  | _ :: _, [], _, h => by cases h
  | a :: x, b :: y, h1, h2 => by
    rw [HT.lexLt_cons] at h1 h2
    by_cases e : a = b
    · subst e
      rw [if_pos rfl] at h1 h2
      rw [lex_tri h1 h2]
    · rw [if_neg e] at h1
      rw [if_neg (fun z => e z.symm)] at h2
      have := of_decide_eq_false h1
      have := of_decide_eq_false h2
      omega
theorem lex_asc {l : List (List Int)} (h : l.Pairwise (fun x y => HT.lexLt y x = false)) (nd : l.Nodup) : l.Pairwise fun x y => HT.lexLt x y = true := by
  refine List.Pairwise.imp₂ (fun x y h1 h2 => ?_) h nd
  cases e : HT.lexLt x y with
  | true => rfl
  | false => exact absurd (lex_tri e h1) h2
/-- the entries of a dict of weights -/
def kvW (ws : List (List Int × Int)) : List (List Key × V) := ws.map fun w => (w.1.map Sum.inl, .int w.2)
theorem kvW_keys (ws : List (List Int × Int)) : (kvW ws).map (·.1) = (ws.map (·.1)).map (fun ns => ns.map Sum.inl) := by
  unfold kvW
  rw [List.map_map, List.map_map]
  rfl
def wOf (ws : List (List Int × Int)) (y : List Int) : Int := match ws with
  | [] => 0
  | w :: r => if w.1 = y then w.2 else wOf r y
theorem wOf_val : ∀ {ws : List (List Int × Int)} {y : List Int}, y ∈ ws.map (·.1) → valV (kvW ws) (y.map Sum.inl) = some (.int (wOf ws y))
  | w :: r, y, h => by
    unfold kvW wOf
    rw [List.map_cons]
    by_cases e : w.1 = y
    · rw [if_pos e, ← e]
      exact valV_pos rfl
    · rw [if_neg e]
      rw [valV_neg (fun z => e (inl_inj z))]
      rw [List.map_cons] at h
      exact wOf_val ((List.mem_cons.mp h).resolve_left fun z => e z.symm)
theorem wOf_mem : ∀ {ws : List (List Int × Int)}, (ws.map (·.1)).Nodup → ∀ w ∈ ws, wOf ws w.1 = w.2
  | v :: r, nd, w, h => by
    rw [List.map_cons, List.nodup_cons] at nd
    unfold wOf
    rcases List.mem_cons.mp h with e | m
    · rw [e, if_pos rfl]
    · rw [if_neg (fun z : v.1 = w.1 => nd.1 (by rw [z]; exact List.mem_map.mpr ⟨w, m, rfl⟩)), wOf_mem nd.2 w m]
theorem wOf_perm {ws : List (List Int × Int)} (nd : (ws.map (·.1)).Nodup) {ys : List (List Int)} (p : ys.Perm (ws.map (·.1))) : (ys.map fun y => (y, wOf ws y)).Perm ws := by
  have e : (ws.map (·.1)).map (fun y => (y, wOf ws y)) = ws := by
    rw [List.map_map]
    refine (List.map_congr_left fun w hw => ?_).trans (List.map_id ws)
    show (w.1, wOf ws w.1) = w
    rw [wOf_mem nd w hw]
  have q := p.map fun y => (y, wOf ws y)
  rw [e] at q
  exact q
theorem P2.intsEq {vs : List V} {ns : List Int} (h : P2 (fun v n => v = V.int n) vs ns) : vs = ns.map V.int := by
  induction h with
  | nil => rfl
  | cons r t ih => rw [r, ih, List.map_cons]
theorem walk_keyT {d : Addr} {o : Obj} {kvs : List (List Key × V)} : Walk (Itkt d o kvs) kvs.length (fun H => H d = some (.frz o (.dT kvs))) (fun i H x H' => H' = H ∧ ∃ (k : List Key) (v : V) (q : Addr), kvs[i]? = some (k, v) ∧ x = .ref q ∧ H q = some (.tup (k.map kV))) :=
  ⟨fun i _ hi q => ⟨q, hi⟩, fun _ q => ⟨q, Nat.le_refl _⟩, fun i H v H' _ q y => y⟩
theorem sm_lock {H H2 : Hp} {a : Addr} {u v : HO} (ha : H a = some u) (s : Same (upd H a v) H2) : Same H (upd H2 a u) := fun b o h => by
  by_cases e : b = a
  · rw [e] at h ⊢
    rw [ha] at h
    rw [upd_same, h]
  · rw [upd_ne e]
    exact s b o (by rw [upd_ne e]; exact h)
/-- the weights -/
structure WtsOk (ws : List (List Int × Int)) : Prop where
  nd : (ws.map (·.1)).Nodup
  pos : ∀ w ∈ ws, 0 < w.2
  len : ws.length ≤ 300
  ne : ws ≠ []
  top : (ws.map (·.2)).sum < 2 ^ 64
theorem WtsOk.tot {ws : List (List Int × Int)} (W : WtsOk ws) : 0 < (ws.map (·.2)).sum := by
  have gen : ∀ l : List (List Int × Int), (∀ w ∈ l, 0 < w.2) → 0 ≤ (l.map (·.2)).sum ∧ (l ≠ [] → 0 < (l.map (·.2)).sum) := by
    intro l
    induction l with
    | nil => intro _; exact ⟨Int.le_refl _, fun h => absurd rfl h⟩
    | cons w l ih =>
      intro h
      have h1 := h w List.mem_cons_self
      have h2 := (ih fun v hv => h v (List.mem_cons_of_mem _ hv)).1
      rw [List.map_cons, List.sum_cons]
      exact ⟨by omega, fun _ => by omega⟩
  exact (gen ws W.pos).2 W.ne
theorem OfT.rw {t : Int} : OfT (RwAt t) := fun H H' v x e ⟨p, y, z, h1, h2, h3, h4⟩ => ⟨p, y, z, h1, e _ _ h2, h3.tk e, h4.tk e⟩
def spRows : Sp := fun vs H Q _ => ∃ (a : Addr) (ws : List (List Int × Int)), vs = [.ref a] ∧ H a = some (.dT (kvW ws)) ∧ WtsOk ws ∧
  ∀ p H' xs rs, Same H H' → TupF H' p xs → P2 (RwAt (ws.map (·.2)).sum H') xs rs → rs.Perm ws → (rs.Pairwise fun r s => HT.lexLt r.1 s.1 = true) → Q (.ref p) H'
abbrev N_L_rows : List Str := ["_law_weights", "_law_total", "_law_key"]
theorem sc_L_rows : FnScope N_L_rows ["_law_weights"] (defScope s_L_rows) := ⟨rfl, rfl, rfl, by decide +kernel, rfl, by decide +kernel, by decide +kernel⟩
theorem cal_L_rows (T : Txt w K mg) : C8.Cal P w K mg base 2 "_law_rows" spRows [] := by
  have c_L_low := cal_L_low (P := P) (base := base) T
  refine mkCal T.F_L_rows T.g__law_rows sc_L_rows (fun _ _ _ _ _ _ us hl => match us, hl with | [_], _ => rfl) (fun vs H Q E h => ?_) (fun cdv A outer s H vs Q E hr h => ?_)
  · obtain ⟨a, ws, rfl, ha, W, Qk⟩ := h
    rfl
  obtain ⟨a, ws, rfl, ha, W, Qk⟩ := h
  have nd := sc_L_rows.nd
  have hu := hu_of hr
  refine ⟨_, (pss_cons (ps_set (i := 1) nd rfl (Or.inr rfl) (pe_callB (r := rSum K) (cr_sum rfl) (by rfl) T.z_sum bt_sum (pa_cons (pe_lock (pe_lc (own := [("_law_key", 2)]) (g := gName 2) (tt := tYes) rfl nd (pi_keys (pv 0)) (blkOk_by (N := N_L_rows) (sc := defScope s_L_rows) (by decide +kernel)) (fun _ _ _ _ _ => (pg_name (i := 2) nd rfl (Or.inl rfl))) (fun _ _ _ _ _ => pts_nil) (fun _ _ _ _ _ => (pe_dget hu (pv 0) (pv 2) (fun _ _ => rfl))))) pa_nil)))
    (pss_one (ps_ret (pe_callTy call_tupleF (by rfl) T.z_tuple bt_tuple (pa_cons (pe_lc (wi := iList K _) (own := [("_law_key", 2)]) (g := gName 2) rfl nd (pi_list (pe_callB (r := rSortDT) (cr_sortDT rfl hr.units) (by rfl) T.z_sorted bt_sorted (pa_cons (pv 0) pa_nil))) (blkOk_by (N := N_L_rows) (sc := defScope s_L_rows) (by decide +kernel)) (fun _ _ _ _ _ => (pg_name (i := 2) nd rfl (Or.inl rfl))) (fun _ _ _ _ _ => (pts_one (pt_cmpR op_gt (pe_dget hu (pv 0) (pv 2) (fun _ _ => rfl)) pe_int (nomark _)))) (fun _ _ _ _ _ => (pe_tup (pa_cons (pv 2) (pa_cons (C8.pe_c c_L_low hr (by decide) rfl (pa_cons (pe_dget hu (pv 0) (pv 2) (fun _ _ => rfl)) (pa_cons (pv 1) pa_nil))) pa_nil))))) pa_nil))))), ?_⟩
  refine ⟨a, _, ha, trivial, fun od => ⟨_, rfl, a, od, rfl, .inr ⟨_, upd_same, fun D nD => ?_⟩⟩⟩
  refine lcI (walk_keyT (kvs := kvW ws)) nD (fun _ v n => v = V.int n) (fun i => (ws.take i).map (·.2)) rfl (fun H' s => s _ _ upd_same) ?_ ?_
  · rintro i x H2' H2 hi L ⟨rfl, k, v, q, hkv, rfl, hq⟩
    have hwi : (kvW ws)[i]? = (ws[i]?).map fun w => (w.1.map Sum.inl, .int w.2) := List.getElem?_map ..
    rw [hwi] at hkv
    obtain ⟨w, hw, e⟩ := Option.map_eq_some_iff.mp hkv
    cases e
    have hwm := List.mem_of_getElem? hw
    have hv : valV (kvW ws) (w.1.map Sum.inl) = some (.int w.2) := by rw [wOf_val (List.mem_map.mpr ⟨w, hwm, rfl⟩), wOf_mem W.nd w hwm]
    have hf : H2 a = some (.frz od (.dT (kvW ws))) := L.sm _ _ upd_same
    refine ⟨rfl, yesI ?_⟩
    refine ⟨_, rfl, _, rfl, a, .int w.2, rfl, .inr ⟨_, _, q, .inr ⟨od, hf⟩, rfl, hq, hv.symm⟩, L.push OfT.con.kept nD (Same.refl _) (x := w.2) rfl ?_ ?_⟩
    · rw [take_snoc hw, List.map_append]
      rfl
    · rw [List.length_map, List.length_take]
      have := W.len
      omega
  · intro H2 ys s2 hD hys
    have e0 : (kvW ws).length = ws.length := List.length_map _
    rw [e0, List.take_length] at hys
    have eys := P2.intsEq hys
    subst eys
    have hf : H2 a = some (.frz od (.dT (kvW ws))) := s2 _ _ upd_same
    have sl := sm_lock ha s2
    have Da : D ≠ a := by
      intro e
      rw [e, upd_same] at nD
      cases nD
    refine ⟨hf, D, _, rfl, SqL.of (by rw [upd_ne Da]; exact hD), ?_⟩
    generalize upd H2 a (.dT (kvW ws)) = H3 at sl
    have ha3 := sl _ _ ha
    refine ⟨_, rfl, a, kvW ws, ws.map (·.1), rfl, .inl ha3, kvW_keys ws, fun p H4 yss s4 np hp pm pw => ?_⟩
    obtain ⟨vs, hp, hvs⟩ := hp
    have s14 := sl.trans s4
    refine ⟨p, rfl, ⟨_, SqL.of hp⟩, fun D2 nD2 => ?_⟩
    refine lcI (walk_list (xs := vs)) nD2 (RwAt (ws.map (·.2)).sum) (fun i => (yss.take i).map fun y => (y, wOf ws y)) rfl (fun H' s => SqL.of (s _ _ hp)) ?_ ?_
    · rintro i x H5' H5 hi L ⟨rfl, hx⟩
      obtain ⟨y, hy, hxy⟩ := hvs.at_ hx
      obtain ⟨b, rfl, hb⟩ := hxy.tk (sm_tk L.sm)
      have hym : y ∈ ws.map (·.1) := pm.mem_iff.mp (List.mem_of_getElem? hy)
      have hv := wOf_val hym
      have ha5 : ∀ {H6}, Same H5 H6 → DGet H6 a (.ref b) (some (.int (wOf ws y))) := fun s6 => by
        rw [← hv]
        exact DGet.t (s6 _ _ (L.sm _ _ (s14 _ _ ha))) (by rw [kv_inl]; exact s6 _ _ hb)
      have hpos : 0 < wOf ws y := by
        obtain ⟨w, hw, e⟩ := List.mem_map.mp hym
        rw [← e, wOf_mem W.nd w hw]
        exact W.pos w hw
      have hin : ((yss.take i).map fun y => (y, wOf ws y)).length < 100000 := by
        have := pm.length_eq
        have := W.len
        rw [List.length_map] at *
        rw [List.length_take]
        omega
      refine ⟨rfl, _, rfl, _, rfl, a, _, rfl, ha5 (Same.refl _), _, _, rfl, rfl, _, rfl, iteTd (by rw [decide_eq_true hpos]) ?_⟩
      refine ⟨_, rfl, _, rfl, _, rfl, a, _, rfl, ha5 (Same.refl _), _, rfl, wOf ws y, (ws.map (·.2)).sum, rfl, W.tot, ?_, fun r H6 s6 hr => ⟨(by show 2 ≤ sizeLine; decide), fun e ne => ?_⟩⟩
      · have := W.top
        have := W.tot
        omega
      · have se := sm_up (o := .tup [.ref b, r]) ne
        exact L.push OfT.rw.kept nD2 (s6.trans se) (x := (y, wOf ws y)) ⟨e, _, _, rfl, upd_same, ⟨b, rfl, se _ _ (s6 _ _ hb)⟩, hr.tk (sm_tk se)⟩ (by rw [take_snoc hy, List.map_append]; rfl) hin
    · intro H5 ys s5 hD2 hys2
      rw [hvs.len, List.take_length] at hys2
      have pm2 := wOf_perm W.nd pm
      refine ⟨D2, ys, rfl, SqL.of hD2, fun l o nl h1 h2 => ?_⟩
      have sl2 := sm_up (o := .frz o (.tup ys)) nl
      refine Qk l _ ys _ ((s14.trans s5).trans sl2) ⟨o, h1, h2, upd_same⟩ (hys2.imp fun v x r => r.sm sl2) pm2 ?_
      rw [List.pairwise_map]
      exact lex_asc pw (pm.nodup_iff.mpr W.nd)

end
end Cb
namespace Cb
open PySem PySem.Spec PyProof.Rows L2
section
variable {P : Program} {w : World} {K : PySem.W.Frag} {mg : Str → Option Value} {base : Heap}
/-! ### _law_views -/
/-- the kinds of the contents that a view shows, as the law lists them -/
def kl (sz : List Nat) (t b : Tree) (v : List Int) : List Int := (shownC sz v).map fun c => kindOf t b c (patOf v)
def KdAt (H : Hp) (x : V) (n : Int) : Prop := ∃ (p : Addr) (cv : V), x = .ref p ∧ H p = some (.tup [cv, .int n])
theorem KdAt.tk {H H' : Hp} {x : V} {n : Int} (h : KdAt H x n) (e : Tk H H') : KdAt H' x n := by
  obtain ⟨p, cv, h1, h2⟩ := h
  exact ⟨p, cv, h1, e _ _ h2⟩
/-- a row of the law: a weight, a pattern, the pairs; its list is not at D -/
def LrAt (sz : List Nat) (t b : Tree) (D : Addr) (H : Hp) (x : V) (r : List Int × Int) : Prop := ∃ (q : Addr) (pt : V) (k : Addr) (ps : List V), x = .ref q ∧ H q = some (.tup [.int r.2, pt, .ref k]) ∧ k ≠ D ∧ H k = some (.lst ps) ∧ P2 (KdAt H) ps (kl sz t b r.1)
theorem LrAt.but {sz : List Nat} {t b : Tree} {D : Addr} {H H' : Hp} {x : V} {r : List Int × Int} (h : LrAt sz t b D H x r) (e : But D H H') (tk : Tk H H') : LrAt sz t b D H' x r := by
  obtain ⟨q, pt, k, ps, h1, h2, h3, h4, h5⟩ := h
  exact ⟨q, pt, k, ps, h1, tk _ _ h2, h3, e _ _ h3 h4, h5.imp fun v n z => z.tk tk⟩
theorem contents_256 {sz : List Nat} (hz : Sz sz) : (contents sz).length ≤ 256 := by
  rw [contents_len]
  refine Nat.le_trans (foldl_mul_pow hz.s4.b) ?_
  exact Nat.le_trans (Nat.pow_le_pow_right (n := 4) (by decide) hz.l4) (by decide)
theorem shownC_256 {sz : List Nat} (hz : Sz sz) (v : List Int) : (shownC sz v).length ≤ 256 := Nat.le_trans (List.length_filter_le _ _) (contents_256 hz)
def spLViews : Sp := fun vs H Q _ => ∃ (v qv : V) (a : Addr) (sz : List Nat) (ws : List (List Int × Int)) (z : Str) (t b : Tree), vs = [v, .ref a, qv] ∧ TIn H v (isz sz) ∧ Sz sz ∧ H a = some (.dT (kvW ws)) ∧ WtsOk ws ∧ (∀ w ∈ ws, w.1.length = sz.length) ∧ ShareAt sz H qv z t b ∧
  ∀ p H' xs rs, Same H H' → H p = none → H' p = some (.lst xs) → P2 (LrAt sz t b p H') xs rs → rs.Perm ws → Q (.ref p) H'
abbrev N_L_views : List Str := ["_law_sizes", "_law_weights", "_law_question_here", "_law_found", "_law_view_here", "_law_pattern", "_law_contents_here", "_law_pairs", "_law_content", "_law_column"]
theorem sc_L_views : FnScope N_L_views ["_law_sizes", "_law_weights", "_law_question_here"] (defScope s_L_views) := ⟨rfl, rfl, rfl, by decide +kernel, rfl, by decide +kernel, by decide +kernel⟩
theorem cal_L_views (T : Txt w K mg) : C8.Cal P w K mg base 7 "_law_views" spLViews [] := by
  have c_L_shown_by := cal_L_shown_by (P := P) (base := base) T
  have c_L_kind := cal_L_kind (P := P) (base := base) T
  refine mkCal T.F_L_views T.g__law_views sc_L_views (fun _ _ _ _ _ _ us hl => match us, hl with | [_, _, _], _ => rfl) (fun vs H Q E h => ?_) (fun cdv A outer s H vs Q E hr h => ?_)
  · obtain ⟨v, qv, a, sz, ws, z, t, b, rfl, hv, hz, ha, W, hwl, hq, Qk⟩ := h
    rfl
  obtain ⟨v, qv, a, sz, ws, z, t, b, rfl, hv, hz, ha, W, hwl, hq, Qk⟩ := h
  have nd := sc_L_views.nd
  have hu := hu_of hr
  refine ⟨_, (pss_cons (ps_set (i := 3) nd rfl (Or.inl rfl) (pe_lst pa_nil))
    (pss_cons (ps_for PassesOwn.never rfl (pi_list (pe_callB (r := rSortDT) (cr_sortDT rfl hr.units) (by rfl) T.z_sorted bt_sorted (pa_cons (pv 1) pa_nil))) (pg_name (i := 4) nd rfl (Or.inr rfl))
    (pss_cons (ps_set (i := 5) nd rfl (Or.inr rfl) (pe_callTy (r := rTupOf K) call_tuple_of (by rfl) T.z_tuple bt_tuple (pa_cons (pe_lc (own := [("_law_column", 9)]) (g := gName 9) rfl nd (pi_range1 (by rfl) T.z_range (pa_cons (pe_callB (r := rLen K) call_len_seq (by rfl) T.z_len bt_len (pa_cons (pv 4) pa_nil)) pa_nil)) (blkOk_by (N := N_L_views) (sc := defScope s_L_views) (by decide +kernel)) (fun _ _ _ _ _ => (pg_name (i := 9) nd rfl (Or.inl rfl))) (fun _ _ _ _ _ => (pts_one (pt_cmpR op_ne (pe_ix (r := rIxT K) ix_tup (pv 4) (pv 9) (fun _ _ => rfl)) (pe_un un_neg pe_int) (nomark _)))) (fun _ _ _ _ _ => (pv 9))) pa_nil)))
    (pss_cons (ps_set (i := 6) nd rfl (Or.inl rfl) (C8.pe_c c_L_shown_by hr (by decide) rfl (pa_cons (pv 0) (pa_cons (pv 4) pa_nil))))
    (pss_cons (ps_setLc (i := 7) (own := [("_law_content", 8)]) (g := gName 8) (tt := tYes) rfl nd rfl rfl (sw_true rfl rfl rfl (by decide +kernel)) (pi_list (pv 6)) (blkOk_by (N := N_L_views) (sc := defScope s_L_views) (by decide +kernel)) (fun _ _ _ _ _ => (pg_name (i := 8) nd rfl (Or.inl rfl))) (fun _ _ _ _ _ => pts_nil) (fun _ _ _ _ _ => (pe_tup (pa_cons (pv 8) (pa_cons (C8.pe_c c_L_kind hr (by decide) rfl (pa_cons (pv 2) (pa_cons (pv 8) (pa_cons (pv 5) pa_nil)))) pa_nil)))))
    (pss_one (ps_expr (pe_bm PySem.F.plainAttrs_list PySem.F.slot_list_append PySem.F.type_list_append mt_append (pv 3) (pa_cons (pe_tup (pa_cons (pe_dget hu (pv 1) (pv 4) (fun _ _ => rfl)) (pa_cons (pv 5) (pa_cons (pv 7) pa_nil)))) pa_nil))))))))
    (pss_one (ps_ret (pv 3))))), ?_⟩
  have l4 := hz.l4
  refine ⟨by decide, fun f nf => ?_⟩
  have s0 := sm_up (o := .lst []) nf
  refine ⟨_, rfl, a, kvW ws, ws.map (·.1), rfl, .inl (s0 _ _ ha), kvW_keys ws, fun p H1 yss s1 np hp pm pw => ?_⟩
  obtain ⟨vs, hp, hvs⟩ := hp
  have s01 := s0.trans s1
  have hf1 := s1 _ _ upd_same
  have pf : p ≠ f := by
    intro e
    rw [e, upd_same] at np
    cases np
  have af : a ≠ f := ne_of_none ha nf
  have ylen : yss.length ≤ 300 := by
    have := pm.length_eq
    have := W.len
    rw [List.length_map] at *
    omega
  refine ⟨p, rfl, ⟨_, SqL.of hp⟩, for_list (K := K) (a := p) (xs := vs) (fun i σ H3 => But f H1 H3 ∧ (∃ acc, H3 f = some (.lst acc) ∧ P2 (LrAt sz t b f H3) acc ((yss.take i).map fun y => (y, wOf ws y))) ∧ ∃ z4 z5 z6 z7 z8 z9 : Option V, σ = [some v, some (.ref a), some qv, some (.ref f), z4, z5, z6, z7, z8, z9]) ?_ ?_ ?_ ?_⟩
  · exact ⟨But.of (Same.refl _), ⟨[], hf1, .nil⟩, _, _, _, _, _, _, rfl⟩
  · rintro i σ H3 _ ⟨b3, _⟩
    exact SqL.of (b3 _ _ pf hp)
  · rintro i x σ H3 hi ⟨b3, ⟨acc, hf3, hacc⟩, z4, z5, z6, z7, z8, z9, rfl⟩
    obtain ⟨y, hy, hxy⟩ := hvs.at_ hi
    have tk1 := b3.tk hf1
    have hym : y ∈ ws.map (·.1) := pm.mem_iff.mp (List.mem_of_getElem? hy)
    have yl : y.length = sz.length := by
      obtain ⟨w, hw, rfl⟩ := List.mem_map.mp hym
      exact hwl w hw
    obtain ⟨ya, rfl, hya⟩ := hxy.tk tk1
    have hyS : SqT K H3 ya (y.map V.int) := SqT.of hya
    have hlen : Int.toNat ((y.map V.int).length : Int) = y.length := by rw [List.length_map]; omega
    have ha3 := b3 _ _ af (s01 _ _ ha)
    have hv3 := (hv.tk (sm_tk s01)).tk tk1
    have hq3 := (hq.tk (sm_tk s01)).tk tk1
    refine ⟨_, rfl, _, _, rfl, .inr hyS, _, rfl, by omega, by rw [List.length_map]; omega, fun D nD => ?_⟩
    refine lcI (walk_range0 (n := Int.toNat ((y.map V.int).length : Int))) nD (fun _ v n => v = V.int n) (fun i => patOf (y.take i)) rfl (fun H' s => trivial) ?_ ?_
    · rintro j _ _ H4 hj L ⟨rfl, rfl⟩
      rw [hlen] at hj
      obtain ⟨n, hn⟩ : ∃ n, y[j]? = some n := ⟨_, List.getElem?_eq_getElem hj⟩
      have e1 : (y.map V.int)[j]? = some (.int n) := by rw [List.getElem?_map, hn]; rfl
      have e := patOf_take hn
      refine ⟨rfl, ?_⟩
      refine ⟨_, rfl, _, rfl, ya, _, _, _, rfl, rfl, SqT.of (L.sm _ _ hya), at_of rfl e1, _, rfl, ?_⟩
      refine ⟨rfl, _, rfl, ite2 (fun c => ?_) (fun c => ?_)⟩
      · have c' : n ≠ -1 := by
          intro z
          subst z
          cases c
        rw [if_pos c'] at e
        refine ⟨_, rfl, L.push OfT.con.kept nD (Same.refl _) (x := (j : Int)) rfl e ?_⟩
        have := patOf_le (c := y.take j)
        rw [List.length_take] at this
        omega
      · have c' : n = -1 := by
          by_cases z : n = -1
          · exact z
          · refine absurd ?_ c
            show (!decide (V.int n = V.int (-1))) = true
            simp [z]
        rw [if_neg (fun z => z c'), List.append_nil] at e
        exact L.skip OfT.con.kept (Same.refl _) e
    · intro H4 ys s4 hD hys
      rw [hlen, List.take_of_length_le (Nat.le_refl _)] at hys
      have eys := P2.intsEq hys
      subst eys
      refine ⟨D, _, rfl, .inl ⟨SqL.of hD, fun l nl => ?_⟩⟩
      have s5 := s4.trans (sm_up (o := .tup ((patOf y).map V.int)) nl)
      have hpt : TIn (upd H4 l (.tup ((patOf y).map V.int))) (.ref l) (patOf y) := ⟨l, rfl, upd_same⟩
      generalize upd H4 l (.tup ((patOf y).map V.int)) = H5 at s5 hpt
      refine ⟨_, rfl, _, rfl, v, .ref ya, sz, y, rfl, hv3.tk (sm_tk s5), hz.s4, ⟨ya, rfl, s5 _ _ hya⟩, yl, fun c H6 s6 nc hc => ?_⟩
      obtain ⟨cs, hc, hcs⟩ := hc
      have s36 := s5.trans s6
      refine ⟨_, rfl, c, rfl, ⟨_, SqL.of hc⟩, fun D2 nD2 => ?_⟩
      refine lcI (walk_list (xs := cs)) nD2 KdAt (fun k => ((shownC sz y).take k).map fun c => kindOf t b c (patOf y)) rfl (fun H' s => SqL.of (s _ _ hc)) ?_ ?_
      · rintro k x H7' H7 hk L ⟨rfl, hx⟩
        obtain ⟨u, hu, hxu⟩ := hcs.at_ hx
        have s37 := s36.trans L.sm
        have ul : u.length = sz.length := by
          have hm := List.mem_of_getElem? hu
          unfold shownC at hm
          exact (mem_contents.mp (List.mem_filter.mp hm).1).1
        refine ⟨rfl, yesI ?_⟩
        refine ⟨_, rfl, _, rfl, _, rfl, _, rfl, qv, x, .ref l, z, t, b, sz, u, patOf y, rfl, hq3.tk (sm_tk s37), hxu.tk (sm_tk L.sm), hpt.tk (sm_tk (s6.trans L.sm)), ul, (by show 2 ≤ sizeLine; decide), fun e ne => ?_⟩
        refine L.push (fun _ _ acc _ _ hd bb r => r.tk (bb.tk hd)) nD2 (sm_up ne) (x := kindOf t b u (patOf y)) ⟨e, x, rfl, upd_same⟩ ?_ ?_
        · rw [take_snoc hu, List.map_append]
          rfl
        · have := shownC_256 hz y
          rw [List.length_map, List.length_take]
          omega
      · intro H7 ps s7 hD2 hps
        rw [hcs.len, List.take_length] at hps
        have s37 := s36.trans s7
        have hf7 := s37 _ _ hf3
        have D2f : D2 ≠ f := by
          intro e
          rw [e, s36 _ _ hf3] at nD2
          cases nD2
        have hg : DGet H7 a (.ref ya) (some (.int (wOf ws y))) := by
          have h := DGet.t (k := y.map Sum.inl) (s37 _ _ ha3) (b := ya) (by rw [kv_inl]; exact s37 _ _ hya)
          rw [wOf_val hym] at h
          exact h
        refine ⟨_, rfl, .inl ⟨rfl, _, SqL.of hf7⟩, _, rfl, _, rfl, a, _, rfl, hg, _, rfl, _, rfl, (by show 3 ≤ sizeLine; decide), fun e ne => ?_⟩
        have se := sm_up (o := .tup [.int (wOf ws y), .ref l, .ref D2]) ne
        have s38 := s37.trans se
        have hf8 := se _ _ hf7
        have ef : e ≠ f := by
          intro z
          rw [z, hf7] at ne
          cases ne
        refine ⟨f, acc, _, rfl, rfl, hf8, szl (by rw [hacc.len, List.length_map, List.length_take]; omega), ?_⟩
        have tk8 : Tk H3 (upd (upd H7 e (.tup [.int (wOf ws y), .ref l, .ref D2])) f (.lst (acc ++ [.ref e]))) := tk_lst (sm_tk s38) hf8
        have b8 : But f H3 (upd (upd H7 e (.tup [.int (wOf ws y), .ref l, .ref D2])) f (.lst (acc ++ [.ref e]))) := fun c o hb h => by
          rw [upd_ne hb]
          exact s38 _ _ h
        have tk78 : Tk H7 (upd (upd H7 e (.tup [.int (wOf ws y), .ref l, .ref D2])) f (.lst (acc ++ [.ref e]))) := tk_lst (sm_tk se) hf8
        refine ⟨fun c o hb h => b8 c o hb (b3 c o hb h), ⟨acc ++ [.ref e], upd_same, ?_⟩, _, _, _, _, _, _, rfl⟩
        rw [take_snoc hy, List.map_append]
        refine (hacc.imp fun v x q => q.but b8 tk8).snoc ⟨e, .ref l, D2, ps, rfl, ?_, D2f, ?_, hps.imp fun v n q => q.tk tk78⟩
        · rw [upd_ne ef, upd_same]
        · rw [upd_ne D2f]
          exact se _ _ hD2
  · rintro σ H3 ⟨b3, ⟨acc, hf3, hacc⟩, z4, z5, z6, z7, z8, z9, rfl⟩
    rw [hvs.len, List.take_length] at hacc
    have s3 : Same H H3 := fun c o h => b3 c o (ne_of_none h nf) (s01 c o h)
    exact ⟨_, rfl, Qk f H3 acc _ s3 nf hf3 hacc (wOf_perm W.nd pm)⟩

end
end Cb
/-! sets of small ints: set(xs) -/
namespace CbT
open PySem PySem.Spec PyProof.Rows L2
section
variable {P : Program} {w : World} {A : Around} {E : Value → Shared → Prop} {s : Shared}
/-- the update's loop -/
theorem upd_loopI {I : Addr} {fp wr : List Addr} {G : Array GenState → Array GenState → Prop} {n : Nat} {Pv : Nat → Value → Prop} {St : Nat → Shared → Prop} {R : Result → Shared → Prop}
    (W : WalksS P w A.in1 I fp wr G n Pv St) (S : Addr) (hSf : S ∉ fp) (ks : List Int) (hn : n = ks.length) (hfew : ks.length ≤ 4000) (hval : ∀ i v, Pv i v → ∃ (p : Int) (tk : Tok), ks[i]? = some p ∧ v = .int p tk)
    (h0 : Heap) (hS0 : h0.get? S = none) (hw0 : ∀ b ∈ wr, h0.get? b = none) (hu : A.in1.units < cLine) :
    ∀ (k i : Nat) (s : Shared), n - i = k → i ≤ n → St i s → (∀ b o, h0.get? b = some o → s.heap.get? b = some o) → (∃ m, SetR w s.heap S (fun k => decide (k ∈ ks.take i)) m ∧ m ≤ i) →
      (∀ s' m, Moved (S :: wr) G s s' → SetR w s'.heap S (fun k => decide (k ∈ ks.take n)) m → (∀ b o, h0.get? b = some o → s'.heap.get? b = some o) → R (.ok (.ret .none)) s') →
      codeAny (model P w) A (.builtin "set.update.loop" ⟨[.ref S, .ref I], []⟩) R s := by
  have hSw : S ∉ wr := fun h => hSf (W.sub _ h)
  have hsub : ∀ b ∈ wr, b ∈ S :: wr := fun b hb => List.mem_cons_of_mem _ hb
  have keepM : ∀ {s s' : Shared}, Moved wr G s s' → (∀ b o, h0.get? b = some o → s.heap.get? b = some o) → ∀ b o, h0.get? b = some o → s'.heap.get? b = some o := fun hm hkp b o e =>
    hm.heap b o (fun hb => by rw [hw0 b hb] at e; cases e) (hkp b o e)
  intro k
  induction k with
  | zero =>
    intro i s hk' hi hst hkp ⟨m, hS, g⟩ hR
    have hin : i = n := by omega
    subst hin
    refine codeAny_builtin F.entry_set_update_loop ?_
    rw [Around.under_plainId F.plain_set_update_loop _]
    show wpAny _ A.in1 (pyNext (.ref I) >>= _) _ _ s
    refine wpAny_bind (W.done s _ _ hst fun s' hm => ?_)
    show wpAny _ A.in1 (ret Value.none) _ _ s'
    have hkp' := keepM hm hkp
    exact wpAny_pure (hR s' m (hm.mono hsub) (hS.at fun o e => hm.heap S o hSw e) hkp')
  | succ k ih =>
    intro i s hk' hi hst hkp ⟨m, hS, g⟩ hR
    have hlt : i < n := by omega
    refine codeAny_builtin F.entry_set_update_loop ?_
    rw [Around.under_plainId F.plain_set_update_loop _]
    show wpAny _ A.in1 (pyNext (.ref I) >>= _) _ _ s
    refine wpAny_bind (W.item i s _ _ hlt hst fun v s' hP hst' hm => ?_)
    obtain ⟨p, tk, hp, rfl⟩ := hval i v hP
    have hkp' := keepM hm hkp
    have hS' := hS.at (h' := s'.heap) fun o e => hm.heap S o hSw e
    show wpAny _ A.in1 (holding [Value.int p tk] (setAdd S (.int p tk)) >>= _) _ _ s'
    refine wpAny_bind (wpAny_holding ?_)
    unfold setAdd
    refine wpAny_holding ?_
    refine wpAny_bind (wpAny_pyHash_int ?_)
    refine setR_add_hashed (P := P) (s := { s' with toks := s'.toks + 1 }) hS' (by unfold scanBound; omega) fun h' hsb hS2 => ?_
    have hS3 : SetR w h' S (fun k => decide (k ∈ ks.take (i + 1))) (if decide (p ∈ ks.take i) = true then m else m + 1) := hS2.congr fun k => by
      rw [take_next hp, Bool.eq_iff_iff, Bool.or_eq_true, decide_eq_true_eq, decide_eq_true_eq, decide_eq_true_eq, List.mem_append, List.mem_singleton]
    have g' : (if decide (p ∈ ks.take i) = true then m else m + 1) ≤ i + 1 := by split <;> omega
    have hkp2 : ∀ b o, h0.get? b = some o → h'.get? b = some o := fun b o e => (hsb.2 b (fun z => by rw [z, hS0] at e; cases e)).trans (hkp' b o e)
    refine wpAny_pure ⟨plainId_quiet F.plain_set_update_loop _, ih (i + 1) _ (by omega) hlt (W.frame _ s' _ _ hst' (Nat.le_add_right _ _) fun b hb o e => ?_) hkp2 ⟨_, hS3, g'⟩ fun s'' m2 hm'' hS'' hkp'' => ?_⟩
    · rw [hsb.2 b (fun h : b = S => hSf (by rw [← h]; exact hb))]; exact e
    · refine hR s'' m2 (Moved.trans W.gtrans ((hm.mono hsub).then_heap (Nat.le_add_right _ _) fun b o hb e => ?_) hm'') hS'' hkp''
      rw [hsb.2 b (fun h : b = S => hb (by rw [h]; exact List.mem_cons_self))]; exact e
set_option maxHeartbeats 4000000 in
theorem call_setI {l : Addr} {items : Array Value} (ks : List Int) {Q : Value → Shared → Prop} (hh : A.handled = none) (hl : s.heap.IsList l items) (hit : PyProof.Rows.IntsAre items.toList ks)
    (hfew : ks.length ≤ 4000) (hu : A.units + 3 < cLine)
    (h : ∀ (h' : Heap) (tk : Nat) m, SetR w h' s.heap.objs.size (fun k => decide (k ∈ ks.take ks.length)) m → (∀ b o, s.heap.get? b = some o → h'.get? b = some o) → Q (.ref s.heap.objs.size) { s with heap := h', toks := tk }) :
    wpAny (model P w) A (call (.type "set") [.ref l]) Q E s := by
  have hisz : items.size = ks.length := by
    have q := hit.length
    rw [Array.length_toList] at q
    exact q
  obtain ⟨c, tl, hmro⟩ := F.called_set.mro
  have hmade := F.called_set.made
  have hsub := F.called_set.sub
  refine wpAny_call (codeAny_of_tree ?_)
  show wpAny _ _ (callAny (.type "set") _) _ _ _
  refine wpAny_pure ⟨Code.quiet_builtin _ (by decide +kernel), codeAny_builtin F.entry_type_call ?_⟩
  rw [Around.under_plain (weight_type_call_type "set" [.ref l] []) rfl]
  have h1 := F.called_set.notType
  have h2 := F.called_set.canCreate
  have hct := F.typeCall_set_1 (.ref l)
  repeat (any_goals (first | assumption | wp_step))

  refine codeAny_mono (code_set_led1 (.ref l) (E := E) (Q₁ := fun obj s₁ => obj = .ref s.heap.objs.size ∧ s₁ = { s with heap := s.heap.push { cls := .type "set", dict := none, data := .set #[] 0 (.fresh 0 0 (!w.params.followText "set-order")) } }) ⟨rfl, rfl⟩) fun r s₁ hr => ?_
  cases r with
  | error e => exact hr
  | ok fl =>
    cases fl with
    | ret obj =>
      obtain ⟨rfl, rfl⟩ := hr
      have hS : (s.heap.push { cls := .type "set", dict := none, data := .set #[] 0 (.fresh 0 0 (!w.params.followText "set-order")) }).get? s.heap.objs.size = some { cls := .type "set", dict := none, data := .set #[] 0 (.fresh 0 0 (!w.params.followText "set-order")) } := Heap.get?_push_size _ rfl
      have hT : Shared.TypeIs { s with heap := s.heap.push { cls := .type "set", dict := none, data := .set #[] 0 (.fresh 0 0 (!w.params.followText "set-order")) } } (.ref s.heap.objs.size) "set" := ⟨_, hS, rfl⟩
      have hli := F.called_set.init.lookup
      have hbi := F.called_set.init.bind (.ref s.heap.objs.size)
      repeat (any_goals (first | assumption | wp_step))

      refine codeAny_mono (codeAny_call_builtin (R := wants (fun r s₂ => r = .none ∧ ∃ h' tk m, s₂ = { s with heap := h', toks := tk } ∧ SetR w h' s.heap.objs.size (fun k => decide (k ∈ ks.take ks.length)) m ∧
          (∀ b o, s.heap.get? b = some o → h'.get? b = some o)) E) F.called_set.init.plain F.entry_set_init (check_set_init_1 hT ?_)) fun r₂ s₂ hr₂ => ?_
      · obtain ⟨ol, hol, hcl, nl, hdl⟩ := hl
        obtain ⟨ocls, odict, odata, oslots⟩ := ol
        simp only at hcl hdl
        subst hcl; subst hdl
        have hol' : (s.heap.push { cls := .type "set", dict := none, data := .set #[] 0 (.fresh 0 0 (!w.params.followText "set-order")) }).get? l = some { cls := .type "list", dict := odict, data := .seq items nl, slots := oslots } := Heap.get?_push_of_some _ hol
        have hsls := F.sub_list_set
        have hslf := F.sub_list_frozenset
        have hne : (Value.type "list" == Value.type "dict") = false := by decide
        have hl1 : (s.heap.push { cls := .type "set", dict := none, data := .set #[] 0 (.fresh 0 0 (!w.params.followText "set-order")) }).IsList l items := ⟨_, hol', rfl, nl, rfl⟩
        unfold Builtin.«set.__init__» noKeywords Builtin.Frozenset.updateFrom
        generalize hPI : pyIter = PI
        wp_walk
        subst hPI

        refine wpAny_pyIter_list hl1 ?_
        refine wpAny_bind (wpAny_runValue ?_)
        have hlS : l < s.heap.objs.size := Heap.lt_size hol
        have hh3 : A.in1.in1.in1.handled = none := by simp [hh]
        have hz1 : (s.heap.push { cls := .type "set", dict := none, data := .set #[] 0 (.fresh 0 0 (!w.params.followText "set-order")) }).objs.size = s.heap.objs.size + 1 := Heap.size_push ..
        have hneI : l ≠ (s.heap.push { cls := .type "set", dict := none, data := .set #[] 0 (.fresh 0 0 (!w.params.followText "set-order")) }).objs.size := by
          rw [Heap.size_push]; exact Nat.ne_of_lt (Nat.lt_succ_of_lt hlS)
        have hSf : s.heap.objs.size ∉ [(s.heap.push { cls := .type "set", dict := none, data := .set #[] 0 (.fresh 0 0 (!w.params.followText "set-order")) }).objs.size, l] := by
          rw [Heap.size_push]; simp only [List.mem_cons, List.mem_singleton, List.not_mem_nil, or_false, not_or]
          exact ⟨Nat.ne_of_lt (Nat.lt_succ_self _), Nat.ne_of_gt hlS⟩
        have hval : ∀ (i : Nat) (v : Value), items[i]? = some v → ∃ (p : Int) (tk : Tok), ks[i]? = some p ∧ v = .int p tk := fun i v hv => by
          have gen : ∀ {l : List Value} {ns : List Int}, PyProof.Rows.IntsAre l ns → ∀ (i : Nat) (v : Value), l[i]? = some v → ∃ (p : Int) (tk : Tok), ns[i]? = some p ∧ v = .int p tk := by
            intro l ns hl
            induction hl with
            | nil => intro i v e; simp at e
            | cons x t hl ih =>
              intro i v e
              cases i with
              | zero =>
                cases e
                exact ⟨_, _, rfl, rfl⟩
              | succ i => exact ih i v (by simpa using e)
          exact gen hit i v (by rw [Array.getElem?_toList]; exact hv)
        have none_of : ∀ b, s.heap.objs.size ≤ b → s.heap.get? b = none := fun b hb => by
          cases q : s.heap.get? b with
          | none => rfl
          | some o => exact absurd (Nat.lt_of_lt_of_le (Heap.lt_size q) hb) (Nat.lt_irrefl _)
        refine upd_loopI ((Walks.list hh3 _ l hneI items).toS) s.heap.objs.size
          hSf ks hisz hfew hval s.heap (none_of _ (Nat.le_refl _)) (fun b hb => none_of b (by
            rw [List.mem_singleton.mp hb, Heap.size_push]
            exact Nat.le_succ _)) hu (items.size - 0) 0 _ (by omega) (Nat.zero_le _)
          ⟨⟨_, Heap.get?_push_size _ rfl, rfl, rfl⟩, (hl1.push _)⟩ (fun b o e => Heap.get?_push_of_some _ (Heap.get?_push_of_some _ e)) ?hS0 ?hR
        case hS0 =>
          have hget : ((s.heap.push { cls := .type "set", dict := none, data := .set #[] 0 (.fresh 0 0 (!w.params.followText "set-order")) }).push { cls := .type "list_iterator", data := .fields #[.ref l, .int 0 0] }).get? s.heap.objs.size
              = some { cls := .type "set", dict := none, data := .set #[] 0 (.fresh 0 0 (!w.params.followText "set-order")) } := Heap.get?_push_of_some _ hS
          have hf := (setR_fresh (h := s.heap) w).at (h' := (s.heap.push { cls := .type "set", dict := none, data := .set #[] 0 (.fresh 0 0 (!w.params.followText "set-order")) }).push { cls := .type "list_iterator", data := .fields #[.ref l, .int 0 0] }) fun o e => Heap.get?_push_of_some _ e
          exact ⟨0, hf.congr fun k => rfl, Nat.le_refl _⟩
        case hR =>
          intro s' m hm hS' hkp
          obtain ⟨h', g2, d', tk', os'⟩ := s'
          have eg : g2 = s.gens := hm.gens
          have ed : d' = s.drawn := hm.drawn
          have eo : os' = s.os := hm.os
          subst eg; subst ed; subst eo
          show wpAny _ _ _ _ _ _
          refine wpAny_pure ?_
          show wpAny _ _ (ret Value.none) _ _ _
          rw [hisz] at hS'
          exact wpAny_pure ⟨rfl, h', tk', m, rfl, hS', hkp⟩

      · cases r₂ with
        | error e => exact hr₂
        | ok fl₂ =>
          cases fl₂ with
          | ret r =>
            obtain ⟨rfl, h', tk, m, rfl, hS', hk'⟩ := hr₂
            repeat (any_goals (first | assumption | wp_step))
            exact h _ _ _ hS' hk'
          | _ => exact hr₂.elim
    | _ => exact hr.elim
end
section
variable {X : Cx}
/-- set(xs), xs a list of ints in 0, 1, 2 -/
def rSetI (K : PySem.W.Frag) (w : World) : List V → Hp → VK → Prop := fun xs H Q => ∃ (l : Addr) (ns : List Int), xs = [V.ref l] ∧ SqL K H l (ns.map V.int) ∧ ns.length ≤ 4000 ∧ (∀ n ∈ ns, n = 0 ∨ n = 1 ∨ n = 2) ∧
  ∀ a m, H a = none → m ≤ 3 → Q (.ref a) (upd H a (SetO w a (fun k => decide (k ∈ ns)) m))
theorem cr_setI (hc : X.calm = true) (hu : X.A.units + 64 < cLine) : CallR X (.type "set") (rSetI X.K X.w) := by
  intro pins s σ H xs us Q I r h
  obtain ⟨l, ns, rfl, hl, hlen, h3, q⟩ := h
  rw [Vals.ref1 r]
  obtain ⟨its, rv, pl, hz⟩ := I.list hl
  have hn : H s.heap.objs.size = none := I.hok.fresh (Nat.le_refl _)
  refine call_setI (P := X.prog) (w := X.w) ns (I.ok.hd hc) pl.isList (by simpa using rv.ints) hlen (by omega) fun h' tk m R k => ?_
  rw [List.take_length] at R
  have hm : m ≤ 3 := by
    obtain ⟨o, es, ep, t, _, _, _, _, nd, hS, _, _, hsz, _⟩ := id R
    have := nd.length_le_of_subset (l₂ := [0, 1, 2]) fun k hk => by
      have := (hS k).mpr hk
      rcases h3 k (of_decide_eq_true this) with e | e | e <;> simp [e]
    rw [List.length_map, Array.length_toList, hsz] at this
    exact this
  exact ⟨.ref s.heap.objs.size, upd H s.heap.objs.size (SetO X.w s.heap.objs.size (fun k => decide (k ∈ ns)) m), I.laid (t' := tk) k (Nat.le_refl _) (setO_new R), rfl, q _ m hn hm⟩
end
end CbT
namespace Cb
open PySem PySem.Spec PyProof.Rows L2
section
variable {P : Program} {w : World} {K : PySem.W.Frag} {mg : Str → Option Value} {base : Heap}
/-! ### _law_bounds -/
/-- the law's four sums -/
def sm4 (sz : List Nat) (t b : Tree) (rs : List (List Int × Int)) : List Int := [(sel sz t b fMust rs).sum, (sel sz t b fAgainst rs).sum, (sel sz t b fCan rs).sum, (sel sz t b fSure rs).sum]
def mt4 (ks : List Int) : List Bool := [fMust ks, fAgainst ks, fCan ks, fSure ks]
theorem sel_snoc {sz : List Nat} {t b : Tree} {f : List Int → Bool} {l : List (List Int × Int)} {r : List Int × Int} : (sel sz t b f (l ++ [r])).sum = (sel sz t b f l).sum + r.2 * (if f (kinds sz t b r.1) = true then 1 else 0) := by
  induction l with
  | nil =>
    rw [List.nil_append, sel_cons]
    show _ + (0 : Int) = 0 + _
    split <;> omega
  | cons x l ih =>
    rw [List.cons_append, sel_cons, sel_cons, ih]
    omega
theorem sm4_snoc {sz : List Nat} {t b : Tree} {l : List (List Int × Int)} {r : List Int × Int} : ∀ {j : Nat} {s : Int} {m : Bool}, (sm4 sz t b l)[j]? = some s → (mt4 (kinds sz t b r.1))[j]? = some m → (sm4 sz t b (l ++ [r]))[j]? = some (s + r.2 * (if m = true then 1 else 0))
  | 0, s, m, h1, h2 => by
    cases h1
    cases h2
    exact congrArg some sel_snoc
  | 1, s, m, h1, h2 => by
    cases h1
    cases h2
    exact congrArg some sel_snoc
  | 2, s, m, h1, h2 => by
    cases h1
    cases h2
    exact congrArg some sel_snoc
  | 3, s, m, h1, h2 => by
    cases h1
    cases h2
    exact congrArg some sel_snoc
  | _ + 4, s, m, h1, h2 => by cases h1
theorem one_of {ns ks : List Int} (n1 : ns.Nodup) (n2 : ks.Nodup) (h : ∀ k, k ∈ ns ↔ k ∈ ks) (a : Int) : ns = [a] ↔ ks = [a] := by
  have gen : ∀ {x y : List Int}, y.Nodup → (∀ k, k ∈ x ↔ k ∈ y) → x = [a] → y = [a] := fun {x y} ny hm e => by
    subst e
    have p : y.Perm [a] := (List.perm_ext_iff_of_nodup ny (by simp)).mpr fun k => (hm k).symm
    exact List.perm_singleton.mp p
  exact ⟨gen n2 h, gen n1 fun k => (h k).symm⟩
def spLBounds (K : PySem.W.Frag) : Sp := fun vs H Q _ => ∃ (p f : Addr) (xs : List V) (sz : List Nat) (t b : Tree) (rs : List (List Int × Int)), vs = [.ref p] ∧ H p = some (.lst xs) ∧ P2 (LrAt sz t b f H) xs rs ∧ Sz sz ∧ (∀ r ∈ rs, 0 < r.2) ∧ (rs.map (·.2)).sum < 2 ^ 64 ∧ rs.length ≤ 300 ∧ (∀ r ∈ rs, ∃ p, isPat sz.length p ∧ r.1 ∈ views sz p) ∧
  ∀ r H', Same H H' → BndAt H' r (bnd sz t b rs) → Q r H'
abbrev N_L_bounds : List Str := ["_law_rows_here", "_law_sums", "_law_weight_here", "_law_pattern", "_law_pairs", "_law_kinds", "_law_met", "_law_at", "_law_content", "_law_kind_here"]
theorem sc_L_bounds : FnScope N_L_bounds ["_law_rows_here"] (defScope s_L_bounds) := ⟨rfl, rfl, rfl, by decide +kernel, rfl, by decide +kernel, by decide +kernel⟩
theorem cal_L_bounds (T : Txt w K mg) : C8.Cal P w K mg base 2 "_law_bounds" (spLBounds K) [] := by
  have c_L_low := cal_L_low (P := P) (base := base) T
  refine mkCal T.F_L_bounds T.g__law_bounds sc_L_bounds (fun _ _ _ _ _ _ us hl => match us, hl with | [_], _ => rfl) (fun vs H Q E h => ?_) (fun cdv A outer s H vs Q E hr h => ?_)
  · obtain ⟨p, f, xs, sz, t, b, rs, rfl, hp, hxs, hz, hpos, htop, hlen, hvw, Qk⟩ := h
    rfl
  obtain ⟨p, f, xs, sz, t, b, rs, rfl, hp, hxs, hz, hpos, htop, hlen, hvw, Qk⟩ := h
  have nd := sc_L_bounds.nd
  have hu := hu_of hr
  refine ⟨_, (pss_cons (ps_if (pt_val (pe_callB (r := rAll K) (cr_all rfl) (by rfl) T.z_all bt_all (pa_cons (pe_lc (wi := iList K _) (own := [("_law_weight_here", 2), ("_law_pattern", 3), ("_law_pairs", 4)]) (g := gTup K 3 (gCons (gName 2) (gCons (gName 3) (gCons (gName 4) gNil)))) (tt := tYes) rfl nd (pi_list (pv 0)) (blkOk_by (N := N_L_bounds) (sc := defScope s_L_bounds) (by decide +kernel)) (fun _ _ _ _ _ => (pg_tup rfl (pgs_cons (pg_name (i := 2) nd rfl (Or.inl rfl)) (pgs_cons (pg_name (i := 3) nd rfl (Or.inl rfl)) (pgs_cons (pg_name (i := 4) nd rfl (Or.inl rfl)) pgs_nil))))) (fun _ _ _ _ _ => pts_nil) (fun _ _ _ _ _ => (pe_callB (r := rAny K) (cr_any rfl) (by rfl) T.z_any bt_any (pa_cons (pe_lc (wi := iList K _) (own := [("_law_content", 8), ("_law_kind_here", 9)]) (g := gTup K 2 (gCons (gName 8) (gCons (gName 9) gNil))) (tt := tYes) rfl nd (pi_list (pv 4)) (blkOk_by (N := N_L_bounds) (by rfl)) (fun _ _ _ _ _ => (pg_tup rfl (pgs_cons (pg_name (i := 8) nd rfl (Or.inl rfl)) (pgs_cons (pg_name (i := 9) nd rfl (Or.inl rfl)) pgs_nil)))) (fun _ _ _ _ _ => pts_nil) (fun _ _ _ _ _ => (pe_cmpR op_eq (pv 9) pe_int (nomark _)))) pa_nil)))) pa_nil)))
    (pss_one (ps_ret pe_non))
    pss_nil)
    (pss_cons (ps_set (i := 1) nd rfl (Or.inr rfl) (pe_lst (pa_cons pe_int (pa_cons pe_int (pa_cons pe_int (pa_cons pe_int pa_nil))))))
    (pss_cons (ps_for PassesOwn.never rfl (pi_list (pv 0)) (pg_tup rfl (pgs_cons (pg_name (i := 2) nd rfl (Or.inr rfl)) (pgs_cons (pg_name (i := 3) nd rfl (Or.inl rfl)) (pgs_cons (pg_name (i := 4) nd rfl (Or.inl rfl)) pgs_nil))))
    (pss_cons (ps_set (i := 5) nd rfl (Or.inl rfl) (pe_callB (r := rSortedSet w) (cr_sortedSet rfl) (by rfl) T.z_sorted bt_sorted (pa_cons (pe_callTy (r := CbT.rSetI K w) (CbT.cr_setI rfl hr.units) (by rfl) T.z_set bt_set (pa_cons (pe_lc (wi := iList K _) (own := [("_law_content", 8), ("_law_kind_here", 9)]) (g := gTup K 2 (gCons (gName 8) (gCons (gName 9) gNil))) (tt := tYes) rfl nd (pi_list (pv 4)) (blkOk_by (N := N_L_bounds) (sc := defScope s_L_bounds) (by decide +kernel)) (fun _ _ _ _ _ => (pg_tup rfl (pgs_cons (pg_name (i := 8) nd rfl (Or.inl rfl)) (pgs_cons (pg_name (i := 9) nd rfl (Or.inl rfl)) pgs_nil)))) (fun _ _ _ _ _ => pts_nil) (fun _ _ _ _ _ => (pv 9))) pa_nil)) pa_nil)))
    (pss_cons (ps_set (i := 6) nd rfl (Or.inr rfl) (pe_lst (pa_cons (pe_cmpR (r := rEqD K) (op_eqD hr.units) (pv 5) (pe_lst (pa_cons pe_int pa_nil)) (nomark _)) (pa_cons (pe_cmpR (r := rIn K false) op_in_seq pe_int (pv 5) (by rfl)) (pa_cons (pe_cmpR (r := rIn K false) op_in_seq pe_int (pv 5) (by rfl)) (pa_cons (pe_cmpR (r := rEqD K) (op_eqD hr.units) (pv 5) (pe_lst (pa_cons pe_int pa_nil)) (nomark _)) pa_nil))))))
    (pss_one (ps_set (i := 1) nd rfl (Or.inr rfl) (pe_lc (own := [("_law_at", 7)]) (g := gName 7) (tt := tYes) rfl nd (pi_range1 (by rfl) T.z_range (pa_cons pe_int pa_nil)) (blkOk_by (N := N_L_bounds) (sc := defScope s_L_bounds) (by decide +kernel)) (fun _ _ _ _ _ => (pg_name (i := 7) nd rfl (Or.inl rfl))) (fun _ _ _ _ _ => pts_nil) (fun _ _ _ _ _ => (pe_op op_add (pe_ix (r := rIxL K) ix_list (pv 1) (pv 7) (fun _ _ => rfl)) (pe_op op_mul (pv 2) (pe_callTy call_int1 (by rfl) T.z_int bt_int (pa_cons (pe_ix (r := rIxL K) ix_list (pv 6) (pv 7) (fun _ _ => rfl)) pa_nil)))))))))))
    (pss_one (ps_ret (pe_tup (pa_cons (C8.pe_c c_L_low hr (by decide) rfl (pa_cons (pe_ix (r := rIxL K) ix_list (pv 1) pe_int (fun _ _ => rfl)) (pa_cons (pe_op op_add (pe_ix (r := rIxL K) ix_list (pv 1) pe_int (fun _ _ => rfl)) (pe_ix (r := rIxL K) ix_list (pv 1) pe_int (fun _ _ => rfl))) pa_nil))) (pa_cons (C8.pe_c c_L_low hr (by decide) rfl (pa_cons (pe_ix (r := rIxL K) ix_list (pv 1) pe_int (fun _ _ => rfl)) (pa_cons (pe_op op_add (pe_ix (r := rIxL K) ix_list (pv 1) pe_int (fun _ _ => rfl)) (pe_ix (r := rIxL K) ix_list (pv 1) pe_int (fun _ _ => rfl))) pa_nil))) pa_nil)))))))), ?_⟩
  refine ⟨_, rfl, p, rfl, ⟨_, SqL.of hp⟩, fun D nD => ?_⟩
  have hLr : ∀ {H2 : Hp} {i : Nat} {x : V}, Same H H2 → xs[i]? = some x → ∃ r, rs[i]? = some r ∧ LrAt sz t b f H2 x r := fun s hx => by
    obtain ⟨r, hr, h⟩ := hxs.at_ hx
    exact ⟨r, hr, h.but (fun c o _ h => s c o h) (sm_tk s)⟩
  refine lcI (walk_list (xs := xs)) nD (fun _ v b => v = V.bl b) (fun i => (rs.take i).map fun r => decide ((0 : Int) ∈ kl sz t b r.1)) rfl (fun H' s => SqL.of (s _ _ hp)) ?_ ?_
  · rintro i x H2' H2 hi L ⟨rfl, hx⟩
    obtain ⟨r, hr, q, pt, k, ps, rfl, hq, _, hk, hps⟩ := hLr L.sm hx
    refine ⟨q, _, rfl, SqT.of hq, rfl, _, _, rfl, _, _, rfl, _, _, rfl, rfl, rfl, yesI ?_⟩
    refine ⟨_, rfl, k, rfl, ⟨_, SqL.of hk⟩, fun D2 nD2 => ?_⟩
    have pl : ps.length ≤ 256 := by
      rw [hps.len]
      unfold kl
      rw [List.length_map]
      exact shownC_256 hz r.1
    refine lcI (walk_list (xs := ps)) nD2 (fun _ v b => v = V.bl b) (fun j => ((kl sz t b r.1).take j).map fun n => decide (n = 0)) rfl (fun H' s => SqL.of (s _ _ hk)) ?_ ?_
    · rintro j y H3' H3 hj L2' ⟨rfl, hy⟩
      obtain ⟨n, hn, p2, cv, rfl, hp2⟩ := hps.at_ hy
      have hp3 := L2'.sm _ _ hp2
      refine ⟨p2, _, rfl, SqT.of hp3, rfl, _, _, rfl, _, _, rfl, rfl, rfl, yesI ?_⟩
      refine ⟨_, rfl, rfl, L2'.push OfT.con.kept nD2 (Same.refl _) (x := decide (n = 0)) ?_ ?_ ?_⟩
      · show V.bl (decide (V.int n = V.int 0)) = _
        congr 1
        rw [Bool.eq_iff_iff, decide_eq_true_eq, decide_eq_true_eq]
        exact ⟨fun e => V.int.inj e, fun e => by rw [e]⟩
      · rw [take_snoc hn, List.map_append]
        rfl
      · rw [List.length_map, List.length_take]
        have := hps.len
        omega
    · intro H3 bs s3 hD2 hbs
      rw [hps.len, List.take_length] at hbs
      have eb := P2.bls hbs
      subst eb
      refine ⟨D2, _, rfl, SqL.of hD2, L.push OfT.con.kept nD s3 (x := decide ((0 : Int) ∈ kl sz t b r.1)) ?_ ?_ ?_⟩
      · congr 1
        rw [Bool.eq_iff_iff, List.any_eq_true, decide_eq_true_eq]
        constructor
        · rintro ⟨c, hc, e⟩
          obtain ⟨n, hn, rfl⟩ := List.mem_map.mp hc
          rw [← of_decide_eq_true e]
          exact hn
        · intro h
          exact ⟨true, List.mem_map.mpr ⟨0, h, rfl⟩, rfl⟩
      · rw [take_snoc hr, List.map_append]
        rfl
      · rw [List.length_map, List.length_take]
        omega
  · intro H2 bs s2 hD hbs
    rw [hxs.len, List.take_length] at hbs
    have eb := P2.bls hbs
    subst eb
    have ez : ((rs.map fun r => decide ((0 : Int) ∈ kl sz t b r.1)).all id) = rs.all fun r => fZero (kinds sz t b r.1) := by
      rw [List.all_map]
      refine List.all_congr rfl fun r => ?_
      show decide _ = decide _
      rw [Bool.eq_iff_iff, decide_eq_true_eq, decide_eq_true_eq]
      unfold kinds kl
      exact mem_kindsL.symm
    refine ⟨D, _, rfl, SqL.of hD, _, rfl, ?_⟩
    rw [ez]
    refine ite2 (fun c => ?_) (fun c => ?_)
    · refine Qk .non H2 s2 ?_
      unfold bnd
      rw [if_pos c]
      rfl
    refine ⟨by decide, fun S nS => ?_⟩
    have s3 := s2.trans (sm_up (o := .lst [.int 0, .int 0, .int 0, .int 0]) nS)
    refine ⟨_, rfl, p, rfl, ⟨_, SqL.of (s3 _ _ hp)⟩, for_list (K := K) (a := p) (xs := xs) (fun i σ H3 => Same H H3 ∧ ∃ (S : Addr) (z2 z3 z4 z5 z6 z7 z8 z9 : Option V), σ = [some (.ref p), some (.ref S), z2, z3, z4, z5, z6, z7, z8, z9] ∧ H3 S = some (.lst ((sm4 sz t b (rs.take i)).map V.int))) ?_ ?_ ?_ ?_⟩
    · exact ⟨s3, S, _, _, _, _, _, _, _, _, rfl, upd_same⟩
    · rintro i σ H3 _ ⟨s4, _⟩
      exact SqL.of (s4 _ _ hp)
    · rintro i x σ H3 hi ⟨s4, S, z2, z3, z4, z5, z6, z7, z8, z9, rfl, hS⟩
      obtain ⟨r, hr, q, pt, k, ps, rfl, hq, _, hk, hps⟩ := hLr s4 hi
      refine ⟨q, _, rfl, SqT.of hq, rfl, _, _, rfl, _, _, rfl, _, _, rfl, rfl, ?_⟩
      have klen : (kl sz t b r.1).length ≤ 256 := by
        unfold kl
        rw [List.length_map]
        exact shownC_256 hz r.1
      refine ⟨_, rfl, k, rfl, ⟨_, SqL.of hk⟩, fun D nD => ?_⟩
      refine lcI (walk_list (xs := ps)) nD (fun _ v n => v = V.int n) (fun j => (kl sz t b r.1).take j) rfl (fun H' s => SqL.of (s _ _ hk)) ?_ ?_
      · rintro j y H4' H4 hj L ⟨rfl, hy⟩
        obtain ⟨n, hn, p2, cv, rfl, hp2⟩ := hps.at_ hy
        refine ⟨p2, _, rfl, SqT.of (L.sm _ _ hp2), rfl, _, _, rfl, _, _, rfl, rfl, rfl, yesI ?_⟩
        refine ⟨_, rfl, L.push OfT.con.kept nD (Same.refl _) (x := n) rfl (take_snoc hn) ?_⟩
        rw [List.length_take]
        omega
      · intro H4 ys s5 hD hys
        rw [hps.len, List.take_length] at hys
        have eys := P2.intsEq hys
        subst eys
        refine ⟨D, _, rfl, SqL.of hD, by omega, fun n hn => ?_, fun a m na hm => ⟨a, _, m, rfl, upd_same, by omega, fun ns kp pw hmem hlen2 nk => ?_⟩⟩
        · unfold kl at hn
          obtain ⟨c, _, rfl⟩ := List.mem_map.mp hn
          have := kindOf_r t b c (patOf r.1)
          omega
        have s6 := s5.trans ((sm_up (o := SetO w a (fun k => decide (k ∈ kl sz t b r.1)) m) na).trans (sm_up (o := .lst (ns.map V.int)) nk))
        have hkp : upd (upd H4 a (SetO w a (fun k => decide (k ∈ kl sz t b r.1)) m)) kp (.lst (ns.map V.int)) kp = some (.lst (ns.map V.int)) := upd_same
        generalize upd (upd H4 a (SetO w a (fun k => decide (k ∈ kl sz t b r.1)) m)) kp (.lst (ns.map V.int)) = H5 at s6 hkp
        have hmem' : ∀ k, k ∈ ns ↔ k ∈ kinds sz t b r.1 := fun k => by
          rw [hmem, decide_eq_true_eq]
          exact mem_kindsL.symm
        refine ⟨_, rfl, (by show 1 ≤ sizeLine; decide), fun l1 n1 => ⟨_, _, lst_dp (up_at hkp n1), lst_dp (ns := [2]) upd_same, shL _, shL _, ?_⟩⟩
        refine ⟨_, rfl, kp, _, rfl, .inl (SqL.of (up_at hkp n1)), rfl, flat_ints _, ?_⟩
        refine ⟨_, rfl, kp, _, rfl, .inl (SqL.of (up_at hkp n1)), rfl, flat_ints _, ?_⟩
        have s7 := s6.trans (sm_up (o := .lst [.int 2]) n1)
        have hk7 : upd H5 l1 (.lst [.int 2]) kp = some (.lst (ns.map V.int)) := up_at hkp n1
        generalize upd H5 l1 (.lst [.int 2]) = H7 at s7 hk7
        refine ⟨_, rfl, (by show 1 ≤ sizeLine; decide), fun l2 n2 => ⟨_, _, lst_dp (up_at hk7 n2), lst_dp (ns := [1]) upd_same, shL _, shL _, ?_⟩⟩
        have s8 := s7.trans (sm_up (o := .lst [.int 1]) n2)
        generalize upd H7 l2 (.lst [.int 1]) = H8 at s8
        have nsn : ns.Nodup := pw.imp fun {x y} h e => by omega
        have em : [V.bl (PyData.eqv (.list (ns.map PyData.int)) (.list ([2].map PyData.int))), V.bl (if false = true then !inV (.int 1) (ns.map V.int) else inV (.int 1) (ns.map V.int)), V.bl (if false = true then !inV (.int 2) (ns.map V.int) else inV (.int 2) (ns.map V.int)), V.bl (PyData.eqv (.list (ns.map PyData.int)) (.list ([1].map PyData.int)))] = (mt4 (kinds sz t b r.1)).map V.bl := by
          rw [if_neg Bool.false_ne_true, if_neg Bool.false_ne_true, eqvL, eqvL, inV_ints, inV_ints]
          unfold mt4 fMust fAgainst fCan fSure
          have o2 := one_of nsn kinds_nd hmem' 2
          have o1 := one_of nsn kinds_nd hmem' 1
          simp only [List.map_cons, List.map_nil, hmem', o1, o2]
        refine ⟨(by show 4 ≤ sizeLine; decide), fun M nM => ?_⟩
        have s9 := s8.trans (sm_up (o := .lst ((mt4 (kinds sz t b r.1)).map V.bl)) nM)
        have hM : upd H8 M (.lst ((mt4 (kinds sz t b r.1)).map V.bl)) M = some (.lst ((mt4 (kinds sz t b r.1)).map V.bl)) := upd_same
        rw [em]
        generalize upd H8 M (.lst ((mt4 (kinds sz t b r.1)).map V.bl)) = H9 at s9 hM
        have hS9 := s9 _ _ hS
        refine ⟨4, rfl, by decide, by decide, fun D2 nD2 => ?_⟩
        refine lcI (walk_range0 (n := Int.toNat 4)) nD2 (fun _ v n => v = V.int n) (fun j => (sm4 sz t b (rs.take (i + 1))).take j) rfl (fun H' s => trivial) ?_ ?_
        · rintro j _ _ H10 hj L ⟨rfl, rfl⟩
          have hj4 : j < 4 := hj
          obtain ⟨sj, hsj⟩ : ∃ sj, (sm4 sz t b (rs.take i))[j]? = some sj := ⟨_, List.getElem?_eq_getElem (show j < (sm4 sz t b (rs.take i)).length from hj4)⟩
          obtain ⟨mj, hmj⟩ : ∃ mj, (mt4 (kinds sz t b r.1))[j]? = some mj := ⟨_, List.getElem?_eq_getElem (show j < (mt4 (kinds sz t b r.1)).length from hj4)⟩
          refine ⟨rfl, yesI ?_⟩
          refine ⟨_, rfl, _, rfl, S, _, _, _, rfl, rfl, SqL.of (L.sm _ _ hS9), at_of rfl (by rw [List.getElem?_map, hsj]; rfl), ?_⟩
          refine ⟨_, rfl, _, rfl, _, rfl, M, _, _, _, rfl, rfl, SqL.of (L.sm _ _ hM), at_of rfl (by rw [List.getElem?_map, hmj]; rfl), .inr ⟨mj, rfl, ?_⟩⟩
          have hr2 : r.2.natAbs < 2 ^ 64 := by
            have h1 := hpos r (List.mem_of_getElem? hr)
            have h2 : r.2 ≤ (rs.map (·.2)).sum := by
              have gen : ∀ l : List (List Int × Int), (∀ x ∈ l, 0 < x.2) → 0 ≤ (l.map (·.2)).sum ∧ ∀ x ∈ l, x.2 ≤ (l.map (·.2)).sum := by
                intro l
                induction l with
                | nil => intro _; exact ⟨Int.le_refl _, fun x hx => nomatch hx⟩
                | cons y l ih =>
                  intro h
                  obtain ⟨i1, i2⟩ := ih fun x hx => h x (List.mem_cons_of_mem _ hx)
                  have := h y List.mem_cons_self
                  rw [List.map_cons, List.sum_cons]
                  refine ⟨by omega, fun x hx => ?_⟩
                  rcases List.mem_cons.mp hx with e | m
                  · rw [e]; omega
                  · have := i2 x m
                    omega
              exact (gen rs hpos).2 r (List.mem_of_getElem? hr)
            omega
          refine ⟨_, _, rfl, rfl, mulL hr2, _, _, rfl, rfl, ?_⟩
          refine L.push OfT.con.kept nD2 (Same.refl _) (x := sj + r.2 * (if mj = true then 1 else 0)) rfl (take_snoc ?_) ?_
          · rw [take_snoc hr]
            exact sm4_snoc hsj hmj
          · rw [List.length_take]
            show min j 4 < 100000
            omega
        · intro H10 ys2 s10 hD2 hys2
          have eys2 := P2.intsEq hys2
          subst eys2
          exact ⟨s4.trans (s9.trans s10), D2, _, _, _, _, _, _, _, _, rfl, hD2⟩
    · rintro σ H3 ⟨s4, S, z2, z3, z4, z5, z6, z7, z8, z9, rfl, hS⟩
      rw [hxs.len, List.take_length] at hS
      obtain ⟨r, hr, hr0⟩ : ∃ r ∈ rs, ¬ fZero (kinds sz t b r.1) = true := by
        rw [List.all_eq_true] at c
        exact Classical.byContradiction fun n => c fun r hr => Classical.byContradiction fun z => n ⟨r, hr, z⟩
      obtain ⟨pp, hpt, hv⟩ := hvw r hr
      have h12 := ks_12 (kinds_nd (sz := sz) (t := t) (b := b) (v := r.1)) (fun k hk => kinds_r hk) (kinds_ne hz hpt hv) hr0
      have p1 := sel_pos (sz := sz) (t := t) (b := b) (f := fMust) (g := fAgainst) hpos hr h12.1
      have p2 := sel_pos (sz := sz) (t := t) (b := b) (f := fCan) (g := fSure) hpos hr h12.2
      have q1 := sel_two (sz := sz) (t := t) (b := b) (f := fMust) (g := fAgainst) hpos fun ks => must_against
      have q2 := sel_two (sz := sz) (t := t) (b := b) (f := fCan) (g := fSure) hpos fun ks => can_sure
      have hb : bnd sz t b rs = some (lw (sel sz t b fMust rs).sum ((sel sz t b fMust rs).sum + (sel sz t b fAgainst rs).sum), lw (sel sz t b fCan rs).sum ((sel sz t b fCan rs).sum + (sel sz t b fSure rs).sum)) := by
        unfold bnd
        rw [if_neg c]
      have hSL : ∀ {H5}, Same H3 H5 → SqL K H5 S ((sm4 sz t b rs).map V.int) := fun s => SqL.of (s _ _ hS)
      refine ⟨_, rfl, S, _, _, _, rfl, rfl, hSL (Same.refl _), at_of (j := 0) rfl rfl, _, rfl, S, _, _, _, rfl, rfl, hSL (Same.refl _), at_of (j := 0) rfl rfl, _, rfl, S, _, _, _, rfl, rfl, hSL (Same.refl _), at_of (j := 1) rfl rfl, _, _, rfl, rfl, _, _, rfl, p1, by omega, fun r1 H5 s5 h1 => ?_⟩
      refine ⟨_, rfl, S, _, _, _, rfl, rfl, hSL s5, at_of (j := 2) rfl rfl, _, rfl, S, _, _, _, rfl, rfl, hSL s5, at_of (j := 2) rfl rfl, _, rfl, S, _, _, _, rfl, rfl, hSL s5, at_of (j := 3) rfl rfl, _, _, rfl, rfl, _, _, rfl, p2, by omega, fun r2 H6 s6 h2 => ?_⟩
      refine ⟨(by show 2 ≤ sizeLine; decide), fun e ne => ?_⟩
      have se := sm_up (o := .tup [r1, r2]) ne
      refine Qk (.ref e) _ (((s4.trans s5).trans s6).trans se) ?_
      rw [hb]
      exact ⟨e, r1, r2, rfl, upd_same, (h1.tk (sm_tk s6)).tk (sm_tk se), h2.tk (sm_tk se)⟩

end
end Cb
/-! the points of the rows: one kind chosen for each -/
namespace Cb
def Pt (sz : List Nat) (t b : Tree) : List (List Int × Int) → Int → Int → Prop
  | [], x, y => x = 0 ∧ y = 0
  | r :: rs, x, y => ∃ (x0 y0 k : Int), Pt sz t b rs x0 y0 ∧ k ∈ kinds sz t b r.1 ∧ x = x0 + r.2 * (if k = 2 then 1 else 0) ∧ y = y0 + r.2 * (if 0 < k then 1 else 0)
theorem Pt.snoc {sz : List Nat} {t b : Tree} {r : List Int × Int} : ∀ {l : List (List Int × Int)} {x y : Int}, Pt sz t b (l ++ [r]) x y ↔ ∃ (x0 y0 k : Int), Pt sz t b l x0 y0 ∧ k ∈ kinds sz t b r.1 ∧ x = x0 + r.2 * (if k = 2 then 1 else 0) ∧ y = y0 + r.2 * (if 0 < k then 1 else 0)
  | [], x, y => Iff.rfl
  | q :: l, x, y => by
    constructor
    · rintro ⟨x0, y0, k, hp, hk, rfl, rfl⟩
      obtain ⟨x1, y1, k1, h1, h2, rfl, rfl⟩ := Pt.snoc.mp hp
      exact ⟨_, _, k1, ⟨x1, y1, k, h1, hk, rfl, rfl⟩, h2, by omega, by omega⟩
    · rintro ⟨x0, y0, k, ⟨x1, y1, k1, h1, h2, rfl, rfl⟩, hk, rfl, rfl⟩
      exact ⟨_, _, k1, Pt.snoc.mpr ⟨x1, y1, k, h1, hk, rfl, rfl⟩, h2, by omega, by omega⟩
/-- what a point is bound by -/
theorem Pt.bd {sz : List Nat} {t b : Tree} : ∀ {rs : List (List Int × Int)}, (∀ r ∈ rs, 0 < r.2) → ∀ {x y : Int}, Pt sz t b rs x y →
    (sel sz t b fMust rs).sum ≤ x ∧ y - x ≤ (sel sz t b fAgainst rs).sum ∧ x ≤ (sel sz t b fCan rs).sum ∧ (sel sz t b fSure rs).sum ≤ y - x ∧ 0 ≤ x ∧ x ≤ y
  | [], _, x, y, h => by
    obtain ⟨rfl, rfl⟩ := h
    exact ⟨Int.le_refl _, Int.le_refl _, Int.le_refl _, Int.le_refl _, Int.le_refl _, Int.le_refl _⟩
  | r :: rs, hp, x, y, h => by
    obtain ⟨x0, y0, k, h0, hk, rfl, rfl⟩ := h
    obtain ⟨a1, a2, a3, a4, a5, a6⟩ := Pt.bd (fun q hq => hp q (List.mem_cons_of_mem _ hq)) h0
    have hw := hp r List.mem_cons_self
    have hr := kinds_r hk
    rw [sel_cons, sel_cons, sel_cons, sel_cons]
    have k3 : k = 0 ∨ k = 1 ∨ k = 2 := by omega
    have m1 : fMust (kinds sz t b r.1) = true → k = 2 := fun h => by
      have h := of_decide_eq_true h
      rw [h] at hk
      simpa using hk
    have m2 : fSure (kinds sz t b r.1) = true → k = 1 := fun h => by
      have h := of_decide_eq_true h
      rw [h] at hk
      simpa using hk
    have m3 : k = 1 → fAgainst (kinds sz t b r.1) = true := fun e => decide_eq_true (e ▸ hk)
    have m4 : k = 2 → fCan (kinds sz t b r.1) = true := fun e => decide_eq_true (e ▸ hk)
    rcases k3 with e | e | e
    · have n1 : ¬ fMust (kinds sz t b r.1) = true := fun h => by have := m1 h; omega
      have n2 : ¬ fSure (kinds sz t b r.1) = true := fun h => by have := m2 h; omega
      rw [if_neg n1, if_neg n2, if_neg (by omega : ¬ k = 2), if_neg (by omega : ¬ 0 < k)]
      refine ⟨by omega, ?_, ?_, by omega, by omega, by omega⟩
      · split <;> omega
      · split <;> omega
    · have n1 : ¬ fMust (kinds sz t b r.1) = true := fun h => by have := m1 h; omega
      rw [if_neg n1, if_pos (m3 e), if_neg (by omega : ¬ k = 2), if_pos (by omega : 0 < k)]
      refine ⟨by omega, by omega, ?_, ?_, by omega, by omega⟩
      · split <;> omega
      · split <;> omega
    · have n2 : ¬ fSure (kinds sz t b r.1) = true := fun h => by have := m2 h; omega
      rw [if_neg n2, if_pos (m4 e), if_pos e, if_pos (by omega : 0 < k)]
      refine ⟨?_, ?_, by omega, by omega, by omega, by omega⟩
      · split <;> omega
      · split <;> omega
/-- a point by a choice for every row -/
theorem Pt.of {sz : List Nat} {t b : Tree} {f g : List Int → Bool} (h : ∀ ks : List Int, ks ≠ [] → (∀ k ∈ ks, 0 ≤ k ∧ k ≤ 2) → ks.Nodup → ∃ k ∈ ks, (f ks = true ↔ k = 2) ∧ (g ks = true ↔ k = 1)) :
    ∀ {rs : List (List Int × Int)}, (∀ r ∈ rs, kinds sz t b r.1 ≠ []) → Pt sz t b rs (sel sz t b f rs).sum ((sel sz t b f rs).sum + (sel sz t b g rs).sum)
  | [], _ => ⟨rfl, rfl⟩
  | r :: rs, hn => by
    obtain ⟨k, hk, h2, h1⟩ := h _ (hn r List.mem_cons_self) (fun k hk => kinds_r hk) kinds_nd
    refine ⟨_, _, k, Pt.of h fun q hq => hn q (List.mem_cons_of_mem _ hq), hk, ?_, ?_⟩
    · rw [sel_cons]
      by_cases e : k = 2
      · rw [if_pos (h2.mpr e), if_pos e]; omega
      · rw [if_neg (fun z => e (h2.mp z)), if_neg e]; omega
    · rw [sel_cons, sel_cons]
      have := kinds_r hk
      by_cases e : k = 2
      · have e1 : ¬ g (kinds sz t b r.1) = true := fun z => by have := h1.mp z; omega
        rw [if_pos (h2.mpr e), if_neg e1, if_pos (by omega : 0 < k)]; omega
      · rw [if_neg (fun z => e (h2.mp z))]
        by_cases e1 : k = 1
        · rw [if_pos (h1.mpr e1), if_pos (by omega : 0 < k)]; omega
        · rw [if_neg (fun z => e1 (h1.mp z)), if_neg (by omega : ¬ 0 < k)]; omega
theorem low_choice (ks : List Int) (hne : ks ≠ []) (hr : ∀ k ∈ ks, 0 ≤ k ∧ k ≤ 2) (hn : ks.Nodup) : ∃ k ∈ ks, (fMust ks = true ↔ k = 2) ∧ (fAgainst ks = true ↔ k = 1) := by
  unfold fMust fAgainst
  rw [decide_eq_true_eq, decide_eq_true_eq]
  by_cases e : ks = [2]
  · exact ⟨2, by rw [e]; simp, by simp [e], by simp [e]⟩
  · by_cases h1 : (1 : Int) ∈ ks
    · exact ⟨1, h1, by simp [e], by simp [h1]⟩
    · by_cases h0 : (0 : Int) ∈ ks
      · exact ⟨0, h0, by simp [e], by simp [h1]⟩
      · exfalso
        have all2 : ∀ k ∈ ks, k = 2 := fun k hk => by
          have := hr k hk
          have n0 : k ≠ 0 := fun z => h0 (z ▸ hk)
          have n1 : k ≠ 1 := fun z => h1 (z ▸ hk)
          omega
        match ks, hne with
        | [a], _ => exact e (by rw [all2 a (by simp)])
        | a :: c :: l, _ =>
          have q1 := all2 a (by simp)
          have q2 := all2 c (by simp)
          rw [q1, q2] at hn
          simp at hn
theorem high_choice (ks : List Int) (hne : ks ≠ []) (hr : ∀ k ∈ ks, 0 ≤ k ∧ k ≤ 2) (hn : ks.Nodup) : ∃ k ∈ ks, (fCan ks = true ↔ k = 2) ∧ (fSure ks = true ↔ k = 1) := by
  unfold fCan fSure
  rw [decide_eq_true_eq, decide_eq_true_eq]
  by_cases h2 : (2 : Int) ∈ ks
  · exact ⟨2, h2, by simp [h2], by constructor <;> intro h <;> simp_all⟩
  · by_cases e : ks = [1]
    · exact ⟨1, by rw [e]; simp, by simp [h2], by simp [e]⟩
    · by_cases h0 : (0 : Int) ∈ ks
      · exact ⟨0, h0, by simp [h2], by simp [e]⟩
      · exfalso
        have all1 : ∀ k ∈ ks, k = 1 := fun k hk => by
          have := hr k hk
          have n0 : k ≠ 0 := fun z => h0 (z ▸ hk)
          have n2 : k ≠ 2 := fun z => h2 (z ▸ hk)
          omega
        match ks, hne with
        | [a], _ => exact e (by rw [all1 a (by simp)])
        | a :: c :: l, _ =>
          have q1 := all1 a (by simp)
          have q2 := all1 c (by simp)
          rw [q1, q2] at hn
          simp at hn
/-- a point whose second is 0: all the rows know 0 -/
theorem Pt.zero {sz : List Nat} {t b : Tree} : ∀ {rs : List (List Int × Int)}, (∀ r ∈ rs, 0 < r.2) → ((∃ x, Pt sz t b rs x 0) ↔ (rs.all fun r => fZero (kinds sz t b r.1)) = true)
  | [], _ => ⟨fun _ => rfl, fun _ => ⟨0, rfl, rfl⟩⟩
  | r :: rs, hp => by
    have hw := hp r List.mem_cons_self
    have hps := fun q hq => hp q (List.mem_cons_of_mem _ hq)
    have ih := Pt.zero (sz := sz) (t := t) (b := b) hps
    rw [List.all_cons, Bool.and_eq_true, ← ih]
    constructor
    · rintro ⟨x, x0, y0, k, h0, hk, _, e⟩
      obtain ⟨_, _, _, _, a5, a6⟩ := h0.bd hps
      have hr := kinds_r hk
      by_cases c : 0 < k
      · rw [if_pos c] at e
        omega
      · rw [if_neg c] at e
        have k0 : k = 0 := by omega
        have ey : y0 = 0 := by omega
        exact ⟨decide_eq_true (k0 ▸ hk), x0, ey ▸ h0⟩
    · rintro ⟨hz, x, h0⟩
      exact ⟨x, x, 0, 0, h0, of_decide_eq_true hz, by simp, by simp⟩
theorem cross_low {M A x y : Int} (h0 : 0 ≤ M) (hA : 0 ≤ A) (h1 : M ≤ x) (h2 : y - x ≤ A) (h3 : x ≤ y) : M * y ≤ x * (M + A) := by
  have e1 : M * (y - x) ≤ x * A := Int.le_trans (Int.mul_le_mul_of_nonneg_left h2 h0) (Int.mul_le_mul_of_nonneg_right h1 hA)
  rw [Int.mul_sub] at e1
  rw [Int.mul_add, Int.mul_comm x M]
  omega
theorem cross_high {C S x y : Int} (h0 : 0 ≤ x) (h1 : x ≤ C) (h2 : S ≤ y - x) (hS : 0 ≤ S) : x * (C + S) ≤ C * y := by
  have e1 : x * S ≤ C * (y - x) := Int.le_trans (Int.mul_le_mul_of_nonneg_right h1 hS) (Int.mul_le_mul_of_nonneg_left h2 (by omega))
  rw [Int.mul_sub] at e1
  rw [Int.mul_add, Int.mul_comm x C]
  omega
end Cb
/-! the least and the greatest of the points; flatMap's length; bnd of rows in another order; nearness -/
namespace Cb
theorem flatMap_le {α β : Type} {f : α → List β} {n : Nat} : ∀ {l : List α}, (∀ x ∈ l, (f x).length ≤ n) → (l.flatMap f).length ≤ l.length * n
  | [], _ => by simp
  | x :: l, h => by
    have h1 := h x List.mem_cons_self
    have h2 := flatMap_le fun y hy => h y (List.mem_cons_of_mem x hy)
    rw [List.flatMap_cons, List.length_append, List.length_cons, Nat.add_mul]
    omega
theorem low_step {x y x' y' a b : Int} (hy : 0 < y) (hy' : 0 < y') (hb : 0 < b) (h : x * b ≤ a * y) (h' : x' * y < x * y') : x' * b ≤ a * y' := by
  have e1 : x' * y * b ≤ x * y' * b := Int.mul_le_mul_of_nonneg_right (Int.le_of_lt h') (Int.le_of_lt hb)
  have e2 : x * b * y' ≤ a * y * y' := Int.mul_le_mul_of_nonneg_right h (Int.le_of_lt hy')
  have e3 : (x' * b) * y ≤ (a * y') * y := by
    have a1 : (x' * b) * y = x' * y * b := by grind
    have a2 : (a * y') * y = a * y * y' := by grind
    have a3 : x * y' * b = x * b * y' := by grind
    omega
  exact Int.le_of_mul_le_mul_right e3 hy
theorem high_step {x y x' y' a b : Int} (hy : 0 < y) (hy' : 0 < y') (hb : 0 < b) (h : a * y ≤ x * b) (h' : x * y' < x' * y) : a * y' ≤ x' * b := by
  have e1 : x * y' * b ≤ x' * y * b := Int.mul_le_mul_of_nonneg_right (Int.le_of_lt h') (Int.le_of_lt hb)
  have e2 : a * y * y' ≤ x * b * y' := Int.mul_le_mul_of_nonneg_right h (Int.le_of_lt hy')
  have e3 : (a * y') * y ≤ (x' * b) * y := by
    have a1 : (x' * b) * y = x' * y * b := by grind
    have a2 : (a * y') * y = a * y * y' := by grind
    have a3 : x * y' * b = x * b * y' := by grind
    omega
  exact Int.le_of_mul_le_mul_right e3 hy
/-- the least point is the lower bound -/
theorem low_lw {sz : List Nat} {t b : Tree} {rs : List (List Int × Int)} (hp : ∀ r ∈ rs, 0 < r.2) (hn : ∀ r ∈ rs, kinds sz t b r.1 ≠ []) (h0 : ∀ x, ¬ Pt sz t b rs x 0) {x y : Int} (hxy : Pt sz t b rs x y)
    (hl : ∀ x' y', Pt sz t b rs x' y' → x * y' ≤ x' * y) : lw x y = lw (sel sz t b fMust rs).sum ((sel sz t b fMust rs).sum + (sel sz t b fAgainst rs).sum) := by
  have hpt := Pt.of (sz := sz) (t := t) (b := b) low_choice hn
  have p1 := sel_sum_nn (sz := sz) (t := t) (b := b) (f := fMust) hp
  have p2 := sel_sum_nn (sz := sz) (t := t) (b := b) (f := fAgainst) hp
  obtain ⟨b1, b2, _, _, b5, b6⟩ := hxy.bd hp
  have e1 := hl _ _ hpt
  have e2 := cross_low p1 p2 b1 b2 b6
  have ny : y ≠ 0 := fun e => h0 x (e ▸ hxy)
  have nM : (sel sz t b fMust rs).sum + (sel sz t b fAgainst rs).sum ≠ 0 := fun e => h0 _ (e ▸ hpt)
  exact lw_same (by omega) (by omega) (Int.le_antisymm e1 e2)
theorem high_lw {sz : List Nat} {t b : Tree} {rs : List (List Int × Int)} (hp : ∀ r ∈ rs, 0 < r.2) (hn : ∀ r ∈ rs, kinds sz t b r.1 ≠ []) (h0 : ∀ x, ¬ Pt sz t b rs x 0) {x y : Int} (hxy : Pt sz t b rs x y)
    (hl : ∀ x' y', Pt sz t b rs x' y' → x' * y ≤ x * y') : lw x y = lw (sel sz t b fCan rs).sum ((sel sz t b fCan rs).sum + (sel sz t b fSure rs).sum) := by
  have hpt := Pt.of (sz := sz) (t := t) (b := b) high_choice hn
  have p1 := sel_sum_nn (sz := sz) (t := t) (b := b) (f := fCan) hp
  have p2 := sel_sum_nn (sz := sz) (t := t) (b := b) (f := fSure) hp
  obtain ⟨_, _, b3, b4, b5, b6⟩ := hxy.bd hp
  have e1 := hl _ _ hpt
  have e2 := cross_high b5 b3 b4 p2
  have ny : y ≠ 0 := fun e => h0 x (e ▸ hxy)
  have nM : (sel sz t b fCan rs).sum + (sel sz t b fSure rs).sum ≠ 0 := fun e => h0 _ (e ▸ hpt)
  exact lw_same (by omega) (by omega) (Int.le_antisymm e2 e1)
theorem perm_sum {l l' : List Int} (h : l.Perm l') : l.sum = l'.sum := by
  induction h with
  | nil => rfl
  | cons x _ ih => rw [List.sum_cons, List.sum_cons, ih]
  | swap x y l => rw [List.sum_cons, List.sum_cons, List.sum_cons, List.sum_cons]; omega
  | trans _ _ h1 h2 => rw [h1, h2]
theorem sel_perm {sz : List Nat} {t b : Tree} {f : List Int → Bool} {rs ss : List (List Int × Int)} (h : rs.Perm ss) : (sel sz t b f rs).sum = (sel sz t b f ss).sum :=
  perm_sum ((h.filter _).map _)
theorem all_perm {α : Type} {p : α → Bool} {l l' : List α} (h : l.Perm l') : l.all p = l'.all p := by
  rw [Bool.eq_iff_iff, List.all_eq_true, List.all_eq_true]
  exact ⟨fun q x hx => q x (h.mem_iff.mpr hx), fun q x hx => q x (h.mem_iff.mp hx)⟩
theorem bnd_perm {sz : List Nat} {t b : Tree} {rs ss : List (List Int × Int)} (h : rs.Perm ss) : bnd sz t b rs = bnd sz t b ss := by
  unfold bnd
  rw [all_perm h, sel_perm h, sel_perm h, sel_perm h, sel_perm h]
end Cb
/-! nearness: the same views with great weights, and some more with the weight 1 -/
namespace Cb
theorem near_lw {M T m k : Int} (hT : 0 < T) (hM : 0 ≤ M) (hMT : M ≤ T) (hm : 0 ≤ m) (hk : m ≤ k) (hk' : k ≤ 256) :
    ((lt1 (1000000 * M + m) (1000000 * T + k) * lb M T - lt1 M T * lb (1000000 * M + m) (1000000 * T + k)).natAbs : Int) * 1000 ≤ lb (1000000 * M + m) (1000000 * T + k) * lb M T := by
  have hT' : 0 < 1000000 * T + k := by omega
  have c1 := cross (n := 1000000 * M + m) hT'
  have c2 := cross (n := M) hT
  have p1 := lb_pos (n := 1000000 * M + m) hT'
  have p2 := lb_pos (n := M) hT
  generalize hE : 1000000 * T + k = T' at *
  generalize lt1 (1000000 * M + m) T' = a at *
  generalize lb (1000000 * M + m) T' = b at *
  generalize lt1 M T = c at *
  generalize lb M T = d at *
  have e : (a * d - c * b) * (T * T') = (b * d) * (m * T - M * k) := by
    calc (a * d - c * b) * (T * T') = (a * T') * d * T - (c * T) * b * T' := by grind
      _ = (1000000 * M + m) * b * d * T - M * d * b * T' := by rw [c1, c2]
      _ = (b * d) * (m * T - M * k) := by rw [← hE]; grind
  have q1 : 0 ≤ m * T := Int.mul_nonneg hm (Int.le_of_lt hT)
  have q2 : m * T ≤ 256 * T := Int.mul_le_mul_of_nonneg_right (by omega) (Int.le_of_lt hT)
  have q3 : 0 ≤ M * k := Int.mul_nonneg hM (by omega)
  have q4 : M * k ≤ T * 256 := Int.le_trans (Int.mul_le_mul_of_nonneg_right hMT (by omega)) (Int.mul_le_mul_of_nonneg_left hk' (Int.le_of_lt hT))
  have q5 : T * 1000000 ≤ T * T' := Int.mul_le_mul_of_nonneg_left (by omega) (Int.le_of_lt hT)
  have pT : 0 < T * T' := Int.mul_pos hT hT'
  have pb : 0 ≤ b * d := Int.le_of_lt (Int.mul_pos p1 p2)
  have u1 : (a * d - c * b) * 1000 ≤ b * d := by
    refine Int.le_of_mul_le_mul_right (a := T * T') ?_ pT
    have z := Int.mul_le_mul_of_nonneg_left (a := (m * T - M * k) * 1000) (b := T * T') (by omega) pb
    have z2 : (a * d - c * b) * 1000 * (T * T') = (b * d) * ((m * T - M * k) * 1000) := by
      calc (a * d - c * b) * 1000 * (T * T') = ((a * d - c * b) * (T * T')) * 1000 := by grind
        _ = _ := by rw [e]; grind
    omega
  have u2 : -(a * d - c * b) * 1000 ≤ b * d := by
    refine Int.le_of_mul_le_mul_right (a := T * T') ?_ pT
    have z := Int.mul_le_mul_of_nonneg_left (a := -(m * T - M * k) * 1000) (b := T * T') (by omega) pb
    have z2 : -(a * d - c * b) * 1000 * (T * T') = (b * d) * (-(m * T - M * k) * 1000) := by
      calc -(a * d - c * b) * 1000 * (T * T') = -((a * d - c * b) * (T * T')) * 1000 := by grind
        _ = _ := by rw [e]; grind
    omega
  omega
/-- the great weights -/
def scl (ws : List (List Int × Int)) : List (List Int × Int) := ws.map fun w => (w.1, w.2 * 1000000)
theorem sel_scl {sz : List Nat} {t b : Tree} {f : List Int → Bool} : ∀ {ws : List (List Int × Int)}, (sel sz t b f (scl ws)).sum = 1000000 * (sel sz t b f ws).sum
  | [] => rfl
  | w :: ws => by
    have ih := sel_scl (sz := sz) (t := t) (b := b) (f := f) (ws := ws)
    show (sel sz t b f ((w.1, w.2 * 1000000) :: scl ws)).sum = _
    rw [sel_cons, sel_cons, ih]
    split <;> omega
theorem sel_app {sz : List Nat} {t b : Tree} {f : List Int → Bool} : ∀ {ws vs : List (List Int × Int)}, (sel sz t b f (ws ++ vs)).sum = (sel sz t b f ws).sum + (sel sz t b f vs).sum
  | [], vs => by
    show _ = (0 : Int) + _
    rw [List.nil_append, Int.zero_add]
  | w :: ws, vs => by
    rw [List.cons_append, sel_cons, sel_cons, sel_app]
    omega
theorem ones_sum : ∀ {ws : List (List Int × Int)}, (∀ w ∈ ws, w.2 = 1) → (ws.map (·.2)).sum = ws.length
  | [], _ => rfl
  | w :: ws, h => by
    rw [List.map_cons, List.sum_cons, ones_sum fun v hv => h v (List.mem_cons_of_mem _ hv), h w List.mem_cons_self, List.length_cons]
    omega
/-- what the near bounds are made of -/
structure NearQ (x y : List Int) : Prop where
  ex : ∃ M T m k : Int, x = lw (1000000 * M + m) (1000000 * T + k) ∧ y = lw M T ∧ 0 < T ∧ 0 ≤ M ∧ M ≤ T ∧ 0 ≤ m ∧ m ≤ k ∧ k ≤ 256 ∧ T < 2 ^ 40
theorem bnd_near {sz : List Nat} {t b : Tree} {ws ws2 rest : List (List Int × Int)} (hp : ∀ w ∈ ws, 0 < w.2) (hr : ∀ w ∈ rest, w.2 = 1) (hl : rest.length ≤ 256) (pm : ws2.Perm (scl ws ++ rest)) (hn : ∀ w ∈ ws, kinds sz t b w.1 ≠ [])
    (top : (ws.map (·.2)).sum < 2 ^ 40) {x y : List Int} (h : bnd sz t b ws = some (x, y)) : ∃ x' y', bnd sz t b ws2 = some (x', y') ∧ NearQ x' x ∧ NearQ y' y := by
  rw [bnd_perm pm]
  have hp1 : ∀ w ∈ rest, 0 < w.2 := fun w hw => by rw [hr w hw]; decide
  unfold bnd at h ⊢
  by_cases c : (ws.all fun r => fZero (kinds sz t b r.1)) = true
  · rw [if_pos c] at h
    cases h
  rw [if_neg c] at h
  have c2 : ¬ ((scl ws ++ rest).all fun r => fZero (kinds sz t b r.1)) = true := fun z => c (by
    rw [List.all_append, Bool.and_eq_true] at z
    have z1 := z.1
    unfold scl at z1
    rw [List.all_map] at z1
    exact z1)
  rw [if_neg c2, sel_app, sel_app, sel_app, sel_app, sel_scl, sel_scl, sel_scl, sel_scl]
  injection h with h
  injection h with h1 h2
  obtain ⟨r, hrm, hr0⟩ : ∃ r ∈ ws, ¬ fZero (kinds sz t b r.1) = true := by
    rw [List.all_eq_true] at c
    exact Classical.byContradiction fun n => c fun r hr => Classical.byContradiction fun z => n ⟨r, hr, z⟩
  have h12 := ks_12 (kinds_nd (sz := sz) (t := t) (b := b) (v := r.1)) (fun k hk => kinds_r hk) (hn r hrm) hr0
  have p1 := sel_pos (sz := sz) (t := t) (b := b) (f := fMust) (g := fAgainst) hp hrm h12.1
  have p2 := sel_pos (sz := sz) (t := t) (b := b) (f := fCan) (g := fSure) hp hrm h12.2
  have q1 := sel_two (sz := sz) (t := t) (b := b) (f := fMust) (g := fAgainst) hp fun ks => must_against
  have q2 := sel_two (sz := sz) (t := t) (b := b) (f := fCan) (g := fSure) hp fun ks => can_sure
  have r1 := sel_two (sz := sz) (t := t) (b := b) (f := fMust) (g := fAgainst) hp1 fun ks => must_against
  have r2 := sel_two (sz := sz) (t := t) (b := b) (f := fCan) (g := fSure) hp1 fun ks => can_sure
  rw [ones_sum hr] at r1 r2
  have n1 := sel_sum_nn (sz := sz) (t := t) (b := b) (f := fMust) hp
  have n2 := sel_sum_nn (sz := sz) (t := t) (b := b) (f := fAgainst) hp
  have n3 := sel_sum_nn (sz := sz) (t := t) (b := b) (f := fCan) hp
  have n4 := sel_sum_nn (sz := sz) (t := t) (b := b) (f := fSure) hp
  have m1 := sel_sum_nn (sz := sz) (t := t) (b := b) (f := fMust) hp1
  have m2 := sel_sum_nn (sz := sz) (t := t) (b := b) (f := fAgainst) hp1
  have m3 := sel_sum_nn (sz := sz) (t := t) (b := b) (f := fCan) hp1
  have m4 := sel_sum_nn (sz := sz) (t := t) (b := b) (f := fSure) hp1
  refine ⟨_, _, rfl, ⟨_, _, _, (sel sz t b fMust rest).sum + (sel sz t b fAgainst rest).sum, ?_, h1.symm, p1, n1, by omega, m1, by omega, by omega, by omega⟩, ⟨_, _, _, (sel sz t b fCan rest).sum + (sel sz t b fSure rest).sum, ?_, h2.symm, p2, n3, by omega, m3, by omega, by omega, by omega⟩⟩
  · congr 1
    omega
  · congr 1
    omega
end Cb
namespace Cb
open PySem PySem.Spec PyProof.Rows L2
section
variable {P : Program} {w : World} {K : PySem.W.Frag} {mg : Str → Option Value} {base : Heap}
/-! ### _law_ends -/
/-- the points as a list of pairs -/
def PtsL (sz : List Nat) (t b : Tree) (rs : List (List Int × Int)) (yss : List (List Int)) : Prop := ∀ z, z ∈ yss ↔ ∃ x y, z = [x, y] ∧ Pt sz t b rs x y
theorem sum_ge {l : List (List Int × Int)} (h : ∀ x ∈ l, 0 < x.2) : ∀ x ∈ l, x.2 ≤ (l.map (·.2)).sum := by
  have gen : ∀ l : List (List Int × Int), (∀ x ∈ l, 0 < x.2) → 0 ≤ (l.map (·.2)).sum ∧ ∀ x ∈ l, x.2 ≤ (l.map (·.2)).sum := by
    intro l
    induction l with
    | nil => intro _; exact ⟨Int.le_refl _, fun x hx => nomatch hx⟩
    | cons y l ih =>
      intro h
      obtain ⟨i1, i2⟩ := ih fun x hx => h x (List.mem_cons_of_mem _ hx)
      have := h y List.mem_cons_self
      rw [List.map_cons, List.sum_cons]
      refine ⟨by omega, fun x hx => ?_⟩
      rcases List.mem_cons.mp hx with e | m
      · rw [e]; omega
      · have := i2 x m
        omega
  exact (gen l h).2
/-- a point one row further -/
def addP (w k : Int) (z : List Int) : List Int := [z.getD 0 0 + w * (if k = 2 then 1 else 0), z.getD 1 0 + w * (if 0 < k then 1 else 0)]
/-- a value of two, by a test -/
theorem expVia {b : Bool} {ta tb : TE} {σ : L2.St} {H : Hp} {k : VK} (A : V → Hp → Prop) (h : ∀ v H', A v H' → k v H') (h1 : b = true → ∀ k : VK, (∀ v H', A v H' → k v H') → ta σ H k) (h2 : ¬ b = true → ∀ k : VK, (∀ v H', A v H' → k v H') → tb σ H k) : if b = true then ta σ H k else tb σ H k := by
  by_cases c : b = true
  · rw [if_pos c]
    exact h1 c k h
  · rw [if_neg c]
    exact h2 c k h
def spLEnds (K : PySem.W.Frag) : Sp := fun vs H Q _ => ∃ (p f : Addr) (xs : List V) (sz : List Nat) (t b : Tree) (rs : List (List Int × Int)), vs = [.ref p] ∧ H p = some (.lst xs) ∧ P2 (LrAt sz t b f H) xs rs ∧ Sz sz ∧ (∀ r ∈ rs, 0 < r.2) ∧ (rs.map (·.2)).sum < 2 ^ 60 ∧ rs.length ≤ 8 ∧ (∀ r ∈ rs, ∃ p, isPat sz.length p ∧ r.1 ∈ views sz p) ∧
  ∀ r H', Same H H' → BndAt H' r (bnd sz t b rs) → Q r H'
abbrev N_L_ends : List Str := ["_law_rows_here", "_law_sums", "_law_weight_here", "_law_pattern", "_law_pairs", "_law_later", "_law_kind_here", "_law_low_here", "_law_high", "_law_top", "_law_bottom", "_law_content"]
theorem sc_L_ends : FnScope N_L_ends ["_law_rows_here"] (defScope s_L_ends) := ⟨rfl, rfl, rfl, by decide +kernel, rfl, by decide +kernel, by decide +kernel⟩
theorem cal_L_ends (T : Txt w K mg) : C8.Cal P w K mg base 2 "_law_ends" (spLEnds K) [] := by
  have c_L_low := cal_L_low (P := P) (base := base) T
  refine mkCal T.F_L_ends T.g__law_ends sc_L_ends (fun _ _ _ _ _ _ us hl => match us, hl with | [_], _ => rfl) (fun vs H Q E h => ?_) (fun cdv A outer s H vs Q E hr h => ?_)
  · obtain ⟨p, f, xs, sz, t, b, rs, rfl, hp, hxs, hz, hpos, htop, hlen, hvw, Qk⟩ := h
    rfl
  obtain ⟨p, f, xs, sz, t, b, rs, rfl, hp, hxs, hz, hpos, htop, hlen, hvw, Qk⟩ := h
  have nd := sc_L_ends.nd
  have hu := hu_of hr
  refine ⟨_, (pss_cons (ps_set (i := 1) nd rfl (Or.inl rfl) (pe_lst (pa_cons (pe_tup (pa_cons pe_int (pa_cons pe_int pa_nil))) pa_nil)))
    (pss_cons (ps_for PassesOwn.never rfl (pi_list (pv 0)) (pg_tup rfl (pgs_cons (pg_name (i := 2) nd rfl (Or.inr rfl)) (pgs_cons (pg_name (i := 3) nd rfl (Or.inl rfl)) (pgs_cons (pg_name (i := 4) nd rfl (Or.inl rfl)) pgs_nil))))
    (pss_cons (ps_set (i := 5) nd rfl (Or.inl rfl) (pe_lst pa_nil))
    (pss_cons (ps_for PassesOwn.never rfl (pi_list (pe_callB (r := rSortedSet w) (cr_sortedSet rfl) (by rfl) T.z_sorted bt_sorted (pa_cons (pe_callTy (r := CbT.rSetI K w) (CbT.cr_setI rfl hr.units) (by rfl) T.z_set bt_set (pa_cons (pe_lc (wi := iList K _) (own := [("_law_content", 11), ("_law_kind_here", 6)]) (g := gTup K 2 (gCons (gName 11) (gCons (gName 6) gNil))) (tt := tYes) rfl nd (pi_list (pv 4)) (blkOk_by (N := N_L_ends) (sc := defScope s_L_ends) (by decide +kernel)) (fun _ _ _ _ _ => (pg_tup rfl (pgs_cons (pg_name (i := 11) nd rfl (Or.inl rfl)) (pgs_cons (pg_name (i := 6) nd rfl (Or.inl rfl)) pgs_nil)))) (fun _ _ _ _ _ => pts_nil) (fun _ _ _ _ _ => (pv 6))) pa_nil)) pa_nil))) (pg_name (i := 6) nd rfl (Or.inr rfl))
    (pss_one (ps_expr (pe_bm PySem.F.plainAttrs_list PySem.F.slot_list_extend PySem.F.type_list_extend mt_extend (pv 5) (pa_cons (pe_lc (wi := iList K _) (own := [("_law_top", 9), ("_law_bottom", 10)]) (g := gTup K 2 (gCons (gName 9) (gCons (gName 10) gNil))) (tt := tYes) rfl nd (pi_list (pv 1)) (blkOk_by (N := N_L_ends) (sc := defScope s_L_ends) (by decide +kernel)) (fun _ _ _ _ _ => (pg_tup rfl (pgs_cons (pg_name (i := 9) nd rfl (Or.inl rfl)) (pgs_cons (pg_name (i := 10) nd rfl (Or.inl rfl)) pgs_nil)))) (fun _ _ _ _ _ => pts_nil) (fun _ _ _ _ _ => (pe_tup (pa_cons (pe_op op_add (pv 9) (pe_op op_mul (pv 2) (pe_callTy call_int1 (by rfl) T.z_int bt_int (pa_cons (pe_cmpR op_eq (pv 6) pe_int (nomark _)) pa_nil)))) (pa_cons (pe_op op_add (pv 10) (pe_op op_mul (pv 2) (pe_callTy call_int1 (by rfl) T.z_int bt_int (pa_cons (pe_cmpR op_gt (pv 6) pe_int (nomark _)) pa_nil)))) pa_nil))))) pa_nil)))))
    (pss_one (ps_set (i := 1) nd rfl (Or.inl rfl) (pe_callB (r := CbT.rSortG K P w) (CbT.cr_sortG rfl hr.units) (by rfl) T.z_sorted bt_sorted (pa_cons (pe_callTy (r := CbT.rSetG K P w) (CbT.cr_setG rfl hr.units) (by rfl) T.z_set bt_set (pa_cons (pv 5) pa_nil)) pa_nil)))))))
    (pss_cons (ps_if (PW.pt (pw_or (pt_cmpR op_eq (pe_ix (r := rIxT K) ix_tup (pe_ix (r := rIxL K) ix_list (pv 1) pe_int (fun _ _ => rfl)) pe_int (fun _ _ => rfl)) pe_int (nomark _)) (pw_or1 (pt_val (pe_callB (r := rAny K) (cr_any rfl) (by rfl) T.z_any bt_any (pa_cons (pe_lc (wi := iList K _) (own := [("_law_top", 9), ("_law_bottom", 10)]) (g := gTup K 2 (gCons (gName 9) (gCons (gName 10) gNil))) (tt := tYes) rfl nd (pi_list (pv 1)) (blkOk_by (N := N_L_ends) (sc := defScope s_L_ends) (by decide +kernel)) (fun _ _ _ _ _ => (pg_tup rfl (pgs_cons (pg_name (i := 9) nd rfl (Or.inl rfl)) (pgs_cons (pg_name (i := 10) nd rfl (Or.inl rfl)) pgs_nil)))) (fun _ _ _ _ _ => pts_nil) (fun _ _ _ _ _ => (pe_cmpR op_eq (pv 10) pe_int (nomark _)))) pa_nil))))))
    (pss_one (ps_ret pe_non))
    pss_nil)
    (pss_cons (ps_par (i := 7) (j := 8) (by rfl) nd rfl rfl (by decide) rfl rfl (pa_cons (pe_ix (r := rIxL K) ix_list (pv 1) pe_int (fun _ _ => rfl)) (pa_cons (pe_ix (r := rIxL K) ix_list (pv 1) pe_int (fun _ _ => rfl)) pa_nil)) (by rfl))
    (pss_cons (ps_for PassesOwn.never rfl (pi_list (pv 1)) (pg_tup rfl (pgs_cons (pg_name (i := 9) nd rfl (Or.inl rfl)) (pgs_cons (pg_name (i := 10) nd rfl (Or.inl rfl)) pgs_nil)))
    (pss_cons (ps_set (i := 7) nd rfl (Or.inl rfl) (pe_ifExp (pt_cmpR op_lt (pe_op op_mul (pv 9) (pe_ix (r := rIxT K) ix_tup (pv 7) pe_int (fun _ _ => rfl))) (pe_op op_mul (pe_ix (r := rIxT K) ix_tup (pv 7) pe_int (fun _ _ => rfl)) (pv 10)) (nomark _)) (pe_tup (pa_cons (pv 9) (pa_cons (pv 10) pa_nil))) (pv 7)))
    (pss_one (ps_set (i := 8) nd rfl (Or.inl rfl) (pe_ifExp (pt_cmpR op_gt (pe_op op_mul (pv 9) (pe_ix (r := rIxT K) ix_tup (pv 8) pe_int (fun _ _ => rfl))) (pe_op op_mul (pe_ix (r := rIxT K) ix_tup (pv 8) pe_int (fun _ _ => rfl)) (pv 10)) (nomark _)) (pe_tup (pa_cons (pv 9) (pa_cons (pv 10) pa_nil))) (pv 8))))))
    (pss_one (ps_ret (pe_tup (pa_cons (C8.pe_c c_L_low hr (by decide) rfl (pa_cons (pe_ix (r := rIxT K) ix_tup (pv 7) pe_int (fun _ _ => rfl)) (pa_cons (pe_ix (r := rIxT K) ix_tup (pv 7) pe_int (fun _ _ => rfl)) pa_nil))) (pa_cons (C8.pe_c c_L_low hr (by decide) rfl (pa_cons (pe_ix (r := rIxT K) ix_tup (pv 8) pe_int (fun _ _ => rfl)) (pa_cons (pe_ix (r := rIxT K) ix_tup (pv 8) pe_int (fun _ _ => rfl)) pa_nil))) pa_nil)))))))))), ?_⟩
  have hLr : ∀ {H2 : Hp} {i : Nat} {x : V}, Same H H2 → xs[i]? = some x → ∃ r, rs[i]? = some r ∧ LrAt sz t b f H2 x r := fun s hx => by
    obtain ⟨r, hr, h⟩ := hxs.at_ hx
    exact ⟨r, hr, h.but (fun c o _ h => s c o h) (sm_tk s)⟩
  refine ⟨(by show 2 ≤ sizeLine; decide), fun t0 nt0 => ⟨(by show 1 ≤ sizeLine; decide), fun S0 nS0 => ?_⟩⟩
  have st := sm_up (o := .tup [.int 0, .int 0]) nt0
  have s0 : Same H (upd (upd H t0 (.tup [.int 0, .int 0])) S0 (.lst [.ref t0])) := sm_new st nS0
  refine ⟨_, rfl, p, rfl, ⟨_, SqL.of (s0 _ _ hp)⟩, for_list (K := K) (a := p) (xs := xs) (fun i σ H3 => Same H H3 ∧ ∃ (S : Addr) (yss : List (List Int)) (z2 z3 z4 z5 z6 z7 z8 z9 z10 z11 : Option V), σ = [some (.ref p), some (.ref S), z2, z3, z4, z5, z6, z7, z8, z9, z10, z11] ∧ TLs H3 S yss ∧ PtsL sz t b (rs.take i) yss ∧ yss.length ≤ 3 ^ i) ?_ ?_ ?_ ?_⟩
  · refine ⟨s0, S0, [[0, 0]], _, _, _, _, _, _, _, _, _, _, rfl, ⟨_, upd_same, .cons ⟨t0, rfl, up_at upd_same nS0⟩ .nil⟩, fun z => ?_, Nat.le_refl _⟩
    rw [List.mem_singleton]
    constructor
    · rintro rfl
      exact ⟨0, 0, rfl, rfl, rfl⟩
    · rintro ⟨x, y, rfl, rfl, rfl⟩
      rfl
  · rintro i σ H3 _ ⟨s4, _⟩
    exact SqL.of (s4 _ _ hp)
  · rintro i x σ H3 hi ⟨s4, S, yss, z2, z3, z4, z5, z6, z7, z8, z9, z10, z11, rfl, ⟨vs, hS, hvs⟩, hpt, hyl⟩
    obtain ⟨r, hr, q, pt, k, ps, rfl, hq, _, hk, hps⟩ := hLr s4 hi
    refine ⟨q, _, rfl, SqT.of hq, rfl, _, _, rfl, _, _, rfl, _, _, rfl, rfl, ?_⟩
    have klen : (kl sz t b r.1).length ≤ 256 := by
      unfold kl
      rw [List.length_map]
      exact shownC_256 hz r.1
    refine ⟨by decide, fun Lt nLt => ?_⟩
    have s5 := s4.trans (sm_up (o := .lst []) nLt)
    have hk5 := sm_up (o := .lst []) nLt _ _ hk
    have hL5 : upd H3 Lt (.lst []) Lt = some (.lst []) := upd_same
    have hps5 : P2 (KdAt (upd H3 Lt (.lst []))) ps (kl sz t b r.1) := hps.imp fun v n h => h.tk (sm_tk (sm_up nLt))
    have LtS : Lt ≠ S := by
      intro e
      rw [e, hS] at nLt
      cases nLt
    have sL := sm_up (o := .lst []) nLt
    generalize upd H3 Lt (.lst []) = H5 at s5 hk5 hL5 hps5 sL
    refine ⟨_, rfl, k, rfl, ⟨_, SqL.of hk5⟩, fun D nD => ?_⟩
    refine lcI (walk_list (xs := ps)) nD (fun _ v n => v = V.int n) (fun j => (kl sz t b r.1).take j) rfl (fun H' s => SqL.of (s _ _ hk5)) ?_ ?_
    · rintro j y H4' H4 hj L ⟨rfl, hy⟩
      obtain ⟨n, hn, p2, cv, rfl, hp2⟩ := hps5.at_ hy
      refine ⟨p2, _, rfl, SqT.of (L.sm _ _ hp2), rfl, _, _, rfl, _, _, rfl, rfl, rfl, yesI ?_⟩
      refine ⟨_, rfl, L.push OfT.con.kept nD (Same.refl _) (x := n) rfl (take_snoc hn) ?_⟩
      rw [List.length_take]
      omega
    · intro H4 ys s6 hD hys
      rw [hps5.len, List.take_length] at hys
      have eys := P2.intsEq hys
      subst eys
      refine ⟨D, _, rfl, SqL.of hD, by omega, fun n hn => ?_, fun a m na hm => ⟨a, _, m, rfl, upd_same, by omega, fun ns kp pw hmem hlen2 nk => ?_⟩⟩
      · unfold kl at hn
        obtain ⟨c, _, rfl⟩ := List.mem_map.mp hn
        have := kindOf_r t b c (patOf r.1)
        omega
      have s7 : Same H4 (upd (upd H4 a (SetO w a (fun k => decide (k ∈ kl sz t b r.1)) m)) kp (.lst (ns.map V.int))) := (sm_up na).trans (sm_up nk)
      have hkp : upd (upd H4 a (SetO w a (fun k => decide (k ∈ kl sz t b r.1)) m)) kp (.lst (ns.map V.int)) kp = some (.lst (ns.map V.int)) := upd_same
      have nkL : kp ≠ Lt := by
        intro e
        have h := (sm_up (o := SetO w a (fun k => decide (k ∈ kl sz t b r.1)) m) na) _ _ (s6 _ _ hL5)
        rw [← e, nk] at h
        cases h
      generalize upd (upd H4 a (SetO w a (fun k => decide (k ∈ kl sz t b r.1)) m)) kp (.lst (ns.map V.int)) = H6 at s7 hkp
      have hmem' : ∀ k, k ∈ ns ↔ k ∈ kinds sz t b r.1 := fun k => by
        rw [hmem, decide_eq_true_eq]
        exact mem_kindsL.symm
      have s56 := s6.trans s7
      have s36 := sL.trans s56
      have hS6 := s36 _ _ hS
      have hvs6 : P2 (TIn H6) vs yss := hvs.imp fun v x q => q.tk (sm_tk s36)
      have hL6 := s56 _ _ hL5
      have ns3 : ns.length ≤ 3 := by omega
      have y3 : yss.length ≤ 2187 := Nat.le_trans hyl (Nat.le_trans (Nat.pow_le_pow_right (n := 3) (by decide) (show i ≤ 7 by
        have := (List.getElem?_eq_some_iff.mp hr).1
        omega)) (by decide))
      have fl : ∀ j, ((ns.take j).flatMap fun kk => yss.map (addP r.2 kk)).length ≤ 3 * yss.length := fun j => by
        have h1 := flatMap_le (l := ns.take j) (f := fun kk => yss.map (addP r.2 kk)) (n := yss.length) (fun kk _ => Nat.le_of_eq (List.length_map _))
        have h2 : (ns.take j).length ≤ 3 := by rw [List.length_take]; omega
        exact Nat.le_trans h1 (Nat.mul_le_mul_right _ h2)
      refine ⟨kp, rfl, ⟨_, SqL.of hkp⟩, for_list (K := K) (a := kp) (xs := ns.map V.int) (fun j σ H7 => But Lt H6 H7 ∧ (∃ acc, H7 Lt = some (.lst acc) ∧ P2 (TIn H7) acc ((ns.take j).flatMap fun kk => yss.map (addP r.2 kk))) ∧ ∃ z6 z7 z8 z9 z10 z11 : Option V, σ = [some (.ref p), some (.ref S), some (.int r.2), some pt, some (.ref k), some (.ref Lt), z6, z7, z8, z9, z10, z11]) ?_ ?_ ?_ ?_⟩
      · exact ⟨But.of (Same.refl _), ⟨[], hL6, .nil⟩, _, _, _, _, _, _, rfl⟩
      · rintro j σ H7 _ ⟨b7, _⟩
        exact SqL.of (b7 _ _ nkL hkp)
      · rintro j x σ H7 hj ⟨b7, ⟨acc, hL7, hacc⟩, z6, z7, z8, z9, z10, z11, rfl⟩
        obtain ⟨kk, hkk, rfl⟩ := map_int_get hj
        have LtS6 : S ≠ Lt := fun e => LtS e.symm
        have hS7 := b7 _ _ LtS6 hS6
        have tk7 := b7.tk hL6
        have hvs7 : P2 (TIn H7) vs yss := hvs6.imp fun v x q => q.tk tk7
        have hw : r.2.natAbs < 2 ^ 64 := by
          have h1 := hpos r (List.mem_of_getElem? hr)
          have h2 := sum_ge hpos r (List.mem_of_getElem? hr)
          omega
        have y3 : yss.length ≤ 2187 := y3
        refine ⟨_, rfl, .inl ⟨rfl, _, SqL.of hL7⟩, ?_⟩
        refine ⟨_, rfl, S, rfl, ⟨_, SqL.of hS7⟩, fun D2 nD2 => ?_⟩
        refine lcI (walk_list (xs := vs)) nD2 TIn (fun m => (yss.take m).map (addP r.2 kk)) rfl (fun H' s => SqL.of (s _ _ hS7)) ?_ ?_
        · rintro m v H8' H8 hm8 L ⟨rfl, hv⟩
          obtain ⟨z, hz8, hvz⟩ := hvs7.at_ hv
          obtain ⟨x, y, rfl, hxy⟩ := (hpt z).mp (List.mem_of_getElem? hz8)
          obtain ⟨va, rfl, hva⟩ := hvz.tk (sm_tk L.sm)
          refine ⟨va, _, rfl, SqT.of (xs := [x, y].map V.int) hva, rfl, _, _, rfl, _, _, rfl, rfl, rfl, yesI ?_⟩
          refine ⟨_, rfl, _, rfl, _, rfl, rfl, .inr ⟨_, rfl, _, _, rfl, rfl, mulL hw, _, _, rfl, rfl, ?_⟩⟩
          refine ⟨_, rfl, _, rfl, _, rfl, _, _, rfl, rfl, .inr ⟨_, rfl, _, _, rfl, rfl, mulL hw, _, _, rfl, rfl, (by show 2 ≤ sizeLine; decide), fun e ne => ?_⟩⟩
          refine L.push OfT.tin.kept nD2 (sm_up ne) (x := addP r.2 kk [x, y]) ⟨e, rfl, ?_⟩ (by rw [take_snoc hz8, List.map_append]; rfl) ?_
          · rw [upd_same]
            unfold addP
            have c1 : (if decide (V.int kk = V.int 2) = true then (1 : Int) else 0) = if kk = 2 then 1 else 0 := by
              by_cases q : kk = 2
              · rw [if_pos q, if_pos (decide_eq_true (by rw [q]))]
              · rw [if_neg q, if_neg (fun h => q (V.int.inj (of_decide_eq_true h)))]
            have c2 : (if decide (0 < kk) = true then (1 : Int) else 0) = if 0 < kk then 1 else 0 := by
              by_cases q : 0 < kk
              · rw [if_pos q, if_pos (decide_eq_true q)]
              · rw [if_neg q, if_neg (fun h => q (of_decide_eq_true h))]
            show some (HO.tup [V.int _, V.int _]) = some (HO.tup [V.int _, V.int _])
            rw [c1, c2]
            rfl
          · rw [List.length_map, List.length_take]
            omega
        · intro H8 ys2 s8 hD2 hys2
          rw [hvs7.len, List.take_length] at hys2
          have hL8 := s8 _ _ hL7
          have fl := fl j
          refine ⟨Lt, D2, acc, ys2, rfl, rfl, hL8, hD2, ?_, ?_⟩
          · refine Cb.sz ?_
            rw [hacc.len, hys2.len, List.length_map]
            omega
          · have tk9 : Tk H8 (upd H8 Lt (.lst (acc ++ ys2))) := tk_lst (fun _ _ h => h) hL8
            refine ⟨fun c o hb h => ?_, ⟨acc ++ ys2, upd_same, ?_⟩, _, _, _, _, _, _, rfl⟩
            · rw [upd_ne hb]
              exact s8 _ _ (b7 _ _ hb h)
            · rw [take_snoc hkk, List.flatMap_append, List.flatMap_cons, List.flatMap_nil, List.append_nil]
              exact (hacc.imp fun v x q => (q.tk (sm_tk s8)).tk tk9).app (hys2.imp fun v x q => q.tk tk9)
      · rintro σ H7 ⟨b7, ⟨acc, hL7, hacc⟩, z6, z7, z8, z9, z10, z11, rfl⟩
        rw [List.length_map, List.take_length] at hacc
        have flA := fl ns.length
        rw [List.take_length] at flA
        have nLtH : H Lt = none := s4.free nLt
        have s7' : Same H H7 := fun c o h => b7 c o (ne_of_none h nLtH) ((s4.trans s36) c o h)
        refine ⟨_, rfl, ?_⟩
        dsimp only [tNil]
        refine setSort (SqL.of hL7) hacc (by omega) fun p2 H8 yss2 s8 np ht hm hnd _ => ?_
        refine ⟨s7'.trans s8, p2, yss2, _, _, _, _, _, _, _, _, _, _, rfl, ht, fun z => ?_, ?_⟩
        · rw [hm, List.mem_flatMap, take_snoc hr]
          constructor
          · rintro ⟨kk, hkk, hz8⟩
            obtain ⟨u, hu, rfl⟩ := List.mem_map.mp hz8
            obtain ⟨x0, y0, rfl, hxy⟩ := (hpt u).mp hu
            exact ⟨_, _, rfl, Pt.snoc.mpr ⟨x0, y0, kk, hxy, (hmem' kk).mp hkk, rfl, rfl⟩⟩
          · rintro ⟨x1, y1, rfl, hxy⟩
            obtain ⟨x0, y0, kk, h0, hkk, rfl, rfl⟩ := Pt.snoc.mp hxy
            exact ⟨kk, (hmem' kk).mpr hkk, List.mem_map.mpr ⟨[x0, y0], (hpt _).mpr ⟨x0, y0, rfl, h0⟩, rfl⟩⟩
        · have h1 := hnd.length_le_of_subset fun z hz8 => (hm z).mp hz8
          rw [Nat.pow_succ]
          omega
  · rintro σ H3 ⟨s4, S, yss, z2, z3, z4, z5, z6, z7, z8, z9, z10, z11, rfl, ⟨vs, hS, hvs⟩, hpt, hyl⟩
    rw [hxs.len, List.take_length] at hpt
    have hkn : ∀ r ∈ rs, kinds sz t b r.1 ≠ [] := fun r hr => by
      obtain ⟨pp, h1, h2⟩ := hvw r hr
      exact kinds_ne hz h1 h2
    have hP0 := Pt.of (sz := sz) (t := t) (b := b) low_choice hkn
    have top : ∀ {x y : Int}, Pt sz t b rs x y → 0 ≤ x ∧ x ≤ y ∧ y < 2 ^ 62 := fun {x y} h => by
      obtain ⟨_, b2, b3, _, b5, b6⟩ := h.bd hpos
      have q1 := sel_le (sz := sz) (t := t) (b := b) (f := fAgainst) hpos
      have q2 := sel_le (sz := sz) (t := t) (b := b) (f := fCan) hpos
      exact ⟨b5, b6, by omega⟩
    obtain ⟨z0, hz0⟩ : ∃ z0, yss[0]? = some z0 := by
      cases e : yss with
      | nil =>
        have := (hpt _).mpr ⟨_, _, rfl, hP0⟩
        rw [e] at this
        cases this
      | cons z0 l => exact ⟨z0, rfl⟩
    obtain ⟨v0, hv0, hvz0⟩ := hvs.to hz0
    obtain ⟨x0, y0, rfl, hxy0⟩ := (hpt z0).mp (List.mem_of_getElem? hz0)
    obtain ⟨a0, rfl, ha0⟩ := id hvz0
    have ha0S : SqT K H3 a0 [V.int x0, V.int y0] := SqT.of ha0
    have ylen : yss.length ≤ 6561 := Nat.le_trans hyl (Nat.le_trans (Nat.pow_le_pow_right (n := 3) (by decide) (show xs.length ≤ 8 by rw [hxs.len]; exact hlen)) (by decide))
    refine ⟨_, rfl, _, _, _, _, rfl, rfl, SqL.of hS, at_of (j := 0) rfl hv0, _, _, _, _, rfl, rfl, ha0S, at_of (j := 1) rfl rfl, rfl, _, rfl, ?_⟩
    refine orVia (fun c H4 => Same H3 H4 ∧ (c = true ↔ ∃ x, Pt sz t b rs x 0)) ?_ (fun e => ⟨Same.refl _, fun _ => ⟨x0, ?_⟩, fun _ => rfl⟩) (fun c1 G hG => ?_)
    rotate_left
    · have e' : decide (V.int y0 = V.int 0) = true := e
      have e2 : y0 = 0 := V.int.inj (of_decide_eq_true e')
      rw [← e2]
      exact hxy0
    · refine ⟨_, rfl, S, rfl, ⟨_, SqL.of hS⟩, fun D nD => ?_⟩
      refine lcI (walk_list (xs := vs)) nD (fun _ v b => v = V.bl b) (fun j => (yss.take j).map fun z => decide (z.getD 1 0 = 0)) rfl (fun H' s => SqL.of (s _ _ hS)) ?_ ?_
      · rintro j v H5' H5 hj L ⟨rfl, hy⟩
        obtain ⟨z, hz5, hyz⟩ := hvs.at_ hy
        obtain ⟨x, y, rfl, _⟩ := (hpt z).mp (List.mem_of_getElem? hz5)
        obtain ⟨ya, rfl, hya⟩ := hyz.tk (sm_tk L.sm)
        refine ⟨ya, _, rfl, SqT.of (xs := [x, y].map V.int) hya, rfl, _, _, rfl, _, _, rfl, rfl, rfl, yesI ?_⟩
        refine ⟨_, rfl, rfl, L.push OfT.con.kept nD (Same.refl _) (x := decide (y = 0)) ?_ ?_ ?_⟩
        · show V.bl (decide (V.int y = V.int 0)) = _
          congr 1
          rw [Bool.eq_iff_iff, decide_eq_true_eq, decide_eq_true_eq]
          exact ⟨fun e => V.int.inj e, fun e => by rw [e]⟩
        · rw [take_snoc hz5, List.map_append]
          rfl
        · rw [List.length_map, List.length_take]
          omega
      · intro H5 bs s5 hD hbs
        rw [hvs.len, List.take_length] at hbs
        have eb := P2.bls hbs
        subst eb
        refine ⟨D, _, rfl, SqL.of hD, _, rfl, hG _ _ ⟨s5, ?_⟩⟩
        rw [List.any_eq_true]
        constructor
        · rintro ⟨c, hc, e⟩
          obtain ⟨z, hz5, rfl⟩ := List.mem_map.mp hc
          obtain ⟨x, y, rfl, hxy⟩ := (hpt z).mp hz5
          have e2 : y = 0 := of_decide_eq_true e
          exact ⟨x, e2 ▸ hxy⟩
        · rintro ⟨x, hxy⟩
          exact ⟨true, List.mem_map.mpr ⟨[x, 0], (hpt _).mpr ⟨x, 0, rfl, hxy⟩, rfl⟩, rfl⟩
    rintro c H4 ⟨s34, hc⟩
    refine ite2 (fun c1 => ?_) (fun c1 => ?_)
    · refine Qk .non H4 (s4.trans s34) ?_
      unfold bnd
      rw [if_pos ((Pt.zero hpos).mp (hc.mp c1))]
      rfl
    have h0 : ∀ x, ¬ Pt sz t b rs x 0 := fun x h => c1 (hc.mpr ⟨x, h⟩)
    have ypos : ∀ {x y : Int}, Pt sz t b rs x y → 0 < y := fun {x y} h => by
      have h1 := top h
      have h2 : y ≠ 0 := fun e => h0 x (e ▸ h)
      omega
    have hS4 := s34 _ _ hS
    have hvs4 : P2 (TIn H4) vs yss := hvs.imp fun v x q => q.tk (sm_tk s34)
    have hvz04 := hvz0.tk (sm_tk s34)
    refine ⟨_, rfl, _, _, _, _, rfl, rfl, SqL.of hS4, at_of (j := 0) rfl hv0, ?_⟩
    refine ⟨_, rfl, _, _, _, _, rfl, rfl, SqL.of hS4, at_of (j := 0) rfl hv0, _, _, rfl, ?_⟩
    refine ⟨_, rfl, S, rfl, ⟨_, SqL.of hS4⟩, for_list (K := K) (a := S) (xs := vs) (fun i σ H5 => Same H4 H5 ∧ ∃ (lv hv : Addr) (lx ly hx hy : Int) (z9 z10 : Option V), σ = [some (.ref p), some (.ref S), z2, z3, z4, z5, z6, some (.ref lv), some (.ref hv), z9, z10, z11] ∧
      H5 lv = some (.tup [.int lx, .int ly]) ∧ H5 hv = some (.tup [.int hx, .int hy]) ∧ Pt sz t b rs lx ly ∧ Pt sz t b rs hx hy ∧ ∀ x y, [x, y] ∈ yss.take i → lx * y ≤ x * ly ∧ x * hy ≤ hx * y) ?_ ?_ ?_ ?_⟩
    · exact ⟨Same.refl _, a0, a0, x0, y0, x0, y0, _, _, rfl, s34 _ _ ha0, s34 _ _ ha0, hxy0, hxy0, fun x y h => by simp at h⟩
    · rintro i σ H5 _ ⟨s5, _⟩
      exact SqL.of (s5 _ _ hS4)
    · rintro i v σ H5 hi ⟨s5, lv, hv, lx, ly, hx, hy, z9, z10, rfl, hlv, hhv, pl, ph, hall⟩
      obtain ⟨z, hz5, hyz⟩ := hvs4.at_ hi
      obtain ⟨x, y, rfl, hxy⟩ := (hpt z).mp (List.mem_of_getElem? hz5)
      obtain ⟨va, rfl, hva⟩ := hyz.tk (sm_tk s5)
      have tx := top hxy
      have tl := top pl
      have th := top ph
      have yin : ∀ {x1 y1 : Int}, [x1, y1] ∈ yss.take i → 0 < y1 := fun {x1 y1} h1 => by
        obtain ⟨x2, y2, e, h2⟩ := (hpt _).mp (List.mem_of_mem_take h1)
        injection e with e1 e2
        injection e2 with e2 _
        rw [e2]
        exact ypos h2
      refine ⟨va, _, rfl, SqT.of (xs := [x, y].map V.int) hva, rfl, _, _, rfl, _, _, rfl, rfl, ?_⟩
      refine ⟨_, rfl, _, rfl, _, _, _, _, rfl, rfl, SqT.of hlv, at_of (j := 1) rfl rfl, _, _, rfl, rfl, mulL (by omega), ?_⟩
      refine ⟨_, rfl, _, _, _, _, rfl, rfl, SqT.of hlv, at_of (j := 0) rfl rfl, _, rfl, _, _, rfl, rfl, mulL (by omega), _, _, rfl, rfl, _, rfl, ?_⟩
      refine expVia (fun v H6 => Same H5 H6 ∧ ∃ (lv' : Addr) (lx' ly' : Int), v = .ref lv' ∧ H6 lv' = some (.tup [.int lx', .int ly']) ∧ Pt sz t b rs lx' ly' ∧ lx' * y ≤ x * ly' ∧ ∀ x1 y1, [x1, y1] ∈ yss.take i → lx' * y1 ≤ x1 * ly') ?_ (fun c5 k hk => ?_) (fun c5 k hk => ?_)
      rotate_left
      · have c6 : x * ly < lx * y := of_decide_eq_true c5
        exact ⟨_, rfl, _, rfl, (by show 2 ≤ sizeLine; decide), fun e ne => hk _ _ ⟨sm_up ne, e, x, y, rfl, upd_same, hxy, Int.le_refl _, fun x1 y1 h1 => low_step (ypos pl) (ypos hxy) (yin h1) (hall x1 y1 h1).1 c6⟩⟩
      · have c6 : ¬ x * ly < lx * y := fun z => c5 (decide_eq_true z)
        exact ⟨_, rfl, hk _ _ ⟨Same.refl _, lv, lx, ly, rfl, hlv, pl, Int.not_lt.mp c6, fun x1 y1 h1 => (hall x1 y1 h1).1⟩⟩
      rintro lv1 H6 ⟨s6, lv', lx', ly', rfl, hlv', pl', hlo, hlo'⟩
      have hhv6 := s6 _ _ hhv
      refine ⟨_, rfl, _, rfl, _, _, _, _, rfl, rfl, SqT.of hhv6, at_of (j := 1) rfl rfl, _, _, rfl, rfl, mulL (by omega), ?_⟩
      refine ⟨_, rfl, _, _, _, _, rfl, rfl, SqT.of hhv6, at_of (j := 0) rfl rfl, _, rfl, _, _, rfl, rfl, mulL (by omega), _, _, rfl, rfl, _, rfl, ?_⟩
      refine expVia (fun v H7 => Same H6 H7 ∧ ∃ (hv' : Addr) (hx' hy' : Int), v = .ref hv' ∧ H7 hv' = some (.tup [.int hx', .int hy']) ∧ Pt sz t b rs hx' hy' ∧ x * hy' ≤ hx' * y ∧ ∀ x1 y1, [x1, y1] ∈ yss.take i → x1 * hy' ≤ hx' * y1) ?_ (fun c5 k hk => ?_) (fun c5 k hk => ?_)
      rotate_left
      · have c6 : hx * y < x * hy := of_decide_eq_true c5
        exact ⟨_, rfl, _, rfl, (by show 2 ≤ sizeLine; decide), fun e ne => hk _ _ ⟨sm_up ne, e, x, y, rfl, upd_same, hxy, Int.le_refl _, fun x1 y1 h1 => high_step (ypos ph) (ypos hxy) (yin h1) (hall x1 y1 h1).2 c6⟩⟩
      · have c6 : ¬ hx * y < x * hy := fun z => c5 (decide_eq_true z)
        exact ⟨_, rfl, hk _ _ ⟨Same.refl _, hv, hx, hy, rfl, hhv6, ph, Int.not_lt.mp c6, fun x1 y1 h1 => (hall x1 y1 h1).2⟩⟩
      rintro hv1 H7 ⟨s7, hv', hx', hy', rfl, hhv', ph', hhi, hhi'⟩
      refine ⟨(s5.trans s6).trans s7, lv', hv', lx', ly', hx', hy', _, _, rfl, s7 _ _ hlv', hhv', pl', ph', fun x1 y1 h1 => ?_⟩
      rw [take_snoc hz5] at h1
      rcases List.mem_append.mp h1 with h1 | h1
      · exact ⟨hlo' x1 y1 h1, hhi' x1 y1 h1⟩
      · have e : [x1, y1] = [x, y] := by simpa using h1
        injection e with e1 e2
        injection e2 with e2 _
        subst e1 e2
        exact ⟨hlo, hhi⟩
    · rintro σ H5 ⟨s5, lv, hv, lx, ly, hx, hy, z9, z10, rfl, hlv, hhv, pl, ph, hall⟩
      rw [hvs4.len, List.take_length] at hall
      have tl := top pl
      have th := top ph
      have hb : bnd sz t b rs = some (lw lx ly, lw hx hy) := by
        have e1 := low_lw hpos hkn h0 pl fun x' y' h => (hall x' y' ((hpt _).mpr ⟨x', y', rfl, h⟩)).1
        have e2 := high_lw hpos hkn h0 ph fun x' y' h => (hall x' y' ((hpt _).mpr ⟨x', y', rfl, h⟩)).2
        unfold bnd
        rw [if_neg (fun z => by obtain ⟨x, h⟩ := (Pt.zero hpos).mpr z; exact h0 x h), e1, e2]
      refine ⟨_, rfl, _, _, _, _, rfl, rfl, SqT.of hlv, at_of (j := 0) rfl rfl, _, rfl, _, _, _, _, rfl, rfl, SqT.of hlv, at_of (j := 1) rfl rfl, _, _, rfl, ypos pl, by omega, fun r1 H6 s6 h1 => ?_⟩
      have hhv6 := s6 _ _ hhv
      refine ⟨_, rfl, _, _, _, _, rfl, rfl, SqT.of hhv6, at_of (j := 0) rfl rfl, _, rfl, _, _, _, _, rfl, rfl, SqT.of hhv6, at_of (j := 1) rfl rfl, _, _, rfl, ypos ph, by omega, fun r2 H7 s7 h2 => ?_⟩
      refine ⟨(by show 2 ≤ sizeLine; decide), fun e ne => ?_⟩
      have se := sm_up (o := .tup [r1, r2]) ne
      refine Qk (.ref e) _ (((((s4.trans s34).trans s5).trans s6).trans s7).trans se) ?_
      rw [hb]
      exact ⟨e, r1, r2, rfl, upd_same, (h1.tk (sm_tk s7)).tk (sm_tk se), h2.tk (sm_tk se)⟩

end
end Cb
namespace Cb
open PySem PySem.Spec PyProof.Rows L2
section
variable {P : Program} {w : World} {K : PySem.W.Frag} {mg : Str → Option Value} {base : Heap}
/-! ### what _law_partial makes: plain facts -/
theorem kvW_snoc (ws : List (List Int × Int)) (k : List Int) (n : Int) : kvW (ws ++ [(k, n)]) = kvW ws ++ [(k.map Sum.inl, .int n)] := by
  unfold kvW
  rw [List.map_append]
  rfl
theorem kvW_none {ws : List (List Int × Int)} {k : List Int} (h : k ∉ ws.map (·.1)) : valV (kvW ws) (k.map Sum.inl) = none := by
  have e := dT_some (kvW_keys ws) k
  rw [decide_eq_false h] at e
  cases q : valV (kvW ws) (k.map Sum.inl) with
  | none => rfl
  | some v => rw [q] at e; cases e
theorem kvW_put {ws : List (List Int × Int)} {k : List Int} {n : Int} (h : k ∉ ws.map (·.1)) : putK (kvW ws) (k.map Sum.inl) (.int n) = kvW (ws ++ [(k, n)]) := by
  rw [putK_new _ (kvW_none h), kvW_snoc]
theorem sum_bd {B : Nat} : ∀ {l : List (List Int × Int)}, (∀ w ∈ l, 0 ≤ w.2 ∧ w.2 ≤ B) → (l.map (·.2)).sum ≤ ((l.length * B : Nat) : Int)
  | [], _ => by simp
  | w :: l, h => by
    have h1 := h w List.mem_cons_self
    have h2 := sum_bd fun v hv => h v (List.mem_cons_of_mem _ hv)
    rw [List.map_cons, List.sum_cons, List.length_cons, Nat.add_mul]
    omega
/-- the second dict's weight of a view -/
def evW (ws : List (List Int × Int)) (v : List Int) : Int := if v ∈ ws.map (·.1) then wOf ws v * 1000000 else 1
def evP (ws : List (List Int × Int)) (v : List Int) : Bool := decide (patOf v ∈ (ws.map (·.1)).map patOf)
def evr (ws : List (List Int × Int)) (yss : List (List Int)) : List (List Int × Int) := (yss.filter (evP ws)).map fun v => (v, evW ws v)
theorem evr_keys (ws : List (List Int × Int)) (yss : List (List Int)) : (evr ws yss).map (·.1) = yss.filter (evP ws) := by
  unfold evr
  rw [List.map_map]
  exact List.map_id _
structure PartOk (sz : List Nat) (ws ws2 : List (List Int × Int)) : Prop where
  W : WtsOk ws
  W2 : WtsOk ws2
  s1 : (ws.map (·.2)).sum < 2 ^ 40
  vw : ∀ w ∈ ws, ∃ p, isPat sz.length p ∧ w.1 ∈ views sz p
  vw2 : ∀ w ∈ ws2, ∃ p, isPat sz.length p ∧ w.1 ∈ views sz p
  mem : ∀ v, v ∈ ws2.map (·.1) ↔ ∃ k ∈ ws.map (·.1), v ∈ views sz (patOf k)
  split : ∃ rest, ws2.Perm (scl ws ++ rest) ∧ (∀ w ∈ rest, w.2 = 1) ∧ rest.length ≤ 256
theorem part_ok {sz : List Nat} {fam yss : List (List Int)} {ws : List (List Int × Int)} (hf : ∀ p ∈ fam, isPat sz.length p) (hy : ∀ y, y ∈ yss ↔ ∃ p ∈ fam, y ∈ views sz p) (nd : yss.Nodup) (hl : yss.length ≤ 256)
    (wnd : (ws.map (·.1)).Nodup) (wsub : ∀ y ∈ ws.map (·.1), y ∈ yss) (wv : ∀ w ∈ ws, 1 ≤ w.2 ∧ w.2 ≤ 1000) (wne : ws ≠ []) : PartOk sz ws (evr ws yss) := by
  have ky : ∀ y ∈ yss, ∃ p ∈ fam, patOf y = p ∧ y ∈ views sz p ∧ isPat sz.length p := fun y h => by
    obtain ⟨p, hp, hv⟩ := (hy y).mp h
    exact ⟨p, hp, patOf_views (hf p hp) hv, hv, hf p hp⟩
  have wl : ws.length ≤ 256 := by
    have := wnd.length_le_of_subset wsub
    rw [List.length_map] at this
    omega
  have wpos : ∀ w ∈ ws, 0 < w.2 := fun w hw => by have := wv w hw; omega
  have s1 := sum_bd (B := 1000) (l := ws) fun w hw => by have := wv w hw; omega
  have s1' : (ws.map (·.2)).sum ≤ 256000 := by
    have : ws.length * 1000 ≤ 256 * 1000 := Nat.mul_le_mul_right _ wl
    omega
  have wmem : ∀ y ∈ ws.map (·.1), 1 ≤ wOf ws y ∧ wOf ws y ≤ 1000 := fun y hy => by
    obtain ⟨w, hw, rfl⟩ := List.mem_map.mp hy
    rw [wOf_mem wnd w hw]
    exact wv w hw
  have ev1 : ∀ v, 1 ≤ evW ws v ∧ evW ws v ≤ 1000000000 := fun v => by
    unfold evW
    by_cases c : v ∈ ws.map (·.1)
    · rw [if_pos c]
      have := wmem v c
      omega
    · rw [if_neg c]
      decide
  have hP : ∀ y ∈ ws.map (·.1), evP ws y = true := fun y h => decide_eq_true (List.mem_map.mpr ⟨y, h, rfl⟩)
  have l2 : (evr ws yss).length ≤ 256 := by
    unfold evr
    rw [List.length_map]
    exact Nat.le_trans (List.length_filter_le _ _) hl
  have v2 : ∀ w ∈ evr ws yss, 1 ≤ w.2 ∧ w.2 ≤ 1000000000 := fun w hw => by
    obtain ⟨v, _, rfl⟩ := List.mem_map.mp hw
    exact ev1 v
  have s2 := sum_bd (B := 1000000000) (l := evr ws yss) fun w hw => by have := v2 w hw; omega
  have s2' : ((evr ws yss).map (·.2)).sum ≤ 256000000000 := by
    have : (evr ws yss).length * 1000000000 ≤ 256 * 1000000000 := Nat.mul_le_mul_right _ l2
    omega
  have mem2 : ∀ v, v ∈ (evr ws yss).map (·.1) ↔ v ∈ yss ∧ evP ws v = true := fun v => by
    rw [evr_keys]
    exact List.mem_filter
  refine ⟨⟨wnd, wpos, by omega, wne, by omega⟩, ⟨?_, fun w hw => by have := v2 w hw; omega, by omega, ?_, by omega⟩, by omega, fun w hw => ?_, fun w hw => ?_, fun v => ?_, ?_⟩
  · rw [evr_keys]
    exact nd.filter _
  · obtain ⟨w, hw⟩ := List.exists_mem_of_ne_nil ws wne
    have hm : w.1 ∈ ws.map (·.1) := List.mem_map.mpr ⟨w, hw, rfl⟩
    have := (mem2 w.1).mpr ⟨wsub _ hm, hP _ hm⟩
    intro e
    rw [e] at this
    cases this
  · obtain ⟨p, _, _, h1, h2⟩ := ky w.1 (wsub _ (List.mem_map.mpr ⟨w, hw, rfl⟩))
    exact ⟨p, h2, h1⟩
  · obtain ⟨p, _, _, h1, h2⟩ := ky w.1 ((mem2 w.1).mp (List.mem_map.mpr ⟨w, hw, rfl⟩)).1
    exact ⟨p, h2, h1⟩
  · rw [mem2]
    constructor
    · rintro ⟨h1, h2⟩
      obtain ⟨k, hk, e⟩ := List.mem_map.mp (of_decide_eq_true h2)
      obtain ⟨p, _, e1, h3, _⟩ := ky v h1
      exact ⟨k, hk, by rw [e, e1]; exact h3⟩
    · rintro ⟨k, hk, h⟩
      obtain ⟨p, hp, e1, h3, h4⟩ := ky k (wsub k hk)
      rw [e1] at h
      refine ⟨(hy v).mpr ⟨p, hp, h⟩, decide_eq_true (List.mem_map.mpr ⟨k, hk, ?_⟩)⟩
      rw [e1, patOf_views h4 h]
  · refine ⟨((yss.filter (evP ws)).filter fun v => !decide (v ∈ ws.map (·.1))).map fun v => (v, evW ws v), ?_, fun w hw => ?_, ?_⟩
    · have p1 := (List.filter_append_perm (fun v => decide (v ∈ ws.map (·.1))) (yss.filter (evP ws))).symm.map fun v => (v, evW ws v)
      rw [List.map_append] at p1
      refine p1.trans (List.Perm.append_right _ ?_)
      have p2 : ((yss.filter (evP ws)).filter fun v => decide (v ∈ ws.map (·.1))).Perm (ws.map (·.1)) := by
        refine (List.perm_ext_iff_of_nodup ((nd.filter _).filter _) wnd).mpr fun y => ?_
        rw [List.mem_filter, List.mem_filter, decide_eq_true_eq]
        exact ⟨fun h => h.2, fun h => ⟨⟨wsub y h, hP y h⟩, h⟩⟩
      have p3 := p2.map fun v => (v, evW ws v)
      have e : ((ws.map (·.1)).map fun v => (v, evW ws v)) = scl ws := by
        unfold scl
        rw [List.map_map]
        refine List.map_congr_left fun w hw => ?_
        show (w.1, evW ws w.1) = _
        unfold evW
        rw [if_pos (List.mem_map.mpr ⟨w, hw, rfl⟩), wOf_mem wnd w hw]
      rw [e] at p3
      exact p3
    · obtain ⟨v, hv, rfl⟩ := List.mem_map.mp hw
      have h := (List.mem_filter.mp hv).2
      show evW ws v = 1
      unfold evW
      rw [if_neg]
      intro c
      rw [decide_eq_true c] at h
      cases h
    · rw [List.length_map]
      exact Nat.le_trans (List.length_filter_le _ _) (Nat.le_trans (List.length_filter_le _ _) hl)
theorem part_full {sz : List Nat} {ws ws2 : List (List Int × Int)} (h : PartOk sz ws ws2) : Full sz (ws2.map (·.1)) ∧ (Full sz (ws.map (·.1)) ↔ ws.length = ws2.length) := by
  have sub : ∀ k ∈ ws.map (·.1), k ∈ ws2.map (·.1) := fun k hk => by
    obtain ⟨w, hw, rfl⟩ := List.mem_map.mp hk
    obtain ⟨p, h1, h2⟩ := h.vw w hw
    exact (h.mem _).mpr ⟨w.1, hk, views_patOf h1 h2⟩
  refine ⟨fun k hk v hv => ?_, fun hF => ?_, fun hl k hk v hv => ?_⟩
  · obtain ⟨k0, h1, h2⟩ := (h.mem k).mp hk
    obtain ⟨w, hw, rfl⟩ := List.mem_map.mp h1
    obtain ⟨p, h3, h4⟩ := h.vw w hw
    rw [patOf_views h3 h4] at h2
    rw [patOf_views h3 h2] at hv
    exact (h.mem v).mpr ⟨w.1, h1, by rw [patOf_views h3 h4]; exact hv⟩
  · have sub2 : ∀ k ∈ ws2.map (·.1), k ∈ ws.map (·.1) := fun k hk => by
      obtain ⟨k0, h1, h2⟩ := (h.mem k).mp hk
      exact hF k0 h1 k h2
    have a := h.W.nd.length_le_of_subset sub
    have b := h.W2.nd.length_le_of_subset sub2
    rw [List.length_map, List.length_map] at a b
    omega
  · have hv2 := (h.mem v).mpr ⟨k, hk, hv⟩
    refine Classical.byContradiction fun n => ?_
    have nd2 : (v :: ws.map (·.1)).Nodup := List.nodup_cons.mpr ⟨n, h.W.nd⟩
    have a := nd2.length_le_of_subset fun y hy => by
      rcases List.mem_cons.mp hy with e | m
      · rw [e]; exact hv2
      · exact sub y m
    rw [List.length_cons, List.length_map, List.length_map] at a
    omega

end
end Cb
namespace Cb
open PySem PySem.Spec PyProof.Rows L2
section
variable {P : Program} {w : World} {K : PySem.W.Frag} {mg : Str → Option Value} {base : Heap}
/-! ### _law_partial, walked -/
theorem dpAllT {K : PySem.W.Frag} {H : Hp} {vs : List V} {yss : List (List Int)} (h : P2 (TIn H) vs yss) : DpAll K H vs (yss.map fun ns => PyData.tuple (ns.map PyData.int)) := by
  induction h with
  | nil => exact .nil
  | cons r t ih => exact .cons r.dp ih
theorem canLT : ∀ yss : List (List Int), PyData.canLayAll0 (yss.map fun ns => PyData.tuple (ns.map PyData.int)) = true
  | [] => by simp [PyData.canLayAll0]
  | n :: r => by simp only [List.map_cons, PyData.canLayAll0, PyData.canLay0, PySem.W.canLayAll0_ints, canLT r, Bool.and_self]
theorem depLT : ∀ yss : List (List Int), PyData.depthAll (yss.map fun ns => PyData.tuple (ns.map PyData.int)) ≤ 2
  | [] => by simp [PyData.depthAll]
  | n :: r => by
    have := depLT r
    have := PySem.W.depthAll_ints n
    simp only [List.map_cons, PyData.depthAll, PyData.depth]
    omega
theorem shLT (yss : List (List Int)) : SeqAt.shaped (.list (yss.map fun ns => PyData.tuple (ns.map PyData.int))) = true := by
  have h1 := depLT yss
  have h2 : PyData.depth (.list (yss.map fun ns => PyData.tuple (ns.map PyData.int))) ≤ 64 := by simp only [PyData.depth]; omega
  show (PyData.canLay0 (.list (yss.map fun ns => PyData.tuple (ns.map PyData.int))) && decide (PyData.depth (.list (yss.map fun ns => PyData.tuple (ns.map PyData.int))) ≤ 64)) = true
  rw [Bool.and_eq_true]
  exact ⟨by simp only [PyData.canLay0]; exact canLT yss, decide_eq_true h2⟩
theorem anyT (yss : List (List Int)) (y : List Int) : ((yss.map fun ns => PyData.tuple (ns.map PyData.int)).any fun z => PyData.eqv z (PyData.tuple (y.map PyData.int))) = decide (y ∈ yss) := by
  rw [List.any_map, Bool.eq_iff_iff, List.any_eq_true, decide_eq_true_eq]
  constructor
  · rintro ⟨x, hx, h⟩
    have h : PyData.eqv (.tuple (x.map PyData.int)) (.tuple (y.map PyData.int)) = true := h
    rw [eqvT] at h
    rw [← of_decide_eq_true h]
    exact hx
  · intro h
    exact ⟨y, h, by show PyData.eqv (.tuple (y.map PyData.int)) (.tuple (y.map PyData.int)) = true; rw [eqvT, decide_eq_true rfl]⟩
theorem Hand.but {p g q f : Addr} {H H' : Hp} (h : Hand p g q H) (fr : Fre p g q f) (e : But f H H') : Hand p g q H' := by
  obtain ⟨big, small, sm, tn, h1, h2, h3, h4⟩ := h.ex
  exact ⟨big, small, sm, tn, e _ _ fr.p.symm h1, e _ _ fr.g.symm h2, e _ _ fr.q.symm h3, h4⟩
theorem mulR {a b : Int} (h : b.natAbs < 2 ^ 64) : CMul a b := by
  right
  omega
theorem Hand.of_new {p g q a : Addr} {H H' : Hp} (hh : Hand p g q H') (mv : Mv p g H H') (na : H' a = none) : H a = none := by
  cases e : H a with
  | none => rfl
  | some o =>
    have f := hh.fre na
    have f2 := mv a o f.p f.g e
    rw [na] at f2
    cases f2
/-- all but the hand's and the dict at d stays -/
def MvD (p g d : Addr) (H H' : Hp) : Prop := ∀ b o, b ≠ p → b ≠ g → b ≠ d → H b = some o → H' b = some o
theorem MvD.mv {p g d : Addr} {H H1 H2 : Hp} (a : MvD p g d H H1) (b : Mv p g H1 H2) : MvD p g d H H2 := fun c o n m k h => b c o n m (a c o n m k h)
theorem MvD.put {p g d : Addr} {H H1 : Hp} {o : HO} (a : MvD p g d H H1) : MvD p g d H (upd H1 d o) := fun c u n m k h => by
  rw [upd_ne k]
  exact a c u n m k h
theorem MvD.tk {p g q d : Addr} {H H' : Hp} {kvs : List (List Key × V)} (hh : Hand p g q H) (hd : H d = some (.dT kvs)) (e : MvD p g d H H') : Tk H H' := fun b xs hb => by
  obtain ⟨big, small, sm, tn, h1, h2, h3, h4⟩ := hh.ex
  refine e b _ (fun z => ?_) (fun z => ?_) (fun z => ?_) hb
  · rw [z, h1] at hb
    cases hb
  · rw [z, h2] at hb
    cases hb
  · rw [z, hd] at hb
    cases hb
theorem But.tkD {D : Addr} {H H' : Hp} {kvs : List (List Key × V)} (e : But D H H') (h : H D = some (.dT kvs)) : Tk H H' := fun b ys q => e b _ (ne_of q h (by intro z; cases z)) q
/-- `if c: body` and what is behind it -/
theorem thenVia {c : Bool} {t : TS} {D : Ends} {σ : L2.St} {H : Hp} (A : L2.St → Hp → Prop) (h : ∀ σ' H', A σ' H' → D.nx σ' H') (h1 : c = true → ∀ D' : Ends, (∀ σ' H', A σ' H' → D'.nx σ' H') → t D' σ H) (h2 : ¬ c = true → A σ H) : if c = true then t D σ H else tNext D σ H := by
  by_cases e : c = true
  · rw [if_pos e]
    exact h1 e D h
  · rw [if_neg e]
    exact h _ _ (h2 e)
/-- one item of evr -/
theorem evr_snoc {ws : List (List Int × Int)} {l : List (List Int)} {y : List Int} : evr ws (l ++ [y]) = evr ws l ++ if evP ws y = true then [(y, evW ws y)] else [] := by
  unfold evr
  rw [List.filter_append, List.map_append]
  congr 1
  by_cases c : evP ws y = true
  · rw [if_pos c, List.filter_cons_of_pos c]
    rfl
  · rw [if_neg c, List.filter_cons_of_neg c]
    rfl
theorem evr_new {ws : List (List Int × Int)} {l : List (List Int)} {y : List Int} (h : y ∉ l) : y ∉ (evr ws l).map (·.1) := by
  rw [evr_keys]
  exact fun m => h (List.mem_filter.mp m).1
def spPartial : Sp := fun vs H Q _ => ∃ (p g q : Addr) (v : V) (sz : List Nat), vs = [.ref p, v] ∧ Hand p g q H ∧ TIn H v (isz sz) ∧ Sz sz ∧
  ∀ (r a1 a2 : Addr) H' ws ws2, Mv p g H H' → Hand p g q H' → H' r = some (.tup [.ref a1, .ref a2]) → H' a1 = some (.dT (kvW ws)) → H' a2 = some (.dT (kvW ws2)) → PartOk sz ws ws2 → Q (.ref r) H'
abbrev N_L_partial : List Str := ["_law_hand_here", "_law_sizes", "_law_pattern", "_law_rare", "_law_view_here", "_law_patterns_here", "_law_every", "_law_views_here", "_law_some", "_law_content", "_law_at"]
theorem sc_L_partial : FnScope N_L_partial ["_law_hand_here", "_law_sizes"] (defScope s_L_partial) := ⟨rfl, rfl, rfl, by decide +kernel, rfl, by decide +kernel, by decide +kernel⟩
theorem cal_L_partial (T : Txt w K mg) : C8.Cal P w K mg base 4 "_law_partial" spPartial [] := by
  have c_L_family := cal_L_family (P := P) (base := base) T
  have c_L_contents := cal_L_contents (P := P) (base := base) T
  have c_L_view := cal_L_view (P := P) (base := base) T
  have c_L_any := cal_L_any (P := P) (base := base) T
  have c_L_draw := cal_L_draw (P := P) (base := base) T
  have c_L_weight := cal_L_weight (P := P) (base := base) T
  refine mkCal T.F_L_partial T.g__law_partial sc_L_partial (fun _ _ _ _ _ _ us hl => match us, hl with | [_, _], _ => rfl) (fun vs H Q E h => ?_) (fun cdv A outer s H vs Q E hr h => ?_)
  · obtain ⟨p, g, q, v, sz, rfl, hh, hv, hz, Qk⟩ := h
    rfl
  obtain ⟨p, g, q, v, sz, rfl, hh, hv, hz, Qk⟩ := h
  have nd := sc_L_partial.nd
  have hu := hu_of hr
  refine ⟨_, (pss_cons (ps_par (i := 7) (j := 8) (by rfl) nd rfl rfl (by decide) rfl rfl (pa_cons (pe_lst pa_nil) (pa_cons pe_dnewT pa_nil)) (by rfl))
    (pss_cons (ps_for PassesOwn.never rfl (pi_list (C8.pe_c c_L_family hr (by decide) rfl (pa_cons (pv 0) (pa_cons (pe_callB (r := rLen K) call_len_seq (by rfl) T.z_len bt_len (pa_cons (pv 1) pa_nil)) pa_nil)))) (pg_name (i := 2) nd rfl (Or.inl rfl))
    (pss_one (ps_for PassesOwn.never rfl (pi_list (C8.pe_c c_L_contents hr (by decide) rfl (pa_cons (pv 1) pa_nil))) (pg_name (i := 9) nd rfl (Or.inl rfl))
    (pss_cons (ps_set (i := 4) nd rfl (Or.inr rfl) (C8.pe_c c_L_view hr (by decide) rfl (pa_cons (pv 9) (pa_cons (pv 2) pa_nil))))
    (pss_one (ps_if (pt_cmpR (r := rNotInD K) (op_notInD (Cb.Room.units65 hr)) (pv 4) (pv 7) (by rfl))
    (pss_one (ps_expr (pe_bm PySem.F.plainAttrs_list PySem.F.slot_list_append PySem.F.type_list_append mt_append (pv 7) (pa_cons (pv 4) pa_nil))))
    pss_nil))))))
    (pss_cons (ps_set (i := 3) nd rfl (Or.inl rfl) (C8.pe_c c_L_any hr (by decide) rfl (pa_cons (pv 0) (pa_cons (pe_lst (pa_cons pe_int (pa_cons pe_int (pa_cons pe_int (pa_cons (pe_callB (r := rLen K) call_len_seq (by rfl) T.z_len bt_len (pa_cons (pv 7) pa_nil)) pa_nil))))) pa_nil))))
    (pss_cons (ps_for PassesOwn.never rfl (pi_list (pv 7)) (pg_name (i := 4) nd rfl (Or.inr rfl))
    (pss_one (ps_if (pt_cmpR op_eq (C8.pe_c c_L_draw hr (by decide) rfl (pa_cons (pv 0) (pa_cons (pv 3) pa_nil))) pe_int (nomark _))
    (pss_one (ps_dput hu (pv 8) (pv 4) (C8.pe_c c_L_weight hr (by decide) rfl (pa_cons (pv 0) (pa_cons pe_int pa_nil))) rfl))
    pss_nil)))
    (pss_cons (ps_if (pt_cmpR op_eq (pe_callB call_len_dT (by rfl) T.z_len bt_len (pa_cons (pv 8) pa_nil)) pe_int (nomark _))
    (pss_one (ps_dput hu (pv 8) (C8.pe_c c_L_any hr (by decide) rfl (pa_cons (pv 0) (pa_cons (pv 7) pa_nil))) pe_int rfl))
    pss_nil)
    (pss_cons (ps_lock (ps_setLc (i := 5) (own := [("_law_view_here", 4)]) (g := gName 4) (tt := tYes) rfl nd rfl rfl (sw_true rfl rfl rfl (by decide +kernel)) (pi_keys (pv 8)) (blkOk_by (N := N_L_partial) (sc := defScope s_L_partial) (by decide +kernel)) (fun _ _ _ _ _ => (pg_name (i := 4) nd rfl (Or.inr rfl))) (fun _ _ _ _ _ => pts_nil) (fun _ _ _ _ _ => (pe_callTy (r := rTupOf K) call_tuple_of (by rfl) T.z_tuple bt_tuple (pa_cons (pe_lc (own := [("_law_at", 10)]) (g := gName 10) rfl nd (pi_range1 (by rfl) T.z_range (pa_cons (pe_callB (r := rLen K) call_len_seq (by rfl) T.z_len bt_len (pa_cons (pv 4) pa_nil)) pa_nil)) (blkOk_by (N := N_L_partial) (by rfl)) (fun _ _ _ _ _ => (pg_name (i := 10) nd rfl (Or.inl rfl))) (fun _ _ _ _ _ => (pts_one (pt_cmpR op_ge (pe_ix (r := rIxT K) ix_tup (pv 4) (pv 10) (fun _ _ => rfl)) pe_int (nomark _)))) (fun _ _ _ _ _ => (pv 10))) pa_nil)))))
    (pss_cons (ps_set (i := 6) nd rfl (Or.inl rfl) pe_dnewT)
    (pss_cons (ps_for PassesOwn.never rfl (pi_list (pv 7)) (pg_name (i := 4) nd rfl (Or.inr rfl))
    (pss_one (ps_if (pt_cmpR (r := rInD K) (op_inD (Cb.Room.units65 hr)) (pe_callTy (r := rTupOf K) call_tuple_of (by rfl) T.z_tuple bt_tuple (pa_cons (pe_lc (own := [("_law_at", 10)]) (g := gName 10) rfl nd (pi_range1 (by rfl) T.z_range (pa_cons (pe_callB (r := rLen K) call_len_seq (by rfl) T.z_len bt_len (pa_cons (pv 4) pa_nil)) pa_nil)) (blkOk_by (N := N_L_partial) (sc := defScope s_L_partial) (by decide +kernel)) (fun _ _ _ _ _ => (pg_name (i := 10) nd rfl (Or.inl rfl))) (fun _ _ _ _ _ => (pts_one (pt_cmpR op_ge (pe_ix (r := rIxT K) ix_tup (pv 4) (pv 10) (fun _ _ => rfl)) pe_int (nomark _)))) (fun _ _ _ _ _ => (pv 10))) pa_nil)) (pv 5) (by rfl))
    (pss_one (ps_dput hu (pv 6) (pv 4) (pe_ifExp (pt_cmp (pc_din hu (pv 4) (pv 8))) (pe_op op_mul (pe_dget hu (pv 8) (pv 4) (fun _ _ => rfl)) (pe_op op_pow pe_int pe_int)) pe_int) rfl))
    pss_nil)))
    (pss_one (ps_ret (pe_tup (pa_cons (pv 8) (pa_cons (pv 6) pa_nil))))))))))))), ?_⟩
  have l4 := hz.l4
  obtain ⟨va, rfl, hva⟩ := hv
  have hsl : ((isz sz).map V.int).length = sz.length := by rw [List.length_map, isz_len]
  refine ⟨by decide, fun f nf => ?_⟩
  refine fun d nd0 => ⟨_, _, rfl, ?_⟩
  have s0 : Same H (upd (upd H f (.lst [])) d (.dT [])) := sm_new (sm_up nf) nd0
  have hf0 : upd (upd H f (.lst [])) d (.dT []) f = some (.lst []) := up_at upd_same nd0
  have hd0 : upd (upd H f (.lst [])) d (.dT []) d = some (.dT []) := upd_same
  have frf : Fre p g q f := hh.fre nf
  have frd : Fre p g q d := hh.fre ((sm_up nf).free nd0)
  have df : d ≠ f := by
    intro e
    rw [e, upd_same] at nd0
    cases nd0
  generalize upd (upd H f (.lst [])) d (.dT []) = H0 at s0 hf0 hd0
  have hh0 := hh.sm s0
  refine ⟨_, rfl, _, rfl, _, _, rfl, .inr (SqT.of (s0 _ _ hva)), p, g, q, sz.length, by rw [hsl]; rfl, hh0, l4, fun r H2 fam mv2 hh2 nr hr hne hpat hfl => ?_⟩
  have tk2 := hh0.tk mv2
  have hva2 := tk2 _ _ (s0 _ _ hva)
  have hf2 := mv2.fr frf hf0
  have hd2 := mv2.fr frd hd0
  have mvH2 : Mv p g H H2 := (Mv.of s0).trans mv2
  obtain ⟨fvs, hr, hfv⟩ := hr
  have rf : r ≠ f := by
    intro e
    rw [e, hf0] at nr
    cases nr
  have cl16 : (contents sz).length ≤ 16 := by rw [contents_len]; exact hz.p
  refine ⟨r, rfl, ⟨_, SqL.of hr⟩, for_list (K := K) (a := r) (xs := fvs) (fun i σ H3 => But f H2 H3 ∧ (∃ acc yss, H3 f = some (.lst acc) ∧ P2 (TIn H3) acc yss ∧ yss.Nodup ∧ yss.length ≤ 16 * i ∧ ∀ y, y ∈ yss ↔ ∃ pt ∈ fam.take i, y ∈ views sz pt) ∧ ∃ z2 z3 z4 z5 z6 z9 z10 : Option V, σ = [some (.ref p), some (.ref va), z2, z3, z4, z5, z6, some (.ref f), some (.ref d), z9, z10]) ?_ ?_ ?_ ?_⟩
  · exact ⟨But.of (Same.refl _), ⟨[], [], hf2, .nil, List.nodup_nil, Nat.zero_le _, fun y => by simp⟩, _, _, _, _, _, _, _, rfl⟩
  · rintro i σ H3 _ ⟨b3, _⟩
    exact SqL.of (b3 _ _ rf hr)
  · rintro i x σ H3 hi ⟨b3, ⟨acc, yss, hf3, hacc, ynd, ylen, ymem⟩, z2, z3, z4, z5, z6, z9, z10, rfl⟩
    obtain ⟨pt, hpt, hxp⟩ := hfv.at_ hi
    have tk3 := b3.tk hf2
    have hxp3 := hxp.tk tk3
    refine ⟨_, rfl, .ref va, sz, rfl, ⟨va, rfl, tk3 _ _ hva2⟩, hz.s4, fun c H4 s4 nc hc => ?_⟩
    obtain ⟨cs, hc, hcs⟩ := hc
    have hf4 := s4 _ _ hf3
    have cf : c ≠ f := by
      intro e
      rw [e, hf3] at nc
      cases nc
    refine ⟨c, rfl, ⟨_, SqL.of hc⟩, for_list (K := K) (a := c) (xs := cs) (fun j σ H5 => But f H4 H5 ∧ (∃ acc yss, H5 f = some (.lst acc) ∧ P2 (TIn H5) acc yss ∧ yss.Nodup ∧ yss.length ≤ 16 * i + j ∧ ∀ y, y ∈ yss ↔ (∃ pt ∈ fam.take i, y ∈ views sz pt) ∨ ∃ cc ∈ (contents sz).take j, viewOf cc pt = y) ∧ ∃ z3 z4 z5 z6 z9 z10 : Option V, σ = [some (.ref p), some (.ref va), some x, z3, z4, z5, z6, some (.ref f), some (.ref d), z9, z10]) ?_ ?_ ?_ ?_⟩
    · exact ⟨But.of (Same.refl _), ⟨acc, yss, hf4, hacc.imp fun v x q => q.tk (sm_tk s4), ynd, by omega, fun y => by rw [ymem]; simp⟩, _, _, _, _, _, _, rfl⟩
    · rintro j σ H5 _ ⟨b5, _⟩
      exact SqL.of (b5 _ _ cf hc)
    · rintro j u σ H5 hj ⟨b5, ⟨acc5, yss5, hf5, hacc5, ynd5, ylen5, ymem5⟩, z3, z4, z5, z6, z9, z10, rfl⟩
      obtain ⟨cc, hcc, hu⟩ := hcs.at_ hj
      have tk5 := b5.tk hf4
      have ccl : cc.length = sz.length := (mem_contents.mp (List.mem_of_getElem? hcc)).1
      have hjl : j < 16 := by
        have := (List.getElem?_eq_some_iff.mp hcc).1
        omega
      have hil : i < 16 := by
        have := (List.getElem?_eq_some_iff.mp hpt).1
        omega
      refine ⟨_, rfl, _, rfl, u, x, cc, pt, rfl, hu.tk tk5, (hxp3.tk (sm_tk s4)).tk tk5, by omega, fun rv H6 s6 hrv => ?_⟩
      have hf6 := s6 _ _ hf5
      have hacc6 : P2 (TIn H6) acc5 yss5 := hacc5.imp fun v x q => q.tk (sm_tk s6)
      refine ⟨_, rfl, _, rfl, _, _, hrv.dp, .lst (SqL.of hf6) (dpAllT hacc6), shT _, shLT _, _, rfl, ?_⟩
      rw [anyT]
      refine ite2 (fun c6 => ?_) (fun c6 => ?_)
      · have c7 : viewOf cc pt ∉ yss5 := by
          intro h
          rw [decide_eq_true h] at c6
          cases c6
        refine ⟨_, rfl, .inl ⟨rfl, _, SqL.of hf6⟩, _, rfl, f, acc5, _, rfl, rfl, hf6, szl (by rw [hacc6.len]; omega), ?_⟩
        have tk7 : Tk H6 (upd H6 f (.lst (acc5 ++ [rv]))) := tk_lst (fun _ _ h => h) hf6
        refine ⟨fun b o hb h => ?_, ⟨_, yss5 ++ [viewOf cc pt], upd_same, (hacc6.imp fun v x q => q.tk tk7).snoc (hrv.tk tk7), ?_, ?_, fun y => ?_⟩, _, _, _, _, _, _, rfl⟩
        · rw [upd_ne hb]
          exact s6 _ _ (b5 _ _ hb h)
        · rw [List.nodup_append]
          refine ⟨ynd5, by simp, fun a ha b hb e => ?_⟩
          have : b = viewOf cc pt := by simpa using hb
          rw [e, this] at ha
          exact c7 ha
        · rw [List.length_append]
          show _ + 1 ≤ _
          omega
        · rw [List.mem_append, ymem5, take_snoc hcc]
          constructor
          · rintro ((h | ⟨k, hk, e⟩) | h)
            · exact .inl h
            · exact .inr ⟨k, List.mem_append_left _ hk, e⟩
            · exact .inr ⟨cc, List.mem_append_right _ (by simp), (by simpa using h : y = viewOf cc pt).symm⟩
          · rintro (h | ⟨k, hk, e⟩)
            · exact .inl (.inl h)
            · rcases List.mem_append.mp hk with h | h
              · exact .inl (.inr ⟨k, h, e⟩)
              · have : k = cc := by simpa using h
                rw [this] at e
                exact .inr (by simp [e])
      · have c7 : viewOf cc pt ∈ yss5 := by
          by_cases h : viewOf cc pt ∈ yss5
          · exact h
          · rw [decide_eq_false h] at c6
            exact absurd rfl c6
        refine ⟨fun b o hb h => s6 _ _ (b5 _ _ hb h), ⟨acc5, yss5, hf6, hacc6, ynd5, by omega, fun y => ?_⟩, _, _, _, _, _, _, rfl⟩
        rw [ymem5, take_snoc hcc]
        constructor
        · rintro (h | ⟨k, hk, e⟩)
          · exact .inl h
          · exact .inr ⟨k, List.mem_append_left _ hk, e⟩
        · rintro (h | ⟨k, hk, e⟩)
          · exact .inl h
          · rcases List.mem_append.mp hk with h | h
            · exact .inr ⟨k, h, e⟩
            · have : k = cc := by simpa using h
              rw [this] at e
              rw [← e]
              exact (ymem5 _).mp c7
    · rintro σ H5 ⟨b5, ⟨acc5, yss5, hf5, hacc5, ynd5, ylen5, ymem5⟩, z3, z4, z5, z6, z9, z10, rfl⟩
      rw [hcs.len] at ylen5
      rw [hcs.len, List.take_length] at ymem5
      refine ⟨fun b o hb h => b5 _ _ hb (s4 _ _ (b3 _ _ hb h)), ⟨acc5, yss5, hf5, hacc5, ynd5, by omega, fun y => ?_⟩, _, _, _, _, _, _, _, rfl⟩
      rw [ymem5, take_snoc hpt]
      constructor
      · rintro (⟨k, hk, e⟩ | ⟨k, hk, e⟩)
        · exact ⟨k, List.mem_append_left _ hk, e⟩
        · exact ⟨pt, List.mem_append_right _ (by simp), by rw [← e]; exact viewOf_mem hk⟩
      · rintro ⟨k, hk, e⟩
        rcases List.mem_append.mp hk with h | h
        · exact .inl ⟨k, h, e⟩
        · have ek : k = pt := by simpa using h
          rw [ek] at e
          obtain ⟨cc, h1, h2⟩ := mem_views_ex hz e
          exact .inr ⟨cc, h1, h2⟩
  rintro σ H3 ⟨b3, ⟨acc, yss, hf3, hacc, ynd, ylen, ymem⟩, z2, z3, z4, z5, z6, z9, z10, rfl⟩
  rw [hfv.len, List.take_length] at ymem
  rw [hfv.len] at ylen
  have ylen : yss.length ≤ 256 := by omega
  have hh3 := hh2.but frf b3
  have mvH3 : ∀ b o, b ≠ p → b ≠ g → H b = some o → H3 b = some o := fun b o h1 h2 h => b3 b o (ne_of_none h nf) (mvH2 b o h1 h2 h)
  have hd3 := b3 _ _ df hd2
  have hva3 : H3 va = some (.tup ((isz sz).map V.int)) := (b3.tk hf2) _ _ hva2
  have vpat : ∀ y ∈ yss, ∃ pt, isPat sz.length pt ∧ y ∈ views sz pt := fun y hy => by
    obtain ⟨pt, h1, h2⟩ := (ymem y).mp hy
    exact ⟨pt, hpat pt h1, h2⟩
  have vlen : ∀ y ∈ yss, y.length = sz.length := fun y hy => by
    obtain ⟨pt, h1, h2⟩ := (ymem y).mp hy
    exact (mem_views.mp h2).1
  have vge : ∀ y ∈ yss, ∀ (k : Nat) (n : Int), y[k]? = some n → -1 ≤ n := fun y hy k n hn => by
    obtain ⟨pt, h1, h2⟩ := (ymem y).mp hy
    obtain ⟨e1, e2⟩ := mem_views.mp h2
    have hk : k < sz.length := by
      have := (List.getElem?_eq_some_iff.mp hn).1
      omega
    have := e2 k n _ hn (List.getElem?_eq_getElem hk)
    split at this <;> omega
  have yne : yss ≠ [] := by
    obtain ⟨pt, hpt⟩ := List.exists_mem_of_ne_nil fam hne
    have h1 : (contents sz) ≠ [] := by
      intro e
      have := contents_len (sz := sz)
      rw [e] at this
      have h2 : ∀ l : List Nat, (∀ n ∈ l, 2 ≤ n ∧ n ≤ 4) → ∀ a, 0 < a → 0 < l.foldl (· * ·) a := by
        intro l
        induction l with
        | nil => intro _ a h; exact h
        | cons x l ih =>
          intro h a ha
          have hx := h x List.mem_cons_self
          exact ih (fun n hn => h n (List.mem_cons_of_mem _ hn)) _ (Nat.mul_pos ha (by omega))
      have := h2 sz hz.b 1 (by decide)
      simp at *
      omega
    obtain ⟨cc, hcc⟩ := List.exists_mem_of_ne_nil _ h1
    intro e
    have := (ymem (viewOf cc pt)).mpr ⟨pt, hpt, viewOf_mem hcc⟩
    rw [e] at this
    cases this
  have ypos : 0 < yss.length := List.length_pos_iff.mpr yne
  have alen := hacc.len
  -- rare
  refine ⟨_, rfl, _, rfl, _, _, rfl, .inl (SqL.of hf3), (by show 4 ≤ sizeLine; decide), fun l nl => ?_⟩
  have sl := sm_up (o := .lst [V.int 2, V.int 2, V.int 4, V.int (acc.length : Int)]) nl
  refine ⟨p, g, q, l, _, rfl, hh3.sm sl, upd_same, (hh3.fre nl).g, (by show 0 < 4; decide), (by show 4 ≤ 100000; decide), fun x H4 mv4 hh4 hx => ?_⟩
  have hx' : ∃ k : Int, 1 ≤ k ∧ k ≤ 256 ∧ x = .int k := by
    simp only [List.mem_cons, List.not_mem_nil, or_false] at hx
    rcases hx with h | h | h | h
    · exact ⟨2, by decide, by decide, h⟩
    · exact ⟨2, by decide, by decide, h⟩
    · exact ⟨4, by decide, by decide, h⟩
    · exact ⟨_, by omega, by omega, h⟩
  obtain ⟨rare, r1, r2, rfl⟩ := hx'
  have mv34 : Mv p g H3 H4 := (Mv.of sl).trans mv4
  have mvH4 : ∀ b o, b ≠ p → b ≠ g → H b = some o → H4 b = some o := fun b o h1 h2 h => mv34 b o h1 h2 (mvH3 b o h1 h2 h)
  have tk34 := hh3.tk mv34
  have hf4 := mv34.fr frf hf3
  have hd4 := mv34.fr frd hd3
  have hacc4 : P2 (TIn H4) acc yss := hacc.imp fun v x q => q.tk tk34
  have fd : f ≠ d := fun e => df e.symm
  refine ⟨_, rfl, f, rfl, ⟨_, SqL.of hf4⟩, for_list (K := K) (a := f) (xs := acc) (fun i σ H5 => MvD p g d H4 H5 ∧ Hand p g q H5 ∧ (∃ ws, H5 d = some (.dT (kvW ws)) ∧ (ws.map (·.1)).Nodup ∧ (∀ y ∈ ws.map (·.1), y ∈ yss.take i) ∧ (∀ w ∈ ws, 1 ≤ w.2 ∧ w.2 ≤ 1000) ∧ ws.length ≤ i) ∧ ∃ z2 z4 z5 z6 z9 z10 : Option V, σ = [some (.ref p), some (.ref va), z2, some (.int rare), z4, z5, z6, some (.ref f), some (.ref d), z9, z10]) ?_ ?_ ?_ ?_⟩
  · exact ⟨fun b o _ _ _ h => h, hh4, ⟨[], hd4, List.nodup_nil, fun y hy => by simp at hy, fun w hw => by simp at hw, Nat.le_refl _⟩, _, _, _, _, _, _, rfl⟩
  · rintro i σ H5 _ ⟨m5, _⟩
    exact SqL.of (m5 _ _ frf.p frf.g fd hf4)
  · rintro i x σ H5 hi ⟨m5, hh5, ⟨ws, hd5, wnd, wsub, wv, wlen⟩, z2, z4, z5, z6, z9, z10, rfl⟩
    obtain ⟨y, hy, hxy⟩ := hacc4.at_ hi
    have il : i < 256 := by
      have := (List.getElem?_eq_some_iff.mp hy).1
      omega
    refine ⟨_, rfl, _, rfl, p, g, q, rare, rfl, hh5, by omega, by omega, fun n H6 mv6 hh6 _ _ => ⟨rfl, _, rfl, ?_⟩⟩
    have hd6 := mv6.fr frd hd5
    have wsub' : ∀ y ∈ ws.map (·.1), y ∈ yss.take (i + 1) := fun y' h => by
      rw [take_snoc hy]
      exact List.mem_append_left _ (wsub y' h)
    refine ite2 (fun c6 => ?_) (fun c6 => ?_)
    · refine ⟨_, rfl, p, g, q, rfl, hh6, fun n7 H7 mv7 hh7 n1 n2 => ?_⟩
      have hd7 := mv7.fr frd hd6
      have m7 := (m5.mv mv6).mv mv7
      obtain ⟨ya, rfl, hya⟩ := hxy.tk (MvD.tk hh4 hd4 m7)
      have ynew : y ∉ ws.map (·.1) := fun h => by
        have h1 := wsub y h
        have h2 := ynd
        rw [← List.take_append_drop (i + 1) yss, take_snoc hy, List.nodup_append, List.nodup_append] at h2
        exact h2.1.2.2 y h1 y (by simp) rfl
      have hput := DPut.t (k := y.map Sum.inl) (v := .int n7) hd7 (b := ya) (by rw [kv_inl]; exact hya) (by
        rw [kvW, List.length_map]
        exact szl (by omega))
      rw [kvW_put ynew] at hput
      refine ⟨_, rfl, _, rfl, d, _, rfl, hput, m7.put, hh7.up frd, ⟨ws ++ [(y, n7)], upd_same, ?_, ?_, ?_, ?_⟩, _, _, _, _, _, _, rfl⟩
      · rw [List.map_append, List.nodup_append]
        refine ⟨wnd, by simp, fun a ha b hb e => ?_⟩
        have : b = y := by simpa using hb
        rw [e, this] at ha
        exact ynew ha
      · intro y' h
        rw [List.map_append] at h
        rcases List.mem_append.mp h with h | h
        · exact wsub' y' h
        · have : y' = y := by simpa using h
          rw [this, take_snoc hy]
          exact List.mem_append_right _ (by simp)
      · intro w hw
        rcases List.mem_append.mp hw with h | h
        · exact wv w h
        · have : w = (y, n7) := by simpa using h
          rw [this]
          exact ⟨n1, n2⟩
      · rw [List.length_append]
        show _ + 1 ≤ _
        omega
    · exact ⟨m5.mv mv6, hh6, ⟨ws, hd6, wnd, wsub', wv, by omega⟩, _, _, _, _, _, _, rfl⟩
  rintro σ H5 ⟨m5, hh5, ⟨ws, hd5, wnd, wsub, wv, wlen⟩, z2, z4, z5, z6, z9, z10, rfl⟩
  rw [alen, List.take_length] at wsub
  have hf5 := m5 _ _ frf.p frf.g fd hf4
  refine ⟨_, rfl, _, _, rfl, hd5, rfl, _, rfl, ?_⟩
  refine thenVia (fun σ' H6 => MvD p g d H4 H6 ∧ Hand p g q H6 ∧ (∃ ws : List (List Int × Int), H6 d = some (.dT (kvW ws)) ∧ (ws.map (·.1)).Nodup ∧ (∀ y ∈ ws.map (·.1), y ∈ yss) ∧ (∀ w ∈ ws, 1 ≤ w.2 ∧ w.2 ≤ 1000) ∧ ws ≠ []) ∧ ∃ z2 z4 z5 z6 z9 z10 : Option V, σ' = [some (.ref p), some (.ref va), z2, some (.int rare), z4, z5, z6, some (.ref f), some (.ref d), z9, z10]) ?_ (fun c5 D' hD' => ?_) (fun c5 => ?_)
  rotate_left
  · refine ⟨_, rfl, _, rfl, _, rfl, p, g, q, f, acc, rfl, hh5, hf5, frf.g, by omega, by omega, fun x H6 mv6 hh6 hx => ?_⟩
    have hd6 := mv6.fr frd hd5
    have e0 : ws = [] := by
      have c6 : V.int ((kvW ws).length : Int) = V.int 0 := of_decide_eq_true c5
      have c7 := V.int.inj c6
      unfold kvW at c7
      rw [List.length_map] at c7
      exact List.length_eq_zero_iff.mp (by omega)
    subst e0
    obtain ⟨j, hj⟩ := List.mem_iff_getElem?.mp hx
    obtain ⟨y, hy, hxy⟩ := hacc4.at_ hj
    have m6 := m5.mv mv6
    obtain ⟨ya, rfl, hya⟩ := hxy.tk (MvD.tk hh4 hd4 m6)
    have hput := DPut.t (k := y.map Sum.inl) (v := .int 1) hd6 (b := ya) (by rw [kv_inl]; exact hya) (by show 0 < sizeLine; decide)
    rw [kvW_put (ws := []) (by simp)] at hput
    refine ⟨d, _, rfl, hput, hD' _ _ ⟨m6.put, hh6.up frd, ⟨[] ++ [(y, 1)], upd_same, by simp, fun y' h => ?_, fun w hw => ?_, by simp⟩, _, _, _, _, _, _, rfl⟩⟩
    · have : y' = y := by simpa using h
      rw [this]
      exact List.mem_of_getElem? hy
    · have : w = (y, 1) := by simpa using hw
      rw [this]
      show (1 : Int) ≤ 1 ∧ (1 : Int) ≤ 1000
      decide
  · refine ⟨m5, hh5, ⟨ws, hd5, wnd, wsub, wv, fun e => c5 ?_⟩, _, _, _, _, _, _, rfl⟩
    subst e
    rfl
  clear hd5 wnd wsub wv wlen hh5 m5 hf5
  clear ws
  rintro σ' H6 ⟨m6, hh6, ⟨ws, hd6, wnd, wsub, wv, wne⟩, y2, y4, y5, y6, y9, y10, rfl⟩
  have PO := part_ok hpat ymem ynd ylen wnd wsub wv wne
  have tk46 := MvD.tk hh4 hd4 m6
  have hf6 := m6 _ _ frf.p frf.g fd hf4
  have hacc6 : P2 (TIn H6) acc yss := hacc4.imp fun v x q => q.tk tk46
  have wl := PO.W.len
  have wyl : ∀ w ∈ ws, w.1 ∈ yss := fun w hw => wsub _ (List.mem_map.mpr ⟨w, hw, rfl⟩)
  refine ⟨d, _, hd6, trivial, fun od => ⟨_, rfl, d, od, rfl, .inr ⟨_, upd_same, fun D nD => ?_⟩⟩⟩
  refine lcI (walk_keyT (kvs := kvW ws)) nD TIn (fun i => (ws.take i).map fun w => patOf w.1) rfl (fun H' s => s _ _ upd_same) ?_ ?_
  · rintro i x H7' H7 hi L ⟨rfl, k, v, qa, hkv, rfl, hq⟩
    have hwi : (kvW ws)[i]? = (ws[i]?).map fun w => (w.1.map Sum.inl, .int w.2) := List.getElem?_map ..
    rw [hwi] at hkv
    obtain ⟨w, hw, e⟩ := Option.map_eq_some_iff.mp hkv
    cases e
    rw [kv_inl] at hq
    have wm := wyl w (List.mem_of_getElem? hw)
    have wl4 := vlen _ wm
    have yS : SqT K H7 qa (w.1.map V.int) := SqT.of hq
    have hlen : Int.toNat ((w.1.map V.int).length : Int) = w.1.length := by rw [List.length_map]; omega
    refine ⟨rfl, yesI ?_⟩
    refine ⟨_, rfl, _, _, rfl, .inr yS, _, rfl, by omega, by rw [List.length_map]; omega, fun D2 nD2 => ?_⟩
    refine lcI (walk_range0 (n := Int.toNat ((w.1.map V.int).length : Int))) nD2 (fun _ v n => v = V.int n) (fun i => patOf (w.1.take i)) rfl (fun H' s => trivial) ?_ ?_
    · rintro j _ _ H8 hj L2' ⟨rfl, rfl⟩
      rw [hlen] at hj
      obtain ⟨n, hn⟩ : ∃ n, w.1[j]? = some n := ⟨_, List.getElem?_eq_getElem hj⟩
      have e1 : (w.1.map V.int)[j]? = some (.int n) := by rw [List.getElem?_map, hn]; rfl
      have e := patOf_take hn
      have nge := vge _ wm j n hn
      refine ⟨rfl, _, rfl, _, rfl, qa, _, _, _, rfl, rfl, SqT.of (L2'.sm _ _ hq), at_of rfl e1, _, _, rfl, rfl, _, rfl, ite2 (fun c => ?_) (fun c => ?_)⟩
      · have c' : 0 ≤ n := of_decide_eq_true c
        rw [if_pos (by omega)] at e
        refine ⟨_, rfl, L2'.push OfT.con.kept nD2 (Same.refl _) (x := (j : Int)) rfl e ?_⟩
        have := patOf_le (c := w.1.take j)
        rw [List.length_take] at this
        omega
      · have c' : ¬ 0 ≤ n := fun z => c (decide_eq_true z)
        rw [if_neg (by omega), List.append_nil] at e
        exact L2'.skip OfT.con.kept (Same.refl _) e
    · intro H8 ys s8 hD2 hys
      rw [hlen, List.take_of_length_le (Nat.le_refl _)] at hys
      have eys := P2.intsEq hys
      subst eys
      refine ⟨D2, _, rfl, .inl ⟨SqL.of hD2, fun l nl => ?_⟩⟩
      refine L.push OfT.tin.kept nD (s8.trans (sm_up nl)) (x := patOf w.1) ⟨l, rfl, upd_same⟩ ?_ ?_
      · rw [take_snoc hw, List.map_append]
        rfl
      · rw [List.length_map, List.length_take]
        omega
  intro H7 ps s7 hD hps
  have e0 : (kvW ws).length = ws.length := List.length_map _
  rw [e0, List.take_length] at hps
  have hfz : H7 d = some (.frz od (.dT (kvW ws))) := s7 _ _ upd_same
  have sl7 := sm_lock hd6 s7
  have Dd : D ≠ d := by
    intro e
    rw [e, upd_same] at nD
    cases nD
  refine ⟨hfz, ?_⟩
  have hD8 : upd H7 d (.dT (kvW ws)) D = some (.lst ps) := by
    rw [upd_ne Dd]
    exact hD
  have hps8 : P2 (TIn (upd H7 d (.dT (kvW ws)))) ps (ws.map fun w => patOf w.1) := hps.imp fun v x q => q.tk (fun b xs h => by
    rw [upd_ne]
    · exact h
    · intro e
      rw [e, hfz] at h
      cases h)
  generalize upd H7 d (.dT (kvW ws)) = H8 at sl7 hD8 hps8
  intro ev nev
  have s69 : Same H6 (upd H8 ev (.dT [])) := sm_new sl7 nev
  have hf9 := s69 _ _ hf6
  have hd9 := s69 _ _ hd6
  have hh9 := hh6.sm s69
  have hacc9 : P2 (TIn (upd H8 ev (.dT []))) acc yss := hacc6.imp fun v x q => q.tk (sm_tk s69)
  have hD9 : upd H8 ev (.dT []) D = some (.lst ps) := up_at hD8 nev
  have hps9 : P2 (TIn (upd H8 ev (.dT []))) ps (ws.map fun w => patOf w.1) := hps8.imp fun v x q => q.tk (sm_tk (sm_up nev))
  have he9 : upd H8 ev (.dT []) ev = some (.dT []) := upd_same
  have fre : Fre p g q ev := hh6.fre (sl7.free nev)
  have fev : f ≠ ev := by
    intro e
    rw [e] at hf9
    rw [he9] at hf9
    cases hf9
  have dev : d ≠ ev := by
    intro e
    rw [← e] at nev
    rw [sl7 _ _ hd6] at nev
    cases nev
  have Dev : D ≠ ev := by
    intro e
    rw [← e, hD8] at nev
    cases nev
  generalize upd H8 ev (.dT []) = H9 at s69 hf9 hd9 hh9 hacc9 hD9 hps9 he9
  refine ⟨_, rfl, f, rfl, ⟨_, SqL.of hf9⟩, for_list (K := K) (a := f) (xs := acc) (fun i σ H10 => But ev H9 H10 ∧ H10 ev = some (.dT (kvW (evr ws (yss.take i)))) ∧ ∃ z2 z4 z9 z10 : Option V, σ = [some (.ref p), some (.ref va), z2, some (.int rare), z4, some (.ref D), some (.ref ev), some (.ref f), some (.ref d), z9, z10]) ?_ ?_ ?_ ?_⟩
  · exact ⟨But.of (Same.refl _), he9, _, _, _, _, rfl⟩
  · rintro i σ H10 _ ⟨b10, _⟩
    exact SqL.of (b10 _ _ fev hf9)
  · rintro i x σ H10 hi ⟨b10, he10, z2, z4, z9, z10, rfl⟩
    have tk10 := b10.tkD he9
    obtain ⟨y, hy, hxy⟩ := hacc9.at_ hi
    obtain ⟨ya, rfl, hya⟩ := hxy.tk tk10
    have ym := List.mem_of_getElem? hy
    have yl4 := vlen _ ym
    have yS : SqT K H10 ya (y.map V.int) := SqT.of hya
    have hlen : Int.toNat ((y.map V.int).length : Int) = y.length := by rw [List.length_map]; omega
    refine ⟨_, rfl, _, _, rfl, .inr yS, _, rfl, by omega, by rw [List.length_map]; omega, fun D2 nD2 => ?_⟩
    refine lcI (walk_range0 (n := Int.toNat ((y.map V.int).length : Int))) nD2 (fun _ v n => v = V.int n) (fun i => patOf (y.take i)) rfl (fun H' s => trivial) ?_ ?_
    · rintro j _ _ H11 hj L2' ⟨rfl, rfl⟩
      rw [hlen] at hj
      obtain ⟨n, hn⟩ : ∃ n, y[j]? = some n := ⟨_, List.getElem?_eq_getElem hj⟩
      have e1 : (y.map V.int)[j]? = some (.int n) := by rw [List.getElem?_map, hn]; rfl
      have e := patOf_take hn
      have nge := vge _ ym j n hn
      refine ⟨rfl, _, rfl, _, rfl, ya, _, _, _, rfl, rfl, SqT.of (L2'.sm _ _ hya), at_of rfl e1, _, _, rfl, rfl, _, rfl, ite2 (fun c => ?_) (fun c => ?_)⟩
      · have c' : 0 ≤ n := of_decide_eq_true c
        rw [if_pos (by omega)] at e
        refine ⟨_, rfl, L2'.push OfT.con.kept nD2 (Same.refl _) (x := (j : Int)) rfl e ?_⟩
        have := patOf_le (c := y.take j)
        rw [List.length_take] at this
        omega
      · have c' : ¬ 0 ≤ n := fun z => c (decide_eq_true z)
        rw [if_neg (by omega), List.append_nil] at e
        exact L2'.skip OfT.con.kept (Same.refl _) e
    · intro H11 ys s11 hD2 hys
      rw [hlen, List.take_of_length_le (Nat.le_refl _)] at hys
      have eys := P2.intsEq hys
      subst eys
      refine ⟨D2, _, rfl, .inl ⟨SqL.of hD2, fun l nl => ?_⟩⟩
      have s12 := s11.trans (sm_up (o := .tup ((patOf y).map V.int)) nl)
      have hl12 : TIn (upd H11 l (.tup ((patOf y).map V.int))) (.ref l) (patOf y) := ⟨l, rfl, upd_same⟩
      generalize upd H11 l (.tup ((patOf y).map V.int)) = H12 at s12 hl12
      have tk12 : Tk H9 H12 := tk10.trans (sm_tk s12)
      have hD12 := s12 _ _ (b10 _ _ Dev hD9)
      have hd12 := s12 _ _ (b10 _ _ dev hd9)
      have he12 := s12 _ _ he10
      have hya12 := s12 _ _ hya
      have hget : DGet H12 d (.ref ya) (valV (kvW ws) (y.map Sum.inl)) := DGet.t hd12 (by rw [kv_inl]; exact hya12)
      have hps12 : P2 (TIn H12) ps (ws.map fun w => patOf w.1) := hps9.imp fun v x q => q.tk tk12
      have b12 : But ev H9 H12 := fun b o hb h => s12 _ _ (b10 _ _ hb h)
      refine ⟨_, rfl, _, _, hl12.dp, .lst (SqL.of hD12) (dpAllT hps12), shT _, shLT _, _, rfl, ?_⟩
      rw [anyT]
      have eP : decide (patOf y ∈ ws.map fun w => patOf w.1) = evP ws y := by
        unfold evP
        rw [List.map_map]
        rfl
      rw [eP]
      refine ite2 (fun c => ?_) (fun c => ?_)
      · refine ⟨_, rfl, _, rfl, d, _, rfl, hget, _, rfl, ?_⟩
        rw [dT_some (kvW_keys ws)]
        refine expVia (fun v H' => v = .int (evW ws y) ∧ H' = H12) ?_ (fun c5 k hk => ?_) (fun c5 k hk => ?_)
        rotate_left
        · have c6 : y ∈ ws.map (·.1) := of_decide_eq_true c5
          have hv := wOf_val c6
          rw [hv] at hget
          refine ⟨_, rfl, _, rfl, d, _, rfl, hget, _, _, rfl, rfl, ⟨by decide, by decide, by decide⟩, _, _, rfl, rfl, mulR (by decide), hk _ _ ⟨?_, rfl⟩⟩
          unfold evW
          rw [if_pos c6]
          rfl
        · have c6 : y ∉ ws.map (·.1) := fun z => c5 (decide_eq_true z)
          refine hk _ _ ⟨?_, rfl⟩
          unfold evW
          rw [if_neg c6]
        rintro v H' ⟨rfl, rfl⟩
        have ynew : y ∉ yss.take i := fun h1 => by
          have h2 := ynd
          rw [← List.take_append_drop (i + 1) yss, take_snoc hy, List.nodup_append, List.nodup_append] at h2
          exact h2.1.2.2 y h1 y (by simp) rfl
        have elen : (evr ws (yss.take i)).length ≤ 256 := by
          unfold evr
          rw [List.length_map]
          refine Nat.le_trans (List.length_filter_le _ _) ?_
          rw [List.length_take]
          omega
        have hput := DPut.t (k := y.map Sum.inl) (v := .int (evW ws y)) he12 (b := ya) (by rw [kv_inl]; exact hya12) (by
          rw [kvW, List.length_map]
          exact szl (by omega))
        rw [kvW_put (evr_new ynew)] at hput
        refine ⟨_, rfl, _, rfl, ev, _, rfl, hput, fun b o hb h => ?_, ?_, _, _, _, _, rfl⟩
        · rw [upd_ne hb]
          exact b12 b o hb h
        · rw [upd_same, take_snoc hy, evr_snoc, if_pos c]
      · refine ⟨b12, ?_, _, _, _, _, rfl⟩
        rw [take_snoc hy, evr_snoc, if_neg c, List.append_nil]
        exact he12
  rintro σ H10 ⟨b10, he10, z2, z4, z9, z10, rfl⟩
  rw [alen, List.take_length] at he10
  have hd10 := b10 _ _ dev hd9
  have hh10 := hh9.but fre b10
  refine ⟨_, rfl, _, rfl, (by show 2 ≤ sizeLine; decide), fun rr nrr => ?_⟩
  have sr := sm_up (o := .tup [V.ref d, .ref ev]) nrr
  refine Qk rr d ev _ ws (evr ws yss) (fun b o h1 h2 h => ?_) (hh10.sm sr) upd_same (sr _ _ hd10) (sr _ _ he10) PO
  have hb4 := mvH4 b o h1 h2 h
  have hbd : b ≠ d := ne_of_none h ((sm_up nf).free nd0)
  have hb9 := s69 _ _ (m6 b o h1 h2 hbd hb4)
  have hbe : b ≠ ev := ne_of_none (sl7 _ _ (m6 b o h1 h2 hbd hb4)) nev
  exact sr _ _ (b10 _ _ hbe hb9)

end
end Cb
namespace Cb
open PySem PySem.Spec PyProof.Rows L2
section
variable {P : Program} {w : World} {K : PySem.W.Frag} {mg : Str → Option Value} {base : Heap}
/-! ### law -/
theorem BndAt.sm {H H' : Hp} {r : V} : ∀ {o : Option (List Int × List Int)}, BndAt H r o → Same H H' → BndAt H' r o
  | none, h, _ => h
  | some p, h, e => by
    obtain ⟨a, x, y, h1, h2, h3, h4⟩ := h
    exact ⟨a, x, y, h1, e _ _ h2, h3.tk (sm_tk e), h4.tk (sm_tk e)⟩
/-- the bounds as data -/
def dB : Option (List Int × List Int) → PyData
  | none => .none
  | some p => .tuple [.tuple (p.1.map PyData.int), .tuple (p.2.map PyData.int)]
theorem BndAt.dp {K : PySem.W.Frag} {H : Hp} {r : V} : ∀ {o : Option (List Int × List Int)}, BndAt H r o → Dp K H r (dB o)
  | none, h => by
    have e : r = .non := h
    rw [e]
    exact .non
  | some p, h => by
    obtain ⟨a, x, y, rfl, h2, h3, h4⟩ := h
    exact .tup (SqT.of h2) (.cons h3.dp (.cons h4.dp .nil))
theorem shB : ∀ o : Option (List Int × List Int), SeqAt.shaped (dB o) = true
  | none => by decide
  | some p => by
    have h1 := PySem.W.depthAll_ints p.1
    have h2 := PySem.W.depthAll_ints p.2
    have h3 : PyData.depth (dB (some p)) ≤ 64 := by
      simp only [dB, PyData.depth, PyData.depthAll]
      omega
    show (PyData.canLay0 (dB (some p)) && decide (PyData.depth (dB (some p)) ≤ 64)) = true
    rw [Bool.and_eq_true]
    refine ⟨?_, decide_eq_true h3⟩
    simp only [dB, PyData.canLay0, PyData.canLayAll0, PySem.W.canLayAll0_ints, Bool.and_self]
theorem eqvB : ∀ o : Option (List Int × List Int), PyData.eqv (dB o) (dB o) = true
  | none => by simp only [dB, PyData.eqv]
  | some p => by
    have h1 := eqvT p.1 p.1
    have h2 := eqvT p.2 p.2
    rw [decide_eq_true rfl] at h1 h2
    show PyData.eqvAll _ _ = true
    simp only [PyData.eqvAll, h1, h2, Bool.and_self]
theorem extN_tk {H H' : Hp} (e : LamX.ExtN H H') : Tk H H' := fun b xs h => e b _ h (fun ps z => nomatch z)
theorem Hand.ext {p g q : Addr} {H H' : Hp} (h : Hand p g q H) (e : LamX.ExtN H H') : Hand p g q H' := by
  obtain ⟨big, small, sm, tn, h1, h2, h3, h4⟩ := h.ex
  exact ⟨big, small, sm, tn, e _ _ h1 (fun ps z => nomatch z), e _ _ h2 (fun ps z => nomatch z), e _ _ h3 (fun ps z => nomatch z), h4⟩
/-- what is neither a list nor a dict stays while the hand moves -/
theorem Hand.keep {p g q : Addr} {H H' : Hp} (h : Hand p g q H) (e : Mv p g H H') {b : Addr} {o : HO} (hb : H b = some o) (n1 : ∀ xs, o ≠ .lst xs) (n2 : ∀ kvs, o ≠ .dK kvs) : H' b = some o := by
  obtain ⟨big, small, sm, tn, h1, h2, h3, h4⟩ := h.ex
  refine e b o (fun z => ?_) (fun z => ?_) hb
  · rw [z, h1] at hb
    exact n2 _ (Option.some.inj hb).symm
  · rw [z, h2] at hb
    exact n1 _ (Option.some.inj hb).symm
theorem Hand.tabs {p g q : Addr} {H H' : Hp} {T : List (Addr × Str)} (h : Hand p g q H) (e : Mv p g H H') (t : LamX.Tabs T H) : LamX.Tabs T H' := fun x hx => by
  obtain ⟨ps, h1, h2, h3⟩ := t x hx
  refine ⟨ps, h.keep e h1 (fun _ z => nomatch z) (fun _ z => nomatch z), h2, fun pos cv hc => ?_⟩
  obtain ⟨c, ec, hcc⟩ := h3 pos cv hc
  exact ⟨c, ec, h.keep e hcc (fun _ z => nomatch z) (fun _ z => nomatch z)⟩
theorem SeenAt.kp {K : PySem.W.Frag} {H H' : Hp} {a : Addr} {sz : List Nat} {rs : List (List Int × Int)} {t : Int} (h : SeenAt K H a sz rs t) (e : ∀ b o, H b = some o → (∀ xs, o ≠ .lst xs) → (∀ kvs, o ≠ .dK kvs) → (∀ ps, o ≠ .tbl ps) → H' b = some o) : SeenAt K H' a sz rs t := by
  obtain ⟨dx, sa, v, xs, h1, h2, h3, h4⟩ := h.ex
  have tk : Tk H H' := fun b xs q => e b _ q (fun _ z => nomatch z) (fun _ z => nomatch z) (fun _ z => nomatch z)
  obtain ⟨od, o1, o2, o3⟩ := h3
  exact ⟨dx, sa, v, xs, e _ _ h1 (fun _ z => nomatch z) (fun _ z => nomatch z) (fun _ z => nomatch z), h2.tk tk, ⟨od, o1, o2, e _ _ o3 (fun _ z => nomatch z) (fun _ z => nomatch z) (fun _ z => nomatch z)⟩, h4.imp fun x r ⟨p, y, z, e1, e2, e3, e4⟩ => ⟨p, y, z, e1, tk _ _ e2, e3.tk tk, e4.tk tk⟩⟩
theorem andVia {b : Bool} {t : TT} {σ : L2.St} {H : Hp} {Q : Bool → Hp → Prop} (A : Bool → Hp → Prop) (h : ∀ c H', A c H' → Q c H') (h1 : b = true → ∀ Q : Bool → Hp → Prop, (∀ c H', A c H' → Q c H') → t σ H Q) (h2 : ¬ b = true → A false H) : if b = true then t σ H Q else Q false H := by
  by_cases c : b = true
  · rw [if_pos c]
    exact h1 c Q h
  · rw [if_neg c]
    exact h _ _ (h2 c)
/-- values that are sizes -/
def Szs (H : Hp) (vs : List V) : Prop := ∀ x ∈ vs, ∃ sz, Sz sz ∧ TIn H x (isz sz)
theorem Szs.snoc {H : Hp} {vs : List V} {t : Addr} (h : Szs H vs) (n : H t = none) {sz : List Nat} (hz : Sz sz) : Szs (upd H t (.tup ((isz sz).map V.int))) (vs ++ [.ref t]) := fun x hx => by
  rcases List.mem_append.mp hx with m | m
  · obtain ⟨s, h1, h2⟩ := h x m
    exact ⟨s, h1, h2.tk (sm_tk (sm_up n))⟩
  · have e : x = .ref t := by simpa using m
    rw [e]
    exact ⟨sz, hz, t, rfl, upd_same⟩
theorem rowsG_of {sz : List Nat} {ws rs : List (List Int × Int)} (W : WtsOk ws) (vw : ∀ w ∈ ws, ∃ p, isPat sz.length p ∧ w.1 ∈ views sz p) (pm : rs.Perm ws) (asc : rs.Pairwise fun r s => HT.lexLt r.1 s.1 = true) : RowsG sz rs (ws.map (·.2)).sum := by
  refine ⟨fun r hr => W.pos r (pm.mem_iff.mp hr), perm_sum (pm.map _), W.tot, W.top, fun r hr => ?_, fun r hr i x n hx hn => ?_, asc, ?_⟩
  · obtain ⟨p, h1, h2⟩ := vw r (pm.mem_iff.mp hr)
    exact (mem_views.mp h2).1
  · obtain ⟨p, h1, h2⟩ := vw r (pm.mem_iff.mp hr)
    have h3 := (mem_views.mp h2).2 i x n hx hn
    split at h3
    · omega
    · omega
  · rw [pm.length_eq]
    have := W.len
    omega
theorem rowsOk_of {sz : List Nat} {ws rs : List (List Int × Int)} (W : WtsOk ws) (vw : ∀ w ∈ ws, ∃ p, isPat sz.length p ∧ w.1 ∈ views sz p) (pm : rs.Perm ws) : RowsOk sz rs (ws.map (·.2)).sum := by
  refine ⟨fun r hr => W.pos r (pm.mem_iff.mp hr), perm_sum (pm.map _), W.top, fun r hr => vw r (pm.mem_iff.mp hr), ?_⟩
  rw [pm.length_eq]
  have := W.len
  omega
theorem rowsK_of {sz : List Nat} {ws rs : List (List Int × Int)} (hz : Sz sz) (W : WtsOk ws) (vw : ∀ w ∈ ws, ∃ p, isPat sz.length p ∧ w.1 ∈ views sz p) (pm : rs.Perm ws) : RowsK sz rs := by
  refine ⟨hz, (pm.map _).nodup_iff.mpr W.nd, by rw [pm.length_eq]; exact W.len, fun r hr => ?_⟩
  obtain ⟨p, h1, h2⟩ := vw r (pm.mem_iff.mp hr)
  exact (mem_views.mp h2).1
theorem full_perm {sz : List Nat} {ks ls : List (List Int)} (pm : ks.Perm ls) : Full sz ks ↔ Full sz ls := by
  constructor
  · intro h k hk v hv
    exact pm.mem_iff.mp (h k (pm.mem_iff.mpr hk) v hv)
  · intro h k hk v hv
    exact pm.mem_iff.mpr (h k (pm.mem_iff.mp hk) v hv)
/-- near, as is_near asks -/
theorem NearQ.ok {x y : List Int} (h : NearQ x y) : ∃ a b c d : Int, x = [a, b] ∧ y = [c, d] ∧ FrB a b ∧ FrB c d ∧ ((a * d - c * b).natAbs : Int) * 1000 ≤ b * d := by
  obtain ⟨M, T, m, k, rfl, rfl, t0, m0, mt, h1, h2, h3, h4⟩ := h.ex
  exact ⟨_, _, _, _, lw_eq _ _, lw_eq _ _, frB_lw (by omega) (by omega) (by omega) (by omega), frB_lw m0 (by omega) t0 (by omega), near_lw t0 m0 mt h1 h2 h3⟩
def spLaw (K : PySem.W.Frag) : Sp := fun vs H Q _ => ∃ (a : Addr) (ns : List Int), vs = [.ref a] ∧ SqL K H a (ns.map V.int) ∧ LamX.Tabs [(He.tabOf K (He.codeOf K dSeen), qSeen)] H ∧ ∀ H', Q (.bl true) H'
abbrev N_law : List Str := ["_law_script", "_law_hand_here", "_law_sizes", "_law_turn", "_law_some", "_law_every", "_law_seen", "_law_whole", "_law_question_here", "_law_rows_here", "_law_due", "_law_told", "_law_near"]
theorem sc_law : FnScope N_law ["_law_script"] (defScope s_law) := ⟨rfl, rfl, rfl, by decide +kernel, rfl, by decide +kernel, by decide +kernel⟩
theorem ok_law (T : Txt w K mg) (TB : LamX.TabB base mg (He.codeOf K dSeen) (He.tabOf K (He.codeOf K dSeen))) : FnOk P w K mg base CX0 10 (He.ga K "law") (fdA K (He.ga K "law")) ["_law_script"] (spLaw K) := by
  have c_L_hand := cal_L_hand (P := P) (base := base) T
  have c_L_any := cal_L_any (P := P) (base := base) T
  have c_L_draw := cal_L_draw (P := P) (base := base) T
  have c_L_partial := cal_L_partial (P := P) (base := base) T
  have c_L_rows := cal_L_rows (P := P) (base := base) T
  have c_is_full := cal_is_full (P := P) (base := base) T
  have c_L_share_question := cal_L_share_question (P := P) (base := base) T
  have c_L_views := cal_L_views (P := P) (base := base) T
  have c_L_bounds := cal_L_bounds (P := P) (base := base) T
  have c_bounds := cal_bounds (P := P) (base := base) T
  have c_L_ends := cal_L_ends (P := P) (base := base) T
  have c_L_is_due := cal_L_is_due (P := P) (base := base) T
  have c_L_is_near := cal_L_is_near (P := P) (base := base) T
  refine fnOk_of T.F_law sc_law (fun vs H Q E h => ?_) (fun cdv A outer s H vs Q E hr h => ?_)
  · obtain ⟨a, ns, rfl, hS, hT, Qk⟩ := h
    rfl
  obtain ⟨a, ns, rfl, hS, hT, Qk⟩ := h
  have nd := sc_law.nd
  have hu := hu_of hr
  refine ⟨_, (pss_cons (ps_set (i := 1) nd rfl (Or.inl rfl) (C8.pe_c c_L_hand hr (by decide) rfl (pa_cons (pv 0) pa_nil)))
    (pss_cons (ps_set (i := 2) nd rfl (Or.inl rfl) (C8.pe_c c_L_any hr (by decide) rfl (pa_cons (pv 1) (pa_cons (pe_lst (pa_cons (pe_tup (pa_cons pe_int pa_nil)) (pa_cons (pe_tup (pa_cons pe_int pa_nil)) (pa_cons (pe_tup (pa_cons pe_int pa_nil)) (pa_cons (pe_tup (pa_cons pe_int (pa_cons pe_int pa_nil))) (pa_cons (pe_tup (pa_cons pe_int (pa_cons pe_int pa_nil))) (pa_cons (pe_tup (pa_cons pe_int (pa_cons pe_int pa_nil))) (pa_cons (pe_tup (pa_cons pe_int (pa_cons pe_int pa_nil))) (pa_cons (pe_tup (pa_cons pe_int (pa_cons pe_int (pa_cons pe_int pa_nil)))) pa_nil))))))))) pa_nil))))
    (pss_cons (ps_set (i := 2) nd rfl (Or.inl rfl) (pe_ifExp (pt_cmpR op_eq (C8.pe_c c_L_draw hr (by decide) rfl (pa_cons (pv 1) (pa_cons pe_int pa_nil))) pe_int (nomark _)) (pe_tup (pa_cons pe_int (pa_cons pe_int (pa_cons pe_int (pa_cons pe_int pa_nil))))) (pv 2)))
    (pss_cons (ps_asg (C8.pe_c c_L_partial hr (by decide) rfl (pa_cons (pv 1) (pa_cons (pv 2) pa_nil))) (pg_tup rfl (pgs_cons (pg_name (i := 4) nd rfl (Or.inl rfl)) (pgs_cons (pg_name (i := 5) nd rfl (Or.inl rfl)) pgs_nil))))
    (pss_cons (ps_par (i := 6) (j := 7) (by rfl) nd rfl rfl (by decide) rfl rfl (pa_cons (C8.pe_mk (mak_Seen T TB) hr (by decide) rfl (pa_cons (pv 2) (pa_cons (C8.pe_c c_L_rows hr (by decide) rfl (pa_cons (pv 4) pa_nil)) pa_nil))) (pa_cons (C8.pe_mk (mak_Seen T TB) hr (by decide) rfl (pa_cons (pv 2) (pa_cons (C8.pe_c c_L_rows hr (by decide) rfl (pa_cons (pv 5) pa_nil)) pa_nil))) pa_nil)) (by rfl))
    (pss_cons (ps_if (PW.pt (pw_or (pt_cmpR op_notBl (C8.pe_c c_is_full hr (by decide) rfl (pa_cons (pv 7) pa_nil)) pe_bl (nomark _)) (pw_or1 (pt_cmpR op_ne (C8.pe_c c_is_full hr (by decide) rfl (pa_cons (pv 6) pa_nil)) (pe_cmpR op_eq (pe_callB call_len_dT (by rfl) T.z_len bt_len (pa_cons (pv 4) pa_nil)) (pe_callB call_len_dT (by rfl) T.z_len bt_len (pa_cons (pv 5) pa_nil)) (nomark _)) (nomark _)))))
    (pss_one (ps_ret pe_bl))
    pss_nil)
    (pss_cons (ps_for PassesOwn.never rfl (pi_range1 (by rfl) T.z_range (pa_cons pe_int pa_nil)) (pg_name (i := 3) nd rfl (Or.inl rfl))
    (pss_cons (ps_set (i := 8) nd rfl (Or.inl rfl) (C8.pe_c c_L_share_question hr (by decide) rfl (pa_cons (pv 1) (pa_cons (pv 2) pa_nil))))
    (pss_cons (ps_set (i := 9) nd rfl (Or.inl rfl) (C8.pe_c c_L_views hr (by decide) rfl (pa_cons (pv 2) (pa_cons (pv 4) (pa_cons (pv 8) pa_nil)))))
    (pss_cons (ps_par (i := 10) (j := 11) (by rfl) nd rfl rfl (by decide) rfl rfl (pa_cons (C8.pe_c c_L_bounds hr (by decide) rfl (pa_cons (pv 9) pa_nil)) (pa_cons (C8.pe_c c_bounds hr (by decide) rfl (pa_cons (pv 6) (pa_cons (pe_ix (r := rIxT K) ix_tup (pv 8) pe_int (fun _ _ => rfl)) pa_nil))) pa_nil)) (by rfl))
    (pss_cons (ps_if (PW.pt (pw_and (pt_cmpR op_lt (pe_callB (r := rLen K) call_len_seq (by rfl) T.z_len bt_len (pa_cons (pv 9) pa_nil)) pe_int (nomark _)) (pw_and1 (pt_cmpR (r := rNeD K) (op_neD hr.units) (C8.pe_c c_L_ends hr (by decide) rfl (pa_cons (pv 9) pa_nil)) (pv 10) (nomark _)))))
    (pss_one (ps_ret pe_bl))
    pss_nil)
    (pss_one (ps_if (pt_cmpR op_isN (pv 10) pe_non (nomark _))
    (pss_one (ps_if (pt_cmpR op_notN (pv 11) pe_non (nomark _))
    (pss_one (ps_ret pe_bl))
    pss_nil))
    (pss_cons (ps_if (PW.pt (pw_or (pt_not (pt_val (pe_callB (r := rIsi K) call_isi (by rfl) T.z_isinstance bt_isinstance (pa_cons (pv 11) (pa_cons (pe_bltn (v := .ty "tuple") (by rfl) T.z_tuple bt_tuple rfl) pa_nil))))) (pw_or1 (pt_cmpR op_ne (pe_callB (r := rLen K) call_len_seq (by rfl) T.z_len bt_len (pa_cons (pv 11) pa_nil)) pe_int (nomark _)))))
    (pss_one (ps_ret pe_bl))
    pss_nil)
    (pss_cons (ps_if (PW.pt (pw_or (pt_not (pt_val (C8.pe_c c_L_is_due hr (by decide) rfl (pa_cons (pe_ix (r := rIxT K) ix_tup (pv 11) pe_int (fun _ _ => rfl)) (pa_cons (pe_ix (r := rIxT K) ix_tup (pv 10) pe_int (fun _ _ => rfl)) pa_nil))))) (pw_or1 (pt_not (pt_val (C8.pe_c c_L_is_due hr (by decide) rfl (pa_cons (pe_ix (r := rIxT K) ix_tup (pv 11) pe_int (fun _ _ => rfl)) (pa_cons (pe_ix (r := rIxT K) ix_tup (pv 10) pe_int (fun _ _ => rfl)) pa_nil))))))))
    (pss_one (ps_ret pe_bl))
    pss_nil)
    (pss_cons (ps_set (i := 12) nd rfl (Or.inl rfl) (C8.pe_c c_bounds hr (by decide) rfl (pa_cons (pv 7) (pa_cons (pe_ix (r := rIxT K) ix_tup (pv 8) pe_int (fun _ _ => rfl)) pa_nil))))
    (pss_one (ps_if (PW.pt (pw_or (pt_cmpR op_isN (pv 12) pe_non (nomark _)) (pw_or (pt_not (pt_val (C8.pe_c c_L_is_near hr (by decide) rfl (pa_cons (pe_ix (r := rIxT K) ix_tup (pv 12) pe_int (fun _ _ => rfl)) (pa_cons (pe_ix (r := rIxT K) ix_tup (pv 10) pe_int (fun _ _ => rfl)) pa_nil))))) (pw_or1 (pt_not (pt_val (C8.pe_c c_L_is_near hr (by decide) rfl (pa_cons (pe_ix (r := rIxT K) ix_tup (pv 12) pe_int (fun _ _ => rfl)) (pa_cons (pe_ix (r := rIxT K) ix_tup (pv 10) pe_int (fun _ _ => rfl)) pa_nil)))))))))
    (pss_one (ps_ret pe_bl))
    pss_nil))))))))))))
    (pss_one (ps_ret pe_bl))))))))), ?_⟩
  refine ⟨_, rfl, a, ns, rfl, hS, fun p g q H1 s1 hh1 => ?_⟩
  have hT1 := hT.ext s1
  -- the sizes
  have g0 : Szs H1 [] := fun x hx => by simp at hx
  refine ⟨_, rfl, (by show 1 ≤ sizeLine; decide), fun t1 n1 => ?_⟩
  have g1 : Szs (upd H1 t1 (.tup [.int 2])) [.ref t1] := g0.snoc n1 (sz := [2]) ⟨by decide, by decide, by decide, by decide⟩
  have q1 := sm_up (o := .tup [.int 2]) n1
  generalize upd H1 t1 (.tup [.int 2]) = G1 at g1 q1
  refine ⟨(by show 1 ≤ sizeLine; decide), fun t2 n2 => ?_⟩
  have g2 : Szs (upd G1 t2 (.tup [.int 3])) [.ref t1, .ref t2] := g1.snoc n2 (sz := [3]) ⟨by decide, by decide, by decide, by decide⟩
  have q2 := sm_new (o := .tup [.int 3]) q1 n2
  generalize upd G1 t2 (.tup [.int 3]) = G2 at g2 q2
  refine ⟨(by show 1 ≤ sizeLine; decide), fun t3 n3 => ?_⟩
  have g3 : Szs (upd G2 t3 (.tup [.int 4])) [.ref t1, .ref t2, .ref t3] := g2.snoc n3 (sz := [4]) ⟨by decide, by decide, by decide, by decide⟩
  have q3 := sm_new (o := .tup [.int 4]) q2 n3
  generalize upd G2 t3 (.tup [.int 4]) = G3 at g3 q3
  refine ⟨(by show 2 ≤ sizeLine; decide), fun t4 n4 => ?_⟩
  have g4 : Szs (upd G3 t4 (.tup [.int 2, .int 2])) [.ref t1, .ref t2, .ref t3, .ref t4] := g3.snoc n4 (sz := [2, 2]) ⟨by decide, by decide, by decide, by decide⟩
  have q4 := sm_new (o := .tup [.int 2, .int 2]) q3 n4
  generalize upd G3 t4 (.tup [.int 2, .int 2]) = G4 at g4 q4
  refine ⟨(by show 2 ≤ sizeLine; decide), fun t5 n5 => ?_⟩
  have g5 : Szs (upd G4 t5 (.tup [.int 2, .int 2])) [.ref t1, .ref t2, .ref t3, .ref t4, .ref t5] := g4.snoc n5 (sz := [2, 2]) ⟨by decide, by decide, by decide, by decide⟩
  have q5 := sm_new (o := .tup [.int 2, .int 2]) q4 n5
  generalize upd G4 t5 (.tup [.int 2, .int 2]) = G5 at g5 q5
  refine ⟨(by show 2 ≤ sizeLine; decide), fun t6 n6 => ?_⟩
  have g6 : Szs (upd G5 t6 (.tup [.int 2, .int 3])) [.ref t1, .ref t2, .ref t3, .ref t4, .ref t5, .ref t6] := g5.snoc n6 (sz := [2, 3]) ⟨by decide, by decide, by decide, by decide⟩
  have q6 := sm_new (o := .tup [.int 2, .int 3]) q5 n6
  generalize upd G5 t6 (.tup [.int 2, .int 3]) = G6 at g6 q6
  refine ⟨(by show 2 ≤ sizeLine; decide), fun t7 n7 => ?_⟩
  have g7 : Szs (upd G6 t7 (.tup [.int 3, .int 3])) [.ref t1, .ref t2, .ref t3, .ref t4, .ref t5, .ref t6, .ref t7] := g6.snoc n7 (sz := [3, 3]) ⟨by decide, by decide, by decide, by decide⟩
  have q7 := sm_new (o := .tup [.int 3, .int 3]) q6 n7
  generalize upd G6 t7 (.tup [.int 3, .int 3]) = G7 at g7 q7
  refine ⟨(by show 3 ≤ sizeLine; decide), fun t8 n8 => ?_⟩
  have g8 : Szs (upd G7 t8 (.tup [.int 2, .int 2, .int 2])) [.ref t1, .ref t2, .ref t3, .ref t4, .ref t5, .ref t6, .ref t7, .ref t8] := g7.snoc n8 (sz := [2, 2, 2]) ⟨by decide, by decide, by decide, by decide⟩
  have q8 := sm_new (o := .tup [.int 2, .int 2, .int 2]) q7 n8
  generalize upd G7 t8 (.tup [.int 2, .int 2, .int 2]) = G8 at g8 q8
  refine ⟨(by show 8 ≤ sizeLine; decide), fun l nl => ?_⟩
  have ql := sm_up (o := .lst [.ref t1, .ref t2, .ref t3, .ref t4, .ref t5, .ref t6, .ref t7, .ref t8]) nl
  have hl : upd G8 l (.lst [.ref t1, .ref t2, .ref t3, .ref t4, .ref t5, .ref t6, .ref t7, .ref t8]) l = some (.lst [.ref t1, .ref t2, .ref t3, .ref t4, .ref t5, .ref t6, .ref t7, .ref t8]) := upd_same
  have fl := (hh1.sm q8).fre nl
  generalize upd G8 l (.lst [.ref t1, .ref t2, .ref t3, .ref t4, .ref t5, .ref t6, .ref t7, .ref t8]) = G9 at ql hl
  have s19 := q8.trans ql
  have hh9 := hh1.sm s19
  refine ⟨p, g, q, l, _, rfl, hh9, hl, fl.g, (by show 0 < 8; decide), (by show 8 ≤ 100000; decide), fun x H2 mv2 hh2 hx => ?_⟩
  obtain ⟨sz0, hz0, hx0⟩ := g8 x hx
  have hx2 := (hx0.tk (sm_tk ql)).tk (hh9.tk mv2)
  have hT2 := hh9.tabs mv2 (hT1.ext s19)
  clear g0 g1 g2 g3 g4 g5 g6 g7 g8 q1 q2 q3 q4 q5 q6 q7 q8 n1 n2 n3 n4 n5 n6 n7 n8 nl
  refine ⟨_, rfl, p, g, q, 24, rfl, hh2, by decide, by decide, fun n H3 mv3 hh3 _ _ => ⟨rfl, _, rfl, ?_⟩⟩
  refine expVia (fun v H4 => Mv p g H3 H4 ∧ Hand p g q H4 ∧ ∃ sz, Sz sz ∧ TIn H4 v (isz sz)) ?_ (fun c k hk => ?_) (fun c k hk => ?_)
  rotate_left
  · exact ⟨(by show 4 ≤ sizeLine; decide), fun e ne => hk _ _ ⟨Mv.of (sm_up ne), hh3.sm (sm_up ne), [2, 2, 2, 2], ⟨by decide, by decide, by decide, by decide⟩, e, rfl, upd_same⟩⟩
  · exact ⟨_, rfl, hk _ _ ⟨Mv.refl _, hh3, sz0, hz0, hx2.tk (hh2.tk mv3)⟩⟩
  rintro v H4 ⟨mv4, hh4, sz, hz, hv⟩
  have hT4 := hh3.tabs mv4 (hh2.tabs mv3 hT2)
  -- the two dicts
  refine ⟨_, rfl, _, rfl, p, g, q, v, sz, rfl, hh4, hv, hz, fun r a1 a2 H5 ws ws2 mv5 hh5 hr h1 h2 PO => ?_⟩
  have hT5 := hh4.tabs mv5 hT4
  have hv5 := hv.tk (hh4.tk mv5)
  refine ⟨r, _, rfl, SqT.of hr, rfl, _, _, rfl, _, _, rfl, rfl, ?_⟩
  -- Seen
  refine ⟨_, rfl, _, rfl, a1, ws, rfl, h1, PO.W, fun p6 H6 xs6 rs s6 hp6 hxs6 pm6 asc6 => ?_⟩
  have G6 := rowsG_of PO.W PO.vw pm6 asc6
  have hv6 := hv5.tk (sm_tk s6)
  refine fun x1 dx1 nx1 ndx1 ne1 => ?_
  have sn1 : Same H6 (upd (upd H6 dx1 (.own x1)) x1 (.ins (He.ga K "Seen") dx1 [])) := sm_new (sm_up ndx1) (by rw [upd_ne ne1.symm]; exact nx1)
  refine ⟨x1, p6, dx1, v, xs6, rs, _, sz, rfl, upd_same, hv6.tk (sm_tk sn1), hz, hp6.sm sn1, hxs6.imp fun _ _ h => h.sm sn1, G6, (hT5.ext s6).ext sn1, fun H7 e7 hT7 hx7 => ⟨rfl, ?_⟩⟩
  have x67 : LamX.ExtN H6 H7 := fun b o hb n => e7 b o (ne_of_none hb nx1) (sn1 b o hb) n
  have x57 : LamX.ExtN H5 H7 := (LamX.ExtN.of s6).trans x67
  have S7 : SeenAt K H7 x1 sz rs (ws.map (·.2)).sum := by
    obtain ⟨od, o1, o2, o3⟩ := hp6
    have tk := extN_tk x67
    exact ⟨dx1, p6, v, xs6, hx7, hv6.tk tk, ⟨od, o1, o2, x67 _ _ o3 (fun _ z => nomatch z)⟩, hxs6.imp fun x r ⟨p, y, z, e1, e2, e3, e4⟩ => ⟨p, y, z, e1, tk _ _ e2, e3.tk tk, e4.tk tk⟩⟩
  have h17 := x57 _ _ h1 (fun _ z => nomatch z)
  have h27 := x57 _ _ h2 (fun _ z => nomatch z)
  have hv7 := hv5.tk (extN_tk x57)
  have hh7 := hh5.ext x57
  refine ⟨_, rfl, _, rfl, a2, ws2, rfl, h27, PO.W2, fun p8 H8 xs8 rs2 s8 hp8 hxs8 pm8 asc8 => ?_⟩
  have G8' := rowsG_of PO.W2 PO.vw2 pm8 asc8
  have hv8 := hv7.tk (sm_tk s8)
  refine fun x2 dx2 nx2 ndx2 ne2 => ?_
  have sn2 : Same H8 (upd (upd H8 dx2 (.own x2)) x2 (.ins (He.ga K "Seen") dx2 [])) := sm_new (sm_up ndx2) (by rw [upd_ne ne2.symm]; exact nx2)
  refine ⟨x2, p8, dx2, v, xs8, rs2, _, sz, rfl, upd_same, hv8.tk (sm_tk sn2), hz, hp8.sm sn2, hxs8.imp fun _ _ h => h.sm sn2, G8', (hT7.ext s8).ext sn2, fun H9 e9 hT9 hx9 => ⟨rfl, ?_⟩⟩
  have x89 : LamX.ExtN H8 H9 := fun b o hb n => e9 b o (ne_of_none hb nx2) (sn2 b o hb) n
  have x79 : LamX.ExtN H7 H9 := (LamX.ExtN.of s8).trans x89
  have T9 : SeenAt K H9 x2 sz rs2 (ws2.map (·.2)).sum := by
    obtain ⟨od, o1, o2, o3⟩ := hp8
    have tk := extN_tk x89
    exact ⟨dx2, p8, v, xs8, hx9, hv8.tk tk, ⟨od, o1, o2, x89 _ _ o3 (fun _ z => nomatch z)⟩, hxs8.imp fun x r ⟨p, y, z, e1, e2, e3, e4⟩ => ⟨p, y, z, e1, tk _ _ e2, e3.tk tk, e4.tk tk⟩⟩
  have S9 := S7.kp (H' := H9) fun b o hb _ _ n => x79 b o hb n
  have h19 := x79 _ _ h17 (fun _ z => nomatch z)
  have h29 := x79 _ _ h27 (fun _ z => nomatch z)
  have hv9 := hv7.tk (extN_tk x79)
  have hh9' := hh7.ext x79
  refine ⟨_, _, rfl, ?_⟩
  -- is_full
  have FU := part_full PO
  have K1 := rowsK_of hz PO.W PO.vw pm6
  have K2 := rowsK_of hz PO.W2 PO.vw2 pm8
  refine ⟨_, rfl, x2, sz, rs2, _, rfl, T9, K2, fun b10 H10 s10 hb10 => ?_⟩
  have e10 : b10 = true := hb10.mpr ((full_perm (pm8.map _)).mpr FU.1)
  subst e10
  refine ⟨_, _, rfl, rfl, _, rfl, iteF ?_⟩
  refine ⟨_, rfl, x1, sz, rs, _, rfl, S9.sm s10, K1, fun b11 H11 s11 hb11 => ?_⟩
  have s911 := s10.trans s11
  have h111 := s911 _ _ h19
  have h211 := s911 _ _ h29
  have eL : (b11 = true) ↔ ws.length = ws2.length := by
    rw [hb11, full_perm (pm6.map _)]
    exact FU.2
  refine ⟨_, rfl, _, _, rfl, h111, _, rfl, _, _, rfl, h211, rfl, rfl, _, rfl, iteFd ?_ ?_⟩
  · have e1 : (kvW ws).length = ws.length := List.length_map _
    have e2 : (kvW ws2).length = ws2.length := List.length_map _
    have e3 : b11 = decide (V.int ((kvW ws).length : Int) = V.int ((kvW ws2).length : Int)) := by
      rw [Bool.eq_iff_iff, eL, decide_eq_true_eq, e1, e2]
      constructor
      · intro h
        rw [h]
      · intro h
        have := V.int.inj h
        omega
    rw [e3]
    simp
  have hh11 := hh9'.sm s911
  have hv11 := hv9.tk (sm_tk s911)
  have S11 := S9.sm s911
  have T11 := T9.sm s911
  have vl : ∀ w ∈ ws, w.1.length = sz.length := fun w hw => by
    obtain ⟨pp, e1, e2⟩ := PO.vw w hw
    exact (mem_views.mp e2).1
  refine ⟨4, rfl, by decide, by decide, ?_⟩
  refine for_it (walk_range0 (n := Int.toNat 4)) (fun i σ H12 => Mv p g H11 H12 ∧ Hand p g q H12 ∧ ∃ z3 z8 z9 z10 z11 z12 : Option V, σ = [some (.ref a), some (.ref p), some v, z3, some (.ref a1), some (.ref a2), some (.ref x1), some (.ref x2), z8, z9, z10, z11, z12]) ⟨Mv.refl _, hh11, _, _, _, _, _, _, rfl⟩ (fun _ _ _ _ _ => trivial) ?_ ?_
  · rintro i _ σ _ H12 hi ⟨mv12, hh12, z3, z8, z9, z10, z11, z12, rfl⟩ ⟨rfl, rfl⟩
    refine ⟨_, rfl, _, rfl, p, g, q, v, sz, rfl, hh12, hv11.tk (hh11.tk mv12), hz, fun qv H13 z t b mv13 hh13 hq => ?_⟩
    have mvA := mv12.trans mv13
    have h113 := hh11.keep mvA h111 (fun _ z => nomatch z) (fun _ z => nomatch z)
    have S13 := S11.kp (H' := H13) fun b o hb n1 n2 _ => hh11.keep mvA hb n1 n2
    have T13 := T11.kp (H' := H13) fun b o hb n1 n2 _ => hh11.keep mvA hb n1 n2
    have hv13 := hv11.tk (hh11.tk mvA)
    refine ⟨_, rfl, _, rfl, _, rfl, v, qv, a1, sz, ws, z, t, b, rfl, hv13, hz, h113, PO.W, vl, hq, fun lp H14 lxs lrs s14 nlp hlp hlr pml => ?_⟩
    obtain ⟨e, tv, bv, rfl, he, ht, hb, gt, gb, dt, db, htx⟩ := id hq
    have he14 := s14 _ _ he
    have hb1 : bnd sz t b lrs = bnd sz t b ws := bnd_perm pml
    have hb2 : bnd sz t b rs = bnd sz t b ws := bnd_perm pm6
    have lpos : ∀ r ∈ lrs, 0 < r.2 := fun r hr => PO.W.pos r (pml.mem_iff.mp hr)
    have lsum : (lrs.map (·.2)).sum < 2 ^ 40 := by
      rw [perm_sum (pml.map _)]
      exact PO.s1
    have llen : lrs.length ≤ 300 := by
      rw [pml.length_eq]
      exact PO.W.len
    have lvw : ∀ r ∈ lrs, ∃ p, isPat sz.length p ∧ r.1 ∈ views sz p := fun r hr => PO.vw r (pml.mem_iff.mp hr)
    refine ⟨_, rfl, lp, lp, lxs, sz, t, b, lrs, rfl, hlp, hlr, hz, lpos, by omega, llen, lvw, fun due H15 s15 hdue => ?_⟩
    refine ⟨_, rfl, _, rfl, _, _, _, _, rfl, rfl, SqT.of (s15 _ _ he14), at_of (j := 0) rfl rfl, x1, z, sz, rs, _, t, b, rfl, (S13.sm s14).sm s15, hz, rowsOk_of PO.W PO.vw pm6, htx, gt, gb, dt, db, fun told H16 s16 htold => ?_⟩
    refine ⟨_, _, rfl, ?_⟩
    have s146 := s15.trans s16
    have hlp16 := s146 _ _ hlp
    have hlr16 : P2 (LrAt sz t b lp H16) lxs lrs := hlr.imp fun x r h => h.but (fun c o _ h => s146 c o h) (sm_tk s146)
    have hdue16 := hdue.sm s16
    refine ⟨_, rfl, _, _, rfl, .inl (SqL.of hlp16), _, _, rfl, rfl, _, rfl, ?_⟩
    refine andVia (fun c H17 => c = false ∧ Same H16 H17) ?_ (fun c9 Q9 hQ9 => ?_) (fun _ => ⟨rfl, Same.refl _⟩)
    rotate_left
    · have l9 : (lxs.length : Int) < 9 := of_decide_eq_true c9
      have l8 : lrs.length ≤ 8 := by
        have := hlr.len
        omega
      refine ⟨_, rfl, lp, lp, lxs, sz, t, b, lrs, rfl, hlp16, hlr16, hz, lpos, by omega, l8, lvw, fun er H17 s17 her => ?_⟩
      refine ⟨_, rfl, _, _, her.dp, (hdue16.sm s17).dp, shB _, shB _, _, rfl, hQ9 _ _ ⟨?_, s17⟩⟩
      rw [eqvB]
      rfl
    rintro c17 H17 ⟨rfl, s17⟩
    refine iteF ?_
    rw [hb1] at hdue16
    rw [hb2] at htold
    have hdue17 := hdue16.sm s17
    have htold17 := htold.sm s17
    have s147 := s146.trans s17
    have hh17 := (hh13.sm s14).sm s147
    have mv17 : Mv p g H11 H17 := (mvA.trans (Mv.of s14)).trans (Mv.of s147)
    cases eb : bnd sz t b ws with
    | none =>
      rw [eb] at hdue17 htold17
      have e1 : due = .non := hdue17
      have e2 : told = .non := htold17
      subst e1 e2
      refine ⟨_, rfl, rfl, _, rfl, iteT ?_⟩
      refine ⟨_, rfl, rfl, _, rfl, iteF ?_⟩
      exact ⟨mv17, hh17, _, _, _, _, _, _, rfl⟩
    | some xy =>
      obtain ⟨x, y⟩ := xy
      rw [eb] at hdue17 htold17
      obtain ⟨rest, pr, ro, rl⟩ := PO.split
      have hkn : ∀ w ∈ ws, kinds sz t b w.1 ≠ [] := fun w hw => by
        obtain ⟨pp, e1, e2⟩ := PO.vw w hw
        exact kinds_ne hz e1 e2
      obtain ⟨x', y', eb2, N1, N2⟩ := bnd_near PO.W.pos ro rl pr hkn PO.s1 eb
      obtain ⟨k1, k2, k3, k4, rfl, rfl, f1, f2, nr1⟩ := N1.ok
      obtain ⟨m1, m2, m3, m4, rfl, rfl, f3, f4, nr2⟩ := N2.ok
      obtain ⟨da, dx', dy', rfl, hda, hdx, hdy⟩ := hdue17
      obtain ⟨ta, tx', ty', rfl, hta, htx', hty'⟩ := htold17
      refine ⟨_, rfl, rfl, _, rfl, iteF ?_⟩
      refine ⟨_, rfl, _, _, _, _, true, rfl, .ty _, ty_tup (SqT.of (K := K) hta), kit_ty (by decide +kernel), _, rfl, iteF ?_⟩
      refine ⟨_, rfl, _, _, rfl, .inr (SqT.of hta), rfl, _, rfl, iteF ?_⟩
      refine ⟨_, rfl, _, _, _, _, rfl, rfl, SqT.of hta, at_of (j := 0) rfl rfl, _, rfl, _, _, _, _, rfl, rfl, SqT.of hda, at_of (j := 0) rfl rfl, tx', dx', _, rfl, htx', hdx, rfl, fun H18 s18 => ⟨_, rfl, iteF ?_⟩⟩
      refine ⟨_, rfl, _, _, _, _, rfl, rfl, SqT.of (s18 _ _ hta), at_of (j := 1) rfl rfl, _, rfl, _, _, _, _, rfl, rfl, SqT.of (s18 _ _ hda), at_of (j := 1) rfl rfl, ty', dy', _, rfl, hty'.tk (sm_tk s18), hdy.tk (sm_tk s18), rfl, fun H19 s19 => ⟨_, rfl, iteF ?_⟩⟩
      have s149 := (s147.trans s18).trans s19
      have s1719 := s18.trans s19
      refine ⟨_, rfl, _, rfl, _, _, _, _, rfl, rfl, SqT.of (s149 _ _ he14), at_of (j := 0) rfl rfl, x2, z, sz, rs2, _, t, b, rfl, (T13.sm s14).sm s149, hz, rowsOk_of PO.W2 PO.vw2 pm8, htx, gt, gb, dt, db, fun near H20 s20 hnear => ?_⟩
      rw [bnd_perm pm8, eb2] at hnear
      obtain ⟨na, nx', ny', rfl, hna, hnx, hny⟩ := hnear
      have s1720 := s1719.trans s20
      have hda20 := s1720 _ _ hda
      refine ⟨_, rfl, rfl, _, rfl, iteF ?_⟩
      refine ⟨_, rfl, _, _, _, _, rfl, rfl, SqT.of hna, at_of (j := 0) rfl rfl, _, rfl, _, _, _, _, rfl, rfl, SqT.of hda20, at_of (j := 0) rfl rfl, nx', dx', k1, k2, k3, k4, rfl, hnx, hdx.tk (sm_tk s1720), f1, f2, _, rfl, iteFd (by rw [decide_eq_true nr1]; rfl) ?_⟩
      refine ⟨_, rfl, _, _, _, _, rfl, rfl, SqT.of hna, at_of (j := 1) rfl rfl, _, rfl, _, _, _, _, rfl, rfl, SqT.of hda20, at_of (j := 1) rfl rfl, ny', dy', m1, m2, m3, m4, rfl, hny, hdy.tk (sm_tk s1720), f3, f4, _, rfl, iteFd (by rw [decide_eq_true nr2]; rfl) ?_⟩
      exact ⟨mv17.trans (Mv.of s1720), hh17.sm s1720, _, _, _, _, _, _, rfl⟩
  · rintro σ H12 ⟨mv12, hh12, z3, z8, z9, z10, z11, z12, rfl⟩
    exact Qk _

end
end Cb
namespace Cb
open PySem PySem.Spec PyProof.Rows L2
section
variable {P : Program} {w : World} {K : PySem.W.Frag} {mg : Str → Option Value} {base : Heap}
/-! ### the head: the law's promise at the heap behind the top -/
theorem law_at {l : PySem.W.OpenLaw} {h : Heap} (T : Txt w K mg) (X : He.SaysX fas fns tbs tfs exs w h K) (KX : K.In h) : LamX.LawAtS l w K CX0 10 63 "_law_script" mg (He.ga K "law") h := by
  have hm : (("Seen", some "__init__") : He.Defn) ∈ tfs := List.mem_singleton.mpr rfl
  refine ⟨fdA K (He.ga K "law"), [He.cT K ("Seen", some "__init__")], spLaw K, fun p hp => ?_, fun p hp => ?_, fun p hp => ?_, ?_, fun H a ns hl hb ht hS => ?_, fun base KB GB hTB => ?_⟩
  · rw [List.mem_singleton.mp hp]
    exact X.empty _ hm
  · rw [List.mem_singleton.mp hp]
    exact X.out _ hm
  · rw [List.mem_singleton.mp hp]
    exact PySem.W.codeHd_of_K KX (X.hd _ hm)
  · intro s u
    have b := T.F_law.bindsA (ps := ["_law_script"]) fun _ _ _ _ _ _ us hl => match us, hl with | [_], _ => rfl
    exact b s [u] rfl
  · refine ⟨a, ns, rfl, hS, fun p hp => ?_, fun H' => rfl⟩
    rw [List.mem_singleton.mp hp]
    exact LamX.TabS.nil (ht _ (List.mem_singleton.mpr rfl))
  · exact ok_law T (hTB _ (List.mem_singleton.mpr rfl))
end
end Cb
open PySem PySem.W PySem.Calls PyProof.Rows
set_option maxHeartbeats 0 in
theorem PySem.Challenge.cw_calmblanks_k63_whole_bounds_of_tables_th_holds : PySem.Challenge.rw_calmblanks_k63_whole_bounds_of_tables_th.Holds := by
  w_on; o_law
  refine HandSHeadRun.head_any (r := OpenLaw.row PySem.Challenge.rw_calmblanks_k63_whole_bounds_of_tables_th) (q := view (OpenLaw.row PySem.Challenge.rw_calmblanks_k63_whole_bounds_of_tables_th).prog [75]) (H := Cb.hk) (ob := Cb.ob) (M := 4000) (loose := Cb.loose) (d := HandSHeadRun.topDef (OpenLaw.row PySem.Challenge.rw_calmblanks_k63_whole_bounds_of_tables_th).prog 75) (kwd := []) Cb.ob_eq
    (by kernel_rfl) (fun s => by kernel_rfl) Cb.run (by kernel_rfl) (by kernel_rfl) (by kernel_rfl) (by rfl) (by first | assumption | decide +kernel) (by decide +kernel) ⟨rfl, rfl, rfl, rfl, rfl, by decide +kernel⟩ ?hw ?hc
  case hw => w_witness2
  case hc =>
    refine LamX.walk_ofTsE (l := PySem.Challenge.rw_calmblanks_k63_whole_bounds_of_tables_th) (n := 63) (k := 10) (x := "_law_script") (CX := fun _ => L2.CX0) rfl (by decide) (by kernel_rfl) ⟨rfl, by decide, by decide⟩ ?F (fun _ _ _ _ _ z => z)
    intro w mg fa h Y G hmg0
    obtain ⟨K, KX, X⟩ := Y
    have hmg : mg ("law" : PySem.Str) = some (.ref fa) := by
      have e : (HandSHeadRun.topDef (OpenLaw.row PySem.Challenge.rw_calmblanks_k63_whole_bounds_of_tables_th).prog 75).name = ("law" : PySem.Str) := by kernel_rfl
      rw [← e]
      exact hmg0
    have T : Cb.Txt w K mg := ⟨X.t.d, X.t.tab 0, X.more, h, KX, G⟩
    have e := hmg.symm.trans T.g_law
    cases e
    exact ⟨K, KX, Cb.law_at T X KX⟩
