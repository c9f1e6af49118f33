import PyProof.Rows.All
import Wide.All
import OpenK.AllK
import Wide.FinOn
import HandS.Base
import HandS.Call
import HandS.Words
import HandS.HeadHook2
import KE.KStateDown
import Lean
import HandS.Ends
import HandS.More
import HandS.WordsExc
import HandS.Defaults
import HandS.ExcInit
import HandS.ExcField
import HandS.Head0
import HandS.Head1
import HandS.Head2
import HandS.HeadEnd
import HandS.HeadHook1
import KE.KExcIs
import HandS.ForMost
import HandS.ForExc
import HandS.RaiseMore
import HandS.Text
import HandS.StrMore
import HandS.Iter
import HandS.Dict
import HandS.Comp
import HandS.Wide
import HandS.TupAny
import HandS.Exc
import HandS.ExcOwn
import PySem.Challenge.RW_oneowner_k04_programs_cut_short
section
set_option Elab.async false
set_option linter.all false
set_option maxRecDepth 100000
set_option maxHeartbeats 4000000
namespace Ko
open PySem PySem.Spec PyProof.Rows L2
/-! ### the text by places -/
def top (i : Nat) : Stmt := PySem.Challenge.pw_oneowner_k04_programs_cut_short.main.body.getD i (.Pass ⟨0, 0, 0, 0⟩)
abbrev s_parse_kind : Stmt := top 2
abbrev s_need_place : Stmt := top 3
abbrev s_parse_place : Stmt := top 4
abbrev s_parse_exprs : Stmt := top 5
abbrev s_primary : Stmt := top 6
abbrev s_parse_postfix : Stmt := top 7
abbrev s_unary : Stmt := top 8
abbrev s_product : Stmt := top 9
abbrev s_total : Stmt := top 10
abbrev s_parse_one : Stmt := top 11
abbrev s_TextError_init : Stmt := inClass (top 14) 0
abbrev s_Reader_init : Stmt := inClass (top 19) 0
abbrev s_Reader_ahead : Stmt := inClass (top 19) 1
abbrev s_Reader_kind : Stmt := inClass (top 19) 2
abbrev s_Reader_fail : Stmt := inClass (top 19) 3
abbrev s_Reader_is_next : Stmt := inClass (top 19) 4
abbrev s_Reader_take : Stmt := inClass (top 19) 5
abbrev s_Reader_expect : Stmt := inClass (top 19) 6
abbrev s_Reader_skip : Stmt := inClass (top 19) 7
abbrev s_word_end : Stmt := top 27
abbrev s_is_number : Stmt := top 28
abbrev s_word_kind : Stmt := top 29
abbrev s_token_at : Stmt := top 30
abbrev s_comment_end : Stmt := top 31
abbrev s_tokens : Stmt := top 32
abbrev s_pairs : Stmt := top 34
abbrev s_record_tree : Stmt := top 35
abbrev s_tag : Stmt := top 36
abbrev s_variant : Stmt := top 37
abbrev s_list : Stmt := top 38
abbrev s_names : Stmt := top 39
abbrev s_block : Stmt := top 40
abbrev s_case : Stmt := top 41
abbrev s_match : Stmt := top 42
abbrev s_if : Stmt := top 43
abbrev s_let : Stmt := top 44
abbrev s_open : Stmt := top 45
abbrev s_push : Stmt := top 46
abbrev s_take : Stmt := top 47
abbrev s_place_or_call : Stmt := top 48
abbrev s_simple : Stmt := top 49
abbrev s_statement : Stmt := top 50
abbrev s_function : Stmt := top 51
abbrev s_parse : Stmt := top 52
abbrev s_law_mix : Stmt := top 54
abbrev s_law_stream : Stmt := top 55
abbrev s_law_pick : Stmt := top 56
abbrev s_law_name : Stmt := top 57
abbrev s_law_number : Stmt := top 58
abbrev s_law_kind : Stmt := top 59
abbrev s_law_place : Stmt := top 60
abbrev s_law_call : Stmt := top 61
abbrev s_law_expr : Stmt := top 62
abbrev s_law_names : Stmt := top 63
abbrev s_law_simple : Stmt := top 64
abbrev s_law_statement : Stmt := top 65
abbrev s_law_block : Stmt := top 66
abbrev s_law_pairs : Stmt := top 67
abbrev s_law_tags : Stmt := top 68
abbrev s_law_function : Stmt := top 69
abbrev s_law_program : Stmt := top 70
abbrev s_law_row : Stmt := top 71
abbrev s_law_rows : Stmt := top 72
abbrev s_law_tag_text : Stmt := top 73
abbrev s_law_listed : Stmt := top 74
abbrev s_law_program_rows : Stmt := top 75
abbrev s_law_kind_text : Stmt := top 76
abbrev s_law_level : Stmt := top 77
abbrev s_law_near : Stmt := top 78
abbrev s_law_text : Stmt := top 79
abbrev s_law_told : Stmt := top 80
abbrev s_law_begun : Stmt := top 81
abbrev s_law : Stmt := top 82
/-! ### the data of each def: where it stands, its names, parameters, body, scope, defaults -/
def d_parse_kind : He.DefD := ⟨("parse_kind", none), "parse_kind", "parse_kind", defArgs s_parse_kind, defBody s_parse_kind, defScope s_parse_kind, [], []⟩
def d_need_place : He.DefD := ⟨("need_place", none), "need_place", "need_place", defArgs s_need_place, defBody s_need_place, defScope s_need_place, [], []⟩
def d_parse_place : He.DefD := ⟨("parse_place", none), "parse_place", "parse_place", defArgs s_parse_place, defBody s_parse_place, defScope s_parse_place, [], []⟩
def d_parse_exprs : He.DefD := ⟨("parse_exprs", none), "parse_exprs", "parse_exprs", defArgs s_parse_exprs, defBody s_parse_exprs, defScope s_parse_exprs, [], []⟩
def d_primary : He.DefD := ⟨("_primary", none), "_primary", "_primary", defArgs s_primary, defBody s_primary, defScope s_primary, [], []⟩
def d_parse_postfix : He.DefD := ⟨("parse_postfix", none), "parse_postfix", "parse_postfix", defArgs s_parse_postfix, defBody s_parse_postfix, defScope s_parse_postfix, [], []⟩
def d_unary : He.DefD := ⟨("_unary", none), "_unary", "_unary", defArgs s_unary, defBody s_unary, defScope s_unary, [], []⟩
def d_product : He.DefD := ⟨("_product", none), "_product", "_product", defArgs s_product, defBody s_product, defScope s_product, [], []⟩
def d_total : He.DefD := ⟨("_total", none), "_total", "_total", defArgs s_total, defBody s_total, defScope s_total, [], []⟩
def d_parse_one : He.DefD := ⟨("parse_one", none), "parse_one", "parse_one", defArgs s_parse_one, defBody s_parse_one, defScope s_parse_one, [], []⟩
def d_TextError_init : He.DefD := ⟨("TextError", some "__init__"), "__init__", "TextError.__init__", defArgs s_TextError_init, defBody s_TextError_init, defScope s_TextError_init, [], []⟩
def d_Reader_init : He.DefD := ⟨("Reader", some "__init__"), "__init__", "Reader.__init__", defArgs s_Reader_init, defBody s_Reader_init, defScope s_Reader_init, [], []⟩
def d_Reader_ahead : He.DefD := ⟨("Reader", some "ahead"), "ahead", "Reader.ahead", defArgs s_Reader_ahead, defBody s_Reader_ahead, defScope s_Reader_ahead, [], []⟩
def d_Reader_kind : He.DefD := ⟨("Reader", some "kind"), "kind", "Reader.kind", defArgs s_Reader_kind, defBody s_Reader_kind, defScope s_Reader_kind, [], []⟩
def d_Reader_fail : He.DefD := ⟨("Reader", some "fail"), "fail", "Reader.fail", defArgs s_Reader_fail, defBody s_Reader_fail, defScope s_Reader_fail, [], []⟩
def d_Reader_is_next : He.DefD := ⟨("Reader", some "is_next"), "is_next", "Reader.is_next", defArgs s_Reader_is_next, defBody s_Reader_is_next, defScope s_Reader_is_next, [.int 0], []⟩
def d_Reader_take : He.DefD := ⟨("Reader", some "take"), "take", "Reader.take", defArgs s_Reader_take, defBody s_Reader_take, defScope s_Reader_take, [], []⟩
def d_Reader_expect : He.DefD := ⟨("Reader", some "expect"), "expect", "Reader.expect", defArgs s_Reader_expect, defBody s_Reader_expect, defScope s_Reader_expect, [], []⟩
def d_Reader_skip : He.DefD := ⟨("Reader", some "skip"), "skip", "Reader.skip", defArgs s_Reader_skip, defBody s_Reader_skip, defScope s_Reader_skip, [], []⟩
def d_word_end : He.DefD := ⟨("_word_end", none), "_word_end", "_word_end", defArgs s_word_end, defBody s_word_end, defScope s_word_end, [], []⟩
def d_is_number : He.DefD := ⟨("is_number", none), "is_number", "is_number", defArgs s_is_number, defBody s_is_number, defScope s_is_number, [], []⟩
def d_word_kind : He.DefD := ⟨("_word_kind", none), "_word_kind", "_word_kind", defArgs s_word_kind, defBody s_word_kind, defScope s_word_kind, [], []⟩
def d_token_at : He.DefD := ⟨("_token_at", none), "_token_at", "_token_at", defArgs s_token_at, defBody s_token_at, defScope s_token_at, [], []⟩
def d_comment_end : He.DefD := ⟨("_comment_end", none), "_comment_end", "_comment_end", defArgs s_comment_end, defBody s_comment_end, defScope s_comment_end, [], []⟩
def d_tokens : He.DefD := ⟨("tokens", none), "tokens", "tokens", defArgs s_tokens, defBody s_tokens, defScope s_tokens, [], []⟩
def d_pairs : He.DefD := ⟨("_pairs", none), "_pairs", "_pairs", defArgs s_pairs, defBody s_pairs, defScope s_pairs, [], []⟩
def d_record_tree : He.DefD := ⟨("_record_tree", none), "_record_tree", "_record_tree", defArgs s_record_tree, defBody s_record_tree, defScope s_record_tree, [], []⟩
def d_tag : He.DefD := ⟨("_tag", none), "_tag", "_tag", defArgs s_tag, defBody s_tag, defScope s_tag, [], []⟩
def d_variant : He.DefD := ⟨("_variant", none), "_variant", "_variant", defArgs s_variant, defBody s_variant, defScope s_variant, [], []⟩
def d_list : He.DefD := ⟨("_list", none), "_list", "_list", defArgs s_list, defBody s_list, defScope s_list, [], []⟩
def d_names : He.DefD := ⟨("_names", none), "_names", "_names", defArgs s_names, defBody s_names, defScope s_names, [], []⟩
def d_block : He.DefD := ⟨("_block", none), "_block", "_block", defArgs s_block, defBody s_block, defScope s_block, [], []⟩
def d_case : He.DefD := ⟨("_case", none), "_case", "_case", defArgs s_case, defBody s_case, defScope s_case, [], []⟩
def d_match : He.DefD := ⟨("_match", none), "_match", "_match", defArgs s_match, defBody s_match, defScope s_match, [], []⟩
def d_if : He.DefD := ⟨("_if", none), "_if", "_if", defArgs s_if, defBody s_if, defScope s_if, [], []⟩
def d_let : He.DefD := ⟨("_let", none), "_let", "_let", defArgs s_let, defBody s_let, defScope s_let, [], []⟩
def d_open : He.DefD := ⟨("_open", none), "_open", "_open", defArgs s_open, defBody s_open, defScope s_open, [], []⟩
def d_push : He.DefD := ⟨("_push", none), "_push", "_push", defArgs s_push, defBody s_push, defScope s_push, [], []⟩
def d_take : He.DefD := ⟨("_take", none), "_take", "_take", defArgs s_take, defBody s_take, defScope s_take, [], []⟩
def d_place_or_call : He.DefD := ⟨("_place_or_call", none), "_place_or_call", "_place_or_call", defArgs s_place_or_call, defBody s_place_or_call, defScope s_place_or_call, [], []⟩
def d_simple : He.DefD := ⟨("_simple", none), "_simple", "_simple", defArgs s_simple, defBody s_simple, defScope s_simple, [], []⟩
def d_statement : He.DefD := ⟨("_statement", none), "_statement", "_statement", defArgs s_statement, defBody s_statement, defScope s_statement, [], []⟩
def d_function : He.DefD := ⟨("_function", none), "_function", "_function", defArgs s_function, defBody s_function, defScope s_function, [], []⟩
def d_parse : He.DefD := ⟨("parse", none), "parse", "parse", defArgs s_parse, defBody s_parse, defScope s_parse, [], []⟩
def d_law_mix : He.DefD := ⟨("_law_mix", none), "_law_mix", "_law_mix", defArgs s_law_mix, defBody s_law_mix, defScope s_law_mix, [], []⟩
def d_law_stream : He.DefD := ⟨("_law_stream", none), "_law_stream", "_law_stream", defArgs s_law_stream, defBody s_law_stream, defScope s_law_stream, [], []⟩
def d_law_pick : He.DefD := ⟨("_law_pick", none), "_law_pick", "_law_pick", defArgs s_law_pick, defBody s_law_pick, defScope s_law_pick, [], []⟩
def d_law_name : He.DefD := ⟨("_law_name", none), "_law_name", "_law_name", defArgs s_law_name, defBody s_law_name, defScope s_law_name, [], []⟩
def d_law_number : He.DefD := ⟨("_law_number", none), "_law_number", "_law_number", defArgs s_law_number, defBody s_law_number, defScope s_law_number, [], []⟩
def d_law_kind : He.DefD := ⟨("_law_kind", none), "_law_kind", "_law_kind", defArgs s_law_kind, defBody s_law_kind, defScope s_law_kind, [], []⟩
def d_law_place : He.DefD := ⟨("_law_place", none), "_law_place", "_law_place", defArgs s_law_place, defBody s_law_place, defScope s_law_place, [], []⟩
def d_law_call : He.DefD := ⟨("_law_call", none), "_law_call", "_law_call", defArgs s_law_call, defBody s_law_call, defScope s_law_call, [], []⟩
def d_law_expr : He.DefD := ⟨("_law_expr", none), "_law_expr", "_law_expr", defArgs s_law_expr, defBody s_law_expr, defScope s_law_expr, [], []⟩
def d_law_names : He.DefD := ⟨("_law_names", none), "_law_names", "_law_names", defArgs s_law_names, defBody s_law_names, defScope s_law_names, [], []⟩
def d_law_simple : He.DefD := ⟨("_law_simple", none), "_law_simple", "_law_simple", defArgs s_law_simple, defBody s_law_simple, defScope s_law_simple, [], []⟩
def d_law_statement : He.DefD := ⟨("_law_statement", none), "_law_statement", "_law_statement", defArgs s_law_statement, defBody s_law_statement, defScope s_law_statement, [], []⟩
def d_law_block : He.DefD := ⟨("_law_block", none), "_law_block", "_law_block", defArgs s_law_block, defBody s_law_block, defScope s_law_block, [], []⟩
def d_law_pairs : He.DefD := ⟨("_law_pairs", none), "_law_pairs", "_law_pairs", defArgs s_law_pairs, defBody s_law_pairs, defScope s_law_pairs, [], []⟩
def d_law_tags : He.DefD := ⟨("_law_tags", none), "_law_tags", "_law_tags", defArgs s_law_tags, defBody s_law_tags, defScope s_law_tags, [], []⟩
def d_law_function : He.DefD := ⟨("_law_function", none), "_law_function", "_law_function", defArgs s_law_function, defBody s_law_function, defScope s_law_function, [], []⟩
def d_law_program : He.DefD := ⟨("_law_program", none), "_law_program", "_law_program", defArgs s_law_program, defBody s_law_program, defScope s_law_program, [], []⟩
def d_law_row : He.DefD := ⟨("_law_row", none), "_law_row", "_law_row", defArgs s_law_row, defBody s_law_row, defScope s_law_row, [], []⟩
def d_law_rows : He.DefD := ⟨("_law_rows", none), "_law_rows", "_law_rows", defArgs s_law_rows, defBody s_law_rows, defScope s_law_rows, [], []⟩
def d_law_tag_text : He.DefD := ⟨("_law_tag_text", none), "_law_tag_text", "_law_tag_text", defArgs s_law_tag_text, defBody s_law_tag_text, defScope s_law_tag_text, [], []⟩
def d_law_listed : He.DefD := ⟨("_law_listed", none), "_law_listed", "_law_listed", defArgs s_law_listed, defBody s_law_listed, defScope s_law_listed, [], []⟩
def d_law_program_rows : He.DefD := ⟨("_law_program_rows", none), "_law_program_rows", "_law_program_rows", defArgs s_law_program_rows, defBody s_law_program_rows, defScope s_law_program_rows, [], []⟩
def d_law_kind_text : He.DefD := ⟨("_law_kind_text", none), "_law_kind_text", "_law_kind_text", defArgs s_law_kind_text, defBody s_law_kind_text, defScope s_law_kind_text, [], []⟩
def d_law_level : He.DefD := ⟨("_law_level", none), "_law_level", "_law_level", defArgs s_law_level, defBody s_law_level, defScope s_law_level, [], []⟩
def d_law_near : He.DefD := ⟨("_law_near", none), "_law_near", "_law_near", defArgs s_law_near, defBody s_law_near, defScope s_law_near, [], []⟩
def d_law_text : He.DefD := ⟨("_law_text", none), "_law_text", "_law_text", defArgs s_law_text, defBody s_law_text, defScope s_law_text, [], []⟩
def d_law_told : He.DefD := ⟨("_law_told", none), "_law_told", "_law_told", defArgs s_law_told, defBody s_law_told, defScope s_law_told, [], []⟩
def d_law_begun : He.DefD := ⟨("_law_begun", none), "_law_begun", "_law_begun", defArgs s_law_begun, defBody s_law_begun, defScope s_law_begun, [], []⟩
def d_law : He.DefD := ⟨("law", none), "law", "law", defArgs s_law, defBody s_law, defScope s_law, [], []⟩
def fn1 : List He.DefD := [d_parse_kind, d_need_place, d_parse_place, d_parse_exprs, d_primary, d_parse_postfix, d_unary, d_product, d_total, d_parse_one, d_TextError_init, d_Reader_init, d_Reader_ahead, d_Reader_kind, d_Reader_fail, d_Reader_is_next, d_Reader_take, d_Reader_expect, d_Reader_skip, d_word_end, d_is_number, d_word_kind, d_token_at, d_comment_end, d_tokens, d_pairs, d_record_tree, d_tag, d_variant, d_list, d_names, d_block, d_case, d_match, d_if, d_let, d_open, d_push, d_take, d_place_or_call]
def fn2 : List He.DefD := [d_simple, d_statement, d_function, d_parse, d_law_mix, d_law_stream, d_law_pick, d_law_name, d_law_number, d_law_kind, d_law_place, d_law_call, d_law_expr, d_law_names, d_law_simple, d_law_statement, d_law_block, d_law_pairs, d_law_tags, d_law_function, d_law_program, d_law_row, d_law_rows, d_law_tag_text, d_law_listed, d_law_program_rows, d_law_kind_text, d_law_level, d_law_near, d_law_text, d_law_told, d_law_begun, d_law]
def fn : List He.DefD := fn1 ++ fn2
end Ko
end
section
set_option Elab.async false
set_option linter.all false
set_option maxRecDepth 100000
set_option maxHeartbeats 0
namespace Ko
open PySem PySem.Spec PyProof.Rows L2
/-! ### facts of the top that a Bool tells -/
def oexB (K : PySem.W.Frag) (C : Addr) : Bool := match K.lookup C with
  | some ⟨.type "type", _, .cls cd, sl⟩ => (match cd.mro, sl.toList with
    | .ref C' :: bm, [_, _, _, _, some (.builtin n), _] => C' == C && n == "ValueError.__new__" && !cd.hasDel && PySem.HandSPX.refsVE bm && cd.hasDict
    | _, _ => false)
  | _ => false
abbrev aU (K : PySem.W.Frag) : Addr := He.ga K "Unexpected"
abbrev aT (K : PySem.W.Frag) : Addr := He.ga K "TextError"
abbrev aO (K : PySem.W.Frag) : Addr := He.ga K "OwnerError"
abbrev aI (K : PySem.W.Frag) : Addr := He.ma K (He.ga K "TextError") "__init__"
def exL : List (PySem.W.Frag → Bool) := [
  fun K => He.tupB K "PLACES" [.str "name", .str "deref", .str "field", .str "index"],
  fun K => He.tupB K "KEYWORDS" [.str "record", .str "variant", .str "fn", .str "let", .str "open", .str "as", .str "match", .str "ref", .str "mut", .str "if", .str "else", .str "while", .str "show", .str "push", .str "take", .str "par", .str "return", .str "true", .str "false", .str "box", .str "unbox", .str "vec", .str "len", .str "int", .str "bool", .str "from"],
  fun K => He.tupB K "LONG_SIGNS" [.str "==", .str "->"],
  fun K => oexB K (aU K),
  fun K => He.eqO (PySem.W.findIn K (.ref (aU K)) "__setattr__") (some (some (.builtin "object.__setattr__"))),
  fun K => decide (PySem.W.subIn K (.ref (aU K)) (.type "BaseException") = some true),
  fun K => decide (PySem.W.typeIn K (.ref (aU K)) = some (.type "type")),
  fun K => PySem.W.keepIn K (.ref (aU K)),
  fun K => He.eqO (PySem.W.findIn K (.ref (aU K)) "__init__") (some (some (.ref (aI K)))),
  fun K => decide (PySem.W.typeIn K (.ref (aI K)) = some (.type "function")),
  fun K => He.eqO (PySem.W.findIn K (.ref (aU K)) "row") (some none),
  fun K => He.eqO (PySem.W.findIn K (.ref (aU K)) "column") (some none),
  fun K => L2.xfB K (aU K),
  fun K => He.eqO (PySem.W.findIn K (.ref (aU K)) "__class__") (some (some (.builtin "object.__class__"))),
  fun K => decide (PySem.W.specialIn K (.builtin "object.__class__") "__get__" = some (some (.builtin "getset_descriptor.__get__"))),
  fun K => decide (PySem.W.takesIn K (.builtin "object.__class__") = some true),
  fun K => decide (PySem.W.mroIn K (aU K) (.type "object") = some true),
  fun K => decide (PySem.W.kitOne K (.ref (aU K)) (.ref (aT K)) = some true),
  fun K => PySem.W.readsIn K (aO K) (.type "type"),
  fun K => decide (PySem.W.specialIn K (.ref (aO K)) "__getattribute__" = some (some (.builtin "type.__getattribute__"))),
  fun K => (match PySem.W.findCls K (.ref (aO K)) (.type "type") "__init__" with | some (.val (.builtin "ValueError.__init__")) => true | _ => false),
  fun K => decide (PySem.W.exmOne K (.ref (aU K)) (.ref (aU K)) = some true)]
def ex (K : PySem.W.Frag) : Bool := exL.all fun f => f K
/-! ### the facts by names -/
def fa1 : List He.Fa := [.glo "parse_kind", .glo "need_place", .glo "parse_place", .glo "parse_exprs", .glo "_primary", .glo "parse_postfix", .glo "_unary", .glo "_product", .glo "_total", .glo "parse_one", .glo "_word_end", .glo "is_number", .glo "_word_kind", .glo "_token_at", .glo "_comment_end", .glo "tokens", .glo "_pairs", .glo "_record_tree", .glo "_tag", .glo "_variant", .glo "_list", .glo "_names", .glo "_block", .glo "_case", .glo "_match", .glo "_if", .glo "_let", .glo "_open", .glo "_push", .glo "_take", .glo "_place_or_call", .glo "_simple", .glo "_statement", .glo "_function", .glo "parse", .glo "_law_mix", .glo "_law_stream", .glo "_law_pick", .glo "_law_name", .glo "_law_number"]
def fa2 : List He.Fa := [.glo "_law_kind", .glo "_law_place", .glo "_law_call", .glo "_law_expr", .glo "_law_names", .glo "_law_simple", .glo "_law_statement", .glo "_law_block", .glo "_law_pairs", .glo "_law_tags", .glo "_law_function", .glo "_law_program", .glo "_law_row", .glo "_law_rows", .glo "_law_tag_text", .glo "_law_listed", .glo "_law_program_rows", .glo "_law_kind_text", .glo "_law_level", .glo "_law_near", .glo "_law_text", .glo "_law_told", .glo "_law_begun", .glo "law", .glo "Reader", .glo "Unexpected", .glo "TextError", .glo "OwnerError", .glo "PLACES", .glo "KEYWORDS", .glo "LONG_SIGNS", .free "len", .free "min", .free "max", .free "int", .free "str", .free "range", .free "list", .free "tuple", .free "isinstance"]
def fa3 : List He.Fa := [.str "SHORT_SIGNS" "{}()[],;:.=+-*<!", .str "LETTERS" "abcdefghijklmnopqrstuvwxyzABCDEFGHIJKLMNOPQRSTUVWXYZ", .str "DIGITS" "0123456789", .int "MOST" 4294967295, .cls "Reader", .noat "Reader" "_row", .noat "Reader" "_at", .mkr "Reader", .meth "Reader" "ahead", .meth "Reader" "kind", .meth "Reader" "fail", .meth "Reader" "is_next", .meth "Reader" "take", .meth "Reader" "expect", .meth "Reader" "skip"]
def fa : List He.Fa := fa1 ++ (fa2 ++ fa3)
/-! ### the Hook: He.obsD's facts and the Bool -/
abbrev AlM : Type := He.AlD × Bool
def obsM (fa : List He.Fa) (fn : List He.DefD) (ex : PySem.W.Frag → Bool) (K : PySem.W.Frag) : AlM := (He.obsD fa fn K, ex K)
def obsMG (n : Nat) (fa : List He.Fa) (fn : List He.DefD) (ex : PySem.W.Frag → Bool) (g : Addr → Option Obj) : AlM := obsM fa fn ex (He.frG g (PySem.cStatics :: He.asD g n))
def hookM (n : Nat) (fa : List He.Fa) (fn : List He.DefD) (ex : PySem.W.Frag → Bool) : PySem.W.Hook where
  α := AlM
  obs := fun s => obsMG n fa fn ex s.heap.get?
  val := fun _ => (He.valD fn, true)
  says := fun _ h => ∃ K : PySem.W.Frag, K.In h ∧ He.SaysD fa fn K ∧ ex K = true
  of := fun _ _ e => ⟨_, He.frG_in, congrArg (fun z : AlM => z.1) e, congrArg (fun z : AlM => z.2) e⟩
  keeps := fun _ _ _ ⟨K, hK, c⟩ k => ⟨K, PySem.W.Frag.In.keeps hK k, c⟩
theorem obsMG_eq {n : Nat} {fa : List He.Fa} {fn : List He.DefD} {ex : PySem.W.Frag → Bool} {g : Addr → Option Obj} {s : Shared} (h : ∀ a, g a = s.heap.get? a) : obsMG n fa fn ex g = (hookM n fa fn ex).obs s := by
  have e : g = s.heap.get? := funext h
  rw [e] <;> rfl
abbrev RowK : PySem.W.OpenRow := PySem.W.OpenLaw.row PySem.Challenge.rw_oneowner_k04_programs_cut_short
def loose1 : List Str := [("PLACES" : Str), ("parse_kind" : Str), ("need_place" : Str), ("parse_place" : Str), ("parse_exprs" : Str), ("_primary" : Str), ("parse_postfix" : Str), ("_unary" : Str), ("_product" : Str), ("_total" : Str), ("parse_one" : Str), ("OwnerError" : Str), ("TextError" : Str), ("BadCharacter" : Str), ("BadNumber" : Str), ("Unexpected" : Str), ("Reader" : Str), ("KEYWORDS" : Str), ("LONG_SIGNS" : Str), ("SHORT_SIGNS" : Str), ("LETTERS" : Str), ("DIGITS" : Str), ("MOST" : Str), ("_word_end" : Str), ("is_number" : Str), ("_word_kind" : Str), ("_token_at" : Str), ("_comment_end" : Str), ("tokens" : Str), ("_pairs" : Str), ("_record_tree" : Str), ("_tag" : Str), ("_variant" : Str), ("_list" : Str), ("_names" : Str), ("_block" : Str), ("_case" : Str), ("_match" : Str), ("_if" : Str), ("_let" : Str)]
def loose2 : List Str := [("_open" : Str), ("_push" : Str), ("_take" : Str), ("_place_or_call" : Str), ("_simple" : Str), ("_statement" : Str), ("_function" : Str), ("parse" : Str), ("_law_mix" : Str), ("_law_stream" : Str), ("_law_pick" : Str), ("_law_name" : Str), ("_law_number" : Str), ("_law_kind" : Str), ("_law_place" : Str), ("_law_call" : Str), ("_law_expr" : Str), ("_law_names" : Str), ("_law_simple" : Str), ("_law_statement" : Str), ("_law_block" : Str), ("_law_pairs" : Str), ("_law_tags" : Str), ("_law_function" : Str), ("_law_program" : Str), ("_law_row" : Str), ("_law_rows" : Str), ("_law_tag_text" : Str), ("_law_listed" : Str), ("_law_program_rows" : Str), ("_law_kind_text" : Str), ("_law_level" : Str), ("_law_near" : Str), ("_law_text" : Str), ("_law_told" : Str), ("_law_begun" : Str)]
def loose : List Str := loose1 ++ loose2
abbrev hk : PySem.W.Hook := hookM 5 fa fn ex
def ob (s : PySem.W.SharedT) : AlM := obsMG 5 fa fn ex (HandSHeadRun.getT s)
theorem ob_eq (s : PySem.W.SharedT) : ob s = hk.obs s.abs := obsMG_eq (HandSHeadRun.getT_eq s)
end Ko
end
section
set_option Elab.async false
set_option linter.all false
set_option maxRecDepth 100000
set_option maxHeartbeats 0
namespace Ko
open PySem PySem.Spec PyProof.Rows L2
theorem run (w : World) : HandSHeadRun.RunEq RowK (PySem.W.view RowK.prog [82]) hk ob 12000 loose w := by
  intro os
  kernel_rfl
end Ko
end
section
set_option Elab.async false
set_option linter.all false
set_option maxRecDepth 100000
set_option maxHeartbeats 4000000
namespace Ko
open PySem PySem.Spec PyProof.Rows L2
/-- what the top has left, as the proofs take it -/
structure Tx (K : PySem.W.Frag) (mg : Str → Option Value) : Prop where
  says : He.SaysD fa fn K
  exb : ex K = true
  look : ∀ (x : Str) (r : Option Value), PySem.W.nsIn K mainGlobals x = some r → mg x = r
theorem Tx.mk_of {K : PySem.W.Frag} {mg : Str → Option Value} {h : Heap} (X : K.In h) (G : h.Ns mainGlobals mg) (c : He.SaysD fa fn K) (e : ex K = true) : Tx K mg :=
  ⟨c, e, fun x r q => by
    cases r with
    | none => exact PySem.W.mg_none_of X G q
    | some v => exact PySem.W.mg_of X G q⟩
def fdOf (K : PySem.W.Frag) (d : He.DefD) : FuncData := match K.lookup (He.fAd K d.at_) with
  | some ⟨_, _, .func fd, _⟩ => fd
  | _ => PySem.W.fnOf d.name d.qual d.params d.body d.scope .none .none .none .none none .none .none
section
variable {K : PySem.W.Frag} {mg : Str → Option Value}
theorem Tx.fd (T : Tx K mg) (i : Nat) {d : He.DefD} (h : fn[i]? = some d := by rfl) : FunD K d.name d.qual d.params d.body d.scope (d.dvs K) (d.kws K) (He.fAd K d.at_) (fdOf K d) := by
  obtain ⟨fd, F⟩ := T.says.def_ i h
  have e : fdOf K d = fd := by
    obtain ⟨oc, od, dV, kV, doc, pm, an, cdv, ct, osl, _, lk, _⟩ := F.ex
    unfold fdOf
    rw [lk]
  rw [e]
  exact F
theorem Tx.fact (T : Tx K mg) (i : Nat) {f : He.Fa} (h : fa[i]? = some f := by rfl) : f.ok K = true := T.says.fact i h
theorem Tx.exf (T : Tx K mg) (i : Nat) {f : PySem.W.Frag → Bool} (h : exL[i]? = some f := by rfl) : f K = true :=
  List.all_eq_true.mp (show (exL.all fun f => f K) = true from T.exb) f (List.mem_of_getElem? h)
theorem Tx.gl (T : Tx K mg) {x : Str} (c : (He.Fa.glo x).ok K = true) : mg x = some (.ref (He.ga K x)) := T.look x _ (He.eqO_ok c)
theorem Tx.fr (T : Tx K mg) {x : Str} (c : (He.Fa.free x).ok K = true) : mg x = none := T.look x _ (He.eqO_ok c)
theorem Tx.st (T : Tx K mg) {x z : Str} (c : (He.Fa.str x z).ok K = true) : ∃ t, mg x = some (.str z t) := by
  have c2 : (match PySem.W.nsIn K mainGlobals x with
    | some (some (.str y _)) => decide (y = z)
    | _ => false) = true := c
  cases e : PySem.W.nsIn K mainGlobals x with
  | none =>
    rw [e] at c2
    cases c2
  | some o =>
    rw [e] at c2
    cases o with
    | none => cases c2
    | some v =>
      cases v with
      | str y t =>
        have ej : y = z := of_decide_eq_true c2
        rw [ej] at e
        exact ⟨t, T.look x _ e⟩
      | _ => cases c2
theorem Tx.it (T : Tx K mg) {x : Str} {i : Int} (c : (He.Fa.int x i).ok K = true) : ∃ t, mg x = some (.int i t) := by
  have c2 : (match PySem.W.nsIn K mainGlobals x with
    | some (some (.int j _)) => decide (j = i)
    | _ => false) = true := c
  cases e : PySem.W.nsIn K mainGlobals x with
  | none =>
    rw [e] at c2
    cases c2
  | some o =>
    rw [e] at c2
    cases o with
    | none => cases c2
    | some v =>
      cases v with
      | int j t =>
        have ej : j = i := of_decide_eq_true c2
        rw [ej] at e
        exact ⟨t, T.look x _ e⟩
      | _ => cases c2
theorem m_parse_kind (T : Tx K mg) : mg "parse_kind" = some (.ref (He.ga K "parse_kind")) := T.gl (T.fact 0)
theorem m_need_place (T : Tx K mg) : mg "need_place" = some (.ref (He.ga K "need_place")) := T.gl (T.fact 1)
theorem m_parse_place (T : Tx K mg) : mg "parse_place" = some (.ref (He.ga K "parse_place")) := T.gl (T.fact 2)
theorem m_parse_exprs (T : Tx K mg) : mg "parse_exprs" = some (.ref (He.ga K "parse_exprs")) := T.gl (T.fact 3)
theorem m_primary (T : Tx K mg) : mg "_primary" = some (.ref (He.ga K "_primary")) := T.gl (T.fact 4)
theorem m_parse_postfix (T : Tx K mg) : mg "parse_postfix" = some (.ref (He.ga K "parse_postfix")) := T.gl (T.fact 5)
theorem m_unary (T : Tx K mg) : mg "_unary" = some (.ref (He.ga K "_unary")) := T.gl (T.fact 6)
theorem m_product (T : Tx K mg) : mg "_product" = some (.ref (He.ga K "_product")) := T.gl (T.fact 7)
theorem m_total (T : Tx K mg) : mg "_total" = some (.ref (He.ga K "_total")) := T.gl (T.fact 8)
theorem m_parse_one (T : Tx K mg) : mg "parse_one" = some (.ref (He.ga K "parse_one")) := T.gl (T.fact 9)
theorem m_word_end (T : Tx K mg) : mg "_word_end" = some (.ref (He.ga K "_word_end")) := T.gl (T.fact 10)
theorem m_is_number (T : Tx K mg) : mg "is_number" = some (.ref (He.ga K "is_number")) := T.gl (T.fact 11)
theorem m_word_kind (T : Tx K mg) : mg "_word_kind" = some (.ref (He.ga K "_word_kind")) := T.gl (T.fact 12)
theorem m_token_at (T : Tx K mg) : mg "_token_at" = some (.ref (He.ga K "_token_at")) := T.gl (T.fact 13)
theorem m_comment_end (T : Tx K mg) : mg "_comment_end" = some (.ref (He.ga K "_comment_end")) := T.gl (T.fact 14)
theorem m_tokens (T : Tx K mg) : mg "tokens" = some (.ref (He.ga K "tokens")) := T.gl (T.fact 15)
theorem m_pairs (T : Tx K mg) : mg "_pairs" = some (.ref (He.ga K "_pairs")) := T.gl (T.fact 16)
theorem m_record_tree (T : Tx K mg) : mg "_record_tree" = some (.ref (He.ga K "_record_tree")) := T.gl (T.fact 17)
theorem m_tag (T : Tx K mg) : mg "_tag" = some (.ref (He.ga K "_tag")) := T.gl (T.fact 18)
theorem m_variant (T : Tx K mg) : mg "_variant" = some (.ref (He.ga K "_variant")) := T.gl (T.fact 19)
theorem m_list (T : Tx K mg) : mg "_list" = some (.ref (He.ga K "_list")) := T.gl (T.fact 20)
theorem m_names (T : Tx K mg) : mg "_names" = some (.ref (He.ga K "_names")) := T.gl (T.fact 21)
theorem m_block (T : Tx K mg) : mg "_block" = some (.ref (He.ga K "_block")) := T.gl (T.fact 22)
theorem m_case (T : Tx K mg) : mg "_case" = some (.ref (He.ga K "_case")) := T.gl (T.fact 23)
theorem m_match (T : Tx K mg) : mg "_match" = some (.ref (He.ga K "_match")) := T.gl (T.fact 24)
theorem m_if (T : Tx K mg) : mg "_if" = some (.ref (He.ga K "_if")) := T.gl (T.fact 25)
theorem m_let (T : Tx K mg) : mg "_let" = some (.ref (He.ga K "_let")) := T.gl (T.fact 26)
theorem m_open (T : Tx K mg) : mg "_open" = some (.ref (He.ga K "_open")) := T.gl (T.fact 27)
theorem m_push (T : Tx K mg) : mg "_push" = some (.ref (He.ga K "_push")) := T.gl (T.fact 28)
theorem m_take (T : Tx K mg) : mg "_take" = some (.ref (He.ga K "_take")) := T.gl (T.fact 29)
theorem m_place_or_call (T : Tx K mg) : mg "_place_or_call" = some (.ref (He.ga K "_place_or_call")) := T.gl (T.fact 30)
theorem m_simple (T : Tx K mg) : mg "_simple" = some (.ref (He.ga K "_simple")) := T.gl (T.fact 31)
theorem m_statement (T : Tx K mg) : mg "_statement" = some (.ref (He.ga K "_statement")) := T.gl (T.fact 32)
theorem m_function (T : Tx K mg) : mg "_function" = some (.ref (He.ga K "_function")) := T.gl (T.fact 33)
theorem m_parse (T : Tx K mg) : mg "parse" = some (.ref (He.ga K "parse")) := T.gl (T.fact 34)
theorem m_law_mix (T : Tx K mg) : mg "_law_mix" = some (.ref (He.ga K "_law_mix")) := T.gl (T.fact 35)
theorem m_law_stream (T : Tx K mg) : mg "_law_stream" = some (.ref (He.ga K "_law_stream")) := T.gl (T.fact 36)
theorem m_law_pick (T : Tx K mg) : mg "_law_pick" = some (.ref (He.ga K "_law_pick")) := T.gl (T.fact 37)
theorem m_law_name (T : Tx K mg) : mg "_law_name" = some (.ref (He.ga K "_law_name")) := T.gl (T.fact 38)
theorem m_law_number (T : Tx K mg) : mg "_law_number" = some (.ref (He.ga K "_law_number")) := T.gl (T.fact 39)
theorem m_law_kind (T : Tx K mg) : mg "_law_kind" = some (.ref (He.ga K "_law_kind")) := T.gl (T.fact 40)
theorem m_law_place (T : Tx K mg) : mg "_law_place" = some (.ref (He.ga K "_law_place")) := T.gl (T.fact 41)
theorem m_law_call (T : Tx K mg) : mg "_law_call" = some (.ref (He.ga K "_law_call")) := T.gl (T.fact 42)
theorem m_law_expr (T : Tx K mg) : mg "_law_expr" = some (.ref (He.ga K "_law_expr")) := T.gl (T.fact 43)
theorem m_law_names (T : Tx K mg) : mg "_law_names" = some (.ref (He.ga K "_law_names")) := T.gl (T.fact 44)
theorem m_law_simple (T : Tx K mg) : mg "_law_simple" = some (.ref (He.ga K "_law_simple")) := T.gl (T.fact 45)
theorem m_law_statement (T : Tx K mg) : mg "_law_statement" = some (.ref (He.ga K "_law_statement")) := T.gl (T.fact 46)
theorem m_law_block (T : Tx K mg) : mg "_law_block" = some (.ref (He.ga K "_law_block")) := T.gl (T.fact 47)
theorem m_law_pairs (T : Tx K mg) : mg "_law_pairs" = some (.ref (He.ga K "_law_pairs")) := T.gl (T.fact 48)
theorem m_law_tags (T : Tx K mg) : mg "_law_tags" = some (.ref (He.ga K "_law_tags")) := T.gl (T.fact 49)
theorem m_law_function (T : Tx K mg) : mg "_law_function" = some (.ref (He.ga K "_law_function")) := T.gl (T.fact 50)
theorem m_law_program (T : Tx K mg) : mg "_law_program" = some (.ref (He.ga K "_law_program")) := T.gl (T.fact 51)
theorem m_law_row (T : Tx K mg) : mg "_law_row" = some (.ref (He.ga K "_law_row")) := T.gl (T.fact 52)
theorem m_law_rows (T : Tx K mg) : mg "_law_rows" = some (.ref (He.ga K "_law_rows")) := T.gl (T.fact 53)
theorem m_law_tag_text (T : Tx K mg) : mg "_law_tag_text" = some (.ref (He.ga K "_law_tag_text")) := T.gl (T.fact 54)
theorem m_law_listed (T : Tx K mg) : mg "_law_listed" = some (.ref (He.ga K "_law_listed")) := T.gl (T.fact 55)
theorem m_law_program_rows (T : Tx K mg) : mg "_law_program_rows" = some (.ref (He.ga K "_law_program_rows")) := T.gl (T.fact 56)
theorem m_law_kind_text (T : Tx K mg) : mg "_law_kind_text" = some (.ref (He.ga K "_law_kind_text")) := T.gl (T.fact 57)
theorem m_law_level (T : Tx K mg) : mg "_law_level" = some (.ref (He.ga K "_law_level")) := T.gl (T.fact 58)
theorem m_law_near (T : Tx K mg) : mg "_law_near" = some (.ref (He.ga K "_law_near")) := T.gl (T.fact 59)
theorem m_law_text (T : Tx K mg) : mg "_law_text" = some (.ref (He.ga K "_law_text")) := T.gl (T.fact 60)
theorem m_law_told (T : Tx K mg) : mg "_law_told" = some (.ref (He.ga K "_law_told")) := T.gl (T.fact 61)
theorem m_law_begun (T : Tx K mg) : mg "_law_begun" = some (.ref (He.ga K "_law_begun")) := T.gl (T.fact 62)
theorem m_law (T : Tx K mg) : mg "law" = some (.ref (He.ga K "law")) := T.gl (T.fact 63)
theorem m_Reader (T : Tx K mg) : mg "Reader" = some (.ref (He.ga K "Reader")) := T.gl (T.fact 64)
theorem m_Unexpected (T : Tx K mg) : mg "Unexpected" = some (.ref (He.ga K "Unexpected")) := T.gl (T.fact 65)
theorem m_TextError (T : Tx K mg) : mg "TextError" = some (.ref (He.ga K "TextError")) := T.gl (T.fact 66)
theorem m_OwnerError (T : Tx K mg) : mg "OwnerError" = some (.ref (He.ga K "OwnerError")) := T.gl (T.fact 67)
theorem m_PLACES (T : Tx K mg) : mg "PLACES" = some (.ref (He.ga K "PLACES")) := T.gl (T.fact 68)
theorem m_KEYWORDS (T : Tx K mg) : mg "KEYWORDS" = some (.ref (He.ga K "KEYWORDS")) := T.gl (T.fact 69)
theorem m_LONG_SIGNS (T : Tx K mg) : mg "LONG_SIGNS" = some (.ref (He.ga K "LONG_SIGNS")) := T.gl (T.fact 70)
theorem z_len (T : Tx K mg) : mg "len" = none := T.fr (T.fact 71)
theorem z_min (T : Tx K mg) : mg "min" = none := T.fr (T.fact 72)
theorem z_max (T : Tx K mg) : mg "max" = none := T.fr (T.fact 73)
theorem z_int (T : Tx K mg) : mg "int" = none := T.fr (T.fact 74)
theorem z_str (T : Tx K mg) : mg "str" = none := T.fr (T.fact 75)
theorem z_range (T : Tx K mg) : mg "range" = none := T.fr (T.fact 76)
theorem z_list (T : Tx K mg) : mg "list" = none := T.fr (T.fact 77)
theorem z_tuple (T : Tx K mg) : mg "tuple" = none := T.fr (T.fact 78)
theorem z_isinstance (T : Tx K mg) : mg "isinstance" = none := T.fr (T.fact 79)
theorem m_SHORT_SIGNS (T : Tx K mg) : ∃ t, mg "SHORT_SIGNS" = some (.str "{}()[],;:.=+-*<!" t) := T.st (T.fact 80)
theorem m_LETTERS (T : Tx K mg) : ∃ t, mg "LETTERS" = some (.str "abcdefghijklmnopqrstuvwxyzABCDEFGHIJKLMNOPQRSTUVWXYZ" t) := T.st (T.fact 81)
theorem m_DIGITS (T : Tx K mg) : ∃ t, mg "DIGITS" = some (.str "0123456789" t) := T.st (T.fact 82)
theorem m_MOST (T : Tx K mg) : ∃ t, mg "MOST" = some (.int 4294967295 t) := T.it (T.fact 83)
abbrev aR (K : PySem.W.Frag) : Addr := He.ga K "Reader"
theorem c_Reader (T : Tx K mg) : Cls K (aR K) := He.cls_ok (T.fact 84)
theorem n_row (T : Tx K mg) : NoAttr K (aR K) "_row" := He.noat_ok (T.fact 85)
theorem n_at (T : Tx K mg) : NoAttr K (aR K) "_at" := He.noat_ok (T.fact 86)
theorem mk_Reader (T : Tx K mg) : Mk K (aR K) (He.ma K (aR K) "__init__") := He.mkr_ok (T.fact 87)
theorem mt_ahead (T : Tx K mg) : Meth K (aR K) "ahead" (He.ma K (aR K) "ahead") := He.meth_ok (T.fact 88)
theorem mt_kind (T : Tx K mg) : Meth K (aR K) "kind" (He.ma K (aR K) "kind") := He.meth_ok (T.fact 89)
theorem mt_fail (T : Tx K mg) : Meth K (aR K) "fail" (He.ma K (aR K) "fail") := He.meth_ok (T.fact 90)
theorem mt_is_next (T : Tx K mg) : Meth K (aR K) "is_next" (He.ma K (aR K) "is_next") := He.meth_ok (T.fact 91)
theorem mt_take (T : Tx K mg) : Meth K (aR K) "take" (He.ma K (aR K) "take") := He.meth_ok (T.fact 92)
theorem mt_expect (T : Tx K mg) : Meth K (aR K) "expect" (He.ma K (aR K) "expect") := He.meth_ok (T.fact 93)
theorem mt_skip (T : Tx K mg) : Meth K (aR K) "skip" (He.ma K (aR K) "skip") := He.meth_ok (T.fact 94)
/-! ### the defs -/
abbrev a_parse_kind (K : PySem.W.Frag) : Addr := He.fAd K ("parse_kind", none)
theorem F_parse_kind (T : Tx K mg) : FunD K "parse_kind" "parse_kind" (defArgs s_parse_kind) (defBody s_parse_kind) (defScope s_parse_kind) [] [] (a_parse_kind K) (fdOf K d_parse_kind) := T.fd 0 (d := d_parse_kind)
theorem sc_parse_kind : FnScope ["reader", "word"] ["reader"] (defScope s_parse_kind) := ⟨rfl, rfl, rfl, by decide +kernel, rfl, by decide +kernel, by decide +kernel⟩
theorem B_parse_kind (T : Tx K mg) : Binds K (fdOf K d_parse_kind) ["reader"] [] := (F_parse_kind T).bindsN fun _ _ _ _ _ _ us hl => match us, hl with | [_], _ => rfl
abbrev a_need_place (K : PySem.W.Frag) : Addr := He.fAd K ("need_place", none)
theorem F_need_place (T : Tx K mg) : FunD K "need_place" "need_place" (defArgs s_need_place) (defBody s_need_place) (defScope s_need_place) [] [] (a_need_place K) (fdOf K d_need_place) := T.fd 1 (d := d_need_place)
theorem sc_need_place : FnScope ["reader", "tree"] ["reader", "tree"] (defScope s_need_place) := ⟨rfl, rfl, rfl, by decide +kernel, rfl, by decide +kernel, by decide +kernel⟩
theorem B_need_place (T : Tx K mg) : Binds K (fdOf K d_need_place) ["reader", "tree"] [] := (F_need_place T).bindsN fun _ _ _ _ _ _ us hl => match us, hl with | [_, _], _ => rfl
abbrev a_parse_place (K : PySem.W.Frag) : Addr := He.fAd K ("parse_place", none)
theorem F_parse_place (T : Tx K mg) : FunD K "parse_place" "parse_place" (defArgs s_parse_place) (defBody s_parse_place) (defScope s_parse_place) [] [] (a_parse_place K) (fdOf K d_parse_place) := T.fd 2 (d := d_parse_place)
theorem sc_parse_place : FnScope ["reader", "tree"] ["reader"] (defScope s_parse_place) := ⟨rfl, rfl, rfl, by decide +kernel, rfl, by decide +kernel, by decide +kernel⟩
theorem B_parse_place (T : Tx K mg) : Binds K (fdOf K d_parse_place) ["reader"] [] := (F_parse_place T).bindsN fun _ _ _ _ _ _ us hl => match us, hl with | [_], _ => rfl
abbrev a_parse_exprs (K : PySem.W.Frag) : Addr := He.fAd K ("parse_exprs", none)
theorem F_parse_exprs (T : Tx K mg) : FunD K "parse_exprs" "parse_exprs" (defArgs s_parse_exprs) (defBody s_parse_exprs) (defScope s_parse_exprs) [] [] (a_parse_exprs K) (fdOf K d_parse_exprs) := T.fd 3 (d := d_parse_exprs)
theorem sc_parse_exprs : FnScope ["reader", "found"] ["reader"] (defScope s_parse_exprs) := ⟨rfl, rfl, rfl, by decide +kernel, rfl, by decide +kernel, by decide +kernel⟩
theorem B_parse_exprs (T : Tx K mg) : Binds K (fdOf K d_parse_exprs) ["reader"] [] := (F_parse_exprs T).bindsN fun _ _ _ _ _ _ us hl => match us, hl with | [_], _ => rfl
abbrev a_primary (K : PySem.W.Frag) : Addr := He.fAd K ("_primary", none)
theorem F_primary (T : Tx K mg) : FunD K "_primary" "_primary" (defArgs s_primary) (defBody s_primary) (defScope s_primary) [] [] (a_primary K) (fdOf K d_primary) := T.fd 4 (d := d_primary)
theorem sc_primary : FnScope ["reader", "tree", "name"] ["reader"] (defScope s_primary) := ⟨rfl, rfl, rfl, by decide +kernel, rfl, by decide +kernel, by decide +kernel⟩
theorem B_primary (T : Tx K mg) : Binds K (fdOf K d_primary) ["reader"] [] := (F_primary T).bindsN fun _ _ _ _ _ _ us hl => match us, hl with | [_], _ => rfl
abbrev a_parse_postfix (K : PySem.W.Frag) : Addr := He.fAd K ("parse_postfix", none)
theorem F_parse_postfix (T : Tx K mg) : FunD K "parse_postfix" "parse_postfix" (defArgs s_parse_postfix) (defBody s_parse_postfix) (defScope s_parse_postfix) [] [] (a_parse_postfix K) (fdOf K d_parse_postfix) := T.fd 5 (d := d_parse_postfix)
theorem sc_parse_postfix : FnScope ["reader", "tree"] ["reader"] (defScope s_parse_postfix) := ⟨rfl, rfl, rfl, by decide +kernel, rfl, by decide +kernel, by decide +kernel⟩
theorem B_parse_postfix (T : Tx K mg) : Binds K (fdOf K d_parse_postfix) ["reader"] [] := (F_parse_postfix T).bindsN fun _ _ _ _ _ _ us hl => match us, hl with | [_], _ => rfl
abbrev a_unary (K : PySem.W.Frag) : Addr := He.fAd K ("_unary", none)
theorem F_unary (T : Tx K mg) : FunD K "_unary" "_unary" (defArgs s_unary) (defBody s_unary) (defScope s_unary) [] [] (a_unary K) (fdOf K d_unary) := T.fd 6 (d := d_unary)
theorem sc_unary : FnScope ["reader", "word"] ["reader"] (defScope s_unary) := ⟨rfl, rfl, rfl, by decide +kernel, rfl, by decide +kernel, by decide +kernel⟩
theorem B_unary (T : Tx K mg) : Binds K (fdOf K d_unary) ["reader"] [] := (F_unary T).bindsN fun _ _ _ _ _ _ us hl => match us, hl with | [_], _ => rfl
abbrev a_product (K : PySem.W.Frag) : Addr := He.fAd K ("_product", none)
theorem F_product (T : Tx K mg) : FunD K "_product" "_product" (defArgs s_product) (defBody s_product) (defScope s_product) [] [] (a_product K) (fdOf K d_product) := T.fd 7 (d := d_product)
theorem sc_product : FnScope ["reader", "tree"] ["reader"] (defScope s_product) := ⟨rfl, rfl, rfl, by decide +kernel, rfl, by decide +kernel, by decide +kernel⟩
theorem B_product (T : Tx K mg) : Binds K (fdOf K d_product) ["reader"] [] := (F_product T).bindsN fun _ _ _ _ _ _ us hl => match us, hl with | [_], _ => rfl
abbrev a_total (K : PySem.W.Frag) : Addr := He.fAd K ("_total", none)
theorem F_total (T : Tx K mg) : FunD K "_total" "_total" (defArgs s_total) (defBody s_total) (defScope s_total) [] [] (a_total K) (fdOf K d_total) := T.fd 8 (d := d_total)
theorem sc_total : FnScope ["reader", "tree", "sign"] ["reader"] (defScope s_total) := ⟨rfl, rfl, rfl, by decide +kernel, rfl, by decide +kernel, by decide +kernel⟩
theorem B_total (T : Tx K mg) : Binds K (fdOf K d_total) ["reader"] [] := (F_total T).bindsN fun _ _ _ _ _ _ us hl => match us, hl with | [_], _ => rfl
abbrev a_parse_one (K : PySem.W.Frag) : Addr := He.fAd K ("parse_one", none)
theorem F_parse_one (T : Tx K mg) : FunD K "parse_one" "parse_one" (defArgs s_parse_one) (defBody s_parse_one) (defScope s_parse_one) [] [] (a_parse_one K) (fdOf K d_parse_one) := T.fd 9 (d := d_parse_one)
theorem sc_parse_one : FnScope ["reader", "tree", "sign"] ["reader"] (defScope s_parse_one) := ⟨rfl, rfl, rfl, by decide +kernel, rfl, by decide +kernel, by decide +kernel⟩
theorem B_parse_one (T : Tx K mg) : Binds K (fdOf K d_parse_one) ["reader"] [] := (F_parse_one T).bindsN fun _ _ _ _ _ _ us hl => match us, hl with | [_], _ => rfl
abbrev a_TextError_init (K : PySem.W.Frag) : Addr := He.fAd K ("TextError", some "__init__")
theorem F_TextError_init (T : Tx K mg) : FunD K "__init__" "TextError.__init__" (defArgs s_TextError_init) (defBody s_TextError_init) (defScope s_TextError_init) [] [] (a_TextError_init K) (fdOf K d_TextError_init) := T.fd 10 (d := d_TextError_init)
theorem sc_TextError_init : FnScope ["self", "row", "column"] ["self", "row", "column"] (defScope s_TextError_init) := ⟨rfl, rfl, rfl, by decide +kernel, rfl, by decide +kernel, by decide +kernel⟩
theorem B_TextError_init (T : Tx K mg) : Binds K (fdOf K d_TextError_init) ["self", "row", "column"] [] := (F_TextError_init T).bindsN fun _ _ _ _ _ _ us hl => match us, hl with | [_, _, _], _ => rfl
abbrev a_Reader_init (K : PySem.W.Frag) : Addr := He.fAd K ("Reader", some "__init__")
theorem F_Reader_init (T : Tx K mg) : FunD K "__init__" "Reader.__init__" (defArgs s_Reader_init) (defBody s_Reader_init) (defScope s_Reader_init) [] [] (a_Reader_init K) (fdOf K d_Reader_init) := T.fd 11 (d := d_Reader_init)
theorem sc_Reader_init : FnScope ["self", "row"] ["self", "row"] (defScope s_Reader_init) := ⟨rfl, rfl, rfl, by decide +kernel, rfl, by decide +kernel, by decide +kernel⟩
theorem B_Reader_init (T : Tx K mg) : Binds K (fdOf K d_Reader_init) ["self", "row"] [] := (F_Reader_init T).bindsN fun _ _ _ _ _ _ us hl => match us, hl with | [_, _], _ => rfl
abbrev a_Reader_ahead (K : PySem.W.Frag) : Addr := He.fAd K ("Reader", some "ahead")
theorem F_Reader_ahead (T : Tx K mg) : FunD K "ahead" "Reader.ahead" (defArgs s_Reader_ahead) (defBody s_Reader_ahead) (defScope s_Reader_ahead) [] [] (a_Reader_ahead K) (fdOf K d_Reader_ahead) := T.fd 12 (d := d_Reader_ahead)
theorem sc_Reader_ahead : FnScope ["self", "many"] ["self", "many"] (defScope s_Reader_ahead) := ⟨rfl, rfl, rfl, by decide +kernel, rfl, by decide +kernel, by decide +kernel⟩
theorem B_Reader_ahead (T : Tx K mg) : Binds K (fdOf K d_Reader_ahead) ["self", "many"] [] := (F_Reader_ahead T).bindsN fun _ _ _ _ _ _ us hl => match us, hl with | [_, _], _ => rfl
abbrev a_Reader_kind (K : PySem.W.Frag) : Addr := He.fAd K ("Reader", some "kind")
theorem F_Reader_kind (T : Tx K mg) : FunD K "kind" "Reader.kind" (defArgs s_Reader_kind) (defBody s_Reader_kind) (defScope s_Reader_kind) [] [] (a_Reader_kind K) (fdOf K d_Reader_kind) := T.fd 13 (d := d_Reader_kind)
theorem sc_Reader_kind : FnScope ["self"] ["self"] (defScope s_Reader_kind) := ⟨rfl, rfl, rfl, by decide +kernel, rfl, by decide +kernel, by decide +kernel⟩
theorem B_Reader_kind (T : Tx K mg) : Binds K (fdOf K d_Reader_kind) ["self"] [] := (F_Reader_kind T).bindsN fun _ _ _ _ _ _ us hl => match us, hl with | [_], _ => rfl
abbrev a_Reader_fail (K : PySem.W.Frag) : Addr := He.fAd K ("Reader", some "fail")
theorem F_Reader_fail (T : Tx K mg) : FunD K "fail" "Reader.fail" (defArgs s_Reader_fail) (defBody s_Reader_fail) (defScope s_Reader_fail) [] [] (a_Reader_fail K) (fdOf K d_Reader_fail) := T.fd 14 (d := d_Reader_fail)
theorem sc_Reader_fail : FnScope ["self", "token"] ["self"] (defScope s_Reader_fail) := ⟨rfl, rfl, rfl, by decide +kernel, rfl, by decide +kernel, by decide +kernel⟩
theorem B_Reader_fail (T : Tx K mg) : Binds K (fdOf K d_Reader_fail) ["self"] [] := (F_Reader_fail T).bindsN fun _ _ _ _ _ _ us hl => match us, hl with | [_], _ => rfl
abbrev a_Reader_is_next (K : PySem.W.Frag) : Addr := He.fAd K ("Reader", some "is_next")
theorem F_Reader_is_next (T : Tx K mg) : FunD K "is_next" "Reader.is_next" (defArgs s_Reader_is_next) (defBody s_Reader_is_next) (defScope s_Reader_is_next) [.int 0] [] (a_Reader_is_next K) (fdOf K d_Reader_is_next) := T.fd 15 (d := d_Reader_is_next)
theorem sc_Reader_is_next : FnScope ["self", "text", "many", "token"] ["self", "text", "many"] (defScope s_Reader_is_next) := ⟨rfl, rfl, rfl, by decide +kernel, rfl, by decide +kernel, by decide +kernel⟩
abbrev a_Reader_take (K : PySem.W.Frag) : Addr := He.fAd K ("Reader", some "take")
theorem F_Reader_take (T : Tx K mg) : FunD K "take" "Reader.take" (defArgs s_Reader_take) (defBody s_Reader_take) (defScope s_Reader_take) [] [] (a_Reader_take K) (fdOf K d_Reader_take) := T.fd 16 (d := d_Reader_take)
theorem sc_Reader_take : FnScope ["self", "kind"] ["self", "kind"] (defScope s_Reader_take) := ⟨rfl, rfl, rfl, by decide +kernel, rfl, by decide +kernel, by decide +kernel⟩
theorem B_Reader_take (T : Tx K mg) : Binds K (fdOf K d_Reader_take) ["self", "kind"] [] := (F_Reader_take T).bindsN fun _ _ _ _ _ _ us hl => match us, hl with | [_, _], _ => rfl
abbrev a_Reader_expect (K : PySem.W.Frag) : Addr := He.fAd K ("Reader", some "expect")
theorem F_Reader_expect (T : Tx K mg) : FunD K "expect" "Reader.expect" (defArgs s_Reader_expect) (defBody s_Reader_expect) (defScope s_Reader_expect) [] [] (a_Reader_expect K) (fdOf K d_Reader_expect) := T.fd 17 (d := d_Reader_expect)
theorem sc_Reader_expect : FnScope ["self", "text"] ["self", "text"] (defScope s_Reader_expect) := ⟨rfl, rfl, rfl, by decide +kernel, rfl, by decide +kernel, by decide +kernel⟩
theorem B_Reader_expect (T : Tx K mg) : Binds K (fdOf K d_Reader_expect) ["self", "text"] [] := (F_Reader_expect T).bindsN fun _ _ _ _ _ _ us hl => match us, hl with | [_, _], _ => rfl
abbrev a_Reader_skip (K : PySem.W.Frag) : Addr := He.fAd K ("Reader", some "skip")
theorem F_Reader_skip (T : Tx K mg) : FunD K "skip" "Reader.skip" (defArgs s_Reader_skip) (defBody s_Reader_skip) (defScope s_Reader_skip) [] [] (a_Reader_skip K) (fdOf K d_Reader_skip) := T.fd 18 (d := d_Reader_skip)
theorem sc_Reader_skip : FnScope ["self", "text"] ["self", "text"] (defScope s_Reader_skip) := ⟨rfl, rfl, rfl, by decide +kernel, rfl, by decide +kernel, by decide +kernel⟩
theorem B_Reader_skip (T : Tx K mg) : Binds K (fdOf K d_Reader_skip) ["self", "text"] [] := (F_Reader_skip T).bindsN fun _ _ _ _ _ _ us hl => match us, hl with | [_, _], _ => rfl
abbrev a_word_end (K : PySem.W.Frag) : Addr := He.fAd K ("_word_end", none)
theorem F_word_end (T : Tx K mg) : FunD K "_word_end" "_word_end" (defArgs s_word_end) (defBody s_word_end) (defScope s_word_end) [] [] (a_word_end K) (fdOf K d_word_end) := T.fd 19 (d := d_word_end)
theorem sc_word_end : FnScope ["text", "start", "end"] ["text", "start"] (defScope s_word_end) := ⟨rfl, rfl, rfl, by decide +kernel, rfl, by decide +kernel, by decide +kernel⟩
theorem B_word_end (T : Tx K mg) : Binds K (fdOf K d_word_end) ["text", "start"] [] := (F_word_end T).bindsN fun _ _ _ _ _ _ us hl => match us, hl with | [_, _], _ => rfl
abbrev a_is_number (K : PySem.W.Frag) : Addr := He.fAd K ("is_number", none)
theorem F_is_number (T : Tx K mg) : FunD K "is_number" "is_number" (defArgs s_is_number) (defBody s_is_number) (defScope s_is_number) [] [] (a_is_number K) (fdOf K d_is_number) := T.fd 20 (d := d_is_number)
theorem sc_is_number : FnScope ["word", "char"] ["word"] (defScope s_is_number) := ⟨rfl, rfl, rfl, by decide +kernel, rfl, by decide +kernel, by decide +kernel⟩
theorem B_is_number (T : Tx K mg) : Binds K (fdOf K d_is_number) ["word"] [] := (F_is_number T).bindsN fun _ _ _ _ _ _ us hl => match us, hl with | [_], _ => rfl
abbrev a_word_kind (K : PySem.W.Frag) : Addr := He.fAd K ("_word_kind", none)
theorem F_word_kind (T : Tx K mg) : FunD K "_word_kind" "_word_kind" (defArgs s_word_kind) (defBody s_word_kind) (defScope s_word_kind) [] [] (a_word_kind K) (fdOf K d_word_kind) := T.fd 21 (d := d_word_kind)
theorem sc_word_kind : FnScope ["word", "row", "column"] ["word", "row", "column"] (defScope s_word_kind) := ⟨rfl, rfl, rfl, by decide +kernel, rfl, by decide +kernel, by decide +kernel⟩
theorem B_word_kind (T : Tx K mg) : Binds K (fdOf K d_word_kind) ["word", "row", "column"] [] := (F_word_kind T).bindsN fun _ _ _ _ _ _ us hl => match us, hl with | [_, _, _], _ => rfl
abbrev a_token_at (K : PySem.W.Frag) : Addr := He.fAd K ("_token_at", none)
theorem F_token_at (T : Tx K mg) : FunD K "_token_at" "_token_at" (defArgs s_token_at) (defBody s_token_at) (defScope s_token_at) [] [] (a_token_at K) (fdOf K d_token_at) := T.fd 22 (d := d_token_at)
theorem sc_token_at : FnScope ["text", "start", "row", "column", "char", "word"] ["text", "start", "row", "column"] (defScope s_token_at) := ⟨rfl, rfl, rfl, by decide +kernel, rfl, by decide +kernel, by decide +kernel⟩
theorem B_token_at (T : Tx K mg) : Binds K (fdOf K d_token_at) ["text", "start", "row", "column"] [] := (F_token_at T).bindsN fun _ _ _ _ _ _ us hl => match us, hl with | [_, _, _, _], _ => rfl
abbrev a_comment_end (K : PySem.W.Frag) : Addr := He.fAd K ("_comment_end", none)
theorem F_comment_end (T : Tx K mg) : FunD K "_comment_end" "_comment_end" (defArgs s_comment_end) (defBody s_comment_end) (defScope s_comment_end) [] [] (a_comment_end K) (fdOf K d_comment_end) := T.fd 23 (d := d_comment_end)
theorem sc_comment_end : FnScope ["text", "start", "end"] ["text", "start"] (defScope s_comment_end) := ⟨rfl, rfl, rfl, by decide +kernel, rfl, by decide +kernel, by decide +kernel⟩
theorem B_comment_end (T : Tx K mg) : Binds K (fdOf K d_comment_end) ["text", "start"] [] := (F_comment_end T).bindsN fun _ _ _ _ _ _ us hl => match us, hl with | [_, _], _ => rfl
abbrev a_tokens (K : PySem.W.Frag) : Addr := He.fAd K ("tokens", none)
theorem F_tokens (T : Tx K mg) : FunD K "tokens" "tokens" (defArgs s_tokens) (defBody s_tokens) (defScope s_tokens) [] [] (a_tokens K) (fdOf K d_tokens) := T.fd 24 (d := d_tokens)
theorem sc_tokens : FnScope ["text", "found", "at", "row", "begin", "token"] ["text"] (defScope s_tokens) := ⟨rfl, rfl, rfl, by decide +kernel, rfl, by decide +kernel, by decide +kernel⟩
theorem B_tokens (T : Tx K mg) : Binds K (fdOf K d_tokens) ["text"] [] := (F_tokens T).bindsN fun _ _ _ _ _ _ us hl => match us, hl with | [_], _ => rfl
abbrev a_pairs (K : PySem.W.Frag) : Addr := He.fAd K ("_pairs", none)
theorem F_pairs (T : Tx K mg) : FunD K "_pairs" "_pairs" (defArgs s_pairs) (defBody s_pairs) (defScope s_pairs) [] [] (a_pairs K) (fdOf K d_pairs) := T.fd 25 (d := d_pairs)
theorem sc_pairs : FnScope ["reader", "last", "found", "name"] ["reader", "last"] (defScope s_pairs) := ⟨rfl, rfl, rfl, by decide +kernel, rfl, by decide +kernel, by decide +kernel⟩
theorem B_pairs (T : Tx K mg) : Binds K (fdOf K d_pairs) ["reader", "last"] [] := (F_pairs T).bindsN fun _ _ _ _ _ _ us hl => match us, hl with | [_, _], _ => rfl
abbrev a_record_tree (K : PySem.W.Frag) : Addr := He.fAd K ("_record_tree", none)
theorem F_record_tree (T : Tx K mg) : FunD K "_record_tree" "_record_tree" (defArgs s_record_tree) (defBody s_record_tree) (defScope s_record_tree) [] [] (a_record_tree K) (fdOf K d_record_tree) := T.fd 26 (d := d_record_tree)
theorem sc_record_tree : FnScope ["reader", "name"] ["reader"] (defScope s_record_tree) := ⟨rfl, rfl, rfl, by decide +kernel, rfl, by decide +kernel, by decide +kernel⟩
theorem B_record_tree (T : Tx K mg) : Binds K (fdOf K d_record_tree) ["reader"] [] := (F_record_tree T).bindsN fun _ _ _ _ _ _ us hl => match us, hl with | [_], _ => rfl
abbrev a_tag (K : PySem.W.Frag) : Addr := He.fAd K ("_tag", none)
theorem F_tag (T : Tx K mg) : FunD K "_tag" "_tag" (defArgs s_tag) (defBody s_tag) (defScope s_tag) [] [] (a_tag K) (fdOf K d_tag) := T.fd 27 (d := d_tag)
theorem sc_tag : FnScope ["reader", "name", "found"] ["reader"] (defScope s_tag) := ⟨rfl, rfl, rfl, by decide +kernel, rfl, by decide +kernel, by decide +kernel⟩
theorem B_tag (T : Tx K mg) : Binds K (fdOf K d_tag) ["reader"] [] := (F_tag T).bindsN fun _ _ _ _ _ _ us hl => match us, hl with | [_], _ => rfl
abbrev a_variant (K : PySem.W.Frag) : Addr := He.fAd K ("_variant", none)
theorem F_variant (T : Tx K mg) : FunD K "_variant" "_variant" (defArgs s_variant) (defBody s_variant) (defScope s_variant) [] [] (a_variant K) (fdOf K d_variant) := T.fd 28 (d := d_variant)
theorem sc_variant : FnScope ["reader", "name", "found"] ["reader"] (defScope s_variant) := ⟨rfl, rfl, rfl, by decide +kernel, rfl, by decide +kernel, by decide +kernel⟩
theorem B_variant (T : Tx K mg) : Binds K (fdOf K d_variant) ["reader"] [] := (F_variant T).bindsN fun _ _ _ _ _ _ us hl => match us, hl with | [_], _ => rfl
abbrev a_list (K : PySem.W.Frag) : Addr := He.fAd K ("_list", none)
theorem F_list (T : Tx K mg) : FunD K "_list" "_list" (defArgs s_list) (defBody s_list) (defScope s_list) [] [] (a_list K) (fdOf K d_list) := T.fd 29 (d := d_list)
theorem sc_list : FnScope ["reader", "found"] ["reader"] (defScope s_list) := ⟨rfl, rfl, rfl, by decide +kernel, rfl, by decide +kernel, by decide +kernel⟩
theorem B_list (T : Tx K mg) : Binds K (fdOf K d_list) ["reader"] [] := (F_list T).bindsN fun _ _ _ _ _ _ us hl => match us, hl with | [_], _ => rfl
abbrev a_names (K : PySem.W.Frag) : Addr := He.fAd K ("_names", none)
theorem F_names (T : Tx K mg) : FunD K "_names" "_names" (defArgs s_names) (defBody s_names) (defScope s_names) [] [] (a_names K) (fdOf K d_names) := T.fd 30 (d := d_names)
theorem sc_names : FnScope ["reader", "found"] ["reader"] (defScope s_names) := ⟨rfl, rfl, rfl, by decide +kernel, rfl, by decide +kernel, by decide +kernel⟩
theorem B_names (T : Tx K mg) : Binds K (fdOf K d_names) ["reader"] [] := (F_names T).bindsN fun _ _ _ _ _ _ us hl => match us, hl with | [_], _ => rfl
abbrev a_block (K : PySem.W.Frag) : Addr := He.fAd K ("_block", none)
theorem F_block (T : Tx K mg) : FunD K "_block" "_block" (defArgs s_block) (defBody s_block) (defScope s_block) [] [] (a_block K) (fdOf K d_block) := T.fd 31 (d := d_block)
theorem sc_block : FnScope ["reader", "found"] ["reader"] (defScope s_block) := ⟨rfl, rfl, rfl, by decide +kernel, rfl, by decide +kernel, by decide +kernel⟩
theorem B_block (T : Tx K mg) : Binds K (fdOf K d_block) ["reader"] [] := (F_block T).bindsN fun _ _ _ _ _ _ us hl => match us, hl with | [_], _ => rfl
abbrev a_case (K : PySem.W.Frag) : Addr := He.fAd K ("_case", none)
theorem F_case (T : Tx K mg) : FunD K "_case" "_case" (defArgs s_case) (defBody s_case) (defScope s_case) [] [] (a_case K) (fdOf K d_case) := T.fd 32 (d := d_case)
theorem sc_case : FnScope ["reader", "tag", "names"] ["reader"] (defScope s_case) := ⟨rfl, rfl, rfl, by decide +kernel, rfl, by decide +kernel, by decide +kernel⟩
theorem B_case (T : Tx K mg) : Binds K (fdOf K d_case) ["reader"] [] := (F_case T).bindsN fun _ _ _ _ _ _ us hl => match us, hl with | [_], _ => rfl
abbrev a_match (K : PySem.W.Frag) : Addr := He.fAd K ("_match", none)
theorem F_match (T : Tx K mg) : FunD K "_match" "_match" (defArgs s_match) (defBody s_match) (defScope s_match) [] [] (a_match K) (fdOf K d_match) := T.fd 33 (d := d_match)
theorem sc_match : FnScope ["reader", "how", "word", "place", "cases"] ["reader"] (defScope s_match) := ⟨rfl, rfl, rfl, by decide +kernel, rfl, by decide +kernel, by decide +kernel⟩
theorem B_match (T : Tx K mg) : Binds K (fdOf K d_match) ["reader"] [] := (F_match T).bindsN fun _ _ _ _ _ _ us hl => match us, hl with | [_], _ => rfl
abbrev a_if (K : PySem.W.Frag) : Addr := He.fAd K ("_if", none)
theorem F_if (T : Tx K mg) : FunD K "_if" "_if" (defArgs s_if) (defBody s_if) (defScope s_if) [] [] (a_if K) (fdOf K d_if) := T.fd 34 (d := d_if)
theorem sc_if : FnScope ["reader", "condition", "then", "other"] ["reader"] (defScope s_if) := ⟨rfl, rfl, rfl, by decide +kernel, rfl, by decide +kernel, by decide +kernel⟩
theorem B_if (T : Tx K mg) : Binds K (fdOf K d_if) ["reader"] [] := (F_if T).bindsN fun _ _ _ _ _ _ us hl => match us, hl with | [_], _ => rfl
abbrev a_let (K : PySem.W.Frag) : Addr := He.fAd K ("_let", none)
theorem F_let (T : Tx K mg) : FunD K "_let" "_let" (defArgs s_let) (defBody s_let) (defScope s_let) [] [] (a_let K) (fdOf K d_let) := T.fd 35 (d := d_let)
theorem sc_let : FnScope ["reader", "name", "kind"] ["reader"] (defScope s_let) := ⟨rfl, rfl, rfl, by decide +kernel, rfl, by decide +kernel, by decide +kernel⟩
theorem B_let (T : Tx K mg) : Binds K (fdOf K d_let) ["reader"] [] := (F_let T).bindsN fun _ _ _ _ _ _ us hl => match us, hl with | [_], _ => rfl
abbrev a_open (K : PySem.W.Frag) : Addr := He.fAd K ("_open", none)
theorem F_open (T : Tx K mg) : FunD K "_open" "_open" (defArgs s_open) (defBody s_open) (defScope s_open) [] [] (a_open K) (fdOf K d_open) := T.fd 36 (d := d_open)
theorem sc_open : FnScope ["reader", "tree"] ["reader"] (defScope s_open) := ⟨rfl, rfl, rfl, by decide +kernel, rfl, by decide +kernel, by decide +kernel⟩
theorem B_open (T : Tx K mg) : Binds K (fdOf K d_open) ["reader"] [] := (F_open T).bindsN fun _ _ _ _ _ _ us hl => match us, hl with | [_], _ => rfl
abbrev a_push (K : PySem.W.Frag) : Addr := He.fAd K ("_push", none)
theorem F_push (T : Tx K mg) : FunD K "_push" "_push" (defArgs s_push) (defBody s_push) (defScope s_push) [] [] (a_push K) (fdOf K d_push) := T.fd 37 (d := d_push)
theorem sc_push : FnScope ["reader", "place", "tree"] ["reader"] (defScope s_push) := ⟨rfl, rfl, rfl, by decide +kernel, rfl, by decide +kernel, by decide +kernel⟩
theorem B_push (T : Tx K mg) : Binds K (fdOf K d_push) ["reader"] [] := (F_push T).bindsN fun _ _ _ _ _ _ us hl => match us, hl with | [_], _ => rfl
abbrev a_take (K : PySem.W.Frag) : Addr := He.fAd K ("_take", none)
theorem F_take (T : Tx K mg) : FunD K "_take" "_take" (defArgs s_take) (defBody s_take) (defScope s_take) [] [] (a_take K) (fdOf K d_take) := T.fd 38 (d := d_take)
theorem sc_take : FnScope ["reader", "place"] ["reader"] (defScope s_take) := ⟨rfl, rfl, rfl, by decide +kernel, rfl, by decide +kernel, by decide +kernel⟩
theorem B_take (T : Tx K mg) : Binds K (fdOf K d_take) ["reader"] [] := (F_take T).bindsN fun _ _ _ _ _ _ us hl => match us, hl with | [_], _ => rfl
abbrev a_place_or_call (K : PySem.W.Frag) : Addr := He.fAd K ("_place_or_call", none)
theorem F_place_or_call (T : Tx K mg) : FunD K "_place_or_call" "_place_or_call" (defArgs s_place_or_call) (defBody s_place_or_call) (defScope s_place_or_call) [] [] (a_place_or_call K) (fdOf K d_place_or_call) := T.fd 39 (d := d_place_or_call)
theorem sc_place_or_call : FnScope ["reader", "tree"] ["reader"] (defScope s_place_or_call) := ⟨rfl, rfl, rfl, by decide +kernel, rfl, by decide +kernel, by decide +kernel⟩
theorem B_place_or_call (T : Tx K mg) : Binds K (fdOf K d_place_or_call) ["reader"] [] := (F_place_or_call T).bindsN fun _ _ _ _ _ _ us hl => match us, hl with | [_], _ => rfl
abbrev a_simple (K : PySem.W.Frag) : Addr := He.fAd K ("_simple", none)
theorem F_simple (T : Tx K mg) : FunD K "_simple" "_simple" (defArgs s_simple) (defBody s_simple) (defScope s_simple) [] [] (a_simple K) (fdOf K d_simple) := T.fd 40 (d := d_simple)
theorem sc_simple : FnScope ["reader"] ["reader"] (defScope s_simple) := ⟨rfl, rfl, rfl, by decide +kernel, rfl, by decide +kernel, by decide +kernel⟩
theorem B_simple (T : Tx K mg) : Binds K (fdOf K d_simple) ["reader"] [] := (F_simple T).bindsN fun _ _ _ _ _ _ us hl => match us, hl with | [_], _ => rfl
abbrev a_statement (K : PySem.W.Frag) : Addr := He.fAd K ("_statement", none)
theorem F_statement (T : Tx K mg) : FunD K "_statement" "_statement" (defArgs s_statement) (defBody s_statement) (defScope s_statement) [] [] (a_statement K) (fdOf K d_statement) := T.fd 41 (d := d_statement)
theorem sc_statement : FnScope ["reader", "condition", "first", "tree"] ["reader"] (defScope s_statement) := ⟨rfl, rfl, rfl, by decide +kernel, rfl, by decide +kernel, by decide +kernel⟩
theorem B_statement (T : Tx K mg) : Binds K (fdOf K d_statement) ["reader"] [] := (F_statement T).bindsN fun _ _ _ _ _ _ us hl => match us, hl with | [_], _ => rfl
abbrev a_function (K : PySem.W.Frag) : Addr := He.fAd K ("_function", none)
theorem F_function (T : Tx K mg) : FunD K "_function" "_function" (defArgs s_function) (defBody s_function) (defScope s_function) [] [] (a_function K) (fdOf K d_function) := T.fd 42 (d := d_function)
theorem sc_function : FnScope ["reader", "name", "params", "kind", "lent", "found", "result"] ["reader"] (defScope s_function) := ⟨rfl, rfl, rfl, by decide +kernel, rfl, by decide +kernel, by decide +kernel⟩
theorem B_function (T : Tx K mg) : Binds K (fdOf K d_function) ["reader"] [] := (F_function T).bindsN fun _ _ _ _ _ _ us hl => match us, hl with | [_], _ => rfl
abbrev a_parse (K : PySem.W.Frag) : Addr := He.fAd K ("parse", none)
theorem F_parse (T : Tx K mg) : FunD K "parse" "parse" (defArgs s_parse) (defBody s_parse) (defScope s_parse) [] [] (a_parse K) (fdOf K d_parse) := T.fd 43 (d := d_parse)
theorem sc_parse : FnScope ["text", "reader", "records", "variants", "functions"] ["text"] (defScope s_parse) := ⟨rfl, rfl, rfl, by decide +kernel, rfl, by decide +kernel, by decide +kernel⟩
theorem B_parse (T : Tx K mg) : Binds K (fdOf K d_parse) ["text"] [] := (F_parse T).bindsN fun _ _ _ _ _ _ us hl => match us, hl with | [_], _ => rfl
abbrev a_law_mix (K : PySem.W.Frag) : Addr := He.fAd K ("_law_mix", none)
theorem F_law_mix (T : Tx K mg) : FunD K "_law_mix" "_law_mix" (defArgs s_law_mix) (defBody s_law_mix) (defScope s_law_mix) [] [] (a_law_mix K) (fdOf K d_law_mix) := T.fd 44 (d := d_law_mix)
theorem sc_law_mix : FnScope ["_law_cell", "_law_k", "_law_low"] ["_law_cell", "_law_k"] (defScope s_law_mix) := ⟨rfl, rfl, rfl, by decide +kernel, rfl, by decide +kernel, by decide +kernel⟩
theorem B_law_mix (T : Tx K mg) : Binds K (fdOf K d_law_mix) ["_law_cell", "_law_k"] [] := (F_law_mix T).bindsN fun _ _ _ _ _ _ us hl => match us, hl with | [_, _], _ => rfl
abbrev a_law_stream (K : PySem.W.Frag) : Addr := He.fAd K ("_law_stream", none)
theorem F_law_stream (T : Tx K mg) : FunD K "_law_stream" "_law_stream" (defArgs s_law_stream) (defBody s_law_stream) (defScope s_law_stream) [] [] (a_law_stream K) (fdOf K d_law_stream) := T.fd 45 (d := d_law_stream)
theorem sc_law_stream : FnScope ["_law_script", "_law_most", "_law_row_here", "_law_k", "_law_rest", "_law_j"] ["_law_script", "_law_most"] (defScope s_law_stream) := ⟨rfl, rfl, rfl, by decide +kernel, rfl, by decide +kernel, by decide +kernel⟩
theorem B_law_stream (T : Tx K mg) : Binds K (fdOf K d_law_stream) ["_law_script", "_law_most"] [] := (F_law_stream T).bindsN fun _ _ _ _ _ _ us hl => match us, hl with | [_, _], _ => rfl
abbrev a_law_pick (K : PySem.W.Frag) : Addr := He.fAd K ("_law_pick", none)
theorem F_law_pick (T : Tx K mg) : FunD K "_law_pick" "_law_pick" (defArgs s_law_pick) (defBody s_law_pick) (defScope s_law_pick) [] [] (a_law_pick K) (fdOf K d_law_pick) := T.fd 46 (d := d_law_pick)
theorem sc_law_pick : FnScope ["_law_draws", "_law_many", "_law_at", "_law_number_here"] ["_law_draws", "_law_many"] (defScope s_law_pick) := ⟨rfl, rfl, rfl, by decide +kernel, rfl, by decide +kernel, by decide +kernel⟩
theorem B_law_pick (T : Tx K mg) : Binds K (fdOf K d_law_pick) ["_law_draws", "_law_many"] [] := (F_law_pick T).bindsN fun _ _ _ _ _ _ us hl => match us, hl with | [_, _], _ => rfl
abbrev a_law_name (K : PySem.W.Frag) : Addr := He.fAd K ("_law_name", none)
theorem F_law_name (T : Tx K mg) : FunD K "_law_name" "_law_name" (defArgs s_law_name) (defBody s_law_name) (defScope s_law_name) [] [] (a_law_name K) (fdOf K d_law_name) := T.fd 47 (d := d_law_name)
theorem sc_law_name : FnScope ["_law_draws"] ["_law_draws"] (defScope s_law_name) := ⟨rfl, rfl, rfl, by decide +kernel, rfl, by decide +kernel, by decide +kernel⟩
theorem B_law_name (T : Tx K mg) : Binds K (fdOf K d_law_name) ["_law_draws"] [] := (F_law_name T).bindsN fun _ _ _ _ _ _ us hl => match us, hl with | [_], _ => rfl
abbrev a_law_number (K : PySem.W.Frag) : Addr := He.fAd K ("_law_number", none)
theorem F_law_number (T : Tx K mg) : FunD K "_law_number" "_law_number" (defArgs s_law_number) (defBody s_law_number) (defScope s_law_number) [] [] (a_law_number K) (fdOf K d_law_number) := T.fd 48 (d := d_law_number)
theorem sc_law_number : FnScope ["_law_draws"] ["_law_draws"] (defScope s_law_number) := ⟨rfl, rfl, rfl, by decide +kernel, rfl, by decide +kernel, by decide +kernel⟩
theorem B_law_number (T : Tx K mg) : Binds K (fdOf K d_law_number) ["_law_draws"] [] := (F_law_number T).bindsN fun _ _ _ _ _ _ us hl => match us, hl with | [_], _ => rfl
abbrev a_law_kind (K : PySem.W.Frag) : Addr := He.fAd K ("_law_kind", none)
theorem F_law_kind (T : Tx K mg) : FunD K "_law_kind" "_law_kind" (defArgs s_law_kind) (defBody s_law_kind) (defScope s_law_kind) [] [] (a_law_kind K) (fdOf K d_law_kind) := T.fd 49 (d := d_law_kind)
theorem sc_law_kind : FnScope ["_law_draws", "_law_depth", "_law_pick_here"] ["_law_draws", "_law_depth"] (defScope s_law_kind) := ⟨rfl, rfl, rfl, by decide +kernel, rfl, by decide +kernel, by decide +kernel⟩
theorem B_law_kind (T : Tx K mg) : Binds K (fdOf K d_law_kind) ["_law_draws", "_law_depth"] [] := (F_law_kind T).bindsN fun _ _ _ _ _ _ us hl => match us, hl with | [_, _], _ => rfl
abbrev a_law_place (K : PySem.W.Frag) : Addr := He.fAd K ("_law_place", none)
theorem F_law_place (T : Tx K mg) : FunD K "_law_place" "_law_place" (defArgs s_law_place) (defBody s_law_place) (defScope s_law_place) [] [] (a_law_place K) (fdOf K d_law_place) := T.fd 50 (d := d_law_place)
theorem sc_law_place : FnScope ["_law_draws", "_law_depth", "_law_pick_here"] ["_law_draws", "_law_depth"] (defScope s_law_place) := ⟨rfl, rfl, rfl, by decide +kernel, rfl, by decide +kernel, by decide +kernel⟩
theorem B_law_place (T : Tx K mg) : Binds K (fdOf K d_law_place) ["_law_draws", "_law_depth"] [] := (F_law_place T).bindsN fun _ _ _ _ _ _ us hl => match us, hl with | [_, _], _ => rfl
abbrev a_law_call (K : PySem.W.Frag) : Addr := He.fAd K ("_law_call", none)
theorem F_law_call (T : Tx K mg) : FunD K "_law_call" "_law_call" (defArgs s_law_call) (defBody s_law_call) (defScope s_law_call) [] [] (a_law_call K) (fdOf K d_law_call) := T.fd 51 (d := d_law_call)
theorem sc_law_call : FnScope ["_law_draws", "_law_depth", "_law_k"] ["_law_draws", "_law_depth"] (defScope s_law_call) := ⟨rfl, rfl, rfl, by decide +kernel, rfl, by decide +kernel, by decide +kernel⟩
theorem B_law_call (T : Tx K mg) : Binds K (fdOf K d_law_call) ["_law_draws", "_law_depth"] [] := (F_law_call T).bindsN fun _ _ _ _ _ _ us hl => match us, hl with | [_, _], _ => rfl
abbrev a_law_expr (K : PySem.W.Frag) : Addr := He.fAd K ("_law_expr", none)
theorem F_law_expr (T : Tx K mg) : FunD K "_law_expr" "_law_expr" (defArgs s_law_expr) (defBody s_law_expr) (defScope s_law_expr) [] [] (a_law_expr K) (fdOf K d_law_expr) := T.fd 52 (d := d_law_expr)
theorem sc_law_expr : FnScope ["_law_draws", "_law_depth", "_law_pick_here", "_law_sign"] ["_law_draws", "_law_depth"] (defScope s_law_expr) := ⟨rfl, rfl, rfl, by decide +kernel, rfl, by decide +kernel, by decide +kernel⟩
theorem B_law_expr (T : Tx K mg) : Binds K (fdOf K d_law_expr) ["_law_draws", "_law_depth"] [] := (F_law_expr T).bindsN fun _ _ _ _ _ _ us hl => match us, hl with | [_, _], _ => rfl
abbrev a_law_names (K : PySem.W.Frag) : Addr := He.fAd K ("_law_names", none)
theorem F_law_names (T : Tx K mg) : FunD K "_law_names" "_law_names" (defArgs s_law_names) (defBody s_law_names) (defScope s_law_names) [] [] (a_law_names K) (fdOf K d_law_names) := T.fd 53 (d := d_law_names)
theorem sc_law_names : FnScope ["_law_draws", "_law_least", "_law_k"] ["_law_draws", "_law_least"] (defScope s_law_names) := ⟨rfl, rfl, rfl, by decide +kernel, rfl, by decide +kernel, by decide +kernel⟩
theorem B_law_names (T : Tx K mg) : Binds K (fdOf K d_law_names) ["_law_draws", "_law_least"] [] := (F_law_names T).bindsN fun _ _ _ _ _ _ us hl => match us, hl with | [_, _], _ => rfl
abbrev a_law_simple (K : PySem.W.Frag) : Addr := He.fAd K ("_law_simple", none)
theorem F_law_simple (T : Tx K mg) : FunD K "_law_simple" "_law_simple" (defArgs s_law_simple) (defBody s_law_simple) (defScope s_law_simple) [] [] (a_law_simple K) (fdOf K d_law_simple) := T.fd 54 (d := d_law_simple)
theorem sc_law_simple : FnScope ["_law_draws", "_law_pick_here"] ["_law_draws"] (defScope s_law_simple) := ⟨rfl, rfl, rfl, by decide +kernel, rfl, by decide +kernel, by decide +kernel⟩
theorem B_law_simple (T : Tx K mg) : Binds K (fdOf K d_law_simple) ["_law_draws"] [] := (F_law_simple T).bindsN fun _ _ _ _ _ _ us hl => match us, hl with | [_], _ => rfl
abbrev a_law_statement (K : PySem.W.Frag) : Addr := He.fAd K ("_law_statement", none)
theorem F_law_statement (T : Tx K mg) : FunD K "_law_statement" "_law_statement" (defArgs s_law_statement) (defBody s_law_statement) (defScope s_law_statement) [] [] (a_law_statement K) (fdOf K d_law_statement) := T.fd 55 (d := d_law_statement)
theorem sc_law_statement : FnScope ["_law_draws", "_law_depth", "_law_pick_here", "_law_cases", "_law_k"] ["_law_draws", "_law_depth"] (defScope s_law_statement) := ⟨rfl, rfl, rfl, by decide +kernel, rfl, by decide +kernel, by decide +kernel⟩
theorem B_law_statement (T : Tx K mg) : Binds K (fdOf K d_law_statement) ["_law_draws", "_law_depth"] [] := (F_law_statement T).bindsN fun _ _ _ _ _ _ us hl => match us, hl with | [_, _], _ => rfl
abbrev a_law_block (K : PySem.W.Frag) : Addr := He.fAd K ("_law_block", none)
theorem F_law_block (T : Tx K mg) : FunD K "_law_block" "_law_block" (defArgs s_law_block) (defBody s_law_block) (defScope s_law_block) [] [] (a_law_block K) (fdOf K d_law_block) := T.fd 56 (d := d_law_block)
theorem sc_law_block : FnScope ["_law_draws", "_law_depth", "_law_k"] ["_law_draws", "_law_depth"] (defScope s_law_block) := ⟨rfl, rfl, rfl, by decide +kernel, rfl, by decide +kernel, by decide +kernel⟩
theorem B_law_block (T : Tx K mg) : Binds K (fdOf K d_law_block) ["_law_draws", "_law_depth"] [] := (F_law_block T).bindsN fun _ _ _ _ _ _ us hl => match us, hl with | [_, _], _ => rfl
abbrev a_law_pairs (K : PySem.W.Frag) : Addr := He.fAd K ("_law_pairs", none)
theorem F_law_pairs (T : Tx K mg) : FunD K "_law_pairs" "_law_pairs" (defArgs s_law_pairs) (defBody s_law_pairs) (defScope s_law_pairs) [] [] (a_law_pairs K) (fdOf K d_law_pairs) := T.fd 57 (d := d_law_pairs)
theorem sc_law_pairs : FnScope ["_law_draws", "_law_least", "_law_k"] ["_law_draws", "_law_least"] (defScope s_law_pairs) := ⟨rfl, rfl, rfl, by decide +kernel, rfl, by decide +kernel, by decide +kernel⟩
theorem B_law_pairs (T : Tx K mg) : Binds K (fdOf K d_law_pairs) ["_law_draws", "_law_least"] [] := (F_law_pairs T).bindsN fun _ _ _ _ _ _ us hl => match us, hl with | [_, _], _ => rfl
abbrev a_law_tags (K : PySem.W.Frag) : Addr := He.fAd K ("_law_tags", none)
theorem F_law_tags (T : Tx K mg) : FunD K "_law_tags" "_law_tags" (defArgs s_law_tags) (defBody s_law_tags) (defScope s_law_tags) [] [] (a_law_tags K) (fdOf K d_law_tags) := T.fd 58 (d := d_law_tags)
theorem sc_law_tags : FnScope ["_law_draws", "_law_tags_here", "_law_k", "_law_j"] ["_law_draws"] (defScope s_law_tags) := ⟨rfl, rfl, rfl, by decide +kernel, rfl, by decide +kernel, by decide +kernel⟩
theorem B_law_tags (T : Tx K mg) : Binds K (fdOf K d_law_tags) ["_law_draws"] [] := (F_law_tags T).bindsN fun _ _ _ _ _ _ us hl => match us, hl with | [_], _ => rfl
abbrev a_law_function (K : PySem.W.Frag) : Addr := He.fAd K ("_law_function", none)
theorem F_law_function (T : Tx K mg) : FunD K "_law_function" "_law_function" (defArgs s_law_function) (defBody s_law_function) (defScope s_law_function) [] [] (a_law_function K) (fdOf K d_law_function) := T.fd 59 (d := d_law_function)
theorem sc_law_function : FnScope ["_law_draws", "_law_lent", "_law_head"] ["_law_draws"] (defScope s_law_function) := ⟨rfl, rfl, rfl, by decide +kernel, rfl, by decide +kernel, by decide +kernel⟩
theorem B_law_function (T : Tx K mg) : Binds K (fdOf K d_law_function) ["_law_draws"] [] := (F_law_function T).bindsN fun _ _ _ _ _ _ us hl => match us, hl with | [_], _ => rfl
abbrev a_law_program (K : PySem.W.Frag) : Addr := He.fAd K ("_law_program", none)
theorem F_law_program (T : Tx K mg) : FunD K "_law_program" "_law_program" (defArgs s_law_program) (defBody s_law_program) (defScope s_law_program) [] [] (a_law_program K) (fdOf K d_law_program) := T.fd 60 (d := d_law_program)
theorem sc_law_program : FnScope ["_law_draws", "_law_records", "_law_variants", "_law_k"] ["_law_draws"] (defScope s_law_program) := ⟨rfl, rfl, rfl, by decide +kernel, rfl, by decide +kernel, by decide +kernel⟩
theorem B_law_program (T : Tx K mg) : Binds K (fdOf K d_law_program) ["_law_draws"] [] := (F_law_program T).bindsN fun _ _ _ _ _ _ us hl => match us, hl with | [_], _ => rfl
abbrev a_law_row (K : PySem.W.Frag) : Addr := He.fAd K ("_law_row", none)
theorem F_law_row (T : Tx K mg) : FunD K "_law_row" "_law_row" (defArgs s_law_row) (defBody s_law_row) (defScope s_law_row) [] [] (a_law_row K) (fdOf K d_law_row) := T.fd 61 (d := d_law_row)
theorem sc_law_row : FnScope ["_law_tree", "_law_kind_here"] ["_law_tree"] (defScope s_law_row) := ⟨rfl, rfl, rfl, by decide +kernel, rfl, by decide +kernel, by decide +kernel⟩
theorem B_law_row (T : Tx K mg) : Binds K (fdOf K d_law_row) ["_law_tree"] [] := (F_law_row T).bindsN fun _ _ _ _ _ _ us hl => match us, hl with | [_], _ => rfl
abbrev a_law_rows (K : PySem.W.Frag) : Addr := He.fAd K ("_law_rows", none)
theorem F_law_rows (T : Tx K mg) : FunD K "_law_rows" "_law_rows" (defArgs s_law_rows) (defBody s_law_rows) (defScope s_law_rows) [] [] (a_law_rows K) (fdOf K d_law_rows) := T.fd 62 (d := d_law_rows)
theorem sc_law_rows : FnScope ["_law_trees", "_law_space", "_law_rows_here", "_law_tree", "_law_kind_here", "_law_inner", "_law_head", "_law_tag", "_law_names_here", "_law_body", "_law_listed_here"] ["_law_trees", "_law_space"] (defScope s_law_rows) := ⟨rfl, rfl, rfl, by decide +kernel, rfl, by decide +kernel, by decide +kernel⟩
theorem B_law_rows (T : Tx K mg) : Binds K (fdOf K d_law_rows) ["_law_trees", "_law_space"] [] := (F_law_rows T).bindsN fun _ _ _ _ _ _ us hl => match us, hl with | [_, _], _ => rfl
abbrev a_law_tag_text (K : PySem.W.Frag) : Addr := He.fAd K ("_law_tag_text", none)
theorem F_law_tag_text (T : Tx K mg) : FunD K "_law_tag_text" "_law_tag_text" (defArgs s_law_tag_text) (defBody s_law_tag_text) (defScope s_law_tag_text) [] [] (a_law_tag_text K) (fdOf K d_law_tag_text) := T.fd 63 (d := d_law_tag_text)
theorem sc_law_tag_text : FnScope ["_law_tag", "_law_name_here", "_law_kinds", "_law_kind_here"] ["_law_tag"] (defScope s_law_tag_text) := ⟨rfl, rfl, rfl, by decide +kernel, rfl, by decide +kernel, by decide +kernel⟩
theorem B_law_tag_text (T : Tx K mg) : Binds K (fdOf K d_law_tag_text) ["_law_tag"] [] := (F_law_tag_text T).bindsN fun _ _ _ _ _ _ us hl => match us, hl with | [_], _ => rfl
abbrev a_law_listed (K : PySem.W.Frag) : Addr := He.fAd K ("_law_listed", none)
theorem F_law_listed (T : Tx K mg) : FunD K "_law_listed" "_law_listed" (defArgs s_law_listed) (defBody s_law_listed) (defScope s_law_listed) [] [] (a_law_listed K) (fdOf K d_law_listed) := T.fd 64 (d := d_law_listed)
theorem sc_law_listed : FnScope ["_law_pairs_here", "_law_name_here", "_law_kind_here"] ["_law_pairs_here"] (defScope s_law_listed) := ⟨rfl, rfl, rfl, by decide +kernel, rfl, by decide +kernel, by decide +kernel⟩
theorem B_law_listed (T : Tx K mg) : Binds K (fdOf K d_law_listed) ["_law_pairs_here"] [] := (F_law_listed T).bindsN fun _ _ _ _ _ _ us hl => match us, hl with | [_], _ => rfl
abbrev a_law_program_rows (K : PySem.W.Frag) : Addr := He.fAd K ("_law_program_rows", none)
theorem F_law_program_rows (T : Tx K mg) : FunD K "_law_program_rows" "_law_program_rows" (defArgs s_law_program_rows) (defBody s_law_program_rows) (defScope s_law_program_rows) [] [] (a_law_program_rows K) (fdOf K d_law_program_rows) := T.fd 65 (d := d_law_program_rows)
theorem sc_law_program_rows : FnScope ["_law_program_here", "_law_name_here", "_law_rows_here", "_law_tags_here", "_law_params", "_law_kind_here", "_law_lent", "_law_trees", "_law_result", "_law_told_here", "_law_fields", "_law_tag"] ["_law_program_here"] (defScope s_law_program_rows) := ⟨rfl, rfl, rfl, by decide +kernel, rfl, by decide +kernel, by decide +kernel⟩
theorem B_law_program_rows (T : Tx K mg) : Binds K (fdOf K d_law_program_rows) ["_law_program_here"] [] := (F_law_program_rows T).bindsN fun _ _ _ _ _ _ us hl => match us, hl with | [_], _ => rfl
abbrev a_law_kind_text (K : PySem.W.Frag) : Addr := He.fAd K ("_law_kind_text", none)
theorem F_law_kind_text (T : Tx K mg) : FunD K "_law_kind_text" "_law_kind_text" (defArgs s_law_kind_text) (defBody s_law_kind_text) (defScope s_law_kind_text) [] [] (a_law_kind_text K) (fdOf K d_law_kind_text) := T.fd 66 (d := d_law_kind_text)
theorem sc_law_kind_text : FnScope ["_law_kind_here", "_law_part"] ["_law_kind_here"] (defScope s_law_kind_text) := ⟨rfl, rfl, rfl, by decide +kernel, rfl, by decide +kernel, by decide +kernel⟩
theorem B_law_kind_text (T : Tx K mg) : Binds K (fdOf K d_law_kind_text) ["_law_kind_here"] [] := (F_law_kind_text T).bindsN fun _ _ _ _ _ _ us hl => match us, hl with | [_], _ => rfl
abbrev a_law_level (K : PySem.W.Frag) : Addr := He.fAd K ("_law_level", none)
theorem F_law_level (T : Tx K mg) : FunD K "_law_level" "_law_level" (defArgs s_law_level) (defBody s_law_level) (defScope s_law_level) [] [] (a_law_level K) (fdOf K d_law_level) := T.fd 67 (d := d_law_level)
theorem sc_law_level : FnScope ["_law_tree", "_law_levels"] ["_law_tree"] (defScope s_law_level) := ⟨rfl, rfl, rfl, by decide +kernel, rfl, by decide +kernel, by decide +kernel⟩
theorem B_law_level (T : Tx K mg) : Binds K (fdOf K d_law_level) ["_law_tree"] [] := (F_law_level T).bindsN fun _ _ _ _ _ _ us hl => match us, hl with | [_], _ => rfl
abbrev a_law_near (K : PySem.W.Frag) : Addr := He.fAd K ("_law_near", none)
theorem F_law_near (T : Tx K mg) : FunD K "_law_near" "_law_near" (defArgs s_law_near) (defBody s_law_near) (defScope s_law_near) [] [] (a_law_near K) (fdOf K d_law_near) := T.fd 68 (d := d_law_near)
theorem sc_law_near : FnScope ["_law_tree"] ["_law_tree"] (defScope s_law_near) := ⟨rfl, rfl, rfl, by decide +kernel, rfl, by decide +kernel, by decide +kernel⟩
theorem B_law_near (T : Tx K mg) : Binds K (fdOf K d_law_near) ["_law_tree"] [] := (F_law_near T).bindsN fun _ _ _ _ _ _ us hl => match us, hl with | [_], _ => rfl
abbrev a_law_text (K : PySem.W.Frag) : Addr := He.fAd K ("_law_text", none)
theorem F_law_text (T : Tx K mg) : FunD K "_law_text" "_law_text" (defArgs s_law_text) (defBody s_law_text) (defScope s_law_text) [] [] (a_law_text K) (fdOf K d_law_text) := T.fd 69 (d := d_law_text)
theorem sc_law_text : FnScope ["_law_tree", "_law_needed", "_law_kind_here", "_law_level_here", "_law_text_here", "_law_part"] ["_law_tree", "_law_needed"] (defScope s_law_text) := ⟨rfl, rfl, rfl, by decide +kernel, rfl, by decide +kernel, by decide +kernel⟩
theorem B_law_text (T : Tx K mg) : Binds K (fdOf K d_law_text) ["_law_tree", "_law_needed"] [] := (F_law_text T).bindsN fun _ _ _ _ _ _ us hl => match us, hl with | [_, _], _ => rfl
abbrev a_law_told (K : PySem.W.Frag) : Addr := He.fAd K ("_law_told", none)
theorem F_law_told (T : Tx K mg) : FunD K "_law_told" "_law_told" (defArgs s_law_told) (defBody s_law_told) (defScope s_law_told) [] [] (a_law_told K) (fdOf K d_law_told) := T.fd 70 (d := d_law_told)
theorem sc_law_told : FnScope ["_law_text_here", "e"] ["_law_text_here"] (defScope s_law_told) := ⟨rfl, rfl, rfl, by decide +kernel, rfl, by decide +kernel, by decide +kernel⟩
theorem B_law_told (T : Tx K mg) : Binds K (fdOf K d_law_told) ["_law_text_here"] [] := (F_law_told T).bindsN fun _ _ _ _ _ _ us hl => match us, hl with | [_], _ => rfl
abbrev a_law_begun (K : PySem.W.Frag) : Addr := He.fAd K ("_law_begun", none)
theorem F_law_begun (T : Tx K mg) : FunD K "_law_begun" "_law_begun" (defArgs s_law_begun) (defBody s_law_begun) (defScope s_law_begun) [] [] (a_law_begun K) (fdOf K d_law_begun) := T.fd 71 (d := d_law_begun)
theorem sc_law_begun : FnScope ["_law_program_here", "_law_many", "_law_found", "_law_part"] ["_law_program_here", "_law_many"] (defScope s_law_begun) := ⟨rfl, rfl, rfl, by decide +kernel, rfl, by decide +kernel, by decide +kernel⟩
theorem B_law_begun (T : Tx K mg) : Binds K (fdOf K d_law_begun) ["_law_program_here", "_law_many"] [] := (F_law_begun T).bindsN fun _ _ _ _ _ _ us hl => match us, hl with | [_, _], _ => rfl
abbrev a_law (K : PySem.W.Frag) : Addr := He.fAd K ("law", none)
theorem F_law (T : Tx K mg) : FunD K "law" "law" (defArgs s_law) (defBody s_law) (defScope s_law) [] [] (a_law K) (fdOf K d_law) := T.fd 72 (d := d_law)
theorem sc_law : FnScope ["_law_script", "_law_draws", "_law_program_here", "_law_rows_here", "_law_found", "_law_starts", "_law_turn", "_law_at", "_law_kind_here", "_law_word", "_law_row_here", "_law_column", "_law_head", "_law_cut", "_law_due", "_law_k"] ["_law_script"] (defScope s_law) := ⟨rfl, rfl, rfl, by decide +kernel, rfl, by decide +kernel, by decide +kernel⟩
theorem B_law (T : Tx K mg) : Binds K (fdOf K d_law) ["_law_script"] [] := (F_law T).bindsN fun _ _ _ _ _ _ us hl => match us, hl with | [_], _ => rfl
end
end Ko
end
section
set_option Elab.async false
set_option linter.all false
set_option maxRecDepth 100000
set_option maxHeartbeats 4000000
/-! Rules of my own that the layer lacks: an exception's init through an own base class, text times a flag, str of a scalar, isinstance of a caught error that has a dict -/
namespace Ko
open PySem PySem.Spec PyProof.Rows L2
section
variable {X : Cx}
/-- str(v) -/
def strOf : V → Option Str
  | .int i => if i.natAbs.log2 < 1920 then some (Str.ofString (toString i)) else none
  | .bl b => some (if b then "True" else "False")
  | .str x => some x
  | _ => none
theorem call_strA : CallR X (.type "str") (fun xs H Q => ∃ v z, xs = [v] ∧ strOf v = some z ∧ Q (.str z) H) := by
  intro pins s σ H xs us Q I r h
  obtain ⟨v, z, rfl, e, q⟩ := h
  cases r with
  | cons rv rr =>
    cases rr
    cases v with
    | int i =>
      obtain ⟨t, rfl⟩ := rv
      have e' : (if i.natAbs.log2 < 1920 then some (Str.ofString (toString i)) else none) = some z := e
      split at e'
      · rename_i hz
        cases e'
        exact PySem.P.str_of_int hz ⟨.str _, H, I.tok _, ⟨_, rfl⟩, q⟩
      · cases e'
    | bl b =>
      obtain rfl := rv
      cases e
      exact PySem.P.str_of_bool ⟨.str _, H, I.tok _, ⟨_, rfl⟩, q⟩
    | str x =>
      obtain ⟨t, rfl⟩ := rv
      cases e
      exact PySem.P.str_of_str ⟨.str _, H, I, ⟨t, rfl⟩, q⟩
    | _ => cases e
/-- text * (0 or 1) -/
theorem op_mul_str : OpR X (binaryOp .Mult) (fun x y H Q => ∃ (a : Str) (k : Bool), x = .str a ∧ y = .int (if k then 1 else 0) ∧ Q (.str (if k then a else Str.empty)) H) := by
  intro pins s σ H x y v u Q I rx ry h
  obtain ⟨a, k, rfl, rfl, q⟩ := h
  obtain ⟨t, rfl⟩ := rx
  obtain ⟨t', rfl⟩ := ry
  cases k with
  | true =>
    refine PySem.SB.mul ⟨by decide, fun _ e => ?_, fun _ e => ?_⟩ fun t2 k2 => ⟨.str a, H, I.tok _, ⟨t2, ?_⟩, q⟩
    · simp at e
    · simp at e
    · simp [Txt.mul]
  | false =>
    refine PySem.SB.mul ⟨by decide, fun z => absurd (by decide) z, fun z => absurd (by decide) z⟩ fun t2 k2 => ⟨.str Str.empty, H, I.tok _, ⟨t2, ?_⟩, q⟩
    simp [Txt.mul]
/-- a list, a tuple that is not empty (by !=) -/
theorem op_ne_nilL (hu : X.A.units < cLine) : OpR X (compareOp .NotEq) (fun x y H Q => ∃ l q xs, x = .ref l ∧ y = .ref q ∧ SqL X.K H l xs ∧ SqL X.K H q [] ∧ Q (.bl (!xs.isEmpty)) H) := by
  intro pins s σ H x y v u Q I rx ry h
  obtain ⟨l, q, xs, rfl, rfl, hl, hq, h⟩ := h
  obtain rfl : v = .ref l := rx
  obtain rfl : u = .ref q := ry
  obtain ⟨its, r1, p1, z1⟩ := I.list hl
  obtain ⟨its2, r2, p2, z2⟩ := I.list hq
  cases r2
  cases xs with
  | nil =>
    cases r1
    exact SeqAt.RcNeAt.lists (e := fun _ => true) p1.isList p2.isList rfl hu (fun j h1 h2 => absurd h1 (Nat.not_lt_zero j)) _ _ _ _ ⟨.bl false, H, I, rfl, h⟩
  | cons x xs =>
    cases r1
    exact SeqAt.RcNeAt.lists_lengths p1.isList p2.isList (by simp) hu _ _ _ _ ⟨.bl true, H, I, rfl, h⟩
theorem op_ne_nilT (hu : X.A.units < cLine) : OpR X (compareOp .NotEq) (fun x y H Q => ∃ l q xs, x = .ref l ∧ y = .ref q ∧ SqT X.K H l xs ∧ SqT X.K H q [] ∧ Q (.bl (!xs.isEmpty)) H) := by
  intro pins s σ H x y v u Q I rx ry h
  obtain ⟨l, q, xs, rfl, rfl, hl, hq, h⟩ := h
  obtain rfl : v = .ref l := rx
  obtain rfl : u = .ref q := ry
  obtain ⟨its, r1, p1, z1⟩ := I.tuple hl
  obtain ⟨its2, r2, p2, z2⟩ := I.tuple hq
  cases r2
  have e : (!((List.range (min its.toArray.size ([] : List Value).toArray.size)).all (fun _ => true) && its.toArray.size == ([] : List Value).toArray.size)) = !xs.isEmpty := by
    cases xs with
    | nil => cases r1; rfl
    | cons x xs => cases r1; simp
  refine SeqAt.RcNeAt.tuples (e := fun _ => true) p1 p2 hu (fun j h1 h2 => absurd h2 (Nat.not_lt_zero j)) _ _ _ _ ?_
  rw [e]
  exact ⟨.bl _, H, I, rfl, h⟩
/-- a text, a number that is a module's constant -/
theorem pe_gstr {x z : Str} {pos : Pos} (hm : ∃ t, X.mg x = some (.str z t)) (hg : Gl X x := by rfl) (hd : (x == ("__debug__" : Str)) = false := by decide) : PE X (.Name x pos) (tC (.str z)) := by
  obtain ⟨t, e⟩ := hm
  exact pe_glob hg e ⟨t, rfl⟩ hd
theorem pe_gint {x : Str} {i : Int} {pos : Pos} (hm : ∃ t, X.mg x = some (.int i t)) (hg : Gl X x := by rfl) (hd : (x == ("__debug__" : Str)) = false := by decide) : PE X (.Name x pos) (tC (.int i)) := by
  obtain ⟨t, e⟩ := hm
  exact pe_glob hg e ⟨t, rfl⟩ hd
theorem pe_gref {x : Str} {a : Addr} {pos : Pos} (hm : X.mg x = some (.ref a)) (hg : Gl X x := by rfl) (hd : (x == ("__debug__" : Str)) = false := by decide) : PE X (.Name x pos) (tC (.ref a)) := pe_glob hg hm rfl hd
/-- C0.__init__(self, ..), C0 an own class that has no __init__ of its own over ValueError's -/
theorem pe_ownInit {C0 : Addr} {e : Expr} {es : List Expr} {ta : TA} {x : Str} {p1 p2 pos : Pos} {pl : Sem Bool} (hg : Gl X x) (hm : X.mg x = some (.ref C0)) (hrd : PySem.W.readsIn X.K C0 (.type "type") = true)
    (hga : PySem.W.specialIn X.K (.ref C0) "__getattribute__" = some (some (.builtin "type.__getattribute__"))) (hf : PySem.W.findCls X.K (.ref C0) (.type "type") "__init__" = some (.val (.builtin "ValueError.__init__"))) (ha : PA X (e :: es) ta)
    (hd : (x == ("__debug__" : Str)) = false := by decide)
    (hc : eval (.Call (.Attribute (.Name x p1) "__init__" p2) (e :: es) [] pos) X.env = (do
      let ov ← eval (.Name x p1) X.env
      standAt p2.atName
      let (f, first) ← holding [ov] (getMethod ov "__init__" pl)
      callWith pos f first (backTo pos (starEach (e :: es) X.env)) (backToKw pos (keywordEach [] X.env))) := by rfl)
    (he : starEach (e :: es) X.env = (false, eval e X.env) :: starEach es X.env := by rfl) (hpl : (backTo pos (starEach es X.env)).any (·.1) = false := by rfl) :
    PE X (.Call (.Attribute (.Name x p1) "__init__" p2) (e :: es) [] pos) (tVeI X.K ta) := by
  refine ⟨fun pins s σ H Q I h => ?_⟩
  refine PySem.W.methodCall_KW (ld_glob I hg hm ?_ hd) hc
  refine PySem.W.method_cls I.kIn hga (PySem.W.cls_value I.kIn hrd hf (by decide) ?_)
  show wpAny _ _ (callWith pos (Value.builtin "ValueError.__init__") [] (backTo pos (starEach (e :: es) X.env)) []) _ _ _
  refine PyProof.Rows.callWith_method1 (thn (ha.run pos pins _ σ H _ (I.tok _) h) fun us s1 hh => ?_) he hpl
  obtain ⟨vs, H1, I1, r1, a, C, ws, ev, hl, T, ea, q⟩ := hh
  subst ev
  cases r1 with
  | @cons _ u0 _ ur ra rw' =>
    obtain rfl : u0 = Value.ref a := ra
    have hlen : ur.length ≤ sizeLine := by
      rw [← Paired.length rw', sizeLine_eq]
      omega
    exact oinit_ok T I1 ea hlen fun s' J => ⟨.non, H1, J, rfl, q⟩
/-- isinstance(e, c), e the error that the suite holds (of the class D, with its dict) -/
def rIsF (K : PySem.W.Frag) (D a : Addr) (cls : Value) (d : Option Addr) : List V → Hp → VK → Prop := fun xs H Q => ∃ (c : V) (cv : Value) (b : Bool) (dd : Addr) (fs : List (Str × V)), xs = [.ref a, c] ∧ (∀ u, RelV c u → u = cv) ∧ cls = .ref D ∧ d = some dd ∧ H dd = some (.xd fs) ∧ PySem.W.kitOne K (.ref D) cv = some b ∧ Q (.bl b) H
theorem call_isF {a D : Addr} {oe : Obj} {cls : Value} {d : Option Addr} {pn : List (Addr × Obj)} (hcl : (PySem.W.clsIn X.K D).isSome = true) (hga : PySem.W.findIn X.K (.ref D) "__getattribute__" = some (some (.builtin "BaseException.__getattribute__"))) (hgt : PySem.W.findIn X.K (.ref D) "__getattr__" = some none)
    (hsub : PySem.W.subIn X.K (.ref D) (.type "BaseException") = some true) (ha : PySem.W.findIn X.K (.ref D) "__class__" = some (some (.builtin "object.__class__"))) (hn : PySem.W.specialIn X.K (.builtin "object.__class__") "__get__" = some (some (.builtin "getset_descriptor.__get__")))
    (htk : PySem.W.takesIn X.K (.builtin "object.__class__") = some true) (hmr : PySem.W.mroIn X.K D (.type "object") = some true) (hz : Zc cls d oe) (hf : ∃ vs, oe.data = .fields vs) : CallR (X.suite a ((a, oe) :: pn)) (.builtin "isinstance") (rIsF X.K D a cls d) := by
  intro pins s σ H xs us Q I r h
  obtain ⟨c, cv, b, dd, fs, rfl, hcv, ec, ed, hx, e, q⟩ := h
  cases r with
  | cons rx rr =>
    cases rr with
    | cons rt rr =>
      cases rr
      cases rx
      have ecv := hcv _ rt
      subst ecv
      subst ec
      subst ed
      obtain ⟨hget, _⟩ := I.pin (a, oe) (List.mem_append.mpr (.inl List.mem_cons_self))
      obtain ⟨vs, hv⟩ := hf
      have hxd : ObjOk X.prog X.w H s.heap dd (.xd fs) := I.hok dd _ hx
      obtain ⟨mA, hns, hr⟩ := hxd
      obtain ⟨od, ho, hl⟩ := lookIn_ns hns
      have J : PySem.W.InstAt s.heap a oe D (some od) := ⟨hget, hz.1, by unfold PySem.W.notCls; rw [hv] <;> rfl, by rw [hz.2]; exact ho⟩
      exact PySem.W.kia_one (PySem.W.kitx_exc (od := some od) (ox := oe) hcl hga hgt hsub ha hn htk hmr) I.kIn J e (fun z => nomatch z) fun tk => ⟨.bl b, H, I.kept (t' := tk) fun _ _ z => z, rfl, q⟩
end
/-! ### what the top says of the error's class -/
section
variable {K : PySem.W.Frag} {mg : Str → Option Value}
theorem oexB_ok {C : Addr} (h : oexB K C = true) : ∃ nm q N bs bm sn sub ab col dd k0 k1 k2 k3 k5, K.lookup C = some (excClassObj nm q C N bs bm true sn sub ab col dd k0 k1 k2 k3 k5 "ValueError.__new__") ∧ PySem.HandSPX.refsVE bm = true := by
  unfold oexB at h
  split at h
  · rename_i dd cd sl ho
    split at h
    · rename_i C' bm k0 k1 k2 k3 n k5 hm hs
      simp only [Bool.and_eq_true, beq_iff_eq, Bool.not_eq_true'] at h
      obtain ⟨⟨⟨⟨rfl, rfl⟩, hdel⟩, ht⟩, hd⟩ := h
      obtain ⟨nm, bs, mro, ns, qn, hdct, sn, sub, ab, col, del⟩ := cd
      dsimp only at hm hdel hd
      subst hm hdel hd
      have hsl : sl = #[k0, k1, k2, k3, some (.builtin "ValueError.__new__"), k5] := by
        obtain ⟨l⟩ := sl
        simp only at hs
        rw [hs]
      subst hsl
      exact ⟨nm, qn, ns, bs, bm, sn, sub, ab, col, dd, k0, k1, k2, k3, k5, ho, ht⟩
    · cases h
  · cases h
theorem x_oex (T : Tx K mg) : OexC K (aU K) :=
  ⟨oexB_ok (T.exf 3), He.eqO_ok (T.exf 4), of_decide_eq_true (T.exf 5), of_decide_eq_true (T.exf 6), T.exf 7⟩
theorem x_init (T : Tx K mg) : PySem.W.findIn K (.ref (aU K)) "__init__" = some (some (.ref (aI K))) := He.eqO_ok (T.exf 8)
theorem x_tyI (T : Tx K mg) : PySem.W.typeIn K (.ref (aI K)) = some (.type "function") := of_decide_eq_true (T.exf 9)
theorem x_row (T : Tx K mg) : PySem.W.findIn K (.ref (aU K)) "row" = some none := He.eqO_ok (T.exf 10)
theorem x_col (T : Tx K mg) : PySem.W.findIn K (.ref (aU K)) "column" = some none := He.eqO_ok (T.exf 11)
theorem x_xf (T : Tx K mg) : XfC K (aU K) := xfB_ok (T.exf 12)
theorem x_clsA (T : Tx K mg) : PySem.W.findIn K (.ref (aU K)) "__class__" = some (some (.builtin "object.__class__")) := He.eqO_ok (T.exf 13)
theorem x_clsG (T : Tx K mg) : PySem.W.specialIn K (.builtin "object.__class__") "__get__" = some (some (.builtin "getset_descriptor.__get__")) := of_decide_eq_true (T.exf 14)
theorem x_clsT (T : Tx K mg) : PySem.W.takesIn K (.builtin "object.__class__") = some true := of_decide_eq_true (T.exf 15)
theorem x_mro (T : Tx K mg) : PySem.W.mroIn K (aU K) (.type "object") = some true := of_decide_eq_true (T.exf 16)
theorem x_kit (T : Tx K mg) : PySem.W.kitOne K (.ref (aU K)) (.ref (aT K)) = some true := of_decide_eq_true (T.exf 17)
theorem x_rdO (T : Tx K mg) : PySem.W.readsIn K (aO K) (.type "type") = true := T.exf 18
theorem x_gaO (T : Tx K mg) : PySem.W.specialIn K (.ref (aO K)) "__getattribute__" = some (some (.builtin "type.__getattribute__")) := of_decide_eq_true (T.exf 19)
theorem x_inO (T : Tx K mg) : PySem.W.findCls K (.ref (aO K)) (.type "type") "__init__" = some (.val (.builtin "ValueError.__init__")) := by
  have h : (match PySem.W.findCls K (.ref (aO K)) (.type "type") "__init__" with | some (.val (.builtin "ValueError.__init__")) => true | _ => false) = true := T.exf 20
  split at h
  · assumption
  · cases h
theorem x_exm (T : Tx K mg) : PySem.W.exmOne K (.ref (aU K)) (.ref (aU K)) = some true := of_decide_eq_true (T.exf 21)
theorem x_clsS (T : Tx K mg) : (PySem.W.clsIn K (aU K)).isSome = true := by
  obtain ⟨nm, q, N, bs, bm, sn, sub, ab, col, dd, k0, k1, k2, k3, k5, hC, _⟩ := (x_oex T).cls
  unfold PySem.W.clsIn
  rw [hC] <;> rfl
theorem t_PLACES (T : Tx K mg) (H : Hp) : SqT K H (He.ga K "PLACES") [.str "name", .str "deref", .str "field", .str "index"] := He.tupB_ok (T.exf 0) H
theorem t_LONG (T : Tx K mg) (H : Hp) : SqT K H (He.ga K "LONG_SIGNS") [.str "==", .str "->"] := He.tupB_ok (T.exf 2) H
theorem t_KEYWORDS (T : Tx K mg) (H : Hp) : SqT K H (He.ga K "KEYWORDS") [.str "record", .str "variant", .str "fn", .str "let", .str "open", .str "as", .str "match", .str "ref", .str "mut", .str "if", .str "else", .str "while", .str "show", .str "push", .str "take", .str "par", .str "return", .str "true", .str "false", .str "box", .str "unbox", .str "vec", .str "len", .str "int", .str "bool", .str "from"] := He.tupB_ok (T.exf 1) H
end
end Ko
end
section
set_option Elab.async false
set_option linter.all false
set_option maxRecDepth 100000
set_option maxHeartbeats 4000000
/-! The trees and the parser as plain functions: no Python here -/
namespace Ko
open PySem
/-- keywords and signs -/
inductive Sym where
  | kRecord | kVariant | kFn | kLet | kOpen | kAs | kMatch | kRef | kMut | kIf | kElse | kWhile | kShow | kPush | kTake | kPar | kReturn | kTrue | kFalse | kBox | kUnbox | kVec | kLen | kInt | kBool | kFrom
  | lbrace | rbrace | lpar | rpar | lbrk | rbrk | comma | semi | colon | dot | eq | plus | minus | star | lt | bang | eqeq | arrow
  deriving DecidableEq
def Sym.txt : Sym → Str
  | .kRecord => "record" | .kVariant => "variant" | .kFn => "fn" | .kLet => "let" | .kOpen => "open" | .kAs => "as" | .kMatch => "match" | .kRef => "ref" | .kMut => "mut" | .kIf => "if" | .kElse => "else"
  | .kWhile => "while" | .kShow => "show" | .kPush => "push" | .kTake => "take" | .kPar => "par" | .kReturn => "return" | .kTrue => "true" | .kFalse => "false" | .kBox => "box" | .kUnbox => "unbox" | .kVec => "vec"
  | .kLen => "len" | .kInt => "int" | .kBool => "bool" | .kFrom => "from"
  | .lbrace => "{" | .rbrace => "}" | .lpar => "(" | .rpar => ")" | .lbrk => "[" | .rbrk => "]" | .comma => "," | .semi => ";" | .colon => ":" | .dot => "." | .eq => "=" | .plus => "+" | .minus => "-" | .star => "*"
  | .lt => "<" | .bang => "!" | .eqeq => "==" | .arrow => "->"
def Sym.isKw : Sym → Bool
  | .lbrace | .rbrace | .lpar | .rpar | .lbrk | .rbrk | .comma | .semi | .colon | .dot | .eq | .plus | .minus | .star | .lt | .bang | .eqeq | .arrow => false
  | _ => true
def Sym.all : List Sym := [.kRecord, .kVariant, .kFn, .kLet, .kOpen, .kAs, .kMatch, .kRef, .kMut, .kIf, .kElse, .kWhile, .kShow, .kPush, .kTake, .kPar, .kReturn, .kTrue, .kFalse, .kBox, .kUnbox, .kVec, .kLen, .kInt, .kBool, .kFrom,
  .lbrace, .rbrace, .lpar, .rpar, .lbrk, .rbrk, .comma, .semi, .colon, .dot, .eq, .plus, .minus, .star, .lt, .bang, .eqeq, .arrow]
theorem Sym.mem_all (s : Sym) : s ∈ Sym.all := by cases s <;> decide
theorem Sym.inj_all : ∀ a ∈ Sym.all, ∀ b ∈ Sym.all, a.txt = b.txt → a = b := by decide +kernel
theorem Sym.inj {a b : Sym} (h : a.txt = b.txt) : a = b := Sym.inj_all a a.mem_all b b.mem_all h
/-- a number's text -/
def numS (n : Nat) : Str := Str.ofString (toString ((n : Nat) : Int))
inductive Tk where
  | sym (s : Sym) | name (w : Str) | num (n : Nat) | fin
  deriving DecidableEq
def Tk.knd : Tk → Str
  | .sym s => if s.isKw then "keyword" else "sign"
  | .name _ => "name"
  | .num _ => "number"
  | .fin => "end"
def Tk.txt : Tk → Str
  | .sym s => s.txt
  | .name w => w
  | .num n => numS n
  | .fin => Str.empty
structure Tok where
  tk : Tk
  row : Int
  col : Int
def hd : List Tok → Tk
  | [] => .fin
  | t :: _ => t.tk

/-! ### trees -/
inductive Kd where
  | int | bool | named (w : Str) | box (k : Kd) | vec (k : Kd) | ref (k : Kd) | mut (k : Kd)
  deriving DecidableEq
inductive Op where
  | add | sub | mul | eq | lt
  deriving DecidableEq
inductive Un where
  | not | box | unbox
  deriving DecidableEq
inductive Rf where
  | ref | mut | deref
  deriving DecidableEq
inductive Ex where
  | num (n : Nat) | name (w : Str) | truth (b : Bool)
  | op (s : Op) (a b : Ex)
  | un (u : Un) (a : Ex)
  | rf (r : Rf) (p : Ex)
  | field (p : Ex) (f : Str)
  | index (p e : Ex)
  | call (f : Str) (xs : List Ex)
  | len (p : Ex)
  | vec (k : Kd)
def Ex.isPlace : Ex → Bool
  | .name _ => true
  | .rf .deref _ => true
  | .field _ _ => true
  | .index _ _ => true
  | _ => false
inductive How where
  | move | ref | mut
  deriving DecidableEq
mutual
inductive St where
  | letS (w : Str) (k : Kd) (e : Ex) | openS (e : Ex) (xs : List Str) | showS (e : Ex) | pushS (p e : Ex) | takeS (p : Ex) (w : Str) | doS (e : Ex) | setS (p e : Ex)
  | ifS (e : Ex) (a b : List St) | whileS (e : Ex) (a : List St) | parS (a b : List St) | matchS (h : How) (p : Ex) (cs : List Cs)
inductive Cs where
  | mk (t : Str) (xs : List Str) (b : List St)
end
structure Fn where
  name : Str
  params : List (Str × Kd)
  kind : Kd
  lent : List Str
  body : List St
  result : Ex
structure Pr where
  recs : List (Str × List (Str × Kd))
  vars : List (Str × List (Str × List Kd))
  fns : List Fn

/-! ### the trees as data -/
def Op.sym : Op → Sym
  | .add => .plus | .sub => .minus | .mul => .star | .eq => .eqeq | .lt => .lt
def Op.txt (s : Op) : Str := s.sym.txt
def Un.txt : Un → Str
  | .not => "not" | .box => "box" | .unbox => "unbox"
def Rf.txt : Rf → Str
  | .ref => "ref" | .mut => "mut" | .deref => "deref"
def How.txt : How → Str
  | .move => "move" | .ref => "ref" | .mut => "mut"
def Kd.d : Kd → PyData
  | .int => .tuple [.str "int"]
  | .bool => .tuple [.str "bool"]
  | .named w => .tuple [.str "named", .str w]
  | .box k => .tuple [.str "box", k.d]
  | .vec k => .tuple [.str "vec", k.d]
  | .ref k => .tuple [.str "ref", k.d]
  | .mut k => .tuple [.str "mut", k.d]
mutual
def Ex.d : Ex → PyData
  | .num n => .tuple [.str "num", .int n]
  | .name w => .tuple [.str "name", .str w]
  | .truth b => .tuple [.str "truth", .bool b]
  | .op s a b => .tuple [.str "op", .str s.txt, a.d, b.d]
  | .un u a => .tuple [.str u.txt, a.d]
  | .rf r p => .tuple [.str r.txt, p.d]
  | .field p f => .tuple [.str "field", p.d, .str f]
  | .index p e => .tuple [.str "index", p.d, e.d]
  | .call f xs => .tuple [.str "call", .str f, .tuple (Ex.ds xs)]
  | .len p => .tuple [.str "len", p.d]
  | .vec k => .tuple [.str "vec", k.d]
def Ex.ds : List Ex → List PyData
  | [] => []
  | x :: xs => x.d :: Ex.ds xs
end
def strD (xs : List Str) : List PyData := xs.map PyData.str
mutual
def St.d : St → PyData
  | .letS w k e => .tuple [.str "let", .str w, k.d, e.d]
  | .openS e xs => .tuple [.str "open", e.d, .tuple (strD xs)]
  | .showS e => .tuple [.str "show", e.d]
  | .pushS p e => .tuple [.str "push", p.d, e.d]
  | .takeS p w => .tuple [.str "take", p.d, .str w]
  | .doS e => .tuple [.str "do", e.d]
  | .setS p e => .tuple [.str "set", p.d, e.d]
  | .ifS e a b => .tuple [.str "if", e.d, .tuple (St.ds a), .tuple (St.ds b)]
  | .whileS e a => .tuple [.str "while", e.d, .tuple (St.ds a)]
  | .parS a b => .tuple [.str "par", .tuple (St.ds a), .tuple (St.ds b)]
  | .matchS h p cs => .tuple [.str "match", .str h.txt, p.d, .tuple (Cs.ds cs)]
def Cs.d : Cs → PyData
  | .mk t xs b => .tuple [.str t, .tuple (strD xs), .tuple (St.ds b)]
def St.ds : List St → List PyData
  | [] => []
  | x :: xs => x.d :: St.ds xs
def Cs.ds : List Cs → List PyData
  | [] => []
  | x :: xs => x.d :: Cs.ds xs
end
theorem Ex.ds_map (xs : List Ex) : Ex.ds xs = xs.map Ex.d := by
  induction xs with
  | nil => rfl
  | cons x xs ih => rw [Ex.ds, ih]; rfl
theorem St.ds_map (xs : List St) : St.ds xs = xs.map St.d := by
  induction xs with
  | nil => rfl
  | cons x xs ih => rw [St.ds, ih]; rfl
theorem Cs.ds_map (xs : List Cs) : Cs.ds xs = xs.map Cs.d := by
  induction xs with
  | nil => rfl
  | cons x xs ih => rw [Cs.ds, ih]; rfl
def pairD (p : Str × Kd) : PyData := .tuple [.str p.1, p.2.d]
def recD (p : Str × List (Str × Kd)) : PyData := .tuple [.str p.1, .tuple (p.2.map pairD)]
def tagD (p : Str × List Kd) : PyData := .tuple [.str p.1, .tuple (p.2.map Kd.d)]
def varD (p : Str × List (Str × List Kd)) : PyData := .tuple [.str p.1, .tuple (p.2.map tagD)]
def Fn.d (f : Fn) : PyData := .tuple [.str f.name, .tuple (f.params.map pairD), f.kind.d, .tuple (strD f.lent), .tuple (f.body.map St.d), f.result.d]
def Pr.d (p : Pr) : PyData := .tuple [.tuple (p.recs.map recD), .tuple (p.vars.map varD), .tuple (p.fns.map Fn.d)]

/-! ### the parser's steps: ok with the rest, bad at the rest, or out of fuel -/
inductive R (α : Type) where
  | ok (a : α) (r : List Tok)
  | bad (r : List Tok)
  | out
def P (α : Type) := List Tok → R α
def pureP {α : Type} (a : α) : P α := fun l => .ok a l
def bindP {α β : Type} (x : P α) (f : α → P β) : P β := fun l => match x l with
  | .ok a r => f a r
  | .bad r => .bad r
  | .out => .out
def outP {α : Type} : P α := fun _ => .out
def failP {α : Type} : P α := fun l => .bad l
def ifB {α : Type} (c : P Bool) (t e : P α) : P α := bindP c fun b => if b = true then t else e
def peekP (s : Sym) : P Bool := fun l => .ok (decide (hd l = .sym s)) l
def skipP (s : Sym) : P Bool := fun l => if hd l = .sym s then .ok true l.tail else .ok false l
def expectP (s : Sym) : P Unit := fun l => if hd l = .sym s then .ok () l.tail else .bad l
def isNameP : P Bool := fun l => match hd l with
  | .name _ => .ok true l
  | _ => .ok false l
def isNumP : P Bool := fun l => match hd l with
  | .num _ => .ok true l
  | _ => .ok false l
def atEndP : P Bool := fun l => .ok (decide (hd l = .fin)) l
def takeNameP : P Str := fun l => match hd l with
  | .name w => .ok w l.tail
  | _ => .bad l
def takeNumP : P Nat := fun l => match hd l with
  | .num n => .ok n l.tail
  | _ => .bad l
def needP (t : Ex) : P Unit := fun l => if t.isPlace = true then .ok () l else .bad l
def R.wp {α : Type} (x : R α) (ok : α → List Tok → Prop) (bad : List Tok → Prop) : Prop := match x with
  | .ok a r => ok a r
  | .bad r => bad r
  | .out => False
/-! ### the parser -/
def kindP : Nat → P Kd
  | 0 => outP
  | n + 1 => ifB isNameP (bindP takeNameP fun w => pureP (.named w))
    (ifB (skipP .kInt) (pureP .int)
    (ifB (skipP .kBool) (pureP .bool)
    (ifB (skipP .kBox) (bindP (kindP n) fun k => pureP (.box k))
    (ifB (skipP .kVec) (bindP (kindP n) fun k => pureP (.vec k))
    (ifB (skipP .kRef) (bindP (kindP n) fun k => pureP (.ref k))
    (bindP (expectP .kMut) fun _ => bindP (kindP n) fun k => pureP (.mut k)))))))
mutual
def placeP : Nat → P Ex
  | 0 => outP
  | n + 1 => ifB (skipP .star) (bindP (placeP n) fun p => pureP (.rf .deref p)) (bindP (postP n) fun t => bindP (needP t) fun _ => pureP t)
def exprsP : Nat → P (List Ex)
  | 0 => outP
  | n + 1 => bindP (ifB (peekP .rpar) (pureP []) (bindP (oneP n) fun e => moreP n [e])) fun xs => bindP (expectP .rpar) fun _ => pureP xs
def moreP : Nat → List Ex → P (List Ex)
  | 0, _ => outP
  | n + 1, acc => ifB (skipP .comma) (bindP (oneP n) fun e => moreP n (acc ++ [e])) (pureP acc)
def primP : Nat → P Ex
  | 0 => outP
  | n + 1 => ifB isNumP (bindP takeNumP fun k => pureP (.num k))
    (ifB (skipP .kTrue) (pureP (.truth true))
    (ifB (skipP .kFalse) (pureP (.truth false))
    (ifB (skipP .kVec) (bindP (kindP n) fun k => pureP (.vec k))
    (ifB (skipP .kLen) (bindP (expectP .lpar) fun _ => bindP (placeP n) fun p => bindP (expectP .rpar) fun _ => pureP (.len p))
    (ifB (skipP .lpar) (bindP (oneP n) fun e => bindP (expectP .rpar) fun _ => pureP e)
    (bindP takeNameP fun w => ifB (skipP .lpar) (bindP (exprsP n) fun xs => pureP (.call w xs)) (pureP (.name w))))))))
def postP : Nat → P Ex
  | 0 => outP
  | n + 1 => bindP (primP n) fun t => postL n t
def postL : Nat → Ex → P Ex
  | 0, _ => outP
  | n + 1, t => ifB (ifB (peekP .dot) (pureP true) (peekP .lbrk))
    (bindP (needP t) fun _ => ifB (skipP .dot) (bindP takeNameP fun w => postL n (.field t w))
      (bindP (expectP .lbrk) fun _ => bindP (oneP n) fun e => bindP (expectP .rbrk) fun _ => postL n (.index t e)))
    (pureP t)
def unaryP : Nat → P Ex
  | 0 => outP
  | n + 1 => ifB (skipP .bang) (bindP (unaryP n) fun a => pureP (.un .not a))
    (ifB (skipP .kBox) (bindP (unaryP n) fun a => pureP (.un .box a))
    (ifB (skipP .kUnbox) (bindP (unaryP n) fun a => pureP (.un .unbox a))
    (ifB (skipP .kRef) (bindP (placeP n) fun p => pureP (.rf .ref p))
    (ifB (skipP .kMut) (bindP (placeP n) fun p => pureP (.rf .mut p))
    (ifB (peekP .star) (placeP n) (postP n))))))
def prodP : Nat → P Ex
  | 0 => outP
  | n + 1 => bindP (unaryP n) fun t => prodL n t
def prodL : Nat → Ex → P Ex
  | 0, _ => outP
  | n + 1, t => ifB (skipP .star) (bindP (unaryP n) fun u => prodL n (.op .mul t u)) (pureP t)
def totP : Nat → P Ex
  | 0 => outP
  | n + 1 => bindP (prodP n) fun t => totL n t
def totL : Nat → Ex → P Ex
  | 0, _ => outP
  | n + 1, t => ifB (ifB (peekP .plus) (pureP true) (peekP .minus))
    (ifB (skipP .plus) (bindP (prodP n) fun u => totL n (.op .add t u)) (bindP (expectP .minus) fun _ => bindP (prodP n) fun u => totL n (.op .sub t u)))
    (pureP t)
def oneP : Nat → P Ex
  | 0 => outP
  | n + 1 => bindP (totP n) fun t => ifB (skipP .eqeq) (bindP (totP n) fun u => pureP (.op .eq t u)) (ifB (skipP .lt) (bindP (totP n) fun u => pureP (.op .lt t u)) (pureP t))
end
/-- names with a comma between -/
def namesL : Nat → List Str → P (List Str)
  | 0, _ => outP
  | n + 1, acc => ifB (skipP .comma) (bindP takeNameP fun w => namesL n (acc ++ [w])) (pureP acc)
def listP (n : Nat) : P (List Str) := bindP takeNameP fun w => namesL n [w]
def namesP (n : Nat) : P (List Str) := bindP (expectP .lpar) fun _ => bindP (listP n) fun xs => bindP (expectP .rpar) fun _ => pureP xs
def pairsL (last : Sym) : Nat → List (Str × Kd) → P (List (Str × Kd))
  | 0, _ => outP
  | n + 1, acc => ifB (skipP last) (pureP acc) (bindP (if acc.isEmpty = true then pureP () else expectP .comma) fun _ => bindP takeNameP fun w => bindP (expectP .colon) fun _ => bindP (kindP n) fun k => pairsL last n (acc ++ [(w, k)]))
def recP (n : Nat) : P (Str × List (Str × Kd)) := bindP takeNameP fun w => bindP (expectP .lbrace) fun _ => ifB (peekP .rbrace) failP (bindP (pairsL .rbrace n []) fun xs => pureP (w, xs))
def kindsL : Nat → List Kd → P (List Kd)
  | 0, _ => outP
  | n + 1, acc => ifB (skipP .comma) (bindP (kindP n) fun k => kindsL n (acc ++ [k])) (pureP acc)
def tagP (n : Nat) : P (Str × List Kd) := bindP takeNameP fun w => bindP (ifB (skipP .lpar) (bindP (kindP n) fun k => bindP (kindsL n [k]) fun ks => bindP (expectP .rpar) fun _ => pureP ks) (pureP [])) fun ks => pureP (w, ks)
def tagsL : Nat → List (Str × List Kd) → P (List (Str × List Kd))
  | 0, _ => outP
  | n + 1, acc => ifB (skipP .comma) (bindP (tagP n) fun k => tagsL n (acc ++ [k])) (pureP acc)
def varP (n : Nat) : P (Str × List (Str × List Kd)) := bindP takeNameP fun w => bindP (expectP .lbrace) fun _ => bindP (tagP n) fun t => bindP (tagsL n [t]) fun ts => bindP (expectP .rbrace) fun _ => pureP (w, ts)
def letP (n : Nat) : P St := bindP takeNameP fun w => bindP (expectP .colon) fun _ => bindP (kindP n) fun k => bindP (expectP .eq) fun _ => bindP (oneP n) fun e => pureP (.letS w k e)
def openP (n : Nat) : P St := bindP (oneP n) fun e => bindP (expectP .kAs) fun _ => bindP (namesP n) fun xs => pureP (.openS e xs)
def pushP (n : Nat) : P St := bindP (expectP .lpar) fun _ => bindP (placeP n) fun p => bindP (expectP .comma) fun _ => bindP (oneP n) fun e => bindP (expectP .rpar) fun _ => pureP (.pushS p e)
def takeP (n : Nat) : P St := bindP (expectP .lpar) fun _ => bindP (placeP n) fun p => bindP (expectP .rpar) fun _ => bindP (expectP .kAs) fun _ => bindP takeNameP fun w => pureP (.takeS p w)
def Ex.isCall : Ex → Bool
  | .call _ _ => true
  | _ => false
def setP (n : Nat) : P St := bindP (ifB (peekP .star) (placeP n) (ifB (ifB isNameP (pureP true) (peekP .lpar)) (postP n) failP)) fun t =>
  if t.isCall = true then pureP (.doS t) else bindP (needP t) fun _ => bindP (expectP .eq) fun _ => bindP (oneP n) fun e => pureP (.setS t e)
def simpP (n : Nat) : P St := ifB (skipP .kLet) (letP n) (ifB (skipP .kOpen) (openP n) (ifB (skipP .kShow) (bindP (oneP n) fun e => pureP (.showS e)) (ifB (skipP .kPush) (pushP n) (ifB (skipP .kTake) (takeP n) (setP n)))))
def howP : P How := ifB (skipP .kRef) (pureP .ref) (ifB (skipP .kMut) (pureP .mut) (pureP .move))
mutual
def stmtP : Nat → P St
  | 0 => outP
  | n + 1 => ifB (skipP .kMatch) (matchP n)
    (ifB (skipP .kIf) (iffP n)
    (ifB (skipP .kWhile) (bindP (oneP n) fun e => bindP (blockP n) fun b => pureP (.whileS e b))
    (ifB (skipP .kPar) (bindP (blockP n) fun a => bindP (blockP n) fun b => pureP (.parS a b))
    (bindP (simpP n) fun s => bindP (expectP .semi) fun _ => pureP s))))
def matchP : Nat → P St
  | 0 => outP
  | n + 1 => bindP howP fun h => bindP (placeP n) fun p => bindP (expectP .lbrace) fun _ => bindP (casesL n []) fun cs => pureP (.matchS h p cs)
def casesL : Nat → List Cs → P (List Cs)
  | 0, _ => outP
  | n + 1, acc => ifB (skipP .rbrace) (pureP acc) (bindP (caseP n) fun c => casesL n (acc ++ [c]))
def caseP : Nat → P Cs
  | 0 => outP
  | n + 1 => bindP takeNameP fun t => bindP (ifB (peekP .lpar) (namesP n) (pureP [])) fun xs => bindP (blockP n) fun b => pureP (.mk t xs b)
def iffP : Nat → P St
  | 0 => outP
  | n + 1 => bindP (oneP n) fun e => bindP (blockP n) fun a => bindP (ifB (skipP .kElse) (blockP n) (pureP [])) fun b => pureP (.ifS e a b)
def blockP : Nat → P (List St)
  | 0 => outP
  | n + 1 => bindP (expectP .lbrace) fun _ => stmtsL .rbrace n []
def stmtsL (stop : Sym) : Nat → List St → P (List St)
  | 0, _ => outP
  | n + 1, acc => ifB (skipP stop) (pureP acc) (bindP (stmtP n) fun s => stmtsL stop n (acc ++ [s]))
end
def fnP (n : Nat) : P Fn := bindP takeNameP fun w => bindP (expectP .lpar) fun _ => bindP (pairsL .rpar n []) fun ps => bindP (expectP .arrow) fun _ => bindP (kindP n) fun k =>
  bindP (ifB (skipP .kFrom) (listP n) (pureP [])) fun ls => bindP (expectP .lbrace) fun _ => bindP (stmtsL .kReturn n []) fun b => bindP (oneP n) fun e => bindP (expectP .semi) fun _ => bindP (expectP .rbrace) fun _ => pureP ⟨w, ps, k, ls, b, e⟩
def progL : Nat → Pr → P Pr
  | 0, _ => outP
  | n + 1, q => ifB atEndP (pureP q)
    (ifB (skipP .kRecord) (bindP (recP n) fun r => progL n { q with recs := q.recs ++ [r] })
    (ifB (skipP .kVariant) (bindP (varP n) fun v => progL n { q with vars := q.vars ++ [v] })
    (bindP (expectP .kFn) fun _ => bindP (fnP n) fun f => progL n { q with fns := q.fns ++ [f] })))
def parseP (n : Nat) : P Pr := progL n ⟨[], [], []⟩
/-! ### what comes out -/
section
variable {α β : Type} {ok ok' : α → List Tok → Prop} {bad bad' : List Tok → Prop} {l : List Tok}
theorem R.mono {x : R α} (h : x.wp ok bad) (h1 : ∀ a r, ok a r → ok' a r) (h2 : ∀ r, bad r → bad' r) : x.wp ok' bad' := by
  cases x with
  | ok a r => exact h1 a r h
  | bad r => exact h2 r h
  | out => exact h
theorem wp_pure {a : α} : (pureP a l).wp ok bad ↔ ok a l := Iff.rfl
theorem wp_fail : ((failP : P α) l).wp ok bad ↔ bad l := Iff.rfl
theorem wp_out : ((outP : P α) l).wp ok bad ↔ False := Iff.rfl
theorem wp_bind {x : P β} {f : β → P α} : (bindP x f l).wp ok bad ↔ (x l).wp (fun b r => (f b r).wp ok bad) bad := by
  unfold bindP
  cases x l <;> exact Iff.rfl
theorem wp_ifB {c : P Bool} {t e : P α} : (ifB c t e l).wp ok bad ↔ (c l).wp (fun b r => if b = true then (t r).wp ok bad else (e r).wp ok bad) bad := by
  unfold ifB bindP
  cases c l with
  | ok b r => cases b <;> exact Iff.rfl
  | bad r => exact Iff.rfl
  | out => exact Iff.rfl
theorem wp_peek {s : Sym} {ok : Bool → List Tok → Prop} : (peekP s l).wp ok bad ↔ ok (decide (hd l = .sym s)) l := Iff.rfl
theorem wp_atEnd {ok : Bool → List Tok → Prop} : (atEndP l).wp ok bad ↔ ok (decide (hd l = .fin)) l := Iff.rfl
theorem wp_skip {s : Sym} {ok : Bool → List Tok → Prop} : (skipP s l).wp ok bad ↔ if hd l = .sym s then ok true l.tail else ok false l := by
  unfold skipP
  split <;> exact Iff.rfl
theorem wp_expect {s : Sym} {ok : Unit → List Tok → Prop} : (expectP s l).wp ok bad ↔ if hd l = .sym s then ok () l.tail else bad l := by
  unfold expectP
  split <;> exact Iff.rfl
theorem wp_need {t : Ex} {ok : Unit → List Tok → Prop} : (needP t l).wp ok bad ↔ if t.isPlace = true then ok () l else bad l := by
  unfold needP
  split <;> exact Iff.rfl
end
end Ko
end
section
set_option Elab.async false
set_option linter.all false
set_option maxRecDepth 100000
set_option maxHeartbeats 4000000
/-! What the walk says of the heap: data, the reader -/
namespace Ko
open PySem PySem.Spec PyProof.Rows L2
/-! ### data made of tuples: it stays while the tuples stay -/
mutual
inductive Dt (K : PySem.W.Frag) (H : Hp) : V → PyData → Prop where
  | non : Dt K H .non .none
  | bl (b : Bool) : Dt K H (.bl b) (.bool b)
  | int (i : Int) : Dt K H (.int i) (.int i)
  | str (x : Str) : Dt K H (.str x) (.str x)
  | tup {a : Addr} {xs : List V} {ds : List PyData} : SqT K H a xs → Dts K H xs ds → Dt K H (.ref a) (.tuple ds)
inductive Dts (K : PySem.W.Frag) (H : Hp) : List V → List PyData → Prop where
  | nil : Dts K H [] []
  | cons {v : V} {vs : List V} {d : PyData} {ds : List PyData} : Dt K H v d → Dts K H vs ds → Dts K H (v :: vs) (d :: ds)
end
def isT : HO → Prop
  | .tup _ => True
  | .frz _ _ => True
  | _ => False
/-- the tuples stay -/
def KeepT (H H' : Hp) : Prop := ∀ b o, isT o → H b = some o → H' b = some o
section
variable {K : PySem.W.Frag} {H H' : Hp}
theorem KeepT.sqT (k : KeepT H H') {a : Addr} {xs : List V} (h : SqT K H a xs) : SqT K H' a xs := by
  rcases h with (h | ⟨o, h⟩) | h
  · exact .inl (.inl (k _ _ True.intro h))
  · exact .inl (.inr ⟨o, k _ _ True.intro h⟩)
  · exact .inr h
mutual
theorem dt_keep (k : KeepT H H') : ∀ {v : V} {d : PyData}, Dt K H v d → Dt K H' v d
  | _, _, .non => .non
  | _, _, .bl b => .bl b
  | _, _, .int i => .int i
  | _, _, .str x => .str x
  | _, _, .tup h r => .tup (k.sqT h) (dts_keep k r)
theorem dts_keep (k : KeepT H H') : ∀ {vs : List V} {ds : List PyData}, Dts K H vs ds → Dts K H' vs ds
  | _, _, .nil => .nil
  | _, _, .cons h r => .cons (dt_keep k h) (dts_keep k r)
end
mutual
theorem Dt.dp : ∀ {v : V} {d : PyData}, Dt K H v d → Dp K H v d
  | _, _, .non => .non
  | _, _, .bl b => .bl b
  | _, _, .int i => .int i
  | _, _, .str x => .str x
  | _, _, .tup h r => .tup h (Dts.dps r)
theorem Dts.dps : ∀ {vs : List V} {ds : List PyData}, Dts K H vs ds → DpAll K H vs ds
  | _, _, .nil => .nil
  | _, _, .cons h r => .cons (Dt.dp h) (Dts.dps r)
end
theorem same_kt (s : Same H H') : KeepT H H' := fun b o _ h => s b o h
theorem KeepT.trans {H2 : Hp} (a : KeepT H H') (b : KeepT H' H2) : KeepT H H2 := fun c o n h => b c o n (a c o n h)
theorem KeepT.refl (H : Hp) : KeepT H H := fun _ _ _ h => h
theorem kt_upd {a : Addr} {u : HO} (h : H a = some u) (n : ¬ isT u) (o : HO) : KeepT H (upd H a o) := fun b v hv e => by
  have : b ≠ a := fun z => by
    subst z
    rw [h] at e
    cases e
    exact n hv
  rw [upd_ne this]
  exact e
theorem same_new {p : Addr} (h : H p = none) (o : HO) : Same H (upd H p o) := fun b u q => by rw [upd_ne (ne_of_none q h)]; exact q
theorem dts_len {vs : List V} {ds : List PyData} (h : Dts K H vs ds) : vs.length = ds.length := by
  induction vs generalizing ds with
  | nil => cases h; rfl
  | cons v vs ih =>
    cases h with
    | cons h r => exact congrArg Nat.succ (ih r)
theorem dts_get {vs : List V} {ds : List PyData} (h : Dts K H vs ds) {i : Nat} {d : PyData} (e : ds[i]? = some d) : ∃ v, vs[i]? = some v ∧ Dt K H v d := by
  induction vs generalizing ds i with
  | nil => cases h; simp at e
  | cons v vs ih =>
    cases h with
    | cons h r =>
      cases i with
      | zero => simp at e; subst e; exact ⟨v, rfl, h⟩
      | succ i => simp at e; simpa using ih r e
theorem dts_of {vs : List V} {ds : List PyData} (h : Dts K H vs ds) {i : Nat} {v : V} (e : vs[i]? = some v) : ∃ d, ds[i]? = some d ∧ Dt K H v d := by
  induction vs generalizing ds i with
  | nil => simp at e
  | cons u vs ih =>
    cases h with
    | cons h r =>
      cases i with
      | zero => simp at e; subst e; exact ⟨_, rfl, h⟩
      | succ i => simp at e; simpa using ih r e
theorem dts_app {vs ws : List V} {ds es : List PyData} (h : Dts K H vs ds) (h2 : Dts K H ws es) : Dts K H (vs ++ ws) (ds ++ es) := by
  induction vs generalizing ds with
  | nil => cases h; exact h2
  | cons v vs ih =>
    cases h with
    | cons h r => exact .cons h (ih r)
theorem dts_one {v : V} {d : PyData} (h : Dt K H v d) : Dts K H [v] [d] := .cons h .nil
theorem dts_strs (xs : List Str) : Dts K H (xs.map V.str) (strD xs) := by
  induction xs with
  | nil => exact .nil
  | cons x xs ih => exact .cons (.str x) ih
theorem dt_str_inv {v : V} {x : Str} (h : Dt K H v (.str x)) : v = .str x := by cases h; rfl
theorem dt_int_inv {v : V} {x : Int} (h : Dt K H v (.int x)) : v = .int x := by cases h; rfl
theorem dt_bool_inv {v : V} {x : Bool} (h : Dt K H v (.bool x)) : v = .bl x := by cases h; rfl
theorem dt_tup_inv {v : V} {ds : List PyData} (h : Dt K H v (.tuple ds)) : ∃ a xs, v = .ref a ∧ SqT K H a xs ∧ Dts K H xs ds := by
  cases h with
  | tup h r => exact ⟨_, _, rfl, h, r⟩
/-- a tuple just made -/
theorem dt_new {p : Addr} {xs : List V} {ds : List PyData} (hp : H p = none) (h : Dts K H xs ds) : Dt K (upd H p (.tup xs)) (.ref p) (.tuple ds) :=
  .tup (SqT.of upd_same) (dts_keep (same_kt (same_new hp _)) h)
theorem strs_inv {xs : List V} {ss : List Str} (h : Dts K H xs (strD ss)) : xs = ss.map V.str := by
  induction ss generalizing xs with
  | nil => cases h; rfl
  | cons s ss ih =>
    cases h with
    | cons h r => rw [dt_str_inv h, ih r]; rfl
end
/-! ### tokens in the heap, the reader -/
def tokD (t : Tok) : PyData := .tuple [.str t.tk.knd, .str t.tk.txt, .int t.row, .int t.col]
def rdF (a : Addr) (i : Int) : List (Str × V) := [("_row", .ref a), ("_at", .int i)]
theorem row_at : ¬ (("_row" : Str) = "_at") := by decide +kernel
theorem rdF_row (a : Addr) (i : Int) : (rdF a i).lookup ("_row" : Str) = some (.ref a) := by simp [rdF, List.lookup]
theorem rdF_at (a : Addr) (i : Int) : (rdF a i).lookup ("_at" : Str) = some (.int i) := by
  have e : (("_at" : Str) == "_row") = false := beq_eq_false_iff_ne.mpr fun z => row_at z.symm
  simp [rdF, List.lookup, e]
theorem rdF_no (a : Addr) (i : Int) {m : Str} (h1 : (m == ("_row" : Str)) = false := by decide +kernel) (h2 : (m == ("_at" : Str)) = false := by decide +kernel) : (rdF a i).lookup m = none := by
  simp [rdF, List.lookup, h1, h2]
theorem rdF_put (a : Addr) (i j : Int) : putF "_at" (.int j) (rdF a i) = rdF a j := by
  show (if ("_row" : Str) = "_at" then _ else (("_row" : Str), V.ref a) :: (if ("_at" : Str) = "_at" then [(("_at" : Str), V.int j)] else _)) = _
  rw [if_neg row_at, if_pos rfl] <;> rfl
/-- the last one is the end, no other -/
def EndF : List Tok → Prop
  | [] => False
  | [t] => t.tk = .fin
  | t :: u :: r => (t.tk ≠ .fin ∧ ∀ n, t.tk = .num n → n < 4294967296) ∧ EndF (u :: r)
theorem EndF.cons {l : List Tok} (h : EndF l) : ∃ t r, l = t :: r := by
  cases l with
  | nil => exact h.elim
  | cons t r => exact ⟨t, r, rfl⟩
theorem EndF.tail {t : Tok} {r : List Tok} (h : EndF (t :: r)) (ht : t.tk ≠ .fin) : EndF r := by
  cases r with
  | nil => exact (ht h).elim
  | cons u r => exact h.2
theorem EndF.num {l : List Tok} (h : EndF l) {n : Nat} (e : hd l = .num n) : n < 4294967296 := by
  match l, h, e with
  | [], h, _ => exact h.elim
  | [t], h, e =>
    have e' : t.tk = .num n := e
    have h' : t.tk = .fin := h
    rw [h'] at e'
    cases e'
  | t :: u :: r, h, e => exact h.1.2 n e
theorem numS_len {n : Nat} (h : n < 4294967296) : (numS n).length ≤ 10 := by
  rw [TL.len_tl]
  show (TL.tl (Str.ofString (toString ((n : Nat) : Int)))).length ≤ 10
  rw [TL.tl_num]
  exact TL.numL_len (by decide) (Nat.lt_of_lt_of_le h (by decide))
theorem numS_int {n : Nat} (h : n < 4294967296) : intText? (numS n) = some (n : Int) := by
  refine TL.int_num ?_
  have := numS_len h
  rw [TL.len_tl] at this
  rw [← TL.tl_num]
  exact Nat.le_trans this (by decide)
/-- at p: a reader of the list of tokens at a; its tokens ahead are l -/
def RdAt (K : PySem.W.Frag) (H : Hp) (p a : Addr) (l : List Tok) : Prop := ∃ (dx : Addr) (vs : List V) (done : List Tok), H p = some (.ins (aR K) dx (rdF a (done.length : Int))) ∧ H a = some (.lst vs) ∧ Dts K H vs ((done ++ l).map tokD) ∧ EndF l
/-- all but the reader at p stays -/
def Keep (p : Addr) (H H' : Hp) : Prop := ∀ b o, b ≠ p → H b = some o → H' b = some o
theorem Keep.refl (p : Addr) (H : Hp) : Keep p H H := fun _ _ _ h => h
theorem Keep.trans {p : Addr} {H H1 H2 : Hp} (a : Keep p H H1) (b : Keep p H1 H2) : Keep p H H2 := fun c o n h => b c o n (a c o n h)
theorem same_kp {p : Addr} {H H' : Hp} (s : Same H H') : Keep p H H' := fun b o _ h => s b o h
section
variable {K : PySem.W.Frag} {H H' : Hp} {p a : Addr} {l l' : List Tok}
theorem RdAt.endf (r : RdAt K H p a l) : EndF l := let ⟨_, _, _, _, _, _, h⟩ := r; h
/-- data stays where but the reader stays -/
theorem Keep.kt (k : Keep p H H') (r : RdAt K H p a l) : KeepT H H' := fun b o n h => by
  obtain ⟨dx, vs, done, hp, _⟩ := r
  refine k b o (fun e => ?_) h
  subst e
  rw [hp] at h
  cases h
  exact n
theorem RdAt.same (r : RdAt K H p a l) (s : Same H H') : RdAt K H' p a l := by
  obtain ⟨dx, vs, done, hp, ha, hd, he⟩ := r
  exact ⟨dx, vs, done, s _ _ hp, s _ _ ha, dts_keep (same_kt s) hd, he⟩
/-- another list than the reader's is changed -/
theorem RdAt.other (r : RdAt K H p a l) {q : Addr} {xs ys : List V} (hq : H q = some (.lst xs)) (ne : a ≠ q) : RdAt K (upd H q (.lst ys)) p a l := by
  obtain ⟨dx, vs, done, hp, ha, hd, he⟩ := r
  refine ⟨dx, vs, done, ?_, ?_, dts_keep (kt_upd hq (fun z => z) _) hd, he⟩
  · rw [upd_ne (ne_of hp hq (by intro z; cases z))]
    exact hp
  · rw [upd_ne ne]
    exact ha
theorem RdAt.ne_new (r : RdAt K H p a l) {q : Addr} (hq : H q = none) : a ≠ q ∧ p ≠ q := by
  obtain ⟨dx, vs, done, hp, ha, hd, he⟩ := r
  exact ⟨ne_of_none ha hq, ne_of_none hp hq⟩
/-- an object that is new since H is changed -/
theorem Keep.other (k : Keep p H H') {q : Addr} (hq : H q = none) (o : HO) : Keep p H (upd H' q o) := fun b u hb h => by
  rw [upd_ne (ne_of_none h hq)]
  exact k b u hb h
end
def hdT : List Tok → Tok
  | [] => ⟨.fin, 0, 0⟩
  | t :: _ => t
/-- the error Unexpected with its place, its dict at d -/
def tokErr (H : Hp) (d : Addr) (t : Tok) : Prop := H d = some (.xd [("column", .int t.col), ("row", .int t.row)])
/-- the wish of an error at l -/
def Bad (K : PySem.W.Frag) (p : Addr) (H : Hp) (E : XK) (l : List Tok) : Prop := ∀ (d : Addr) (H' : Hp), Keep p H H' → tokErr H' d (hdT l) → E (.ref (aU K)) (some d) H'
theorem Bad.keep {K : PySem.W.Frag} {p : Addr} {H H' : Hp} {E : XK} {l : List Tok} (b : Bad K p H E l) (k : Keep p H H') : Bad K p H' E l := fun d H2 k2 e => b d H2 (k.trans k2) e
/-- THE PROMISE of a parsing def: what f says of the tokens ahead -/
def spP (K : PySem.W.Frag) {α : Type} (f : P α) (enc : α → PyData) : Sp := fun vs H Q E => ∃ p b l, vs = [.ref p] ∧ RdAt K H p b l ∧
  (f l).wp (fun a r => ∀ v H', Keep p H H' → RdAt K H' p b r → Dt K H' v (enc a) → Q v H') (fun r => Bad K p H E r)
theorem spP_len {K : PySem.W.Frag} {α : Type} {f : P α} {enc : α → PyData} {vs : List V} {H : Hp} {Q : VK} {E : XK} (h : spP K f enc vs H Q E) : vs.length = 1 := by
  obtain ⟨p, b, l, rfl, _⟩ := h
  rfl
end Ko
end
section
set_option Elab.async false
set_option linter.all false
set_option maxRecDepth 100000
set_option maxHeartbeats 4000000
/-! The reader's methods -/
namespace Ko
open PySem PySem.Spec PyProof.Rows L2
def spAhead (K : PySem.W.Frag) : Sp := fun vs H Q _ => ∃ p b l, vs = [.ref p, .int 0] ∧ RdAt K H p b l ∧ ∀ v, Dt K H v (tokD (hdT l)) → Q v H
def spKind (K : PySem.W.Frag) : Sp := fun vs H Q _ => ∃ p b l, vs = [.ref p] ∧ RdAt K H p b l ∧ Q (.str (hd l).knd) H
def spFail (K : PySem.W.Frag) : Sp := fun vs H _ E => ∃ p b l, vs = [.ref p] ∧ RdAt K H p b l ∧ Bad K p H E l
def spIsNext (K : PySem.W.Frag) : Sp := fun vs H Q _ => ∃ p b l s, vs = [.ref p, .str (Sym.txt s), .int 0] ∧ RdAt K H p b l ∧ ∀ H', Same H H' → Q (.bl (decide (hd l = .sym s))) H'
def spTakeK (K : PySem.W.Frag) : Sp := fun vs H Q E => ∃ p b l k, vs = [.ref p, .str k] ∧ k ≠ "end" ∧ RdAt K H p b l ∧ ((hd l).knd = k → ∀ H', Keep p H H' → RdAt K H' p b l.tail → Q (.str (hd l).txt) H') ∧ ((hd l).knd ≠ k → Bad K p H E l)
def spExpect (K : PySem.W.Frag) : Sp := fun vs H Q E => ∃ p b l s, vs = [.ref p, .str (Sym.txt s)] ∧ RdAt K H p b l ∧ (if hd l = .sym s then ∀ H', Keep p H H' → RdAt K H' p b l.tail → Q .non H' else Bad K p H E l)
def spSkip (K : PySem.W.Frag) : Sp := fun vs H Q _ => ∃ p b l s, vs = [.ref p, .str (Sym.txt s)] ∧ RdAt K H p b l ∧ (if hd l = .sym s then ∀ H', Keep p H H' → RdAt K H' p b l.tail → Q (.bl true) H' else ∀ H', Keep p H H' → RdAt K H' p b l → Q (.bl false) H')
theorem hdT_tk (l : List Tok) : (hdT l).tk = hd l := by cases l <;> rfl
theorem tokD_tup {K : PySem.W.Frag} {H : Hp} {v : V} {t : Tok} (h : Dt K H v (tokD t)) : ∃ a, v = .ref a ∧ SqT K H a [.str t.tk.knd, .str t.tk.txt, .int t.row, .int t.col] := by
  obtain ⟨a, xs, rfl, hs, r⟩ := dt_tup_inv h
  cases r with
  | cons h1 r =>
    cases r with
    | cons h2 r =>
      cases r with
      | cons h3 r =>
        cases r with
        | cons h4 r =>
          cases r
          rw [dt_str_inv h1, dt_str_inv h2, dt_int_inv h3, dt_int_inv h4] at hs
          exact ⟨a, rfl, hs⟩
theorem len_map {α β : Type} (f : α → β) (l : List α) : (l.map f).length = l.length := List.length_map f
section
variable {P : Program} {w : World} {K : PySem.W.Frag} {mg : Str → Option Value} {base : Heap}
theorem ok_Reader_ahead (T : Tx K mg) : FnOk P w K mg base CX0 1 (a_Reader_ahead K) (fdOf K d_Reader_ahead) ["self", "many"] (spAhead K) := by
  refine (F_Reader_ahead T).ok sc_Reader_ahead (fun vs H Q E h => ?_) (fun cdv A outer s H vs Q E hr h => ?_)
  · obtain ⟨p, b, l, rfl, _⟩ := h
    rfl
  obtain ⟨p, b, l, rfl, hR, q⟩ := h
  obtain ⟨dx, vs, done, hp, ha, hd, he⟩ := hR
  obtain ⟨t, r, rfl⟩ := he.cons
  refine ⟨_, PSs.nox (pss_one (ps_ret (pe_ix ix_list (pe_fld (pv 0) rfl) (pe_callB (call_min2 rfl) (by rfl) (z_min T) (by decide +kernel) (pa_cons (pe_op op_add (pe_fld (pv 0) rfl) (pv 1)) (pa_cons (pe_op op_sub (pe_callB call_len_seq (by rfl) (z_len T) PySem.boot_len (pa_cons (pe_fld (pv 0) rfl) pa_nil)) pe_int) pa_nil))) (fun _ _ => rfl)))), ?_⟩
  have hl : vs.length = done.length + (r.length + 1) := by rw [dts_len hd]; simp
  refine ⟨_, rfl, p, aR K, dx, _, _, rfl, hp, c_Reader T, n_row T, rdF_row _ _, ?_⟩
  refine ⟨_, rfl, p, aR K, dx, _, _, rfl, hp, c_Reader T, n_at T, rdF_at _ _, _, rfl, _, _, rfl, rfl, ?_⟩
  refine ⟨_, rfl, p, aR K, dx, _, _, rfl, hp, c_Reader T, n_row T, rdF_row _ _, b, _, rfl, .inl (SqL.of ha), _, _, rfl, rfl, ?_⟩
  refine ⟨_, _, rfl, ?_⟩
  have ei : (if ((vs.length : Nat) : Int) - 1 < ((done.length : Nat) : Int) + 0 then ((vs.length : Nat) : Int) - 1 else ((done.length : Nat) : Int) + 0) = ((done.length : Nat) : Int) := by
    rw [if_neg (by omega)]; omega
  rw [ei]
  have e1 : ((done ++ t :: r).map tokD)[done.length]? = some (tokD t) := by
    rw [List.getElem?_map, List.getElem?_append_right (Nat.le_refl _)]; simp
  obtain ⟨v, hv, hdv⟩ := dts_get hd e1
  exact ⟨b, vs, _, v, rfl, rfl, SqL.of ha, atI_nat hv, q v hdv⟩
theorem ok_Reader_kind (T : Tx K mg) : FnOk P w K mg base CX0 2 (a_Reader_kind K) (fdOf K d_Reader_kind) ["self"] (spKind K) := by
  have G_Reader_ahead := ok_Reader_ahead (P := P) (w := w) (base := base) T
  refine (F_Reader_kind T).ok sc_Reader_kind (fun vs H Q E h => ?_) (fun cdv A outer s H vs Q E hr h => ?_)
  · obtain ⟨p, b, l, rfl, _⟩ := h
    rfl
  obtain ⟨p, b, l, rfl, hR, q⟩ := h
  refine ⟨_, PSs.nox (pss_one (ps_ret (pe_ix ix_tup (pe_meth (pv 0) (c_Reader T) (mt_ahead T) G_Reader_ahead (hr.mono (by omega)) (B_Reader_ahead T) .nil pass0 (pa_cons pe_int pa_nil)) pe_int (fun _ _ => rfl)))), ?_⟩
  obtain ⟨dx, vs, done, hp, ha, hd, he⟩ := id hR
  refine ⟨_, rfl, p, dx, _, rfl, hp, rdF_no _ _, p, b, l, rfl, hR, fun v hv => ?_⟩
  obtain ⟨z0, rfl, hs⟩ := tokD_tup hv
  refine ⟨z0, _, 0, _, rfl, rfl, hs, rfl, ?_⟩
  rw [hdT_tk]
  exact q
theorem ok_Reader_is_next (T : Tx K mg) : FnOk P w K mg base CX0 2 (a_Reader_is_next K) (fdOf K d_Reader_is_next) ["self", "text", "many"] (spIsNext K) := by
  have G_Reader_ahead := ok_Reader_ahead (P := P) (w := w) (base := base) T
  refine (F_Reader_is_next T).ok sc_Reader_is_next (fun vs H Q E h => ?_) (fun cdv A outer s H vs Q E hr h => ?_)
  · obtain ⟨p, b, l, sy, rfl, _⟩ := h
    rfl
  obtain ⟨p, b, l, sy, rfl, hR, q⟩ := h
  refine ⟨_, PSs.nox (pss_cons (ps_set (i := 3) sc_Reader_is_next.nd rfl (Or.inl rfl) (pe_meth (pv 0) (c_Reader T) (mt_ahead T) G_Reader_ahead (hr.mono (by omega)) (B_Reader_ahead T) .nil pass0 (pa_cons (pv 2) pa_nil))) (pss_one (ps_ret (pe_and (pe_cmpR op_eq (pe_ix ix_tup (pv 3) pe_int (fun _ _ => rfl)) (pv 1) (nomark _)) (pe_one (pe_cmpR op_in_seq (pe_ix ix_tup (pv 3) pe_int (fun _ _ => rfl)) (pe_tup (pa_cons pe_str (pa_cons pe_str pa_nil))) (by rfl))))))), ?_⟩
  obtain ⟨dx, vs, done, hp, ha, hd, he⟩ := id hR
  refine ⟨_, rfl, p, dx, _, rfl, hp, rdF_no _ _, _, rfl, p, b, l, rfl, hR, fun v hv => ?_⟩
  obtain ⟨z0, rfl, hs⟩ := tokD_tup hv
  rw [hdT_tk] at hs
  refine ⟨_, rfl, z0, _, 1, _, rfl, rfl, hs, rfl, _, rfl, rfl, _, rfl, ?_⟩
  refine ite2 (fun c => ?_) (fun c => ?_)
  · have c' : (Ko.hd l).txt = sy.txt := by
      have := of_decide_eq_true c
      injection this
    refine ⟨_, rfl, z0, _, 0, _, rfl, rfl, hs, rfl, (by show 2 ≤ sizeLine; decide), fun z hz => ?_⟩
    refine ⟨z, _, rfl, .inr (SqT.of upd_same), rfl, rfl, ?_⟩
    have e : inV (V.str (Ko.hd l).knd) [V.str "sign", V.str "keyword"] = decide (Ko.hd l = .sym sy) := by
      cases hl : Ko.hd l with
      | sym s2 =>
        rw [hl] at c'
        obtain rfl := Sym.inj c'
        rw [decide_eq_true rfl]
        cases s2 <;> decide +kernel
      | name x =>
        rw [decide_eq_false (by intro z; cases z)]
        show inV (V.str "name") [V.str "sign", V.str "keyword"] = false
        decide +kernel
      | num x =>
        rw [decide_eq_false (by intro z; cases z)]
        show inV (V.str "number") [V.str "sign", V.str "keyword"] = false
        decide +kernel
      | fin => rw [decide_eq_false (by intro z; cases z)]; decide +kernel
    show Q (.bl (if false = true then _ else inV (V.str (Ko.hd l).knd) [V.str "sign", V.str "keyword"])) _
    rw [if_neg Bool.false_ne_true, e]
    exact q _ (same_new hz _)
  · have c' : ¬ Ko.hd l = .sym sy := fun z => by
      apply c
      rw [z]
      exact decide_eq_true rfl
    rw [show (decide (Ko.hd l = .sym sy)) = false from decide_eq_false c'] at q
    exact q _ (Same.refl _)
/-- what an error's init leaves -/
def spErrInit (K : PySem.W.Frag) : Sp := fun vs H Q _ => ∃ (a : Addr) (r c : Int), vs = [.ref a, .int r, .int c] ∧ H a = some (exo a (aU K) none) ∧
  ∀ d H', H d = none → d ≠ a → (∀ b, b ≠ a → b ≠ d → H' b = H b) → H' a = some (exo a (aU K) (some d)) → H' d = some (exd d [("column", .int c), ("row", .int r)]) → Q .non H'
theorem ok_TextError_init (T : Tx K mg) : FnOk P w K mg base CX0 1 (a_TextError_init K) (fdOf K d_TextError_init) ["self", "row", "column"] (spErrInit K) := by
  refine (F_TextError_init T).ok sc_TextError_init (fun vs H Q E h => ?_) (fun cdv A outer s H vs Q E hr h => ?_)
  · obtain ⟨a, r, c, rfl, _⟩ := h
    rfl
  obtain ⟨a, r, c, rfl, ha, q⟩ := h
  refine ⟨_, PSs.nox (pss_cons (ps_expr (pe_ownInit (by rfl) (m_OwnerError T) (x_rdO T) (x_gaO T) (x_inO T) (pa_cons (pv 0) (pa_cons pe_str pa_nil)))) (pss_cons (ps_ost (pv 0) (pv 1)) (pss_one (ps_ost (pv 0) (pv 2))))), ?_⟩
  refine ⟨_, rfl, a, aU K, _, rfl, (by show 1 ≤ 1000; decide), x_oex T, ha, ?_⟩
  refine ⟨_, rfl, _, rfl, a, aU K, rfl, x_oex T, x_row T, .inl ⟨ha, fun dx hdx hne => ?_⟩⟩
  refine ⟨_, rfl, _, rfl, a, aU K, rfl, x_oex T, x_col T, .inr ⟨dx, [("row", .int r)], upd_same, ?_, (by show 1 ≤ 900; decide), ?_⟩⟩
  · rw [upd_ne hne, upd_same]
  refine q dx _ hdx hne (fun b h1 h2 => ?_) ?_ upd_same
  · rw [upd_ne h2, upd_ne h1, upd_ne h2]
  · rw [upd_ne (Ne.symm hne), upd_same]
theorem ok_Reader_fail (T : Tx K mg) : FnOk P w K mg base (L2.CX P w) 3 (a_Reader_fail K) (fdOf K d_Reader_fail) ["self"] (spFail K) := by
  have G_Reader_ahead := ok_Reader_ahead (P := P) (w := w) (base := base) T
  have G_TextError_init := ok_TextError_init (P := P) (w := w) (base := base) T
  refine (F_Reader_fail T).ok sc_Reader_fail (fun vs H Q E h => ?_) (fun cdv A outer s H vs Q E hr h => ?_)
  · obtain ⟨p, b, l, rfl, _⟩ := h
    rfl
  obtain ⟨p, b, l, rfl, hR, q⟩ := h
  refine ⟨_, (pss_cons (ps_set (i := 1) sc_Reader_fail.nd rfl (Or.inl rfl) (pe_meth (pv 0) (c_Reader T) (mt_ahead T) G_Reader_ahead (hr.mono (by omega)) (B_Reader_ahead T) .nil pass0 (pa_cons pe_int pa_nil))) (pss_one (ps_raise rfl (takes_of rfl rfl rfl rfl) (pmk_oex (x_oex T) (x_init T) (x_tyI T) G_TextError_init (hr.mono (by omega)) (B_TextError_init T) .nil pass0 rfl (m_Unexpected T) (pa_cons (pe_ix ix_tup (pv 1) pe_int (fun _ _ => rfl)) (pa_cons (pe_ix ix_tup (pv 1) pe_int (fun _ _ => rfl)) pa_nil)))))), ?_⟩
  obtain ⟨dx, vs, done, hp, ha, hd, he⟩ := id hR
  refine ⟨_, rfl, p, dx, _, rfl, hp, rdF_no _ _, p, b, l, rfl, hR, fun v hv => ?_⟩
  obtain ⟨z0, rfl, hs⟩ := tokD_tup hv
  refine ⟨_, rfl, z0, _, 2, _, rfl, rfl, hs, rfl, _, rfl, z0, _, 3, _, rfl, rfl, hs, rfl, (by show 2 ≤ 1000; decide), fun x hx => ?_⟩
  refine ⟨x, _, _, rfl, upd_same, fun d H' hd1 hd2 k ea ed => ⟨rfl, d, _, ea, ed, ?_, ?_⟩⟩
  · rw [upd_ne hd2] at hd1
    exact hd1
  · refine q d _ (fun c o hc ho => ?_) upd_same
    have hcx : c ≠ x := ne_of_none ho hx
    have hcd : c ≠ d := by
      rw [upd_ne hd2] at hd1
      exact ne_of_none ho hd1
    rw [upd_ne hcd, del_ne hcx, k c hcx hcd, upd_ne hcx]
    exact ho
/-- the reader one further -/
theorem RdAt.next {H : Hp} {p dx a : Addr} {vs : List V} {done r : List Tok} {t : Tok} (hp : H p = some (.ins (aR K) dx (rdF a ((done.length : Int))))) (ha : H a = some (.lst vs)) (hd : Dts K H vs ((done ++ t :: r).map tokD)) (he : EndF (t :: r)) (ht : t.tk ≠ .fin) :
    RdAt K (upd H p (.ins (aR K) dx (rdF a ((done.length : Int) + 1)))) p a r := by
  have hap : a ≠ p := ne_of ha hp (by intro z; cases z)
  refine ⟨dx, vs, done ++ [t], ?_, by rw [upd_ne hap]; exact ha, ?_, he.tail ht⟩
  · rw [upd_same]
    simp
  · rw [List.append_assoc]
    refine dts_keep (fun b o n h => ?_) hd
    have : b ≠ p := fun z => by
      subst z
      rw [hp] at h
      cases h
      exact n
    rw [upd_ne this]
    exact h
theorem keep_upd {H : Hp} {p : Addr} {o : HO} : Keep p H (upd H p o) := fun b u hb h => by rw [upd_ne hb]; exact h
theorem knd_fin {t : Tk} {k : Str} (h : t.knd = k) (hk : k ≠ "end") : t ≠ .fin := fun z => by
  rw [z] at h
  exact hk h.symm
theorem ok_Reader_take (T : Tx K mg) : FnOk P w K mg base (L2.CX P w) 4 (a_Reader_take K) (fdOf K d_Reader_take) ["self", "kind"] (spTakeK K) := by
  have G_Reader_kind := ok_Reader_kind (P := P) (w := w) (base := base) T
  have G_Reader_fail := ok_Reader_fail (P := P) (w := w) (base := base) T
  refine (F_Reader_take T).ok sc_Reader_take (fun vs H Q E h => ?_) (fun cdv A outer s H vs Q E hr h => ?_)
  · obtain ⟨p, b, l, k, rfl, _⟩ := h
    rfl
  obtain ⟨p, b, l, k, rfl, hk, hR, q1, q2⟩ := h
  refine ⟨_, (pss_cons (ps_if (pt_cmpR op_ne (pe_meth0 (pv 0) (c_Reader T) (mt_kind T) G_Reader_kind (hr.mono (by omega)) (B_Reader_kind T) .nil pass0) (pv 1) (nomark _)) (pss_one (ps_expr (pe_meth0 (pv 0) (c_Reader T) (mt_fail T) G_Reader_fail (hr.mono (by omega)) (B_Reader_fail T) .nil (passes_call (takes_of rfl rfl rfl rfl) (fun _ _ _ _ z => z))))) pss_nil) (pss_cons (ps_fldaug (pv 0) pe_int in_add) (pss_one (ps_ret (pe_ix ix_tup (pe_ix ix_list (pe_fld (pv 0) rfl) (pe_op op_sub (pe_fld (pv 0) rfl) pe_int) (fun _ _ => rfl)) pe_int (fun _ _ => rfl)))))), ?_⟩
  obtain ⟨dx, vs, done, hp, ha, hd, he⟩ := id hR
  obtain ⟨t, r, rfl⟩ := he.cons
  refine ⟨_, rfl, p, dx, _, rfl, hp, rdF_no _ _, p, b, _, rfl, hR, _, rfl, rfl, _, rfl, ?_⟩
  refine ite2 (fun c => ?_) (fun c => ?_)
  · have c' : (Ko.hd (t :: r)).knd ≠ k := fun z => by
      rw [z] at c
      simp at c
    exact ⟨_, rfl, p, dx, _, rfl, hp, rdF_no _ _, p, b, _, rfl, hR, q2 c'⟩
  · have c' : (Ko.hd (t :: r)).knd = k := by
      simp at c
      exact c
    have ht : t.tk ≠ .fin := knd_fin c' hk
    refine ⟨_, rfl, p, aR K, dx, _, _, rfl, hp, c_Reader T, n_at T, rdF_at _ _, _, _, rfl, rfl, dx, _, hp, (by show 2 < 1000; decide), ?_⟩
    rw [rdF_put]
    have hn := RdAt.next (K := K) hp ha hd he ht
    have hap : b ≠ p := ne_of ha hp (by intro z; cases z)
    refine ⟨_, rfl, p, aR K, dx, _, _, rfl, upd_same, c_Reader T, n_row T, rdF_row _ _, ?_⟩
    refine ⟨_, rfl, p, aR K, dx, _, _, rfl, upd_same, c_Reader T, n_at T, rdF_at _ _, _, _, rfl, rfl, ?_⟩
    have e1 : ((done ++ t :: r).map tokD)[done.length]? = some (tokD t) := by
      rw [List.getElem?_map, List.getElem?_append_right (Nat.le_refl _)]; simp
    obtain ⟨v, hv, hdv⟩ := dts_get hd e1
    have e2 : ((done.length : Int) + 1 - 1) = ((done.length : Nat) : Int) := by omega
    have hx : atI vs ((done.length : Int) + 1 - 1) = some v := by
      rw [e2]
      exact atI_nat hv
    refine ⟨b, vs, _, v, rfl, rfl, SqL.of (by rw [upd_ne hap]; exact ha), hx, ?_⟩
    obtain ⟨z0, rfl, hs⟩ := tokD_tup hdv
    exact ⟨z0, _, 1, _, rfl, rfl, (Keep.kt keep_upd hR).sqT hs, rfl, q1 c' _ keep_upd hn⟩
theorem isn (T : Tx K mg) : ∃ ds, Vals [V.int 0] ds ∧ Binds K (fdOf K d_Reader_is_next) ["self", "text", "many"] ds :=
  (F_Reader_is_next T).binds1 (ps := ["self", "text", "many"]) 2 0 (by intro z; cases z) rfl fun T kV doc pm an cdv ct us its hu hi => match us, hu, its, hi with | [_, _], _, [_], _ => ⟨_, rfl, rfl⟩
theorem ok_Reader_expect (T : Tx K mg) : FnOk P w K mg base (L2.CX P w) 4 (a_Reader_expect K) (fdOf K d_Reader_expect) ["self", "text"] (spExpect K) := by
  have G_Reader_is_next := ok_Reader_is_next (P := P) (w := w) (base := base) T
  have G_Reader_fail := ok_Reader_fail (P := P) (w := w) (base := base) T
  obtain ⟨ds, vN, bN⟩ := isn T
  refine (F_Reader_expect T).ok sc_Reader_expect (fun vs H Q E h => ?_) (fun cdv A outer s H vs Q E hr h => ?_)
  · obtain ⟨p, b, l, k, rfl, _⟩ := h
    rfl
  obtain ⟨p, b, l, sy, rfl, hR, q⟩ := h
  refine ⟨_, (pss_cons (ps_if (pt_not (pt_val (pe_meth (pv 0) (c_Reader T) (mt_is_next T) G_Reader_is_next (hr.mono (by omega)) bN vN pass0 (pa_cons (pv 1) pa_nil)))) (pss_one (ps_expr (pe_meth0 (pv 0) (c_Reader T) (mt_fail T) G_Reader_fail (hr.mono (by omega)) (B_Reader_fail T) .nil (passes_call (takes_of rfl rfl rfl rfl) (fun _ _ _ _ z => z))))) pss_nil) (pss_one (ps_fldaug (pv 0) pe_int in_add))), ?_⟩
  obtain ⟨dx, vs, done, hp, ha, hd, he⟩ := id hR
  refine ⟨_, rfl, p, dx, _, rfl, hp, rdF_no _ _, _, rfl, p, b, l, sy, rfl, hR, fun H1 s1 => ⟨_, rfl, ?_⟩⟩
  have hR1 := hR.same s1
  by_cases c : Ko.hd l = .sym sy
  · rw [if_pos c] at q
    rw [decide_eq_true c]
    refine iteF ?_
    obtain ⟨dx, vs, done, hp, ha, hd, he⟩ := id hR1
    obtain ⟨t, r, rfl⟩ := he.cons
    have ht : t.tk ≠ .fin := fun z => by
      have c' : t.tk = .sym sy := c
      rw [z] at c'
      cases c'
    refine ⟨_, rfl, p, aR K, dx, _, _, rfl, hp, c_Reader T, n_at T, rdF_at _ _, _, _, rfl, rfl, dx, _, hp, (by show 2 < 1000; decide), ?_⟩
    rw [rdF_put]
    exact q _ ((same_kp s1).trans keep_upd) (RdAt.next (K := K) hp ha hd he ht)
  · rw [if_neg c] at q
    rw [decide_eq_false c]
    refine iteT ?_
    exact ⟨_, rfl, p, dx, _, rfl, s1 _ _ hp, rdF_no _ _, p, b, _, rfl, hR1, q.keep (same_kp s1)⟩
theorem ok_Reader_skip (T : Tx K mg) : FnOk P w K mg base CX0 3 (a_Reader_skip K) (fdOf K d_Reader_skip) ["self", "text"] (spSkip K) := by
  have G_Reader_is_next := ok_Reader_is_next (P := P) (w := w) (base := base) T
  obtain ⟨ds, vN, bN⟩ := isn T
  refine (F_Reader_skip T).ok sc_Reader_skip (fun vs H Q E h => ?_) (fun cdv A outer s H vs Q E hr h => ?_)
  · obtain ⟨p, b, l, k, rfl, _⟩ := h
    rfl
  obtain ⟨p, b, l, sy, rfl, hR, q⟩ := h
  refine ⟨_, PSs.nox (pss_cons (ps_if (pt_not (pt_val (pe_meth (pv 0) (c_Reader T) (mt_is_next T) G_Reader_is_next (hr.mono (by omega)) bN vN pass0 (pa_cons (pv 1) pa_nil)))) (pss_one (ps_ret pe_bl)) pss_nil) (pss_cons (ps_fldaug (pv 0) pe_int in_add) (pss_one (ps_ret pe_bl)))), ?_⟩
  obtain ⟨dx, vs, done, hp, ha, hd, he⟩ := id hR
  refine ⟨_, rfl, p, dx, _, rfl, hp, rdF_no _ _, _, rfl, p, b, l, sy, rfl, hR, fun H1 s1 => ⟨_, rfl, ?_⟩⟩
  have hR1 := hR.same s1
  by_cases c : Ko.hd l = .sym sy
  · rw [if_pos c] at q
    rw [decide_eq_true c]
    refine iteF ?_
    obtain ⟨dx, vs, done, hp, ha, hd, he⟩ := id hR1
    obtain ⟨t, r, rfl⟩ := he.cons
    have ht : t.tk ≠ .fin := fun z => by
      have c' : t.tk = .sym sy := c
      rw [z] at c'
      cases c'
    refine ⟨_, rfl, p, aR K, dx, _, _, rfl, hp, c_Reader T, n_at T, rdF_at _ _, _, _, rfl, rfl, dx, _, hp, (by show 2 < 1000; decide), ?_⟩
    rw [rdF_put]
    exact q _ ((same_kp s1).trans keep_upd) (RdAt.next (K := K) hp ha hd he ht)
  · rw [if_neg c] at q
    rw [decide_eq_false c]
    refine iteT ?_
    exact q _ (same_kp s1) hR1
/-- Reader(found) -/
def spRInit (K : PySem.W.Frag) : Sp := fun vs H Q _ => ∃ (p dx a : Addr) (ts : List V) (l : List Tok), vs = [.ref p, .ref a] ∧ H p = some (.ins (aR K) dx []) ∧ H a = some (.lst ts) ∧ Dts K H ts (l.map tokD) ∧ EndF l ∧ ∀ H', Keep p H H' → RdAt K H' p a l → Q .non H'
theorem ok_Reader_init (T : Tx K mg) : FnOk P w K mg base CX0 1 (a_Reader_init K) (fdOf K d_Reader_init) ["self", "row"] (spRInit K) := by
  refine (F_Reader_init T).ok sc_Reader_init (fun vs H Q E h => ?_) (fun cdv A outer s H vs Q E hr h => ?_)
  · obtain ⟨p, dx, a, ts, l, rfl, _⟩ := h
    rfl
  obtain ⟨p, dx, a, ts, l, rfl, hp, ha, hd, he, q⟩ := h
  refine ⟨_, PSs.nox (pss_cons (ps_fld (pv 0) (pv 1) rfl) (pss_one (ps_fld (pv 0) pe_int rfl))), ?_⟩
  refine ⟨_, rfl, _, rfl, p, aR K, dx, _, rfl, hp, c_Reader T, n_row T, (by show 0 < 1000; decide), ?_⟩
  refine ⟨_, rfl, p, aR K, dx, _, rfl, upd_same, c_Reader T, n_at T, (by show 1 < 1000; decide), ?_⟩
  have hap : a ≠ p := ne_of ha hp (by intro z; cases z)
  have ef : putF "_at" (.int 0) (putF "_row" (V.ref a) []) = rdF a 0 := by
    show (if ("_row" : Str) = "_at" then _ else (("_row" : Str), V.ref a) :: [(("_at" : Str), V.int 0)]) = _
    rw [if_neg row_at] <;> rfl
  rw [ef, upd_upd]
  refine q _ keep_upd ⟨dx, ts, [], upd_same, by rw [upd_ne hap]; exact ha, ?_, he⟩
  refine dts_keep (fun b o n h => ?_) hd
  have : b ≠ p := fun z => by
    subst z
    rw [hp] at h
    cases h
    exact n
  rw [upd_ne this]
  exact h
end
end Ko
end
section
set_option Elab.async false
set_option linter.all false
set_option maxRecDepth 100000
set_option maxHeartbeats 4000000
/-! Steps of a parsing def: what the reader's methods and the other defs give, told by the parser's steps -/
namespace Ko
open PySem PySem.Spec PyProof.Rows L2
section
variable {K : PySem.W.Frag} {H H0 : Hp} {p b : Addr} {l : List Tok} {σ : L2.St} {Q : VK} {E E' : XK} {α β : Type} {ok : α → List Tok → Prop} {bad : List Tok → Prop} {s : Sym}
/-- reader.m(..), the reader in slot i -/
theorem me {m : Str} {sp : Sp} {t : TA} {i : Nat} {dvs : List V} (hR : RdAt K H p b l) (hs : σ[i]? = some (some (.ref p))) (h : t σ H fun vs H2 => sp (.ref p :: (vs ++ dvs)) H2 Q E') (h1 : (m == ("_row" : Str)) = false := by decide +kernel)
    (h2 : (m == ("_at" : Str)) = false := by decide +kernel) : tMeth (aR K) m sp dvs E' (tVar i) t σ H Q := by
  obtain ⟨dx, vs, done, hp, _⟩ := hR
  exact ⟨_, hs, p, dx, _, rfl, hp, rdF_no _ _ h1 h2, h⟩
theorem me0 {m : Str} {sp : Sp} {i : Nat} (hR : RdAt K H p b l) (hs : σ[i]? = some (some (.ref p))) (h : sp [.ref p] H Q E') (h1 : (m == ("_row" : Str)) = false := by decide +kernel)
    (h2 : (m == ("_at" : Str)) = false := by decide +kernel) : tMeth (aR K) m sp [] E' (tVar i) tNil σ H Q := me hR hs h h1 h2
theorem me1c {m : Str} {sp : Sp} {i : Nat} {v : V} (hR : RdAt K H p b l) (hs : σ[i]? = some (some (.ref p))) (h : sp [.ref p, v] H Q E') (h1 : (m == ("_row" : Str)) = false := by decide +kernel)
    (h2 : (m == ("_at" : Str)) = false := by decide +kernel) : tMeth (aR K) m sp [] E' (tVar i) (tCons (tC v) tNil) σ H Q := me hR hs h h1 h2
theorem me1d {m : Str} {sp : Sp} {i : Nat} {v u : V} (hR : RdAt K H p b l) (hs : σ[i]? = some (some (.ref p))) (h : sp [.ref p, v, u] H Q E') (h1 : (m == ("_row" : Str)) = false := by decide +kernel)
    (h2 : (m == ("_at" : Str)) = false := by decide +kernel) : tMeth (aR K) m sp [u] E' (tVar i) (tCons (tC v) tNil) σ H Q := me hR hs h h1 h2
theorem me1v {m : Str} {sp : Sp} {i j : Nat} {v : V} (hR : RdAt K H p b l) (hs : σ[i]? = some (some (.ref p))) (hj : σ[j]? = some (some v)) (h : sp [.ref p, v] H Q E') (h1 : (m == ("_row" : Str)) = false := by decide +kernel)
    (h2 : (m == ("_at" : Str)) = false := by decide +kernel) : tMeth (aR K) m sp [] E' (tVar i) (tCons (tVar j) tNil) σ H Q := me hR hs ⟨_, hj, h⟩ h1 h2
/-- f(reader) -/
theorem ca {sp : Sp} {i : Nat} {v : V} (hs : σ[i]? = some (some v)) (h : sp [v] H Q E') : tCall sp [] E' (tCons (tVar i) tNil) σ H Q := ⟨_, hs, h⟩
theorem ca2 {sp : Sp} {i j : Nat} {v u : V} (hs : σ[i]? = some (some v)) (hj : σ[j]? = some (some u)) (h : sp [v, u] H Q E') : tCall sp [] E' (tCons (tVar i) (tCons (tVar j) tNil)) σ H Q := ⟨_, hs, _, hj, h⟩
theorem ca2c {sp : Sp} {i : Nat} {v u : V} (hs : σ[i]? = some (some v)) (h : sp [v, u] H Q E') : tCall sp [] E' (tCons (tVar i) (tCons (tC u) tNil)) σ H Q := ⟨_, hs, h⟩
theorem go_skip {t e : P α} (hR : RdAt K H p b l) (k0 : Keep p H0 H) (h : (ifB (skipP s) t e l).wp ok bad) (ht : hd l = .sym s → ∀ H', Keep p H H' → Keep p H0 H' → RdAt K H' p b l.tail → (t l.tail).wp ok bad → Q (.bl true) H')
    (he : hd l ≠ .sym s → ∀ H', Keep p H H' → Keep p H0 H' → RdAt K H' p b l → (e l).wp ok bad → Q (.bl false) H') : spSkip K [.ref p, .str s.txt] H Q E := by
  refine ⟨p, b, l, s, rfl, hR, ?_⟩
  have h' := wp_skip.mp (wp_ifB.mp h)
  by_cases c : hd l = .sym s
  · rw [if_pos c] at h' ⊢
    exact fun H' k R => ht c H' k (k0.trans k) R h'
  · rw [if_neg c] at h' ⊢
    exact fun H' k R => he c H' k (k0.trans k) R h'
theorem go_peek {t e : P α} (hR : RdAt K H p b l) (k0 : Keep p H0 H) (h : (ifB (peekP s) t e l).wp ok bad) (ht : hd l = .sym s → ∀ H', Keep p H H' → Keep p H0 H' → RdAt K H' p b l → (t l).wp ok bad → Q (.bl true) H')
    (he : hd l ≠ .sym s → ∀ H', Keep p H H' → Keep p H0 H' → RdAt K H' p b l → (e l).wp ok bad → Q (.bl false) H') : spIsNext K [.ref p, .str s.txt, .int 0] H Q E := by
  refine ⟨p, b, l, s, rfl, hR, fun H' sm => ?_⟩
  have h' := wp_peek.mp (wp_ifB.mp h)
  by_cases c : hd l = .sym s
  · rw [decide_eq_true c] at h' ⊢
    exact ht c H' (same_kp sm) (k0.trans (same_kp sm)) (hR.same sm) h'
  · rw [decide_eq_false c] at h' ⊢
    exact he c H' (same_kp sm) (k0.trans (same_kp sm)) (hR.same sm) h'
theorem go_expect {f : Unit → P α} (hR : RdAt K H p b l) (k0 : Keep p H0 H) (h : (bindP (expectP s) f l).wp ok (fun r => Bad K p H0 E r)) (hk : hd l = .sym s → ∀ H', Keep p H H' → Keep p H0 H' → RdAt K H' p b l.tail → (f () l.tail).wp ok (fun r => Bad K p H0 E r) → Q .non H') :
    spExpect K [.ref p, .str s.txt] H Q E := by
  refine ⟨p, b, l, s, rfl, hR, ?_⟩
  have h' := wp_expect.mp (wp_bind.mp h)
  by_cases c : hd l = .sym s
  · rw [if_pos c] at h' ⊢
    exact fun H' k R => hk c H' k (k0.trans k) R h'
  · rw [if_neg c] at h' ⊢
    exact h'.keep k0
theorem go_name {f : Str → P α} (hR : RdAt K H p b l) (k0 : Keep p H0 H) (h : (bindP takeNameP f l).wp ok (fun r => Bad K p H0 E r)) (hk : ∀ x, hd l = .name x → ∀ H', Keep p H H' → Keep p H0 H' → RdAt K H' p b l.tail → (f x l.tail).wp ok (fun r => Bad K p H0 E r) → Q (.str x) H') :
    spTakeK K [.ref p, .str "name"] H Q E := by
  refine ⟨p, b, l, "name", rfl, by decide +kernel, hR, fun c H' k R => ?_, fun c => ?_⟩
  · cases hl : hd l with
    | name x =>
      refine hk x hl H' k (k0.trans k) R ?_
      have h' := wp_bind.mp h
      unfold takeNameP at h'
      rw [hl] at h'
      exact h'
    | sym y => rw [hl] at c; cases y <;> exact absurd c (by decide +kernel)
    | num n => rw [hl] at c; exact absurd (show ("number" : Str) = "name" from c) (by decide +kernel)
    | fin => rw [hl] at c; exact absurd c (by decide +kernel)
  · have h' := wp_bind.mp h
    unfold takeNameP at h'
    cases hl : hd l with
    | name x => rw [hl] at c; exact absurd rfl c
    | sym y => rw [hl] at h'; exact Bad.keep h' k0
    | num n => rw [hl] at h'; exact Bad.keep h' k0
    | fin => rw [hl] at h'; exact Bad.keep h' k0
theorem go_num {f : Nat → P α} (hR : RdAt K H p b l) (k0 : Keep p H0 H) (h : (bindP takeNumP f l).wp ok (fun r => Bad K p H0 E r)) (hk : ∀ x, hd l = .num x → ∀ H', Keep p H H' → Keep p H0 H' → RdAt K H' p b l.tail → (f x l.tail).wp ok (fun r => Bad K p H0 E r) → Q (.str (numS x)) H') :
    spTakeK K [.ref p, .str "number"] H Q E := by
  refine ⟨p, b, l, "number", rfl, by decide +kernel, hR, fun c H' k R => ?_, fun c => ?_⟩
  · cases hl : hd l with
    | num x =>
      refine hk x hl H' k (k0.trans k) R ?_
      have h' := wp_bind.mp h
      unfold takeNumP at h'
      rw [hl] at h'
      exact h'
    | sym y => rw [hl] at c; cases y <;> exact absurd c (by decide +kernel)
    | name n => rw [hl] at c; exact absurd (show ("name" : Str) = "number" from c) (by decide +kernel)
    | fin => rw [hl] at c; exact absurd c (by decide +kernel)
  · have h' := wp_bind.mp h
    unfold takeNumP at h'
    cases hl : hd l with
    | num x => rw [hl] at c; exact absurd rfl c
    | sym y => rw [hl] at h'; exact Bad.keep h' k0
    | name n => rw [hl] at h'; exact Bad.keep h' k0
    | fin => rw [hl] at h'; exact Bad.keep h' k0
theorem go_isName {t e : P α} (hR : RdAt K H p b l) (h : (ifB isNameP t e l).wp ok bad) (ht : (t l).wp ok bad → Q (.str "name") H) (he : (hd l).knd ≠ "name" → (e l).wp ok bad → Q (.str (hd l).knd) H) : spKind K [.ref p] H Q E := by
  refine ⟨p, b, l, rfl, hR, ?_⟩
  have h' := wp_ifB.mp h
  unfold isNameP at h'
  cases hl : hd l with
  | name x => rw [hl] at h'; exact ht h'
  | sym y => rw [hl] at h' he; exact he (by cases y <;> decide +kernel) h'
  | num n => rw [hl] at h' he; exact he (show ¬ (("number" : Str) = "name") by decide +kernel) h'
  | fin => rw [hl] at h' he; exact he (by decide +kernel) h'
theorem go_isNum {t e : P α} (hR : RdAt K H p b l) (h : (ifB isNumP t e l).wp ok bad) (ht : (t l).wp ok bad → Q (.str "number") H) (he : (hd l).knd ≠ "number" → (e l).wp ok bad → Q (.str (hd l).knd) H) : spKind K [.ref p] H Q E := by
  refine ⟨p, b, l, rfl, hR, ?_⟩
  have h' := wp_ifB.mp h
  unfold isNumP at h'
  cases hl : hd l with
  | num x => rw [hl] at h'; exact ht h'
  | sym y => rw [hl] at h' he; exact he (by cases y <;> decide +kernel) h'
  | name n => rw [hl] at h' he; exact he (show ¬ (("name" : Str) = "number") by decide +kernel) h'
  | fin => rw [hl] at h' he; exact he (by decide +kernel) h'
/-- a def called -/
theorem go_call {f : P β} {enc : β → PyData} {ok1 : β → List Tok → Prop} (hR : RdAt K H p b l) (k0 : Keep p H0 H) (h : (f l).wp ok1 (fun r => Bad K p H0 E r))
    (hk : ∀ a r v H', ok1 a r → Keep p H H' → Keep p H0 H' → RdAt K H' p b r → Dt K H' v (enc a) → Q v H') : spP K f enc [.ref p] H Q E :=
  ⟨p, b, l, rfl, hR, Ko.R.mono h (fun a r o v H2 k R d => hk a r v H2 o k (k0.trans k) R d) fun r z => z.keep k0⟩
/-- the promise at every fuel up to n -/
def spA (K : PySem.W.Frag) {β : Type} (f : Nat → Ko.P β) (enc : β → PyData) (n : Nat) : Sp := fun vs H Q E => ∃ m, m ≤ n ∧ spP K (f m) enc vs H Q E
theorem go_fuel {f : Nat → Ko.P β} {enc : β → PyData} {ok1 : β → List Tok → Prop} {m n : Nat} (hm : m ≤ n) (hR : RdAt K H p b l) (k0 : Keep p H0 H) (h : (f m l).wp ok1 (fun r => Bad K p H0 E r))
    (hk : ∀ a r v H', ok1 a r → Keep p H H' → Keep p H0 H' → RdAt K H' p b r → Dt K H' v (enc a) → Q v H') : spA K f enc n [.ref p] H Q E := ⟨m, hm, go_call hR k0 h hk⟩
/-- a while whose turns use up fuel -/
theorem while_fuel {c : TT} {tb : TS} {D : Ends} (W : Nat → L2.St → Hp → Prop) (n : Nat) (h0 : W n σ H) (hz : ∀ σ H, ¬ W 0 σ H)
    (hs : ∀ m σ H, W (m + 1) σ H → c σ H fun b H1 => if b = true then ∃ N : L2.St → Hp → Prop, (∀ σ' H', N σ' H' → ∃ m', m' < m + 1 ∧ W m' σ' H') ∧ tb { D with nx := N, ct := N, bk := D.nx } σ H1 else D.nx σ H1) : tWhile c tb D σ H := by
  refine ⟨W, ⟨n, h0⟩, fun m σ H w => ?_⟩
  cases m with
  | zero => exact absurd w (hz σ H)
  | succ m => exact hs m σ H w
/-- for x in (text, ..): if reader.skip(x): A -/
theorem for_words {ss : List Sym} {q : Addr} {j : Nat} {s0 : L2.St} {A : TS} {D : Ends} {g t : Nat → P α} {E0 : XK} (hj : 0 ≠ j) (hj2 : j < s0.length) (hs0 : s0[0]? = some (some (.ref p))) (hg : ∀ i (s : Sym), ss[i]? = some s → g i = ifB (skipP s) (t i) (g (i + 1)))
    (hR : RdAt K H p b l) (k0 : Keep p H0 H) (hq : H q = some (.tup (ss.map fun s => V.str s.txt))) (h : (g 0 l).wp ok bad)
    (hA : ∀ (i : Nat) (s : Sym), ss[i]? = some s → ∀ D' : Ends, D'.rt = D.rt → ∀ H', Keep p H H' → Keep p H0 H' → RdAt K H' p b l.tail → (t i l.tail).wp ok bad → A D' (s0.set j (some (.str s.txt))) H')
    (hD : ∀ (wd : Option V) H', Keep p H H' → Keep p H0 H' → RdAt K H' p b l → (g ss.length l).wp ok bad → D.nx (s0.set j wd) H') (hσ : ∃ wd, σ = s0.set j wd) :
    ∃ W : Nat → Nat → L2.St → Hp → Prop, (∃ m, W 0 m σ H) ∧ ∀ i m σ H, W i m σ H →
      ((Itt K q).stop i H ∧ D.nx σ H) ∨ ((Itt K q).go i H ∧ ∃ N : L2.St → Hp → Prop, (∀ σ' H', N σ' H' → ∃ m', m' < m ∧ W (i + 1) m' σ' H') ∧ ∀ x H', (Itt K q).yld i H x H' → gName j x σ H' fun σ2 H2 =>
        tIfS (tB (tMeth (aR K) "skip" (spSkip K) [] E0 (tVar 0) (tCons (tVar j) tNil))) A tNext { D with nx := N, ct := N, bk := D.nx } σ2 H2) := by
  have hqp : q ≠ p := by
    obtain ⟨dx, vs, done, hp, _⟩ := hR
    exact ne_of hq hp (by intro z; cases z)
  refine for_tup (K := K) (a := q) (xs := ss.map fun s => V.str s.txt) (fun i σ' H' => (∃ wd, σ' = s0.set j wd) ∧ Keep p H H' ∧ RdAt K H' p b l ∧ (g i l).wp ok bad) ⟨hσ, Keep.refl _ _, hR, h⟩ (fun i σ' H' _ x => SqT.of (x.2.1 _ _ hqp hq)) ?_ ?_
  · rintro i x σ' H' hx ⟨⟨wd, rfl⟩, k, R, h⟩
    rw [List.getElem?_map] at hx
    cases e : ss[i]? with
    | none => rw [e] at hx; cases hx
    | some s =>
      rw [e] at hx
      cases hx
      rw [hg i s e] at h
      show tIfS _ A tNext _ ((s0.set j wd).set j (some (.str s.txt))) H'
      rw [List.set_set]
      have e0 : (s0.set j (some (V.str s.txt)))[0]? = some (some (.ref p)) := by rw [List.getElem?_set_ne (Ne.symm hj)]; exact hs0
      have ej : (s0.set j (some (V.str s.txt)))[j]? = some (some (.str s.txt)) := List.getElem?_set_self hj2
      refine me1v R e0 ej (go_skip R (k0.trans k) h ?_ ?_)
      · intro c H2 k1 k2 R2 h2
        refine ⟨_, rfl, iteT ?_⟩
        refine hA i s e _ ?_ H2 (k.trans k1) k2 R2 h2
        rfl
      · intro c H2 k1 k2 R2 h2
        refine ⟨_, rfl, iteF ?_⟩
        exact ⟨⟨_, rfl⟩, k.trans k1, R2, h2⟩
  · rintro σ' H' ⟨⟨wd, rfl⟩, k, R, h⟩
    rw [List.length_map] at h
    exact hD wd H' k (k0.trans k) R h
end
/-- a list that the def builds: new since H0, of the data ds -/
def Lst (K : PySem.W.Frag) (H0 H : Hp) (p b q : Addr) (ds : List PyData) : Prop := H0 q = none ∧ b ≠ q ∧ p ≠ q ∧ ∃ vs, H q = some (.lst vs) ∧ Dts K H vs ds
section
variable {K : PySem.W.Frag} {H H0 H' : Hp} {p b q : Addr} {l : List Tok} {ds : List PyData}
theorem Lst.keep (x : Lst K H0 H p b q ds) (k : Keep p H H') (R : RdAt K H p b l) : Lst K H0 H' p b q ds := by
  obtain ⟨n, n1, n2, vs, h, d⟩ := x
  exact ⟨n, n1, n2, vs, k _ _ (Ne.symm n2) h, dts_keep (k.kt R) d⟩
theorem Lst.same (x : Lst K H0 H p b q ds) (k : Same H H') : Lst K H0 H' p b q ds := by
  obtain ⟨n, n1, n2, vs, h, d⟩ := x
  exact ⟨n, n1, n2, vs, k _ _ h, dts_keep (same_kt k) d⟩
theorem keep_none (hq : H q = none) (k0 : Keep p H0 H) (n : p ≠ q) : H0 q = none := by
  cases e : H0 q with
  | none => rfl
  | some o =>
    rw [k0 _ _ (Ne.symm n) e] at hq
    cases hq
theorem lst_new (hq : H q = none) (k0 : Keep p H0 H) (R : RdAt K H p b l) : Lst K H0 (upd H q (.lst [])) p b q [] :=
  ⟨keep_none hq k0 (R.ne_new hq).2, (R.ne_new hq).1, (R.ne_new hq).2, [], upd_same, .nil⟩
theorem lst_new1 {v : V} {d : PyData} (hq : H q = none) (k0 : Keep p H0 H) (R : RdAt K H p b l) (hd : Dt K H v d) : Lst K H0 (upd H q (.lst [v])) p b q [d] :=
  ⟨keep_none hq k0 (R.ne_new hq).2, (R.ne_new hq).1, (R.ne_new hq).2, [v], upd_same, .cons (dt_keep (same_kt (same_new hq _)) hd) .nil⟩
theorem Lst.ty (x : Lst K H0 H p b q ds) : tyV K "list" (.ref q) H := by
  obtain ⟨n, n1, n2, vs, h, d⟩ := x
  exact .inl ⟨rfl, _, SqL.of h⟩
theorem go_append {v : V} {dd : PyData} {Q : VK} (x : Lst K H0 H p b q ds) (R : RdAt K H p b l) (k0 : Keep p H0 H) (hd : Dt K H v dd) (hl : ds.length < sizeLine)
    (hk : ∀ H', Lst K H0 H' p b q (ds ++ [dd]) → Keep p H0 H' → KeepT H H' → RdAt K H' p b l → Q .non H') : rAppend (.ref q) [v] H Q := by
  obtain ⟨n, n1, n2, vs, h, d⟩ := x
  have kt : KeepT H (upd H q (.lst (vs ++ [v]))) := kt_upd h (fun z => z) _
  refine ⟨q, vs, v, rfl, rfl, h, by rw [dts_len d]; exact hl, hk _ ⟨n, n1, n2, _, upd_same, ?_⟩ (k0.other n _) kt (R.other h n1)⟩
  exact dts_keep kt (dts_app d (.cons hd .nil))
/-- found.append(e) -/
theorem ap {te : TE} {D : Ends} {σ : L2.St} {i : Nat} (ht : tyV K "list" (.ref q) H) (hs : σ[i]? = some (some (.ref q))) (he : te σ H fun v H1 => rAppend (.ref q) [v] H1 fun _ H2 => D.nx σ H2) : tDrop (tBM K "list" rAppend (tVar i) (tCons te tNil)) D σ H := ⟨_, hs, ht, he⟩
/-- tuple(list) -/
theorem go_tuple {Q : VK} (x : Lst K H0 H p b q ds) (hk : ∀ v H', Same H H' → Dt K H' v (.tuple ds) → Q v H') : ∃ (c : Addr) (xs : List V), ([V.ref q] : List V) = [.ref c] ∧ ((SqL K H c xs ∧ ∀ t, H t = none → Q (.ref t) (upd H t (.tup xs))) ∨ (SqT K H c xs ∧ Q (.ref c) H)) := by
  obtain ⟨n, n1, n2, vs, h, d⟩ := x
  exact ⟨q, vs, rfl, .inl ⟨SqL.of h, fun t ht => hk _ _ (same_new ht _) (dt_new ht d)⟩⟩
theorem tpl {Q : VK} {σ : L2.St} {i : Nat} (x : Lst K H0 H p b q ds) (hs : σ[i]? = some (some (.ref q))) (hk : ∀ v H', Same H H' → Dt K H' v (.tuple ds) → Q v H') :
    tCB (fun xs H Q => ∃ p ys, xs = [V.ref p] ∧ ((SqL K H p ys ∧ ∀ l, H l = none → Q (.ref l) (upd H l (.tup ys))) ∨ (SqT K H p ys ∧ Q (.ref p) H))) (tCons (tVar i) tNil) σ H Q := ⟨_, hs, go_tuple x hk⟩
theorem same_rk (s : Same H H') (R : RdAt K H p b l) (k0 : Keep p H0 H) : RdAt K H' p b l ∧ Keep p H0 H' := ⟨R.same s, k0.trans (same_kp s)⟩
end
end Ko
end
section
set_option Elab.async false
set_option linter.all false
set_option maxRecDepth 100000
set_option maxHeartbeats 4000000
/-! The defs of kinds, expressions and places -/
namespace Ko
open PySem PySem.Spec PyProof.Rows L2
section
variable (PP : Program) (w : World) (K : PySem.W.Frag) (mg : Str → Option Value) (base : Heap)
/-- the reader's methods, at their levels -/
structure RdOk : Prop where
  kind : FnOk PP w K mg base CX0 2 (a_Reader_kind K) (fdOf K d_Reader_kind) ["self"] (spKind K)
  fail : FnOk PP w K mg base (L2.CX PP w) 3 (a_Reader_fail K) (fdOf K d_Reader_fail) ["self"] (spFail K)
  isn : FnOk PP w K mg base CX0 2 (a_Reader_is_next K) (fdOf K d_Reader_is_next) ["self", "text", "many"] (spIsNext K)
  take : FnOk PP w K mg base (L2.CX PP w) 4 (a_Reader_take K) (fdOf K d_Reader_take) ["self", "kind"] (spTakeK K)
  exp : FnOk PP w K mg base (L2.CX PP w) 4 (a_Reader_expect K) (fdOf K d_Reader_expect) ["self", "text"] (spExpect K)
  skip : FnOk PP w K mg base CX0 3 (a_Reader_skip K) (fdOf K d_Reader_skip) ["self", "text"] (spSkip K)
abbrev PFn (k : Nat) (a : Addr) (fd : FuncData) (sp : Sp) : Prop := FnOk PP w K mg base (L2.CX PP w) k a fd ["reader"] sp
end
section
variable {PP : Program} {w : World} {K : PySem.W.Frag} {mg : Str → Option Value} {base : Heap} {n : Nat}
theorem rd_ok (T : Tx K mg) : RdOk PP w K mg base := ⟨ok_Reader_kind T, ok_Reader_fail T, ok_Reader_is_next T, ok_Reader_take T, ok_Reader_expect T, ok_Reader_skip T⟩
/-- nothing is promised without fuel -/
theorem pfn_zero {k : Nat} {a : Addr} {fd : FuncData} {α : Type} {f : Nat → Ko.P α} {enc : α → PyData} (h : f 0 = outP) : PFn PP w K mg base k a fd (spA K f enc 0) := by
  have no : ∀ vs H Q E, ¬ spA K f enc 0 vs H Q E := fun vs H Q E z => by
    obtain ⟨m, hm, p, b, l, _, _, z⟩ := z
    obtain rfl : m = 0 := Nat.le_zero.mp hm
    rw [h] at z
    exact z.elim
  exact ⟨fun vs H Q E h => absurd h (no vs H Q E), fun A outer s H args us vs Q E _ _ _ _ h => absurd h (no vs H Q E)⟩
theorem pfn_succ {k : Nat} {a : Addr} {fd : FuncData} {α : Type} {f : Nat → Ko.P α} {enc : α → PyData} {n : Nat} (F : PFn PP w K mg base k a fd (spA K f enc n)) (G : PFn PP w K mg base (k + 1) a fd (spP K (f (n + 1)) enc)) : PFn PP w K mg base (k + 1) a fd (spA K f enc (n + 1)) :=
  ⟨fun vs H Q E ⟨m, _, h⟩ => spP_len h, fun A outer s H args us vs Q E hr he hb hv ⟨m, hm, h⟩ => by
    rcases Nat.lt_or_ge m (n + 1) with q | q
    · exact F.run A outer s H args us vs Q E (hr.mono (Nat.le_succ k)) he hb hv ⟨m, Nat.le_of_lt_succ q, h⟩
    · obtain rfl : m = n + 1 := Nat.le_antisymm hm q
      exact G.run A outer s H args us vs Q E hr he hb hv h⟩
theorem spA_len {α : Type} {f : Nat → Ko.P α} {enc : α → PyData} {vs : List V} {H : Hp} {Q : VK} {E : XK} (h : spA K f enc n vs H Q E) : vs.length = 1 := by
  obtain ⟨m, _, h⟩ := h
  exact spP_len h
theorem ok_kind (T : Tx K mg) (B : RdOk PP w K mg base) (G_parse_kind : PFn PP w K mg base (n + 4) (a_parse_kind K) (fdOf K d_parse_kind) (spA K kindP Kd.d n)) :
    PFn PP w K mg base (n + 5) (a_parse_kind K) (fdOf K d_parse_kind) (spP K (kindP (n + 1)) Kd.d) := by
  have G_Reader_kind := B.kind
  have G_Reader_take := B.take
  have G_Reader_skip := B.skip
  have G_Reader_expect := B.exp
  refine (F_parse_kind T).ok sc_parse_kind (fun vs H Q E h => spP_len h) (fun cdv A outer s H0 vs Q E hr h => ?_)
  obtain ⟨p, b, l, rfl, hR, h⟩ := h
  refine ⟨_, (pss_cons (ps_if (pt_cmpR op_eq (pe_meth0 (pv 0) (c_Reader T) (mt_kind T) G_Reader_kind (hr.mono (by omega)) (B_Reader_kind T) .nil pass0) pe_str (nomark _)) (pss_one (ps_ret (pe_tup (pa_cons pe_str (pa_cons (pe_meth (pv 0) (c_Reader T) (mt_take T) G_Reader_take (hr.mono (by omega)) (B_Reader_take T) .nil (passes_call (takes_of rfl rfl rfl rfl) (fun _ _ _ _ z => z)) (pa_cons pe_str pa_nil)) pa_nil))))) pss_nil) (pss_cons (ps_for (passes_of rfl) rfl (pi_tup (pe_tup (pa_cons pe_str (pa_cons pe_str pa_nil)))) (pg_name (i := 1) sc_parse_kind.nd rfl (Or.inl rfl)) (pss_one (ps_if (pt_val (pe_meth (pv 0) (c_Reader T) (mt_skip T) G_Reader_skip (hr.mono (by omega)) (B_Reader_skip T) .nil pass0 (pa_cons (pv 1) pa_nil))) (pss_one (ps_ret (pe_tup (pa_cons (pv 1) pa_nil)))) pss_nil))) (pss_cons (ps_for (passes_of rfl) rfl (pi_tup (pe_tup (pa_cons pe_str (pa_cons pe_str (pa_cons pe_str pa_nil))))) (pg_name (i := 1) sc_parse_kind.nd rfl (Or.inl rfl)) (pss_one (ps_if (pt_val (pe_meth (pv 0) (c_Reader T) (mt_skip T) G_Reader_skip (hr.mono (by omega)) (B_Reader_skip T) .nil pass0 (pa_cons (pv 1) pa_nil))) (pss_one (ps_ret (pe_tup (pa_cons (pv 1) (pa_cons (pe_call G_parse_kind (hr.mono (by omega)) rfl (m_parse_kind T) (F_parse_kind T).kp (B_parse_kind T) .nil (passes_call (takes_of rfl rfl rfl rfl) (fun _ _ _ _ z => z)) (pa_cons (pv 0) pa_nil)) pa_nil))))) pss_nil))) (pss_cons (ps_expr (pe_meth (pv 0) (c_Reader T) (mt_expect T) G_Reader_expect (hr.mono (by omega)) (B_Reader_expect T) .nil (passes_call (takes_of rfl rfl rfl rfl) (fun _ _ _ _ z => z)) (pa_cons pe_str pa_nil))) (pss_one (ps_ret (pe_tup (pa_cons pe_str (pa_cons (pe_call G_parse_kind (hr.mono (by omega)) rfl (m_parse_kind T) (F_parse_kind T).kp (B_parse_kind T) .nil (passes_call (takes_of rfl rfl rfl rfl) (fun _ _ _ _ z => z)) (pa_cons (pv 0) pa_nil)) pa_nil))))))))), ?_⟩
  have k0 : Keep p H0 H0 := Keep.refl _ _
  unfold kindP at h
  refine me0 hR rfl (go_isName hR h ?_ ?_)
  · intro h
    refine ⟨rfl, _, rfl, iteT ?_⟩
    refine me1c hR rfl (go_name hR k0 h ?_)
    intro x hx H1 k1 k2 R1 h1
    refine ⟨(by show 2 ≤ sizeLine; decide), fun q hq => ?_⟩
    exact h1 _ _ (k2.trans (same_kp (same_new hq _))) (R1.same (same_new hq _)) (dt_new hq (.cons (.str _) (.cons (.str _) .nil)))
  · intro hn h
    have e : ¬ ((V.str (Ko.hd l).knd) = V.str "name") := fun z => hn (by injection z)
    refine ⟨rfl, _, rfl, ?_⟩
    rw [decide_eq_false e]
    refine iteF ?_
    refine ⟨(by show 2 ≤ sizeLine; decide), fun q hq => ⟨q, rfl, ⟨_, SqT.of upd_same⟩, ?_⟩⟩
    refine for_words (ss := [.kInt, .kBool]) (s0 := [some (.ref p), none]) (g := fun i => match i with
      | 0 => ifB (skipP .kInt) (pureP Kd.int) (ifB (skipP .kBool) (pureP Kd.bool) (ifB (skipP .kBox) (bindP (kindP n) fun k => pureP (Kd.box k)) (ifB (skipP .kVec) (bindP (kindP n) fun k => pureP (Kd.vec k)) (ifB (skipP .kRef) (bindP (kindP n) fun k => pureP (Kd.ref k)) (bindP (expectP .kMut) fun _ => bindP (kindP n) fun k => pureP (Kd.mut k))))))
      | 1 => (ifB (skipP .kBool) (pureP Kd.bool) (ifB (skipP .kBox) (bindP (kindP n) fun k => pureP (Kd.box k)) (ifB (skipP .kVec) (bindP (kindP n) fun k => pureP (Kd.vec k)) (ifB (skipP .kRef) (bindP (kindP n) fun k => pureP (Kd.ref k)) (bindP (expectP .kMut) fun _ => bindP (kindP n) fun k => pureP (Kd.mut k))))))
      | _ => (ifB (skipP .kBox) (bindP (kindP n) fun k => pureP (Kd.box k)) (ifB (skipP .kVec) (bindP (kindP n) fun k => pureP (Kd.vec k)) (ifB (skipP .kRef) (bindP (kindP n) fun k => pureP (Kd.ref k)) (bindP (expectP .kMut) fun _ => bindP (kindP n) fun k => pureP (Kd.mut k))))))
      (t := fun i => match i with
      | 0 => pureP Kd.int
      | _ => pureP Kd.bool) (by decide) (by show 1 < 2; decide) rfl ?_ (hR.same (same_new hq _)) (k0.trans (same_kp (same_new hq _))) upd_same h ?_ ?_ ⟨none, rfl⟩
    · intro i s e
      match i, e with
      | 0, e => cases e; rfl
      | 1, e => cases e; rfl
      | _ + 2, e => cases e
    · intro i s e D' hD H1 k1 k2 R1 h1
      match i, e with
      | 0, e =>
        cases e
        refine ⟨_, rfl, (by show 1 ≤ sizeLine; decide), fun q hq => ?_⟩
        rw [hD]
        exact h1 _ _ (k2.trans (same_kp (same_new hq _))) (R1.same (same_new hq _)) (dt_new hq (.cons (.str _) .nil))
      | 1, e =>
        cases e
        refine ⟨_, rfl, (by show 1 ≤ sizeLine; decide), fun q hq => ?_⟩
        rw [hD]
        exact h1 _ _ (k2.trans (same_kp (same_new hq _))) (R1.same (same_new hq _)) (dt_new hq (.cons (.str _) .nil))
      | _ + 2, e => cases e
    · intro wd H1 k1 k2 R1 h1
      refine ⟨(by show 3 ≤ sizeLine; decide), fun q2 hq2 => ⟨q2, rfl, ⟨_, SqT.of upd_same⟩, ?_⟩⟩
      refine for_words (ss := [.kBox, .kVec, .kRef]) (s0 := [some (.ref p), none]) (g := fun i => match i with
        | 0 => (ifB (skipP .kBox) (bindP (kindP n) fun k => pureP (Kd.box k)) (ifB (skipP .kVec) (bindP (kindP n) fun k => pureP (Kd.vec k)) (ifB (skipP .kRef) (bindP (kindP n) fun k => pureP (Kd.ref k)) (bindP (expectP .kMut) fun _ => bindP (kindP n) fun k => pureP (Kd.mut k)))))
        | 1 => (ifB (skipP .kVec) (bindP (kindP n) fun k => pureP (Kd.vec k)) (ifB (skipP .kRef) (bindP (kindP n) fun k => pureP (Kd.ref k)) (bindP (expectP .kMut) fun _ => bindP (kindP n) fun k => pureP (Kd.mut k))))
        | 2 => (ifB (skipP .kRef) (bindP (kindP n) fun k => pureP (Kd.ref k)) (bindP (expectP .kMut) fun _ => bindP (kindP n) fun k => pureP (Kd.mut k)))
        | _ => (bindP (expectP .kMut) fun _ => bindP (kindP n) fun k => pureP (Kd.mut k)))
        (t := fun i => match i with
        | 0 => (bindP (kindP n) fun k => pureP (Kd.box k))
        | 1 => (bindP (kindP n) fun k => pureP (Kd.vec k))
        | _ => (bindP (kindP n) fun k => pureP (Kd.ref k))) (by decide) (by show 1 < 2; decide) rfl ?_ (R1.same (same_new hq2 _)) (k2.trans (same_kp (same_new hq2 _))) upd_same h1 ?_ ?_ ⟨wd, rfl⟩
      · intro i s e
        match i, e with
        | 0, e => cases e; rfl
        | 1, e => cases e; rfl
        | 2, e => cases e; rfl
        | _ + 3, e => cases e
      · intro i s e D' hD H2 k3 k4 R2 h2
        match i, e with
        | 0, e =>
          cases e
          refine ⟨_, rfl, ca rfl (go_fuel (Nat.le_refl n) R2 k4 (wp_bind.mp h2) ?_)⟩
          intro a r v H3 h3 k5 k6 R3 d3
          refine ⟨(by show 2 ≤ sizeLine; decide), fun q hq => ?_⟩
          rw [hD]
          exact h3 _ _ (k6.trans (same_kp (same_new hq _))) (R3.same (same_new hq _)) (dt_new hq (.cons (.str _) (.cons d3 .nil)))
        | 1, e =>
          cases e
          refine ⟨_, rfl, ca rfl (go_fuel (Nat.le_refl n) R2 k4 (wp_bind.mp h2) ?_)⟩
          intro a r v H3 h3 k5 k6 R3 d3
          refine ⟨(by show 2 ≤ sizeLine; decide), fun q hq => ?_⟩
          rw [hD]
          exact h3 _ _ (k6.trans (same_kp (same_new hq _))) (R3.same (same_new hq _)) (dt_new hq (.cons (.str _) (.cons d3 .nil)))
        | 2, e =>
          cases e
          refine ⟨_, rfl, ca rfl (go_fuel (Nat.le_refl n) R2 k4 (wp_bind.mp h2) ?_)⟩
          intro a r v H3 h3 k5 k6 R3 d3
          refine ⟨(by show 2 ≤ sizeLine; decide), fun q hq => ?_⟩
          rw [hD]
          exact h3 _ _ (k6.trans (same_kp (same_new hq _))) (R3.same (same_new hq _)) (dt_new hq (.cons (.str _) (.cons d3 .nil)))
        | _ + 3, e => cases e
      · intro wd H2 k3 k4 R2 h2
        refine me1c R2 rfl (go_expect R2 k4 h2 ?_)
        intro c H3 k5 k6 R3 h3
        refine ca rfl (go_fuel (Nat.le_refl n) R3 k6 (wp_bind.mp h3) ?_)
        intro a r v H4 h4 k7 k8 R4 d4
        refine ⟨(by show 2 ≤ sizeLine; decide), fun q hq => ?_⟩
        exact h4 _ _ (k8.trans (same_kp (same_new hq _))) (R4.same (same_new hq _)) (dt_new hq (.cons (.str _) (.cons d4 .nil)))
/-! ### expressions -/
def Ex.tag : Ex → Str
  | .num _ => "num" | .name _ => "name" | .truth _ => "truth" | .op _ _ _ => "op" | .un u _ => u.txt | .rf r _ => r.txt | .field _ _ => "field" | .index _ _ => "index" | .call _ _ => "call" | .len _ => "len" | .vec _ => "vec"
theorem ex_tag (e : Ex) : ∃ ds, e.d = .tuple (.str e.tag :: ds) := by
  cases e <;> exact ⟨_, by rw [Ex.d]; rfl⟩
theorem tag_place (e : Ex) : inV (V.str e.tag) [.str "name", .str "deref", .str "field", .str "index"] = e.isPlace := by
  cases e with
  | num _ => show inV (V.str "num") [.str "name", .str "deref", .str "field", .str "index"] = false; decide +kernel
  | name _ => show inV (V.str "name") [.str "name", .str "deref", .str "field", .str "index"] = true; decide +kernel
  | truth _ => show inV (V.str "truth") [.str "name", .str "deref", .str "field", .str "index"] = false; decide +kernel
  | op _ _ _ => show inV (V.str "op") [.str "name", .str "deref", .str "field", .str "index"] = false; decide +kernel
  | un u _ => show inV (V.str u.txt) [.str "name", .str "deref", .str "field", .str "index"] = false; cases u <;> decide +kernel
  | rf r p =>
    cases r with
    | ref => show inV (V.str "ref") [.str "name", .str "deref", .str "field", .str "index"] = false; decide +kernel
    | «mut» => show inV (V.str "mut") [.str "name", .str "deref", .str "field", .str "index"] = false; decide +kernel
    | deref => show inV (V.str "deref") [.str "name", .str "deref", .str "field", .str "index"] = true; decide +kernel
  | field _ _ => show inV (V.str "field") [.str "name", .str "deref", .str "field", .str "index"] = true; decide +kernel
  | index _ _ => show inV (V.str "index") [.str "name", .str "deref", .str "field", .str "index"] = true; decide +kernel
  | call _ _ => show inV (V.str "call") [.str "name", .str "deref", .str "field", .str "index"] = false; decide +kernel
  | len _ => show inV (V.str "len") [.str "name", .str "deref", .str "field", .str "index"] = false; decide +kernel
  | vec _ => show inV (V.str "vec") [.str "name", .str "deref", .str "field", .str "index"] = false; decide +kernel
/-- a tree's first item -/
theorem ex_first {H : Hp} {v : V} {e : Ex} (h : Dt K H v e.d) : ∃ a xs, v = .ref a ∧ SqT K H a xs ∧ xs[0]? = some (.str e.tag) := by
  obtain ⟨ds, ed⟩ := ex_tag e
  rw [ed] at h
  obtain ⟨a, xs, rfl, hs, r⟩ := dt_tup_inv h
  cases r with
  | cons h1 r =>
    rw [dt_str_inv h1] at hs
    exact ⟨a, _, rfl, hs, rfl⟩
def spNeed (K : PySem.W.Frag) : Sp := fun vs H Q E => ∃ p b l v e, vs = [.ref p, v] ∧ RdAt K H p b l ∧ Dt K H v (Ex.d e) ∧ (if e.isPlace = true then Q .non H else Bad K p H E l)
theorem ok_need (T : Tx K mg) (B : RdOk PP w K mg base) : FnOk PP w K mg base (L2.CX PP w) 4 (a_need_place K) (fdOf K d_need_place) ["reader", "tree"] (spNeed K) := by
  have G_Reader_fail := B.fail
  refine (F_need_place T).ok sc_need_place (fun vs H Q E h => ?_) (fun cdv A outer s H0 vs Q E hr h => ?_)
  · obtain ⟨p, b, l, v, e, rfl, _⟩ := h
    rfl
  obtain ⟨p, b, l, v, e, rfl, hR, hd, h⟩ := h
  refine ⟨_, (pss_one (ps_if (pt_cmpR op_notIn_seq (pe_ix ix_tup (pv 1) pe_int (fun _ _ => rfl)) (pe_gref (m_PLACES T)) (by rfl)) (pss_one (ps_expr (pe_meth0 (pv 0) (c_Reader T) (mt_fail T) G_Reader_fail (hr.mono (by omega)) (B_Reader_fail T) .nil (passes_call (takes_of rfl rfl rfl rfl) (fun _ _ _ _ z => z))))) pss_nil)), ?_⟩
  obtain ⟨a, xs, rfl, hs, h0⟩ := ex_first hd
  refine ⟨_, rfl, a, xs, 0, _, rfl, rfl, hs, atI_nat h0, He.ga K "PLACES", _, rfl, .inr (t_PLACES T _), rfl, rfl, ?_⟩
  have e1 : (if true = true then !inV (V.str e.tag) [.str "name", .str "deref", .str "field", .str "index"] else inV (V.str e.tag) [.str "name", .str "deref", .str "field", .str "index"]) = !e.isPlace := by
    rw [if_pos rfl, tag_place]
  refine ⟨_, rfl, ?_⟩
  rw [e1]
  cases c : e.isPlace with
  | true =>
    rw [c, if_pos rfl] at h
    exact iteF h
  | false =>
    rw [c, if_neg Bool.false_ne_true] at h
    exact iteT (me0 hR rfl ⟨p, b, l, rfl, hR, h⟩)
section
variable {H H0 : Hp} {p b : Addr} {l : List Tok} {Q : VK} {E : XK} {α : Type} {ok : α → List Tok → Prop}
theorem go_need {t : Ex} {v : V} {f : Unit → Ko.P α} (hR : RdAt K H p b l) (k0 : Keep p H0 H) (hd : Dt K H v t.d) (h : (bindP (needP t) f l).wp ok (fun r => Bad K p H0 E r)) (hk : t.isPlace = true → (f () l).wp ok (fun r => Bad K p H0 E r) → Q .non H) :
    spNeed K [.ref p, v] H Q E := by
  refine ⟨p, b, l, v, t, rfl, hR, hd, ?_⟩
  have h' := wp_need.mp (wp_bind.mp h)
  by_cases c : t.isPlace = true
  · rw [if_pos c] at h' ⊢
    exact hk c h'
  · rw [if_neg c] at h' ⊢
    exact Bad.keep h' k0
end
variable (PP w K mg base) in
/-- what the defs of expressions promise with fuel n -/
structure EOk (n : Nat) : Prop where
  kind : PFn PP w K mg base (n + 4) (a_parse_kind K) (fdOf K d_parse_kind) (spA K kindP Kd.d n)
  place : PFn PP w K mg base (n + 4) (a_parse_place K) (fdOf K d_parse_place) (spA K placeP Ex.d n)
  exprs : PFn PP w K mg base (n + 4) (a_parse_exprs K) (fdOf K d_parse_exprs) (spA K exprsP (fun xs => .tuple (Ex.ds xs)) n)
  prim : PFn PP w K mg base (n + 4) (a_primary K) (fdOf K d_primary) (spA K primP Ex.d n)
  post : PFn PP w K mg base (n + 4) (a_parse_postfix K) (fdOf K d_parse_postfix) (spA K postP Ex.d n)
  unary : PFn PP w K mg base (n + 4) (a_unary K) (fdOf K d_unary) (spA K unaryP Ex.d n)
  prod : PFn PP w K mg base (n + 4) (a_product K) (fdOf K d_product) (spA K prodP Ex.d n)
  tot : PFn PP w K mg base (n + 4) (a_total K) (fdOf K d_total) (spA K totP Ex.d n)
  one : PFn PP w K mg base (n + 4) (a_parse_one K) (fdOf K d_parse_one) (spA K oneP Ex.d n)
theorem ok_place (T : Tx K mg) (B : RdOk PP w K mg base) (I : EOk PP w K mg base n) : PFn PP w K mg base (n + 5) (a_parse_place K) (fdOf K d_parse_place) (spP K (placeP (n + 1)) Ex.d) := by
  have G_Reader_skip := B.skip
  have G_need_place := ok_need T B
  have G_parse_place := I.place
  have G_parse_postfix := I.post
  refine (F_parse_place T).ok sc_parse_place (fun vs H Q E h => spP_len h) (fun cdv A outer s H0 vs Q E hr h => ?_)
  obtain ⟨p, b, l, rfl, hR, h⟩ := h
  refine ⟨_, (pss_cons (ps_if (pt_val (pe_meth (pv 0) (c_Reader T) (mt_skip T) G_Reader_skip (hr.mono (by omega)) (B_Reader_skip T) .nil pass0 (pa_cons pe_str pa_nil))) (pss_one (ps_ret (pe_tup (pa_cons pe_str (pa_cons (pe_call G_parse_place (hr.mono (by omega)) rfl (m_parse_place T) (F_parse_place T).kp (B_parse_place T) .nil (passes_call (takes_of rfl rfl rfl rfl) (fun _ _ _ _ z => z)) (pa_cons (pv 0) pa_nil)) pa_nil))))) pss_nil) (pss_cons (ps_set (i := 1) sc_parse_place.nd rfl (Or.inl rfl) (pe_call G_parse_postfix (hr.mono (by omega)) rfl (m_parse_postfix T) (F_parse_postfix T).kp (B_parse_postfix T) .nil (passes_call (takes_of rfl rfl rfl rfl) (fun _ _ _ _ z => z)) (pa_cons (pv 0) pa_nil))) (pss_cons (ps_expr (pe_call G_need_place (hr.mono (by omega)) rfl (m_need_place T) (F_need_place T).kp (B_need_place T) .nil (passes_call (takes_of rfl rfl rfl rfl) (fun _ _ _ _ z => z)) (pa_cons (pv 0) (pa_cons (pv 1) pa_nil)))) (pss_one (ps_ret (pv 1)))))), ?_⟩
  have k0 : Keep p H0 H0 := Keep.refl _ _
  unfold placeP at h
  refine me1c hR rfl (go_skip hR k0 h ?_ ?_)
  · intro c H1 k1 k2 R1 h1
    refine ⟨_, rfl, iteT ?_⟩
    refine ca rfl (go_fuel (Nat.le_refl n) R1 k2 (wp_bind.mp h1) ?_)
    intro a r v H2 h2 k3 k4 R2 d2
    refine ⟨(by show 2 ≤ sizeLine; decide), fun q hq => ?_⟩
    exact h2 _ _ (k4.trans (same_kp (same_new hq _))) (R2.same (same_new hq _)) (dt_new hq (.cons (.str _) (.cons d2 .nil)))
  · intro c H1 k1 k2 R1 h1
    refine ⟨_, rfl, iteF ?_⟩
    refine ca rfl (go_fuel (Nat.le_refl n) R1 k2 (wp_bind.mp h1) ?_)
    intro a r v H2 h2 k3 k4 R2 d2
    refine ca2 rfl rfl (go_need R2 k4 d2 h2 ?_)
    intro c h3
    exact ⟨_, rfl, h3 _ _ k4 R2 d2⟩
theorem ds_one (e : Ex) : Ex.ds [e] = [e.d] := rfl
theorem ds_snoc (xs : List Ex) (e : Ex) : Ex.ds (xs ++ [e]) = Ex.ds xs ++ [e.d] := by
  rw [Ex.ds_map, Ex.ds_map, List.map_append]; rfl
theorem ds_len (xs : List Ex) : (Ex.ds xs).length = xs.length := by rw [Ex.ds_map, List.length_map]
theorem line_of {k : Nat} (h : k ≤ 1000) : k < sizeLine := small1000 h
theorem ok_exprs (T : Tx K mg) (B : RdOk PP w K mg base) (I : EOk PP w K mg base n) (hn : n ≤ 500) : PFn PP w K mg base (n + 5) (a_parse_exprs K) (fdOf K d_parse_exprs) (spP K (exprsP (n + 1)) (fun xs => .tuple (Ex.ds xs))) := by
  have G_Reader_skip := B.skip
  have G_Reader_is_next := B.isn
  have G_Reader_expect := B.exp
  have G_parse_one := I.one
  obtain ⟨ds, vN, bN⟩ := isn T
  refine (F_parse_exprs T).ok sc_parse_exprs (fun vs H Q E h => spP_len h) (fun cdv A outer s H0 vs Q E hr h => ?_)
  obtain ⟨p, b, l, rfl, hR, h⟩ := h
  refine ⟨_, (pss_cons (ps_set (i := 1) sc_parse_exprs.nd rfl (Or.inl rfl) (pe_lst pa_nil)) (pss_cons (ps_if (pt_not (pt_val (pe_meth (pv 0) (c_Reader T) (mt_is_next T) G_Reader_is_next (hr.mono (by omega)) bN vN pass0 (pa_cons pe_str pa_nil)))) (pss_cons (ps_expr (pe_bm PySem.F.plainAttrs_list PySem.F.slot_list_append PySem.F.type_list_append mt_append (pv 1) (pa_cons (pe_call G_parse_one (hr.mono (by omega)) rfl (m_parse_one T) (F_parse_one T).kp (B_parse_one T) .nil (passes_call (takes_of rfl rfl rfl rfl) (fun _ _ _ _ z => z)) (pa_cons (pv 0) pa_nil)) pa_nil))) (pss_one (ps_while (passes_of rfl) (pt_val (pe_meth (pv 0) (c_Reader T) (mt_skip T) G_Reader_skip (hr.mono (by omega)) (B_Reader_skip T) .nil pass0 (pa_cons pe_str pa_nil))) (pss_one (ps_expr (pe_bm PySem.F.plainAttrs_list PySem.F.slot_list_append PySem.F.type_list_append mt_append (pv 1) (pa_cons (pe_call G_parse_one (hr.mono (by omega)) rfl (m_parse_one T) (F_parse_one T).kp (B_parse_one T) .nil (passes_call (takes_of rfl rfl rfl rfl) (fun _ _ _ _ z => z)) (pa_cons (pv 0) pa_nil)) pa_nil))))))) pss_nil) (pss_cons (ps_expr (pe_meth (pv 0) (c_Reader T) (mt_expect T) G_Reader_expect (hr.mono (by omega)) (B_Reader_expect T) .nil (passes_call (takes_of rfl rfl rfl rfl) (fun _ _ _ _ z => z)) (pa_cons pe_str pa_nil))) (pss_one (ps_ret (pe_callTy call_tuple_of (by rfl) (z_tuple T) (by decide +kernel) (pa_cons (pv 1) pa_nil))))))), ?_⟩
  have k0 : Keep p H0 H0 := Keep.refl _ _
  unfold exprsP at h
  refine ⟨Nat.zero_le _, fun q hq => ?_⟩
  have s1 := same_new hq (.lst [])
  have L1 : Lst K H0 (upd H0 q (.lst [])) p b q (Ex.ds []) := lst_new hq k0 hR
  have R1 := hR.same s1
  have k1 : Keep p H0 (upd H0 q (.lst [])) := same_kp s1
  refine me1d R1 rfl (go_peek R1 k1 (wp_bind.mp h) ?_ ?_)
  · intro c H2 k2 k3 R2 h2
    have L2 := L1.keep k2 R1
    refine ⟨_, rfl, iteF ?_⟩
    refine me1c R2 rfl (go_expect R2 k3 h2 ?_)
    intro c H3 k4 k5 R3 h3
    refine ⟨_, rfl, go_tuple (L2.keep k4 R2) ?_⟩
    intro v H4 s4 d4
    exact h3 v H4 (k5.trans (same_kp s4)) (R3.same s4) d4
  · intro c H2 k2 k3 R2 h2
    have L2 := L1.keep k2 R1
    refine ⟨_, rfl, iteT ?_⟩
    refine ap L2.ty rfl (ca rfl (go_fuel (Nat.le_refl n) R2 k3 (wp_bind.mp h2) ?_))
    intro a r v H3 h3 k4 k5 R3 d3
    refine go_append (L2.keep k4 R2) R3 k5 d3 (by decide) ?_
    intro H4 L4 k6 _ R4
    refine while_fuel (fun m σ' H' => ∃ (acc : List Ex) (r : List Tok), σ' = [some (.ref p), some (.ref q)] ∧ Lst K H0 H' p b q (Ex.ds acc) ∧ Keep p H0 H' ∧ RdAt K H' p b r ∧ m ≤ n ∧ acc.length + m ≤ n + 1 ∧
      (moreP m acc r).wp (fun xs r => (bindP (expectP .rpar) (fun _ => pureP xs) r).wp (fun a r => ∀ v H', Keep p H0 H' → RdAt K H' p b r → Dt K H' v (.tuple (Ex.ds a)) → Q v H') (fun r => Bad K p H0 E r)) (fun r => Bad K p H0 E r)) n ?_ ?_ ?_
    · exact ⟨[a], r, rfl, L4, k6, R4, Nat.le_refl _, by simp; omega, h3⟩
    · rintro σ' H' ⟨acc, r, _, _, _, _, _, _, h⟩
      exact h.elim
    · rintro m σ' H' ⟨acc, r, rfl, L, k, R, hm, hl, h⟩
      unfold moreP at h
      refine me1c R rfl (go_skip R k h ?_ ?_)
      · intro c H2 k1 k2 R2 h2
        have L2 := L.keep k1 R
        refine ⟨_, rfl, iteT ⟨_, fun σ' H' w' => ⟨m, Nat.lt_succ_self m, w'⟩, ?_⟩⟩
        refine ap L2.ty rfl (ca rfl (go_fuel (by omega) R2 k2 (wp_bind.mp h2) ?_))
        intro a r v H3 h3 k4 k5 R3 d3
        refine go_append (L2.keep k4 R2) R3 k5 d3 (by rw [ds_len]; exact line_of (by omega)) ?_
        intro H4 L4 k6 _ R4
        exact ⟨acc ++ [a], r, rfl, by rw [ds_snoc]; exact L4, k6, R4, by omega, by simp; omega, h3⟩
      · intro c H2 k1 k2 R2 h2
        have L2 := L.keep k1 R
        refine ⟨_, rfl, iteF ?_⟩
        refine me1c R2 rfl (go_expect R2 k2 h2 ?_)
        intro c H3 k4 k5 R3 h3
        refine ⟨_, rfl, go_tuple (L2.keep k4 R2) ?_⟩
        intro v H4 s4 d4
        exact h3 v H4 (k5.trans (same_kp s4)) (R3.same s4) d4
theorem ite_t {A B : Prop} (h : if true = true then A else B) : A := by
  rw [if_pos rfl] at h
  exact h
theorem ite_f {A B : Prop} (h : if false = true then A else B) : B := by
  rw [if_neg Bool.false_ne_true] at h
  exact h
theorem ok_prim (T : Tx K mg) (B : RdOk PP w K mg base) (I : EOk PP w K mg base n) : PFn PP w K mg base (n + 5) (a_primary K) (fdOf K d_primary) (spP K (primP (n + 1)) Ex.d) := by
  have G_Reader_skip := B.skip
  have G_Reader_kind := B.kind
  have G_Reader_take := B.take
  have G_Reader_expect := B.exp
  have G_parse_kind := I.kind
  have G_parse_place := I.place
  have G_parse_one := I.one
  have G_parse_exprs := I.exprs
  refine (F_primary T).ok sc_primary (fun vs H Q E h => spP_len h) (fun cdv A outer s H0 vs Q E hr h => ?_)
  obtain ⟨p, b, l, rfl, hR, h⟩ := h
  refine ⟨_, (pss_cons (ps_if (pt_cmpR op_eq (pe_meth0 (pv 0) (c_Reader T) (mt_kind T) G_Reader_kind (hr.mono (by omega)) (B_Reader_kind T) .nil pass0) pe_str (nomark _)) (pss_one (ps_ret (pe_tup (pa_cons pe_str (pa_cons (pe_callTy call_int_str (by rfl) (z_int T) (by decide +kernel) (pa_cons (pe_meth (pv 0) (c_Reader T) (mt_take T) G_Reader_take (hr.mono (by omega)) (B_Reader_take T) .nil (passes_call (takes_of rfl rfl rfl rfl) (fun _ _ _ _ z => z)) (pa_cons pe_str pa_nil)) pa_nil)) pa_nil))))) pss_nil) (pss_cons (ps_if (pt_val (pe_meth (pv 0) (c_Reader T) (mt_skip T) G_Reader_skip (hr.mono (by omega)) (B_Reader_skip T) .nil pass0 (pa_cons pe_str pa_nil))) (pss_one (ps_ret (pe_tup (pa_cons pe_str (pa_cons pe_bl pa_nil))))) pss_nil) (pss_cons (ps_if (pt_val (pe_meth (pv 0) (c_Reader T) (mt_skip T) G_Reader_skip (hr.mono (by omega)) (B_Reader_skip T) .nil pass0 (pa_cons pe_str pa_nil))) (pss_one (ps_ret (pe_tup (pa_cons pe_str (pa_cons pe_bl pa_nil))))) pss_nil) (pss_cons (ps_if (pt_val (pe_meth (pv 0) (c_Reader T) (mt_skip T) G_Reader_skip (hr.mono (by omega)) (B_Reader_skip T) .nil pass0 (pa_cons pe_str pa_nil))) (pss_one (ps_ret (pe_tup (pa_cons pe_str (pa_cons (pe_call G_parse_kind (hr.mono (by omega)) rfl (m_parse_kind T) (F_parse_kind T).kp (B_parse_kind T) .nil (passes_call (takes_of rfl rfl rfl rfl) (fun _ _ _ _ z => z)) (pa_cons (pv 0) pa_nil)) pa_nil))))) pss_nil) (pss_cons (ps_if (pt_val (pe_meth (pv 0) (c_Reader T) (mt_skip T) G_Reader_skip (hr.mono (by omega)) (B_Reader_skip T) .nil pass0 (pa_cons pe_str pa_nil))) (pss_cons (ps_expr (pe_meth (pv 0) (c_Reader T) (mt_expect T) G_Reader_expect (hr.mono (by omega)) (B_Reader_expect T) .nil (passes_call (takes_of rfl rfl rfl rfl) (fun _ _ _ _ z => z)) (pa_cons pe_str pa_nil))) (pss_cons (ps_set (i := 1) sc_primary.nd rfl (Or.inl rfl) (pe_call G_parse_place (hr.mono (by omega)) rfl (m_parse_place T) (F_parse_place T).kp (B_parse_place T) .nil (passes_call (takes_of rfl rfl rfl rfl) (fun _ _ _ _ z => z)) (pa_cons (pv 0) pa_nil))) (pss_cons (ps_expr (pe_meth (pv 0) (c_Reader T) (mt_expect T) G_Reader_expect (hr.mono (by omega)) (B_Reader_expect T) .nil (passes_call (takes_of rfl rfl rfl rfl) (fun _ _ _ _ z => z)) (pa_cons pe_str pa_nil))) (pss_one (ps_ret (pe_tup (pa_cons pe_str (pa_cons (pv 1) pa_nil)))))))) pss_nil) (pss_cons (ps_if (pt_val (pe_meth (pv 0) (c_Reader T) (mt_skip T) G_Reader_skip (hr.mono (by omega)) (B_Reader_skip T) .nil pass0 (pa_cons pe_str pa_nil))) (pss_cons (ps_set (i := 1) sc_primary.nd rfl (Or.inl rfl) (pe_call G_parse_one (hr.mono (by omega)) rfl (m_parse_one T) (F_parse_one T).kp (B_parse_one T) .nil (passes_call (takes_of rfl rfl rfl rfl) (fun _ _ _ _ z => z)) (pa_cons (pv 0) pa_nil))) (pss_cons (ps_expr (pe_meth (pv 0) (c_Reader T) (mt_expect T) G_Reader_expect (hr.mono (by omega)) (B_Reader_expect T) .nil (passes_call (takes_of rfl rfl rfl rfl) (fun _ _ _ _ z => z)) (pa_cons pe_str pa_nil))) (pss_one (ps_ret (pv 1))))) pss_nil) (pss_cons (ps_set (i := 2) sc_primary.nd rfl (Or.inl rfl) (pe_meth (pv 0) (c_Reader T) (mt_take T) G_Reader_take (hr.mono (by omega)) (B_Reader_take T) .nil (passes_call (takes_of rfl rfl rfl rfl) (fun _ _ _ _ z => z)) (pa_cons pe_str pa_nil))) (pss_cons (ps_if (pt_val (pe_meth (pv 0) (c_Reader T) (mt_skip T) G_Reader_skip (hr.mono (by omega)) (B_Reader_skip T) .nil pass0 (pa_cons pe_str pa_nil))) (pss_one (ps_ret (pe_tup (pa_cons pe_str (pa_cons (pv 2) (pa_cons (pe_call G_parse_exprs (hr.mono (by omega)) rfl (m_parse_exprs T) (F_parse_exprs T).kp (B_parse_exprs T) .nil (passes_call (takes_of rfl rfl rfl rfl) (fun _ _ _ _ z => z)) (pa_cons (pv 0) pa_nil)) pa_nil)))))) pss_nil) (pss_one (ps_ret (pe_tup (pa_cons pe_str (pa_cons (pv 2) pa_nil))))))))))))), ?_⟩
  have k0 : Keep p H0 H0 := Keep.refl _ _
  unfold primP at h
  refine me0 hR rfl (go_isNum hR h ?_ ?_)
  · intro h
    refine ⟨rfl, _, rfl, iteT ?_⟩
    refine me1c hR rfl (go_num hR k0 h ?_)
    intro x hx H1 k1 k2 R1 h1
    have hx' := hR.endf.num hx
    refine ⟨_, _, rfl, numS_int hx', Nat.le_trans (numS_len hx') (by decide), (by show 2 ≤ sizeLine; decide), fun q hq => ?_⟩
    exact h1 _ _ (k2.trans (same_kp (same_new hq _))) (R1.same (same_new hq _)) (dt_new hq (.cons (.str _) (.cons (.int _) .nil)))
  intro hn h
  have e : ¬ ((V.str (Ko.hd l).knd) = V.str "number") := fun z => hn (by injection z)
  refine ⟨rfl, _, rfl, ?_⟩
  rw [decide_eq_false e]
  refine iteF ?_
  clear e hn
  refine me1c hR rfl (go_skip hR k0 h ?_ ?_)
  · intro c H1 k1 k2 R1 h1
    refine ⟨_, rfl, iteT ⟨(by show 2 ≤ sizeLine; decide), fun q hq => ?_⟩⟩
    exact h1 _ _ (k2.trans (same_kp (same_new hq _))) (R1.same (same_new hq _)) (dt_new hq (.cons (.str _) (.cons (.bl _) .nil)))
  intro c H1 k1 k2 R1 h1
  refine ⟨_, rfl, iteF ?_⟩
  clear h c k1
  refine me1c R1 rfl (go_skip R1 k2 h1 ?_ ?_)
  · intro c H2 k3 k4 R2 h2
    refine ⟨_, rfl, iteT ⟨(by show 2 ≤ sizeLine; decide), fun q hq => ?_⟩⟩
    exact h2 _ _ (k4.trans (same_kp (same_new hq _))) (R2.same (same_new hq _)) (dt_new hq (.cons (.str _) (.cons (.bl _) .nil)))
  intro c H2 k3 k4 R2 h2
  refine ⟨_, rfl, iteF ?_⟩
  clear h1 c k3
  refine me1c R2 rfl (go_skip R2 k4 h2 ?_ ?_)
  · intro c H3 k5 k6 R3 h3
    refine ⟨_, rfl, iteT ?_⟩
    refine ca rfl (go_fuel (Nat.le_refl n) R3 k6 (wp_bind.mp h3) ?_)
    intro a r v H4 h4 k7 k8 R4 d4
    refine ⟨(by show 2 ≤ sizeLine; decide), fun q hq => ?_⟩
    exact h4 _ _ (k8.trans (same_kp (same_new hq _))) (R4.same (same_new hq _)) (dt_new hq (.cons (.str _) (.cons d4 .nil)))
  intro c H3 k5 k6 R3 h3
  refine ⟨_, rfl, iteF ?_⟩
  clear h2 c k5
  refine me1c R3 rfl (go_skip R3 k6 h3 ?_ ?_)
  · intro c H4 k7 k8 R4 h4
    refine ⟨_, rfl, iteT ?_⟩
    refine me1c R4 rfl (go_expect R4 k8 h4 ?_)
    intro c H5 k9 k10 R5 h5
    refine ca rfl (go_fuel (Nat.le_refl n) R5 k10 (wp_bind.mp h5) ?_)
    intro a r v H6 h6 k11 k12 R6 d6
    refine me1c R6 rfl (go_expect R6 k12 h6 ?_)
    intro c H7 k13 k14 R7 h7
    refine ⟨_, rfl, (by show 2 ≤ sizeLine; decide), fun q hq => ?_⟩
    exact h7 _ _ (k14.trans (same_kp (same_new hq _))) (R7.same (same_new hq _)) (dt_new hq (.cons (.str _) (.cons (dt_keep (k13.kt R6) d6) .nil)))
  intro c H4 k7 k8 R4 h4
  refine ⟨_, rfl, iteF ?_⟩
  clear h3 c k7
  refine me1c R4 rfl (go_skip R4 k8 h4 ?_ ?_)
  · intro c H5 k9 k10 R5 h5
    refine ⟨_, rfl, iteT ?_⟩
    refine ca rfl (go_fuel (Nat.le_refl n) R5 k10 (wp_bind.mp h5) ?_)
    intro a r v H6 h6 k11 k12 R6 d6
    refine me1c R6 rfl (go_expect R6 k12 h6 ?_)
    intro c H7 k13 k14 R7 h7
    exact ⟨_, rfl, h7 _ _ k14 R7 (dt_keep (k13.kt R6) d6)⟩
  intro c H5 k9 k10 R5 h5
  refine ⟨_, rfl, iteF ?_⟩
  clear h4 c k9
  refine me1c R5 rfl (go_name R5 k10 h5 ?_)
  intro x hx H6 k11 k12 R6 h6
  refine me1c R6 rfl (go_skip R6 k12 h6 ?_ ?_)
  · intro c H7 k13 k14 R7 h7
    refine ⟨_, rfl, iteT ⟨_, rfl, ?_⟩⟩
    refine ca rfl (go_fuel (Nat.le_refl n) R7 k14 (wp_bind.mp h7) ?_)
    intro a r v H8 h8 k15 k16 R8 d8
    refine ⟨(by show 3 ≤ sizeLine; decide), fun q hq => ?_⟩
    exact h8 _ _ (k16.trans (same_kp (same_new hq _))) (R8.same (same_new hq _)) (dt_new hq (.cons (.str _) (.cons (.str _) (.cons d8 .nil))))
  · intro c H7 k13 k14 R7 h7
    refine ⟨_, rfl, iteF ⟨_, rfl, (by show 2 ≤ sizeLine; decide), fun q hq => ?_⟩⟩
    exact h7 _ _ (k14.trans (same_kp (same_new hq _))) (R7.same (same_new hq _)) (dt_new hq (.cons (.str _) (.cons (.str _) .nil)))
theorem ok_post (T : Tx K mg) (B : RdOk PP w K mg base) (I : EOk PP w K mg base n) : PFn PP w K mg base (n + 5) (a_parse_postfix K) (fdOf K d_parse_postfix) (spP K (postP (n + 1)) Ex.d) := by
  have G_Reader_skip := B.skip
  have G_Reader_is_next := B.isn
  have G_Reader_take := B.take
  have G_Reader_expect := B.exp
  have G_need_place := ok_need T B
  have G_primary := I.prim
  have G_parse_one := I.one
  obtain ⟨ds, vN, bN⟩ := isn T
  refine (F_parse_postfix T).ok sc_parse_postfix (fun vs H Q E h => spP_len h) (fun cdv A outer s H0 vs Q E hr h => ?_)
  obtain ⟨p, b, l, rfl, hR, h⟩ := h
  refine ⟨_, (pss_cons (ps_set (i := 1) sc_parse_postfix.nd rfl (Or.inl rfl) (pe_call G_primary (hr.mono (by omega)) rfl (m_primary T) (F_primary T).kp (B_primary T) .nil (passes_call (takes_of rfl rfl rfl rfl) (fun _ _ _ _ z => z)) (pa_cons (pv 0) pa_nil))) (pss_cons (ps_while (passes_of rfl) (PW.pt (pw_or (pt_val (pe_meth (pv 0) (c_Reader T) (mt_is_next T) G_Reader_is_next (hr.mono (by omega)) bN vN pass0 (pa_cons pe_str pa_nil))) (pw_or1 (pt_val (pe_meth (pv 0) (c_Reader T) (mt_is_next T) G_Reader_is_next (hr.mono (by omega)) bN vN pass0 (pa_cons pe_str pa_nil)))))) (pss_cons (ps_expr (pe_call G_need_place (hr.mono (by omega)) rfl (m_need_place T) (F_need_place T).kp (B_need_place T) .nil (passes_call (takes_of rfl rfl rfl rfl) (fun _ _ _ _ z => z)) (pa_cons (pv 0) (pa_cons (pv 1) pa_nil)))) (pss_one (ps_if (pt_val (pe_meth (pv 0) (c_Reader T) (mt_skip T) G_Reader_skip (hr.mono (by omega)) (B_Reader_skip T) .nil pass0 (pa_cons pe_str pa_nil))) (pss_one (ps_set (i := 1) sc_parse_postfix.nd rfl (Or.inl rfl) (pe_tup (pa_cons pe_str (pa_cons (pv 1) (pa_cons (pe_meth (pv 0) (c_Reader T) (mt_take T) G_Reader_take (hr.mono (by omega)) (B_Reader_take T) .nil (passes_call (takes_of rfl rfl rfl rfl) (fun _ _ _ _ z => z)) (pa_cons pe_str pa_nil)) pa_nil)))))) (pss_cons (ps_expr (pe_meth (pv 0) (c_Reader T) (mt_expect T) G_Reader_expect (hr.mono (by omega)) (B_Reader_expect T) .nil (passes_call (takes_of rfl rfl rfl rfl) (fun _ _ _ _ z => z)) (pa_cons pe_str pa_nil))) (pss_cons (ps_set (i := 1) sc_parse_postfix.nd rfl (Or.inl rfl) (pe_tup (pa_cons pe_str (pa_cons (pv 1) (pa_cons (pe_call G_parse_one (hr.mono (by omega)) rfl (m_parse_one T) (F_parse_one T).kp (B_parse_one T) .nil (passes_call (takes_of rfl rfl rfl rfl) (fun _ _ _ _ z => z)) (pa_cons (pv 0) pa_nil)) pa_nil))))) (pss_one (ps_expr (pe_meth (pv 0) (c_Reader T) (mt_expect T) G_Reader_expect (hr.mono (by omega)) (B_Reader_expect T) .nil (passes_call (takes_of rfl rfl rfl rfl) (fun _ _ _ _ z => z)) (pa_cons pe_str pa_nil)))))))))) (pss_one (ps_ret (pv 1))))), ?_⟩
  have k0 : Keep p H0 H0 := Keep.refl _ _
  unfold postP at h
  refine ca rfl (go_fuel (Nat.le_refl n) hR k0 (wp_bind.mp h) ?_)
  intro a r v H1 h1 k1 k2 R1 d1
  refine while_fuel (fun m σ' H' => ∃ (t : Ex) (r : List Tok) (v : V), σ' = [some (.ref p), some v] ∧ Keep p H0 H' ∧ RdAt K H' p b r ∧ Dt K H' v t.d ∧ m ≤ n ∧
      (postL m t r).wp (fun a r => ∀ v H', Keep p H0 H' → RdAt K H' p b r → Dt K H' v a.d → Q v H') (fun r => Bad K p H0 E r)) n ?_ ?_ ?_
  · exact ⟨a, r, v, rfl, k2, R1, d1, Nat.le_refl _, h1⟩
  · rintro σ' H' ⟨t, r, v, _, _, _, _, _, h⟩
    exact h.elim
  · rintro m σ' H' ⟨t, r, v, rfl, k, R, d, hm, h⟩
    unfold postL at h
    refine me1d R rfl (go_peek R k (wp_ifB.mp h) ?_ ?_)
    · intro c H2 k1 k2 R2 h2
      rw [wp_pure, if_pos rfl] at h2
      refine ⟨_, rfl, iteT ?_⟩
      refine iteT ⟨_, fun σ' H' w' => ⟨m, Nat.lt_succ_self m, w'⟩, ?_⟩
      have dd := dt_keep (k1.kt R) d
      refine ca2 rfl rfl (go_need R2 k2 dd h2 ?_)
      intro c g3
      refine me1c R2 rfl (go_skip R2 k2 g3 ?_ ?_)
      · intro c G3 m3 m4 S3 g4
        refine ⟨_, rfl, iteT ⟨_, rfl, ?_⟩⟩
        refine me1c S3 rfl (go_name S3 m4 g4 ?_)
        intro x hx G4 m5 m6 S4 g5
        refine ⟨(by show 3 ≤ sizeLine; decide), fun q hq => ?_⟩
        exact ⟨.field t x, _, .ref q, rfl, m6.trans (same_kp (same_new hq _)), S4.same (same_new hq _), dt_new hq (.cons (.str _) (.cons (dt_keep (m5.kt S3) (dt_keep (m3.kt R2) dd)) (.cons (.str _) .nil))), by omega, g5⟩
      · intro c G3 m3 m4 S3 g4
        refine ⟨_, rfl, iteF ?_⟩
        refine me1c S3 rfl (go_expect S3 m4 g4 ?_)
        intro c G4 m5 m6 S4 g5
        refine ⟨_, rfl, ?_⟩
        refine ca rfl (go_fuel (by omega) S4 m6 (wp_bind.mp g5) ?_)
        intro a r v2 G5 g6 m7 m8 S5 d5
        refine ⟨(by show 3 ≤ sizeLine; decide), fun q hq => ?_⟩
        have S6 := S5.same (same_new hq (.tup [.str "index", v, v2]))
        refine me1c S6 rfl (go_expect S6 (m8.trans (same_kp (same_new hq _))) g6 ?_)
        intro c G6 m9 m10 S7 g7
        exact ⟨.index t a, _, .ref q, rfl, m10, S7, dt_keep (m9.kt S6) (dt_new hq (.cons (.str _) (.cons (dt_keep (m7.kt S4) (dt_keep (m5.kt S3) (dt_keep (m3.kt R2) dd))) (.cons d5 .nil)))), by omega, g7⟩
    · intro c H2 k1 k2 R2 h2
      refine ⟨_, rfl, iteF ?_⟩
      refine me1d R2 rfl (go_peek R2 k2 (wp_ifB.mpr h2) ?_ ?_)
      · intro c H3 k3 k4 R3 h3
        refine ⟨_, rfl, ?_⟩
        refine iteT ⟨_, fun σ' H' w' => ⟨m, Nat.lt_succ_self m, w'⟩, ?_⟩
        have dd := dt_keep ((k1.trans k3).kt R) d
        refine ca2 rfl rfl (go_need R3 k4 dd h3 ?_)
        intro c g3
        refine me1c R3 rfl (go_skip R3 k4 g3 ?_ ?_)
        · intro c G3 m3 m4 S3 g4
          refine ⟨_, rfl, iteT ⟨_, rfl, ?_⟩⟩
          refine me1c S3 rfl (go_name S3 m4 g4 ?_)
          intro x hx G4 m5 m6 S4 g5
          refine ⟨(by show 3 ≤ sizeLine; decide), fun q hq => ?_⟩
          exact ⟨.field t x, _, .ref q, rfl, m6.trans (same_kp (same_new hq _)), S4.same (same_new hq _), dt_new hq (.cons (.str _) (.cons (dt_keep (m5.kt S3) (dt_keep (m3.kt R3) dd)) (.cons (.str _) .nil))), by omega, g5⟩
        · intro c G3 m3 m4 S3 g4
          refine ⟨_, rfl, iteF ?_⟩
          refine me1c S3 rfl (go_expect S3 m4 g4 ?_)
          intro c G4 m5 m6 S4 g5
          refine ⟨_, rfl, ?_⟩
          refine ca rfl (go_fuel (by omega) S4 m6 (wp_bind.mp g5) ?_)
          intro a r v2 G5 g6 m7 m8 S5 d5
          refine ⟨(by show 3 ≤ sizeLine; decide), fun q hq => ?_⟩
          have S6 := S5.same (same_new hq (.tup [.str "index", v, v2]))
          refine me1c S6 rfl (go_expect S6 (m8.trans (same_kp (same_new hq _))) g6 ?_)
          intro c G6 m9 m10 S7 g7
          exact ⟨.index t a, _, .ref q, rfl, m10, S7, dt_keep (m9.kt S6) (dt_new hq (.cons (.str _) (.cons (dt_keep (m7.kt S4) (dt_keep (m5.kt S3) (dt_keep (m3.kt R3) dd))) (.cons d5 .nil)))), by omega, g7⟩
      · intro c H3 k3 k4 R3 h3
        refine ⟨_, rfl, iteF ⟨_, rfl, ?_⟩⟩
        exact h3 _ _ k4 R3 (dt_keep (k3.kt R2) (dt_keep (k1.kt R) d))
theorem ok_unary (T : Tx K mg) (B : RdOk PP w K mg base) (I : EOk PP w K mg base n) : PFn PP w K mg base (n + 5) (a_unary K) (fdOf K d_unary) (spP K (unaryP (n + 1)) Ex.d) := by
  have G_Reader_skip := B.skip
  have G_Reader_is_next := B.isn
  have G_unary := I.unary
  have G_parse_place := I.place
  have G_parse_postfix := I.post
  obtain ⟨ds, vN, bN⟩ := isn T
  refine (F_unary T).ok sc_unary (fun vs H Q E h => spP_len h) (fun cdv A outer s H0 vs Q E hr h => ?_)
  obtain ⟨p, b, l, rfl, hR, h⟩ := h
  refine ⟨_, (pss_cons (ps_if (pt_val (pe_meth (pv 0) (c_Reader T) (mt_skip T) G_Reader_skip (hr.mono (by omega)) (B_Reader_skip T) .nil pass0 (pa_cons pe_str pa_nil))) (pss_one (ps_ret (pe_tup (pa_cons pe_str (pa_cons (pe_call G_unary (hr.mono (by omega)) rfl (m_unary T) (F_unary T).kp (B_unary T) .nil (passes_call (takes_of rfl rfl rfl rfl) (fun _ _ _ _ z => z)) (pa_cons (pv 0) pa_nil)) pa_nil))))) pss_nil) (pss_cons (ps_for (passes_of rfl) rfl (pi_tup (pe_tup (pa_cons pe_str (pa_cons pe_str pa_nil)))) (pg_name (i := 1) sc_unary.nd rfl (Or.inl rfl)) (pss_one (ps_if (pt_val (pe_meth (pv 0) (c_Reader T) (mt_skip T) G_Reader_skip (hr.mono (by omega)) (B_Reader_skip T) .nil pass0 (pa_cons (pv 1) pa_nil))) (pss_one (ps_ret (pe_tup (pa_cons (pv 1) (pa_cons (pe_call G_unary (hr.mono (by omega)) rfl (m_unary T) (F_unary T).kp (B_unary T) .nil (passes_call (takes_of rfl rfl rfl rfl) (fun _ _ _ _ z => z)) (pa_cons (pv 0) pa_nil)) pa_nil))))) pss_nil))) (pss_cons (ps_for (passes_of rfl) rfl (pi_tup (pe_tup (pa_cons pe_str (pa_cons pe_str pa_nil)))) (pg_name (i := 1) sc_unary.nd rfl (Or.inl rfl)) (pss_one (ps_if (pt_val (pe_meth (pv 0) (c_Reader T) (mt_skip T) G_Reader_skip (hr.mono (by omega)) (B_Reader_skip T) .nil pass0 (pa_cons (pv 1) pa_nil))) (pss_one (ps_ret (pe_tup (pa_cons (pv 1) (pa_cons (pe_call G_parse_place (hr.mono (by omega)) rfl (m_parse_place T) (F_parse_place T).kp (B_parse_place T) .nil (passes_call (takes_of rfl rfl rfl rfl) (fun _ _ _ _ z => z)) (pa_cons (pv 0) pa_nil)) pa_nil))))) pss_nil))) (pss_cons (ps_if (pt_val (pe_meth (pv 0) (c_Reader T) (mt_is_next T) G_Reader_is_next (hr.mono (by omega)) bN vN pass0 (pa_cons pe_str pa_nil))) (pss_one (ps_ret (pe_call G_parse_place (hr.mono (by omega)) rfl (m_parse_place T) (F_parse_place T).kp (B_parse_place T) .nil (passes_call (takes_of rfl rfl rfl rfl) (fun _ _ _ _ z => z)) (pa_cons (pv 0) pa_nil)))) pss_nil) (pss_one (ps_ret (pe_call G_parse_postfix (hr.mono (by omega)) rfl (m_parse_postfix T) (F_parse_postfix T).kp (B_parse_postfix T) .nil (passes_call (takes_of rfl rfl rfl rfl) (fun _ _ _ _ z => z)) (pa_cons (pv 0) pa_nil)))))))), ?_⟩
  have k0 : Keep p H0 H0 := Keep.refl _ _
  unfold unaryP at h
  refine me1c hR rfl (go_skip hR k0 h ?_ ?_)
  · intro c H1 k1 k2 R1 h1
    refine ⟨_, rfl, iteT ?_⟩
    refine ca rfl (go_fuel (Nat.le_refl n) R1 k2 (wp_bind.mp h1) ?_)
    intro a r v H2 h2 k3 k4 R2 d2
    refine ⟨(by show 2 ≤ sizeLine; decide), fun q hq => ?_⟩
    exact h2 _ _ (k4.trans (same_kp (same_new hq _))) (R2.same (same_new hq _)) (dt_new hq (.cons (.str _) (.cons d2 .nil)))
  intro c H1 k1 k2 R1 h1
  refine ⟨_, rfl, iteF ?_⟩
  refine ⟨(by show 2 ≤ sizeLine; decide), fun q hq => ⟨q, rfl, ⟨_, SqT.of upd_same⟩, ?_⟩⟩
  refine for_words (ss := [.kBox, .kUnbox]) (s0 := [some (.ref p), none]) (g := fun i => match i with
    | 0 => ifB (skipP .kBox) (bindP (unaryP n) fun a => pureP (Ex.un .box a)) (ifB (skipP .kUnbox) (bindP (unaryP n) fun a => pureP (Ex.un .unbox a)) (ifB (skipP .kRef) (bindP (placeP n) fun p => pureP (Ex.rf .ref p)) (ifB (skipP .kMut) (bindP (placeP n) fun p => pureP (Ex.rf .mut p)) (ifB (peekP .star) (placeP n) (postP n)))))
    | 1 => (ifB (skipP .kUnbox) (bindP (unaryP n) fun a => pureP (Ex.un .unbox a)) (ifB (skipP .kRef) (bindP (placeP n) fun p => pureP (Ex.rf .ref p)) (ifB (skipP .kMut) (bindP (placeP n) fun p => pureP (Ex.rf .mut p)) (ifB (peekP .star) (placeP n) (postP n)))))
    | _ => (ifB (skipP .kRef) (bindP (placeP n) fun p => pureP (Ex.rf .ref p)) (ifB (skipP .kMut) (bindP (placeP n) fun p => pureP (Ex.rf .mut p)) (ifB (peekP .star) (placeP n) (postP n)))))
    (t := fun i => match i with
    | 0 => (bindP (unaryP n) fun a => pureP (Ex.un .box a))
    | _ => (bindP (unaryP n) fun a => pureP (Ex.un .unbox a))) (by decide) (by show 1 < 2; decide) rfl ?_ (R1.same (same_new hq _)) (k2.trans (same_kp (same_new hq _))) upd_same h1 ?_ ?_ ⟨none, rfl⟩
  · intro i s e
    match i, e with
    | 0, e => cases e; rfl
    | 1, e => cases e; rfl
    | _ + 2, e => cases e
  · intro i s e D' hD H2 k3 k4 R2 h2
    match i, e with
    | 0, e =>
      cases e
      refine ⟨_, rfl, ca rfl (go_fuel (Nat.le_refl n) R2 k4 (wp_bind.mp h2) ?_)⟩
      intro a r v H3 h3 k5 k6 R3 d3
      refine ⟨(by show 2 ≤ sizeLine; decide), fun q hq => ?_⟩
      rw [hD]
      exact h3 _ _ (k6.trans (same_kp (same_new hq _))) (R3.same (same_new hq _)) (dt_new hq (.cons (.str _) (.cons d3 .nil)))
    | 1, e =>
      cases e
      refine ⟨_, rfl, ca rfl (go_fuel (Nat.le_refl n) R2 k4 (wp_bind.mp h2) ?_)⟩
      intro a r v H3 h3 k5 k6 R3 d3
      refine ⟨(by show 2 ≤ sizeLine; decide), fun q hq => ?_⟩
      rw [hD]
      exact h3 _ _ (k6.trans (same_kp (same_new hq _))) (R3.same (same_new hq _)) (dt_new hq (.cons (.str _) (.cons d3 .nil)))
    | _ + 2, e => cases e
  intro wd H2 k3 k4 R2 h2
  refine ⟨(by show 2 ≤ sizeLine; decide), fun q2 hq2 => ⟨q2, rfl, ⟨_, SqT.of upd_same⟩, ?_⟩⟩
  refine for_words (ss := [.kRef, .kMut]) (s0 := [some (.ref p), none]) (g := fun i => match i with
    | 0 => (ifB (skipP .kRef) (bindP (placeP n) fun p => pureP (Ex.rf .ref p)) (ifB (skipP .kMut) (bindP (placeP n) fun p => pureP (Ex.rf .mut p)) (ifB (peekP .star) (placeP n) (postP n))))
    | 1 => (ifB (skipP .kMut) (bindP (placeP n) fun p => pureP (Ex.rf .mut p)) (ifB (peekP .star) (placeP n) (postP n)))
    | _ => (ifB (peekP .star) (placeP n) (postP n)))
    (t := fun i => match i with
    | 0 => (bindP (placeP n) fun p => pureP (Ex.rf .ref p))
    | _ => (bindP (placeP n) fun p => pureP (Ex.rf .mut p))) (by decide) (by show 1 < 2; decide) rfl ?_ (R2.same (same_new hq2 _)) (k4.trans (same_kp (same_new hq2 _))) upd_same h2 ?_ ?_ ⟨wd, rfl⟩
  · intro i s e
    match i, e with
    | 0, e => cases e; rfl
    | 1, e => cases e; rfl
    | _ + 2, e => cases e
  · intro i s e D' hD H3 k5 k6 R3 h3
    match i, e with
    | 0, e =>
      cases e
      refine ⟨_, rfl, ca rfl (go_fuel (Nat.le_refl n) R3 k6 (wp_bind.mp h3) ?_)⟩
      intro a r v H3 h3 k5 k6 R3 d3
      refine ⟨(by show 2 ≤ sizeLine; decide), fun q hq => ?_⟩
      rw [hD]
      exact h3 _ _ (k6.trans (same_kp (same_new hq _))) (R3.same (same_new hq _)) (dt_new hq (.cons (.str _) (.cons d3 .nil)))
    | 1, e =>
      cases e
      refine ⟨_, rfl, ca rfl (go_fuel (Nat.le_refl n) R3 k6 (wp_bind.mp h3) ?_)⟩
      intro a r v H3 h3 k5 k6 R3 d3
      refine ⟨(by show 2 ≤ sizeLine; decide), fun q hq => ?_⟩
      rw [hD]
      exact h3 _ _ (k6.trans (same_kp (same_new hq _))) (R3.same (same_new hq _)) (dt_new hq (.cons (.str _) (.cons d3 .nil)))
    | _ + 2, e => cases e
  intro wd H3 k5 k6 R3 h3
  refine me1d R3 rfl (go_peek R3 k6 h3 ?_ ?_)
  · intro c H4 k7 k8 R4 h4
    refine ⟨_, rfl, iteT ?_⟩
    refine ca rfl (go_fuel (Nat.le_refl n) R4 k8 h4 ?_)
    intro a r v H5 h5 k9 k10 R5 d5
    exact h5 _ _ k10 R5 d5
  · intro c H4 k7 k8 R4 h4
    refine ⟨_, rfl, iteF ?_⟩
    refine ca rfl (go_fuel (Nat.le_refl n) R4 k8 h4 ?_)
    intro a r v H5 h5 k9 k10 R5 d5
    exact h5 _ _ k10 R5 d5
theorem ok_prod (T : Tx K mg) (B : RdOk PP w K mg base) (I : EOk PP w K mg base n) : PFn PP w K mg base (n + 5) (a_product K) (fdOf K d_product) (spP K (prodP (n + 1)) Ex.d) := by
  have G_Reader_skip := B.skip
  have G_unary := I.unary
  refine (F_product T).ok sc_product (fun vs H Q E h => spP_len h) (fun cdv A outer s H0 vs Q E hr h => ?_)
  obtain ⟨p, b, l, rfl, hR, h⟩ := h
  refine ⟨_, (pss_cons (ps_set (i := 1) sc_product.nd rfl (Or.inl rfl) (pe_call G_unary (hr.mono (by omega)) rfl (m_unary T) (F_unary T).kp (B_unary T) .nil (passes_call (takes_of rfl rfl rfl rfl) (fun _ _ _ _ z => z)) (pa_cons (pv 0) pa_nil))) (pss_cons (ps_while (passes_of rfl) (pt_val (pe_meth (pv 0) (c_Reader T) (mt_skip T) G_Reader_skip (hr.mono (by omega)) (B_Reader_skip T) .nil pass0 (pa_cons pe_str pa_nil))) (pss_one (ps_set (i := 1) sc_product.nd rfl (Or.inl rfl) (pe_tup (pa_cons pe_str (pa_cons pe_str (pa_cons (pv 1) (pa_cons (pe_call G_unary (hr.mono (by omega)) rfl (m_unary T) (F_unary T).kp (B_unary T) .nil (passes_call (takes_of rfl rfl rfl rfl) (fun _ _ _ _ z => z)) (pa_cons (pv 0) pa_nil)) pa_nil)))))))) (pss_one (ps_ret (pv 1))))), ?_⟩
  have k0 : Keep p H0 H0 := Keep.refl _ _
  unfold prodP at h
  refine ca rfl (go_fuel (Nat.le_refl n) hR k0 (wp_bind.mp h) ?_)
  intro a r v H1 h1 k1 k2 R1 d1
  refine while_fuel (fun m σ' H' => ∃ (t : Ex) (r : List Tok) (v : V), σ' = [some (.ref p), some v] ∧ Keep p H0 H' ∧ RdAt K H' p b r ∧ Dt K H' v t.d ∧ m ≤ n ∧
      (prodL m t r).wp (fun a r => ∀ v H', Keep p H0 H' → RdAt K H' p b r → Dt K H' v a.d → Q v H') (fun r => Bad K p H0 E r)) n ?_ ?_ ?_
  · exact ⟨a, r, v, rfl, k2, R1, d1, Nat.le_refl _, h1⟩
  · rintro σ' H' ⟨t, r, v, _, _, _, _, _, h⟩
    exact h.elim
  · rintro m σ' H' ⟨t, r, v, rfl, k, R, d, hm, h⟩
    unfold prodL at h
    refine me1c R rfl (go_skip R k h ?_ ?_)
    · intro c H2 k1 k2 R2 h2
      refine ⟨_, rfl, iteT ⟨_, fun σ' H' w' => ⟨m, Nat.lt_succ_self m, w'⟩, ?_⟩⟩
      refine ⟨_, rfl, ca rfl (go_fuel (by omega) R2 k2 (wp_bind.mp h2) ?_)⟩
      intro a r v2 H3 h3 k3 k4 R3 d3
      refine ⟨(by show 4 ≤ sizeLine; decide), fun q hq => ?_⟩
      exact ⟨.op .mul t a, _, .ref q, rfl, k4.trans (same_kp (same_new hq _)), R3.same (same_new hq _), dt_new hq (.cons (.str _) (.cons (.str _) (.cons (dt_keep (k3.kt R2) (dt_keep (k1.kt R) d)) (.cons d3 .nil)))), by omega, h3⟩
    · intro c H2 k1 k2 R2 h2
      refine ⟨_, rfl, iteF ⟨_, rfl, ?_⟩⟩
      exact h2 _ _ k2 R2 (dt_keep (k1.kt R) d)
theorem ok_tot (T : Tx K mg) (B : RdOk PP w K mg base) (I : EOk PP w K mg base n) : PFn PP w K mg base (n + 5) (a_total K) (fdOf K d_total) (spP K (totP (n + 1)) Ex.d) := by
  have G_Reader_skip := B.skip
  have G_Reader_is_next := B.isn
  have G_Reader_expect := B.exp
  have G_product := I.prod
  obtain ⟨ds, vN, bN⟩ := isn T
  refine (F_total T).ok sc_total (fun vs H Q E h => spP_len h) (fun cdv A outer s H0 vs Q E hr h => ?_)
  obtain ⟨p, b, l, rfl, hR, h⟩ := h
  refine ⟨_, (pss_cons (ps_set (i := 1) sc_total.nd rfl (Or.inl rfl) (pe_call G_product (hr.mono (by omega)) rfl (m_product T) (F_product T).kp (B_product T) .nil (passes_call (takes_of rfl rfl rfl rfl) (fun _ _ _ _ z => z)) (pa_cons (pv 0) pa_nil))) (pss_cons (ps_while (passes_of rfl) (PW.pt (pw_or (pt_val (pe_meth (pv 0) (c_Reader T) (mt_is_next T) G_Reader_is_next (hr.mono (by omega)) bN vN pass0 (pa_cons pe_str pa_nil))) (pw_or1 (pt_val (pe_meth (pv 0) (c_Reader T) (mt_is_next T) G_Reader_is_next (hr.mono (by omega)) bN vN pass0 (pa_cons pe_str pa_nil)))))) (pss_cons (ps_set (i := 2) sc_total.nd rfl (Or.inl rfl) pe_str) (pss_cons (ps_if (pt_val (pe_meth (pv 0) (c_Reader T) (mt_skip T) G_Reader_skip (hr.mono (by omega)) (B_Reader_skip T) .nil pass0 (pa_cons pe_str pa_nil))) (pss_one (ps_set (i := 2) sc_total.nd rfl (Or.inl rfl) pe_str)) (pss_one (ps_expr (pe_meth (pv 0) (c_Reader T) (mt_expect T) G_Reader_expect (hr.mono (by omega)) (B_Reader_expect T) .nil (passes_call (takes_of rfl rfl rfl rfl) (fun _ _ _ _ z => z)) (pa_cons pe_str pa_nil))))) (pss_one (ps_set (i := 1) sc_total.nd rfl (Or.inl rfl) (pe_tup (pa_cons pe_str (pa_cons (pv 2) (pa_cons (pv 1) (pa_cons (pe_call G_product (hr.mono (by omega)) rfl (m_product T) (F_product T).kp (B_product T) .nil (passes_call (takes_of rfl rfl rfl rfl) (fun _ _ _ _ z => z)) (pa_cons (pv 0) pa_nil)) pa_nil)))))))))) (pss_one (ps_ret (pv 1))))), ?_⟩
  have k0 : Keep p H0 H0 := Keep.refl _ _
  unfold totP at h
  refine ca rfl (go_fuel (Nat.le_refl n) hR k0 (wp_bind.mp h) ?_)
  intro a r v H1 h1 k1 k2 R1 d1
  refine while_fuel (fun m σ' H' => ∃ (t : Ex) (r : List Tok) (v : V) (sg : Option V), σ' = [some (.ref p), some v, sg] ∧ Keep p H0 H' ∧ RdAt K H' p b r ∧ Dt K H' v t.d ∧ m ≤ n ∧
      (totL m t r).wp (fun a r => ∀ v H', Keep p H0 H' → RdAt K H' p b r → Dt K H' v a.d → Q v H') (fun r => Bad K p H0 E r)) n ?_ ?_ ?_
  · exact ⟨a, r, v, none, rfl, k2, R1, d1, Nat.le_refl _, h1⟩
  · rintro σ' H' ⟨t, r, v, sg, _, _, _, _, _, h⟩
    exact h.elim
  · rintro m σ' H' ⟨t, r, v, sg, rfl, k, R, d, hm, h⟩
    unfold totL at h
    refine me1d R rfl (go_peek R k (wp_ifB.mp h) ?_ ?_)
    · intro c H2 k1 k2 R2 h2
      rw [wp_pure, if_pos rfl] at h2
      refine ⟨_, rfl, iteT ?_⟩
      refine iteT ⟨_, fun σ' H' w' => ⟨m, Nat.lt_succ_self m, w'⟩, ?_⟩
      have dd := dt_keep (k1.kt R) d
      refine me1c R2 rfl (go_skip R2 k2 h2 ?_ ?_)
      · intro c G3 m3 m4 S3 g4
        refine ⟨_, rfl, iteT ⟨_, rfl, _, rfl, ?_⟩⟩
        refine ca rfl (go_fuel (by omega) S3 m4 (wp_bind.mp g4) ?_)
        intro a r v2 G4 g5 m5 m6 S4 d4
        refine ⟨(by show 4 ≤ sizeLine; decide), fun q hq => ?_⟩
        exact ⟨.op .add t a, _, .ref q, _, rfl, m6.trans (same_kp (same_new hq _)), S4.same (same_new hq _), dt_new hq (.cons (.str _) (.cons (.str _) (.cons (dt_keep (m5.kt S3) (dt_keep (m3.kt R2) dd)) (.cons d4 .nil)))), by omega, g5⟩
      · intro c G3 m3 m4 S3 g4
        refine ⟨_, rfl, iteF ?_⟩
        refine me1c S3 rfl (go_expect S3 m4 g4 ?_)
        intro c G4 m5 m6 S4 g5
        refine ⟨_, rfl, _, rfl, ?_⟩
        refine ca rfl (go_fuel (by omega) S4 m6 (wp_bind.mp g5) ?_)
        intro a r v2 G5 g6 m7 m8 S5 d5
        refine ⟨(by show 4 ≤ sizeLine; decide), fun q hq => ?_⟩
        exact ⟨.op .sub t a, _, .ref q, _, rfl, m8.trans (same_kp (same_new hq _)), S5.same (same_new hq _), dt_new hq (.cons (.str _) (.cons (.str _) (.cons (dt_keep (m7.kt S4) (dt_keep (m5.kt S3) (dt_keep (m3.kt R2) dd))) (.cons d5 .nil)))), by omega, g6⟩
    · intro c H2 k1 k2 R2 h2
      refine ⟨_, rfl, iteF ?_⟩
      refine me1d R2 rfl (go_peek R2 k2 (wp_ifB.mpr h2) ?_ ?_)
      · intro c H3 k3 k4 R3 h3
        refine ⟨_, rfl, ?_⟩
        refine iteT ⟨_, fun σ' H' w' => ⟨m, Nat.lt_succ_self m, w'⟩, ?_⟩
        have dd := dt_keep ((k1.trans k3).kt R) d
        refine me1c R3 rfl (go_skip R3 k4 h3 ?_ ?_)
        · intro c G3 m3 m4 S3 g4
          refine ⟨_, rfl, iteT ⟨_, rfl, _, rfl, ?_⟩⟩
          refine ca rfl (go_fuel (by omega) S3 m4 (wp_bind.mp g4) ?_)
          intro a r v2 G4 g5 m5 m6 S4 d4
          refine ⟨(by show 4 ≤ sizeLine; decide), fun q hq => ?_⟩
          exact ⟨.op .add t a, _, .ref q, _, rfl, m6.trans (same_kp (same_new hq _)), S4.same (same_new hq _), dt_new hq (.cons (.str _) (.cons (.str _) (.cons (dt_keep (m5.kt S3) (dt_keep (m3.kt R3) dd)) (.cons d4 .nil)))), by omega, g5⟩
        · intro c G3 m3 m4 S3 g4
          refine ⟨_, rfl, iteF ?_⟩
          refine me1c S3 rfl (go_expect S3 m4 g4 ?_)
          intro c G4 m5 m6 S4 g5
          refine ⟨_, rfl, _, rfl, ?_⟩
          refine ca rfl (go_fuel (by omega) S4 m6 (wp_bind.mp g5) ?_)
          intro a r v2 G5 g6 m7 m8 S5 d5
          refine ⟨(by show 4 ≤ sizeLine; decide), fun q hq => ?_⟩
          exact ⟨.op .sub t a, _, .ref q, _, rfl, m8.trans (same_kp (same_new hq _)), S5.same (same_new hq _), dt_new hq (.cons (.str _) (.cons (.str _) (.cons (dt_keep (m7.kt S4) (dt_keep (m5.kt S3) (dt_keep (m3.kt R3) dd))) (.cons d5 .nil)))), by omega, g6⟩
      · intro c H3 k3 k4 R3 h3
        refine ⟨_, rfl, iteF ⟨_, rfl, ?_⟩⟩
        exact h3 _ _ k4 R3 (dt_keep (k3.kt R2) (dt_keep (k1.kt R) d))
theorem ok_one (T : Tx K mg) (B : RdOk PP w K mg base) (I : EOk PP w K mg base n) : PFn PP w K mg base (n + 5) (a_parse_one K) (fdOf K d_parse_one) (spP K (oneP (n + 1)) Ex.d) := by
  have G_Reader_skip := B.skip
  have G_total := I.tot
  refine (F_parse_one T).ok sc_parse_one (fun vs H Q E h => spP_len h) (fun cdv A outer s H0 vs Q E hr h => ?_)
  obtain ⟨p, b, l, rfl, hR, h⟩ := h
  refine ⟨_, (pss_cons (ps_set (i := 1) sc_parse_one.nd rfl (Or.inl rfl) (pe_call G_total (hr.mono (by omega)) rfl (m_total T) (F_total T).kp (B_total T) .nil (passes_call (takes_of rfl rfl rfl rfl) (fun _ _ _ _ z => z)) (pa_cons (pv 0) pa_nil))) (pss_cons (ps_for (passes_of rfl) rfl (pi_tup (pe_tup (pa_cons pe_str (pa_cons pe_str pa_nil)))) (pg_name (i := 2) sc_parse_one.nd rfl (Or.inl rfl)) (pss_one (ps_if (pt_val (pe_meth (pv 0) (c_Reader T) (mt_skip T) G_Reader_skip (hr.mono (by omega)) (B_Reader_skip T) .nil pass0 (pa_cons (pv 2) pa_nil))) (pss_one (ps_ret (pe_tup (pa_cons pe_str (pa_cons (pv 2) (pa_cons (pv 1) (pa_cons (pe_call G_total (hr.mono (by omega)) rfl (m_total T) (F_total T).kp (B_total T) .nil (passes_call (takes_of rfl rfl rfl rfl) (fun _ _ _ _ z => z)) (pa_cons (pv 0) pa_nil)) pa_nil))))))) pss_nil))) (pss_one (ps_ret (pv 1))))), ?_⟩
  have k0 : Keep p H0 H0 := Keep.refl _ _
  unfold oneP at h
  refine ca rfl (go_fuel (Nat.le_refl n) hR k0 (wp_bind.mp h) ?_)
  intro t r v H1 h1 k1 k2 R1 d1
  refine ⟨(by show 2 ≤ sizeLine; decide), fun q hq => ⟨q, rfl, ⟨_, SqT.of upd_same⟩, ?_⟩⟩
  have sn := same_new hq (.tup [.str "==", .str "<"])
  have d2 := dt_keep (same_kt sn) d1
  have R2 := R1.same sn
  refine for_words (ss := [.eqeq, .lt]) (s0 := [some (.ref p), some v, none]) (j := 2) (g := fun i => match i with
    | 0 => ifB (skipP .eqeq) (bindP (totP n) fun u => pureP (Ex.op .eq t u)) (ifB (skipP .lt) (bindP (totP n) fun u => pureP (Ex.op .lt t u)) (pureP t))
    | 1 => ifB (skipP .lt) (bindP (totP n) fun u => pureP (Ex.op .lt t u)) (pureP t)
    | _ => pureP t)
    (t := fun i => match i with
    | 0 => bindP (totP n) fun u => pureP (Ex.op .eq t u)
    | _ => bindP (totP n) fun u => pureP (Ex.op .lt t u)) (by decide) (by show 2 < 3; decide) rfl ?_ R2 (k2.trans (same_kp sn)) upd_same h1 ?_ ?_ ⟨none, rfl⟩
  · intro i s e
    match i, e with
    | 0, e => cases e; rfl
    | 1, e => cases e; rfl
    | _ + 2, e => cases e
  · intro i s e D' hD H3 k5 k6 R3 h3
    match i, e with
    | 0, e =>
      cases e
      refine ⟨_, rfl, _, rfl, ca rfl (go_fuel (Nat.le_refl n) R3 k6 (wp_bind.mp h3) ?_)⟩
      intro a r v2 H4 h4 k7 k8 R4 d4
      refine ⟨(by show 4 ≤ sizeLine; decide), fun q hq => ?_⟩
      rw [hD]
      exact h4 _ _ (k8.trans (same_kp (same_new hq _))) (R4.same (same_new hq _)) (dt_new hq (.cons (.str _) (.cons (.str _) (.cons (dt_keep (k7.kt R3) (dt_keep (k5.kt R2) d2)) (.cons d4 .nil)))))
    | 1, e =>
      cases e
      refine ⟨_, rfl, _, rfl, ca rfl (go_fuel (Nat.le_refl n) R3 k6 (wp_bind.mp h3) ?_)⟩
      intro a r v2 H4 h4 k7 k8 R4 d4
      refine ⟨(by show 4 ≤ sizeLine; decide), fun q hq => ?_⟩
      rw [hD]
      exact h4 _ _ (k8.trans (same_kp (same_new hq _))) (R4.same (same_new hq _)) (dt_new hq (.cons (.str _) (.cons (.str _) (.cons (dt_keep (k7.kt R3) (dt_keep (k5.kt R2) d2)) (.cons d4 .nil)))))
    | _ + 2, e => cases e
  intro wd H3 k5 k6 R3 h3
  exact ⟨_, rfl, h3 _ _ k6 R3 (dt_keep (k5.kt R2) d2)⟩
/-- all defs of expressions, at every fuel -/
theorem e_ok (T : Tx K mg) : ∀ n, n ≤ 500 → EOk PP w K mg base n
  | 0, _ => ⟨pfn_zero rfl, pfn_zero rfl, pfn_zero rfl, pfn_zero rfl, pfn_zero rfl, pfn_zero rfl, pfn_zero rfl, pfn_zero rfl, pfn_zero rfl⟩
  | n + 1, hn => by
    have I := e_ok T n (Nat.le_of_succ_le hn)
    have B := rd_ok (PP := PP) (w := w) (base := base) T
    exact ⟨pfn_succ I.kind (ok_kind T B I.kind), pfn_succ I.place (ok_place T B I), pfn_succ I.exprs (ok_exprs T B I (Nat.le_of_succ_le hn)), pfn_succ I.prim (ok_prim T B I), pfn_succ I.post (ok_post T B I), pfn_succ I.unary (ok_unary T B I),
      pfn_succ I.prod (ok_prod T B I), pfn_succ I.tot (ok_tot T B I), pfn_succ I.one (ok_one T B I)⟩
end
end Ko
end
section
set_option Elab.async false
set_option linter.all false
set_option maxRecDepth 100000
set_option maxHeartbeats 4000000
/-! The defs of names, pairs, records, variants, statements -/
namespace Ko
open PySem PySem.Spec PyProof.Rows L2
abbrev nmD (xs : List Str) : PyData := .tuple (strD xs)
abbrev psD (xs : List (Str × Kd)) : PyData := .tuple (xs.map pairD)
abbrev tgsD (xs : List (Str × List Kd)) : PyData := .tuple (xs.map tagD)
abbrev blD (xs : List St) : PyData := .tuple (St.ds xs)
theorem strD_snoc (xs : List Str) (x : Str) : strD (xs ++ [x]) = strD xs ++ [.str x] := by unfold strD; rw [List.map_append]; rfl
theorem strD_len (xs : List Str) : (strD xs).length = xs.length := List.length_map _
theorem sds_snoc (xs : List St) (e : St) : St.ds (xs ++ [e]) = St.ds xs ++ [e.d] := by
  rw [St.ds_map, St.ds_map, List.map_append]; rfl
theorem sds_len (xs : List St) : (St.ds xs).length = xs.length := by rw [St.ds_map, List.length_map]
theorem cds_snoc (xs : List Cs) (e : Cs) : Cs.ds (xs ++ [e]) = Cs.ds xs ++ [e.d] := by
  rw [Cs.ds_map, Cs.ds_map, List.map_append]; rfl
theorem cds_len (xs : List Cs) : (Cs.ds xs).length = xs.length := by rw [Cs.ds_map, List.length_map]
section
variable {PP : Program} {w : World} {K : PySem.W.Frag} {mg : Str → Option Value} {base : Heap} {n : Nat}
theorem pfn_all {k : Nat} {a : Addr} {fd : FuncData} {α : Type} {f : Nat → Ko.P α} {enc : α → PyData} (F : ∀ m, m ≤ n → PFn PP w K mg base k a fd (spP K (f m) enc)) : PFn PP w K mg base k a fd (spA K f enc n) :=
  ⟨fun vs H Q E ⟨m, hm, h⟩ => (F m hm).len _ _ _ _ h, fun A outer s H args us vs Q E hr he hb hv ⟨m, hm, h⟩ => (F m hm).run A outer s H args us vs Q E hr he hb hv h⟩
theorem ok_list (T : Tx K mg) (B : RdOk PP w K mg base) (hn : n ≤ 500) : PFn PP w K mg base 5 (a_list K) (fdOf K d_list) (spP K (listP n) nmD) := by
  have G_Reader_skip := B.skip
  have G_Reader_take := B.take
  refine (F_list T).ok sc_list (fun vs H Q E h => spP_len h) (fun cdv A outer s H0 vs Q E hr h => ?_)
  obtain ⟨p, b, l, rfl, hR, h⟩ := h
  refine ⟨_, (pss_cons (ps_set (i := 1) sc_list.nd rfl (Or.inl rfl) (pe_lst (pa_cons (pe_meth (pv 0) (c_Reader T) (mt_take T) G_Reader_take (hr.mono (by omega)) (B_Reader_take T) .nil (passes_call (takes_of rfl rfl rfl rfl) (fun _ _ _ _ z => z)) (pa_cons pe_str pa_nil)) pa_nil))) (pss_cons (ps_while (passes_of rfl) (pt_val (pe_meth (pv 0) (c_Reader T) (mt_skip T) G_Reader_skip (hr.mono (by omega)) (B_Reader_skip T) .nil pass0 (pa_cons pe_str pa_nil))) (pss_one (ps_expr (pe_bm PySem.F.plainAttrs_list PySem.F.slot_list_append PySem.F.type_list_append mt_append (pv 1) (pa_cons (pe_meth (pv 0) (c_Reader T) (mt_take T) G_Reader_take (hr.mono (by omega)) (B_Reader_take T) .nil (passes_call (takes_of rfl rfl rfl rfl) (fun _ _ _ _ z => z)) (pa_cons pe_str pa_nil)) pa_nil))))) (pss_one (ps_ret (pe_callTy call_tuple_of (by rfl) (z_tuple T) (by decide +kernel) (pa_cons (pv 1) pa_nil)))))), ?_⟩
  have k0 : Keep p H0 H0 := Keep.refl _ _
  unfold listP at h
  refine me1c hR rfl (go_name hR k0 h ?_)
  intro x hx H1 k1 k2 R1 h1
  refine ⟨(by show 1 ≤ sizeLine; decide), fun q hq => ?_⟩
  refine while_fuel (fun m σ' H' => ∃ (acc : List Str) (r : List Tok), σ' = [some (.ref p), some (.ref q)] ∧ Lst K H0 H' p b q (strD acc) ∧ Keep p H0 H' ∧ RdAt K H' p b r ∧ m ≤ n ∧ acc.length + m ≤ n + 1 ∧
      (namesL m acc r).wp (fun a r => ∀ v H', Keep p H0 H' → RdAt K H' p b r → Dt K H' v (nmD a) → Q v H') (fun r => Bad K p H0 E r)) n ?_ ?_ ?_
  · exact ⟨[x], _, rfl, lst_new1 hq k2 R1 (.str x), k2.trans (same_kp (same_new hq _)), R1.same (same_new hq _), Nat.le_refl _, by simp; omega, h1⟩
  · rintro σ' H' ⟨acc, r, _, _, _, _, _, _, h⟩
    exact h.elim
  · rintro m σ' H' ⟨acc, r, rfl, L, k, R, hm, hl, h⟩
    unfold namesL at h
    refine me1c R rfl (go_skip R k h ?_ ?_)
    · intro c H2 k1 k2 R2 h2
      have L2 := L.keep k1 R
      refine ⟨_, rfl, iteT ⟨_, fun σ' H' w' => ⟨m, Nat.lt_succ_self m, w'⟩, ?_⟩⟩
      refine ap L2.ty rfl (me1c R2 rfl (go_name R2 k2 h2 ?_))
      intro y hy H3 k3 k4 R3 h3
      refine go_append (L2.keep k3 R2) R3 k4 (.str y) (by rw [strD_len]; exact line_of (by omega)) ?_
      intro H4 L4 k6 _ R4
      exact ⟨acc ++ [y], _, rfl, by rw [strD_snoc]; exact L4, k6, R4, by omega, by simp; omega, h3⟩
    · intro c H2 k1 k2 R2 h2
      refine ⟨_, rfl, iteF ?_⟩
      refine ⟨_, rfl, go_tuple (L.keep k1 R) ?_⟩
      intro v H4 s4 d4
      exact h2 v H4 (k2.trans (same_kp s4)) (R2.same s4) d4
theorem ok_names (T : Tx K mg) (B : RdOk PP w K mg base) (hn : n ≤ 500) : PFn PP w K mg base 6 (a_names K) (fdOf K d_names) (spP K (namesP n) nmD) := by
  have G_Reader_expect := B.exp
  have G_list := ok_list T B hn
  refine (F_names T).ok sc_names (fun vs H Q E h => spP_len h) (fun cdv A outer s H0 vs Q E hr h => ?_)
  obtain ⟨p, b, l, rfl, hR, h⟩ := h
  refine ⟨_, (pss_cons (ps_expr (pe_meth (pv 0) (c_Reader T) (mt_expect T) G_Reader_expect (hr.mono (by omega)) (B_Reader_expect T) .nil (passes_call (takes_of rfl rfl rfl rfl) (fun _ _ _ _ z => z)) (pa_cons pe_str pa_nil))) (pss_cons (ps_set (i := 1) sc_names.nd rfl (Or.inl rfl) (pe_call G_list (hr.mono (by omega)) rfl (m_list T) (F_list T).kp (B_list T) .nil (passes_call (takes_of rfl rfl rfl rfl) (fun _ _ _ _ z => z)) (pa_cons (pv 0) pa_nil))) (pss_cons (ps_expr (pe_meth (pv 0) (c_Reader T) (mt_expect T) G_Reader_expect (hr.mono (by omega)) (B_Reader_expect T) .nil (passes_call (takes_of rfl rfl rfl rfl) (fun _ _ _ _ z => z)) (pa_cons pe_str pa_nil))) (pss_one (ps_ret (pv 1)))))), ?_⟩
  have k0 : Keep p H0 H0 := Keep.refl _ _
  unfold namesP at h
  refine me1c hR rfl (go_expect hR k0 h ?_)
  intro c H1 k1 k2 R1 h1
  refine ca rfl (go_call R1 k2 (wp_bind.mp h1) ?_)
  intro a r v H2 h2 k3 k4 R2 d2
  refine me1c R2 rfl (go_expect R2 k4 h2 ?_)
  intro c H3 k5 k6 R3 h3
  exact ⟨_, rfl, h3 _ _ k6 R3 (dt_keep (k5.kt R2) d2)⟩
/-- the pairs up to a closing sign -/
def spPairs (K : PySem.W.Frag) (n : Nat) : Sp := fun vs H Q E => ∃ p b l s, vs = [.ref p, .str (Sym.txt s)] ∧ RdAt K H p b l ∧
  (pairsL s n [] l).wp (fun a r => ∀ v H', Keep p H H' → RdAt K H' p b r → Dt K H' v (psD a) → Q v H') (fun r => Bad K p H E r)
theorem go_pairs {s : Sym} {H H0 : Hp} {p b : Addr} {l : List Tok} {Q : VK} {E : XK} {ok1 : List (Str × Kd) → List Tok → Prop} (hR : RdAt K H p b l) (k0 : Keep p H0 H) (h : (pairsL s n [] l).wp ok1 (fun r => Bad K p H0 E r))
    (hk : ∀ a r v H', ok1 a r → Keep p H H' → Keep p H0 H' → RdAt K H' p b r → Dt K H' v (psD a) → Q v H') : spPairs K n [.ref p, .str s.txt] H Q E :=
  ⟨p, b, l, s, rfl, hR, Ko.R.mono h (fun a r o v H2 k R d => hk a r v H2 o k (k0.trans k) R d) fun r z => z.keep k0⟩
theorem map_snoc {α : Type} (f : α → PyData) (xs : List α) (x : α) : (xs ++ [x]).map f = xs.map f ++ [f x] := by rw [List.map_append]; rfl
theorem ok_pairs (T : Tx K mg) (B : RdOk PP w K mg base) (I : EOk PP w K mg base n) (hn : n ≤ 500) : FnOk PP w K mg base (L2.CX PP w) (n + 5) (a_pairs K) (fdOf K d_pairs) ["reader", "last"] (spPairs K n) := by
  have G_Reader_skip := B.skip
  have G_Reader_take := B.take
  have G_Reader_expect := B.exp
  have G_parse_kind := I.kind
  refine (F_pairs T).ok sc_pairs (fun vs H Q E h => ?_) (fun cdv A outer s H0 vs Q E hr h => ?_)
  · obtain ⟨p, b, l, sy, rfl, _⟩ := h
    rfl
  obtain ⟨p, b, l, sy, rfl, hR, h⟩ := h
  refine ⟨_, (pss_cons (ps_set (i := 2) sc_pairs.nd rfl (Or.inl rfl) (pe_lst pa_nil)) (pss_cons (ps_while (passes_of rfl) (pt_not (pt_val (pe_meth (pv 0) (c_Reader T) (mt_skip T) G_Reader_skip (hr.mono (by omega)) (B_Reader_skip T) .nil pass0 (pa_cons (pv 1) pa_nil)))) (pss_cons (ps_if (pt_cmpR (op_ne_nilL hr.units0) (pv 2) (pe_lst pa_nil) (nomark _)) (pss_one (ps_expr (pe_meth (pv 0) (c_Reader T) (mt_expect T) G_Reader_expect (hr.mono (by omega)) (B_Reader_expect T) .nil (passes_call (takes_of rfl rfl rfl rfl) (fun _ _ _ _ z => z)) (pa_cons pe_str pa_nil)))) pss_nil) (pss_cons (ps_set (i := 3) sc_pairs.nd rfl (Or.inl rfl) (pe_meth (pv 0) (c_Reader T) (mt_take T) G_Reader_take (hr.mono (by omega)) (B_Reader_take T) .nil (passes_call (takes_of rfl rfl rfl rfl) (fun _ _ _ _ z => z)) (pa_cons pe_str pa_nil))) (pss_cons (ps_expr (pe_meth (pv 0) (c_Reader T) (mt_expect T) G_Reader_expect (hr.mono (by omega)) (B_Reader_expect T) .nil (passes_call (takes_of rfl rfl rfl rfl) (fun _ _ _ _ z => z)) (pa_cons pe_str pa_nil))) (pss_one (ps_expr (pe_bm PySem.F.plainAttrs_list PySem.F.slot_list_append PySem.F.type_list_append mt_append (pv 2) (pa_cons (pe_tup (pa_cons (pv 3) (pa_cons (pe_call G_parse_kind (hr.mono (by omega)) rfl (m_parse_kind T) (F_parse_kind T).kp (B_parse_kind T) .nil (passes_call (takes_of rfl rfl rfl rfl) (fun _ _ _ _ z => z)) (pa_cons (pv 0) pa_nil)) pa_nil))) pa_nil)))))))) (pss_one (ps_ret (pe_callTy call_tuple_of (by rfl) (z_tuple T) (by decide +kernel) (pa_cons (pv 2) pa_nil)))))), ?_⟩
  have k0 : Keep p H0 H0 := Keep.refl _ _
  refine ⟨Nat.zero_le _, fun q hq => ?_⟩
  refine while_fuel (fun m σ' H' => ∃ (acc : List (Str × Kd)) (r : List Tok) (nm : Option V), σ' = [some (.ref p), some (.str sy.txt), some (.ref q), nm] ∧ Lst K H0 H' p b q (acc.map pairD) ∧ Keep p H0 H' ∧ RdAt K H' p b r ∧ m ≤ n ∧ acc.length + m ≤ n ∧
      (pairsL sy m acc r).wp (fun a r => ∀ v H', Keep p H0 H' → RdAt K H' p b r → Dt K H' v (psD a) → Q v H') (fun r => Bad K p H0 E r)) n ?_ ?_ ?_
  · exact ⟨[], _, none, rfl, lst_new hq k0 hR, same_kp (same_new hq _), hR.same (same_new hq _), Nat.le_refl _, by simp, h⟩
  · rintro σ' H' ⟨acc, r, nm, _, _, _, _, _, _, h⟩
    exact h.elim
  · rintro m σ' H' ⟨acc, r, nm, rfl, L, k, R, hm, hl, h⟩
    unfold pairsL at h
    refine me1v R rfl rfl (go_skip R k h ?_ ?_)
    · intro c H2 k1 k2 R2 h2
      refine ⟨_, rfl, iteF ?_⟩
      refine ⟨_, rfl, go_tuple (L.keep k1 R) ?_⟩
      intro v H4 s4 d4
      exact h2 v H4 (k2.trans (same_kp s4)) (R2.same s4) d4
    · intro c H2 k1 k2 R2 h2
      have L2 := L.keep k1 R
      refine ⟨_, rfl, iteT ⟨_, fun σ' H' w' => ⟨m, Nat.lt_succ_self m, w'⟩, ?_⟩⟩
      refine ⟨_, rfl, Nat.zero_le _, fun q2 hq2 => ?_⟩
      have sn := same_new hq2 (.lst [])
      have L3 := L2.same sn
      have R3 := R2.same sn
      have k3 := k2.trans (same_kp sn)
      obtain ⟨n0, n1, n2, vs, hvs, dvs⟩ := id L3
      refine ⟨q, q2, vs, rfl, rfl, SqL.of hvs, SqL.of upd_same, _, rfl, ?_⟩
      have ev : vs.isEmpty = acc.isEmpty := by
        have e := dts_len dvs
        rw [List.length_map] at e
        cases vs <;> cases acc <;> first | rfl | simp at e
      rw [ev]
      cases ea : acc.isEmpty with
      | true =>
        rw [ea, if_pos rfl] at h2
        refine iteF ?_
        refine me1c R3 rfl (go_name R3 k3 h2 ?_)
        intro x hx H4 k4 k5 R4 h4
        refine me1c R4 rfl (go_expect R4 k5 h4 ?_)
        intro c H5 k6 k7 R5 h5
        have L5 := (L3.keep k4 R3).keep k6 R4
        refine ap L5.ty rfl ⟨_, rfl, ca rfl (go_fuel (by omega) R5 k7 (wp_bind.mp h5) ?_)⟩
        intro a r v H6 h6 k8 k9 R6 d6
        refine ⟨(by show 2 ≤ sizeLine; decide), fun q3 hq3 => ?_⟩
        have sn3 := same_new hq3 (.tup [.str x, v])
        refine go_append ((L5.keep k8 R5).same sn3) (R6.same sn3) (k9.trans (same_kp sn3)) (dd := pairD (x, a)) (dt_new hq3 (.cons (.str _) (.cons d6 .nil))) (by rw [List.length_map]; exact line_of (by omega)) ?_
        intro H7 L7 k10 _ R7
        exact ⟨acc ++ [(x, a)], _, _, rfl, by rw [map_snoc]; exact L7, k10, R7, by omega, by simp; omega, h6⟩
      | false =>
        rw [ea, if_neg Bool.false_ne_true] at h2
        refine iteT ?_
        refine me1c R3 rfl (go_expect R3 k3 h2 ?_)
        intro c H3' k3' k3'' R3' h3'
        refine me1c R3' rfl (go_name R3' k3'' h3' ?_)
        intro x hx H4 k4 k5 R4 h4
        refine me1c R4 rfl (go_expect R4 k5 h4 ?_)
        intro c H5 k6 k7 R5 h5
        have L5 := ((L3.keep k3' R3).keep k4 R3').keep k6 R4
        refine ap L5.ty rfl ⟨_, rfl, ca rfl (go_fuel (by omega) R5 k7 (wp_bind.mp h5) ?_)⟩
        intro a r v H6 h6 k8 k9 R6 d6
        refine ⟨(by show 2 ≤ sizeLine; decide), fun q3 hq3 => ?_⟩
        have sn3 := same_new hq3 (.tup [.str x, v])
        refine go_append ((L5.keep k8 R5).same sn3) (R6.same sn3) (k9.trans (same_kp sn3)) (dd := pairD (x, a)) (dt_new hq3 (.cons (.str _) (.cons d6 .nil))) (by rw [List.length_map]; exact line_of (by omega)) ?_
        intro H7 L7 k10 _ R7
        exact ⟨acc ++ [(x, a)], _, _, rfl, by rw [map_snoc]; exact L7, k10, R7, by omega, by simp; omega, h6⟩
theorem ok_record (T : Tx K mg) (B : RdOk PP w K mg base) (I : EOk PP w K mg base n) (hn : n ≤ 500) : PFn PP w K mg base (n + 6) (a_record_tree K) (fdOf K d_record_tree) (spP K (recP n) recD) := by
  have G_Reader_take := B.take
  have G_Reader_expect := B.exp
  have G_Reader_is_next := B.isn
  have G_Reader_fail := B.fail
  have G_pairs := ok_pairs T B I hn
  obtain ⟨ds, vN, bN⟩ := isn T
  refine (F_record_tree T).ok sc_record_tree (fun vs H Q E h => spP_len h) (fun cdv A outer s H0 vs Q E hr h => ?_)
  obtain ⟨p, b, l, rfl, hR, h⟩ := h
  refine ⟨_, (pss_cons (ps_set (i := 1) sc_record_tree.nd rfl (Or.inl rfl) (pe_meth (pv 0) (c_Reader T) (mt_take T) G_Reader_take (hr.mono (by omega)) (B_Reader_take T) .nil (passes_call (takes_of rfl rfl rfl rfl) (fun _ _ _ _ z => z)) (pa_cons pe_str pa_nil))) (pss_cons (ps_expr (pe_meth (pv 0) (c_Reader T) (mt_expect T) G_Reader_expect (hr.mono (by omega)) (B_Reader_expect T) .nil (passes_call (takes_of rfl rfl rfl rfl) (fun _ _ _ _ z => z)) (pa_cons pe_str pa_nil))) (pss_cons (ps_if (pt_val (pe_meth (pv 0) (c_Reader T) (mt_is_next T) G_Reader_is_next (hr.mono (by omega)) bN vN pass0 (pa_cons pe_str pa_nil))) (pss_one (ps_expr (pe_meth0 (pv 0) (c_Reader T) (mt_fail T) G_Reader_fail (hr.mono (by omega)) (B_Reader_fail T) .nil (passes_call (takes_of rfl rfl rfl rfl) (fun _ _ _ _ z => z))))) pss_nil) (pss_one (ps_ret (pe_tup (pa_cons (pv 1) (pa_cons (pe_call G_pairs (hr.mono (by omega)) rfl (m_pairs T) (F_pairs T).kp (B_pairs T) .nil (passes_call (takes_of rfl rfl rfl rfl) (fun _ _ _ _ z => z)) (pa_cons (pv 0) (pa_cons pe_str pa_nil))) pa_nil)))))))), ?_⟩
  have k0 : Keep p H0 H0 := Keep.refl _ _
  unfold recP at h
  refine me1c hR rfl (go_name hR k0 h ?_)
  intro x hx H1 k1 k2 R1 h1
  refine me1c R1 rfl (go_expect R1 k2 h1 ?_)
  intro c H2 k3 k4 R2 h2
  refine me1d R2 rfl (go_peek R2 k4 h2 ?_ ?_)
  · intro c H3 k5 k6 R3 h3
    refine ⟨_, rfl, iteT ?_⟩
    exact me0 R3 rfl ⟨p, b, _, rfl, R3, Bad.keep h3 k6⟩
  · intro c H3 k5 k6 R3 h3
    refine ⟨_, rfl, iteF ⟨_, rfl, ?_⟩⟩
    refine ca2c rfl (go_pairs R3 k6 (wp_bind.mp h3) ?_)
    intro a r v H4 h4 k7 k8 R4 d4
    refine ⟨(by show 2 ≤ sizeLine; decide), fun q hq => ?_⟩
    exact h4 _ _ (k8.trans (same_kp (same_new hq _))) (R4.same (same_new hq _)) (dt_new hq (.cons (.str _) (.cons d4 .nil)))
theorem ok_tag (T : Tx K mg) (B : RdOk PP w K mg base) (I : EOk PP w K mg base n) (hn : n ≤ 500) : PFn PP w K mg base (n + 5) (a_tag K) (fdOf K d_tag) (spP K (tagP n) tagD) := by
  have G_Reader_take := B.take
  have G_Reader_skip := B.skip
  have G_Reader_expect := B.exp
  have G_parse_kind := I.kind
  refine (F_tag T).ok sc_tag (fun vs H Q E h => spP_len h) (fun cdv A outer s H0 vs Q E hr h => ?_)
  obtain ⟨p, b, l, rfl, hR, h⟩ := h
  refine ⟨_, (pss_cons (ps_set (i := 1) sc_tag.nd rfl (Or.inl rfl) (pe_meth (pv 0) (c_Reader T) (mt_take T) G_Reader_take (hr.mono (by omega)) (B_Reader_take T) .nil (passes_call (takes_of rfl rfl rfl rfl) (fun _ _ _ _ z => z)) (pa_cons pe_str pa_nil))) (pss_cons (ps_set (i := 2) sc_tag.nd rfl (Or.inl rfl) (pe_lst pa_nil)) (pss_cons (ps_if (pt_val (pe_meth (pv 0) (c_Reader T) (mt_skip T) G_Reader_skip (hr.mono (by omega)) (B_Reader_skip T) .nil pass0 (pa_cons pe_str pa_nil))) (pss_cons (ps_expr (pe_bm PySem.F.plainAttrs_list PySem.F.slot_list_append PySem.F.type_list_append mt_append (pv 2) (pa_cons (pe_call G_parse_kind (hr.mono (by omega)) rfl (m_parse_kind T) (F_parse_kind T).kp (B_parse_kind T) .nil (passes_call (takes_of rfl rfl rfl rfl) (fun _ _ _ _ z => z)) (pa_cons (pv 0) pa_nil)) pa_nil))) (pss_cons (ps_while (passes_of rfl) (pt_val (pe_meth (pv 0) (c_Reader T) (mt_skip T) G_Reader_skip (hr.mono (by omega)) (B_Reader_skip T) .nil pass0 (pa_cons pe_str pa_nil))) (pss_one (ps_expr (pe_bm PySem.F.plainAttrs_list PySem.F.slot_list_append PySem.F.type_list_append mt_append (pv 2) (pa_cons (pe_call G_parse_kind (hr.mono (by omega)) rfl (m_parse_kind T) (F_parse_kind T).kp (B_parse_kind T) .nil (passes_call (takes_of rfl rfl rfl rfl) (fun _ _ _ _ z => z)) (pa_cons (pv 0) pa_nil)) pa_nil))))) (pss_one (ps_expr (pe_meth (pv 0) (c_Reader T) (mt_expect T) G_Reader_expect (hr.mono (by omega)) (B_Reader_expect T) .nil (passes_call (takes_of rfl rfl rfl rfl) (fun _ _ _ _ z => z)) (pa_cons pe_str pa_nil)))))) pss_nil) (pss_one (ps_ret (pe_tup (pa_cons (pv 1) (pa_cons (pe_callTy call_tuple_of (by rfl) (z_tuple T) (by decide +kernel) (pa_cons (pv 2) pa_nil)) pa_nil)))))))), ?_⟩
  have k0 : Keep p H0 H0 := Keep.refl _ _
  unfold tagP at h
  refine me1c hR rfl (go_name hR k0 h ?_)
  intro x hx H1 k1 k2 R1 h1
  refine ⟨Nat.zero_le _, fun q hq => ?_⟩
  have sn := same_new hq (.lst [])
  have L1 : Lst K H0 (upd H1 q (.lst [])) p b q (([] : List Kd).map Kd.d) := lst_new hq k2 R1
  have R1' := R1.same sn
  have k2' := k2.trans (same_kp sn)
  refine me1c R1' rfl (go_skip R1' k2' (wp_bind.mp h1) ?_ ?_)
  · intro c H2 k3 k4 R2 h2
    have L2 := L1.keep k3 R1'
    refine ⟨_, rfl, iteT ?_⟩
    refine ap L2.ty rfl (ca rfl (go_fuel (Nat.le_refl n) R2 k4 (wp_bind.mp h2) ?_))
    intro a r v H3 h3 k5 k6 R3 d3
    refine go_append (L2.keep k5 R2) R3 k6 d3 (by decide) ?_
    intro H4 L4 k7 _ R4
    refine while_fuel (fun m σ' H' => ∃ (acc : List Kd) (r : List Tok), σ' = [some (.ref p), some (.str x), some (.ref q)] ∧ Lst K H0 H' p b q (acc.map Kd.d) ∧ Keep p H0 H' ∧ RdAt K H' p b r ∧ m ≤ n ∧ acc.length + m ≤ n + 1 ∧
      (kindsL m acc r).wp (fun ks r => (bindP (expectP .rpar) (fun _ => pureP ks) r).wp (fun ks r => (pureP (x, ks) r).wp (fun a r => ∀ v H', Keep p H0 H' → RdAt K H' p b r → Dt K H' v (tagD a) → Q v H') (fun r => Bad K p H0 E r)) (fun r => Bad K p H0 E r)) (fun r => Bad K p H0 E r)) n ?_ ?_ ?_
    · exact ⟨[a], r, rfl, L4, k7, R4, Nat.le_refl _, by simp; omega, wp_bind.mp h3⟩
    · rintro σ' H' ⟨acc, r, _, _, _, _, _, _, h⟩
      exact h.elim
    · rintro m σ' H' ⟨acc, r, rfl, L, k, R, hm, hl, h⟩
      unfold kindsL at h
      refine me1c R rfl (go_skip R k h ?_ ?_)
      · intro c H2 k1 k2 R2 h2
        have L2 := L.keep k1 R
        refine ⟨_, rfl, iteT ⟨_, fun σ' H' w' => ⟨m, Nat.lt_succ_self m, w'⟩, ?_⟩⟩
        refine ap L2.ty rfl (ca rfl (go_fuel (by omega) R2 k2 (wp_bind.mp h2) ?_))
        intro a r v H3 h3 k4 k5 R3 d3
        refine go_append (L2.keep k4 R2) R3 k5 d3 (by rw [List.length_map]; exact line_of (by omega)) ?_
        intro H4 L4 k6 _ R4
        exact ⟨acc ++ [a], r, rfl, by rw [map_snoc]; exact L4, k6, R4, by omega, by simp; omega, h3⟩
      · intro c H2 k1 k2 R2 h2
        have L2 := L.keep k1 R
        refine ⟨_, rfl, iteF ?_⟩
        refine me1c R2 rfl (go_expect R2 k2 (wp_pure.mp h2) ?_)
        intro c H3 k4 k5 R3 h3
        refine ⟨_, rfl, tpl (L2.keep k4 R2) rfl ?_⟩
        intro v H4 s4 d4
        refine ⟨(by show 2 ≤ sizeLine; decide), fun q hq => ?_⟩
        exact h3 _ _ ((k5.trans (same_kp s4)).trans (same_kp (same_new hq _))) ((R3.same s4).same (same_new hq _)) (dt_new hq (.cons (.str _) (.cons d4 .nil)))
  · intro c H2 k3 k4 R2 h2
    have L2 := L1.keep k3 R1'
    refine ⟨_, rfl, iteF ?_⟩
    refine ⟨_, rfl, tpl L2 rfl ?_⟩
    intro v H4 s4 d4
    refine ⟨(by show 2 ≤ sizeLine; decide), fun q hq => ?_⟩
    exact h2 _ _ ((k4.trans (same_kp s4)).trans (same_kp (same_new hq _))) ((R2.same s4).same (same_new hq _)) (dt_new hq (.cons (.str _) (.cons d4 .nil)))
theorem ok_tags (T : Tx K mg) (B : RdOk PP w K mg base) (hI : ∀ m, EOk PP w K mg base m) (hn : n ≤ 500) : PFn PP w K mg base (n + 5) (a_tag K) (fdOf K d_tag) (spA K tagP tagD n) :=
  pfn_all fun m hm => (ok_tag T B (hI m) (by omega)).mono (by omega)
theorem ok_variant (T : Tx K mg) (B : RdOk PP w K mg base) (hT : PFn PP w K mg base (n + 5) (a_tag K) (fdOf K d_tag) (spA K tagP tagD n)) (hn : n ≤ 500) : PFn PP w K mg base (n + 6) (a_variant K) (fdOf K d_variant) (spP K (varP n) varD) := by
  have G_Reader_take := B.take
  have G_Reader_skip := B.skip
  have G_Reader_expect := B.exp
  have G_tag := hT
  refine (F_variant T).ok sc_variant (fun vs H Q E h => spP_len h) (fun cdv A outer s H0 vs Q E hr h => ?_)
  obtain ⟨p, b, l, rfl, hR, h⟩ := h
  refine ⟨_, (pss_cons (ps_set (i := 1) sc_variant.nd rfl (Or.inl rfl) (pe_meth (pv 0) (c_Reader T) (mt_take T) G_Reader_take (hr.mono (by omega)) (B_Reader_take T) .nil (passes_call (takes_of rfl rfl rfl rfl) (fun _ _ _ _ z => z)) (pa_cons pe_str pa_nil))) (pss_cons (ps_expr (pe_meth (pv 0) (c_Reader T) (mt_expect T) G_Reader_expect (hr.mono (by omega)) (B_Reader_expect T) .nil (passes_call (takes_of rfl rfl rfl rfl) (fun _ _ _ _ z => z)) (pa_cons pe_str pa_nil))) (pss_cons (ps_set (i := 2) sc_variant.nd rfl (Or.inl rfl) (pe_lst (pa_cons (pe_call G_tag (hr.mono (by omega)) rfl (m_tag T) (F_tag T).kp (B_tag T) .nil (passes_call (takes_of rfl rfl rfl rfl) (fun _ _ _ _ z => z)) (pa_cons (pv 0) pa_nil)) pa_nil))) (pss_cons (ps_while (passes_of rfl) (pt_val (pe_meth (pv 0) (c_Reader T) (mt_skip T) G_Reader_skip (hr.mono (by omega)) (B_Reader_skip T) .nil pass0 (pa_cons pe_str pa_nil))) (pss_one (ps_expr (pe_bm PySem.F.plainAttrs_list PySem.F.slot_list_append PySem.F.type_list_append mt_append (pv 2) (pa_cons (pe_call G_tag (hr.mono (by omega)) rfl (m_tag T) (F_tag T).kp (B_tag T) .nil (passes_call (takes_of rfl rfl rfl rfl) (fun _ _ _ _ z => z)) (pa_cons (pv 0) pa_nil)) pa_nil))))) (pss_cons (ps_expr (pe_meth (pv 0) (c_Reader T) (mt_expect T) G_Reader_expect (hr.mono (by omega)) (B_Reader_expect T) .nil (passes_call (takes_of rfl rfl rfl rfl) (fun _ _ _ _ z => z)) (pa_cons pe_str pa_nil))) (pss_one (ps_ret (pe_tup (pa_cons (pv 1) (pa_cons (pe_callTy call_tuple_of (by rfl) (z_tuple T) (by decide +kernel) (pa_cons (pv 2) pa_nil)) pa_nil)))))))))), ?_⟩
  have k0 : Keep p H0 H0 := Keep.refl _ _
  unfold varP at h
  refine me1c hR rfl (go_name hR k0 h ?_)
  intro x hx H1 k1 k2 R1 h1
  refine me1c R1 rfl (go_expect R1 k2 h1 ?_)
  intro c H2 k3 k4 R2 h2
  refine ca rfl (go_fuel (Nat.le_refl n) R2 k4 (wp_bind.mp h2) ?_)
  intro a r v H3 h3 k5 k6 R3 d3
  refine ⟨(by show 1 ≤ sizeLine; decide), fun q hq => ?_⟩
  refine while_fuel (fun m σ' H' => ∃ (acc : List (Str × List Kd)) (r : List Tok), σ' = [some (.ref p), some (.str x), some (.ref q)] ∧ Lst K H0 H' p b q (acc.map tagD) ∧ Keep p H0 H' ∧ RdAt K H' p b r ∧ m ≤ n ∧ acc.length + m ≤ n + 1 ∧
      (tagsL m acc r).wp (fun ts r => (bindP (expectP .rbrace) (fun _ => pureP (x, ts)) r).wp (fun a r => ∀ v H', Keep p H0 H' → RdAt K H' p b r → Dt K H' v (varD a) → Q v H') (fun r => Bad K p H0 E r)) (fun r => Bad K p H0 E r)) n ?_ ?_ ?_
  · exact ⟨[a], r, rfl, lst_new1 hq k6 R3 d3, k6.trans (same_kp (same_new hq _)), R3.same (same_new hq _), Nat.le_refl _, by simp; omega, wp_bind.mp h3⟩
  · rintro σ' H' ⟨acc, r, _, _, _, _, _, _, h⟩
    exact h.elim
  · rintro m σ' H' ⟨acc, r, rfl, L, k, R, hm, hl, h⟩
    unfold tagsL at h
    refine me1c R rfl (go_skip R k h ?_ ?_)
    · intro c H2 k1 k2 R2 h2
      have L2 := L.keep k1 R
      refine ⟨_, rfl, iteT ⟨_, fun σ' H' w' => ⟨m, Nat.lt_succ_self m, w'⟩, ?_⟩⟩
      refine ap L2.ty rfl (ca rfl (go_fuel (by omega) R2 k2 (wp_bind.mp h2) ?_))
      intro a r v H3 h3 k4 k5 R3 d3
      refine go_append (L2.keep k4 R2) R3 k5 d3 (by rw [List.length_map]; exact line_of (by omega)) ?_
      intro H4 L4 k6 _ R4
      exact ⟨acc ++ [a], r, rfl, by rw [map_snoc]; exact L4, k6, R4, by omega, by simp; omega, h3⟩
    · intro c H2 k1 k2 R2 h2
      have L2 := L.keep k1 R
      refine ⟨_, rfl, iteF ?_⟩
      refine me1c R2 rfl (go_expect R2 k2 (wp_pure.mp h2) ?_)
      intro c H3 k4 k5 R3 h3
      refine ⟨_, rfl, tpl (L2.keep k4 R2) rfl ?_⟩
      intro v H4 s4 d4
      refine ⟨(by show 2 ≤ sizeLine; decide), fun q hq => ?_⟩
      exact h3 _ _ ((k5.trans (same_kp s4)).trans (same_kp (same_new hq _))) ((R3.same s4).same (same_new hq _)) (dt_new hq (.cons (.str _) (.cons d4 .nil)))
theorem ok_let (T : Tx K mg) (B : RdOk PP w K mg base) (I : EOk PP w K mg base n) : PFn PP w K mg base (n + 7) (a_let K) (fdOf K d_let) (spP K (letP n) St.d) := by
  have G_Reader_take := B.take
  have G_Reader_expect := B.exp
  have G_parse_kind := I.kind
  have G_parse_one := I.one
  refine (F_let T).ok sc_let (fun vs H Q E h => spP_len h) (fun cdv A outer s H0 vs Q E hr h => ?_)
  obtain ⟨p, b, l, rfl, hR, h⟩ := h
  refine ⟨_, (pss_cons (ps_set (i := 1) sc_let.nd rfl (Or.inl rfl) (pe_meth (pv 0) (c_Reader T) (mt_take T) G_Reader_take (hr.mono (by omega)) (B_Reader_take T) .nil (passes_call (takes_of rfl rfl rfl rfl) (fun _ _ _ _ z => z)) (pa_cons pe_str pa_nil))) (pss_cons (ps_expr (pe_meth (pv 0) (c_Reader T) (mt_expect T) G_Reader_expect (hr.mono (by omega)) (B_Reader_expect T) .nil (passes_call (takes_of rfl rfl rfl rfl) (fun _ _ _ _ z => z)) (pa_cons pe_str pa_nil))) (pss_cons (ps_set (i := 2) sc_let.nd rfl (Or.inl rfl) (pe_call G_parse_kind (hr.mono (by omega)) rfl (m_parse_kind T) (F_parse_kind T).kp (B_parse_kind T) .nil (passes_call (takes_of rfl rfl rfl rfl) (fun _ _ _ _ z => z)) (pa_cons (pv 0) pa_nil))) (pss_cons (ps_expr (pe_meth (pv 0) (c_Reader T) (mt_expect T) G_Reader_expect (hr.mono (by omega)) (B_Reader_expect T) .nil (passes_call (takes_of rfl rfl rfl rfl) (fun _ _ _ _ z => z)) (pa_cons pe_str pa_nil))) (pss_one (ps_ret (pe_tup (pa_cons pe_str (pa_cons (pv 1) (pa_cons (pv 2) (pa_cons (pe_call G_parse_one (hr.mono (by omega)) rfl (m_parse_one T) (F_parse_one T).kp (B_parse_one T) .nil (passes_call (takes_of rfl rfl rfl rfl) (fun _ _ _ _ z => z)) (pa_cons (pv 0) pa_nil)) pa_nil))))))))))), ?_⟩
  have k0 : Keep p H0 H0 := Keep.refl _ _
  unfold letP at h
  refine me1c hR rfl (go_name hR k0 h ?_)
  intro x hx H1 k1 k2 R1 h1
  refine me1c R1 rfl (go_expect R1 k2 h1 ?_)
  intro c H2 k3 k4 R2 h2
  refine ca rfl (go_fuel (Nat.le_refl n) R2 k4 (wp_bind.mp h2) ?_)
  intro a r v H3 h3 k5 k6 R3 d3
  refine me1c R3 rfl (go_expect R3 k6 h3 ?_)
  intro c H4 k7 k8 R4 h4
  refine ⟨_, rfl, _, rfl, ?_⟩
  refine ca rfl (go_fuel (Nat.le_refl n) R4 k8 (wp_bind.mp h4) ?_)
  intro e r v2 H5 h5 k9 k10 R5 d5
  refine ⟨(by show 4 ≤ sizeLine; decide), fun q hq => ?_⟩
  exact h5 _ _ (k10.trans (same_kp (same_new hq _))) (R5.same (same_new hq _)) (dt_new hq (.cons (.str _) (.cons (.str _) (.cons (dt_keep (k9.kt R4) (dt_keep (k7.kt R3) d3)) (.cons d5 .nil)))))
theorem ok_open (T : Tx K mg) (B : RdOk PP w K mg base) (I : EOk PP w K mg base n) (hn : n ≤ 500) : PFn PP w K mg base (n + 7) (a_open K) (fdOf K d_open) (spP K (openP n) St.d) := by
  have G_Reader_expect := B.exp
  have G_parse_one := I.one
  have G_names := ok_names T B hn
  refine (F_open T).ok sc_open (fun vs H Q E h => spP_len h) (fun cdv A outer s H0 vs Q E hr h => ?_)
  obtain ⟨p, b, l, rfl, hR, h⟩ := h
  refine ⟨_, (pss_cons (ps_set (i := 1) sc_open.nd rfl (Or.inl rfl) (pe_call G_parse_one (hr.mono (by omega)) rfl (m_parse_one T) (F_parse_one T).kp (B_parse_one T) .nil (passes_call (takes_of rfl rfl rfl rfl) (fun _ _ _ _ z => z)) (pa_cons (pv 0) pa_nil))) (pss_cons (ps_expr (pe_meth (pv 0) (c_Reader T) (mt_expect T) G_Reader_expect (hr.mono (by omega)) (B_Reader_expect T) .nil (passes_call (takes_of rfl rfl rfl rfl) (fun _ _ _ _ z => z)) (pa_cons pe_str pa_nil))) (pss_one (ps_ret (pe_tup (pa_cons pe_str (pa_cons (pv 1) (pa_cons (pe_call G_names (hr.mono (by omega)) rfl (m_names T) (F_names T).kp (B_names T) .nil (passes_call (takes_of rfl rfl rfl rfl) (fun _ _ _ _ z => z)) (pa_cons (pv 0) pa_nil)) pa_nil)))))))), ?_⟩
  have k0 : Keep p H0 H0 := Keep.refl _ _
  unfold openP at h
  refine ca rfl (go_fuel (Nat.le_refl n) hR k0 (wp_bind.mp h) ?_)
  intro e r v H1 h1 k1 k2 R1 d1
  refine me1c R1 rfl (go_expect R1 k2 h1 ?_)
  intro c H2 k3 k4 R2 h2
  refine ⟨_, rfl, ?_⟩
  refine ca rfl (go_call R2 k4 (wp_bind.mp h2) ?_)
  intro a r v2 H3 h3 k5 k6 R3 d3
  refine ⟨(by show 3 ≤ sizeLine; decide), fun q hq => ?_⟩
  exact h3 _ _ (k6.trans (same_kp (same_new hq _))) (R3.same (same_new hq _)) (dt_new hq (.cons (.str _) (.cons (dt_keep (k5.kt R2) (dt_keep (k3.kt R1) d1)) (.cons d3 .nil))))
theorem ok_push (T : Tx K mg) (B : RdOk PP w K mg base) (I : EOk PP w K mg base n) : PFn PP w K mg base (n + 7) (a_push K) (fdOf K d_push) (spP K (pushP n) St.d) := by
  have G_Reader_expect := B.exp
  have G_parse_one := I.one
  have G_parse_place := I.place
  refine (F_push T).ok sc_push (fun vs H Q E h => spP_len h) (fun cdv A outer s H0 vs Q E hr h => ?_)
  obtain ⟨p, b, l, rfl, hR, h⟩ := h
  refine ⟨_, (pss_cons (ps_expr (pe_meth (pv 0) (c_Reader T) (mt_expect T) G_Reader_expect (hr.mono (by omega)) (B_Reader_expect T) .nil (passes_call (takes_of rfl rfl rfl rfl) (fun _ _ _ _ z => z)) (pa_cons pe_str pa_nil))) (pss_cons (ps_set (i := 1) sc_push.nd rfl (Or.inl rfl) (pe_call G_parse_place (hr.mono (by omega)) rfl (m_parse_place T) (F_parse_place T).kp (B_parse_place T) .nil (passes_call (takes_of rfl rfl rfl rfl) (fun _ _ _ _ z => z)) (pa_cons (pv 0) pa_nil))) (pss_cons (ps_expr (pe_meth (pv 0) (c_Reader T) (mt_expect T) G_Reader_expect (hr.mono (by omega)) (B_Reader_expect T) .nil (passes_call (takes_of rfl rfl rfl rfl) (fun _ _ _ _ z => z)) (pa_cons pe_str pa_nil))) (pss_cons (ps_set (i := 2) sc_push.nd rfl (Or.inl rfl) (pe_call G_parse_one (hr.mono (by omega)) rfl (m_parse_one T) (F_parse_one T).kp (B_parse_one T) .nil (passes_call (takes_of rfl rfl rfl rfl) (fun _ _ _ _ z => z)) (pa_cons (pv 0) pa_nil))) (pss_cons (ps_expr (pe_meth (pv 0) (c_Reader T) (mt_expect T) G_Reader_expect (hr.mono (by omega)) (B_Reader_expect T) .nil (passes_call (takes_of rfl rfl rfl rfl) (fun _ _ _ _ z => z)) (pa_cons pe_str pa_nil))) (pss_one (ps_ret (pe_tup (pa_cons pe_str (pa_cons (pv 1) (pa_cons (pv 2) pa_nil))))))))))), ?_⟩
  have k0 : Keep p H0 H0 := Keep.refl _ _
  unfold pushP at h
  refine me1c hR rfl (go_expect hR k0 h ?_)
  intro c H1 k1 k2 R1 h1
  refine ca rfl (go_fuel (Nat.le_refl n) R1 k2 (wp_bind.mp h1) ?_)
  intro e r v H2 h2 k3 k4 R2 d2
  refine me1c R2 rfl (go_expect R2 k4 h2 ?_)
  intro c H3 k5 k6 R3 h3
  refine ca rfl (go_fuel (Nat.le_refl n) R3 k6 (wp_bind.mp h3) ?_)
  intro a r v2 H4 h4 k7 k8 R4 d4
  refine me1c R4 rfl (go_expect R4 k8 h4 ?_)
  intro c H5 k9 k10 R5 h5
  refine ⟨_, rfl, _, rfl, (by show 3 ≤ sizeLine; decide), fun q hq => ?_⟩
  exact h5 _ _ (k10.trans (same_kp (same_new hq _))) (R5.same (same_new hq _)) (dt_new hq (.cons (.str _) (.cons (dt_keep (k9.kt R4) (dt_keep (k7.kt R3) (dt_keep (k5.kt R2) d2))) (.cons (dt_keep (k9.kt R4) d4) .nil))))
theorem ok_take (T : Tx K mg) (B : RdOk PP w K mg base) (I : EOk PP w K mg base n) : PFn PP w K mg base (n + 7) (a_take K) (fdOf K d_take) (spP K (takeP n) St.d) := by
  have G_Reader_take := B.take
  have G_Reader_expect := B.exp
  have G_parse_place := I.place
  refine (F_take T).ok sc_take (fun vs H Q E h => spP_len h) (fun cdv A outer s H0 vs Q E hr h => ?_)
  obtain ⟨p, b, l, rfl, hR, h⟩ := h
  refine ⟨_, (pss_cons (ps_expr (pe_meth (pv 0) (c_Reader T) (mt_expect T) G_Reader_expect (hr.mono (by omega)) (B_Reader_expect T) .nil (passes_call (takes_of rfl rfl rfl rfl) (fun _ _ _ _ z => z)) (pa_cons pe_str pa_nil))) (pss_cons (ps_set (i := 1) sc_take.nd rfl (Or.inl rfl) (pe_call G_parse_place (hr.mono (by omega)) rfl (m_parse_place T) (F_parse_place T).kp (B_parse_place T) .nil (passes_call (takes_of rfl rfl rfl rfl) (fun _ _ _ _ z => z)) (pa_cons (pv 0) pa_nil))) (pss_cons (ps_expr (pe_meth (pv 0) (c_Reader T) (mt_expect T) G_Reader_expect (hr.mono (by omega)) (B_Reader_expect T) .nil (passes_call (takes_of rfl rfl rfl rfl) (fun _ _ _ _ z => z)) (pa_cons pe_str pa_nil))) (pss_cons (ps_expr (pe_meth (pv 0) (c_Reader T) (mt_expect T) G_Reader_expect (hr.mono (by omega)) (B_Reader_expect T) .nil (passes_call (takes_of rfl rfl rfl rfl) (fun _ _ _ _ z => z)) (pa_cons pe_str pa_nil))) (pss_one (ps_ret (pe_tup (pa_cons pe_str (pa_cons (pv 1) (pa_cons (pe_meth (pv 0) (c_Reader T) (mt_take T) G_Reader_take (hr.mono (by omega)) (B_Reader_take T) .nil (passes_call (takes_of rfl rfl rfl rfl) (fun _ _ _ _ z => z)) (pa_cons pe_str pa_nil)) pa_nil)))))))))), ?_⟩
  have k0 : Keep p H0 H0 := Keep.refl _ _
  unfold takeP at h
  refine me1c hR rfl (go_expect hR k0 h ?_)
  intro c H1 k1 k2 R1 h1
  refine ca rfl (go_fuel (Nat.le_refl n) R1 k2 (wp_bind.mp h1) ?_)
  intro e r v H2 h2 k3 k4 R2 d2
  refine me1c R2 rfl (go_expect R2 k4 h2 ?_)
  intro c H3 k5 k6 R3 h3
  refine me1c R3 rfl (go_expect R3 k6 h3 ?_)
  intro c H4 k7 k8 R4 h4
  refine ⟨_, rfl, ?_⟩
  refine me1c R4 rfl (go_name R4 k8 h4 ?_)
  intro x hx H5 k9 k10 R5 h5
  refine ⟨(by show 3 ≤ sizeLine; decide), fun q hq => ?_⟩
  exact h5 _ _ (k10.trans (same_kp (same_new hq _))) (R5.same (same_new hq _)) (dt_new hq (.cons (.str _) (.cons (dt_keep (k9.kt R4) (dt_keep (k7.kt R3) (dt_keep (k5.kt R2) d2))) (.cons (.str _) .nil))))
theorem tag_call (e : Ex) : decide (V.str e.tag = V.str "call") = e.isCall := by
  cases e with
  | num _ => show decide (V.str "num" = V.str "call") = false; decide +kernel
  | name _ => show decide (V.str "name" = V.str "call") = false; decide +kernel
  | truth _ => show decide (V.str "truth" = V.str "call") = false; decide +kernel
  | op _ _ _ => show decide (V.str "op" = V.str "call") = false; decide +kernel
  | un u _ => show decide (V.str u.txt = V.str "call") = false; cases u <;> decide +kernel
  | rf r p => show decide (V.str r.txt = V.str "call") = false; cases r <;> decide +kernel
  | field _ _ => show decide (V.str "field" = V.str "call") = false; decide +kernel
  | index _ _ => show decide (V.str "index" = V.str "call") = false; decide +kernel
  | call _ _ => show decide (V.str "call" = V.str "call") = true; decide +kernel
  | len _ => show decide (V.str "len" = V.str "call") = false; decide +kernel
  | vec _ => show decide (V.str "vec" = V.str "call") = false; decide +kernel
theorem ok_place_or_call (T : Tx K mg) (B : RdOk PP w K mg base) (I : EOk PP w K mg base n) : PFn PP w K mg base (n + 7) (a_place_or_call K) (fdOf K d_place_or_call) (spP K (setP n) St.d) := by
  have G_Reader_kind := B.kind
  have G_Reader_fail := B.fail
  have G_Reader_is_next := B.isn
  have G_Reader_expect := B.exp
  have G_parse_place := I.place
  have G_parse_postfix := I.post
  have G_parse_one := I.one
  have G_need_place := ok_need T B
  obtain ⟨ds, vN, bN⟩ := isn T
  refine (F_place_or_call T).ok sc_place_or_call (fun vs H Q E h => spP_len h) (fun cdv A outer s H0 vs Q E hr h => ?_)
  obtain ⟨p, b, l, rfl, hR, h⟩ := h
  refine ⟨_, (pss_cons (ps_if (pt_val (pe_meth (pv 0) (c_Reader T) (mt_is_next T) G_Reader_is_next (hr.mono (by omega)) bN vN pass0 (pa_cons pe_str pa_nil))) (pss_one (ps_set (i := 1) sc_place_or_call.nd rfl (Or.inl rfl) (pe_call G_parse_place (hr.mono (by omega)) rfl (m_parse_place T) (F_parse_place T).kp (B_parse_place T) .nil (passes_call (takes_of rfl rfl rfl rfl) (fun _ _ _ _ z => z)) (pa_cons (pv 0) pa_nil)))) (pss_one (ps_if (PW.pt (pw_or (pt_cmpR op_eq (pe_meth0 (pv 0) (c_Reader T) (mt_kind T) G_Reader_kind (hr.mono (by omega)) (B_Reader_kind T) .nil pass0) pe_str (nomark _)) (pw_or1 (pt_val (pe_meth (pv 0) (c_Reader T) (mt_is_next T) G_Reader_is_next (hr.mono (by omega)) bN vN pass0 (pa_cons pe_str pa_nil)))))) (pss_one (ps_set (i := 1) sc_place_or_call.nd rfl (Or.inl rfl) (pe_call G_parse_postfix (hr.mono (by omega)) rfl (m_parse_postfix T) (F_parse_postfix T).kp (B_parse_postfix T) .nil (passes_call (takes_of rfl rfl rfl rfl) (fun _ _ _ _ z => z)) (pa_cons (pv 0) pa_nil)))) (pss_one (ps_expr (pe_meth0 (pv 0) (c_Reader T) (mt_fail T) G_Reader_fail (hr.mono (by omega)) (B_Reader_fail T) .nil (passes_call (takes_of rfl rfl rfl rfl) (fun _ _ _ _ z => z)))))))) (pss_cons (ps_if (pt_cmpR op_eq (pe_ix ix_tup (pv 1) pe_int (fun _ _ => rfl)) pe_str (nomark _)) (pss_one (ps_ret (pe_tup (pa_cons pe_str (pa_cons (pv 1) pa_nil))))) pss_nil) (pss_cons (ps_expr (pe_call G_need_place (hr.mono (by omega)) rfl (m_need_place T) (F_need_place T).kp (B_need_place T) .nil (passes_call (takes_of rfl rfl rfl rfl) (fun _ _ _ _ z => z)) (pa_cons (pv 0) (pa_cons (pv 1) pa_nil)))) (pss_cons (ps_expr (pe_meth (pv 0) (c_Reader T) (mt_expect T) G_Reader_expect (hr.mono (by omega)) (B_Reader_expect T) .nil (passes_call (takes_of rfl rfl rfl rfl) (fun _ _ _ _ z => z)) (pa_cons pe_str pa_nil))) (pss_one (ps_ret (pe_tup (pa_cons pe_str (pa_cons (pv 1) (pa_cons (pe_call G_parse_one (hr.mono (by omega)) rfl (m_parse_one T) (F_parse_one T).kp (B_parse_one T) .nil (passes_call (takes_of rfl rfl rfl rfl) (fun _ _ _ _ z => z)) (pa_cons (pv 0) pa_nil)) pa_nil)))))))))), ?_⟩
  have k0 : Keep p H0 H0 := Keep.refl _ _
  unfold setP at h
  refine me1d hR rfl (go_peek hR k0 (wp_bind.mp h) ?_ ?_)
  · intro c H1 k1 k2 R1 h1
    refine ⟨_, rfl, iteT ?_⟩
    refine ca rfl (go_fuel (Nat.le_refl n) R1 k2 h1 ?_)
    intro e r v H2 h2 k3 k4 R2 d2
    obtain ⟨ta, xs, ev, hs, hz⟩ := ex_first d2
    refine ⟨_, rfl, ta, xs, 0, _, ev, rfl, hs, atI_nat hz, rfl, _, rfl, ?_⟩
    rw [tag_call]
    cases ec : Ex.isCall e with
    | true =>
      rw [ec, if_pos rfl] at h2
      refine iteT ⟨_, rfl, (by show 2 ≤ sizeLine; decide), fun q hq => ?_⟩
      exact h2 _ _ (k4.trans (same_kp (same_new hq _))) (R2.same (same_new hq _)) (dt_new hq (.cons (.str _) (.cons d2 .nil)))
    | false =>
      rw [ec, if_neg Bool.false_ne_true] at h2
      refine iteF ?_
      refine ca2 rfl rfl (go_need R2 k4 d2 h2 ?_)
      intro c g1
      refine me1c R2 rfl (go_expect R2 k4 g1 ?_)
      intro c G2 m1 m2 S2 g2
      refine ⟨_, rfl, ?_⟩
      refine ca rfl (go_fuel (Nat.le_refl n) S2 m2 (wp_bind.mp g2) ?_)
      intro a r v2 G3 g3 m3 m4 S3 d9
      refine ⟨(by show 3 ≤ sizeLine; decide), fun q hq => ?_⟩
      exact g3 _ _ (m4.trans (same_kp (same_new hq _))) (S3.same (same_new hq _)) (dt_new hq (.cons (.str _) (.cons (dt_keep (m3.kt S2) (dt_keep (m1.kt R2) d2)) (.cons d9 .nil))))
  · intro c H1 k1 k2 R1 h1
    refine ⟨_, rfl, iteF ?_⟩
    refine me0 R1 rfl (go_isName R1 (wp_ifB.mp h1) ?_ ?_)
    · intro h2
      rw [wp_pure, if_pos rfl] at h2
      refine ⟨rfl, _, rfl, iteT ?_⟩
      refine iteT ?_
      refine ca rfl (go_fuel (Nat.le_refl n) R1 k2 h2 ?_)
      intro e r v H2 h3 k3 k4 R2 d2
      obtain ⟨ta, xs, ev, hs, hz⟩ := ex_first d2
      refine ⟨_, rfl, ta, xs, 0, _, ev, rfl, hs, atI_nat hz, rfl, _, rfl, ?_⟩
      rw [tag_call]
      cases ec : Ex.isCall e with
      | true =>
        rw [ec, if_pos rfl] at h3
        refine iteT ⟨_, rfl, (by show 2 ≤ sizeLine; decide), fun q hq => ?_⟩
        exact h3 _ _ (k4.trans (same_kp (same_new hq _))) (R2.same (same_new hq _)) (dt_new hq (.cons (.str _) (.cons d2 .nil)))
      | false =>
        rw [ec, if_neg Bool.false_ne_true] at h3
        refine iteF ?_
        refine ca2 rfl rfl (go_need R2 k4 d2 h3 ?_)
        intro c g1
        refine me1c R2 rfl (go_expect R2 k4 g1 ?_)
        intro c G2 m1 m2 S2 g2
        refine ⟨_, rfl, ?_⟩
        refine ca rfl (go_fuel (Nat.le_refl n) S2 m2 (wp_bind.mp g2) ?_)
        intro a r v2 G3 g3 m3 m4 S3 d9
        refine ⟨(by show 3 ≤ sizeLine; decide), fun q hq => ?_⟩
        exact g3 _ _ (m4.trans (same_kp (same_new hq _))) (S3.same (same_new hq _)) (dt_new hq (.cons (.str _) (.cons (dt_keep (m3.kt S2) (dt_keep (m1.kt R2) d2)) (.cons d9 .nil))))
    · intro hn2 h2
      have e0 : ¬ ((V.str (Ko.hd l).knd) = V.str "name") := fun z => hn2 (by injection z)
      refine ⟨rfl, _, rfl, ?_⟩
      rw [decide_eq_false e0]
      refine iteF ?_
      refine me1d R1 rfl (go_peek R1 k2 (wp_ifB.mpr h2) ?_ ?_)
      · intro c H2 k3 k4 R2 h3
        refine ⟨_, rfl, iteT ?_⟩
        refine ca rfl (go_fuel (Nat.le_refl n) R2 k4 h3 ?_)
        intro e r v H3 h4 k5 k6 R3 d3
        obtain ⟨ta, xs, ev, hs, hz⟩ := ex_first d3
        refine ⟨_, rfl, ta, xs, 0, _, ev, rfl, hs, atI_nat hz, rfl, _, rfl, ?_⟩
        rw [tag_call]
        cases ec : Ex.isCall e with
        | true =>
          rw [ec, if_pos rfl] at h4
          refine iteT ⟨_, rfl, (by show 2 ≤ sizeLine; decide), fun q hq => ?_⟩
          exact h4 _ _ (k6.trans (same_kp (same_new hq _))) (R3.same (same_new hq _)) (dt_new hq (.cons (.str _) (.cons d3 .nil)))
        | false =>
          rw [ec, if_neg Bool.false_ne_true] at h4
          refine iteF ?_
          refine ca2 rfl rfl (go_need R3 k6 d3 h4 ?_)
          intro c g1
          refine me1c R3 rfl (go_expect R3 k6 g1 ?_)
          intro c G2 m1 m2 S2 g2
          refine ⟨_, rfl, ?_⟩
          refine ca rfl (go_fuel (Nat.le_refl n) S2 m2 (wp_bind.mp g2) ?_)
          intro a r v2 G3 g3 m3 m4 S3 d9
          refine ⟨(by show 3 ≤ sizeLine; decide), fun q hq => ?_⟩
          exact g3 _ _ (m4.trans (same_kp (same_new hq _))) (S3.same (same_new hq _)) (dt_new hq (.cons (.str _) (.cons (dt_keep (m3.kt S2) (dt_keep (m1.kt R3) d3)) (.cons d9 .nil))))
      · intro c H2 k3 k4 R2 h3
        refine ⟨_, rfl, iteF ?_⟩
        exact me0 R2 rfl ⟨p, b, _, rfl, R2, Bad.keep h3 k4⟩
theorem ok_simple (T : Tx K mg) (B : RdOk PP w K mg base) (I : EOk PP w K mg base n) (hn : n ≤ 500) : PFn PP w K mg base (n + 8) (a_simple K) (fdOf K d_simple) (spP K (simpP n) St.d) := by
  have G_Reader_skip := B.skip
  have G_parse_one := I.one
  have G_let := ok_let T B I
  have G_open := ok_open T B I hn
  have G_push := ok_push T B I
  have G_take := ok_take T B I
  have G_place_or_call := ok_place_or_call T B I
  refine (F_simple T).ok sc_simple (fun vs H Q E h => spP_len h) (fun cdv A outer s H0 vs Q E hr h => ?_)
  obtain ⟨p, b, l, rfl, hR, h⟩ := h
  refine ⟨_, (pss_cons (ps_if (pt_val (pe_meth (pv 0) (c_Reader T) (mt_skip T) G_Reader_skip (hr.mono (by omega)) (B_Reader_skip T) .nil pass0 (pa_cons pe_str pa_nil))) (pss_one (ps_ret (pe_call G_let (hr.mono (by omega)) rfl (m_let T) (F_let T).kp (B_let T) .nil (passes_call (takes_of rfl rfl rfl rfl) (fun _ _ _ _ z => z)) (pa_cons (pv 0) pa_nil)))) pss_nil) (pss_cons (ps_if (pt_val (pe_meth (pv 0) (c_Reader T) (mt_skip T) G_Reader_skip (hr.mono (by omega)) (B_Reader_skip T) .nil pass0 (pa_cons pe_str pa_nil))) (pss_one (ps_ret (pe_call G_open (hr.mono (by omega)) rfl (m_open T) (F_open T).kp (B_open T) .nil (passes_call (takes_of rfl rfl rfl rfl) (fun _ _ _ _ z => z)) (pa_cons (pv 0) pa_nil)))) pss_nil) (pss_cons (ps_if (pt_val (pe_meth (pv 0) (c_Reader T) (mt_skip T) G_Reader_skip (hr.mono (by omega)) (B_Reader_skip T) .nil pass0 (pa_cons pe_str pa_nil))) (pss_one (ps_ret (pe_tup (pa_cons pe_str (pa_cons (pe_call G_parse_one (hr.mono (by omega)) rfl (m_parse_one T) (F_parse_one T).kp (B_parse_one T) .nil (passes_call (takes_of rfl rfl rfl rfl) (fun _ _ _ _ z => z)) (pa_cons (pv 0) pa_nil)) pa_nil))))) pss_nil) (pss_cons (ps_if (pt_val (pe_meth (pv 0) (c_Reader T) (mt_skip T) G_Reader_skip (hr.mono (by omega)) (B_Reader_skip T) .nil pass0 (pa_cons pe_str pa_nil))) (pss_one (ps_ret (pe_call G_push (hr.mono (by omega)) rfl (m_push T) (F_push T).kp (B_push T) .nil (passes_call (takes_of rfl rfl rfl rfl) (fun _ _ _ _ z => z)) (pa_cons (pv 0) pa_nil)))) pss_nil) (pss_cons (ps_if (pt_val (pe_meth (pv 0) (c_Reader T) (mt_skip T) G_Reader_skip (hr.mono (by omega)) (B_Reader_skip T) .nil pass0 (pa_cons pe_str pa_nil))) (pss_one (ps_ret (pe_call G_take (hr.mono (by omega)) rfl (m_take T) (F_take T).kp (B_take T) .nil (passes_call (takes_of rfl rfl rfl rfl) (fun _ _ _ _ z => z)) (pa_cons (pv 0) pa_nil)))) pss_nil) (pss_one (ps_ret (pe_call G_place_or_call (hr.mono (by omega)) rfl (m_place_or_call T) (F_place_or_call T).kp (B_place_or_call T) .nil (passes_call (takes_of rfl rfl rfl rfl) (fun _ _ _ _ z => z)) (pa_cons (pv 0) pa_nil))))))))), ?_⟩
  have k0 : Keep p H0 H0 := Keep.refl _ _
  unfold simpP at h
  refine me1c hR rfl (go_skip hR k0 h ?_ ?_)
  · intro c H1 k1 k2 R1 h1
    refine ⟨_, rfl, iteT (ca rfl (go_call R1 k2 h1 ?_))⟩
    intro a r v H2 h2 k3 k4 R2 d2
    exact h2 _ _ k4 R2 d2
  intro c H1 k1 k2 R1 h1
  refine ⟨_, rfl, iteF ?_⟩
  clear h
  refine me1c R1 rfl (go_skip R1 k2 h1 ?_ ?_)
  · intro c H2 k3 k4 R2 h2
    refine ⟨_, rfl, iteT (ca rfl (go_call R2 k4 h2 ?_))⟩
    intro a r v H3 h3 k5 k6 R3 d3
    exact h3 _ _ k6 R3 d3
  intro c H2 k3 k4 R2 h2
  refine ⟨_, rfl, iteF ?_⟩
  clear h1
  refine me1c R2 rfl (go_skip R2 k4 h2 ?_ ?_)
  · intro c H3 k5 k6 R3 h3
    refine ⟨_, rfl, iteT (ca rfl (go_fuel (Nat.le_refl n) R3 k6 (wp_bind.mp h3) ?_))⟩
    intro a r v H4 h4 k7 k8 R4 d4
    refine ⟨(by show 2 ≤ sizeLine; decide), fun q hq => ?_⟩
    exact h4 _ _ (k8.trans (same_kp (same_new hq _))) (R4.same (same_new hq _)) (dt_new hq (.cons (.str _) (.cons d4 .nil)))
  intro c H3 k5 k6 R3 h3
  refine ⟨_, rfl, iteF ?_⟩
  clear h2
  refine me1c R3 rfl (go_skip R3 k6 h3 ?_ ?_)
  · intro c H4 k7 k8 R4 h4
    refine ⟨_, rfl, iteT (ca rfl (go_call R4 k8 h4 ?_))⟩
    intro a r v H5 h5 k9 k10 R5 d5
    exact h5 _ _ k10 R5 d5
  intro c H4 k7 k8 R4 h4
  refine ⟨_, rfl, iteF ?_⟩
  clear h3
  refine me1c R4 rfl (go_skip R4 k8 h4 ?_ ?_)
  · intro c H5 k9 k10 R5 h5
    refine ⟨_, rfl, iteT (ca rfl (go_call R5 k10 h5 ?_))⟩
    intro a r v H6 h6 k11 k12 R6 d6
    exact h6 _ _ k12 R6 d6
  · intro c H5 k9 k10 R5 h5
    refine ⟨_, rfl, iteF (ca rfl (go_call R5 k10 h5 ?_))⟩
    intro a r v H6 h6 k11 k12 R6 d6
    exact h6 _ _ k12 R6 d6
variable (PP w K mg base) in
/-- what the defs of statements promise with fuel n -/
structure SOk (n : Nat) : Prop where
  stmt : PFn PP w K mg base (n + 9) (a_statement K) (fdOf K d_statement) (spA K stmtP St.d n)
  «match» : PFn PP w K mg base (n + 9) (a_match K) (fdOf K d_match) (spA K matchP St.d n)
  case : PFn PP w K mg base (n + 9) (a_case K) (fdOf K d_case) (spA K caseP Cs.d n)
  iff : PFn PP w K mg base (n + 9) (a_if K) (fdOf K d_if) (spA K iffP St.d n)
  block : PFn PP w K mg base (n + 9) (a_block K) (fdOf K d_block) (spA K blockP blD n)
theorem ok_block (T : Tx K mg) (B : RdOk PP w K mg base) (J : SOk PP w K mg base n) (hn : n ≤ 500) : PFn PP w K mg base (n + 10) (a_block K) (fdOf K d_block) (spP K (blockP (n + 1)) blD) := by
  have G_Reader_skip := B.skip
  have G_Reader_expect := B.exp
  have G_statement := J.stmt
  refine (F_block T).ok sc_block (fun vs H Q E h => spP_len h) (fun cdv A outer s H0 vs Q E hr h => ?_)
  obtain ⟨p, b, l, rfl, hR, h⟩ := h
  refine ⟨_, (pss_cons (ps_expr (pe_meth (pv 0) (c_Reader T) (mt_expect T) G_Reader_expect (hr.mono (by omega)) (B_Reader_expect T) .nil (passes_call (takes_of rfl rfl rfl rfl) (fun _ _ _ _ z => z)) (pa_cons pe_str pa_nil))) (pss_cons (ps_set (i := 1) sc_block.nd rfl (Or.inl rfl) (pe_lst pa_nil)) (pss_cons (ps_while (passes_of rfl) (pt_not (pt_val (pe_meth (pv 0) (c_Reader T) (mt_skip T) G_Reader_skip (hr.mono (by omega)) (B_Reader_skip T) .nil pass0 (pa_cons pe_str pa_nil)))) (pss_one (ps_expr (pe_bm PySem.F.plainAttrs_list PySem.F.slot_list_append PySem.F.type_list_append mt_append (pv 1) (pa_cons (pe_call G_statement (hr.mono (by omega)) rfl (m_statement T) (F_statement T).kp (B_statement T) .nil (passes_call (takes_of rfl rfl rfl rfl) (fun _ _ _ _ z => z)) (pa_cons (pv 0) pa_nil)) pa_nil))))) (pss_one (ps_ret (pe_callTy call_tuple_of (by rfl) (z_tuple T) (by decide +kernel) (pa_cons (pv 1) pa_nil))))))), ?_⟩
  have k0 : Keep p H0 H0 := Keep.refl _ _
  unfold blockP at h
  refine me1c hR rfl (go_expect hR k0 h ?_)
  intro c H1 k1 k2 R1 h1
  refine ⟨Nat.zero_le _, fun q hq => ?_⟩
  refine while_fuel (fun m σ' H' => ∃ (acc : List St) (r : List Tok), σ' = [some (.ref p), some (.ref q)] ∧ Lst K H0 H' p b q (St.ds acc) ∧ Keep p H0 H' ∧ RdAt K H' p b r ∧ m ≤ n ∧ acc.length + m ≤ n ∧
      (stmtsL .rbrace m acc r).wp (fun a r => ∀ v H', Keep p H0 H' → RdAt K H' p b r → Dt K H' v (blD a) → Q v H') (fun r => Bad K p H0 E r)) n ?_ ?_ ?_
  · exact ⟨[], _, rfl, lst_new hq k2 R1, k2.trans (same_kp (same_new hq _)), R1.same (same_new hq _), Nat.le_refl _, by simp, h1⟩
  · rintro σ' H' ⟨acc, r, _, _, _, _, _, _, h⟩
    exact h.elim
  · rintro m σ' H' ⟨acc, r, rfl, L, k, R, hm, hl, h⟩
    unfold stmtsL at h
    refine me1c R rfl (go_skip R k h ?_ ?_)
    · intro c H2 k1 k2 R2 h2
      refine ⟨_, rfl, iteF ?_⟩
      refine tpl (L.keep k1 R) rfl ?_
      intro v H4 s4 d4
      exact h2 v H4 (k2.trans (same_kp s4)) (R2.same s4) d4
    · intro c H2 k1 k2 R2 h2
      have L2 := L.keep k1 R
      refine ⟨_, rfl, iteT ⟨_, fun σ' H' w' => ⟨m, Nat.lt_succ_self m, w'⟩, ?_⟩⟩
      refine ap L2.ty rfl (ca rfl (go_fuel (by omega) R2 k2 (wp_bind.mp h2) ?_))
      intro a r v H3 h3 k4 k5 R3 d3
      refine go_append (L2.keep k4 R2) R3 k5 d3 (by rw [sds_len]; exact line_of (by omega)) ?_
      intro H4 L4 k6 _ R4
      exact ⟨acc ++ [a], r, rfl, by rw [sds_snoc]; exact L4, k6, R4, by omega, by simp; omega, h3⟩
theorem ok_case (T : Tx K mg) (B : RdOk PP w K mg base) (J : SOk PP w K mg base n) (hn : n ≤ 500) : PFn PP w K mg base (n + 10) (a_case K) (fdOf K d_case) (spP K (caseP (n + 1)) Cs.d) := by
  have G_Reader_take := B.take
  have G_Reader_is_next := B.isn
  have G_names := ok_names T B hn
  have G_block := J.block
  obtain ⟨ds, vN, bN⟩ := isn T
  refine (F_case T).ok sc_case (fun vs H Q E h => spP_len h) (fun cdv A outer s H0 vs Q E hr h => ?_)
  obtain ⟨p, b, l, rfl, hR, h⟩ := h
  refine ⟨_, (pss_cons (ps_set (i := 1) sc_case.nd rfl (Or.inl rfl) (pe_meth (pv 0) (c_Reader T) (mt_take T) G_Reader_take (hr.mono (by omega)) (B_Reader_take T) .nil (passes_call (takes_of rfl rfl rfl rfl) (fun _ _ _ _ z => z)) (pa_cons pe_str pa_nil))) (pss_cons (ps_set (i := 2) sc_case.nd rfl (Or.inl rfl) (pe_tup pa_nil)) (pss_cons (ps_if (pt_val (pe_meth (pv 0) (c_Reader T) (mt_is_next T) G_Reader_is_next (hr.mono (by omega)) bN vN pass0 (pa_cons pe_str pa_nil))) (pss_one (ps_set (i := 2) sc_case.nd rfl (Or.inl rfl) (pe_call G_names (hr.mono (by omega)) rfl (m_names T) (F_names T).kp (B_names T) .nil (passes_call (takes_of rfl rfl rfl rfl) (fun _ _ _ _ z => z)) (pa_cons (pv 0) pa_nil)))) pss_nil) (pss_one (ps_ret (pe_tup (pa_cons (pv 1) (pa_cons (pv 2) (pa_cons (pe_call G_block (hr.mono (by omega)) rfl (m_block T) (F_block T).kp (B_block T) .nil (passes_call (takes_of rfl rfl rfl rfl) (fun _ _ _ _ z => z)) (pa_cons (pv 0) pa_nil)) pa_nil))))))))), ?_⟩
  have k0 : Keep p H0 H0 := Keep.refl _ _
  unfold caseP at h
  refine me1c hR rfl (go_name hR k0 h ?_)
  intro x hx H1 k1 k2 R1 h1
  refine ⟨Nat.zero_le _, fun q hq => ?_⟩
  have sn := same_new hq (.tup [])
  have R1' := R1.same sn
  have k2' := k2.trans (same_kp sn)
  have dq : Dt K (upd H1 q (.tup [])) (.ref q) (nmD []) := dt_new hq .nil
  refine me1d R1' rfl (go_peek R1' k2' (wp_bind.mp h1) ?_ ?_)
  · intro c H2 k3 k4 R2 h2
    refine ⟨_, rfl, iteT ?_⟩
    refine ca rfl (go_call R2 k4 h2 ?_)
    intro xs r v H3 h3 k5 k6 R3 d3
    refine ⟨_, rfl, _, rfl, ?_⟩
    refine ca rfl (go_fuel (Nat.le_refl n) R3 k6 (wp_bind.mp h3) ?_)
    intro a r v2 H4 h4 k7 k8 R4 d4
    refine ⟨(by show 3 ≤ sizeLine; decide), fun q hq => ?_⟩
    exact h4 _ _ (k8.trans (same_kp (same_new hq _))) (R4.same (same_new hq _)) (dt_new hq (.cons (.str _) (.cons (dt_keep (k7.kt R3) d3) (.cons d4 .nil))))
  · intro c H2 k3 k4 R2 h2
    refine ⟨_, rfl, iteF ?_⟩
    refine ⟨_, rfl, _, rfl, ?_⟩
    refine ca rfl (go_fuel (Nat.le_refl n) R2 k4 (wp_bind.mp (wp_pure.mp h2)) ?_)
    intro a r v2 H4 h4 k7 k8 R4 d4
    refine ⟨(by show 3 ≤ sizeLine; decide), fun q hq => ?_⟩
    exact h4 _ _ (k8.trans (same_kp (same_new hq _))) (R4.same (same_new hq _)) (dt_new hq (.cons (.str _) (.cons (dt_keep (k7.kt R2) (dt_keep (k3.kt R1') dq)) (.cons d4 .nil))))
theorem ok_if (T : Tx K mg) (B : RdOk PP w K mg base) (I : EOk PP w K mg base n) (J : SOk PP w K mg base n) : PFn PP w K mg base (n + 10) (a_if K) (fdOf K d_if) (spP K (iffP (n + 1)) St.d) := by
  have G_Reader_skip := B.skip
  have G_parse_one := I.one
  have G_block := J.block
  refine (F_if T).ok sc_if (fun vs H Q E h => spP_len h) (fun cdv A outer s H0 vs Q E hr h => ?_)
  obtain ⟨p, b, l, rfl, hR, h⟩ := h
  refine ⟨_, (pss_cons (ps_set (i := 1) sc_if.nd rfl (Or.inl rfl) (pe_call G_parse_one (hr.mono (by omega)) rfl (m_parse_one T) (F_parse_one T).kp (B_parse_one T) .nil (passes_call (takes_of rfl rfl rfl rfl) (fun _ _ _ _ z => z)) (pa_cons (pv 0) pa_nil))) (pss_cons (ps_set (i := 2) sc_if.nd rfl (Or.inl rfl) (pe_call G_block (hr.mono (by omega)) rfl (m_block T) (F_block T).kp (B_block T) .nil (passes_call (takes_of rfl rfl rfl rfl) (fun _ _ _ _ z => z)) (pa_cons (pv 0) pa_nil))) (pss_cons (ps_set (i := 3) sc_if.nd rfl (Or.inl rfl) (pe_tup pa_nil)) (pss_cons (ps_if (pt_val (pe_meth (pv 0) (c_Reader T) (mt_skip T) G_Reader_skip (hr.mono (by omega)) (B_Reader_skip T) .nil pass0 (pa_cons pe_str pa_nil))) (pss_one (ps_set (i := 3) sc_if.nd rfl (Or.inl rfl) (pe_call G_block (hr.mono (by omega)) rfl (m_block T) (F_block T).kp (B_block T) .nil (passes_call (takes_of rfl rfl rfl rfl) (fun _ _ _ _ z => z)) (pa_cons (pv 0) pa_nil)))) pss_nil) (pss_one (ps_ret (pe_tup (pa_cons pe_str (pa_cons (pv 1) (pa_cons (pv 2) (pa_cons (pv 3) pa_nil))))))))))), ?_⟩
  have k0 : Keep p H0 H0 := Keep.refl _ _
  unfold iffP at h
  refine ca rfl (go_fuel (Nat.le_refl n) hR k0 (wp_bind.mp h) ?_)
  intro e r v H1 h1 k1 k2 R1 d1
  refine ca rfl (go_fuel (Nat.le_refl n) R1 k2 (wp_bind.mp h1) ?_)
  intro a r v2 H2 h2 k3 k4 R2 d2
  refine ⟨Nat.zero_le _, fun q hq => ?_⟩
  have sn := same_new hq (.tup [])
  have R2' := R2.same sn
  have k4' := k4.trans (same_kp sn)
  have dq : Dt K (upd H2 q (.tup [])) (.ref q) (blD []) := dt_new hq .nil
  have d1' := dt_keep (same_kt sn) (dt_keep (k3.kt R1) d1)
  have d2' := dt_keep (same_kt sn) d2
  refine me1c R2' rfl (go_skip R2' k4' (wp_bind.mp h2) ?_ ?_)
  · intro c H3 k5 k6 R3 h3
    refine ⟨_, rfl, iteT ?_⟩
    refine ca rfl (go_fuel (Nat.le_refl n) R3 k6 h3 ?_)
    intro o r v3 H4 h4 k7 k8 R4 d4
    refine ⟨_, rfl, _, rfl, _, rfl, (by show 4 ≤ sizeLine; decide), fun q hq => ?_⟩
    exact h4 _ _ (k8.trans (same_kp (same_new hq _))) (R4.same (same_new hq _)) (dt_new hq (.cons (.str _) (.cons (dt_keep (k7.kt R3) (dt_keep (k5.kt R2') d1')) (.cons (dt_keep (k7.kt R3) (dt_keep (k5.kt R2') d2')) (.cons d4 .nil)))))
  · intro c H3 k5 k6 R3 h3
    refine ⟨_, rfl, iteF ?_⟩
    refine ⟨_, rfl, _, rfl, _, rfl, (by show 4 ≤ sizeLine; decide), fun q hq => ?_⟩
    exact h3 _ _ (k6.trans (same_kp (same_new hq _))) (R3.same (same_new hq _)) (dt_new hq (.cons (.str _) (.cons (dt_keep (k5.kt R2') d1') (.cons (dt_keep (k5.kt R2') d2') (.cons (dt_keep (k5.kt R2') dq) .nil)))))
theorem how_move (h : How) : decide (V.str h.txt = V.str "move") = decide (h = .move) := by cases h <;> decide +kernel
theorem ok_match (T : Tx K mg) (B : RdOk PP w K mg base) (I : EOk PP w K mg base n) (J : SOk PP w K mg base n) (hn : n ≤ 500) : PFn PP w K mg base (n + 10) (a_match K) (fdOf K d_match) (spP K (matchP (n + 1)) St.d) := by
  have G_Reader_skip := B.skip
  have G_Reader_expect := B.exp
  have G_parse_place := I.place
  have G_case := J.case
  refine (F_match T).ok sc_match (fun vs H Q E h => spP_len h) (fun cdv A outer s H0 vs Q E hr h => ?_)
  obtain ⟨p, b, l, rfl, hR, h⟩ := h
  refine ⟨_, (pss_cons (ps_set (i := 1) sc_match.nd rfl (Or.inl rfl) pe_str) (pss_cons (ps_for (passes_of rfl) rfl (pi_tup (pe_tup (pa_cons pe_str (pa_cons pe_str pa_nil)))) (pg_name (i := 2) sc_match.nd rfl (Or.inl rfl)) (pss_one (ps_if (PW.pt (pw_and (pt_cmpR op_eq (pv 1) pe_str (nomark _)) (pw_and1 (pt_val (pe_meth (pv 0) (c_Reader T) (mt_skip T) G_Reader_skip (hr.mono (by omega)) (B_Reader_skip T) .nil pass0 (pa_cons (pv 2) pa_nil)))))) (pss_one (ps_set (i := 1) sc_match.nd rfl (Or.inl rfl) (pv 2))) pss_nil))) (pss_cons (ps_set (i := 3) sc_match.nd rfl (Or.inl rfl) (pe_call G_parse_place (hr.mono (by omega)) rfl (m_parse_place T) (F_parse_place T).kp (B_parse_place T) .nil (passes_call (takes_of rfl rfl rfl rfl) (fun _ _ _ _ z => z)) (pa_cons (pv 0) pa_nil))) (pss_cons (ps_expr (pe_meth (pv 0) (c_Reader T) (mt_expect T) G_Reader_expect (hr.mono (by omega)) (B_Reader_expect T) .nil (passes_call (takes_of rfl rfl rfl rfl) (fun _ _ _ _ z => z)) (pa_cons pe_str pa_nil))) (pss_cons (ps_set (i := 4) sc_match.nd rfl (Or.inl rfl) (pe_lst pa_nil)) (pss_cons (ps_while (passes_of rfl) (pt_not (pt_val (pe_meth (pv 0) (c_Reader T) (mt_skip T) G_Reader_skip (hr.mono (by omega)) (B_Reader_skip T) .nil pass0 (pa_cons pe_str pa_nil)))) (pss_one (ps_expr (pe_bm PySem.F.plainAttrs_list PySem.F.slot_list_append PySem.F.type_list_append mt_append (pv 4) (pa_cons (pe_call G_case (hr.mono (by omega)) rfl (m_case T) (F_case T).kp (B_case T) .nil (passes_call (takes_of rfl rfl rfl rfl) (fun _ _ _ _ z => z)) (pa_cons (pv 0) pa_nil)) pa_nil))))) (pss_one (ps_ret (pe_tup (pa_cons pe_str (pa_cons (pv 1) (pa_cons (pv 3) (pa_cons (pe_callTy call_tuple_of (by rfl) (z_tuple T) (by decide +kernel) (pa_cons (pv 4) pa_nil)) pa_nil))))))))))))), ?_⟩
  have k0 : Keep p H0 H0 := Keep.refl _ _
  unfold matchP at h
  refine ⟨(by show 2 ≤ sizeLine; decide), fun q hq => ⟨q, rfl, ⟨_, SqT.of upd_same⟩, ?_⟩⟩
  have sn := same_new hq (.tup [.str "ref", .str "mut"])
  generalize hf : (fun hw => bindP (placeP n) fun p => bindP (expectP .lbrace) fun _ => bindP (casesL n []) fun cs => pureP (St.matchS hw p cs)) = f at h
  refine for_tup (K := K) (a := q) (xs := [V.str "ref", V.str "mut"]) (fun i σ' H' => ∃ (hw : How) (wd : Option V) (r : List Tok), σ' = [some (.ref p), some (.str hw.txt), wd, none, none] ∧ Keep p H0 H' ∧ RdAt K H' p b r ∧ H' q = some (.tup [V.str "ref", V.str "mut"]) ∧
    (match i with
      | 0 => hw = .move ∧ (bindP howP f r).wp (fun a r => ∀ v H', Keep p H0 H' → RdAt K H' p b r → Dt K H' v (St.d a) → Q v H') (fun r => Bad K p H0 E r)
      | 1 => (hw = .ref ∧ (f .ref r).wp (fun a r => ∀ v H', Keep p H0 H' → RdAt K H' p b r → Dt K H' v (St.d a) → Q v H') (fun r => Bad K p H0 E r)) ∨ (hw = .move ∧ (bindP (ifB (skipP .kMut) (pureP .mut) (pureP .move)) f r).wp (fun a r => ∀ v H', Keep p H0 H' → RdAt K H' p b r → Dt K H' v (St.d a) → Q v H') (fun r => Bad K p H0 E r))
      | _ => (f hw r).wp (fun a r => ∀ v H', Keep p H0 H' → RdAt K H' p b r → Dt K H' v (St.d a) → Q v H') (fun r => Bad K p H0 E r)))
    ⟨.move, none, l, rfl, same_kp sn, hR.same sn, upd_same, rfl, h⟩ (fun i σ' H' _ ⟨_, _, _, _, _, _, x, _⟩ => SqT.of x) ?_ ?_
  · rintro (_ | _ | i) x σ' H' hx ⟨hw, wd, r, rfl, k, R, hq2, h⟩
    · have hqp : q ≠ p := by
        obtain ⟨dx, vs, done, hp, _⟩ := R
        exact ne_of hq2 hp (by intro z; cases z)
      cases hx
      obtain ⟨rfl, h⟩ := h
      refine ⟨_, rfl, rfl, _, rfl, ?_⟩
      refine iteT (me1v R rfl rfl (go_skip R k (wp_bind.mp h) ?_ ?_))
      · intro c H2 k1 k2 R2 h2
        refine ⟨_, rfl, iteT ⟨_, rfl, ?_⟩⟩
        exact ⟨.ref, _, _, rfl, k2, R2, k1 _ _ hqp hq2, .inl ⟨rfl, wp_pure.mp h2⟩⟩
      · intro c H2 k1 k2 R2 h2
        refine ⟨_, rfl, iteF ?_⟩
        exact ⟨.move, _, _, rfl, k2, R2, k1 _ _ hqp hq2, .inr ⟨rfl, wp_bind.mpr h2⟩⟩
    · have hqp : q ≠ p := by
        obtain ⟨dx, vs, done, hp, _⟩ := R
        exact ne_of hq2 hp (by intro z; cases z)
      cases hx
      rcases h with ⟨rfl, h⟩ | ⟨rfl, h⟩
      · refine ⟨_, rfl, rfl, _, rfl, ?_⟩
        rw [how_move]
        refine iteF (iteF ?_)
        exact ⟨.ref, _, _, rfl, k, R, hq2, h⟩
      · refine ⟨_, rfl, rfl, _, rfl, ?_⟩
        refine iteT (me1v R rfl rfl (go_skip R k (wp_bind.mp h) ?_ ?_))
        · intro c H2 k1 k2 R2 h2
          refine ⟨_, rfl, iteT ⟨_, rfl, ?_⟩⟩
          exact ⟨.mut, _, _, rfl, k2, R2, k1 _ _ hqp hq2, wp_pure.mp h2⟩
        · intro c H2 k1 k2 R2 h2
          refine ⟨_, rfl, iteF ?_⟩
          exact ⟨.move, _, _, rfl, k2, R2, k1 _ _ hqp hq2, wp_pure.mp h2⟩
    · cases hx
  · rintro σ' H1 ⟨hw, wd, r, rfl, k2, R1, _, h1⟩
    have h1 : (f hw r).wp (fun a r => ∀ v H', Keep p H0 H' → RdAt K H' p b r → Dt K H' v (St.d a) → Q v H') (fun r => Bad K p H0 E r) := h1
    rw [← hf] at h1
    refine ca rfl (go_fuel (Nat.le_refl n) R1 k2 (wp_bind.mp h1) ?_)
    intro e r v H2 h2 k3 k4 R2 d2
    refine me1c R2 rfl (go_expect R2 k4 h2 ?_)
    intro c H3 k5 k6 R3 h3
    have d3 := dt_keep (k5.kt R2) d2
    refine ⟨Nat.zero_le _, fun q hq => ?_⟩
    have sn := same_new hq (.lst [])
    refine while_fuel (fun m σ' H' => ∃ (acc : List Cs) (r : List Tok), σ' = [some (.ref p), some (.str hw.txt), wd, some v, some (.ref q)] ∧ Lst K H0 H' p b q (Cs.ds acc) ∧ Keep p H0 H' ∧ RdAt K H' p b r ∧ Dt K H' v e.d ∧ m ≤ n ∧ acc.length + m ≤ n ∧
      (casesL m acc r).wp (fun cs r => (pureP (St.matchS hw e cs) r).wp (fun a r => ∀ v H', Keep p H0 H' → RdAt K H' p b r → Dt K H' v (St.d a) → Q v H') (fun r => Bad K p H0 E r)) (fun r => Bad K p H0 E r)) n ?_ ?_ ?_
    · exact ⟨[], _, rfl, lst_new hq k6 R3, k6.trans (same_kp sn), R3.same sn, dt_keep (same_kt sn) d3, Nat.le_refl _, by simp, wp_bind.mp h3⟩
    · rintro σ' H' ⟨acc, r, _, _, _, _, _, _, _, h⟩
      exact h.elim
    · rintro m σ' H' ⟨acc, r, rfl, L, k, R, dv, hm, hl, h⟩
      unfold casesL at h
      refine me1c R rfl (go_skip R k h ?_ ?_)
      · intro c H2 k1 k2 R2 h2
        refine ⟨_, rfl, iteF ?_⟩
        refine ⟨_, rfl, _, rfl, tpl (L.keep k1 R) rfl ?_⟩
        intro v4 H4 s4 d4
        refine ⟨(by show 4 ≤ sizeLine; decide), fun q hq => ?_⟩
        exact h2 _ _ ((k2.trans (same_kp s4)).trans (same_kp (same_new hq _))) ((R2.same s4).same (same_new hq _)) (dt_new hq (.cons (.str _) (.cons (.str _) (.cons (dt_keep (same_kt s4) (dt_keep (k1.kt R) dv)) (.cons d4 .nil)))))
      · intro c H2 k1 k2 R2 h2
        have L2 := L.keep k1 R
        refine ⟨_, rfl, iteT ⟨_, fun σ' H' w' => ⟨m, Nat.lt_succ_self m, w'⟩, ?_⟩⟩
        refine ap L2.ty rfl (ca rfl (go_fuel (by omega) R2 k2 (wp_bind.mp h2) ?_))
        intro a r v3 H3 h3 k4 k5 R3 d3
        refine go_append (L2.keep k4 R2) R3 k5 d3 (by rw [cds_len]; exact line_of (by omega)) ?_
        intro H4 L4 k6 kt R4
        exact ⟨acc ++ [a], r, rfl, by rw [cds_snoc]; exact L4, k6, R4, dt_keep kt (dt_keep (k4.kt R2) (dt_keep (k1.kt R) dv)), by omega, by simp; omega, h3⟩
theorem ok_stmt (T : Tx K mg) (B : RdOk PP w K mg base) (I : EOk PP w K mg base n) (J : SOk PP w K mg base n) (hn : n ≤ 500) : PFn PP w K mg base (n + 10) (a_statement K) (fdOf K d_statement) (spP K (stmtP (n + 1)) St.d) := by
  have G_Reader_skip := B.skip
  have G_Reader_expect := B.exp
  have G_parse_one := I.one
  have G_match := J.match
  have G_if := J.iff
  have G_block := J.block
  have G_simple := ok_simple T B I hn
  refine (F_statement T).ok sc_statement (fun vs H Q E h => spP_len h) (fun cdv A outer s H0 vs Q E hr h => ?_)
  obtain ⟨p, b, l, rfl, hR, h⟩ := h
  refine ⟨_, (pss_cons (ps_if (pt_val (pe_meth (pv 0) (c_Reader T) (mt_skip T) G_Reader_skip (hr.mono (by omega)) (B_Reader_skip T) .nil pass0 (pa_cons pe_str pa_nil))) (pss_one (ps_ret (pe_call G_match (hr.mono (by omega)) rfl (m_match T) (F_match T).kp (B_match T) .nil (passes_call (takes_of rfl rfl rfl rfl) (fun _ _ _ _ z => z)) (pa_cons (pv 0) pa_nil)))) pss_nil) (pss_cons (ps_if (pt_val (pe_meth (pv 0) (c_Reader T) (mt_skip T) G_Reader_skip (hr.mono (by omega)) (B_Reader_skip T) .nil pass0 (pa_cons pe_str pa_nil))) (pss_one (ps_ret (pe_call G_if (hr.mono (by omega)) rfl (m_if T) (F_if T).kp (B_if T) .nil (passes_call (takes_of rfl rfl rfl rfl) (fun _ _ _ _ z => z)) (pa_cons (pv 0) pa_nil)))) pss_nil) (pss_cons (ps_if (pt_val (pe_meth (pv 0) (c_Reader T) (mt_skip T) G_Reader_skip (hr.mono (by omega)) (B_Reader_skip T) .nil pass0 (pa_cons pe_str pa_nil))) (pss_cons (ps_set (i := 1) sc_statement.nd rfl (Or.inl rfl) (pe_call G_parse_one (hr.mono (by omega)) rfl (m_parse_one T) (F_parse_one T).kp (B_parse_one T) .nil (passes_call (takes_of rfl rfl rfl rfl) (fun _ _ _ _ z => z)) (pa_cons (pv 0) pa_nil))) (pss_one (ps_ret (pe_tup (pa_cons pe_str (pa_cons (pv 1) (pa_cons (pe_call G_block (hr.mono (by omega)) rfl (m_block T) (F_block T).kp (B_block T) .nil (passes_call (takes_of rfl rfl rfl rfl) (fun _ _ _ _ z => z)) (pa_cons (pv 0) pa_nil)) pa_nil))))))) pss_nil) (pss_cons (ps_if (pt_val (pe_meth (pv 0) (c_Reader T) (mt_skip T) G_Reader_skip (hr.mono (by omega)) (B_Reader_skip T) .nil pass0 (pa_cons pe_str pa_nil))) (pss_cons (ps_set (i := 2) sc_statement.nd rfl (Or.inl rfl) (pe_call G_block (hr.mono (by omega)) rfl (m_block T) (F_block T).kp (B_block T) .nil (passes_call (takes_of rfl rfl rfl rfl) (fun _ _ _ _ z => z)) (pa_cons (pv 0) pa_nil))) (pss_one (ps_ret (pe_tup (pa_cons pe_str (pa_cons (pv 2) (pa_cons (pe_call G_block (hr.mono (by omega)) rfl (m_block T) (F_block T).kp (B_block T) .nil (passes_call (takes_of rfl rfl rfl rfl) (fun _ _ _ _ z => z)) (pa_cons (pv 0) pa_nil)) pa_nil))))))) pss_nil) (pss_cons (ps_set (i := 3) sc_statement.nd rfl (Or.inl rfl) (pe_call G_simple (hr.mono (by omega)) rfl (m_simple T) (F_simple T).kp (B_simple T) .nil (passes_call (takes_of rfl rfl rfl rfl) (fun _ _ _ _ z => z)) (pa_cons (pv 0) pa_nil))) (pss_cons (ps_expr (pe_meth (pv 0) (c_Reader T) (mt_expect T) G_Reader_expect (hr.mono (by omega)) (B_Reader_expect T) .nil (passes_call (takes_of rfl rfl rfl rfl) (fun _ _ _ _ z => z)) (pa_cons pe_str pa_nil))) (pss_one (ps_ret (pv 3))))))))), ?_⟩
  have k0 : Keep p H0 H0 := Keep.refl _ _
  unfold stmtP at h
  refine me1c hR rfl (go_skip hR k0 h ?_ ?_)
  · intro c H1 k1 k2 R1 h1
    refine ⟨_, rfl, iteT (ca rfl (go_fuel (Nat.le_refl n) R1 k2 h1 ?_))⟩
    intro a r v H2 h2 k3 k4 R2 d2
    exact h2 _ _ k4 R2 d2
  intro c H1 k1 k2 R1 h1
  refine ⟨_, rfl, iteF ?_⟩
  clear h
  refine me1c R1 rfl (go_skip R1 k2 h1 ?_ ?_)
  · intro c H2 k3 k4 R2 h2
    refine ⟨_, rfl, iteT (ca rfl (go_fuel (Nat.le_refl n) R2 k4 h2 ?_))⟩
    intro a r v H3 h3 k5 k6 R3 d3
    exact h3 _ _ k6 R3 d3
  intro c H2 k3 k4 R2 h2
  refine ⟨_, rfl, iteF ?_⟩
  clear h1
  refine me1c R2 rfl (go_skip R2 k4 h2 ?_ ?_)
  · intro c H3 k5 k6 R3 h3
    refine ⟨_, rfl, iteT (ca rfl (go_fuel (Nat.le_refl n) R3 k6 (wp_bind.mp h3) ?_))⟩
    intro e r v H4 h4 k7 k8 R4 d4
    refine ⟨_, rfl, ?_⟩
    refine ca rfl (go_fuel (Nat.le_refl n) R4 k8 (wp_bind.mp h4) ?_)
    intro a r v2 H5 h5 k9 k10 R5 d5
    refine ⟨(by show 3 ≤ sizeLine; decide), fun q hq => ?_⟩
    exact h5 _ _ (k10.trans (same_kp (same_new hq _))) (R5.same (same_new hq _)) (dt_new hq (.cons (.str _) (.cons (dt_keep (k9.kt R4) d4) (.cons d5 .nil))))
  intro c H3 k5 k6 R3 h3
  refine ⟨_, rfl, iteF ?_⟩
  clear h2
  refine me1c R3 rfl (go_skip R3 k6 h3 ?_ ?_)
  · intro c H4 k7 k8 R4 h4
    refine ⟨_, rfl, iteT (ca rfl (go_fuel (Nat.le_refl n) R4 k8 (wp_bind.mp h4) ?_))⟩
    intro e r v H5 h5 k9 k10 R5 d5
    refine ⟨_, rfl, ?_⟩
    refine ca rfl (go_fuel (Nat.le_refl n) R5 k10 (wp_bind.mp h5) ?_)
    intro a r v2 H6 h6 k11 k12 R6 d6
    refine ⟨(by show 3 ≤ sizeLine; decide), fun q hq => ?_⟩
    exact h6 _ _ (k12.trans (same_kp (same_new hq _))) (R6.same (same_new hq _)) (dt_new hq (.cons (.str _) (.cons (dt_keep (k11.kt R5) d5) (.cons d6 .nil))))
  intro c H4 k7 k8 R4 h4
  refine ⟨_, rfl, iteF ?_⟩
  clear h3
  refine ca rfl (go_call R4 k8 (wp_bind.mp h4) ?_)
  intro a r v H5 h5 k9 k10 R5 d5
  refine me1c R5 rfl (go_expect R5 k10 h5 ?_)
  intro c H6 k11 k12 R6 h6
  exact ⟨_, rfl, h6 _ _ k12 R6 (dt_keep (k11.kt R5) d5)⟩
/-- all defs of statements, at every fuel -/
theorem s_ok (T : Tx K mg) : ∀ n, n ≤ 500 → SOk PP w K mg base n
  | 0, _ => ⟨pfn_zero rfl, pfn_zero rfl, pfn_zero rfl, pfn_zero rfl, pfn_zero rfl⟩
  | n + 1, hn => by
    have hn' := Nat.le_of_succ_le hn
    have J := s_ok T n hn'
    have I := e_ok (PP := PP) (w := w) (base := base) T n hn'
    have B := rd_ok (PP := PP) (w := w) (base := base) T
    exact ⟨pfn_succ J.stmt (ok_stmt T B I J hn'), pfn_succ J.match (ok_match T B I J hn'), pfn_succ J.case (ok_case T B J hn'), pfn_succ J.iff (ok_if T B I J), pfn_succ J.block (ok_block T B J hn')⟩
end
end Ko
end
section
set_option Elab.async false
set_option linter.all false
set_option maxRecDepth 100000
set_option maxHeartbeats 4000000
/-! A text as pieces: tokens, spaces, newlines, a comment -/
namespace Ko
open PySem PySem.Spec PyProof.Rows L2
def NAMES : List Str := ["a", "b", "x_1", "mainx", "Key", "lets", "refs", "boxy", "opens", "z9", "T"]
def NUMS : List Nat := [0, 1, 7, 10, 99, 4294967295, 2147483648, 12345678]
inductive Pc where
  | tok (t : Tk) | sp | nl | cm
  deriving DecidableEq
def cmS : Str := "# no more"
def Pc.cs : Pc → List Nat
  | .tok t => TL.tl t.txt
  | .sp => [32]
  | .nl => [10]
  | .cm => TL.tl cmS
def render (ps : List Pc) : List Nat := (ps.map Pc.cs).flatten
theorem render_nil : render [] = [] := rfl
theorem render_cons (p : Pc) (ps : List Pc) : render (p :: ps) = p.cs ++ render ps := by simp [render]
theorem render_app (ps qs : List Pc) : render (ps ++ qs) = render ps ++ render qs := by simp [render]
/-- tokens of the laws' texts -/
def Tk.good : Tk → Bool
  | .sym _ => true
  | .name w => NAMES.contains w
  | .num n => NUMS.contains n
  | .fin => false
/-- letters and figures -/
def Tk.isW : Tk → Bool
  | .sym s => s.isKw
  | .fin => false
  | _ => true
def Tk.isNum : Tk → Bool
  | .num _ => true
  | _ => false
def stW : List Pc → Bool
  | .tok t :: _ => t.isW
  | _ => false
def stE : List Pc → Bool
  | .tok (.sym .eq) :: _ => true
  | .tok (.sym .eqeq) :: _ => true
  | _ => false
def okAdj : List Pc → Bool
  | [] => true
  | .tok t :: r => t.good && !(t.isW && stW r) && !(decide (t = .sym .eq) && stE r) && okAdj r
  | .sp :: r => okAdj r
  | .nl :: r => okAdj r
  | .cm :: r => r.isEmpty
/-- the tokens with their places, the end last -/
def place : List Pc → Int → Int → List Tok
  | [], row, col => [⟨.fin, row, col⟩]
  | .tok t :: r, row, col => ⟨t, row, col⟩ :: place r row (col + t.txt.length)
  | .sp :: r, row, col => place r row (col + 1)
  | .nl :: r, row, _ => place r (row + 1) 1
  | .cm :: r, row, col => place r row (col + cmS.length)
def toks : List Pc → List Tk
  | [] => []
  | .tok t :: r => t :: toks r
  | _ :: r => toks r
theorem toks_app (ps qs : List Pc) : toks (ps ++ qs) = toks ps ++ toks qs := by
  induction ps with
  | nil => rfl
  | cons p ps ih => cases p <;> simp [toks, ih]
theorem place_tks (ps : List Pc) : ∀ r c, (place ps r c).map Tok.tk = toks ps ++ [.fin] := by
  induction ps with
  | nil => intros; rfl
  | cons p ps ih => intro r c; cases p <;> simp [place, toks, ih]
/-! ### signs of the tokens -/
def letS : Str := "abcdefghijklmnopqrstuvwxyzABCDEFGHIJKLMNOPQRSTUVWXYZ"
def digS : Str := "0123456789"
def shortS : Str := "{}()[],;:.=+-*<!"
def isLe (c : Nat) : Bool := decide (c ∈ letS.cps.toList)
def isDi (c : Nat) : Bool := decide (c ∈ digS.cps.toList)
def isSh (c : Nat) : Bool := decide (c ∈ shortS.cps.toList)
def isWc (c : Nat) : Bool := isLe c || isDi c || decide (c = 95)
def goodL : List Tk := Sym.all.map Tk.sym ++ NAMES.map Tk.name ++ NUMS.map Tk.num
theorem good_mem {t : Tk} (g : t.good = true) : t ∈ goodL := by
  unfold goodL
  cases t with
  | sym s => exact List.mem_append_left _ (List.mem_append_left _ (List.mem_map_of_mem s.mem_all))
  | name w => exact List.mem_append_left _ (List.mem_append_right _ (List.mem_map_of_mem (by simpa [Tk.good] using g)))
  | num n => exact List.mem_append_right _ (List.mem_map_of_mem (by simpa [Tk.good] using g))
  | fin => cases g
/-- facts of every token, looked at one by one -/
def tkFact (t : Tk) : Bool :=
  match TL.tl t.txt with
  | [] => false
  | c :: r => if t.isW = true then (isLe c || isDi c) && (c :: r).all isWc && decide (r.length < 20) && decide (c ≠ 10 ∧ c ≠ 32 ∧ c ≠ 35 ∧ c ≠ 61 ∧ c ≠ 62) && (isDi c == t.isNum)
    else !isLe c && !isDi c && !isWc c && decide (c ≠ 10 ∧ c ≠ 32 ∧ c ≠ 35 ∧ c ≠ 62) &&
      (match r with
        | [] => isSh c && (decide (c = 61) == decide (t = .sym .eq))
        | [d] => decide (t = .sym .eqeq ∧ c = 61 ∧ d = 61 ∨ t = .sym .arrow ∧ c = 45 ∧ d = 62)
        | _ => false)
theorem tkFact_all : ∀ t ∈ goodL, tkFact t = true := by decide +kernel
theorem tk_w {t : Tk} (g : t.good = true) (hw : t.isW = true) : ∃ c r, TL.tl t.txt = c :: r ∧ (isLe c || isDi c) = true ∧ (∀ d ∈ c :: r, isWc d = true) ∧ r.length < 20 ∧ (c ≠ 10 ∧ c ≠ 32 ∧ c ≠ 35 ∧ c ≠ 61 ∧ c ≠ 62) ∧ isDi c = t.isNum := by
  have h := tkFact_all t (good_mem g)
  unfold tkFact at h
  split at h
  · cases h
  · rename_i c r e
    rw [if_pos hw] at h
    simp only [Bool.and_eq_true, decide_eq_true_eq, beq_iff_eq, List.all_eq_true] at h
    exact ⟨c, r, e, h.1.1.1.1, h.1.1.1.2, h.1.1.2, h.1.2, h.2⟩
theorem tk_s {t : Tk} (g : t.good = true) (hw : t.isW = false) : ∃ c r, TL.tl t.txt = c :: r ∧ isLe c = false ∧ isDi c = false ∧ isWc c = false ∧ (c ≠ 10 ∧ c ≠ 32 ∧ c ≠ 35 ∧ c ≠ 62) ∧
    ((r = [] ∧ isSh c = true ∧ (c = 61 ↔ t = .sym .eq)) ∨ (∃ d, r = [d] ∧ (t = .sym .eqeq ∧ c = 61 ∧ d = 61 ∨ t = .sym .arrow ∧ c = 45 ∧ d = 62))) := by
  have h := tkFact_all t (good_mem g)
  unfold tkFact at h
  split at h
  · cases h
  · rename_i c r e
    rw [if_neg (by rw [hw]; decide)] at h
    simp only [Bool.and_eq_true, decide_eq_true_eq, Bool.not_eq_true'] at h
    obtain ⟨⟨⟨⟨h1, h2⟩, h3⟩, h4⟩, h5⟩ := h
    refine ⟨c, r, e, h1, h2, h3, h4, ?_⟩
    split at h5
    · simp only [Bool.and_eq_true, beq_iff_eq] at h5
      refine .inl ⟨rfl, h5.1, ?_⟩
      have := h5.2
      constructor
      · intro z; rw [decide_eq_true z] at this; exact of_decide_eq_true this.symm
      · intro z; rw [decide_eq_true z] at this; exact of_decide_eq_true this
    · exact .inr ⟨_, rfl, of_decide_eq_true h5⟩
    · cases h5
/-- the first sign behind a token -/
theorem hd_render {t : Tk} {r : List Pc} (h : okAdj (.tok t :: r) = true) {c : Nat} (e : (render r).head? = some c) : (t.isW = true → isWc c = false) ∧ (t = .sym .eq → c ≠ 61) ∧ c ≠ 62 := by
  simp only [okAdj, Bool.and_eq_true, Bool.not_eq_true'] at h
  obtain ⟨⟨⟨_, hb⟩, hc⟩, hd⟩ := h
  cases r with
  | nil => cases e
  | cons p r =>
    rw [render_cons] at e
    cases p with
    | sp => cases e; exact ⟨fun _ => by decide +kernel, fun _ => by decide, by decide⟩
    | nl => cases e; exact ⟨fun _ => by decide +kernel, fun _ => by decide, by decide⟩
    | cm =>
      have : c = 35 := by
        have h0 : (Pc.cm.cs).head? = some 35 := by decide +kernel
        have h1 : Pc.cm.cs = 35 :: (Pc.cm.cs).tail := by
          cases hq : Pc.cm.cs with
          | nil => rw [hq] at h0; cases h0
          | cons x y => rw [hq] at h0; cases h0; rfl
        rw [h1] at e
        cases e
        rfl
      subst this
      exact ⟨fun _ => by decide +kernel, fun _ => by decide, by decide⟩
    | tok u =>
      have gu : u.good = true := by
        simp only [okAdj, Bool.and_eq_true] at hd
        exact hd.1.1.1
      cases hw : u.isW with
      | true =>
        obtain ⟨c', r', e1, _, _, _, e2, _⟩ := tk_w gu hw
        have : c = c' := by
          have e' : (TL.tl u.txt ++ render r).head? = some c := e
          rw [e1] at e'
          cases e'
          rfl
        subst this
        refine ⟨fun z => ?_, fun _ => e2.2.2.2.1, e2.2.2.2.2⟩
        have hb' : (t.isW && u.isW) = false := hb
        rw [z, hw] at hb'
        cases hb'
      | false =>
        obtain ⟨c', r', e1, _, _, e2, e3, e4⟩ := tk_s gu hw
        have : c = c' := by
          have e' : (TL.tl u.txt ++ render r).head? = some c := e
          rw [e1] at e'
          cases e'
          rfl
        subst this
        refine ⟨fun _ => e2, fun z => ?_, e3.2.2.2⟩
        rw [decide_eq_true z] at hc
        have hc' : stE (.tok u :: r) = false := hc
        rcases e4 with ⟨_, _, q⟩ | ⟨d, _, q | q⟩
        · intro y
          rw [q.mp y] at hc'
          cases hc'
        · rw [q.1] at hc'
          cases hc'
        · rw [q.2.1]
          decide
end Ko
end
section
set_option Elab.async false
set_option linter.all false
set_option maxRecDepth 100000
set_option maxHeartbeats 4000000
/-! The defs of a function, of a program -/
namespace Ko
open PySem PySem.Spec PyProof.Rows L2
section
variable {PP : Program} {w : World} {K : PySem.W.Frag} {mg : Str → Option Value} {base : Heap} {n : Nat}
theorem ok_fn (T : Tx K mg) (B : RdOk PP w K mg base) (I : EOk PP w K mg base n) (J : SOk PP w K mg base n) (hn : n ≤ 500) : PFn PP w K mg base (n + 10) (a_function K) (fdOf K d_function) (spP K (fnP n) Fn.d) := by
  have G_Reader_take := B.take
  have G_Reader_skip := B.skip
  have G_Reader_expect := B.exp
  have G_pairs := ok_pairs T B I hn
  have G_list := ok_list T B hn
  have G_parse_kind := I.kind
  have G_parse_one := I.one
  have G_statement := J.stmt
  refine (F_function T).ok sc_function (fun vs H Q E h => spP_len h) (fun cdv A outer s H0 vs Q E hr h => ?_)
  obtain ⟨p, b, l, rfl, hR, h⟩ := h
  refine ⟨_, (pss_cons (ps_set (i := 1) sc_function.nd rfl (Or.inl rfl) (pe_meth (pv 0) (c_Reader T) (mt_take T) G_Reader_take (hr.mono (by omega)) (B_Reader_take T) .nil (passes_call (takes_of rfl rfl rfl rfl) (fun _ _ _ _ z => z)) (pa_cons pe_str pa_nil))) (pss_cons (ps_expr (pe_meth (pv 0) (c_Reader T) (mt_expect T) G_Reader_expect (hr.mono (by omega)) (B_Reader_expect T) .nil (passes_call (takes_of rfl rfl rfl rfl) (fun _ _ _ _ z => z)) (pa_cons pe_str pa_nil))) (pss_cons (ps_set (i := 2) sc_function.nd rfl (Or.inl rfl) (pe_call G_pairs (hr.mono (by omega)) rfl (m_pairs T) (F_pairs T).kp (B_pairs T) .nil (passes_call (takes_of rfl rfl rfl rfl) (fun _ _ _ _ z => z)) (pa_cons (pv 0) (pa_cons pe_str pa_nil)))) (pss_cons (ps_expr (pe_meth (pv 0) (c_Reader T) (mt_expect T) G_Reader_expect (hr.mono (by omega)) (B_Reader_expect T) .nil (passes_call (takes_of rfl rfl rfl rfl) (fun _ _ _ _ z => z)) (pa_cons pe_str pa_nil))) (pss_cons (ps_set (i := 3) sc_function.nd rfl (Or.inl rfl) (pe_call G_parse_kind (hr.mono (by omega)) rfl (m_parse_kind T) (F_parse_kind T).kp (B_parse_kind T) .nil (passes_call (takes_of rfl rfl rfl rfl) (fun _ _ _ _ z => z)) (pa_cons (pv 0) pa_nil))) (pss_cons (ps_set (i := 4) sc_function.nd rfl (Or.inl rfl) (pe_tup pa_nil)) (pss_cons (ps_if (pt_val (pe_meth (pv 0) (c_Reader T) (mt_skip T) G_Reader_skip (hr.mono (by omega)) (B_Reader_skip T) .nil pass0 (pa_cons pe_str pa_nil))) (pss_one (ps_set (i := 4) sc_function.nd rfl (Or.inl rfl) (pe_call G_list (hr.mono (by omega)) rfl (m_list T) (F_list T).kp (B_list T) .nil (passes_call (takes_of rfl rfl rfl rfl) (fun _ _ _ _ z => z)) (pa_cons (pv 0) pa_nil)))) pss_nil) (pss_cons (ps_expr (pe_meth (pv 0) (c_Reader T) (mt_expect T) G_Reader_expect (hr.mono (by omega)) (B_Reader_expect T) .nil (passes_call (takes_of rfl rfl rfl rfl) (fun _ _ _ _ z => z)) (pa_cons pe_str pa_nil))) (pss_cons (ps_set (i := 5) sc_function.nd rfl (Or.inl rfl) (pe_lst pa_nil)) (pss_cons (ps_while (passes_of rfl) (pt_not (pt_val (pe_meth (pv 0) (c_Reader T) (mt_skip T) G_Reader_skip (hr.mono (by omega)) (B_Reader_skip T) .nil pass0 (pa_cons pe_str pa_nil)))) (pss_one (ps_expr (pe_bm PySem.F.plainAttrs_list PySem.F.slot_list_append PySem.F.type_list_append mt_append (pv 5) (pa_cons (pe_call G_statement (hr.mono (by omega)) rfl (m_statement T) (F_statement T).kp (B_statement T) .nil (passes_call (takes_of rfl rfl rfl rfl) (fun _ _ _ _ z => z)) (pa_cons (pv 0) pa_nil)) pa_nil))))) (pss_cons (ps_set (i := 6) sc_function.nd rfl (Or.inl rfl) (pe_call G_parse_one (hr.mono (by omega)) rfl (m_parse_one T) (F_parse_one T).kp (B_parse_one T) .nil (passes_call (takes_of rfl rfl rfl rfl) (fun _ _ _ _ z => z)) (pa_cons (pv 0) pa_nil))) (pss_cons (ps_expr (pe_meth (pv 0) (c_Reader T) (mt_expect T) G_Reader_expect (hr.mono (by omega)) (B_Reader_expect T) .nil (passes_call (takes_of rfl rfl rfl rfl) (fun _ _ _ _ z => z)) (pa_cons pe_str pa_nil))) (pss_cons (ps_expr (pe_meth (pv 0) (c_Reader T) (mt_expect T) G_Reader_expect (hr.mono (by omega)) (B_Reader_expect T) .nil (passes_call (takes_of rfl rfl rfl rfl) (fun _ _ _ _ z => z)) (pa_cons pe_str pa_nil))) (pss_one (ps_ret (pe_tup (pa_cons (pv 1) (pa_cons (pv 2) (pa_cons (pv 3) (pa_cons (pv 4) (pa_cons (pe_callTy call_tuple_of (by rfl) (z_tuple T) (by decide +kernel) (pa_cons (pv 5) pa_nil)) (pa_cons (pv 6) pa_nil)))))))))))))))))))))), ?_⟩
  have k0 : Keep p H0 H0 := Keep.refl _ _
  unfold fnP at h
  refine me1c hR rfl (go_name hR k0 h ?_)
  intro x hx H1 k1 k2 R1 h1
  refine me1c R1 rfl (go_expect R1 k2 h1 ?_)
  intro c H2 k3 k4 R2 h2
  clear h h1
  refine ca2c rfl (go_pairs (s := .rpar) R2 k4 (wp_bind.mp h2) ?_)
  intro ps r v H3 h3 k5 k6 R3 d3
  refine me1c R3 rfl (go_expect R3 k6 h3 ?_)
  intro c H4 k7 k8 R4 h4
  clear h2 h3
  refine ca rfl (go_fuel (Nat.le_refl n) R4 k8 (wp_bind.mp h4) ?_)
  intro kd r v2 H5 h5 k9 k10 R5 d5
  have d3' := dt_keep (k9.kt R4) (dt_keep (k7.kt R3) d3)
  clear h4
  refine ⟨Nat.zero_le _, fun q hq => ?_⟩
  have sn := same_new hq (.tup [])
  have R5' := R5.same sn
  have k10' := k10.trans (same_kp sn)
  have d5' := dt_keep (same_kt sn) d5
  have d3' := dt_keep (same_kt sn) d3'
  have dq : Dt K (upd H5 q (.tup [])) (.ref q) (nmD []) := dt_new hq .nil
  refine me1c R5' rfl (go_skip R5' k10' (wp_bind.mp h5) ?a ?b)
  case' a =>
    intro c H6 k11 k12 R6 h6
    refine ⟨_, rfl, iteT ?_⟩
    refine ca rfl (go_call R6 k12 h6 ?_)
    intro ls r vl H7 h7 k13 k14 R7 dq
    have d3' := dt_keep (k13.kt R6) (dt_keep (k11.kt R5') d3')
    have d5' := dt_keep (k13.kt R6) (dt_keep (k11.kt R5') d5')
  case' b =>
    intro c H7 k11 k14 R7 h7
    refine ⟨_, rfl, iteF ?_⟩
    have d3' := dt_keep (k11.kt R5') d3'
    have d5' := dt_keep (k11.kt R5') d5'
    have dq := dt_keep (k11.kt R5') dq
    generalize V.ref q = vl at dq ⊢
    have h7 := wp_pure.mp h7
    obtain ⟨ls, els⟩ : ∃ ls : List Str, ls = [] := ⟨_, rfl⟩
    rw [← els] at h7 dq
  all_goals
    clear h5
    refine me1c R7 rfl (go_expect R7 k14 h7 ?_)
    intro c H8 k15 k16 R8 h8
    clear h7
    have d3' := dt_keep (k15.kt R7) d3'
    have d5' := dt_keep (k15.kt R7) d5'
    have dq := dt_keep (k15.kt R7) dq
    refine ⟨Nat.zero_le _, fun q hq => ?_⟩
    have sn := same_new hq (.lst [])
    refine while_fuel (fun m σ' H' => ∃ (acc : List St) (r : List Tok), σ' = [some (.ref p), some (.str x), some v, some v2, some vl, some (.ref q), none] ∧ Lst K H0 H' p b q (St.ds acc) ∧ Keep p H0 H' ∧ RdAt K H' p b r ∧ Dt K H' v (psD ps) ∧ Dt K H' v2 kd.d ∧ Dt K H' vl (nmD ls) ∧ m ≤ n ∧ acc.length + m ≤ n ∧
      (stmtsL .kReturn m acc r).wp (fun bo r => ((bindP (oneP n) fun e => bindP (expectP .semi) fun _ => bindP (expectP .rbrace) fun _ => pureP (⟨x, ps, kd, ls, bo, e⟩ : Fn)) r).wp (fun a r => ∀ v H', Keep p H0 H' → RdAt K H' p b r → Dt K H' v (Fn.d a) → Q v H') (fun r => Bad K p H0 E r)) (fun r => Bad K p H0 E r)) n ?_ ?_ ?_
    · exact ⟨[], _, rfl, lst_new hq k16 R8, k16.trans (same_kp sn), R8.same sn, dt_keep (same_kt sn) d3', dt_keep (same_kt sn) d5', dt_keep (same_kt sn) dq, Nat.le_refl _, by simp, wp_bind.mp h8⟩
    · rintro σ' H' ⟨acc, r, _, _, _, _, _, _, _, _, _, h⟩
      exact h.elim
    · rintro m σ' H' ⟨acc, r, rfl, L, k, R, e3, e5, eq, hm, hl, h⟩
      unfold stmtsL at h
      refine me1c R rfl (go_skip R k h ?_ ?_)
      · intro c H2 k1 k2 R2 h2
        have L2 := L.keep k1 R
        refine ⟨_, rfl, iteF ?_⟩
        have e3 := dt_keep (k1.kt R) e3
        have e5 := dt_keep (k1.kt R) e5
        have eq := dt_keep (k1.kt R) eq
        refine ca rfl (go_fuel (Nat.le_refl n) R2 k2 (wp_bind.mp (wp_pure.mp h2)) ?_)
        intro e r ve H3 h3 k3 k4 R3 de
        have L3 := L2.keep k3 R2
        refine me1c R3 rfl (go_expect R3 k4 h3 ?_)
        intro c H4 k5 k6 R4 h4
        have L4 := L3.keep k5 R3
        refine me1c R4 rfl (go_expect R4 k6 h4 ?_)
        intro c H5 k7 k8 R5 h5
        have L5 := L4.keep k7 R4
        have kk := ((k3.kt R2).trans (k5.kt R3)).trans (k7.kt R4)
        refine ⟨_, rfl, _, rfl, _, rfl, _, rfl, tpl L5 rfl ?_⟩
        intro v6 H6 s6 d6
        refine ⟨_, rfl, (by show 6 ≤ sizeLine; decide), fun q2 hq2 => ?_⟩
        exact h5 _ _ ((k8.trans (same_kp s6)).trans (same_kp (same_new hq2 _))) ((R5.same s6).same (same_new hq2 _)) (dt_new hq2 (.cons (.str _) (.cons (dt_keep (same_kt s6) (dt_keep kk e3)) (.cons (dt_keep (same_kt s6) (dt_keep kk e5)) (.cons (dt_keep (same_kt s6) (dt_keep kk eq)) (.cons (by rw [← St.ds_map]; exact d6) (.cons (dt_keep (same_kt s6) (dt_keep ((k5.kt R3).trans (k7.kt R4)) de)) .nil)))))))
      · intro c H2 k1 k2 R2 h2
        have L2 := L.keep k1 R
        refine ⟨_, rfl, iteT ⟨_, fun σ' H' w' => ⟨m, Nat.lt_succ_self m, w'⟩, ?_⟩⟩
        refine ap L2.ty rfl (ca rfl (go_fuel (by omega) R2 k2 (wp_bind.mp h2) ?_))
        intro a r v3 H3 h3 k4 k5 R3 d3
        have kk := (k1.kt R).trans (k4.kt R2)
        refine go_append (L2.keep k4 R2) R3 k5 d3 (by rw [sds_len]; exact line_of (by omega)) ?_
        intro H4 L4 k6 kt R4
        exact ⟨acc ++ [a], r, rfl, by rw [sds_snoc]; exact L4, k6, R4, dt_keep (kk.trans kt) e3, dt_keep (kk.trans kt) e5, dt_keep (kk.trans kt) eq, by omega, by simp; omega, h3⟩
/-- tokens(text) -/
def spTokens (K : PySem.W.Frag) : Sp := fun vs H Q _ => ∃ text ps, vs = [.str text] ∧ TL.tl text = render ps ∧ okAdj ps = true ∧ text.length ≤ sizeLine ∧ ps.length < sizeLine ∧
  ∀ a ts H', H a = none → Same H H' → H' a = some (.lst ts) → Dts K H' ts ((place ps 1 1).map tokD) → Q (.ref a) H'
/-- parse(text) -/
def spParse (K : PySem.W.Frag) (n : Nat) : Sp := fun vs H Q E => ∃ text ps, vs = [.str text] ∧ TL.tl text = render ps ∧ okAdj ps = true ∧ text.length ≤ sizeLine ∧ ps.length < sizeLine ∧
  (parseP n (place ps 1 1)).wp (fun a _ => ∀ v H', Same H H' → Dt K H' v (Pr.d a) → Q v H') (fun r => ∀ d H', Same H H' → tokErr H' d (hdT r) → E (.ref (aU K)) (some d) H')
theorem good_num {t : Tk} (g : t.good = true) : t ≠ .fin ∧ ∀ n, t = .num n → n < 4294967296 := by
  cases t with
  | fin => cases g
  | num n =>
    refine ⟨nofun, fun m e => ?_⟩
    cases e
    have h : ∀ k ∈ NUMS, k < 4294967296 := by decide
    exact h n (by simpa [Tk.good] using g)
  | _ => exact ⟨nofun, nofun⟩
theorem place_ne (ps : List Pc) : ∀ r c, ∃ t l, place ps r c = t :: l := by
  induction ps with
  | nil => exact fun r c => ⟨_, _, rfl⟩
  | cons p ps ih =>
    intro r c
    cases p with
    | tok t => exact ⟨_, _, rfl⟩
    | _ => exact ih _ _
theorem adj_tok {t : Tk} {r : List Pc} (h : okAdj (.tok t :: r) = true) : t.good = true ∧ (t.isW = true → stW r = false) ∧ (t = .sym .eq → stE r = false) ∧ okAdj r = true := by
  simp only [okAdj, Bool.and_eq_true, Bool.not_eq_true'] at h
  obtain ⟨⟨⟨a, b⟩, c⟩, d⟩ := h
  refine ⟨a, fun e => ?_, fun e => ?_, d⟩
  · rw [e] at b; exact b
  · rw [decide_eq_true e] at c; exact c
theorem adj_tl {p : Pc} {r : List Pc} (h : okAdj (p :: r) = true) : okAdj r = true := by
  cases p with
  | tok t => exact (adj_tok h).2.2.2
  | cm =>
    have : r = [] := by simpa [okAdj] using h
    rw [this]; rfl
  | _ => exact h
theorem place_endF (ps : List Pc) : ∀ r c, okAdj ps = true → EndF (place ps r c) := by
  induction ps with
  | nil => exact fun r c _ => rfl
  | cons p ps ih =>
    intro r c h
    have i := fun r c => ih r c (adj_tl h)
    cases p with
    | tok t =>
      have i := i r (c + t.txt.length)
      show EndF (⟨t, r, c⟩ :: place ps r (c + t.txt.length))
      obtain ⟨u, l, e⟩ := place_ne ps r (c + t.txt.length)
      rw [e] at i ⊢
      exact ⟨good_num (adj_tok h).1, i⟩
    | _ => exact i _ _
theorem keep_same {p : Addr} {H H' : Hp} (hp : H p = none) (k : Keep p H H') : Same H H' := fun b o h => k b o (ne_of_none h hp) h
theorem Lst.other {H0 H : Hp} {p b q q' : Addr} {ds : List PyData} {xs ys : List V} (x : Lst K H0 H p b q ds) (h : H q' = some (.lst xs)) (ne : q ≠ q') : Lst K H0 (upd H q' (.lst ys)) p b q ds := by
  obtain ⟨n, n1, n2, vs, hv, d⟩ := x
  exact ⟨n, n1, n2, vs, by rw [upd_ne ne]; exact hv, dts_keep (kt_upd h (fun z => z) _) d⟩
theorem go_append_u {H H0 : Hp} {p b q : Addr} {l : List Tok} {ds : List PyData} {v : V} {dd : PyData} {Q : VK} (x : Lst K H0 H p b q ds) (R : RdAt K H p b l) (k0 : Keep p H0 H) (hd : Dt K H v dd) (hl : ds.length < sizeLine)
    (hk : ∀ vs vs', H q = some (.lst vs) → Lst K H0 (upd H q (.lst vs')) p b q (ds ++ [dd]) → Keep p H0 (upd H q (.lst vs')) → RdAt K (upd H q (.lst vs')) p b l → Q .non (upd H q (.lst vs'))) : rAppend (.ref q) [v] H Q := by
  obtain ⟨n, n1, n2, vs, h, d⟩ := x
  have kt : KeepT H (upd H q (.lst (vs ++ [v]))) := kt_upd h (fun z => z) _
  refine ⟨q, vs, v, rfl, rfl, h, by rw [dts_len d]; exact hl, hk _ _ h ⟨n, n1, n2, _, upd_same, ?_⟩ (k0.other n _) (R.other h n1)⟩
  exact dts_keep kt (dts_app d (.cons hd .nil))
theorem go_atEnd {H : Hp} {p b : Addr} {l : List Tok} {α : Type} {t e : Ko.P α} {ok : α → List Tok → Prop} {bad : List Tok → Prop} {Q : VK} {E : XK} (hR : RdAt K H p b l) (h : (ifB atEndP t e l).wp ok bad) (ht : (t l).wp ok bad → Q (.str "end") H) (he : (hd l).knd ≠ "end" → (e l).wp ok bad → Q (.str (hd l).knd) H) : spKind K [.ref p] H Q E := by
  refine ⟨p, b, l, rfl, hR, ?_⟩
  have h' := wp_atEnd.mp (wp_ifB.mp h)
  cases hl : hd l with
  | fin => rw [hl] at h'; exact ht h'
  | name x => rw [hl] at h' he; exact he (by show ¬ (("name" : Str) = "end"); decide +kernel) h'
  | sym y => rw [hl] at h' he; exact he (by cases y <;> decide +kernel) h'
  | num n => rw [hl] at h' he; exact he (show ¬ (("number" : Str) = "end") by decide +kernel) h'
theorem ok_parse {kt : Nat} (T : Tx K mg) (B : RdOk PP w K mg base) (hI : ∀ m, m ≤ n → EOk PP w K mg base m) (hJ : ∀ m, m ≤ n → SOk PP w K mg base m) (hn : n ≤ 500) (hkt : kt ≤ n + 10)
    (G_tokens : FnOk PP w K mg base CX0 kt (a_tokens K) (fdOf K d_tokens) ["text"] (spTokens K)) :
    FnOk PP w K mg base (L2.CX PP w) (n + 11) (a_parse K) (fdOf K d_parse) ["text"] (spParse K n) := by
  have G_Reader_init := ok_Reader_init (P := PP) (w := w) (base := base) T
  have G_Reader_kind := B.kind
  have G_Reader_skip := B.skip
  have G_Reader_expect := B.exp
  have G_record_tree : PFn PP w K mg base (n + 6) (a_record_tree K) (fdOf K d_record_tree) (spA K recP recD n) := pfn_all fun m hm => (ok_record T B (hI m hm) (by omega)).mono (by omega)
  have G_variant : PFn PP w K mg base (n + 6) (a_variant K) (fdOf K d_variant) (spA K varP varD n) := pfn_all fun m hm => (ok_variant T B (pfn_all fun i hi => (ok_tag T B (hI i (by omega)) (by omega)).mono (by omega)) (by omega)).mono (by omega)
  have G_function : PFn PP w K mg base (n + 10) (a_function K) (fdOf K d_function) (spA K fnP Fn.d n) := pfn_all fun m hm => (ok_fn T B (hI m hm) (hJ m hm) (by omega)).mono (by omega)
  refine (F_parse T).ok sc_parse (fun vs H Q E h => ?_) (fun cdv A outer s H0 vs Q E hr h => ?_)
  · obtain ⟨text, ps, rfl, _⟩ := h
    rfl
  obtain ⟨text, ps, rfl, ht, ha, hl, hpl, h⟩ := h
  refine ⟨_, (pss_cons (ps_set (i := 1) sc_parse.nd rfl (Or.inl rfl) (pe_make (mk_Reader T) G_Reader_init (hr.mono (by omega)) rfl (m_Reader T) (B_Reader_init T) .nil pass0 (pa_cons (pe_call G_tokens (hr.mono (by omega)) rfl (m_tokens T) (F_tokens T).kp (B_tokens T) .nil pass0 (pa_cons (pv 0) pa_nil)) pa_nil))) (pss_cons (ps_set (i := 2) sc_parse.nd rfl (Or.inl rfl) (pe_lst pa_nil)) (pss_cons (ps_set (i := 3) sc_parse.nd rfl (Or.inl rfl) (pe_lst pa_nil)) (pss_cons (ps_set (i := 4) sc_parse.nd rfl (Or.inl rfl) (pe_lst pa_nil)) (pss_cons (ps_while (passes_of rfl) (pt_cmpR op_ne (pe_meth0 (pv 1) (c_Reader T) (mt_kind T) G_Reader_kind (hr.mono (by omega)) (B_Reader_kind T) .nil pass0) pe_str (nomark _)) (pss_one (ps_if (pt_val (pe_meth (pv 1) (c_Reader T) (mt_skip T) G_Reader_skip (hr.mono (by omega)) (B_Reader_skip T) .nil pass0 (pa_cons pe_str pa_nil))) (pss_one (ps_expr (pe_bm PySem.F.plainAttrs_list PySem.F.slot_list_append PySem.F.type_list_append mt_append (pv 2) (pa_cons (pe_call G_record_tree (hr.mono (by omega)) rfl (m_record_tree T) (F_record_tree T).kp (B_record_tree T) .nil (passes_call (takes_of rfl rfl rfl rfl) (fun _ _ _ _ z => z)) (pa_cons (pv 1) pa_nil)) pa_nil)))) (pss_one (ps_if (pt_val (pe_meth (pv 1) (c_Reader T) (mt_skip T) G_Reader_skip (hr.mono (by omega)) (B_Reader_skip T) .nil pass0 (pa_cons pe_str pa_nil))) (pss_one (ps_expr (pe_bm PySem.F.plainAttrs_list PySem.F.slot_list_append PySem.F.type_list_append mt_append (pv 3) (pa_cons (pe_call G_variant (hr.mono (by omega)) rfl (m_variant T) (F_variant T).kp (B_variant T) .nil (passes_call (takes_of rfl rfl rfl rfl) (fun _ _ _ _ z => z)) (pa_cons (pv 1) pa_nil)) pa_nil)))) (pss_cons (ps_expr (pe_meth (pv 1) (c_Reader T) (mt_expect T) G_Reader_expect (hr.mono (by omega)) (B_Reader_expect T) .nil (passes_call (takes_of rfl rfl rfl rfl) (fun _ _ _ _ z => z)) (pa_cons pe_str pa_nil))) (pss_one (ps_expr (pe_bm PySem.F.plainAttrs_list PySem.F.slot_list_append PySem.F.type_list_append mt_append (pv 4) (pa_cons (pe_call G_function (hr.mono (by omega)) rfl (m_function T) (F_function T).kp (B_function T) .nil (passes_call (takes_of rfl rfl rfl rfl) (fun _ _ _ _ z => z)) (pa_cons (pv 1) pa_nil)) pa_nil)))))))))) (pss_one (ps_ret (pe_tup (pa_cons (pe_callTy call_tuple_of (by rfl) (z_tuple T) (by decide +kernel) (pa_cons (pv 2) pa_nil)) (pa_cons (pe_callTy call_tuple_of (by rfl) (z_tuple T) (by decide +kernel) (pa_cons (pv 3) pa_nil)) (pa_cons (pe_callTy call_tuple_of (by rfl) (z_tuple T) (by decide +kernel) (pa_cons (pv 4) pa_nil)) pa_nil))))))))))), ?_⟩
  refine ⟨_, rfl, text, ps, rfl, ht, ha, hl, hpl, ?_⟩
  intro b ts H1 hb s1 hb1 dts p dx hp hdx hne
  have s2 : Same H1 (upd (upd H1 dx (.own p)) p (.ins (aR K) dx [])) := fun c o e => by
    rw [upd_ne (ne_of_none e hp), upd_ne (ne_of_none e hdx)]
    exact e
  refine ⟨p, dx, b, ts, _, rfl, upd_same, s2 _ _ hb1, dts_keep (same_kt s2) dts, place_endF ps 1 1 ha, ?_⟩
  intro H2 k2 R2
  refine ⟨rfl, ?_⟩
  have hp0 : H0 p = none := by
    cases e : H0 p with
    | none => rfl
    | some o => rw [s1 _ _ e] at hp; cases hp
  have k0 : Keep p H0 H2 := (same_kp (s1.trans s2)).trans k2
  have h' : (parseP n (place ps 1 1)).wp (fun a r => ∀ v H', Keep p H0 H' → RdAt K H' p b r → Dt K H' v (Pr.d a) → Q v H') (fun r => Bad K p H0 E r) :=
    Ko.R.mono h (fun a r o v H' k _ d => o v H' (keep_same hp0 k) d) fun r o d H' k e => o d H' (keep_same hp0 k) e
  refine ⟨Nat.zero_le _, fun q1 hq1 => ?_⟩
  have sn1 := same_new hq1 (.lst [])
  have L1 := lst_new hq1 k0 R2
  have R3 := R2.same sn1
  have k3 := k0.trans (same_kp sn1)
  refine ⟨Nat.zero_le _, fun q2 hq2 => ?_⟩
  have sn2 := same_new hq2 (.lst [])
  have n12 : q1 ≠ q2 := ne_of_none upd_same hq2
  have L2 := lst_new hq2 k3 R3
  have L1' := L1.same sn2
  have R4 := R3.same sn2
  have k4 := k3.trans (same_kp sn2)
  refine ⟨Nat.zero_le _, fun q3 hq3 => ?_⟩
  have sn3 := same_new hq3 (.lst [])
  have n23 : q2 ≠ q3 := ne_of_none upd_same hq3
  have n13 : q1 ≠ q3 := by
    refine ne_of_none (o := .lst []) ?_ hq3
    rw [upd_ne n12]
    exact upd_same
  have L3 := lst_new hq3 k4 R4
  refine while_fuel (fun m σ' H' => ∃ (pr : Pr) (r : List Tok), σ' = [some (.str text), some (.ref p), some (.ref q1), some (.ref q2), some (.ref q3)] ∧ Lst K H0 H' p b q1 (pr.recs.map recD) ∧ Lst K H0 H' p b q2 (pr.vars.map varD) ∧ Lst K H0 H' p b q3 (pr.fns.map Fn.d) ∧
      Keep p H0 H' ∧ RdAt K H' p b r ∧ m ≤ n ∧ pr.recs.length + pr.vars.length + pr.fns.length + m ≤ n ∧
      (progL m pr r).wp (fun a r => ∀ v H', Keep p H0 H' → RdAt K H' p b r → Dt K H' v (Pr.d a) → Q v H') (fun r => Bad K p H0 E r)) n ?_ ?_ ?_
  · exact ⟨⟨[], [], []⟩, _, rfl, L1'.same sn3, L2.same sn3, L3, k4.trans (same_kp sn3), R4.same sn3, Nat.le_refl _, by simp, h'⟩
  · rintro σ' H' ⟨pr, r, _, _, _, _, _, _, _, _, h⟩
    exact h.elim
  · clear h h' L1 L2 L1' L3 R2 R3 R4 k0 k2 k3 k4
    rintro m σ' H' ⟨pr, r, rfl, L1, L2, L3, k, R, hm, hlen, h⟩
    unfold progL at h
    refine me0 R rfl (go_atEnd R h ?_ ?_)
    · intro h2
      refine ⟨rfl, _, rfl, ?_⟩
      refine iteF ?_
      obtain ⟨_, _, _, vs1, hv1, dd1⟩ := id L1
      refine ⟨_, rfl, q1, vs1, rfl, .inl ⟨SqL.of hv1, fun t1 ht1 => ?_⟩⟩
      have s4 := same_new ht1 (.tup vs1)
      have d4 := dt_new ht1 dd1
      obtain ⟨_, _, _, vs2, hv2, dd2⟩ := id (L2.same s4)
      refine ⟨_, rfl, q2, vs2, rfl, .inl ⟨SqL.of hv2, fun t2 ht2 => ?_⟩⟩
      have s5 := same_new ht2 (.tup vs2)
      have d5 := dt_new ht2 dd2
      obtain ⟨_, _, _, vs3, hv3, dd3⟩ := id ((L3.same s4).same s5)
      refine ⟨_, rfl, q3, vs3, rfl, .inl ⟨SqL.of hv3, fun t3 ht3 => ?_⟩⟩
      have s6 := same_new ht3 (.tup vs3)
      have d6 := dt_new ht3 dd3
      refine ⟨(by show 3 ≤ sizeLine; decide), fun q hq => ?_⟩
      have s7 := ((s4.trans s5).trans s6).trans (same_new hq (.tup [.ref t1, .ref t2, .ref t3]))
      exact h2 _ _ (k.trans (same_kp s7)) (R.same s7) (dt_new hq (.cons (dt_keep (same_kt (s5.trans s6)) d4) (.cons (dt_keep (same_kt s6) d5) (.cons d6 .nil))))
    intro hne h2
    refine ⟨rfl, _, rfl, ?_⟩
    rw [decide_eq_false (fun z => hne (V.str.inj z))]
    refine iteT ⟨_, fun σ' H' w' => ⟨m, Nat.lt_succ_self m, w'⟩, ?_⟩
    refine me1c R rfl (go_skip R k h2 ?_ ?_)
    · intro c H2 k1 k2 R2 h2
      have L1 := L1.keep k1 R
      have L2 := L2.keep k1 R
      have L3 := L3.keep k1 R
      refine ⟨_, rfl, iteT ?_⟩
      refine ap L1.ty rfl (ca rfl (go_fuel (by omega) R2 k2 (wp_bind.mp h2) ?_))
      intro a r v H3 h3 k4 k5 R3 d3
      have L1 := L1.keep k4 R2
      have L2 := L2.keep k4 R2
      have L3 := L3.keep k4 R2
      refine go_append_u L1 R3 k5 d3 (by rw [List.length_map]; exact line_of (by omega)) ?_
      intro vs vs' hvs L4 k6 R4
      exact ⟨{ pr with recs := pr.recs ++ [a] }, r, rfl, by rw [map_snoc]; exact L4, L2.other hvs n12.symm, L3.other hvs n13.symm, k6, R4, by omega, by simp only [List.length_append, List.length_cons, List.length_nil]; omega, h3⟩
    intro c H2 k1 k2 R2 h2
    have L1 := L1.keep k1 R
    have L2 := L2.keep k1 R
    have L3 := L3.keep k1 R
    refine ⟨_, rfl, iteF ?_⟩
    refine me1c R2 rfl (go_skip R2 k2 h2 ?_ ?_)
    · intro c H3 k1 k2 R3 h3
      have L1 := L1.keep k1 R2
      have L2 := L2.keep k1 R2
      have L3 := L3.keep k1 R2
      refine ⟨_, rfl, iteT ?_⟩
      refine ap L2.ty rfl (ca rfl (go_fuel (by omega) R3 k2 (wp_bind.mp h3) ?_))
      intro a r v H4 h4 k4 k5 R4 d3
      have L1 := L1.keep k4 R3
      have L2 := L2.keep k4 R3
      have L3 := L3.keep k4 R3
      refine go_append_u L2 R4 k5 d3 (by rw [List.length_map]; exact line_of (by omega)) ?_
      intro vs vs' hvs L4 k6 R5
      exact ⟨{ pr with vars := pr.vars ++ [a] }, r, rfl, L1.other hvs n12, by rw [map_snoc]; exact L4, L3.other hvs n23.symm, k6, R5, by omega, by simp only [List.length_append, List.length_cons, List.length_nil]; omega, h4⟩
    intro c H3 k3 k4 R3 h3
    have L1 := L1.keep k3 R2
    have L2 := L2.keep k3 R2
    have L3 := L3.keep k3 R2
    refine ⟨_, rfl, iteF ?_⟩
    refine me1c R3 rfl (go_expect R3 k4 h3 ?_)
    intro c H4 k5 k6 R4 h4
    have L1 := L1.keep k5 R3
    have L2 := L2.keep k5 R3
    have L3 := L3.keep k5 R3
    refine ap L3.ty rfl (ca rfl (go_fuel (by omega) R4 k6 (wp_bind.mp h4) ?_))
    intro a r v H5 h5 k7 k8 R5 d3
    have L1 := L1.keep k7 R4
    have L2 := L2.keep k7 R4
    have L3 := L3.keep k7 R4
    refine go_append_u L3 R5 k8 d3 (by rw [List.length_map]; exact line_of (by omega)) ?_
    intro vs vs' hvs L4 k6 R5
    exact ⟨{ pr with fns := pr.fns ++ [a] }, r, rfl, L1.other hvs n13, L2.other hvs n23, by rw [map_snoc]; exact L4, k6, R5, by omega, by simp only [List.length_append, List.length_cons, List.length_nil]; omega, h5⟩
end
end Ko
end
section
set_option Elab.async false
set_option linter.all false
set_option maxRecDepth 100000
set_option maxHeartbeats 4000000
/-! The defs of tokens -/
namespace Ko
open PySem PySem.Spec PyProof.Rows L2
section
variable {P : Program} {w : World} {K : PySem.W.Frag} {mg : Str → Option Value} {base : Heap}
theorem dec_ch {c d : Nat} {z : Str} (hz : z = ⟨#[d]⟩) : decide (V.str ⟨#[c]⟩ = V.str z) = decide (c = d) := by
  rw [decide_eq_decide, hz]
  constructor
  · intro h
    cases h
    rfl
  · intro h
    rw [h]
theorem at_mid {text : Str} {A B : List Nat} {c : Nat} {i : Int} (ht : TL.tl text = A ++ c :: B) (hi : i = A.length) : atI text.cps.toList i = some c := by
  subst hi
  refine atI_nat ?_
  show (TL.tl text)[A.length]? = some c
  rw [ht, List.getElem?_append_right (Nat.le_refl _)]
  simp
theorem t_or {a b : TT} {σ : L2.St} {H : Hp} {Q : Bool → Hp → Prop} (f g : Bool) (ha : ∀ Q' : Bool → Hp → Prop, Q' f H → a σ H Q') (hb : ∀ Q' : Bool → Hp → Prop, Q' g H → b σ H Q') (h : Q (f || g) H) : tOr a b σ H Q := by
  refine ha _ ?_
  cases f with
  | true => exact iteT h
  | false => exact iteF (hb _ h)
/-- text[i] in a constant -/
theorem in_ch {text z : Str} {σ : L2.St} {H : Hp} {i j : Nat} {k : Int} {c : Nat} (h0 : σ[i]? = some (some (.str text))) (h1 : σ[j]? = some (some (.int k))) (hl : text.length ≤ sizeLine) (hc : atI text.cps.toList k = some c) (Q : Bool → Hp → Prop) (h : Q (decide (c ∈ z.cps.toList)) H) :
    tTest (tOp (fun x y H Q => ∃ c z, x = V.str { cps := #[c] } ∧ y = V.str z ∧ Q (V.bl (decide (c ∈ z.cps.toList))) H) (tOp rIxS (tVar i) (tVar j)) (tC (V.str z))) σ H Q :=
  ⟨_, h0, _, h1, text, _, c, rfl, rfl, hl, hc, c, _, rfl, rfl, _, rfl, h⟩
/-- text[i] == a sign -/
theorem eq_ch {text z : Str} {σ : L2.St} {H : Hp} {i j : Nat} {k : Int} {c d : Nat} (h0 : σ[i]? = some (some (.str text))) (h1 : σ[j]? = some (some (.int k))) (hl : text.length ≤ sizeLine) (hc : atI text.cps.toList k = some c) (hz : z = ⟨#[d]⟩) (Q : Bool → Hp → Prop) (h : Q (decide (c = d)) H) :
    tTest (tOp rEq (tOp rIxS (tVar i) (tVar j)) (tC (V.str z))) σ H Q :=
  ⟨_, h0, _, h1, text, _, c, rfl, rfl, hl, hc, rfl, _, rfl, by rw [dec_ch hz]; exact h⟩
/-- word_end(text, start) -/
def spWordEnd : Sp := fun vs H Q _ => ∃ (text : Str) (A W B : List Nat) (i : Int), vs = [.str text, .int i] ∧ i = A.length ∧ TL.tl text = A ++ W ++ B ∧ (∀ c ∈ W, isWc c = true) ∧ (∀ c, B.head? = some c → isWc c = false) ∧ text.length ≤ sizeLine ∧ Q (.int ((A.length : Int) + W.length)) H
theorem ok_word_end (T : Tx K mg) : FnOk P w K mg base CX0 1 (a_word_end K) (fdOf K d_word_end) ["text", "start"] spWordEnd := by
  refine (F_word_end T).ok sc_word_end (fun vs H Q E h => ?_) (fun cdv A0 outer s H vs Q E hr h => ?_)
  · obtain ⟨text, A, W, B, i, rfl, _⟩ := h
    rfl
  obtain ⟨text, A, W, B, i, rfl, rfl, ht, hW, hB, hl, q⟩ := h
  refine ⟨_, PSs.nox (pss_cons (ps_set (i := 2) sc_word_end.nd rfl (Or.inl rfl) (pv 1)) (pss_cons (ps_while PassesOwn.never (PW.pt (pw_and (pt_cmpR op_lt (pv 2) (pe_callB call_len_str (by rfl) (z_len T) PySem.boot_len (pa_cons (pv 0) pa_nil)) (nomark _)) (pw_and1 (PW.pt (pw_or (pt_cmpR op_in_sign (pe_ix ix_str (pv 0) (pv 2) (fun _ _ => rfl)) (pe_gstr (m_LETTERS T)) (by rfl)) (pw_or (pt_cmpR op_in_sign (pe_ix ix_str (pv 0) (pv 2) (fun _ _ => rfl)) (pe_gstr (m_DIGITS T)) (by rfl)) (pw_or1 (pt_cmpR op_eq (pe_ix ix_str (pv 0) (pv 2) (fun _ _ => rfl)) pe_str (nomark _))))))))) (pss_one (ps_aug (i := 2) sc_word_end.nd rfl (Or.inl rfl) pe_int ip_add))) (pss_one (ps_ret (pv 2))))), ?_⟩
  refine ⟨_, rfl, ?_⟩
  have hlen : text.length = A.length + (W.length + B.length) := by rw [TL.len_tl, ht]; simp
  refine ⟨fun m σ' H' => ∃ k : Nat, σ' = [some (.str text), some (.int (A.length : Int)), some (.int ((A.length : Int) + k))] ∧ H' = H ∧ k + m = W.length, ⟨W.length, 0, by simp; rfl, rfl, by simp⟩, ?_⟩
  rintro m σ' H' ⟨k, rfl, rfl, hk⟩
  refine ⟨_, rfl, _, rfl, text, rfl, hl, _, _, rfl, rfl, _, rfl, ?_⟩
  have hz : (A.length : Int) + k < text.length ∨ ¬ (A.length : Int) + k < text.length := Decidable.em _
  rcases hz with hz | hz
  · rw [decide_eq_true hz]
    refine iteT ?_
    have hget : ∃ c, (W ++ B)[k]? = some c ∧ (isWc c = true ↔ k < W.length) := by
      have h2 : k < (W ++ B).length := by rw [List.length_append]; omega
      refine ⟨_, List.getElem?_eq_getElem h2, ?_⟩
      by_cases h3 : k < W.length
      · rw [List.getElem_append_left h3]
        exact ⟨fun _ => h3, fun _ => hW _ (List.getElem_mem h3)⟩
      · rw [List.getElem_append_right (by omega)]
        refine ⟨fun z => ?_, fun z => absurd z h3⟩
        have e : k - W.length = 0 := by omega
        have := hB _ (by rw [List.head?_eq_getElem?]; exact List.getElem?_eq_getElem (by rw [List.length_append] at h2; omega))
        simp only [e] at z
        rw [this] at z
        cases z
    obtain ⟨c, hc, hk2⟩ := hget
    have hc2 : atI text.cps.toList ((A.length : Int) + k) = some c := by
      rw [show ((A.length : Int) + k) = ((A.length + k : Nat) : Int) by simp]
      refine atI_nat ?_
      show (TL.tl text)[A.length + k]? = some c
      rw [ht, List.append_assoc, List.getElem?_append_right (by omega)]
      simpa using hc
    refine t_or (isLe c) (isDi c || decide (c = 95)) (in_ch rfl rfl hl hc2) (fun Q' h' => t_or _ _ (in_ch rfl rfl hl hc2) (eq_ch rfl rfl hl hc2 (by decide +kernel)) h') ?_
    have ew : (isLe c || (isDi c || decide (c = 95))) = isWc c := by unfold isWc; rw [Bool.or_assoc]
    rw [ew]
    cases hw : isWc c with
    | true =>
      have h3 := hk2.mp hw
      refine iteT ⟨_, fun σ' H' w' => ⟨W.length - (k + 1), by omega, w'⟩, _, rfl, _, _, rfl, rfl, k + 1, ?_, rfl, by omega⟩
      exact congrArg (fun z => [some (V.str text), some (V.int (A.length : Int)), some (V.int z)]) (show (A.length : Int) + k + 1 = A.length + ((k + 1 : Nat) : Int) by omega)
    | false =>
      refine iteF ?_
      have h3 : ¬ k < W.length := fun z => by rw [hk2.mpr z] at hw; cases hw
      have e : (A.length : Int) + k = A.length + W.length := by omega
      refine ⟨_, rfl, ?_⟩
      rw [e]
      exact q
  · rw [decide_eq_false hz]
    refine iteF ?_
    refine iteF ?_
    have e : (A.length : Int) + k = A.length + W.length := by omega
    refine ⟨_, rfl, ?_⟩
    rw [e]
    exact q
theorem t_and {a b : TT} {σ : L2.St} {H : Hp} {Q : Bool → Hp → Prop} (f g : Bool) (ha : ∀ Q' : Bool → Hp → Prop, Q' f H → a σ H Q') (hb : ∀ Q' : Bool → Hp → Prop, Q' g H → b σ H Q') (h : Q (f && g) H) : tAnd a b σ H Q := by
  refine ha _ ?_
  cases f with
  | true => exact iteT (hb _ h)
  | false => exact iteF h
theorem for_str {x : Str} {g : TG} {tb : TS} {D : Ends} {σ : L2.St} {H : Hp} (Pv : Nat → L2.St → Hp → Prop) (h0 : Pv 0 σ H)
    (hs : ∀ i c σ H, (TL.tl x)[i]? = some c → Pv i σ H → g (.str ⟨#[c]⟩) σ H fun σ2 H2 => tb { D with nx := Pv (i + 1), ct := Pv (i + 1), bk := D.nx } σ2 H2) (hd : ∀ σ H, Pv (TL.tl x).length σ H → D.nx σ H) :
    ∃ W : Nat → Nat → L2.St → Hp → Prop, (∃ m, W 0 m σ H) ∧ ∀ i m σ H, W i m σ H →
      ((Its x).stop i H ∧ D.nx σ H) ∨ ((Its x).go i H ∧ ∃ N : L2.St → Hp → Prop, (∀ σ' H', N σ' H' → ∃ m', m' < m ∧ W (i + 1) m' σ' H') ∧ ∀ v H', (Its x).yld i H v H' → g v σ H' fun σ2 H2 => tb { D with nx := N, ct := N, bk := D.nx } σ2 H2) := by
  have hn : x.cps.size = (TL.tl x).length := by simp
  refine ⟨fun i m σ H => m = (TL.tl x).length - i ∧ i ≤ (TL.tl x).length ∧ Pv i σ H, ⟨(TL.tl x).length, by simp, Nat.zero_le _, h0⟩, ?_⟩
  rintro i m σ H ⟨rfl, hi, p⟩
  by_cases hlt : i < (TL.tl x).length
  · refine .inr ⟨show i < x.cps.size by rw [hn]; exact hlt, Pv (i + 1), fun σ' H' p' => ⟨(TL.tl x).length - (i + 1), by omega, rfl, hlt, p'⟩, fun v H' y => ?_⟩
    obtain ⟨rfl, c, hc, rfl⟩ := y
    exact hs i c σ H' (by simpa using hc) p
  · have e : i = (TL.tl x).length := by omega
    subst e
    exact .inl ⟨show x.cps.size ≤ _ by rw [hn]; exact Nat.le_refl _, hd σ H p⟩
def numFact (n : Nat) : Bool := match TL.tl (numS n) with
  | [] => false
  | c :: r => (c :: r).all isDi && decide (c = 48 → r = []) && decide (r.length < 10) && decide (n ≤ 4294967295)
theorem numFact_all : ∀ n ∈ NUMS, numFact n = true := by decide +kernel
theorem num_fact {n : Nat} (h : n ∈ NUMS) : ∃ c r, TL.tl (numS n) = c :: r ∧ (∀ d ∈ c :: r, isDi d = true) ∧ (c = 48 → r = []) ∧ r.length < 10 ∧ n ≤ 4294967295 := by
  have q := numFact_all n h
  unfold numFact at q
  split at q
  · cases q
  · rename_i c r e
    simp only [Bool.and_eq_true, decide_eq_true_eq, List.all_eq_true] at q
    exact ⟨c, r, e, q.1.1.1, q.1.1.2, q.1.2, q.2⟩
/-- is_number(word) -/
def spIsNum : Sp := fun vs H Q _ => ∃ n ∈ NUMS, vs = [.str (numS n)] ∧ Q (.bl true) H
theorem ok_is_number (T : Tx K mg) : FnOk P w K mg base CX0 1 (a_is_number K) (fdOf K d_is_number) ["word"] spIsNum := by
  refine (F_is_number T).ok sc_is_number (fun vs H Q E h => ?_) (fun cdv A0 outer s H vs Q E hr h => ?_)
  · obtain ⟨n, _, rfl, _⟩ := h
    rfl
  obtain ⟨n, hn, rfl, q⟩ := h
  refine ⟨_, PSs.nox (pss_cons (ps_if (PW.pt (pw_or (pt_cmpR op_eq (pv 0) pe_str (nomark _)) (pw_or (pt_cmpR op_gt (pe_callB call_len_str (by rfl) (z_len T) PySem.boot_len (pa_cons (pv 0) pa_nil)) pe_int (nomark _)) (pw_or1 (PW.pt (pw_and (pt_cmpR op_eq (pe_ix ix_str (pv 0) pe_int (fun _ _ => rfl)) pe_str (nomark _)) (pw_and1 (pt_cmpR op_gt (pe_callB call_len_str (by rfl) (z_len T) PySem.boot_len (pa_cons (pv 0) pa_nil)) pe_int (nomark _))))))))) (pss_one (ps_ret pe_bl)) pss_nil) (pss_cons (ps_for PassesOwn.never rfl (pi_str (pv 0)) (pg_name (i := 1) sc_is_number.nd rfl (Or.inl rfl)) (pss_one (ps_if (pt_cmpR op_notIn_sign (pv 1) (pe_gstr (m_DIGITS T)) (by rfl)) (pss_one (ps_ret pe_bl)) pss_nil))) (pss_one (ps_ret (pe_cmpR op_le (pe_callTy call_int_str (by rfl) (z_int T) (by decide +kernel) (pa_cons (pv 0) pa_nil)) (pe_gint (m_MOST T)) (nomark _)))))), ?_⟩
  obtain ⟨c, r, e, hd, h0, hl, hm⟩ := num_fact hn
  have hlen : (numS n).length = r.length + 1 := by rw [TL.len_tl, e]; rfl
  have hsz : (numS n).length ≤ sizeLine := by rw [hlen, show sizeLine = 16777216 from rfl]; omega
  have c1 : decide (V.str (numS n) = V.str "") = false := decide_eq_false fun z => by
    have : (numS n).length = 0 := by rw [V.str.inj z]; rfl
    omega
  have c2 : decide (((numS n).length : Int) > 10) = false := decide_eq_false (by omega)
  refine t_or false false (fun Q' h' => ⟨_, rfl, rfl, _, rfl, by rw [c1]; exact h'⟩) (fun Q' h' => t_or false false (fun Q' h' => ⟨_, rfl, _, rfl, hsz, _, _, rfl, rfl, _, rfl, by rw [c2]; exact h'⟩) (fun Q' h' => ?_) h') ?_
  · refine t_and (decide (c = 48)) (decide (((numS n).length : Int) > 1)) (fun Q' h' => ⟨_, rfl, _, _, c, rfl, rfl, hsz, at_mid (A := []) (B := r) e rfl, rfl, _, rfl, by rw [dec_ch (d := 48) (by decide +kernel)]; exact h'⟩) (fun Q' h' => ⟨_, rfl, _, rfl, hsz, _, _, rfl, rfl, _, rfl, h'⟩) ?_
    have e3 : (decide (c = 48) && decide (((numS n).length : Int) > 1)) = false := by
      by_cases z : c = 48
      · rw [decide_eq_true z, Bool.true_and]
        refine decide_eq_false ?_
        rw [hlen, h0 z]
        simp
      · rw [decide_eq_false z, Bool.false_and]
    rw [e3]
    exact h'
  refine iteF ?_
  refine ⟨_, rfl, _, rfl, for_str (fun i σ' H' => (∃ wd, σ' = [some (.str (numS n)), wd]) ∧ H' = H) ⟨⟨none, rfl⟩, rfl⟩ ?_ ?_⟩
  · rintro i d σ' H' hd' ⟨⟨wd, rfl⟩, rfl⟩
    refine ⟨_, rfl, d, _, rfl, rfl, _, rfl, ?_⟩
    have hm' : isDi d = true := hd d (by rw [← e]; exact List.mem_of_getElem? hd')
    have e4 : (!decide (d ∈ (Str.ofString "0123456789").cps.toList)) = false := by
      have : decide (d ∈ (Str.ofString "0123456789").cps.toList) = isDi d := rfl
      rw [this, hm']
      rfl
    rw [e4]
    exact iteF ⟨⟨_, rfl⟩, rfl⟩
  · rintro σ' H' ⟨⟨wd, rfl⟩, rfl⟩
    refine ⟨_, rfl, _, n, rfl, numS_int (by omega), by omega, _, _, rfl, rfl, ?_⟩
    show Q (V.bl (decide ((n : Int) ≤ 4294967295))) H'
    rw [decide_eq_true (show ((n : Nat) : Int) ≤ 4294967295 by omega)]
    exact q
/-- word_kind(word, row, column) -/
def spWordKind : Sp := fun vs H Q _ => ∃ (t : Tk) (r c : Int), t.good = true ∧ t.isW = true ∧ vs = [.str t.txt, .int r, .int c] ∧ Q (.str t.knd) H
def kwV : List V := (Sym.all.filter Sym.isKw).map fun s => V.str s.txt
def wkFact (t : Tk) : Bool := if t.isW = true then decide (t.isNum = true → t.knd = "number") && (t.isNum || inV (V.str t.txt) kwV == decide (t.knd = "keyword")) && (decide (t.knd = "keyword") || decide (t.knd = "name") || t.isNum) else true
theorem wkFact_all : ∀ t ∈ goodL, wkFact t = true := by decide +kernel
theorem wk_fact {t : Tk} (g : t.good = true) (hw : t.isW = true) : (t.isNum = true ∧ t.knd = "number") ∨ (t.isNum = false ∧ inV (V.str t.txt) kwV = true ∧ t.knd = "keyword") ∨ (t.isNum = false ∧ inV (V.str t.txt) kwV = false ∧ t.knd = "name") := by
  have h := wkFact_all t (good_mem g)
  unfold wkFact at h
  rw [if_pos hw] at h
  simp only [Bool.and_eq_true, decide_eq_true_eq, Bool.or_eq_true, beq_iff_eq] at h
  obtain ⟨⟨h1, h2⟩, h3⟩ := h
  cases hn : t.isNum with
  | true => exact .inl ⟨rfl, h1 hn⟩
  | false =>
    rw [hn] at h2 h3
    rcases h2 with h2 | h2
    · cases h2
    rcases h3 with (h3 | h3) | h3
    · rw [decide_eq_true h3] at h2
      exact .inr (.inl ⟨rfl, h2, h3⟩)
    · rw [decide_eq_false (by rw [h3]; decide +kernel)] at h2
      exact .inr (.inr ⟨rfl, h2, h3⟩)
    · cases h3
theorem isNum_num {t : Tk} (g : t.good = true) (h : t.isNum = true) : ∃ n ∈ NUMS, t = .num n := by
  cases t with
  | num n => exact ⟨n, by simpa [Tk.good] using g, rfl⟩
  | _ => cases h
theorem ok_word_kind (T : Tx K mg) : FnOk P w K mg base CX0 2 (a_word_kind K) (fdOf K d_word_kind) ["word", "row", "column"] spWordKind := by
  have G_is_number := ok_is_number (P := P) (w := w) (base := base) T
  refine (F_word_kind T).ok sc_word_kind (fun vs H Q E h => ?_) (fun cdv A0 outer s H vs Q E hr h => ?_)
  · obtain ⟨t, r, c, _, _, rfl, _⟩ := h
    rfl
  obtain ⟨t, r0, c0, g, hw, rfl, q⟩ := h
  refine ⟨_, PSs.nox (pss_cons (ps_if (pt_cmpR op_in_sign (pe_ix ix_str (pv 0) pe_int (fun _ _ => rfl)) (pe_gstr (m_DIGITS T)) (by rfl)) (pss_cons (ps_if (pt_not (pt_val (pe_call G_is_number (hr.mono (by omega)) rfl (m_is_number T) (F_is_number T).kp (B_is_number T) .nil pass0 (pa_cons (pv 0) pa_nil)))) (pss_one ps_never) pss_nil) (pss_one (ps_ret pe_str))) pss_nil) (pss_cons (ps_if (pt_cmpR op_in_seq (pv 0) (pe_gref (m_KEYWORDS T)) (by rfl)) (pss_one (ps_ret pe_str)) pss_nil) (pss_one (ps_ret pe_str)))), ?_⟩
  obtain ⟨c, r, e, _, _, hl, _, hd⟩ := tk_w g hw
  have hlen : t.txt.length = r.length + 1 := by rw [TL.len_tl, e]; rfl
  have hsz : t.txt.length ≤ sizeLine := by rw [hlen, show sizeLine = 16777216 from rfl]; omega
  refine ⟨_, rfl, _, _, c, rfl, rfl, hsz, at_mid (A := []) (B := r) e rfl, c, _, rfl, rfl, _, rfl, ?_⟩
  have ed : decide (c ∈ (Str.ofString "0123456789").cps.toList) = isDi c := rfl
  rw [ed, hd]
  rcases wk_fact g hw with ⟨h1, h2⟩ | ⟨h1, h2, h3⟩ | ⟨h1, h2, h3⟩
  · rw [h1]
    obtain ⟨n, hn, rfl⟩ := isNum_num g h1
    refine iteT ?_
    refine ⟨_, rfl, n, hn, rfl, _, rfl, iteF ?_⟩
    rw [h2] at q
    exact q
  · rw [h1]
    refine iteF ⟨_, rfl, _, _, rfl, .inr (t_KEYWORDS T _), rfl, rfl, _, rfl, ?_⟩
    rw [h3] at q
    have e2 : (if false = true then !inV (V.str t.txt) kwV else inV (V.str t.txt) kwV) = true := h2
    refine (show (if (if false = true then !inV (V.str t.txt) kwV else inV (V.str t.txt) kwV) = true then _ else _) from ?_)
    rw [e2]
    exact iteT q
  · rw [h1]
    refine iteF ⟨_, rfl, _, _, rfl, .inr (t_KEYWORDS T _), rfl, rfl, _, rfl, ?_⟩
    rw [h3] at q
    have e2 : (if false = true then !inV (V.str t.txt) kwV else inV (V.str t.txt) kwV) = false := h2
    refine (show (if (if false = true then !inV (V.str t.txt) kwV else inV (V.str t.txt) kwV) = true then _ else _) from ?_)
    rw [e2]
    exact iteF q
/-- token_at(text, start, row, column) -/
def spTokAt (K : PySem.W.Frag) : Sp := fun vs H Q _ => ∃ (text : Str) (A B : List Nat) (t : Tk) (i r c : Int), vs = [.str text, .int i, .int r, .int c] ∧ i = A.length ∧ TL.tl text = A ++ TL.tl t.txt ++ B ∧ t.good = true ∧
  (∀ c, B.head? = some c → (t.isW = true → isWc c = false) ∧ (t = .sym .eq → c ≠ 61) ∧ c ≠ 62) ∧ text.length ≤ sizeLine ∧ ∀ v H', Same H H' → Dt K H' v (.tuple [tokD ⟨t, r, c⟩, .int (A.length + t.txt.length : Nat)]) → Q v H'
theorem tl_cut {z : Str} {A W B : List Nat} {i j : Int} (h : TL.tl z = A ++ W ++ B) (hi : i = A.length) (hj : j = A.length + W.length) : TL.tl (cutS z (some i) (some j)) = W := by
  have hl : z.length = A.length + W.length + B.length := by rw [TL.len_tl, h]; simp only [List.length_append]
  show ((z.cps.toList.drop (HT.sIx z.length 0 (some i))).take (HT.sIx z.length z.length (some j) - HT.sIx z.length 0 (some i))) = W
  subst hi
  rw [hj, show (A.length : Int) + W.length = ((A.length + W.length : Nat) : Int) by simp, HT.sIx_nat, HT.sIx_nat, show z.cps.toList = A ++ W ++ B from h, Nat.min_eq_left (by omega), Nat.min_eq_left (by omega), List.append_assoc, List.drop_left', Nat.add_sub_cancel_left, List.take_left']
  · rfl
  · rfl
theorem cut_eq {z x : Str} {A B : List Nat} {i j : Int} (h : TL.tl z = A ++ TL.tl x ++ B) (hi : i = A.length) (hj : j = A.length + (TL.tl x).length) : cutS z (some i) (some j) = x := TL.ext_tl (tl_cut h hi hj)
theorem dt_int {H : Hp} {i j : Int} (h : i = j) : Dt K H (.int i) (.int j) := h ▸ .int i
theorem tl_cut2 {z : Str} {A R : List Nat} {i j : Int} (h : TL.tl z = A ++ R) (hi : i = A.length) (hj : j = i + 2) : TL.tl (cutS z (some i) (some j)) = R.take 2 := by
  have hl : z.length = A.length + R.length := by rw [TL.len_tl, h]; simp only [List.length_append]
  show ((z.cps.toList.drop (HT.sIx z.length 0 (some i))).take (HT.sIx z.length z.length (some j) - HT.sIx z.length 0 (some i))) = _
  subst hi
  rw [hj, show (A.length : Int) + 2 = ((A.length + 2 : Nat) : Int) by simp, HT.sIx_nat, HT.sIx_nat, show z.cps.toList = A ++ R from h, Nat.min_eq_left (show A.length ≤ z.length by omega), List.drop_left' rfl]
  by_cases hr : R.length < 2
  · rw [Nat.min_eq_right (show z.length ≤ A.length + 2 by omega), hl, Nat.add_sub_cancel_left, List.take_length, List.take_of_length_le (by omega)]
  · rw [Nat.min_eq_left (show A.length + 2 ≤ z.length by omega), Nat.add_sub_cancel_left]
def longV : List V := [.str "==", .str "->"]
theorem ok_token_at (T : Tx K mg) : FnOk P w K mg base CX0 3 (a_token_at K) (fdOf K d_token_at) ["text", "start", "row", "column"] (spTokAt K) := by
  have G_word_end := ok_word_end (P := P) (w := w) (base := base) T
  have G_word_kind := ok_word_kind (P := P) (w := w) (base := base) T
  refine (F_token_at T).ok sc_token_at (fun vs H Q E h => ?_) (fun cdv A0 outer s H vs Q E hr h => ?_)
  · obtain ⟨text, A, B, t, i, r, c, rfl, _⟩ := h
    rfl
  obtain ⟨text, A, B, t, i, r0, c0, rfl, hi, ht, g, hB, hl, q⟩ := h
  refine ⟨_, PSs.nox (pss_cons (ps_set (i := 4) sc_token_at.nd rfl (Or.inl rfl) (pe_ix ix_str (pv 0) (pv 1) (fun _ _ => rfl))) (pss_cons (ps_if (PW.pt (pw_or (pt_cmpR op_in_sign (pv 4) (pe_gstr (m_LETTERS T)) (by rfl)) (pw_or1 (pt_cmpR op_in_sign (pv 4) (pe_gstr (m_DIGITS T)) (by rfl))))) (pss_cons (ps_set (i := 5) sc_token_at.nd rfl (Or.inl rfl) (pe_slice sl_str (pv 0) (po_some (pv 1)) (po_some (pe_call G_word_end (hr.mono (by omega)) rfl (m_word_end T) (F_word_end T).kp (B_word_end T) .nil pass0 (pa_cons (pv 0) (pa_cons (pv 1) pa_nil)))))) (pss_one (ps_ret (pe_tup (pa_cons (pe_tup (pa_cons (pe_call G_word_kind (hr.mono (by omega)) rfl (m_word_kind T) (F_word_kind T).kp (B_word_kind T) .nil pass0 (pa_cons (pv 5) (pa_cons (pv 2) (pa_cons (pv 3) pa_nil)))) (pa_cons (pv 5) (pa_cons (pv 2) (pa_cons (pv 3) pa_nil))))) (pa_cons (pe_op op_add (pv 1) (pe_callB call_len_str (by rfl) (z_len T) PySem.boot_len (pa_cons (pv 5) pa_nil))) pa_nil)))))) pss_nil) (pss_cons (ps_if (pt_cmpR op_in_seq (pe_slice sl_str (pv 0) (po_some (pv 1)) (po_some (pe_op op_add (pv 1) pe_int))) (pe_gref (m_LONG_SIGNS T)) (by rfl)) (pss_one (ps_ret (pe_tup (pa_cons (pe_tup (pa_cons pe_str (pa_cons (pe_slice sl_str (pv 0) (po_some (pv 1)) (po_some (pe_op op_add (pv 1) pe_int))) (pa_cons (pv 2) (pa_cons (pv 3) pa_nil))))) (pa_cons (pe_op op_add (pv 1) pe_int) pa_nil))))) pss_nil) (pss_cons (ps_if (pt_cmpR op_in_sign (pv 4) (pe_gstr (m_SHORT_SIGNS T)) (by rfl)) (pss_one (ps_ret (pe_tup (pa_cons (pe_tup (pa_cons pe_str (pa_cons (pv 4) (pa_cons (pv 2) (pa_cons (pv 3) pa_nil))))) (pa_cons (pe_op op_add (pv 1) pe_int) pa_nil))))) pss_nil) (pss_one ps_never))))), ?_⟩
  cases hw : t.isW with
  | true =>
    obtain ⟨c, r, e, hld, hwc, hrl, _, _⟩ := tk_w g hw
    have hx : TL.tl text = A ++ c :: (r ++ B) := by rw [ht, e]; simp
    refine ⟨_, rfl, _, rfl, text, _, c, rfl, rfl, hl, at_mid hx hi, ?_⟩
    refine ⟨_, rfl, c, _, rfl, rfl, _, rfl, ?_⟩
    rw [show decide (c ∈ (Str.ofString "abcdefghijklmnopqrstuvwxyzABCDEFGHIJKLMNOPQRSTUVWXYZ").cps.toList) = isLe c from rfl]
    have e1 : cutS text (some i) (some ((A.length : Int) + (TL.tl t.txt).length)) = t.txt := cut_eq ht hi rfl
    have hlt : t.txt.length ≤ sizeLine := by
      have : text.length = A.length + ((TL.tl t.txt).length + B.length) := by rw [TL.len_tl, ht]; simp
      rw [TL.len_tl]
      omega
    cases hle : isLe c
    case' true => refine iteT (iteT ?_)
    case' false =>
      have hdi : isDi c = true := by
        rw [hle] at hld
        exact hld
      refine iteF ⟨_, rfl, c, _, rfl, rfl, _, rfl, ?_⟩
      rw [show decide (c ∈ (Str.ofString "0123456789").cps.toList) = isDi c from rfl, hdi]
      refine iteT ?_
    all_goals
      refine ⟨_, rfl, _, rfl, _, rfl, _, rfl, _, rfl, text, A, TL.tl t.txt, B, _, rfl, hi, ht, by rw [e]; exact hwc, fun c' hc' => (hB c' hc').1 hw, hl, _, rfl, text, rfl, hl, ?_⟩
      rw [e1]
      refine ⟨_, rfl, _, rfl, _, rfl, t, r0, c0, g, hw, rfl, ?_⟩
      refine ⟨_, rfl, _, rfl, _, rfl, (by show 4 ≤ sizeLine; decide), fun a1 ha1 => ?_⟩
      refine ⟨_, rfl, _, rfl, _, rfl, hlt, _, _, rfl, rfl, (by show 2 ≤ sizeLine; decide), fun a2 ha2 => ?_⟩
      refine q _ _ ((same_new ha1 _).trans (same_new ha2 _)) (dt_new ha2 (.cons (dt_new ha1 (.cons (.str _) (.cons (.str _) (.cons (.int _) (.cons (.int _) .nil))))) (.cons (dt_int (by rw [hi]; show (A.length : Int) + t.txt.length = _; omega)) .nil)))
  | false =>
    obtain ⟨c, r, e, hle, hdi, _, _, hs⟩ := tk_s g hw
    have hx : TL.tl text = A ++ c :: (r ++ B) := by rw [ht, e]; simp
    refine ⟨_, rfl, _, rfl, text, _, c, rfl, rfl, hl, at_mid hx hi, ?_⟩
    refine ⟨_, rfl, c, _, rfl, rfl, _, rfl, ?_⟩
    rw [show decide (c ∈ (Str.ofString "abcdefghijklmnopqrstuvwxyzABCDEFGHIJKLMNOPQRSTUVWXYZ").cps.toList) = isLe c from rfl, hle]
    refine iteF ⟨_, rfl, c, _, rfl, rfl, _, rfl, ?_⟩
    rw [show decide (c ∈ (Str.ofString "0123456789").cps.toList) = isDi c from rfl, hdi]
    refine iteF ?_
    have ec := tl_cut2 hx hi rfl
    refine ⟨_, rfl, _, rfl, _, rfl, _, rfl, _, _, rfl, rfl, _, rfl, text, rfl, hl, _, _, rfl, .inr (t_LONG T _), rfl, rfl, _, rfl, ?_⟩
    refine (show (if (if false = true then !inV (V.str (cutS text (some i) (some (i + 2)))) longV else inV (V.str (cutS text (some i) (some (i + 2)))) longV) = true then _ else _) from ?_)
    have hBc : ∀ d, (r ++ B).head? = some d → r = [] → (t = .sym .eq → d ≠ 61) ∧ d ≠ 62 := fun d hd hr => by
      rw [hr] at hd
      exact (hB d hd).2
    rcases hs with ⟨hr, hsh, heq⟩ | ⟨d, hr, hdd⟩
    · have e2 : (if false = true then !inV (V.str (cutS text (some i) (some (i + 2)))) longV else inV (V.str (cutS text (some i) (some (i + 2)))) longV) = false := by
        rw [if_neg (by decide)]
        have n1 : cutS text (some i) (some (i + 2)) ≠ "==" := fun z => by
          rw [z, show TL.tl ("==" : Str) = [61, 61] by decide +kernel] at ec
          cases hrb : r ++ B with
          | nil => rw [hrb] at ec; simp at ec
          | cons d0 l0 =>
            rw [hrb] at ec
            simp at ec
            exact ((hBc d0 (by rw [hrb]; rfl) hr).1 (heq.mp ec.1.symm)) ec.2.symm
        have n2 : cutS text (some i) (some (i + 2)) ≠ "->" := fun z => by
          rw [z, show TL.tl ("->" : Str) = [45, 62] by decide +kernel] at ec
          cases hrb : r ++ B with
          | nil => rw [hrb] at ec; simp at ec
          | cons d0 l0 =>
            rw [hrb] at ec
            simp at ec
            exact ((hBc d0 (by rw [hrb]; rfl) hr).2) ec.2.symm
        simp only [inV, longV, List.any_cons, List.any_nil, eqV, Bool.or_false, Bool.or_eq_false_iff]
        exact ⟨beq_eq_false_iff_ne.mpr (Ne.symm n1), beq_eq_false_iff_ne.mpr (Ne.symm n2)⟩
      rw [e2]
      refine iteF ⟨_, rfl, c, _, rfl, rfl, _, rfl, ?_⟩
      rw [show decide (c ∈ (Str.ofString "{}()[],;:.=+-*<!").cps.toList) = isSh c from rfl, hsh]
      have hk : t.knd = "sign" := by
        cases t with
        | sym y =>
          have hy : y.isKw = false := hw
          show (if y.isKw = true then ("keyword" : Str) else "sign") = "sign"
          rw [hy]
          rfl
        | fin => cases g
        | _ => cases hw
      have hx2 : t.txt = ⟨#[c]⟩ := TL.ext_tl (by rw [e, hr])
      refine iteT ?_
      refine ⟨_, rfl, _, rfl, _, rfl, (by show 4 ≤ sizeLine; decide), fun a1 ha1 => ?_⟩
      refine ⟨_, rfl, _, _, rfl, rfl, (by show 2 ≤ sizeLine; decide), fun a2 ha2 => ?_⟩
      refine q _ _ ((same_new ha1 _).trans (same_new ha2 _)) (dt_new ha2 (.cons (dt_new ha1 ?_) (.cons (dt_int (by rw [hi, hx2]; show (A.length : Int) + 1 = _; simp [Str.length])) .nil)))
      show Dts K H _ [.str t.knd, .str t.txt, .int r0, .int c0]
      rw [hk, hx2]
      exact .cons (.str _) (.cons (.str _) (.cons (.int _) (.cons (.int _) .nil)))
    · have hx2 : cutS text (some i) (some (i + 2)) = t.txt := TL.ext_tl (by rw [ec, e, hr]; rfl)
      have e2 : (if false = true then !inV (V.str (cutS text (some i) (some (i + 2)))) longV else inV (V.str (cutS text (some i) (some (i + 2)))) longV) = true := by
        rw [if_neg (by decide), hx2]
        rcases hdd with h | h
        · rw [h.1]; decide +kernel
        · rw [h.1]; decide +kernel
      rw [e2]
      have hk : t.knd = "sign" ∧ t.txt.length = 2 := by
        rcases hdd with h | h
        · rw [h.1]; decide +kernel
        · rw [h.1]; decide +kernel
      refine iteT ?_
      refine ⟨_, rfl, _, rfl, _, rfl, _, rfl, _, _, rfl, rfl, _, rfl, text, rfl, hl, ?_⟩
      rw [show cutS text (some i) (some ((fun i j => i + j) i 2)) = t.txt from hx2]
      refine ⟨_, rfl, _, rfl, (by show 4 ≤ sizeLine; decide), fun a1 ha1 => ?_⟩
      refine ⟨_, rfl, _, _, rfl, rfl, (by show 2 ≤ sizeLine; decide), fun a2 ha2 => ?_⟩
      refine q _ _ ((same_new ha1 _).trans (same_new ha2 _)) (dt_new ha2 (.cons (dt_new ha1 ?_) (.cons (dt_int (by rw [hi, hk.2]; rfl)) .nil)))
      show Dts K H _ [.str t.knd, .str t.txt, .int r0, .int c0]
      rw [hk.1]
      exact .cons (.str _) (.cons (.str _) (.cons (.int _) (.cons (.int _) .nil)))
/-- comment_end(text, start) -/
def spCmEnd : Sp := fun vs H Q _ => ∃ (text : Str) (A C : List Nat) (i : Int), vs = [.str text, .int i] ∧ i = A.length ∧ TL.tl text = A ++ C ∧ 10 ∉ C ∧ text.length ≤ sizeLine ∧ Q (.int text.length) H
theorem ok_comment_end (T : Tx K mg) : FnOk P w K mg base CX0 1 (a_comment_end K) (fdOf K d_comment_end) ["text", "start"] spCmEnd := by
  refine (F_comment_end T).ok sc_comment_end (fun vs H Q E h => ?_) (fun cdv A0 outer s H vs Q E hr h => ?_)
  · obtain ⟨text, A, C, i, rfl, _⟩ := h
    rfl
  obtain ⟨text, A, C, i, rfl, hi, ht, hC, hl, q⟩ := h
  refine ⟨_, PSs.nox (pss_cons (ps_set (i := 2) sc_comment_end.nd rfl (Or.inl rfl) (pe_bm PySem.F.plainAttrs_str PySem.F.slot_str_find PySem.F.type_str_find mt_find3 (pv 0) (pa_cons pe_str (pa_cons (pv 1) pa_nil)))) (pss_cons (ps_if (pt_cmpR op_lt (pv 2) pe_int (nomark _)) (pss_one (ps_ret (pe_callB call_len_str (by rfl) (z_len T) PySem.boot_len (pa_cons (pv 0) pa_nil)))) pss_nil) (pss_one (ps_ret (pv 2))))), ?_⟩
  have hf : Txt.find3 text "\n" i = -1 := by
    have hn : ("\n" : Str) = ⟨#[10]⟩ := by decide +kernel
    rw [hn]
    rcases StrLaws.find3_spec text 10 i with ⟨h, _⟩ | ⟨k, _, h1, h2, h3, _⟩
    · exact h
    · exfalso
      have h4 := StrLaws.getElem?_of_getD h2 h3
      have h5 : fromIndex text.length i = A.length := by
        rw [hi]
        unfold fromIndex
        rw [if_neg (by omega)]
        omega
      rw [h5] at h1
      have h6 : (A ++ C)[k]? = some 10 := by
        rw [← ht]
        exact h4
      rw [List.getElem?_append_right h1] at h6
      exact hC (List.mem_of_getElem? h6)
  refine ⟨_, rfl, rfl, _, rfl, text, _, i, rfl, rfl, ?_⟩
  rw [hf]
  refine ⟨_, rfl, _, _, rfl, rfl, _, rfl, iteT ?_⟩
  exact ⟨_, rfl, _, rfl, hl, q⟩
theorem same_upd {H0 H : Hp} {q : Addr} (h0 : H0 q = none) (s : Same H0 H) (o : HO) : Same H0 (upd H q o) := fun b u h => by
  rw [upd_ne (ne_of_none h h0)]
  exact s b u h
theorem nl_s : ("\n" : Str) = ⟨#[10]⟩ := by decide +kernel
theorem sp_s : (" " : Str) = ⟨#[32]⟩ := by decide +kernel
theorem cm_s : ("#" : Str) = ⟨#[35]⟩ := by decide +kernel
theorem adj_cm {r : List Pc} (h : okAdj (.cm :: r) = true) : r = [] := by simpa [okAdj] using h
theorem cm_cs : ∃ l, Pc.cm.cs = 35 :: l ∧ 10 ∉ 35 :: l ∧ (35 :: l).length = cmS.length := by
  refine ⟨(Pc.cm.cs).tail, by decide +kernel, by decide +kernel, by decide +kernel⟩
theorem ok_tokens (T : Tx K mg) : FnOk P w K mg base CX0 4 (a_tokens K) (fdOf K d_tokens) ["text"] (spTokens K) := by
  have G_comment_end := ok_comment_end (P := P) (w := w) (base := base) T
  have G_token_at := ok_token_at (P := P) (w := w) (base := base) T
  refine (F_tokens T).ok sc_tokens (fun vs H Q E h => ?_) (fun cdv A0 outer s H0 vs Q E hr h => ?_)
  · obtain ⟨text, ps, rfl, _⟩ := h
    rfl
  obtain ⟨text, ps, rfl, ht, ha, hl, hpl, h⟩ := h
  refine ⟨_, PSs.nox (pss_cons (ps_set (i := 1) sc_tokens.nd rfl (Or.inl rfl) (pe_lst pa_nil)) (pss_cons (ps_set (i := 2) sc_tokens.nd rfl (Or.inl rfl) pe_int) (pss_cons (ps_set (i := 3) sc_tokens.nd rfl (Or.inl rfl) pe_int) (pss_cons (ps_set (i := 4) sc_tokens.nd rfl (Or.inl rfl) pe_int) (pss_cons (ps_while PassesOwn.never (pt_cmpR op_lt (pv 2) (pe_callB call_len_str (by rfl) (z_len T) PySem.boot_len (pa_cons (pv 0) pa_nil)) (nomark _)) (pss_one (ps_if (pt_cmpR op_eq (pe_ix ix_str (pv 0) (pv 2) (fun _ _ => rfl)) pe_str (nomark _)) (pss_cons (ps_aug (i := 2) sc_tokens.nd rfl (Or.inl rfl) pe_int ip_add) (pss_cons (ps_aug (i := 3) sc_tokens.nd rfl (Or.inl rfl) pe_int ip_add) (pss_one (ps_set (i := 4) sc_tokens.nd rfl (Or.inl rfl) (pv 2))))) (pss_one (ps_if (pt_cmpR op_eq (pe_ix ix_str (pv 0) (pv 2) (fun _ _ => rfl)) pe_str (nomark _)) (pss_one (ps_aug (i := 2) sc_tokens.nd rfl (Or.inl rfl) pe_int ip_add)) (pss_one (ps_if (pt_cmpR op_eq (pe_ix ix_str (pv 0) (pv 2) (fun _ _ => rfl)) pe_str (nomark _)) (pss_one (ps_set (i := 2) sc_tokens.nd rfl (Or.inl rfl) (pe_call G_comment_end (hr.mono (by omega)) rfl (m_comment_end T) (F_comment_end T).kp (B_comment_end T) .nil pass0 (pa_cons (pv 0) (pa_cons (pv 2) pa_nil))))) (pss_cons (ps_asg (pe_call G_token_at (hr.mono (by omega)) rfl (m_token_at T) (F_token_at T).kp (B_token_at T) .nil pass0 (pa_cons (pv 0) (pa_cons (pv 2) (pa_cons (pv 3) (pa_cons (pe_op op_add (pe_op op_sub (pv 2) (pv 4)) pe_int) pa_nil))))) (pg_tup rfl (pgs_cons (pg_name (i := 5) sc_tokens.nd rfl (Or.inl rfl)) (pgs_cons (pg_name (i := 2) sc_tokens.nd rfl (Or.inl rfl)) pgs_nil)))) (pss_one (ps_expr (pe_bm PySem.F.plainAttrs_list PySem.F.slot_list_append PySem.F.type_list_append mt_append (pv 1) (pa_cons (pv 5) pa_nil)))))))))))) (pss_cons (ps_expr (pe_bm PySem.F.plainAttrs_list PySem.F.slot_list_append PySem.F.type_list_append mt_append (pv 1) (pa_cons (pe_tup (pa_cons pe_str (pa_cons pe_str (pa_cons (pv 3) (pa_cons (pe_op op_add (pe_op op_sub (pv 2) (pv 4)) pe_int) pa_nil))))) pa_nil))) (pss_one (ps_ret (pv 1))))))))), ?_⟩
  refine ⟨Nat.zero_le _, fun q hq => ?_⟩
  refine ⟨fun m σ' H' => ∃ (A : List Nat) (rest : List Pc) (row beg : Int) (wd : Option V) (pl : List Tok) (vs : List V), σ' = [some (.str text), some (.ref q), some (.int (A.length : Int)), some (.int row), some (.int beg), wd] ∧ TL.tl text = A ++ render rest ∧ okAdj rest = true ∧
    H' q = some (.lst vs) ∧ Dts K H' vs (pl.map tokD) ∧ Same H0 H' ∧ pl ++ place rest row ((A.length : Int) - beg + 1) = place ps 1 1 ∧ pl.length + rest.length ≤ ps.length ∧ m = rest.length,
    ⟨ps.length, [], ps, 1, 0, none, [], [], rfl, ht, ha, upd_same, .nil, same_new hq _, rfl, by simp, rfl⟩, ?_⟩
  rintro m σ' H' ⟨A, rest, row, beg, wd, pl, vs, rfl, ht, ha, hvs, dvs, s1, hpc, hn, rfl⟩
  have hlen : text.length = A.length + (render rest).length := by rw [TL.len_tl, ht]; simp
  refine ⟨_, rfl, _, rfl, text, rfl, hl, _, _, rfl, rfl, _, rfl, ?_⟩
  cases rest with
  | nil =>
    rw [decide_eq_false (by rw [hlen]; simp [render_nil])]
    refine iteF ?_
    refine ⟨_, rfl, .inl ⟨rfl, _, SqL.of hvs⟩, _, rfl, _, rfl, _, rfl, _, _, rfl, rfl, _, _, rfl, rfl, (by show 4 ≤ sizeLine; decide), fun a1 ha1 => ?_⟩
    have hva : upd H' a1 (.tup [.str "end", .str "", .int row, .int ((A.length : Int) - beg + 1)]) q = some (.lst vs) := same_new ha1 _ _ _ hvs
    have hll : vs.length < sizeLine := by
      have := dts_len dvs
      rw [List.length_map] at this
      rw [this]
      simp only [List.length_nil] at hn
      omega
    refine ⟨q, vs, _, rfl, rfl, hva, hll, _, rfl, ?_⟩
    have kt := kt_upd hva (fun z => z) (.lst (vs ++ [.ref a1]))
    refine h q (vs ++ [.ref a1]) _ hq (same_upd hq (s1.trans (same_new ha1 _)) _) upd_same ?_
    rw [← hpc]
    show Dts K _ _ ((pl ++ [(⟨.fin, row, (A.length : Int) - beg + 1⟩ : Tok)]).map tokD)
    rw [List.map_append]
    refine dts_app (dts_keep kt (dts_keep (same_kt (same_new ha1 _)) dvs)) (dts_one (dt_keep kt (dt_new ha1 (.cons (.str _) (.cons (.str _) (.cons (.int _) (.cons (.int _) .nil)))))))
  | cons p rest =>
    have hcs : ∃ c l, p.cs = c :: l := by
      cases p with
      | tok t =>
        cases hw : t.isW with
        | true =>
          obtain ⟨c, r, e, _⟩ := tk_w (adj_tok ha).1 hw
          exact ⟨c, r, e⟩
        | false =>
          obtain ⟨c, r, e, _⟩ := tk_s (adj_tok ha).1 hw
          exact ⟨c, r, e⟩
      | sp => exact ⟨_, _, rfl⟩
      | nl => exact ⟨_, _, rfl⟩
      | cm => obtain ⟨l, e, _⟩ := cm_cs; exact ⟨_, _, e⟩
    obtain ⟨c, l, ec⟩ := hcs
    have hr1 : render (p :: rest) = c :: (l ++ render rest) := by rw [render_cons, ec]; rfl
    have hat : atI text.cps.toList (A.length : Int) = some c := at_mid (by rw [ht, hr1]) rfl
    rw [decide_eq_true (by rw [hlen, hr1]; simp only [List.length_cons]; omega)]
    refine iteT ⟨_, fun σ' H' w' => ⟨rest.length, by simp, w'⟩, ?_⟩
    have hn' : pl.length + rest.length ≤ ps.length := by simp only [List.length_cons] at hn; omega
    refine ⟨_, rfl, _, rfl, text, _, c, rfl, rfl, hl, hat, rfl, _, rfl, ?_⟩
    rw [dec_ch nl_s]
    cases p with
    | nl =>
      have e1 : c = 10 := by
        have := ec
        cases this
        rfl
      rw [decide_eq_true e1]
      refine iteT ?_
      refine ⟨_, rfl, _, _, rfl, rfl, _, rfl, _, _, rfl, rfl, _, rfl, ?_⟩
      refine ⟨A ++ [10], rest, row + 1, A.length + 1, wd, pl, vs, ?_, ?_, adj_tl ha, hvs, dvs, s1, ?_, hn', rfl⟩
      · simp only [List.length_append, List.length_cons, List.length_nil]; rfl
      · rw [ht, hr1, e1]
        cases ec
        simp
      · rw [← hpc]
        simp only [place, List.length_append, List.length_cons, List.length_nil]
        congr 2
        omega
    | sp =>
      have e1 : c = 32 := by
        have := ec
        cases this
        rfl
      rw [decide_eq_false (by omega)]
      refine iteF ?_
      refine ⟨_, rfl, _, rfl, text, _, c, rfl, rfl, hl, hat, rfl, _, rfl, ?_⟩
      rw [dec_ch sp_s, decide_eq_true e1]
      refine iteT ?_
      refine ⟨_, rfl, _, _, rfl, rfl, ?_⟩
      refine ⟨A ++ [32], rest, row, beg, wd, pl, vs, ?_, ?_, adj_tl ha, hvs, dvs, s1, ?_, hn', rfl⟩
      · simp only [List.length_append, List.length_cons, List.length_nil]; rfl
      · rw [ht, hr1, e1]
        cases ec
        simp
      · rw [← hpc]
        simp only [place, List.length_append, List.length_cons, List.length_nil]
        congr 2
        omega
    | cm =>
      have hre := adj_cm ha
      subst hre
      obtain ⟨l', e2, e3, e4⟩ := cm_cs
      have e1 : c = 35 := by
        rw [e2] at ec
        cases ec
        rfl
      rw [decide_eq_false (by omega)]
      refine iteF ?_
      refine ⟨_, rfl, _, rfl, text, _, c, rfl, rfl, hl, hat, rfl, _, rfl, ?_⟩
      rw [dec_ch sp_s, decide_eq_false (by omega)]
      refine iteF ?_
      refine ⟨_, rfl, _, rfl, text, _, c, rfl, rfl, hl, hat, rfl, _, rfl, ?_⟩
      rw [dec_ch cm_s, decide_eq_true e1]
      refine iteT ?_
      have hrc : render [.cm] = 35 :: l' := by rw [render_cons, e2]; simp [render_nil]
      refine ⟨_, rfl, _, rfl, text, A, 35 :: l', _, rfl, rfl, by rw [ht, hrc], e3, hl, ?_⟩
      refine ⟨A ++ 35 :: l', [], row, beg, wd, pl, vs, ?_, ?_, rfl, hvs, dvs, s1, ?_, hn', rfl⟩
      · rw [hlen, hrc]
        simp only [List.length_append]
        rfl
      · rw [ht, hrc, render_nil, List.append_nil]
      · rw [← hpc]
        simp only [place, List.length_append, e4]
        have : (A.length : Int) - beg + 1 + (cmS.length : Nat) = ((A.length + cmS.length : Nat) : Int) - beg + 1 := by omega
        rw [this]
    | tok t =>
      have hne : c ≠ 10 ∧ c ≠ 32 ∧ c ≠ 35 := by
        cases hw : t.isW with
        | true =>
          obtain ⟨c', r, e, _, _, _, n, _⟩ := tk_w (adj_tok ha).1 hw
          have e' : TL.tl t.txt = c :: l := ec
          rw [e] at e'
          cases e'
          exact ⟨n.1, n.2.1, n.2.2.1⟩
        | false =>
          obtain ⟨c', r, e, _, _, _, n, _⟩ := tk_s (adj_tok ha).1 hw
          have e' : TL.tl t.txt = c :: l := ec
          rw [e] at e'
          cases e'
          exact ⟨n.1, n.2.1, n.2.2.1⟩
      rw [decide_eq_false hne.1]
      refine iteF ?_
      refine ⟨_, rfl, _, rfl, text, _, c, rfl, rfl, hl, hat, rfl, _, rfl, ?_⟩
      rw [dec_ch sp_s, decide_eq_false hne.2.1]
      refine iteF ?_
      refine ⟨_, rfl, _, rfl, text, _, c, rfl, rfl, hl, hat, rfl, _, rfl, ?_⟩
      rw [dec_ch cm_s, decide_eq_false hne.2.2]
      refine iteF ?_
      refine ⟨_, rfl, _, rfl, _, rfl, _, rfl, _, rfl, _, _, rfl, rfl, _, _, rfl, rfl, text, A, render rest, t, _, _, _, rfl, rfl, by rw [ht, render_cons, List.append_assoc]; rfl, (adj_tok ha).1, fun d hd => hd_render ha hd, hl, ?_⟩
      intro v H2 s2 d2
      obtain ⟨b, xs, rfl, hb, db⟩ := dt_tup_inv d2
      cases db with
      | @cons v1 _ _ _ dv1 db =>
        cases db with
        | cons dv2 db =>
          cases db
          have e2 := dt_int_inv dv2
          subst e2
          refine ⟨_, _, rfl, hb, rfl, _, _, rfl, _, _, rfl, rfl, ?_⟩
          have hvs2 := s2 _ _ hvs
          have dvs2 := dts_keep (same_kt s2) dvs
          refine ⟨_, rfl, .inl ⟨rfl, _, SqL.of hvs2⟩, _, rfl, q, vs, _, rfl, rfl, hvs2, ?_, ?_⟩
          · have := dts_len dvs
            rw [List.length_map] at this
            rw [this]
            simp only [List.length_cons] at hn
            omega
          refine ⟨A ++ TL.tl t.txt, rest, row, beg, some v1, pl ++ [⟨t, row, (A.length : Int) - beg + 1⟩], _, ?_, ?_, adj_tl ha, upd_same, ?_, same_upd hq (s1.trans s2) _, ?_, ?_, rfl⟩
          · rw [List.length_append, ← TL.len_tl]
            rfl
          · rw [ht, render_cons, List.append_assoc]
            rfl
          · rw [List.map_append]
            have kt := kt_upd hvs2 (fun z => z) (.lst (vs ++ [v1]))
            exact dts_app (dts_keep kt dvs2) (dts_one (dt_keep kt dv1))
          · rw [← hpc, List.append_assoc, List.length_append, ← TL.len_tl]
            simp only [place]
            have : (A.length : Int) - beg + 1 + (t.txt.length : Nat) = ((A.length + t.txt.length : Nat) : Int) - beg + 1 := by omega
            rw [this]
            rfl
          · simp only [List.length_append, List.length_cons, List.length_nil] at hn ⊢
            omega
end
end Ko
end
section
set_option Elab.async false
set_option linter.all false
set_option maxRecDepth 100000
set_option maxHeartbeats 4000000
/-! Which trees the law makes -/
namespace Ko
open PySem
def GK : Nat → Kd → Prop
  | _, .int => True
  | _, .bool => True
  | _, .named w => w ∈ NAMES
  | 0, _ => False
  | n + 1, .box k => GK n k
  | n + 1, .vec k => GK n k
  | n + 1, .ref k => GK n k
  | n + 1, .mut k => GK n k
/-- trees of the depth n at most -/
def GE : Nat → Ex → Prop
  | _, .num k => k ∈ NUMS
  | _, .name w => w ∈ NAMES
  | _, .truth _ => True
  | 0, _ => False
  | n + 1, .op _ a b => GE n a ∧ GE n b
  | n + 1, .un _ a => GE n a
  | n + 1, .rf _ p => p.isPlace = true ∧ GE n p
  | n + 1, .len p => p.isPlace = true ∧ GE n p
  | n + 1, .vec k => GK 2 k
  | n + 1, .call w xs => w ∈ NAMES ∧ xs.length ≤ 3 ∧ ∀ x ∈ xs, GE n x
  | n + 1, .field p w => p.isPlace = true ∧ GE n p ∧ w ∈ NAMES
  | n + 1, .index p e => p.isPlace = true ∧ GE n p ∧ GE n e
/-- names -/
def GN (lo hi : Nat) (xs : List Str) : Prop := lo ≤ xs.length ∧ xs.length ≤ hi ∧ ∀ x ∈ xs, x ∈ NAMES
def GS : Nat → St → Prop
  | _, .letS w k e => w ∈ NAMES ∧ GK 2 k ∧ GE 2 e
  | _, .openS e xs => GE 2 e ∧ GN 1 3 xs
  | _, .showS e => GE 2 e
  | _, .pushS p e => p.isPlace = true ∧ GE 2 p ∧ GE 2 e
  | _, .takeS p w => p.isPlace = true ∧ GE 2 p ∧ w ∈ NAMES
  | _, .doS e => e.isCall = true ∧ GE 2 e
  | _, .setS p e => p.isPlace = true ∧ GE 2 p ∧ GE 2 e
  | 0, _ => False
  | n + 1, .ifS e a b => GE 2 e ∧ (a.length ≤ 3 ∧ ∀ s ∈ a, GS n s) ∧ (b.length ≤ 3 ∧ ∀ s ∈ b, GS n s)
  | n + 1, .whileS e a => GE 1 e ∧ (a.length ≤ 3 ∧ ∀ s ∈ a, GS n s)
  | n + 1, .parS a b => (a.length ≤ 3 ∧ ∀ s ∈ a, GS n s) ∧ (b.length ≤ 3 ∧ ∀ s ∈ b, GS n s)
  | n + 1, .matchS _ p cs => p.isPlace = true ∧ GE 2 p ∧ cs.length ≤ 2 ∧ ∀ t xs b, Cs.mk t xs b ∈ cs → t ∈ NAMES ∧ GN 0 2 xs ∧ (b.length ≤ 3 ∧ ∀ s ∈ b, GS n s)
def GC (n : Nat) : Cs → Prop
  | .mk t xs b => t ∈ NAMES ∧ GN 0 2 xs ∧ (b.length ≤ 3 ∧ ∀ s ∈ b, GS n s)
def GB (n : Nat) (b : List St) : Prop := b.length ≤ 3 ∧ ∀ s ∈ b, GS n s
def GPs (lo hi : Nat) (ps : List (Str × Kd)) : Prop := lo ≤ ps.length ∧ ps.length ≤ hi ∧ ∀ p ∈ ps, p.1 ∈ NAMES ∧ GK 2 p.2
def GT (t : Str × List Kd) : Prop := t.1 ∈ NAMES ∧ t.2.length ≤ 2 ∧ ∀ k ∈ t.2, GK 1 k
def GF (f : Fn) : Prop := f.name ∈ NAMES ∧ GPs 0 2 f.params ∧ GK 2 f.kind ∧ GN 0 3 f.lent ∧ GB 2 f.body ∧ GE 3 f.result
def GR (r : Str × List (Str × Kd)) : Prop := r.1 ∈ NAMES ∧ GPs 1 3 r.2
def GV (v : Str × List (Str × List Kd)) : Prop := v.1 ∈ NAMES ∧ (1 ≤ v.2.length ∧ v.2.length ≤ 3) ∧ ∀ t ∈ v.2, GT t
def GP (p : Pr) : Prop := (p.recs.length ≤ 2 ∧ ∀ r ∈ p.recs, GR r) ∧ (p.vars.length ≤ 2 ∧ ∀ v ∈ p.vars, GV v) ∧ (1 ≤ p.fns.length ∧ p.fns.length ≤ 3) ∧ ∀ f ∈ p.fns, GF f
theorem gs_if {n : Nat} {e : Ex} {a b : List St} : GS (n + 1) (.ifS e a b) = (GE 2 e ∧ (a.length ≤ 3 ∧ ∀ s ∈ a, GS n s) ∧ (b.length ≤ 3 ∧ ∀ s ∈ b, GS n s)) := rfl
theorem ge_op {n : Nat} {s : Op} {a b : Ex} : GE (n + 1) (.op s a b) = (GE n a ∧ GE n b) := rfl
end Ko
end
section
set_option Elab.async false
set_option linter.all false
set_option maxRecDepth 100000
set_option maxHeartbeats 4000000
/-! The law's defs that draw trees -/
namespace Ko
open PySem PySem.Spec PyProof.Rows L2
section
variable {P : Program} {w : World} {K : PySem.W.Frag} {mg : Str → Option Value} {base : Heap}
/-- the draws at d: their row at a -/
def drK (a : Addr) (i n : Int) : List (Key × V) := [(.inr "row", .ref a), (.inr "at", .int i), (.inr "seed", .int n)]
def DrA (H : Hp) (d a : Addr) (row : List Int) : Prop := ∃ i n : Int, H d = some (.dK (drK a i n)) ∧ H a = some (.lst (row.map V.int)) ∧ 0 ≤ i
def Dr (a : Addr) (H : Hp) (d : Addr) : Prop := ∃ row, DrA H d a row
theorem Dr.kt {a : Addr} {H H' : Hp} {d : Addr} (D : Dr a H d) (k : Keep d H H') : KeepT H H' := fun b o n h => by
  obtain ⟨row, i, m, hd, _⟩ := D
  refine k b o (fun e => ?_) h
  subst e
  rw [hd] at h
  cases h
  exact n
theorem Dr.same {a : Addr} {H H' : Hp} {d : Addr} (D : Dr a H d) (s : Same H H') : Dr a H' d := by
  obtain ⟨row, i, m, hd, ha, h0⟩ := D
  exact ⟨row, i, m, s _ _ hd, s _ _ ha, h0⟩
theorem Dr.other {a : Addr} {H : Hp} {d q : Addr} (D : Dr a H d) (n1 : d ≠ q) (n2 : a ≠ q) (o : HO) : Dr a (upd H q o) d := by
  obtain ⟨row, i, m, hd, ha, h0⟩ := D
  exact ⟨row, i, m, by rw [upd_ne n1]; exact hd, by rw [upd_ne n2]; exact ha, h0⟩
theorem Dr.nea {a : Addr} {H : Hp} {d q : Addr} (D : Dr a H d) (hq : H q = none) : a ≠ q := by
  obtain ⟨row, i, m, hd, ha, _⟩ := D
  exact ne_of_none ha hq
theorem Dr.ne {a : Addr} {H : Hp} {d q : Addr} (D : Dr a H d) (hq : H q = none) : d ≠ q := by
  obtain ⟨row, i, m, hd, _⟩ := D
  exact ne_of_none hd hq
theorem SqL_same {H H' : Hp} {p : Addr} {xs : List V} (s : Same H H') (h : SqL K H p xs) : SqL K H' p xs := by
  rcases h with (h | ⟨o, h⟩) | h
  · exact .inl (.inl (s _ _ h))
  · exact .inl (.inr ⟨o, s _ _ h⟩)
  · exact .inr h
theorem iteB {b : Bool} {A B : Prop} (ht : b = true → A) (hf : b = false → B) : if b = true then A else B := by
  cases b with
  | true => exact iteT (ht rfl)
  | false => exact iteF (hf rfl)
theorem drK_merge (a : Addr) (i n : Int) : mergeK [] (drK a i n) = drK a i n := by
  have e1 : ¬ ((Sum.inr ("row" : Str) : Key) = Sum.inr ("at" : Str)) := by decide +kernel
  have e2 : ¬ ((Sum.inr ("row" : Str) : Key) = Sum.inr ("seed" : Str)) := by decide +kernel
  have e3 : ¬ ((Sum.inr ("at" : Str) : Key) = Sum.inr ("seed" : Str)) := by decide +kernel
  simp [mergeK, drK, putK, e1, e2, e3]
theorem drK_at (a : Addr) (i n : Int) : valV (drK a i n) (.inr ("at" : Str)) = some (.int i) := by
  have e1 : ¬ ((Sum.inr ("row" : Str) : Key) = Sum.inr ("at" : Str)) := by decide +kernel
  rw [drK, valV_neg e1, valV_pos rfl]
theorem drK_row (a : Addr) (i n : Int) : valV (drK a i n) (.inr ("row" : Str)) = some (.ref a) := by
  rw [drK, valV_pos rfl]
theorem drK_seed (a : Addr) (i n : Int) : valV (drK a i n) (.inr ("seed" : Str)) = some (.int n) := by
  have e2 : ¬ ((Sum.inr ("row" : Str) : Key) = Sum.inr ("seed" : Str)) := by decide +kernel
  have e3 : ¬ ((Sum.inr ("at" : Str) : Key) = Sum.inr ("seed" : Str)) := by decide +kernel
  rw [drK, valV_neg e2, valV_neg e3, valV_pos rfl]
theorem drK_put (a : Addr) (i j n : Int) : putK (drK a i n) (.inr ("at" : Str)) (.int j) = drK a j n := by
  have e1 : ¬ ((Sum.inr ("row" : Str) : Key) = Sum.inr ("at" : Str)) := by decide +kernel
  have e3 : ¬ ((Sum.inr ("seed" : Str) : Key) = Sum.inr ("at" : Str)) := by decide +kernel
  simp [drK, putK, e1, e3]
/-- mix(cell, k) -/
def spMix : Sp := fun vs H Q _ => ∃ c k : Int, vs = [.int c, .int k] ∧ ∀ r : Int, 0 ≤ r → r < 1000 → Q (.int r) H
theorem ok_mix (T : Tx K mg) : FnOk P w K mg base CX0 1 (a_law_mix K) (fdOf K d_law_mix) ["_law_cell", "_law_k"] spMix := by
  refine (F_law_mix T).ok sc_law_mix (fun vs H Q E h => ?_) (fun cdv A0 outer s H vs Q E hr h => ?_)
  · obtain ⟨c, k, rfl, _⟩ := h
    rfl
  obtain ⟨c, k, rfl, q⟩ := h
  refine ⟨_, PSs.nox (pss_cons (ps_set (i := 2) sc_law_mix.nd rfl (Or.inl rfl) (pe_op op_mod (pe_callTy call_int1 (by rfl) (z_int T) (by decide +kernel) (pa_cons (pe_op op_add (pe_op op_add (pe_op op_mul (pv 0) pe_int) (pe_op op_mul (pv 1) pe_int)) pe_int) pa_nil)) pe_int)) (pss_one (ps_ret (pe_op op_mod (pe_op op_mod (pe_callTy call_int1 (by rfl) (z_int T) (by decide +kernel) (pa_cons (pe_op op_add (pe_op op_add (pe_op op_add (pe_op op_mul (pv 2) (pv 2)) (pe_op op_mul (pv 0) pe_int)) (pe_op op_mul (pv 1) pe_int)) pe_int) pa_nil)) pe_int) pe_int)))), ?_⟩
  refine ⟨_, rfl, _, _, rfl, rfl, .inr (by decide), _, rfl, _, _, rfl, rfl, .inr (by decide), _, _, rfl, rfl, _, _, rfl, rfl, .inl ⟨_, rfl, _, _, rfl, rfl, (by show (0 : Int) < 2147483647; decide), ?_⟩⟩
  generalize hl : (c * 48271 + k * 69621 + 11) % 2147483647 = low
  have l0 : 0 ≤ low := by rw [← hl]; exact Int.emod_nonneg _ (by decide)
  have l1 : low < 2147483647 := by rw [← hl]; exact Int.emod_lt_of_pos _ (by decide)
  refine ⟨_, rfl, _, rfl, _, _, rfl, rfl, .inl ⟨by omega, by omega⟩, _, rfl, _, _, rfl, rfl, .inr (by decide), _, _, rfl, rfl, _, rfl, _, _, rfl, rfl, .inr (by decide), _, _, rfl, rfl, _, _, rfl, rfl, .inl ⟨_, rfl, _, _, rfl, rfl, (by show (0 : Int) < 1000003; decide), _, _, rfl, rfl, (by show (0 : Int) < 1000; decide), ?_⟩⟩
  exact q _ (Int.emod_nonneg _ (by decide)) (Int.emod_lt_of_pos _ (by decide))
/-- stream(script, 400) -/
def spStream (K : PySem.W.Frag) : Sp := fun vs H Q _ => ∃ (p : Addr) (xs : List Int), vs = [.ref p, .int 400] ∧ SqL K H p (xs.map V.int) ∧ ∀ d a row H', Same H H' → H d = none → DrA H' d a row → Q (.ref d) H'
theorem ok_stream (T : Tx K mg) : FnOk P w K mg base CX0 2 (a_law_stream K) (fdOf K d_law_stream) ["_law_script", "_law_most"] (spStream K) := by
  have G_law_mix := ok_mix (P := P) (w := w) (base := base) T
  refine (F_law_stream T).ok sc_law_stream (fun vs H Q E h => ?_) (fun cdv A0 outer s H0 vs Q E hr h => ?_)
  · obtain ⟨p, xs, rfl, _⟩ := h
    rfl
  obtain ⟨p, xs, rfl, hp, h⟩ := h
  refine ⟨_, PSs.nox (pss_cons (ps_set (i := 2) sc_law_stream.nd rfl (Or.inl rfl) (pe_lst pa_nil)) (pss_cons (ps_for PassesOwn.never rfl (pi_range1 rfl (z_range T) (pa_cons (pe_callB (call_min2 rfl) (by rfl) (z_min T) (by decide +kernel) (pa_cons (pe_callB call_len_seq (by rfl) (z_len T) PySem.boot_len (pa_cons (pv 0) pa_nil)) (pa_cons pe_int pa_nil))) pa_nil)) (pg_name (i := 3) sc_law_stream.nd rfl (Or.inl rfl)) (pss_cons (ps_set (i := 4) sc_law_stream.nd rfl (Or.inl rfl) (pe_ix ix_list (pv 0) (pv 3) (fun _ _ => rfl))) (pss_one (ps_if (pt_cmpR op_ge (pv 4) (pe_op op_pow pe_int pe_int) (nomark _)) (pss_one (ps_for PassesOwn.never rfl (pi_range1 rfl (z_range T) (pa_cons pe_int pa_nil)) (pg_name (i := 5) sc_law_stream.nd rfl (Or.inl rfl)) (pss_one (ps_if (PW.pt (pw_and (pt_cmpR op_gt (pv 4) pe_int (nomark _)) (pw_and1 (pt_cmpR op_lt (pe_callB call_len_seq (by rfl) (z_len T) PySem.boot_len (pa_cons (pv 2) pa_nil)) (pv 1) (nomark _))))) (pss_cons (ps_expr (pe_bm PySem.F.plainAttrs_list PySem.F.slot_list_append PySem.F.type_list_append mt_append (pv 2) (pa_cons (pe_op op_mod (pe_callTy call_int1 (by rfl) (z_int T) (by decide +kernel) (pa_cons (pv 4) pa_nil)) pe_int) pa_nil))) (pss_one (ps_set (i := 4) sc_law_stream.nd rfl (Or.inl rfl) (pe_op op_fdiv (pv 4) pe_int)))) pss_nil)))) (pss_one (ps_for PassesOwn.never rfl (pi_range1 rfl (z_range T) (pa_cons pe_int pa_nil)) (pg_name (i := 5) sc_law_stream.nd rfl (Or.inl rfl)) (pss_one (ps_if (pt_cmpR op_lt (pe_callB call_len_seq (by rfl) (z_len T) PySem.boot_len (pa_cons (pv 2) pa_nil)) (pv 1) (nomark _)) (pss_one (ps_expr (pe_bm PySem.F.plainAttrs_list PySem.F.slot_list_append PySem.F.type_list_append mt_append (pv 2) (pa_cons (pe_call G_law_mix (hr.mono (by omega)) rfl (m_law_mix T) (F_law_mix T).kp (B_law_mix T) .nil pass0 (pa_cons (pv 4) (pa_cons (pe_op op_add (pe_op op_mul pe_int (pv 5)) (pv 3)) pa_nil))) pa_nil)))) pss_nil)))))))) (pss_one (ps_ret (pe_disp (pps_cons pe_str (pv 2) (pps_cons pe_str pe_int (pps_cons pe_str (pe_callB call_len_seq (by rfl) (z_len T) PySem.boot_len (pa_cons (pv 2) pa_nil)) pps_nil))) (by rfl) (by rfl) (fun z => by cases z) (by decide)))))), ?_⟩
  refine ⟨Nat.zero_le _, fun q hq => ?_⟩
  let J : L2.St → Hp → Prop := fun σ' H' => ∃ (row : List Int) (o3 o4 o5 : Option V), σ' = [some (.ref p), some (.int 400), some (.ref q), o3, o4, o5] ∧ H' q = some (.lst (row.map V.int)) ∧ Same H0 H' ∧ row.length ≤ 400
  have hsz : ∀ n : Nat, n ≤ 400 → n ≤ sizeLine := fun n h => by rw [show sizeLine = 16777216 from rfl]; omega
  have hN : ∃ N : Nat, (if (63 : Int) < ((xs.map V.int).length : Nat) then 63 else ((xs.map V.int).length : Int)) = N ∧ N ≤ 63 ∧ N ≤ (xs.map V.int).length := by
    split
    · exact ⟨63, rfl, by omega, by omega⟩
    · exact ⟨_, rfl, by omega, Nat.le_refl _⟩
  obtain ⟨N, eN, hN1, hN2⟩ := hN
  refine ⟨_, rfl, p, _, rfl, .inl (SqL_same (same_new hq _) hp), _, _, rfl, N, by rw [eN], by omega, by omega, for_range (fun _ σ' H' => J σ' H') ⟨[], none, none, none, rfl, upd_same, same_new hq _, by simp⟩ ?_ ?_⟩
  · rintro k σ' H' hk ⟨row, o3, o4, o5, rfl, hrow, s1, hlen⟩
    have hk' : k < N := by simpa using hk
    have hget : atI (xs.map V.int) (0 + (k : Int)) = some (V.int (xs[k]'(by simpa using Nat.lt_of_lt_of_le hk' hN2))) := by
      rw [Int.zero_add]
      refine atI_nat ?_
      rw [List.getElem?_map, List.getElem?_eq_getElem (by simpa using Nat.lt_of_lt_of_le hk' hN2)]
      rfl
    generalize xs[k]'(by simpa using Nat.lt_of_lt_of_le hk' hN2) = cell at hget
    refine ⟨_, rfl, _, rfl, p, _, _, _, rfl, rfl, SqL_same s1 hp, hget, ?_⟩
    refine ⟨_, rfl, _, _, rfl, rfl, ⟨by decide, by decide, by decide⟩, _, _, rfl, rfl, _, rfl, ?_⟩
    let J2 : L2.St → Hp → Prop := fun σ' H' => ∃ (row : List Int) (kk rr : Int) (o5 : Option V), σ' = [some (.ref p), some (.int 400), some (.ref q), some (.int kk), some (.int rr), o5] ∧ H' q = some (.lst (row.map V.int)) ∧ Same H0 H' ∧ row.length ≤ 400
    have fin : ∀ σ' H', J2 σ' H' → J σ' H' := fun σ' H' ⟨row, kk, rr, o5, e, a, b, c⟩ => ⟨row, _, _, o5, e, a, b, c⟩
    have app : ∀ (row : List Int) (H' : Hp) (x : Int), H' q = some (.lst (row.map V.int)) → Same H0 H' → row.length < 400 → ∀ Q' : VK, (∀ H2, H2 q = some (.lst ((row ++ [x]).map V.int)) → Same H0 H2 → (row ++ [x]).length ≤ 400 → Q' .non H2) → rAppend (.ref q) [.int x] H' Q' := fun row H' x hr s1 hl Q' k => by
      refine ⟨q, _, _, rfl, rfl, hr, by rw [List.length_map]; exact Nat.lt_of_lt_of_le hl (hsz 400 (Nat.le_refl _)), k _ ?_ (same_upd hq s1 _) (by rw [List.length_append]; simp; omega)⟩
      rw [upd_same, List.map_append]
      rfl
    refine iteB (fun _ => ?_) (fun _ => ?_)
    · refine ⟨60, rfl, by decide, by decide, for_range (fun _ σ' H' => J2 σ' H') ⟨row, _, _, o5, rfl, hrow, s1, hlen⟩ ?_ fin⟩
      rintro j σ' H' _ ⟨row, kk, rr, o5, rfl, hrow, s1, hlen⟩
      refine t_and (decide (0 < rr)) (decide ((((row.map V.int).length : Nat) : Int) < 400)) (fun Q' h' => ⟨_, rfl, _, _, rfl, rfl, _, rfl, h'⟩) (fun Q' h' => ⟨_, rfl, q, _, rfl, .inl (SqL.of hrow), _, rfl, _, _, rfl, rfl, _, rfl, h'⟩) ?_
      refine iteB (fun hb => ?_) (fun _ => ?_)
      · simp only [Bool.and_eq_true, decide_eq_true_eq, List.length_map] at hb
        refine ⟨_, rfl, .inl ⟨rfl, _, SqL.of hrow⟩, _, rfl, .inl ⟨_, rfl, _, _, rfl, rfl, (by show (0 : Int) < 1000; decide), ?_⟩⟩
        show rAppend (V.ref q) [V.int (rr % 1000)] H' fun _ H1 => tAsg (tOp (rI CDiv fun i j => V.int (i / j)) (tVar 4) (tC (V.int 1000))) (gName 4) _ _ H1
        refine app row _ _ hrow s1 (by omega) _ fun H2 hr2 s2 hl2 => ?_
        refine ⟨_, rfl, _, _, rfl, rfl, ⟨by decide, by decide⟩, ?_⟩
        exact ⟨_, _, _, _, rfl, hr2, s2, hl2⟩
      · exact ⟨row, _, _, _, rfl, hrow, s1, hlen⟩
    · refine ⟨3, rfl, by decide, by decide, for_range (fun _ σ' H' => J2 σ' H') ⟨row, _, _, o5, rfl, hrow, s1, hlen⟩ ?_ fin⟩
      rintro j σ' H' _ ⟨row, kk, rr, o5, rfl, hrow, s1, hlen⟩
      refine ⟨_, rfl, q, _, rfl, .inl (SqL.of hrow), _, rfl, _, _, rfl, rfl, _, rfl, ?_⟩
      refine iteB (fun hb => ?_) (fun _ => ?_)
      · have hb' : (((row.map V.int).length : Nat) : Int) < 400 := of_decide_eq_true hb
        rw [List.length_map] at hb'
        refine ⟨_, rfl, .inl ⟨rfl, _, SqL.of hrow⟩, _, rfl, _, rfl, _, _, rfl, rfl, .inl (by decide), _, rfl, _, _, rfl, rfl, _, _, rfl, fun r hr0 hr1 => ?_⟩
        show rAppend (V.ref q) [V.int r] H' fun _ H1 => J2 [some (.ref p), some (.int 400), some (.ref q), some (.int kk), some (.int rr), some (.int (0 + (j : Int)))] H1
        refine app row _ r hrow s1 (by omega) _ fun H2 hr2 s2 hl2 => ?_
        exact ⟨_, _, _, _, rfl, hr2, s2, hl2⟩
      · exact ⟨row, _, _, _, rfl, hrow, s1, hlen⟩
  · rintro σ' H' ⟨row, o3, o4, o5, rfl, hrow, s1, hlen⟩
    intro d hd
    have hq2 : upd H' d (.dK []) q = some (.lst (row.map V.int)) := same_new hd _ _ _ hrow
    refine ⟨_, rfl, _, rfl, q, _, rfl, .inl (SqL.of hq2), upd_same, drK q 0 ((row.map V.int).length : Nat), rfl, (by show 3 ≤ 15; decide), ?_⟩
    rw [drK_merge, upd_upd]
    have hd0 : H0 d = none := by
      cases e : H0 d with
      | none => rfl
      | some o => rw [s1 _ _ e] at hd; cases hd
    exact h d q row _ (s1.trans (same_new hd _)) hd0 ⟨0, _, upd_same, by rw [upd_ne (ne_of_none hrow hd)]; exact hrow, Int.le_refl _⟩
/-- pick(draws, many) -/
def spPick : Sp := fun vs H Q _ => ∃ (d : Addr) (m : Int) (a : Addr), vs = [.ref d, .int m] ∧ 0 < m ∧ Dr a H d ∧ ∀ (r : Int) H', 0 ≤ r → r < m → Keep d H H' → Dr a H' d → Q (.int r) H'
theorem ok_pick (T : Tx K mg) : FnOk P w K mg base CX0 2 (a_law_pick K) (fdOf K d_law_pick) ["_law_draws", "_law_many"] spPick := by
  have G_law_mix := ok_mix (P := P) (w := w) (base := base) T
  refine (F_law_pick T).ok sc_law_pick (fun vs H Q E h => ?_) (fun cdv A0 outer s H vs Q E hr h => ?_)
  · obtain ⟨d, m, a, rfl, _⟩ := h
    rfl
  obtain ⟨d, m, a, rfl, hm, hD, q⟩ := h
  refine ⟨_, PSs.nox (pss_cons (ps_set (i := 2) sc_law_pick.nd rfl (Or.inl rfl) (pe_dget (hu_of hr) (pv 0) pe_str (fun _ _ => rfl))) (pss_cons (ps_dput (hu_of hr) (pv 0) pe_str (pe_op op_add (pv 2) pe_int) rfl) (pss_cons (ps_set (i := 3) sc_law_pick.nd rfl (Or.inl rfl) (pe_call G_law_mix (hr.mono (by omega)) rfl (m_law_mix T) (F_law_mix T).kp (B_law_mix T) .nil pass0 (pa_cons (pe_dget (hu_of hr) (pv 0) pe_str (fun _ _ => rfl)) (pa_cons (pv 2) pa_nil)))) (pss_cons (ps_if (pt_cmpR op_lt (pv 2) (pe_callB call_len_seq (by rfl) (z_len T) PySem.boot_len (pa_cons (pe_dget (hu_of hr) (pv 0) pe_str (fun _ _ => rfl)) pa_nil)) (nomark _)) (pss_one (ps_set (i := 3) sc_law_pick.nd rfl (Or.inl rfl) (pe_ix ix_list (pe_dget (hu_of hr) (pv 0) pe_str (fun _ _ => rfl)) (pv 2) (fun _ _ => rfl)))) pss_nil) (pss_one (ps_ret (pe_op op_modN (pe_callTy call_int1 (by rfl) (z_int T) (by decide +kernel) (pa_cons (pv 3) pa_nil)) (pv 1)))))))), ?_⟩
  obtain ⟨row, i, n, hd, ha, h0'⟩ := hD
  have g1 : DGet H d (.str "at") (some (.int i)) := by
    have := DGet.k (k := .inr ("at" : Str)) hd
    rw [drK_at] at this
    exact this
  refine ⟨_, rfl, d, _, rfl, g1, ?_⟩
  have g2 : DPut H d (.str "at") (.int (i + 1)) (upd H d (.dK (drK a (i + 1) n))) := by
    have := DPut.k (k := .inr ("at" : Str)) (v := .int (i + 1)) hd (by show 3 < sizeLine; decide)
    rw [drK_put] at this
    exact this
  have hd2 : upd H d (.dK (drK a (i + 1) n)) d = some (.dK (drK a (i + 1) n)) := upd_same
  have g3 : DGet (upd H d (.dK (drK a (i + 1) n))) d (.str "seed") (some (.int n)) := by
    have := DGet.k (k := .inr ("seed" : Str)) hd2
    rw [drK_seed] at this
    exact this
  have g4 : DGet (upd H d (.dK (drK a (i + 1) n))) d (.str "row") (some (.ref a)) := by
    have := DGet.k (k := .inr ("row" : Str)) hd2
    rw [drK_row] at this
    exact this
  have ha2 : upd H d (.dK (drK a (i + 1) n)) a = some (.lst (row.map V.int)) := by
    rw [upd_ne (fun z => by rw [z, hd] at ha; cases ha)]
    exact ha
  have hk : Keep d H (upd H d (.dK (drK a (i + 1) n))) := fun b o hb e => by
    rw [upd_ne hb]
    exact e
  have D2 : Dr a (upd H d (.dK (drK a (i + 1) n))) d := ⟨row, i + 1, n, upd_same, ha2, by omega⟩
  refine ⟨_, rfl, _, _, rfl, rfl, _, rfl, d, _, rfl, g2, ?_⟩
  refine ⟨_, rfl, d, _, rfl, g3, _, rfl, _, _, rfl, fun r h0 h1 => ?_⟩
  refine ⟨_, rfl, _, rfl, d, _, rfl, g4, a, _, rfl, .inl (SqL.of ha2), _, _, rfl, rfl, _, rfl, ?_⟩
  have fin : ∀ x : Int, Q (.int (x % m)) (upd H d (.dK (drK a (i + 1) n))) := fun x => q _ _ (Int.emod_nonneg _ (by omega)) (Int.emod_lt_of_pos _ hm) hk D2
  refine iteB (fun hb => ?_) (fun _ => ?_)
  · have hb' : i < ((row.map V.int).length : Nat) := of_decide_eq_true hb
    obtain ⟨j, rfl⟩ := Int.eq_ofNat_of_zero_le h0'
    have hj : j < row.length := by rw [List.length_map] at hb'; omega
    have hget : atI (row.map V.int) (j : Int) = some (V.int row[j]) := atI_nat (by rw [List.getElem?_map, List.getElem?_eq_getElem hj]; rfl)
    refine ⟨_, rfl, d, _, rfl, g4, _, rfl, a, _, _, _, rfl, rfl, SqL.of ha2, hget, ?_⟩
    refine ⟨_, rfl, .inl ⟨_, rfl, _, rfl, _, _, rfl, rfl, by omega, ?_⟩⟩
    show Q (V.int (Int.fmod _ m)) _
    rw [Int.fmod_eq_emod_of_nonneg _ (by omega)]
    exact fin _
  · refine ⟨_, rfl, .inl ⟨_, rfl, _, rfl, _, _, rfl, rfl, by omega, ?_⟩⟩
    show Q (V.int (Int.fmod _ m)) _
    rw [Int.fmod_eq_emod_of_nonneg _ (by omega)]
    exact fin _
end
end Ko
end
section
set_option Elab.async false
set_option linter.all false
set_option maxRecDepth 100000
set_option maxHeartbeats 4000000
/-! The law's defs that make trees -/
namespace Ko
open PySem PySem.Spec PyProof.Rows L2
section
variable {P : Program} {w : World} {K : PySem.W.Frag} {mg : Str → Option Value} {base : Heap}
/-- any good one -/
def GenQ (K : PySem.W.Frag) {α : Type} (good : α → Prop) (enc : α → PyData) (ra d : Addr) (H : Hp) (Q : VK) : Prop := ∀ a v H', good a → Keep d H H' → Dr ra H' d → Dt K H' v (enc a) → Q v H'
def spG (K : PySem.W.Frag) {α : Type} (args : List V) (good : α → Prop) (enc : α → PyData) : Sp := fun vs H Q _ => ∃ d ra, vs = .ref d :: args ∧ Dr ra H d ∧ GenQ K good enc ra d H Q
theorem spG_len {α : Type} {args : List V} {good : α → Prop} {enc : α → PyData} {vs : List V} {H : Hp} {Q : VK} {E : XK} (h : spG K args good enc vs H Q E) : vs.length = args.length + 1 := by
  obtain ⟨d, ra, rfl, _⟩ := h
  rfl
theorem at_of {α : Type} {xs : List α} {r : Int} (h0 : 0 ≤ r) (h1 : r < xs.length) : ∃ x ∈ xs, atI xs r = some x := by
  obtain ⟨j, rfl⟩ := Int.eq_ofNat_of_zero_le h0
  have hj : j < xs.length := by omega
  exact ⟨xs[j], List.getElem_mem hj, atI_nat (List.getElem?_eq_getElem hj)⟩
theorem at_strs {xs : List Str} {r : Int} (h0 : 0 ≤ r) (h1 : r < xs.length) : ∃ x ∈ xs, atI (xs.map V.str) r = some (.str x) := by
  obtain ⟨j, rfl⟩ := Int.eq_ofNat_of_zero_le h0
  have hj : j < xs.length := by omega
  exact ⟨xs[j], List.getElem_mem hj, atI_nat (by rw [List.getElem?_map, List.getElem?_eq_getElem hj]; rfl)⟩
theorem at_ints {xs : List Nat} {r : Int} (h0 : 0 ≤ r) (h1 : r < xs.length) : ∃ x ∈ xs, atI (xs.map fun n => V.int (n : Nat)) r = some (.int (x : Nat)) := by
  obtain ⟨j, rfl⟩ := Int.eq_ofNat_of_zero_le h0
  have hj : j < xs.length := by omega
  exact ⟨xs[j], List.getElem_mem hj, atI_nat (by rw [List.getElem?_map, List.getElem?_eq_getElem hj]; rfl)⟩
theorem Dr.ne' {ra : Addr} {H : Hp} {d q : Addr} (D : Dr ra H d) (hq : H q = none) : q ≠ d := (D.ne hq).symm
theorem ok_name (T : Tx K mg) : FnOk P w K mg base CX0 3 (a_law_name K) (fdOf K d_law_name) ["_law_draws"] (spG K [] (· ∈ NAMES) PyData.str) := by
  have G_law_pick := ok_pick (P := P) (w := w) (base := base) T
  refine (F_law_name T).ok sc_law_name (fun vs H Q E h => spG_len h) (fun cdv A0 outer s H vs Q E hr h => ?_)
  obtain ⟨d, ra, rfl, D, q⟩ := h
  refine ⟨_, PSs.nox (pss_one (ps_ret (pe_ix ix_list (pe_lst (pa_cons pe_str (pa_cons pe_str (pa_cons pe_str (pa_cons pe_str (pa_cons pe_str (pa_cons pe_str (pa_cons pe_str (pa_cons pe_str (pa_cons pe_str (pa_cons pe_str (pa_cons pe_str pa_nil)))))))))))) (pe_call G_law_pick (hr.mono (by omega)) rfl (m_law_pick T) (F_law_pick T).kp (B_law_pick T) .nil pass0 (pa_cons (pv 0) (pa_cons pe_int pa_nil))) (fun _ _ => rfl)))), ?_⟩
  refine ⟨(by show 11 ≤ sizeLine; decide), fun l hl => ?_⟩
  have sn := same_new hl (.lst (NAMES.map V.str))
  refine ⟨_, rfl, d, 11, ra, rfl, by decide, D.same sn, fun r H1 h0 h1 k1 D1 => ?_⟩
  obtain ⟨x, hx, e⟩ := at_strs (xs := NAMES) h0 (by show r < 11; exact h1)
  exact ⟨l, _, r, _, rfl, rfl, SqL.of (k1 _ _ (D.ne' hl) upd_same), e, q x _ _ hx ((same_kp sn).trans k1) D1 (.str x)⟩
theorem ok_number (T : Tx K mg) : FnOk P w K mg base CX0 3 (a_law_number K) (fdOf K d_law_number) ["_law_draws"] (spG K [] (· ∈ NUMS) (fun n : Nat => PyData.int n)) := by
  have G_law_pick := ok_pick (P := P) (w := w) (base := base) T
  refine (F_law_number T).ok sc_law_number (fun vs H Q E h => spG_len h) (fun cdv A0 outer s H vs Q E hr h => ?_)
  obtain ⟨d, ra, rfl, D, q⟩ := h
  refine ⟨_, PSs.nox (pss_one (ps_ret (pe_ix ix_list (pe_lst (pa_cons pe_int (pa_cons pe_int (pa_cons pe_int (pa_cons pe_int (pa_cons pe_int (pa_cons (pe_op op_sub (pe_op op_pow pe_int pe_int) pe_int) (pa_cons (pe_op op_pow pe_int pe_int) (pa_cons pe_int pa_nil))))))))) (pe_call G_law_pick (hr.mono (by omega)) rfl (m_law_pick T) (F_law_pick T).kp (B_law_pick T) .nil pass0 (pa_cons (pv 0) (pa_cons pe_int pa_nil))) (fun _ _ => rfl)))), ?_⟩
  refine ⟨_, _, rfl, rfl, ⟨by decide, by decide, by decide⟩, _, _, rfl, rfl, _, _, rfl, rfl, ⟨by decide, by decide, by decide⟩, ?_⟩
  refine ⟨(by show 8 ≤ sizeLine; decide), fun l hl => ?_⟩
  have sn := same_new hl (.lst (NUMS.map fun n => V.int (n : Nat)))
  refine ⟨_, rfl, d, 8, ra, rfl, by decide, D.same sn, fun r H1 h0 h1 k1 D1 => ?_⟩
  obtain ⟨x, hx, e⟩ := at_ints (xs := NUMS) h0 (by show r < 8; exact h1)
  exact ⟨l, _, r, _, rfl, rfl, SqL.of (k1 _ _ (D.ne' hl) upd_same), e, q x _ _ hx ((same_kp sn).trans k1) D1 (.int _)⟩
/-- the promise at every depth below n -/
def spGA (K : PySem.W.Frag) {α : Type} (good : Nat → α → Prop) (enc : α → PyData) (n : Nat) : Sp := fun vs H Q E => ∃ m : Nat, m < n ∧ spG K [.int (m : Nat)] (good m) enc vs H Q E
theorem spGA_len {α : Type} {good : Nat → α → Prop} {enc : α → PyData} {n : Nat} {vs : List V} {H : Hp} {Q : VK} {E : XK} (h : spGA K good enc n vs H Q E) : vs.length = 2 := by
  obtain ⟨m, _, h⟩ := h
  exact spG_len h
abbrev GFn (P : Program) (w : World) (K : PySem.W.Frag) (mg : Str → Option Value) (base : Heap) (k : Nat) (a : Addr) (fd : FuncData) (sp : Sp) : Prop := FnOk P w K mg base CX0 k a fd ["_law_draws", "_law_depth"] sp
theorem gfn_zero {k : Nat} {a : Addr} {fd : FuncData} {α : Type} {good : Nat → α → Prop} {enc : α → PyData} : GFn P w K mg base k a fd (spGA K good enc 0) := by
  have no : ∀ vs H Q E, ¬ spGA K good enc 0 vs H Q E := fun vs H Q E z => by
    obtain ⟨m, hm, _⟩ := z
    exact absurd hm (Nat.not_lt_zero m)
  exact ⟨fun vs H Q E h => absurd h (no vs H Q E), fun A outer s H args us vs Q E _ _ _ _ h => absurd h (no vs H Q E)⟩
theorem gfn_succ {k : Nat} {a : Addr} {fd : FuncData} {α : Type} {good : Nat → α → Prop} {enc : α → PyData} {n : Nat} (F : GFn P w K mg base k a fd (spGA K good enc n)) (G : GFn P w K mg base (k + 1) a fd (spG K [.int (n : Nat)] (good n) enc)) : GFn P w K mg base (k + 1) a fd (spGA K good enc (n + 1)) :=
  ⟨fun vs H Q E h => spGA_len h, fun A outer s H args us vs Q E hr he hb hv ⟨m, hm, h⟩ => by
    rcases Nat.lt_or_ge m n with q | q
    · exact F.run A outer s H args us vs Q E (hr.mono (Nat.le_succ k)) he hb hv ⟨m, q, h⟩
    · obtain rfl : m = n := Nat.le_antisymm (Nat.le_of_lt_succ hm) q
      exact G.run A outer s H args us vs Q E hr he hb hv h⟩
theorem ok_gkind (T : Tx K mg) (n : Nat) (G_law_kind : GFn P w K mg base (n + 4) (a_law_kind K) (fdOf K d_law_kind) (spGA K GK Kd.d n)) : GFn P w K mg base (n + 5) (a_law_kind K) (fdOf K d_law_kind) (spG K [.int (n : Nat)] (GK n) Kd.d) := by
  have G_law_pick := ok_pick (P := P) (w := w) (base := base) T
  have G_law_name := ok_name (P := P) (w := w) (base := base) T
  refine (F_law_kind T).ok sc_law_kind (fun vs H Q E h => spG_len h) (fun cdv A0 outer s H vs Q E hr h => ?_)
  obtain ⟨d, ra, rfl, D, q⟩ := h
  refine ⟨_, PSs.nox (pss_cons (ps_set (i := 2) sc_law_kind.nd rfl (Or.inl rfl) (pe_call G_law_pick (hr.mono (by omega)) rfl (m_law_pick T) (F_law_pick T).kp (B_law_pick T) .nil pass0 (pa_cons (pv 0) (pa_cons pe_int pa_nil)))) (pss_cons (ps_if (PW.pt (pw_or (pt_cmpR op_lt (pv 1) pe_int (nomark _)) (pw_or1 (pt_cmpR op_lt (pv 2) pe_int (nomark _))))) (pss_one (ps_ret (pe_ix ix_list (pe_lst (pa_cons (pe_tup (pa_cons pe_str pa_nil)) (pa_cons (pe_tup (pa_cons pe_str pa_nil)) (pa_cons (pe_tup (pa_cons pe_str (pa_cons (pe_call G_law_name (hr.mono (by omega)) rfl (m_law_name T) (F_law_name T).kp (B_law_name T) .nil pass0 (pa_cons (pv 0) pa_nil)) pa_nil))) (pa_cons (pe_tup (pa_cons pe_str pa_nil)) pa_nil))))) (pe_op op_mod (pv 2) pe_int) (fun _ _ => rfl)))) pss_nil) (pss_one (ps_ret (pe_tup (pa_cons (pe_ix ix_list (pe_lst (pa_cons pe_str (pa_cons pe_str (pa_cons pe_str (pa_cons pe_str pa_nil))))) (pe_op op_sub (pv 2) pe_int) (fun _ _ => rfl)) (pa_cons (pe_call G_law_kind (hr.mono (by omega)) rfl (m_law_kind T) (F_law_kind T).kp (B_law_kind T) .nil pass0 (pa_cons (pv 0) (pa_cons (pe_op op_sub (pv 1) pe_int) pa_nil))) pa_nil))))))), ?_⟩
  refine ⟨_, rfl, d, 8, ra, rfl, by decide, D, fun r H1 h0 h1 k1 D1 => ?_⟩
  dsimp only [gName, tSeq, tIfS]
  refine t_or (decide ((n : Int) < 1)) (decide (r < 4)) (fun Q' h' => ⟨_, rfl, _, _, rfl, rfl, _, rfl, h'⟩) (fun Q' h' => ⟨_, rfl, _, _, rfl, rfl, _, rfl, h'⟩) ?_
  refine iteB (fun _ => ?_) (fun hb => ?_)
  · refine ⟨(by show 1 ≤ sizeLine; decide), fun a1 e1 => ⟨(by show 1 ≤ sizeLine; decide), fun a2 e2 => ?_⟩⟩
    have s1 := same_new e1 (.tup [.str "int"])
    have s2 := same_new e2 (.tup [.str "bool"])
    refine ⟨_, rfl, d, ra, rfl, D1.same (s1.trans s2), fun x v H2 gx k2 D2 dx => ?_⟩
    obtain rfl := dt_str_inv dx
    refine ⟨(by show 2 ≤ sizeLine; decide), fun a3 e3 => ⟨(by show 1 ≤ sizeLine; decide), fun a4 e4 => ⟨(by show 4 ≤ sizeLine; decide), fun l el => ?_⟩⟩⟩
    have s3 := same_new e3 (.tup [.str "named", .str x])
    have s4 := same_new e4 (.tup [.str "int"])
    have s5 := same_new el (.lst [.ref a1, .ref a2, .ref a3, .ref a4])
    have kk := ((k1.trans (same_kp (s1.trans s2))).trans k2).trans (same_kp ((s3.trans s4).trans s5))
    have DD := D2.same ((s3.trans s4).trans s5)
    have t2 : KeepT _ _ := (D1.same (s1.trans s2)).kt k2
    have d1 := dt_keep (same_kt ((s3.trans s4).trans s5)) (dt_keep t2 (dt_keep (same_kt s2) (dt_new (K := K) e1 (.cons (.str "int") .nil))))
    have d2 := dt_keep (same_kt ((s3.trans s4).trans s5)) (dt_keep t2 (dt_new (K := K) e2 (.cons (.str "bool") .nil)))
    have d3 := dt_keep (same_kt (s4.trans s5)) (dt_new (K := K) e3 (.cons (.str "named") (.cons (.str x) .nil)))
    have d4 := dt_keep (same_kt s5) (dt_new (K := K) e4 (.cons (.str "int") .nil))
    have g0 : ∀ n, GK n .int := fun n => by cases n <;> exact trivial
    have g1 : ∀ n, GK n .bool := fun n => by cases n <;> exact trivial
    have g2 : ∀ n, GK n (.named x) := fun n => by cases n <;> exact gx
    have hm : r % 4 = 0 ∨ r % 4 = 1 ∨ r % 4 = 2 ∨ r % 4 = 3 := by omega
    rcases hm with h | h | h | h
    · exact ⟨_, rfl, _, _, rfl, rfl, (by show (0 : Int) < 4; decide), l, _, _, .ref a1, rfl, rfl, SqL.of upd_same, by rw [h]; rfl, q .int _ _ (g0 n) kk DD d1⟩
    · exact ⟨_, rfl, _, _, rfl, rfl, (by show (0 : Int) < 4; decide), l, _, _, .ref a2, rfl, rfl, SqL.of upd_same, by rw [h]; rfl, q .bool _ _ (g1 n) kk DD d2⟩
    · exact ⟨_, rfl, _, _, rfl, rfl, (by show (0 : Int) < 4; decide), l, _, _, .ref a3, rfl, rfl, SqL.of upd_same, by rw [h]; rfl, q (.named x) _ _ (g2 n) kk DD d3⟩
    · exact ⟨_, rfl, _, _, rfl, rfl, (by show (0 : Int) < 4; decide), l, _, _, .ref a4, rfl, rfl, SqL.of upd_same, by rw [h]; rfl, q .int _ _ (g0 n) kk DD d4⟩
  · simp only [Bool.or_eq_false_iff, decide_eq_false_iff_not] at hb
    obtain ⟨m, rfl⟩ : ∃ m, n = m + 1 := ⟨n - 1, by omega⟩
    refine ⟨(by show 4 ≤ sizeLine; decide), fun l el => ?_⟩
    have s1 := same_new el (.lst [.str "box", .str "vec", .str "ref", .str "mut"])
    obtain ⟨j, ej⟩ := Int.eq_ofNat_of_zero_le (show 0 ≤ r - 4 by omega)
    have hj : j < 4 := by omega
    have sq : SqL K (upd H1 l (.lst [.str "box", .str "vec", .str "ref", .str "mut"])) l [.str "box", .str "vec", .str "ref", .str "mut"] := SqL.of upd_same
    have pick : ∃ (f : Kd → Kd) (x : Str), (∀ k, Kd.d (f k) = .tuple [.str x, k.d]) ∧ (∀ k, GK m k → GK (m + 1) (f k)) ∧ atI [V.str "box", .str "vec", .str "ref", .str "mut"] (r - 4) = some (.str x) := by
      rw [ej]
      match j, hj with
      | 0, _ => exact ⟨Kd.box, "box", fun _ => rfl, fun _ h => h, rfl⟩
      | 1, _ => exact ⟨Kd.vec, "vec", fun _ => rfl, fun _ h => h, rfl⟩
      | 2, _ => exact ⟨Kd.ref, "ref", fun _ => rfl, fun _ h => h, rfl⟩
      | 3, _ => exact ⟨Kd.mut, "mut", fun _ => rfl, fun _ h => h, rfl⟩
    obtain ⟨f, x, hf, hg, ha⟩ := pick
    refine ⟨_, rfl, _, _, rfl, rfl, l, _, _, .str x, rfl, rfl, sq, ha, ?_⟩
    refine ⟨_, rfl, _, rfl, _, _, rfl, rfl, m, Nat.lt_succ_self m, d, ra, congrArg (fun z => [V.ref d, V.int z]) (show ((m + 1 : Nat) : Int) - 1 = (m : Nat) by omega), D1.same s1, fun k v H2 gk k2 D2 dk => ?_⟩
    refine ⟨(by show 2 ≤ sizeLine; decide), fun t et => ?_⟩
    have s2 := same_new et (.tup [.str x, v])
    refine q (f k) _ _ (hg k gk) (((k1.trans (same_kp s1)).trans k2).trans (same_kp s2)) (D2.same s2) ?_
    rw [hf]
    exact dt_new et (.cons (.str x) (.cons dk .nil))
/-- kinds, at every depth -/
theorem gkind_ok (T : Tx K mg) : ∀ n, GFn P w K mg base (n + 4) (a_law_kind K) (fdOf K d_law_kind) (spGA K GK Kd.d n)
  | 0 => gfn_zero
  | n + 1 => gfn_succ (gkind_ok T n) (ok_gkind T n (gkind_ok T n))
/-- a comprehension over a range, each item drawn -/
theorem lc_draw {n j : Nat} {te : TE} {vs : List Nat} {σ : L2.St} {H1 : Hp} {D d ra : Addr} {Qd : Hp → Prop} {α : Type} {good : α → Prop} {enc : α → PyData} (hw : ∀ x, wipe ((wipe σ vs).set j x) vs = wipe σ vs) (D0 : Dr ra H1 d) (hD : H1 D = none) (hn : n ≤ 1000)
    (step : ∀ (i : Nat) (H : Hp) (Q' : VK), Dr ra H d → GenQ K good enc ra d H Q' → te ((wipe σ vs).set j (some (.int (0 + (i : Int))))) H Q')
    (done : ∀ (H : Hp) (ws : List V) (xs : List α), xs.length = n → (∀ x ∈ xs, good x) → Keep d H1 H → Dr ra H d → H D = some (.lst ws) → Dts K H ws (xs.map enc) → Qd H) :
    ∃ W : Nat → Nat → Hp → Prop, (∃ m, W 0 m (upd H1 D (.lst []))) ∧ ∀ i m H, W i m H →
      ((Itr 0 n).stop i H ∧ Qd H) ∨ ((Itr 0 n).go i H ∧ ∃ Nx : Hp → Prop, (∀ H', Nx H' → ∃ m', m' < m ∧ W (i + 1) m' H') ∧ ∀ x H', (Itr 0 n).yld i H x H' → gName j x (wipe σ vs) H' fun σ2 H2 => wipe σ2 vs = wipe σ vs ∧ tYes σ2 H2 fun b H3 =>
        if b = true then te σ2 H3 fun y H4 => ∃ acc, H4 D = some (.lst acc) ∧ acc.length < sizeLine ∧ Nx (upd H4 D (.lst (acc ++ [y]))) else Nx H3) := by
  refine lc_range (lo := 0) (n := n) (g := gName j) (tt := tYes) (te := te) (vs := vs) (σ := σ) (Qd := Qd) (fun i H => ∃ (ws : List V) (xs : List α), xs.length = i ∧ (∀ x ∈ xs, good x) ∧ Keep d H1 H ∧ Dr ra H d ∧ H D = some (.lst ws) ∧ Dts K H ws (xs.map enc)) ⟨[], [], rfl, by simp, same_kp (same_new hD _), D0.same (same_new hD _), upd_same, .nil⟩ ?_ ?_
  · rintro i H hi ⟨ws, xs, hl, hg, k, Dd, hws, dws⟩
    refine ⟨hw _, (step i H _ Dd fun a v H' ga k2 D2 dv => ?_)⟩
    have nd : D ≠ d := (D0.ne hD).symm
    have na : ra ≠ D := D0.nea hD
    have hws2 := k2 _ _ nd hws
    have kt := kt_upd hws2 (fun z => z) (.lst (ws ++ [v]))
    refine ⟨ws, hws2, ?_, ws ++ [v], xs ++ [a], by simp [hl], ?_, ?_, D2.other nd.symm na _, upd_same, ?_⟩
    · have := dts_len dws
      rw [List.length_map] at this
      rw [this, hl, show sizeLine = 16777216 from rfl]
      omega
    · intro x hx
      rcases List.mem_append.mp hx with h | h
      · exact hg x h
      · obtain rfl := List.mem_singleton.mp h
        exact ga
    · exact (k.trans k2).other hD _
    · rw [List.map_append]
      exact dts_keep kt (dts_app (dts_keep (Dd.kt k2) dws) (dts_one dv))
  · rintro H ⟨ws, xs, hl, hg, k, Dd, hws, dws⟩
    exact done H ws xs hl hg k Dd hws dws
def callD (xs : List Ex) : PyData := .tuple (Ex.ds xs)
theorem ok_call (T : Tx K mg) (n : Nat) {k : Nat} (hk : 3 ≤ k) (G_law_expr : GFn P w K mg base k (a_law_expr K) (fdOf K d_law_expr) (spGA K GE Ex.d n)) : GFn P w K mg base (k + 1) (a_law_call K) (fdOf K d_law_call) (fun vs H Q E => ∃ m, n = m + 1 ∧ spG K [.int (n : Nat)] (fun e => e.isCall = true ∧ GE n e) Ex.d vs H Q E) := by
  have G_law_pick := ok_pick (P := P) (w := w) (base := base) T
  have G_law_name := ok_name (P := P) (w := w) (base := base) T
  refine (F_law_call T).ok sc_law_call (fun vs H Q E h => ?_) (fun cdv A0 outer s H vs Q E hr h => ?_)
  · obtain ⟨m, _, h⟩ := h
    exact spG_len h
  obtain ⟨m, rfl, d, ra, rfl, D, q⟩ := h
  refine ⟨_, PSs.nox (pss_one (ps_ret (pe_tup (pa_cons pe_str (pa_cons (pe_call G_law_name (hr.mono (by omega)) rfl (m_law_name T) (F_law_name T).kp (B_law_name T) .nil pass0 (pa_cons (pv 0) pa_nil)) (pa_cons (pe_callTy call_tuple_of (by rfl) (z_tuple T) (by decide +kernel) (pa_cons (pe_lc (own := [("_law_k", 2)]) rfl sc_law_call.nd (pi_range1 rfl (z_range T) (pa_cons (pe_call G_law_pick (hr.mono (by omega)) rfl (m_law_pick T) (F_law_pick T).kp (B_law_pick T) .nil pass0 (pa_cons (pv 0) (pa_cons pe_int pa_nil))) pa_nil)) (blkOk_by (N := ["_law_draws", "_law_depth", "_law_k"]) (sc := defScope s_law_call) (by decide +kernel)) (fun _ _ _ _ _ => (pg_name (i := 2) sc_law_call.nd rfl (Or.inl rfl))) (fun _ _ _ _ _ => pts_nil) (fun _ _ _ _ _ => (pe_call G_law_expr (hr.mono (by omega)) rfl (m_law_expr T) (F_law_expr T).kp (B_law_expr T) .nil pass0 (pa_cons (pv 0) (pa_cons (pe_op op_sub (pv 1) pe_int) pa_nil))))) pa_nil)) pa_nil)))))), ?_⟩
  refine ⟨_, rfl, d, ra, rfl, D, fun x v H1 gx k1 D1 dx => ?_⟩
  obtain rfl := dt_str_inv dx
  refine ⟨_, rfl, d, 4, ra, rfl, by decide, D1, fun r H2 h0 h1 k2 D2 => ?_⟩
  refine ⟨r, rfl, by omega, by omega, fun l el => ?_⟩
  refine lc_draw (K := K) (good := GE m) (enc := Ex.d) ?_ D2 el ?_ ?_ ?_
  · exact fun _ => rfl
  · omega
  · intro i H3 Q' D3 g
    refine ⟨_, rfl, _, rfl, _, _, rfl, rfl, ?_⟩
    exact ⟨m, Nat.lt_succ_self m, d, ra, congrArg (fun z => [V.ref d, V.int z]) (show ((m + 1 : Nat) : Int) - 1 = (m : Nat) by omega), D3, g⟩
  · intro H3 ws xs hl hg k3 D3 hws dws
    refine ⟨l, ws, rfl, .inl ⟨SqL.of hws, fun t et => ?_⟩⟩
    have s4 := same_new et (.tup ws)
    refine ⟨(by show 3 ≤ sizeLine; decide), fun t2 et2 => ?_⟩
    have s5 := same_new et2 (.tup [.str "call", .str x, .ref t])
    refine q (.call x xs) _ _ ⟨rfl, gx, by omega, hg⟩ ((((k1.trans k2).trans k3).trans (same_kp s4)).trans (same_kp s5)) ((D3.same s4).same s5) (dt_new et2 (.cons (.str _) (.cons (.str _) (.cons ?_ .nil))))
    rw [Ex.ds_map]
    exact dt_new et dws
def GPl (n : Nat) (e : Ex) : Prop := e.isPlace = true ∧ GE n e
/-- f(draws, depth - 1) -/
theorem sub_args {d : Addr} {m : Nat} : [V.ref d, V.int (((m + 1 : Nat) : Int) - 1)] = V.ref d :: [V.int (m : Nat)] := congrArg (fun z => [V.ref d, V.int z]) (show ((m + 1 : Nat) : Int) - 1 = (m : Nat) by omega)
theorem ok_place' (T : Tx K mg) (n : Nat) {k : Nat} (hk : 3 ≤ k) (G_law_place : GFn P w K mg base k (a_law_place K) (fdOf K d_law_place) (spGA K GPl Ex.d n)) (G_law_expr : GFn P w K mg base k (a_law_expr K) (fdOf K d_law_expr) (spGA K GE Ex.d n)) :
    GFn P w K mg base (k + 1) (a_law_place K) (fdOf K d_law_place) (spG K [.int (n : Nat)] (GPl n) Ex.d) := by
  have G_law_pick := ok_pick (P := P) (w := w) (base := base) T
  have G_law_name := ok_name (P := P) (w := w) (base := base) T
  refine (F_law_place T).ok sc_law_place (fun vs H Q E h => spG_len h) (fun cdv A0 outer s H vs Q E hr h => ?_)
  obtain ⟨d, ra, rfl, D, q⟩ := h
  refine ⟨_, PSs.nox (pss_cons (ps_set (i := 2) sc_law_place.nd rfl (Or.inl rfl) (pe_call G_law_pick (hr.mono (by omega)) rfl (m_law_pick T) (F_law_pick T).kp (B_law_pick T) .nil pass0 (pa_cons (pv 0) (pa_cons pe_int pa_nil)))) (pss_cons (ps_if (PW.pt (pw_or (pt_cmpR op_lt (pv 1) pe_int (nomark _)) (pw_or1 (pt_cmpR op_lt (pv 2) pe_int (nomark _))))) (pss_one (ps_ret (pe_tup (pa_cons pe_str (pa_cons (pe_call G_law_name (hr.mono (by omega)) rfl (m_law_name T) (F_law_name T).kp (B_law_name T) .nil pass0 (pa_cons (pv 0) pa_nil)) pa_nil))))) pss_nil) (pss_cons (ps_if (pt_cmpR op_eq (pv 2) pe_int (nomark _)) (pss_one (ps_ret (pe_tup (pa_cons pe_str (pa_cons (pe_call G_law_place (hr.mono (by omega)) rfl (m_law_place T) (F_law_place T).kp (B_law_place T) .nil pass0 (pa_cons (pv 0) (pa_cons (pe_op op_sub (pv 1) pe_int) pa_nil))) pa_nil))))) pss_nil) (pss_cons (ps_if (pt_cmpR op_lt (pv 2) pe_int (nomark _)) (pss_one (ps_ret (pe_tup (pa_cons pe_str (pa_cons (pe_call G_law_place (hr.mono (by omega)) rfl (m_law_place T) (F_law_place T).kp (B_law_place T) .nil pass0 (pa_cons (pv 0) (pa_cons (pe_op op_sub (pv 1) pe_int) pa_nil))) (pa_cons (pe_call G_law_name (hr.mono (by omega)) rfl (m_law_name T) (F_law_name T).kp (B_law_name T) .nil pass0 (pa_cons (pv 0) pa_nil)) pa_nil)))))) pss_nil) (pss_one (ps_ret (pe_tup (pa_cons pe_str (pa_cons (pe_call G_law_place (hr.mono (by omega)) rfl (m_law_place T) (F_law_place T).kp (B_law_place T) .nil pass0 (pa_cons (pv 0) (pa_cons (pe_op op_sub (pv 1) pe_int) pa_nil))) (pa_cons (pe_call G_law_expr (hr.mono (by omega)) rfl (m_law_expr T) (F_law_expr T).kp (B_law_expr T) .nil pass0 (pa_cons (pv 0) (pa_cons (pe_op op_sub (pv 1) pe_int) pa_nil))) pa_nil)))))))))), ?_⟩
  refine ⟨_, rfl, d, 6, ra, rfl, by decide, D, fun r H1 h0 h1 k1 D1 => ?_⟩
  dsimp only [gName, tSeq, tIfS]
  refine t_or (decide ((n : Int) < 1)) (decide (r < 2)) (fun Q' h' => ⟨_, rfl, _, _, rfl, rfl, _, rfl, h'⟩) (fun Q' h' => ⟨_, rfl, _, _, rfl, rfl, _, rfl, h'⟩) ?_
  refine iteB (fun _ => ?_) (fun hb => ?_)
  · refine ⟨_, rfl, d, ra, rfl, D1, fun x v H2 gx k2 D2 dx => ?_⟩
    obtain rfl := dt_str_inv dx
    refine ⟨(by show 2 ≤ sizeLine; decide), fun t et => ?_⟩
    have s2 := same_new et (.tup [.str "name", .str x])
    exact q (.name x) _ _ ⟨rfl, by cases n <;> exact gx⟩ ((k1.trans k2).trans (same_kp s2)) (D2.same s2) (dt_new et (.cons (.str _) (.cons (.str _) .nil)))
  simp only [Bool.or_eq_false_iff, decide_eq_false_iff_not] at hb
  obtain ⟨m, rfl⟩ : ∃ m, n = m + 1 := ⟨n - 1, by omega⟩
  refine ⟨_, rfl, rfl, _, rfl, ?_⟩
  refine iteB (fun _ => ?_) (fun _ => ?_)
  · refine ⟨_, rfl, _, rfl, _, _, rfl, rfl, m, Nat.lt_succ_self m, d, ra, sub_args, D1, fun e v H2 ge k2 D2 de => ?_⟩
    refine ⟨(by show 2 ≤ sizeLine; decide), fun t et => ?_⟩
    have s2 := same_new et (.tup [.str "deref", v])
    exact q (.rf .deref e) _ _ ⟨rfl, ge.1, ge.2⟩ ((k1.trans k2).trans (same_kp s2)) (D2.same s2) (dt_new et (.cons (.str _) (.cons de .nil)))
  refine ⟨_, rfl, _, _, rfl, rfl, _, rfl, ?_⟩
  refine iteB (fun _ => ?_) (fun _ => ?_)
  · refine ⟨_, rfl, _, rfl, _, _, rfl, rfl, m, Nat.lt_succ_self m, d, ra, sub_args, D1, fun e v H2 ge k2 D2 de => ?_⟩
    refine ⟨_, rfl, d, ra, rfl, D2, fun x v3 H3 gx k3 D3 dx => ?_⟩
    obtain rfl := dt_str_inv dx
    refine ⟨(by show 3 ≤ sizeLine; decide), fun t et => ?_⟩
    have s2 := same_new et (.tup [.str "field", v, .str x])
    exact q (.field e x) _ _ ⟨rfl, ge.1, ge.2, gx⟩ (((k1.trans k2).trans k3).trans (same_kp s2)) (D3.same s2) (dt_new et (.cons (.str _) (.cons (dt_keep (D2.kt k3) de) (.cons (.str _) .nil))))
  · refine ⟨_, rfl, _, rfl, _, _, rfl, rfl, m, Nat.lt_succ_self m, d, ra, sub_args, D1, fun e v H2 ge k2 D2 de => ?_⟩
    refine ⟨_, rfl, _, rfl, _, _, rfl, rfl, m, Nat.lt_succ_self m, d, ra, sub_args, D2, fun e3 v3 H3 ge3 k3 D3 de3 => ?_⟩
    refine ⟨(by show 3 ≤ sizeLine; decide), fun t et => ?_⟩
    have s2 := same_new et (.tup [.str "index", v, v3])
    exact q (.index e e3) _ _ ⟨rfl, ge.1, ge.2, ge3⟩ (((k1.trans k2).trans k3).trans (same_kp s2)) (D3.same s2) (dt_new et (.cons (.str _) (.cons (dt_keep (D2.kt k3) de) (.cons de3 .nil))))
theorem ok_expr (T : Tx K mg) (n : Nat) {k : Nat} (hk : 8 ≤ k) (G_law_place : GFn P w K mg base k (a_law_place K) (fdOf K d_law_place) (spGA K GPl Ex.d (n + 1))) (G_law_expr : GFn P w K mg base k (a_law_expr K) (fdOf K d_law_expr) (spGA K GE Ex.d n))
    (G_law_call : GFn P w K mg base k (a_law_call K) (fdOf K d_law_call) (fun vs H Q E => ∃ m, n = m + 1 ∧ spG K [.int (n : Nat)] (fun e => e.isCall = true ∧ GE n e) Ex.d vs H Q E)) :
    GFn P w K mg base (k + 1) (a_law_expr K) (fdOf K d_law_expr) (spG K [.int (n : Nat)] (GE n) Ex.d) := by
  have G_law_pick := ok_pick (P := P) (w := w) (base := base) T
  have G_law_name := ok_name (P := P) (w := w) (base := base) T
  have G_law_number := ok_number (P := P) (w := w) (base := base) T
  have G_law_kind := gkind_ok (P := P) (w := w) (base := base) T 3
  refine (F_law_expr T).ok sc_law_expr (fun vs H Q E h => spG_len h) (fun cdv A0 outer s H vs Q E hr h => ?_)
  obtain ⟨d, ra, rfl, D, q⟩ := h
  refine ⟨_, PSs.nox (pss_cons (ps_set (i := 2) sc_law_expr.nd rfl (Or.inl rfl) (pe_call G_law_pick (hr.mono (by omega)) rfl (m_law_pick T) (F_law_pick T).kp (B_law_pick T) .nil pass0 (pa_cons (pv 0) (pa_cons pe_int pa_nil)))) (pss_cons (ps_if (PW.pt (pw_or (pt_cmpR op_lt (pv 1) pe_int (nomark _)) (pw_or1 (pt_cmpR op_lt (pv 2) pe_int (nomark _))))) (pss_one (ps_ret (pe_ix ix_list (pe_lst (pa_cons (pe_tup (pa_cons pe_str (pa_cons (pe_call G_law_number (hr.mono (by omega)) rfl (m_law_number T) (F_law_number T).kp (B_law_number T) .nil pass0 (pa_cons (pv 0) pa_nil)) pa_nil))) (pa_cons (pe_tup (pa_cons pe_str (pa_cons (pe_call G_law_name (hr.mono (by omega)) rfl (m_law_name T) (F_law_name T).kp (B_law_name T) .nil pass0 (pa_cons (pv 0) pa_nil)) pa_nil))) (pa_cons (pe_tup (pa_cons pe_str (pa_cons (pe_cmpR op_eq (pe_call G_law_pick (hr.mono (by omega)) rfl (m_law_pick T) (F_law_pick T).kp (B_law_pick T) .nil pass0 (pa_cons (pv 0) (pa_cons pe_int pa_nil))) pe_int (nomark _)) pa_nil))) pa_nil)))) (pe_op op_mod (pv 2) pe_int) (fun _ _ => rfl)))) pss_nil) (pss_cons (ps_if (pt_cmpR op_lt (pv 2) pe_int (nomark _)) (pss_cons (ps_set (i := 3) sc_law_expr.nd rfl (Or.inl rfl) (pe_ix ix_list (pe_lst (pa_cons pe_str (pa_cons pe_str (pa_cons pe_str (pa_cons pe_str (pa_cons pe_str pa_nil)))))) (pe_call G_law_pick (hr.mono (by omega)) rfl (m_law_pick T) (F_law_pick T).kp (B_law_pick T) .nil pass0 (pa_cons (pv 0) (pa_cons pe_int pa_nil))) (fun _ _ => rfl))) (pss_one (ps_ret (pe_tup (pa_cons pe_str (pa_cons (pv 3) (pa_cons (pe_call G_law_expr (hr.mono (by omega)) rfl (m_law_expr T) (F_law_expr T).kp (B_law_expr T) .nil pass0 (pa_cons (pv 0) (pa_cons (pe_op op_sub (pv 1) pe_int) pa_nil))) (pa_cons (pe_call G_law_expr (hr.mono (by omega)) rfl (m_law_expr T) (F_law_expr T).kp (B_law_expr T) .nil pass0 (pa_cons (pv 0) (pa_cons (pe_op op_sub (pv 1) pe_int) pa_nil))) pa_nil)))))))) pss_nil) (pss_cons (ps_if (pt_cmpR op_lt (pv 2) pe_int (nomark _)) (pss_one (ps_ret (pe_tup (pa_cons (pe_ix ix_list (pe_lst (pa_cons pe_str (pa_cons pe_str (pa_cons pe_str pa_nil)))) (pe_op op_sub (pv 2) pe_int) (fun _ _ => rfl)) (pa_cons (pe_call G_law_expr (hr.mono (by omega)) rfl (m_law_expr T) (F_law_expr T).kp (B_law_expr T) .nil pass0 (pa_cons (pv 0) (pa_cons (pe_op op_sub (pv 1) pe_int) pa_nil))) pa_nil))))) pss_nil) (pss_cons (ps_if (pt_cmpR op_eq (pv 2) pe_int (nomark _)) (pss_one (ps_ret (pe_tup (pa_cons (pe_ix ix_list (pe_lst (pa_cons pe_str (pa_cons pe_str (pa_cons pe_str pa_nil)))) (pe_call G_law_pick (hr.mono (by omega)) rfl (m_law_pick T) (F_law_pick T).kp (B_law_pick T) .nil pass0 (pa_cons (pv 0) (pa_cons pe_int pa_nil))) (fun _ _ => rfl)) (pa_cons (pe_call G_law_place (hr.mono (by omega)) rfl (m_law_place T) (F_law_place T).kp (B_law_place T) .nil pass0 (pa_cons (pv 0) (pa_cons (pe_op op_sub (pv 1) pe_int) pa_nil))) pa_nil))))) pss_nil) (pss_cons (ps_if (pt_cmpR op_eq (pv 2) pe_int (nomark _)) (pss_one (ps_ret (pe_tup (pa_cons pe_str (pa_cons (pe_call G_law_kind (hr.mono (by omega)) rfl (m_law_kind T) (F_law_kind T).kp (B_law_kind T) .nil pass0 (pa_cons (pv 0) (pa_cons pe_int pa_nil))) pa_nil))))) pss_nil) (pss_cons (ps_if (pt_cmpR op_eq (pv 2) pe_int (nomark _)) (pss_one (ps_ret (pe_call G_law_call (hr.mono (by omega)) rfl (m_law_call T) (F_law_call T).kp (B_law_call T) .nil pass0 (pa_cons (pv 0) (pa_cons (pv 1) pa_nil))))) pss_nil) (pss_one (ps_ret (pe_call G_law_place (hr.mono (by omega)) rfl (m_law_place T) (F_law_place T).kp (B_law_place T) .nil pass0 (pa_cons (pv 0) (pa_cons (pv 1) pa_nil)))))))))))), ?_⟩
  refine ⟨_, rfl, d, 15, ra, rfl, by decide, D, fun r H1 h0 h1 k1 D1 => ?_⟩
  dsimp only [gName, tSeq, tIfS]
  refine t_or (decide ((n : Int) < 1)) (decide (r < 3)) (fun Q' h' => ⟨_, rfl, _, _, rfl, rfl, _, rfl, h'⟩) (fun Q' h' => ⟨_, rfl, _, _, rfl, rfl, _, rfl, h'⟩) ?_
  refine iteB (fun _ => ?_) (fun hb => ?_)
  · refine ⟨_, rfl, d, ra, rfl, D1, fun x v H2 gx k2 D2 dx => ?_⟩
    obtain rfl := dt_int_inv dx
    refine ⟨(by show 2 ≤ sizeLine; decide), fun t1 e1 => ?_⟩
    have s1 := same_new e1 (.tup [.str "num", .int (x : Nat)])
    refine ⟨_, rfl, d, ra, rfl, D2.same s1, fun y v H3 gy k3 D3 dy => ?_⟩
    obtain rfl := dt_str_inv dy
    refine ⟨(by show 2 ≤ sizeLine; decide), fun t2 e2 => ?_⟩
    have s2 := same_new e2 (.tup [.str "name", .str y])
    refine ⟨_, rfl, d, 2, ra, rfl, by decide, D3.same s2, fun z H4 hz0 hz1 k4 D4 => ?_⟩
    refine ⟨rfl, (by show 2 ≤ sizeLine; decide), fun t3 e3 => ⟨(by show 3 ≤ sizeLine; decide), fun l el => ?_⟩⟩
    have s3 := same_new e3 (.tup [.str "truth", .bl (decide (V.int z = V.int 0))])
    have s4 := same_new el (.lst [.ref t1, .ref t2, .ref t3])
    have kk := (((((k1.trans k2).trans (same_kp s1)).trans k3).trans (same_kp s2)).trans k4).trans (same_kp (s3.trans s4))
    have DD := D4.same (s3.trans s4)
    have d1 := dt_keep (same_kt (s3.trans s4)) (dt_keep ((D3.same s2).kt k4) (dt_keep (same_kt s2) (dt_keep ((D2.same s1).kt k3) (dt_new (K := K) e1 (.cons (.str "num") (.cons (.int (x : Nat)) .nil))))))
    have d2 := dt_keep (same_kt (s3.trans s4)) (dt_keep ((D3.same s2).kt k4) (dt_new (K := K) e2 (.cons (.str "name") (.cons (.str y) .nil))))
    have d3 := dt_keep (same_kt s4) (dt_new (K := K) e3 (.cons (.str "truth") (.cons (.bl (decide (V.int z = V.int 0))) .nil)))
    have hm : r % 3 = 0 ∨ r % 3 = 1 ∨ r % 3 = 2 := by omega
    rcases hm with h | h | h
    · exact ⟨_, rfl, _, _, rfl, rfl, (by show (0 : Int) < 3; decide), l, _, _, .ref t1, rfl, rfl, SqL.of upd_same, by rw [h]; rfl, q (.num x) _ _ (by cases n <;> exact gx) kk DD d1⟩
    · exact ⟨_, rfl, _, _, rfl, rfl, (by show (0 : Int) < 3; decide), l, _, _, .ref t2, rfl, rfl, SqL.of upd_same, by rw [h]; rfl, q (.name y) _ _ (by cases n <;> exact gy) kk DD d2⟩
    · exact ⟨_, rfl, _, _, rfl, rfl, (by show (0 : Int) < 3; decide), l, _, _, .ref t3, rfl, rfl, SqL.of upd_same, by rw [h]; rfl, q (.truth (decide (V.int z = V.int 0))) _ _ (by cases n <;> exact trivial) kk DD d3⟩
  simp only [Bool.or_eq_false_iff, decide_eq_false_iff_not] at hb
  obtain ⟨m, rfl⟩ : ∃ m, n = m + 1 := ⟨n - 1, by omega⟩
  refine ⟨_, rfl, _, _, rfl, rfl, _, rfl, ?_⟩
  refine iteB (fun _ => ?_) (fun hb2 => ?_)
  · refine ⟨(by show 5 ≤ sizeLine; decide), fun l el => ?_⟩
    have s1 := same_new el (.lst [.str "+", .str "-", .str "*", .str "==", .str "<"])
    refine ⟨_, rfl, d, 5, ra, rfl, by decide, D1.same s1, fun i H2 hi0 hi1 k2 D2 => ?_⟩
    have pick : ∃ o : Op, atI [V.str "+", V.str "-", V.str "*", V.str "==", V.str "<"] i = some (.str o.txt) := by
      obtain ⟨j, rfl⟩ := Int.eq_ofNat_of_zero_le hi0
      match j, hi1 with
      | 0, _ => exact ⟨.add, rfl⟩
      | 1, _ => exact ⟨.sub, rfl⟩
      | 2, _ => exact ⟨.mul, rfl⟩
      | 3, _ => exact ⟨.eq, rfl⟩
      | 4, _ => exact ⟨.lt, rfl⟩
      | j + 5, hi1 => omega
    obtain ⟨o, ho⟩ := pick
    refine ⟨l, _, i, _, rfl, rfl, SqL.of (k2 _ _ (D1.ne' el) upd_same), ho, ?_⟩
    refine ⟨_, rfl, _, rfl, _, rfl, _, _, rfl, rfl, m, Nat.lt_succ_self m, d, ra, sub_args, D2, fun e v H3 ge k3 D3 de => ?_⟩
    refine ⟨_, rfl, _, rfl, _, _, rfl, rfl, m, Nat.lt_succ_self m, d, ra, sub_args, D3, fun e4 v4 H4 ge4 k4 D4 de4 => ?_⟩
    refine ⟨(by show 4 ≤ sizeLine; decide), fun t et => ?_⟩
    have s2 := same_new et (.tup [.str "op", .str o.txt, v, v4])
    exact q (.op o e e4) _ _ ⟨ge, ge4⟩ (((((k1.trans (same_kp s1)).trans k2).trans k3).trans k4).trans (same_kp s2)) (D4.same s2) (dt_new et (.cons (.str _) (.cons (.str _) (.cons (dt_keep (D3.kt k4) de) (.cons de4 .nil)))))
  have hb2' := of_decide_eq_false hb2
  refine ⟨_, rfl, _, _, rfl, rfl, _, rfl, ?_⟩
  refine iteB (fun hb3 => ?_) (fun hb3 => ?_)
  · have hb3' := of_decide_eq_true hb3
    refine ⟨(by show 3 ≤ sizeLine; decide), fun l el => ?_⟩
    have s1 := same_new el (.lst [.str "not", .str "box", .str "unbox"])
    have pick : ∃ u : Un, atI [V.str "not", V.str "box", V.str "unbox"] (r - 7) = some (.str u.txt) := by
      obtain ⟨j, ej⟩ := Int.eq_ofNat_of_zero_le (show 0 ≤ r - 7 by omega)
      rw [ej]
      have hj : j < 3 := by omega
      match j, hj with
      | 0, _ => exact ⟨.not, rfl⟩
      | 1, _ => exact ⟨.box, rfl⟩
      | 2, _ => exact ⟨.unbox, rfl⟩
    obtain ⟨u, hu⟩ := pick
    refine ⟨_, rfl, _, _, rfl, rfl, l, _, _, _, rfl, rfl, SqL.of upd_same, hu, ?_⟩
    refine ⟨_, rfl, _, rfl, _, _, rfl, rfl, m, Nat.lt_succ_self m, d, ra, sub_args, D1.same s1, fun e v H3 ge k3 D3 de => ?_⟩
    refine ⟨(by show 2 ≤ sizeLine; decide), fun t et => ?_⟩
    have s2 := same_new et (.tup [.str u.txt, v])
    exact q (.un u e) _ _ ge (((k1.trans (same_kp s1)).trans k3).trans (same_kp s2)) (D3.same s2) (dt_new et (.cons (.str _) (.cons de .nil)))
  refine ⟨_, rfl, rfl, _, rfl, ?_⟩
  refine iteB (fun hb4 => ?_) (fun hb4 => ?_)
  · refine ⟨(by show 3 ≤ sizeLine; decide), fun l el => ?_⟩
    have s1 := same_new el (.lst [.str "ref", .str "mut", .str "len"])
    refine ⟨_, rfl, d, 3, ra, rfl, by decide, D1.same s1, fun i H2 hi0 hi1 k2 D2 => ?_⟩
    have pick : ∃ (f : Ex → Ex) (x : Str), (∀ e, Ex.d (f e) = .tuple [.str x, e.d]) ∧ (∀ e, GPl m e → GE (m + 1) (f e)) ∧ atI [V.str "ref", V.str "mut", V.str "len"] i = some (.str x) := by
      obtain ⟨j, rfl⟩ := Int.eq_ofNat_of_zero_le hi0
      match j, hi1 with
      | 0, _ => exact ⟨.rf .ref, "ref", fun _ => rfl, fun _ h => h, rfl⟩
      | 1, _ => exact ⟨.rf .mut, "mut", fun _ => rfl, fun _ h => h, rfl⟩
      | 2, _ => exact ⟨.len, "len", fun _ => rfl, fun _ h => h, rfl⟩
      | j + 3, hi1 => omega
    obtain ⟨f, x, hf, hg, ho⟩ := pick
    refine ⟨l, _, i, _, rfl, rfl, SqL.of (k2 _ _ (D1.ne' el) upd_same), ho, ?_⟩
    refine ⟨_, rfl, _, rfl, _, _, rfl, rfl, m, (by omega), d, ra, sub_args, D2, fun e v H3 ge k3 D3 de => ?_⟩
    refine ⟨(by show 2 ≤ sizeLine; decide), fun t et => ?_⟩
    have s2 := same_new et (.tup [.str x, v])
    refine q (f e) _ _ (hg e ge) ((((k1.trans (same_kp s1)).trans k2).trans k3).trans (same_kp s2)) (D3.same s2) ?_
    rw [hf]
    exact dt_new et (.cons (.str _) (.cons de .nil))
  refine ⟨_, rfl, rfl, _, rfl, ?_⟩
  refine iteB (fun hb5 => ?_) (fun hb5 => ?_)
  · refine ⟨_, rfl, 2, by decide, d, ra, rfl, D1, fun kd v H2 gk k2 D2 dk => ?_⟩
    refine ⟨(by show 2 ≤ sizeLine; decide), fun t et => ?_⟩
    have s2 := same_new et (.tup [.str "vec", v])
    exact q (.vec kd) _ _ gk ((k1.trans k2).trans (same_kp s2)) (D2.same s2) (dt_new et (.cons (.str _) (.cons dk .nil)))
  refine ⟨_, rfl, rfl, _, rfl, ?_⟩
  refine iteB (fun hb6 => ?_) (fun hb6 => ?_)
  · exact ⟨_, rfl, _, rfl, m, rfl, d, ra, rfl, D1, fun e v H2 ge k2 D2 de => q e v _ ge.2 (k1.trans k2) D2 de⟩
  · exact ⟨_, rfl, _, rfl, m + 1, Nat.lt_succ_self _, d, ra, rfl, D1, fun e v H2 ge k2 D2 de => q e v _ ge.2 (k1.trans k2) D2 de⟩
/-- places, expressions, at every depth -/
theorem gexpr_ok (T : Tx K mg) : ∀ n, GFn P w K mg base (2 * n + 8) (a_law_place K) (fdOf K d_law_place) (spGA K GPl Ex.d n) ∧ GFn P w K mg base (2 * n + 8) (a_law_expr K) (fdOf K d_law_expr) (spGA K GE Ex.d n)
  | 0 => ⟨gfn_zero, gfn_zero⟩
  | n + 1 => by
    obtain ⟨hp, he⟩ := gexpr_ok T n
    have p1 := gfn_succ hp (ok_place' T n (by omega) hp he)
    have c1 := ok_call T n (by omega) he
    have he1 := he.mono (Nat.le_succ _)
    have e1 := gfn_succ he1 (ok_expr T n (k := 2 * n + 9) (by omega) p1 he1 c1)
    exact ⟨p1.mono (Nat.le_succ _), e1⟩
end
end Ko
end
section
set_option Elab.async false
set_option linter.all false
set_option maxRecDepth 100000
set_option maxHeartbeats 4000000
/-! The law's defs that make statements, declarations, programs -/
namespace Ko
open PySem PySem.Spec PyProof.Rows L2
section
variable {P : Program} {w : World} {K : PySem.W.Frag} {mg : Str → Option Value} {base : Heap}
theorem ok_gnames (T : Tx K mg) (lo : Nat) (hlo : lo ≤ 1) : FnOk P w K mg base CX0 4 (a_law_names K) (fdOf K d_law_names) ["_law_draws", "_law_least"] (spG K [.int (lo : Nat)] (GN lo (lo + 2)) nmD) := by
  have G_law_pick := ok_pick (P := P) (w := w) (base := base) T
  have G_law_name := ok_name (P := P) (w := w) (base := base) T
  refine (F_law_names T).ok sc_law_names (fun vs H Q E h => spG_len h) (fun cdv A0 outer s H vs Q E hr h => ?_)
  obtain ⟨d, ra, rfl, D, q⟩ := h
  refine ⟨_, PSs.nox (pss_one (ps_ret (pe_callTy call_tuple_of (by rfl) (z_tuple T) (by decide +kernel) (pa_cons (pe_lc (own := [("_law_k", 2)]) rfl sc_law_names.nd (pi_range1 rfl (z_range T) (pa_cons (pe_op op_add (pv 1) (pe_call G_law_pick (hr.mono (by omega)) rfl (m_law_pick T) (F_law_pick T).kp (B_law_pick T) .nil pass0 (pa_cons (pv 0) (pa_cons pe_int pa_nil)))) pa_nil)) (blkOk_by (N := ["_law_draws", "_law_least", "_law_k"]) (sc := defScope s_law_names) (by decide +kernel)) (fun _ _ _ _ _ => (pg_name (i := 2) sc_law_names.nd rfl (Or.inl rfl))) (fun _ _ _ _ _ => pts_nil) (fun _ _ _ _ _ => (pe_call G_law_name (hr.mono (by omega)) rfl (m_law_name T) (F_law_name T).kp (B_law_name T) .nil pass0 (pa_cons (pv 0) pa_nil)))) pa_nil)))), ?_⟩
  refine ⟨_, rfl, _, rfl, d, 3, ra, rfl, by decide, D, fun r H1 h0 h1 k1 D1 => ?_⟩
  refine ⟨_, _, rfl, rfl, (lo : Int) + r, rfl, by omega, by omega, fun l el => ?_⟩
  refine lc_draw (K := K) (good := (· ∈ NAMES)) (enc := PyData.str) ?_ D1 el ?_ ?_ ?_
  · exact fun _ => rfl
  · omega
  · intro i H3 Q' D3 g
    exact ⟨_, rfl, d, ra, rfl, D3, g⟩
  · intro H3 ws xs hl hg k3 D3 hws dws
    refine ⟨l, ws, rfl, .inl ⟨SqL.of hws, fun t et => ?_⟩⟩
    have s4 := same_new et (.tup ws)
    exact q xs _ _ ⟨by omega, by omega, hg⟩ ((k1.trans k3).trans (same_kp s4)) (D3.same s4) (dt_new et dws)
theorem ok_gsimple (T : Tx K mg) : FnOk P w K mg base CX0 15 (a_law_simple K) (fdOf K d_law_simple) ["_law_draws"] (spG K [] (fun s => ∀ n, GS n s) St.d) := by
  have G_law_pick := ok_pick (P := P) (w := w) (base := base) T
  have G_law_name := ok_name (P := P) (w := w) (base := base) T
  have G_law_names := ok_gnames (P := P) (w := w) (base := base) T 1 (by decide)
  have G_law_kind := gkind_ok (P := P) (w := w) (base := base) T 3
  have G_law_expr := (gexpr_ok (P := P) (w := w) (base := base) T 3).2
  have G_law_place := (gexpr_ok (P := P) (w := w) (base := base) T 3).1
  have G_law_call := ok_call (P := P) (w := w) (base := base) T 2 (k := 12) (by omega) (gexpr_ok T 2).2
  refine (F_law_simple T).ok sc_law_simple (fun vs H Q E h => spG_len h) (fun cdv A0 outer s H vs Q E hr h => ?_)
  obtain ⟨d, ra, rfl, D, q⟩ := h
  refine ⟨_, PSs.nox (pss_cons (ps_set (i := 1) sc_law_simple.nd rfl (Or.inl rfl) (pe_call G_law_pick (hr.mono (by omega)) rfl (m_law_pick T) (F_law_pick T).kp (B_law_pick T) .nil pass0 (pa_cons (pv 0) (pa_cons pe_int pa_nil)))) (pss_cons (ps_if (pt_cmpR op_eq (pv 1) pe_int (nomark _)) (pss_one (ps_ret (pe_tup (pa_cons pe_str (pa_cons (pe_call G_law_name (hr.mono (by omega)) rfl (m_law_name T) (F_law_name T).kp (B_law_name T) .nil pass0 (pa_cons (pv 0) pa_nil)) (pa_cons (pe_call G_law_kind (hr.mono (by omega)) rfl (m_law_kind T) (F_law_kind T).kp (B_law_kind T) .nil pass0 (pa_cons (pv 0) (pa_cons pe_int pa_nil))) (pa_cons (pe_call G_law_expr (hr.mono (by omega)) rfl (m_law_expr T) (F_law_expr T).kp (B_law_expr T) .nil pass0 (pa_cons (pv 0) (pa_cons pe_int pa_nil))) pa_nil))))))) pss_nil) (pss_cons (ps_if (pt_cmpR op_eq (pv 1) pe_int (nomark _)) (pss_one (ps_ret (pe_tup (pa_cons pe_str (pa_cons (pe_call G_law_expr (hr.mono (by omega)) rfl (m_law_expr T) (F_law_expr T).kp (B_law_expr T) .nil pass0 (pa_cons (pv 0) (pa_cons pe_int pa_nil))) (pa_cons (pe_call G_law_names (hr.mono (by omega)) rfl (m_law_names T) (F_law_names T).kp (B_law_names T) .nil pass0 (pa_cons (pv 0) (pa_cons pe_int pa_nil))) pa_nil)))))) pss_nil) (pss_cons (ps_if (pt_cmpR op_eq (pv 1) pe_int (nomark _)) (pss_one (ps_ret (pe_tup (pa_cons pe_str (pa_cons (pe_call G_law_expr (hr.mono (by omega)) rfl (m_law_expr T) (F_law_expr T).kp (B_law_expr T) .nil pass0 (pa_cons (pv 0) (pa_cons pe_int pa_nil))) pa_nil))))) pss_nil) (pss_cons (ps_if (pt_cmpR op_eq (pv 1) pe_int (nomark _)) (pss_one (ps_ret (pe_tup (pa_cons pe_str (pa_cons (pe_call G_law_place (hr.mono (by omega)) rfl (m_law_place T) (F_law_place T).kp (B_law_place T) .nil pass0 (pa_cons (pv 0) (pa_cons pe_int pa_nil))) (pa_cons (pe_call G_law_expr (hr.mono (by omega)) rfl (m_law_expr T) (F_law_expr T).kp (B_law_expr T) .nil pass0 (pa_cons (pv 0) (pa_cons pe_int pa_nil))) pa_nil)))))) pss_nil) (pss_cons (ps_if (pt_cmpR op_eq (pv 1) pe_int (nomark _)) (pss_one (ps_ret (pe_tup (pa_cons pe_str (pa_cons (pe_call G_law_place (hr.mono (by omega)) rfl (m_law_place T) (F_law_place T).kp (B_law_place T) .nil pass0 (pa_cons (pv 0) (pa_cons pe_int pa_nil))) (pa_cons (pe_call G_law_name (hr.mono (by omega)) rfl (m_law_name T) (F_law_name T).kp (B_law_name T) .nil pass0 (pa_cons (pv 0) pa_nil)) pa_nil)))))) pss_nil) (pss_cons (ps_if (pt_cmpR op_eq (pv 1) pe_int (nomark _)) (pss_one (ps_ret (pe_tup (pa_cons pe_str (pa_cons (pe_call G_law_call (hr.mono (by omega)) rfl (m_law_call T) (F_law_call T).kp (B_law_call T) .nil pass0 (pa_cons (pv 0) (pa_cons pe_int pa_nil))) pa_nil))))) pss_nil) (pss_one (ps_ret (pe_tup (pa_cons pe_str (pa_cons (pe_call G_law_place (hr.mono (by omega)) rfl (m_law_place T) (F_law_place T).kp (B_law_place T) .nil pass0 (pa_cons (pv 0) (pa_cons pe_int pa_nil))) (pa_cons (pe_call G_law_expr (hr.mono (by omega)) rfl (m_law_expr T) (F_law_expr T).kp (B_law_expr T) .nil pass0 (pa_cons (pv 0) (pa_cons pe_int pa_nil))) pa_nil))))))))))))), ?_⟩
  refine ⟨_, rfl, d, 8, ra, rfl, by decide, D, fun r H1 h0 h1 k1 D1 => ?_⟩
  refine ⟨_, rfl, rfl, _, rfl, iteB (fun _ => ?_) (fun _ => ?_)⟩
  · refine ⟨_, rfl, d, ra, rfl, D1, fun x v H2 gx k2 D2 dx => ?_⟩
    obtain rfl := dt_str_inv dx
    refine ⟨_, rfl, 2, by decide, d, ra, rfl, D2, fun kd v3 H3 gk k3 D3 dk => ?_⟩
    refine ⟨_, rfl, 2, by decide, d, ra, rfl, D3, fun e v4 H4 ge k4 D4 de => ?_⟩
    refine ⟨(by show 4 ≤ sizeLine; decide), fun t et => ?_⟩
    have s2 := same_new et (.tup [.str "let", .str x, v3, v4])
    exact q (.letS x kd e) _ _ (fun n => by cases n <;> exact ⟨gx, gk, ge⟩) ((((k1.trans k2).trans k3).trans k4).trans (same_kp s2)) (D4.same s2) (dt_new et (.cons (.str _) (.cons (.str _) (.cons (dt_keep (D3.kt k4) dk) (.cons de .nil)))))
  refine ⟨_, rfl, rfl, _, rfl, iteB (fun _ => ?_) (fun _ => ?_)⟩
  · refine ⟨_, rfl, 2, by decide, d, ra, rfl, D1, fun e v3 H3 ge k3 D3 de => ?_⟩
    refine ⟨_, rfl, d, ra, rfl, D3, fun xs v4 H4 gx k4 D4 dx => ?_⟩
    refine ⟨(by show 3 ≤ sizeLine; decide), fun t et => ?_⟩
    have s2 := same_new et (.tup [.str "open", v3, v4])
    exact q (.openS e xs) _ _ (fun n => by cases n <;> exact ⟨ge, gx⟩) (((k1.trans k3).trans k4).trans (same_kp s2)) (D4.same s2) (dt_new et (.cons (.str _) (.cons (dt_keep (D3.kt k4) de) (.cons dx .nil))))
  refine ⟨_, rfl, rfl, _, rfl, iteB (fun _ => ?_) (fun _ => ?_)⟩
  · refine ⟨_, rfl, 2, by decide, d, ra, rfl, D1, fun e v3 H3 ge k3 D3 de => ?_⟩
    refine ⟨(by show 2 ≤ sizeLine; decide), fun t et => ?_⟩
    have s2 := same_new et (.tup [.str "show", v3])
    exact q (.showS e) _ _ (fun n => by cases n <;> exact ge) ((k1.trans k3).trans (same_kp s2)) (D3.same s2) (dt_new et (.cons (.str _) (.cons de .nil)))
  refine ⟨_, rfl, rfl, _, rfl, iteB (fun _ => ?_) (fun _ => ?_)⟩
  · refine ⟨_, rfl, 2, by decide, d, ra, rfl, D1, fun p v3 H3 gp k3 D3 dp => ?_⟩
    refine ⟨_, rfl, 2, by decide, d, ra, rfl, D3, fun e v4 H4 ge k4 D4 de => ?_⟩
    refine ⟨(by show 3 ≤ sizeLine; decide), fun t et => ?_⟩
    have s2 := same_new et (.tup [.str "push", v3, v4])
    exact q (.pushS p e) _ _ (fun n => by cases n <;> exact ⟨gp.1, gp.2, ge⟩) (((k1.trans k3).trans k4).trans (same_kp s2)) (D4.same s2) (dt_new et (.cons (.str _) (.cons (dt_keep (D3.kt k4) dp) (.cons de .nil))))
  refine ⟨_, rfl, rfl, _, rfl, iteB (fun _ => ?_) (fun _ => ?_)⟩
  · refine ⟨_, rfl, 2, by decide, d, ra, rfl, D1, fun p v3 H3 gp k3 D3 dp => ?_⟩
    refine ⟨_, rfl, d, ra, rfl, D3, fun x v4 H4 gx k4 D4 dx => ?_⟩
    obtain rfl := dt_str_inv dx
    refine ⟨(by show 3 ≤ sizeLine; decide), fun t et => ?_⟩
    have s2 := same_new et (.tup [.str "take", v3, .str x])
    exact q (.takeS p x) _ _ (fun n => by cases n <;> exact ⟨gp.1, gp.2, gx⟩) (((k1.trans k3).trans k4).trans (same_kp s2)) (D4.same s2) (dt_new et (.cons (.str _) (.cons (dt_keep (D3.kt k4) dp) (.cons (.str _) .nil))))
  refine ⟨_, rfl, rfl, _, rfl, iteB (fun _ => ?_) (fun _ => ?_)⟩
  · refine ⟨_, rfl, 1, rfl, d, ra, rfl, D1, fun e v3 H3 ge k3 D3 de => ?_⟩
    refine ⟨(by show 2 ≤ sizeLine; decide), fun t et => ?_⟩
    have s2 := same_new et (.tup [.str "do", v3])
    exact q (.doS e) _ _ (fun n => by cases n <;> exact ge) ((k1.trans k3).trans (same_kp s2)) (D3.same s2) (dt_new et (.cons (.str _) (.cons de .nil)))
  · refine ⟨_, rfl, 2, by decide, d, ra, rfl, D1, fun p v3 H3 gp k3 D3 dp => ?_⟩
    refine ⟨_, rfl, 2, by decide, d, ra, rfl, D3, fun e v4 H4 ge k4 D4 de => ?_⟩
    refine ⟨(by show 3 ≤ sizeLine; decide), fun t et => ?_⟩
    have s2 := same_new et (.tup [.str "set", v3, v4])
    exact q (.setS p e) _ _ (fun n => by cases n <;> exact ⟨gp.1, gp.2, ge⟩) (((k1.trans k3).trans k4).trans (same_kp s2)) (D4.same s2) (dt_new et (.cons (.str _) (.cons (dt_keep (D3.kt k4) dp) (.cons de .nil))))
theorem ok_gblock (T : Tx K mg) (n : Nat) {k : Nat} (hk : 3 ≤ k) (G_law_statement : GFn P w K mg base k (a_law_statement K) (fdOf K d_law_statement) (spGA K GS St.d (n + 1))) : GFn P w K mg base (k + 1) (a_law_block K) (fdOf K d_law_block) (spG K [.int (n : Nat)] (GB n) blD) := by
  have G_law_pick := ok_pick (P := P) (w := w) (base := base) T
  refine (F_law_block T).ok sc_law_block (fun vs H Q E h => spG_len h) (fun cdv A0 outer s H vs Q E hr h => ?_)
  obtain ⟨d, ra, rfl, D, q⟩ := h
  refine ⟨_, PSs.nox (pss_one (ps_ret (pe_callTy call_tuple_of (by rfl) (z_tuple T) (by decide +kernel) (pa_cons (pe_lc (own := [("_law_k", 2)]) rfl sc_law_block.nd (pi_range1 rfl (z_range T) (pa_cons (pe_call G_law_pick (hr.mono (by omega)) rfl (m_law_pick T) (F_law_pick T).kp (B_law_pick T) .nil pass0 (pa_cons (pv 0) (pa_cons pe_int pa_nil))) pa_nil)) (blkOk_by (N := ["_law_draws", "_law_depth", "_law_k"]) (sc := defScope s_law_block) (by decide +kernel)) (fun _ _ _ _ _ => (pg_name (i := 2) sc_law_block.nd rfl (Or.inl rfl))) (fun _ _ _ _ _ => pts_nil) (fun _ _ _ _ _ => (pe_call G_law_statement (hr.mono (by omega)) rfl (m_law_statement T) (F_law_statement T).kp (B_law_statement T) .nil pass0 (pa_cons (pv 0) (pa_cons (pv 1) pa_nil))))) pa_nil)))), ?_⟩
  refine ⟨_, rfl, d, 4, ra, rfl, by decide, D, fun r H1 h0 h1 k1 D1 => ?_⟩
  refine ⟨r, rfl, by omega, by omega, fun l el => ?_⟩
  refine lc_draw (K := K) (good := GS n) (enc := St.d) ?_ D1 el ?_ ?_ ?_
  · exact fun _ => rfl
  · omega
  · intro i H3 Q' D3 g
    exact ⟨_, rfl, _, rfl, n, Nat.lt_succ_self n, d, ra, rfl, D3, g⟩
  · intro H3 ws xs hl hg k3 D3 hws dws
    refine ⟨l, ws, rfl, .inl ⟨SqL.of hws, fun t et => ?_⟩⟩
    have s4 := same_new et (.tup ws)
    refine q xs _ _ ⟨by omega, hg⟩ ((k1.trans k3).trans (same_kp s4)) (D3.same s4) (dt_new et ?_)
    rw [St.ds_map]
    exact dws
theorem ok_gstatement (T : Tx K mg) (n : Nat) {k : Nat} (hk : 15 ≤ k) (G_law_block : GFn P w K mg base k (a_law_block K) (fdOf K d_law_block) (spGA K GB blD n)) : GFn P w K mg base (k + 1) (a_law_statement K) (fdOf K d_law_statement) (spG K [.int (n : Nat)] (GS n) St.d) := by
  have G_law_pick := ok_pick (P := P) (w := w) (base := base) T
  have G_law_name := ok_name (P := P) (w := w) (base := base) T
  have G_law_names := ok_gnames (P := P) (w := w) (base := base) T 0 (by decide)
  have G_law_expr := (gexpr_ok (P := P) (w := w) (base := base) T 3).2
  have G_law_place := (gexpr_ok (P := P) (w := w) (base := base) T 3).1
  have G_law_simple := ok_gsimple (P := P) (w := w) (base := base) T
  refine (F_law_statement T).ok sc_law_statement (fun vs H Q E h => spG_len h) (fun cdv A0 outer s H vs Q E hr h => ?_)
  obtain ⟨d, ra, rfl, D, q⟩ := h
  refine ⟨_, PSs.nox (pss_cons (ps_set (i := 2) sc_law_statement.nd rfl (Or.inl rfl) (pe_call G_law_pick (hr.mono (by omega)) rfl (m_law_pick T) (F_law_pick T).kp (B_law_pick T) .nil pass0 (pa_cons (pv 0) (pa_cons pe_int pa_nil)))) (pss_cons (ps_if (PW.pt (pw_or (pt_cmpR op_lt (pv 1) pe_int (nomark _)) (pw_or1 (pt_cmpR op_lt (pv 2) pe_int (nomark _))))) (pss_one (ps_ret (pe_call G_law_simple (hr.mono (by omega)) rfl (m_law_simple T) (F_law_simple T).kp (B_law_simple T) .nil pass0 (pa_cons (pv 0) pa_nil)))) pss_nil) (pss_cons (ps_if (pt_cmpR op_eq (pv 2) pe_int (nomark _)) (pss_one (ps_ret (pe_tup (pa_cons pe_str (pa_cons (pe_call G_law_expr (hr.mono (by omega)) rfl (m_law_expr T) (F_law_expr T).kp (B_law_expr T) .nil pass0 (pa_cons (pv 0) (pa_cons pe_int pa_nil))) (pa_cons (pe_call G_law_block (hr.mono (by omega)) rfl (m_law_block T) (F_law_block T).kp (B_law_block T) .nil pass0 (pa_cons (pv 0) (pa_cons (pe_op op_sub (pv 1) pe_int) pa_nil))) (pa_cons (pe_call G_law_block (hr.mono (by omega)) rfl (m_law_block T) (F_law_block T).kp (B_law_block T) .nil pass0 (pa_cons (pv 0) (pa_cons (pe_op op_sub (pv 1) pe_int) pa_nil))) pa_nil))))))) pss_nil) (pss_cons (ps_if (pt_cmpR op_eq (pv 2) pe_int (nomark _)) (pss_one (ps_ret (pe_tup (pa_cons pe_str (pa_cons (pe_call G_law_expr (hr.mono (by omega)) rfl (m_law_expr T) (F_law_expr T).kp (B_law_expr T) .nil pass0 (pa_cons (pv 0) (pa_cons pe_int pa_nil))) (pa_cons (pe_call G_law_block (hr.mono (by omega)) rfl (m_law_block T) (F_law_block T).kp (B_law_block T) .nil pass0 (pa_cons (pv 0) (pa_cons (pe_op op_sub (pv 1) pe_int) pa_nil))) pa_nil)))))) pss_nil) (pss_cons (ps_if (pt_cmpR op_eq (pv 2) pe_int (nomark _)) (pss_one (ps_ret (pe_tup (pa_cons pe_str (pa_cons (pe_call G_law_block (hr.mono (by omega)) rfl (m_law_block T) (F_law_block T).kp (B_law_block T) .nil pass0 (pa_cons (pv 0) (pa_cons (pe_op op_sub (pv 1) pe_int) pa_nil))) (pa_cons (pe_call G_law_block (hr.mono (by omega)) rfl (m_law_block T) (F_law_block T).kp (B_law_block T) .nil pass0 (pa_cons (pv 0) (pa_cons (pe_op op_sub (pv 1) pe_int) pa_nil))) pa_nil)))))) pss_nil) (pss_cons (ps_set (i := 3) sc_law_statement.nd rfl (Or.inl rfl) (pe_lst pa_nil)) (pss_cons (ps_for PassesOwn.never rfl (pi_range1 rfl (z_range T) (pa_cons (pe_call G_law_pick (hr.mono (by omega)) rfl (m_law_pick T) (F_law_pick T).kp (B_law_pick T) .nil pass0 (pa_cons (pv 0) (pa_cons pe_int pa_nil))) pa_nil)) (pg_name (i := 4) sc_law_statement.nd rfl (Or.inl rfl)) (pss_one (ps_expr (pe_bm PySem.F.plainAttrs_list PySem.F.slot_list_append PySem.F.type_list_append mt_append (pv 3) (pa_cons (pe_tup (pa_cons (pe_call G_law_name (hr.mono (by omega)) rfl (m_law_name T) (F_law_name T).kp (B_law_name T) .nil pass0 (pa_cons (pv 0) pa_nil)) (pa_cons (pe_call G_law_names (hr.mono (by omega)) rfl (m_law_names T) (F_law_names T).kp (B_law_names T) .nil pass0 (pa_cons (pv 0) (pa_cons pe_int pa_nil))) (pa_cons (pe_call G_law_block (hr.mono (by omega)) rfl (m_law_block T) (F_law_block T).kp (B_law_block T) .nil pass0 (pa_cons (pv 0) (pa_cons (pe_op op_sub (pv 1) pe_int) pa_nil))) pa_nil)))) pa_nil))))) (pss_one (ps_ret (pe_tup (pa_cons pe_str (pa_cons (pe_ix ix_list (pe_lst (pa_cons pe_str (pa_cons pe_str (pa_cons pe_str pa_nil)))) (pe_call G_law_pick (hr.mono (by omega)) rfl (m_law_pick T) (F_law_pick T).kp (B_law_pick T) .nil pass0 (pa_cons (pv 0) (pa_cons pe_int pa_nil))) (fun _ _ => rfl)) (pa_cons (pe_call G_law_place (hr.mono (by omega)) rfl (m_law_place T) (F_law_place T).kp (B_law_place T) .nil pass0 (pa_cons (pv 0) (pa_cons pe_int pa_nil))) (pa_cons (pe_callTy call_tuple_of (by rfl) (z_tuple T) (by decide +kernel) (pa_cons (pv 3) pa_nil)) pa_nil)))))))))))))), ?_⟩
  refine ⟨_, rfl, d, 9, ra, rfl, by decide, D, fun r H1 h0 h1 k1 D1 => ?_⟩
  dsimp only [gName, tSeq, tIfS]
  refine t_or (decide ((n : Int) < 1)) (decide (r < 5)) (fun Q' h' => ⟨_, rfl, _, _, rfl, rfl, _, rfl, h'⟩) (fun Q' h' => ⟨_, rfl, _, _, rfl, rfl, _, rfl, h'⟩) ?_
  refine iteB (fun _ => ?_) (fun hb => ?_)
  · exact ⟨_, rfl, d, ra, rfl, D1, fun s v H2 gs k2 D2 ds => q s v _ (gs n) (k1.trans k2) D2 ds⟩
  simp only [Bool.or_eq_false_iff, decide_eq_false_iff_not] at hb
  obtain ⟨m, rfl⟩ : ∃ m, n = m + 1 := ⟨n - 1, by omega⟩
  refine ⟨_, rfl, rfl, _, rfl, iteB (fun _ => ?_) (fun _ => ?_)⟩
  · refine ⟨_, rfl, 2, by decide, d, ra, rfl, D1, fun e v2 H2 ge k2 D2 de => ?_⟩
    refine ⟨_, rfl, _, rfl, _, _, rfl, rfl, m, Nat.lt_succ_self m, d, ra, sub_args, D2, fun b3 v3 H3 g3 k3 D3 d3 => ?_⟩
    refine ⟨_, rfl, _, rfl, _, _, rfl, rfl, m, Nat.lt_succ_self m, d, ra, sub_args, D3, fun b4 v4 H4 g4 k4 D4 d4 => ?_⟩
    refine ⟨(by show 4 ≤ sizeLine; decide), fun t et => ?_⟩
    have s2 := same_new et (.tup [.str "if", v2, v3, v4])
    exact q (.ifS e b3 b4) _ _ ⟨ge, g3, g4⟩ ((((k1.trans k2).trans k3).trans k4).trans (same_kp s2)) (D4.same s2) (dt_new et (.cons (.str _) (.cons (dt_keep ((D2.kt k3).trans (D3.kt k4)) de) (.cons (dt_keep (D3.kt k4) d3) (.cons d4 .nil)))))
  refine ⟨_, rfl, rfl, _, rfl, iteB (fun _ => ?_) (fun _ => ?_)⟩
  · refine ⟨_, rfl, 1, by decide, d, ra, rfl, D1, fun e v2 H2 ge k2 D2 de => ?_⟩
    refine ⟨_, rfl, _, rfl, _, _, rfl, rfl, m, Nat.lt_succ_self m, d, ra, sub_args, D2, fun b3 v3 H3 g3 k3 D3 d3 => ?_⟩
    refine ⟨(by show 3 ≤ sizeLine; decide), fun t et => ?_⟩
    have s2 := same_new et (.tup [.str "while", v2, v3])
    exact q (.whileS e b3) _ _ ⟨ge, g3⟩ (((k1.trans k2).trans k3).trans (same_kp s2)) (D3.same s2) (dt_new et (.cons (.str _) (.cons (dt_keep (D2.kt k3) de) (.cons d3 .nil))))
  refine ⟨_, rfl, rfl, _, rfl, iteB (fun _ => ?_) (fun _ => ?_)⟩
  · refine ⟨_, rfl, _, rfl, _, _, rfl, rfl, m, Nat.lt_succ_self m, d, ra, sub_args, D1, fun b3 v3 H3 g3 k3 D3 d3 => ?_⟩
    refine ⟨_, rfl, _, rfl, _, _, rfl, rfl, m, Nat.lt_succ_self m, d, ra, sub_args, D3, fun b4 v4 H4 g4 k4 D4 d4 => ?_⟩
    refine ⟨(by show 3 ≤ sizeLine; decide), fun t et => ?_⟩
    have s2 := same_new et (.tup [.str "par", v3, v4])
    exact q (.parS b3 b4) _ _ ⟨g3, g4⟩ (((k1.trans k3).trans k4).trans (same_kp s2)) (D4.same s2) (dt_new et (.cons (.str _) (.cons (dt_keep (D3.kt k4) d3) (.cons d4 .nil))))
  refine ⟨Nat.zero_le _, fun qc hqc => ?_⟩
  have s0 := same_new hqc (.lst [])
  have nd : qc ≠ d := D1.ne' hqc
  refine ⟨_, rfl, d, 3, ra, rfl, by decide, D1.same s0, fun r2 H2 hr0 hr1 k2 D2 => ?_⟩
  have hq2 : H2 qc = some (.lst []) := k2 _ _ nd upd_same
  refine ⟨r2, rfl, by omega, by omega, for_range (fun i σ' H' => ∃ (cs : List Cs) (wd : Option V) (vs : List V), cs.length = i ∧ (∀ c ∈ cs, GC m c) ∧ σ' = [some (.ref d), some (.int ((m + 1 : Nat) : Int)), some (.int r), some (.ref qc), wd] ∧ Keep d H1 H' ∧ Dr ra H' d ∧ H' qc = some (.lst vs) ∧ Dts K H' vs (cs.map Cs.d))
    ⟨[], none, [], rfl, by simp, rfl, (same_kp s0).trans k2, D2, hq2, .nil⟩ ?_ ?_⟩
  · rintro i σ' H' hi ⟨cs, wd, vs, hlen, hg, rfl, kk, Dd, hvs, dvs⟩
    refine ⟨_, rfl, .inl ⟨rfl, _, SqL.of hvs⟩, ?_⟩
    refine ⟨_, rfl, d, ra, rfl, Dd, fun x v3 H3 gx k3 D3 dx => ?_⟩
    obtain rfl := dt_str_inv dx
    refine ⟨_, rfl, d, ra, rfl, D3, fun xs v4 H4 gxs k4 D4 dxs => ?_⟩
    refine ⟨_, rfl, _, rfl, _, _, rfl, rfl, m, Nat.lt_succ_self m, d, ra, sub_args, D4, fun b5 v5 H5 g5 k5 D5 d5 => ?_⟩
    refine ⟨(by show 3 ≤ sizeLine; decide), fun t et => ?_⟩
    have s6 := same_new et (.tup [.str x, v4, v5])
    have hvs6 := s6 _ _ (k5 _ _ nd (k4 _ _ nd (k3 _ _ nd hvs)))
    have kt := kt_upd hvs6 (fun z => z) (.lst (vs ++ [.ref t]))
    have hlv : vs.length < sizeLine := by
      have := dts_len dvs
      rw [List.length_map] at this
      rw [this, hlen, show sizeLine = 16777216 from rfl]
      omega
    have D6 := D5.same s6
    refine ⟨qc, vs, _, rfl, rfl, hvs6, hlv, cs ++ [.mk x xs b5], _, vs ++ [.ref t], by simp [hlen], ?_, rfl, ?_, D6.other nd.symm (fun z => ?_) _, upd_same, ?_⟩
    · intro c hc
      rcases List.mem_append.mp hc with h | h
      · exact hg c h
      · obtain rfl := List.mem_singleton.mp h
        exact ⟨gx, gxs, g5⟩
    · exact ((((kk.trans k3).trans k4).trans k5).trans (same_kp s6)).other hqc _
    · rw [z] at D1
      exact absurd rfl (D1.nea hqc)
    · rw [List.map_append]
      have k35 := ((Dd.kt k3).trans (D3.kt k4)).trans ((D4.kt k5).trans (same_kt s6))
      exact dts_keep kt (dts_app (dts_keep k35 dvs) (dts_one (dt_new et (.cons (.str x) (.cons (dt_keep (D4.kt k5) dxs) (.cons d5 .nil))))))
  · rintro σ' H' ⟨cs, wd, vs, hlen, hg, rfl, kk, Dd, hvs, dvs⟩
    refine ⟨(by show 3 ≤ sizeLine; decide), fun l el => ?_⟩
    have s1 := same_new el (.lst [.str "move", .str "ref", .str "mut"])
    refine ⟨_, rfl, d, 3, ra, rfl, by decide, Dd.same s1, fun i H3 hi0 hi1 k3 D3 => ?_⟩
    have pick : ∃ h : How, atI [V.str "move", V.str "ref", V.str "mut"] i = some (.str h.txt) := by
      obtain ⟨j, rfl⟩ := Int.eq_ofNat_of_zero_le hi0
      match j, hi1 with
      | 0, _ => exact ⟨.move, rfl⟩
      | 1, _ => exact ⟨.ref, rfl⟩
      | 2, _ => exact ⟨.mut, rfl⟩
      | j + 3, hi1 => omega
    obtain ⟨hw, ho⟩ := pick
    refine ⟨l, _, i, _, rfl, rfl, SqL.of (k3 _ _ (Dd.ne' el) upd_same), ho, ?_⟩
    refine ⟨_, rfl, 2, by decide, d, ra, rfl, D3, fun p v4 H4 gp k4 D4 dp => ?_⟩
    have hvs4 := k4 _ _ nd (k3 _ _ nd (s1 _ _ hvs))
    refine ⟨_, rfl, qc, vs, rfl, .inl ⟨SqL.of hvs4, fun t et => ?_⟩⟩
    have s5 := same_new et (.tup vs)
    refine ⟨(by show 4 ≤ sizeLine; decide), fun t2 et2 => ?_⟩
    have s6 := same_new et2 (.tup [.str "match", .str hw.txt, v4, .ref t])
    have k14 := ((same_kt s1).trans ((Dd.same s1).kt k3)).trans (D3.kt k4)
    refine q (.matchS hw p cs) _ _ ⟨gp.1, gp.2, by omega, fun t xs b hc => hg _ hc⟩ (((((kk.trans (same_kp s1)).trans k3).trans k4).trans (same_kp s5)).trans (same_kp s6) |> k1.trans) ((D4.same s5).same s6) (dt_new et2 (.cons (.str _) (.cons (.str _) (.cons (dt_keep (same_kt s5) dp) (.cons ?_ .nil)))))
    rw [Cs.ds_map]
    exact dt_new et (dts_keep k14 dvs)
theorem gst_ok (T : Tx K mg) : ∀ n, GFn P w K mg base (2 * n + 15) (a_law_statement K) (fdOf K d_law_statement) (spGA K GS St.d n) ∧ GFn P w K mg base (2 * n + 15) (a_law_block K) (fdOf K d_law_block) (spGA K GB blD n)
  | 0 => ⟨gfn_zero, gfn_zero⟩
  | n + 1 => by
    obtain ⟨hs, hb⟩ := gst_ok T n
    have s1 := gfn_succ hs (ok_gstatement T n (by omega) hb)
    have b1 := gfn_succ (hb.mono (Nat.le_succ _)) (ok_gblock T n (k := 2 * n + 16) (by omega) s1)
    exact ⟨s1.mono (Nat.le_succ _), b1⟩
end
end Ko
end
section
set_option Elab.async false
set_option linter.all false
set_option maxRecDepth 100000
set_option maxHeartbeats 4000000
/-! The law's defs that make declarations, programs -/
namespace Ko
open PySem PySem.Spec PyProof.Rows L2
section
variable {P : Program} {w : World} {K : PySem.W.Frag} {mg : Str → Option Value} {base : Heap}
theorem ok_gpairs (T : Tx K mg) (lo : Nat) (hlo : lo ≤ 1) : FnOk P w K mg base CX0 8 (a_law_pairs K) (fdOf K d_law_pairs) ["_law_draws", "_law_least"] (spG K [.int (lo : Nat)] (GPs lo (lo + 2)) psD) := by
  have G_law_pick := ok_pick (P := P) (w := w) (base := base) T
  have G_law_name := ok_name (P := P) (w := w) (base := base) T
  have G_law_kind := gkind_ok (P := P) (w := w) (base := base) T 3
  refine (F_law_pairs T).ok sc_law_pairs (fun vs H Q E h => spG_len h) (fun cdv A0 outer s H vs Q E hr h => ?_)
  obtain ⟨d, ra, rfl, D, q⟩ := h
  refine ⟨_, PSs.nox (pss_one (ps_ret (pe_callTy call_tuple_of (by rfl) (z_tuple T) (by decide +kernel) (pa_cons (pe_lc (own := [("_law_k", 2)]) rfl sc_law_pairs.nd (pi_range1 rfl (z_range T) (pa_cons (pe_op op_add (pv 1) (pe_call G_law_pick (hr.mono (by omega)) rfl (m_law_pick T) (F_law_pick T).kp (B_law_pick T) .nil pass0 (pa_cons (pv 0) (pa_cons pe_int pa_nil)))) pa_nil)) (blkOk_by (N := ["_law_draws", "_law_least", "_law_k"]) (sc := defScope s_law_pairs) (by decide +kernel)) (fun _ _ _ _ _ => (pg_name (i := 2) sc_law_pairs.nd rfl (Or.inl rfl))) (fun _ _ _ _ _ => pts_nil) (fun _ _ _ _ _ => (pe_tup (pa_cons (pe_call G_law_name (hr.mono (by omega)) rfl (m_law_name T) (F_law_name T).kp (B_law_name T) .nil pass0 (pa_cons (pv 0) pa_nil)) (pa_cons (pe_call G_law_kind (hr.mono (by omega)) rfl (m_law_kind T) (F_law_kind T).kp (B_law_kind T) .nil pass0 (pa_cons (pv 0) (pa_cons pe_int pa_nil))) pa_nil))))) pa_nil)))), ?_⟩
  refine ⟨_, rfl, _, rfl, d, 3, ra, rfl, by decide, D, fun r H1 h0 h1 k1 D1 => ?_⟩
  refine ⟨_, _, rfl, rfl, (lo : Int) + r, rfl, by omega, by omega, fun l el => ?_⟩
  refine lc_draw (K := K) (good := fun p : Str × Kd => p.1 ∈ NAMES ∧ GK 2 p.2) (enc := pairD) ?_ D1 el ?_ ?_ ?_
  · exact fun _ => rfl
  · omega
  · intro i H3 Q' D3 g
    refine ⟨_, rfl, d, ra, rfl, D3, fun x v H4 gx k4 D4 dx => ?_⟩
    obtain rfl := dt_str_inv dx
    refine ⟨_, rfl, 2, by decide, d, ra, rfl, D4, fun kd v5 H5 gk k5 D5 dk => ?_⟩
    refine ⟨(by show 2 ≤ sizeLine; decide), fun t et => ?_⟩
    have s6 := same_new et (.tup [.str x, v5])
    exact g (x, kd) _ _ ⟨gx, gk⟩ ((k4.trans k5).trans (same_kp s6)) (D5.same s6) (dt_new et (.cons (.str x) (.cons dk .nil)))
  · intro H3 ws xs hl hg k3 D3 hws dws
    refine ⟨l, ws, rfl, .inl ⟨SqL.of hws, fun t et => ?_⟩⟩
    have s4 := same_new et (.tup ws)
    exact q xs _ _ ⟨by omega, by omega, hg⟩ ((k1.trans k3).trans (same_kp s4)) (D3.same s4) (dt_new et dws)
theorem ok_gtags (T : Tx K mg) : FnOk P w K mg base CX0 8 (a_law_tags K) (fdOf K d_law_tags) ["_law_draws"] (spG K [] (fun ts => (1 ≤ ts.length ∧ ts.length ≤ 3) ∧ ∀ t ∈ ts, GT t) tgsD) := by
  have G_law_pick := ok_pick (P := P) (w := w) (base := base) T
  have G_law_name := ok_name (P := P) (w := w) (base := base) T
  have G_law_kind := gkind_ok (P := P) (w := w) (base := base) T 3
  refine (F_law_tags T).ok sc_law_tags (fun vs H Q E h => spG_len h) (fun cdv A0 outer s H vs Q E hr h => ?_)
  obtain ⟨d, ra, rfl, D, q⟩ := h
  refine ⟨_, PSs.nox (pss_cons (ps_set (i := 1) sc_law_tags.nd rfl (Or.inl rfl) (pe_lst pa_nil)) (pss_cons (ps_for PassesOwn.never rfl (pi_range1 rfl (z_range T) (pa_cons (pe_op op_add pe_int (pe_call G_law_pick (hr.mono (by omega)) rfl (m_law_pick T) (F_law_pick T).kp (B_law_pick T) .nil pass0 (pa_cons (pv 0) (pa_cons pe_int pa_nil)))) pa_nil)) (pg_name (i := 2) sc_law_tags.nd rfl (Or.inl rfl)) (pss_one (ps_expr (pe_bm PySem.F.plainAttrs_list PySem.F.slot_list_append PySem.F.type_list_append mt_append (pv 1) (pa_cons (pe_tup (pa_cons (pe_call G_law_name (hr.mono (by omega)) rfl (m_law_name T) (F_law_name T).kp (B_law_name T) .nil pass0 (pa_cons (pv 0) pa_nil)) (pa_cons (pe_callTy call_tuple_of (by rfl) (z_tuple T) (by decide +kernel) (pa_cons (pe_lc (own := [("_law_j", 3)]) rfl sc_law_tags.nd (pi_range1 rfl (z_range T) (pa_cons (pe_call G_law_pick (hr.mono (by omega)) rfl (m_law_pick T) (F_law_pick T).kp (B_law_pick T) .nil pass0 (pa_cons (pv 0) (pa_cons pe_int pa_nil))) pa_nil)) (blkOk_by (N := ["_law_draws", "_law_tags_here", "_law_k", "_law_j"]) (sc := defScope s_law_tags) (by decide +kernel)) (fun _ _ _ _ _ => (pg_name (i := 3) sc_law_tags.nd rfl (Or.inl rfl))) (fun _ _ _ _ _ => pts_nil) (fun _ _ _ _ _ => (pe_call G_law_kind (hr.mono (by omega)) rfl (m_law_kind T) (F_law_kind T).kp (B_law_kind T) .nil pass0 (pa_cons (pv 0) (pa_cons pe_int pa_nil))))) pa_nil)) pa_nil))) pa_nil))))) (pss_one (ps_ret (pe_callTy call_tuple_of (by rfl) (z_tuple T) (by decide +kernel) (pa_cons (pv 1) pa_nil)))))), ?_⟩
  refine ⟨Nat.zero_le _, fun qc hqc => ?_⟩
  have s0 := same_new hqc (.lst [])
  have nd : qc ≠ d := D.ne' hqc
  refine ⟨_, rfl, d, 3, ra, rfl, by decide, D.same s0, fun r H1 h0 h1 k1 D1 => ?_⟩
  have hq2 : H1 qc = some (.lst []) := k1 _ _ nd upd_same
  refine ⟨_, _, rfl, rfl, 1 + r, rfl, by omega, by omega, for_range (fun i σ' H' => ∃ (ts : List (Str × List Kd)) (wd w2 : Option V) (vs : List V), ts.length = i ∧ (∀ t ∈ ts, GT t) ∧ σ' = [some (.ref d), some (.ref qc), wd, w2] ∧ Keep d H H' ∧ Dr ra H' d ∧ H' qc = some (.lst vs) ∧ Dts K H' vs (ts.map tagD))
    ⟨[], none, none, [], rfl, by simp, rfl, (same_kp s0).trans k1, D1, hq2, .nil⟩ ?_ ?_⟩
  · rintro i σ' H' hi ⟨ts, wd, w2, vs, hlen, hg, rfl, kk, Dd, hvs, dvs⟩
    refine ⟨_, rfl, .inl ⟨rfl, _, SqL.of hvs⟩, ?_⟩
    refine ⟨_, rfl, d, ra, rfl, Dd, fun x v3 H3 gx k3 D3 dx => ?_⟩
    obtain rfl := dt_str_inv dx
    refine ⟨_, rfl, d, 3, ra, rfl, by decide, D3, fun r4 H4 h40 h41 k4 D4 => ?_⟩
    refine ⟨r4, rfl, by omega, by omega, fun l el => ?_⟩
    refine lc_draw (K := K) (good := GK 1) (enc := Kd.d) ?_ D4 el ?_ ?_ ?_
    · exact fun _ => rfl
    · omega
    · intro i H3 Q' D3 g
      exact ⟨_, rfl, 1, by decide, d, ra, rfl, D3, g⟩
    intro H5 ws xs hl5 hg5 k5 D5 hws dws
    refine ⟨l, ws, rfl, .inl ⟨SqL.of hws, fun t et => ?_⟩⟩
    have s6 := same_new et (.tup ws)
    refine ⟨(by show 2 ≤ sizeLine; decide), fun t2 et2 => ?_⟩
    have s7 := same_new et2 (.tup [.str x, .ref t])
    have hvs6 := s7 _ _ (s6 _ _ (k5 _ _ nd (k4 _ _ nd (k3 _ _ nd hvs))))
    have kt := kt_upd hvs6 (fun z => z) (.lst (vs ++ [.ref t2]))
    have hlv : vs.length < sizeLine := by
      have := dts_len dvs
      rw [List.length_map] at this
      rw [this, hlen, show sizeLine = 16777216 from rfl]
      omega
    have D7 := (D5.same s6).same s7
    refine ⟨qc, vs, _, rfl, rfl, hvs6, hlv, ts ++ [(x, xs)], _, _, vs ++ [.ref t2], by simp [hlen], ?_, rfl, ?_, D7.other nd.symm (fun z => ?_) _, upd_same, ?_⟩
    · intro c hc
      rcases List.mem_append.mp hc with h | h
      · exact hg c h
      · obtain rfl := List.mem_singleton.mp h
        exact ⟨gx, by show xs.length ≤ 2; omega, hg5⟩
    · exact (((((kk.trans k3).trans k4).trans k5).trans (same_kp s6)).trans (same_kp s7)).other hqc _
    · rw [z] at D
      exact absurd rfl (D.nea hqc)
    · rw [List.map_append]
      have k35 := ((Dd.kt k3).trans (D3.kt k4)).trans ((D4.kt k5).trans (same_kt (s6.trans s7)))
      exact dts_keep kt (dts_app (dts_keep k35 dvs) (dts_one (dt_new et2 (.cons (.str x) (.cons (dt_new et dws) .nil)))))
  · rintro σ' H' ⟨ts, wd, w2, vs, hlen, hg, rfl, kk, Dd, hvs, dvs⟩
    refine ⟨_, rfl, qc, vs, rfl, .inl ⟨SqL.of hvs, fun t et => ?_⟩⟩
    have s5 := same_new et (.tup vs)
    exact q ts _ _ ⟨⟨by omega, by omega⟩, hg⟩ (kk.trans (same_kp s5)) (Dd.same s5) (dt_new et dvs)
theorem ok_gfunction (T : Tx K mg) : FnOk P w K mg base CX0 22 (a_law_function K) (fdOf K d_law_function) ["_law_draws"] (spG K [] GF Fn.d) := by
  have G_law_pick := ok_pick (P := P) (w := w) (base := base) T
  have G_law_name := ok_name (P := P) (w := w) (base := base) T
  have G_law_names := ok_gnames (P := P) (w := w) (base := base) T 1 (by decide)
  have G_law_pairs := ok_gpairs (P := P) (w := w) (base := base) T 0 (by decide)
  have G_law_kind := gkind_ok (P := P) (w := w) (base := base) T 3
  have G_law_expr := (gexpr_ok (P := P) (w := w) (base := base) T 4).2
  have G_law_block := (gst_ok (P := P) (w := w) (base := base) T 3).2
  refine (F_law_function T).ok sc_law_function (fun vs H Q E h => spG_len h) (fun cdv A0 outer s H vs Q E hr h => ?_)
  obtain ⟨d, ra, rfl, D, q⟩ := h
  refine ⟨_, PSs.nox (pss_cons (ps_set (i := 1) sc_law_function.nd rfl (Or.inl rfl) (pe_tup pa_nil)) (pss_cons (ps_if (pt_cmpR op_eq (pe_call G_law_pick (hr.mono (by omega)) rfl (m_law_pick T) (F_law_pick T).kp (B_law_pick T) .nil pass0 (pa_cons (pv 0) (pa_cons pe_int pa_nil))) pe_int (nomark _)) (pss_one (ps_set (i := 1) sc_law_function.nd rfl (Or.inl rfl) (pe_call G_law_names (hr.mono (by omega)) rfl (m_law_names T) (F_law_names T).kp (B_law_names T) .nil pass0 (pa_cons (pv 0) (pa_cons pe_int pa_nil))))) pss_nil) (pss_cons (ps_set (i := 2) sc_law_function.nd rfl (Or.inl rfl) (pe_tup (pa_cons (pe_call G_law_name (hr.mono (by omega)) rfl (m_law_name T) (F_law_name T).kp (B_law_name T) .nil pass0 (pa_cons (pv 0) pa_nil)) (pa_cons (pe_call G_law_pairs (hr.mono (by omega)) rfl (m_law_pairs T) (F_law_pairs T).kp (B_law_pairs T) .nil pass0 (pa_cons (pv 0) (pa_cons pe_int pa_nil))) (pa_cons (pe_call G_law_kind (hr.mono (by omega)) rfl (m_law_kind T) (F_law_kind T).kp (B_law_kind T) .nil pass0 (pa_cons (pv 0) (pa_cons pe_int pa_nil))) (pa_cons (pv 1) pa_nil)))))) (pss_one (ps_ret (pe_op op_catT (pv 2) (pe_tup (pa_cons (pe_call G_law_block (hr.mono (by omega)) rfl (m_law_block T) (F_law_block T).kp (B_law_block T) .nil pass0 (pa_cons (pv 0) (pa_cons pe_int pa_nil))) (pa_cons (pe_call G_law_expr (hr.mono (by omega)) rfl (m_law_expr T) (F_law_expr T).kp (B_law_expr T) .nil pass0 (pa_cons (pv 0) (pa_cons pe_int pa_nil))) pa_nil))))))))), ?_⟩
  refine ⟨Nat.zero_le _, fun t0 e0 => ?_⟩
  have s0 := same_new e0 (.tup [])
  have d0 : Dt K (upd H t0 (.tup [])) (.ref t0) (nmD []) := dt_new e0 .nil
  refine ⟨_, rfl, d, 3, ra, rfl, by decide, D.same s0, fun r H1 h0 h1 k1 D1 => ?_⟩
  have d1 := dt_keep ((D.same s0).kt k1) d0
  have k01 := (same_kp s0 : Keep d _ _).trans k1
  refine ⟨rfl, _, rfl, iteB (fun _ => ?a) (fun _ => ?b)⟩
  case' a =>
    refine ⟨_, rfl, d, ra, rfl, D1, fun ls vl H2 gl0 k2 D2 dl => ?_⟩
    have gl : GN 0 3 ls := ⟨Nat.zero_le _, gl0.2.1, gl0.2.2⟩
    have k02 := k01.trans k2
  case' b =>
    have gl : GN 0 3 [] := ⟨Nat.zero_le _, Nat.zero_le _, by simp⟩
    have k02 := k01
    have dl := d1
    have D2 := D1
    generalize V.ref t0 = vl at dl ⊢
    obtain ⟨H2, eH⟩ : ∃ H2, H2 = H1 := ⟨_, rfl⟩
    rw [← eH] at k02 dl D2 ⊢
    obtain ⟨ls, els⟩ : ∃ ls : List Str, ls = [] := ⟨_, rfl⟩
    rw [← els] at dl gl
  all_goals
    refine ⟨_, rfl, d, ra, rfl, D2, fun x v3 H3 gx k3 D3 dx => ?_⟩
    obtain rfl := dt_str_inv dx
    refine ⟨_, rfl, d, ra, rfl, D3, fun ps v4 H4 gps k4 D4 dps => ?_⟩
    refine ⟨_, rfl, 2, by decide, d, ra, rfl, D4, fun kd v5 H5 gk k5 D5 dk => ?_⟩
    refine ⟨_, rfl, (by show 4 ≤ sizeLine; decide), fun t1 e1 => ?_⟩
    have s6 := same_new e1 (.tup [.str x, v4, v5, vl])
    refine ⟨_, rfl, _, rfl, 2, by decide, d, ra, rfl, D5.same s6, fun bl v7 H7 gb k7 D7 db => ?_⟩
    refine ⟨_, rfl, 3, by decide, d, ra, rfl, D7, fun e v8 H8 ge k8 D8 de => ?_⟩
    refine ⟨(by show 2 ≤ sizeLine; decide), fun t2 e2 => ?_⟩
    have s9 := same_new e2 (.tup [v7, v8])
    have hh : upd H5 t1 (.tup [.str x, v4, v5, vl]) t1 = some (.tup [.str x, v4, v5, vl]) := upd_same
    have hh8 := s9 _ _ (k8 _ _ (D5.ne' e1) (k7 _ _ (D5.ne' e1) hh))
    refine ⟨t1, t2, _, _, rfl, rfl, SqT.of hh8, SqT.of upd_same, by simp, (by show 6 ≤ sizeLine; decide), fun z => (by simp at z), fun _ t3 e3 => ?_⟩
    have s10 := same_new e3 (.tup ([.str x, v4, v5, vl] ++ [v7, v8]))
    have kA := (((D5.same s6).kt k7).trans (D7.kt k8)).trans ((same_kt s9))
    have kB := (same_kt s6).trans kA
    have kC := (D4.kt k5).trans kB
    have kD := ((D2.kt k3).trans (D3.kt k4)).trans kC
    refine q ⟨x, ps, kd, ls, bl, e⟩ _ _ ⟨gx, gps, gk, gl, gb, ge⟩ ((((((k02.trans k3).trans k4).trans k5).trans (same_kp s6)).trans (k7.trans k8)).trans (same_kp (s9.trans s10))) (D8.same (s9.trans s10)) (dt_new e3 ?_)
    refine .cons (.str x) (.cons (dt_keep kC dps) (.cons (dt_keep kB dk) (.cons (dt_keep kD dl) (.cons ?_ (.cons (dt_keep (same_kt s9) de) .nil)))))
    rw [← St.ds_map]
    exact dt_keep ((D7.kt k8).trans (same_kt s9)) db
theorem ok_gprogram (T : Tx K mg) : FnOk P w K mg base CX0 23 (a_law_program K) (fdOf K d_law_program) ["_law_draws"] (spG K [] GP Pr.d) := by
  have G_law_pick := ok_pick (P := P) (w := w) (base := base) T
  have G_law_name := ok_name (P := P) (w := w) (base := base) T
  have G_law_pairs := ok_gpairs (P := P) (w := w) (base := base) T 1 (by decide)
  have G_law_tags := ok_gtags (P := P) (w := w) (base := base) T
  have G_law_function := ok_gfunction (P := P) (w := w) (base := base) T
  refine (F_law_program T).ok sc_law_program (fun vs H Q E h => spG_len h) (fun cdv A0 outer s H vs Q E hr h => ?_)
  obtain ⟨d, ra, rfl, D, q⟩ := h
  refine ⟨_, PSs.nox (pss_cons (ps_set (i := 1) sc_law_program.nd rfl (Or.inl rfl) (pe_callTy call_tuple_of (by rfl) (z_tuple T) (by decide +kernel) (pa_cons (pe_lc (own := [("_law_k", 3)]) rfl sc_law_program.nd (pi_range1 rfl (z_range T) (pa_cons (pe_call G_law_pick (hr.mono (by omega)) rfl (m_law_pick T) (F_law_pick T).kp (B_law_pick T) .nil pass0 (pa_cons (pv 0) (pa_cons pe_int pa_nil))) pa_nil)) (blkOk_by (N := ["_law_draws", "_law_records", "_law_variants", "_law_k"]) (sc := defScope s_law_program) (by decide +kernel)) (fun _ _ _ _ _ => (pg_name (i := 3) sc_law_program.nd rfl (Or.inl rfl))) (fun _ _ _ _ _ => pts_nil) (fun _ _ _ _ _ => (pe_tup (pa_cons (pe_call G_law_name (hr.mono (by omega)) rfl (m_law_name T) (F_law_name T).kp (B_law_name T) .nil pass0 (pa_cons (pv 0) pa_nil)) (pa_cons (pe_call G_law_pairs (hr.mono (by omega)) rfl (m_law_pairs T) (F_law_pairs T).kp (B_law_pairs T) .nil pass0 (pa_cons (pv 0) (pa_cons pe_int pa_nil))) pa_nil))))) pa_nil))) (pss_cons (ps_set (i := 2) sc_law_program.nd rfl (Or.inl rfl) (pe_callTy call_tuple_of (by rfl) (z_tuple T) (by decide +kernel) (pa_cons (pe_lc (own := [("_law_k", 3)]) rfl sc_law_program.nd (pi_range1 rfl (z_range T) (pa_cons (pe_call G_law_pick (hr.mono (by omega)) rfl (m_law_pick T) (F_law_pick T).kp (B_law_pick T) .nil pass0 (pa_cons (pv 0) (pa_cons pe_int pa_nil))) pa_nil)) (blkOk_by (N := ["_law_draws", "_law_records", "_law_variants", "_law_k"]) (sc := defScope s_law_program) (by decide +kernel)) (fun _ _ _ _ _ => (pg_name (i := 3) sc_law_program.nd rfl (Or.inl rfl))) (fun _ _ _ _ _ => pts_nil) (fun _ _ _ _ _ => (pe_tup (pa_cons (pe_call G_law_name (hr.mono (by omega)) rfl (m_law_name T) (F_law_name T).kp (B_law_name T) .nil pass0 (pa_cons (pv 0) pa_nil)) (pa_cons (pe_call G_law_tags (hr.mono (by omega)) rfl (m_law_tags T) (F_law_tags T).kp (B_law_tags T) .nil pass0 (pa_cons (pv 0) pa_nil)) pa_nil))))) pa_nil))) (pss_one (ps_ret (pe_tup (pa_cons (pv 1) (pa_cons (pv 2) (pa_cons (pe_callTy call_tuple_of (by rfl) (z_tuple T) (by decide +kernel) (pa_cons (pe_lc (own := [("_law_k", 3)]) rfl sc_law_program.nd (pi_range1 rfl (z_range T) (pa_cons (pe_op op_add pe_int (pe_call G_law_pick (hr.mono (by omega)) rfl (m_law_pick T) (F_law_pick T).kp (B_law_pick T) .nil pass0 (pa_cons (pv 0) (pa_cons pe_int pa_nil)))) pa_nil)) (blkOk_by (N := ["_law_draws", "_law_records", "_law_variants", "_law_k"]) (sc := defScope s_law_program) (by decide +kernel)) (fun _ _ _ _ _ => (pg_name (i := 3) sc_law_program.nd rfl (Or.inl rfl))) (fun _ _ _ _ _ => pts_nil) (fun _ _ _ _ _ => (pe_call G_law_function (hr.mono (by omega)) rfl (m_law_function T) (F_law_function T).kp (B_law_function T) .nil pass0 (pa_cons (pv 0) pa_nil)))) pa_nil)) pa_nil)))))))), ?_⟩
  refine ⟨_, rfl, d, 3, ra, rfl, by decide, D, fun r H1 h0 h1 k1 D1 => ?_⟩
  refine ⟨r, rfl, by omega, by omega, fun l el => ?_⟩
  refine lc_draw (K := K) (good := GR) (enc := recD) ?_ D1 el ?_ ?_ ?_
  · exact fun _ => rfl
  · omega
  · intro i H3 Q' D3 g
    refine ⟨_, rfl, d, ra, rfl, D3, fun x v H4 gx k4 D4 dx => ?_⟩
    obtain rfl := dt_str_inv dx
    refine ⟨_, rfl, d, ra, rfl, D4, fun ps v5 H5 gps k5 D5 dps => ?_⟩
    refine ⟨(by show 2 ≤ sizeLine; decide), fun t et => ?_⟩
    have s6 := same_new et (.tup [.str x, v5])
    exact g (x, ps) _ _ ⟨gx, gps⟩ ((k4.trans k5).trans (same_kp s6)) (D5.same s6) (dt_new et (.cons (.str x) (.cons dps .nil)))
  intro H2 ws1 rs hl1 hg1 k2 D2 hws1 dws1
  refine ⟨l, ws1, rfl, .inl ⟨SqL.of hws1, fun t1 e1 => ?_⟩⟩
  have s1 := same_new e1 (.tup ws1)
  have dr := dt_new e1 dws1
  refine ⟨_, rfl, d, 3, ra, rfl, by decide, D2.same s1, fun r2 H3 h20 h21 k3 D3 => ?_⟩
  have dr := dt_keep ((D2.same s1).kt k3) dr
  refine ⟨r2, rfl, by omega, by omega, fun l2 el2 => ?_⟩
  refine lc_draw (K := K) (good := GV) (enc := varD) ?_ D3 el2 ?_ ?_ ?_
  · exact fun _ => rfl
  · omega
  · intro i H3 Q' D3 g
    refine ⟨_, rfl, d, ra, rfl, D3, fun x v H4 gx k4 D4 dx => ?_⟩
    obtain rfl := dt_str_inv dx
    refine ⟨_, rfl, d, ra, rfl, D4, fun ts v5 H5 gts k5 D5 dts => ?_⟩
    refine ⟨(by show 2 ≤ sizeLine; decide), fun t et => ?_⟩
    have s6 := same_new et (.tup [.str x, v5])
    exact g (x, ts) _ _ ⟨gx, gts⟩ ((k4.trans k5).trans (same_kp s6)) (D5.same s6) (dt_new et (.cons (.str x) (.cons dts .nil)))
  intro H4 ws2 vs2 hl2 hg2 k4 D4 hws2 dws2
  have dr := dt_keep (D3.kt k4) dr
  refine ⟨l2, ws2, rfl, .inl ⟨SqL.of hws2, fun t2 e2 => ?_⟩⟩
  have s2 := same_new e2 (.tup ws2)
  have dv := dt_new e2 dws2
  have dr := dt_keep (same_kt s2) dr
  refine ⟨_, rfl, _, rfl, _, rfl, d, 3, ra, rfl, by decide, D4.same s2, fun r3 H5 h30 h31 k5 D5 => ?_⟩
  have dr := dt_keep ((D4.same s2).kt k5) dr
  have dv := dt_keep ((D4.same s2).kt k5) dv
  refine ⟨_, _, rfl, rfl, 1 + r3, rfl, by omega, by omega, fun l3 el3 => ?_⟩
  refine lc_draw (K := K) (good := GF) (enc := Fn.d) ?_ D5 el3 ?_ ?_ ?_
  · exact fun _ => rfl
  · omega
  · intro i H3 Q' D3 g
    exact ⟨_, rfl, d, ra, rfl, D3, g⟩
  intro H6 ws3 fs hl3 hg3 k6 D6 hws3 dws3
  have dr := dt_keep (D5.kt k6) dr
  have dv := dt_keep (D5.kt k6) dv
  refine ⟨l3, ws3, rfl, .inl ⟨SqL.of hws3, fun t3 e3 => ?_⟩⟩
  have s3 := same_new e3 (.tup ws3)
  refine ⟨(by show 3 ≤ sizeLine; decide), fun t4 e4 => ?_⟩
  have s4 := same_new e4 (.tup [.ref t1, .ref t2, .ref t3])
  refine q ⟨rs, vs2, fs⟩ _ _ ⟨⟨by show rs.length ≤ 2; omega, hg1⟩, ⟨by show vs2.length ≤ 2; omega, hg2⟩, ⟨by show 1 ≤ fs.length; omega, by show fs.length ≤ 3; omega⟩, hg3⟩ ?_ ((D6.same s3).same s4) (dt_new e4 ?_)
  · exact (((((k1.trans k2).trans (same_kp s1)).trans k3).trans k4).trans (same_kp s2)).trans ((k5.trans k6).trans (same_kp (s3.trans s4)))
  · exact .cons (dt_keep (same_kt s3) dr) (.cons (dt_keep (same_kt s3) dv) (.cons (dt_new e3 dws3) .nil))
end
end Ko
end
section
set_option Elab.async false
set_option linter.all false
set_option maxRecDepth 100000
set_option maxHeartbeats 4000000
/-! The one form of a tree, as pieces -/
namespace Ko
open PySem PySem.Spec PyProof.Rows L2
abbrev sg (s : Sym) : Pc := .tok (.sym s)
abbrev nmP (w : Str) : Pc := .tok (.name w)
def Kd.ps : Kd → List Pc
  | .int => [sg .kInt]
  | .bool => [sg .kBool]
  | .named w => [nmP w]
  | .box k => sg .kBox :: .sp :: k.ps
  | .vec k => sg .kVec :: .sp :: k.ps
  | .ref k => sg .kRef :: .sp :: k.ps
  | .mut k => sg .kMut :: .sp :: k.ps
def Op.lv : Op → Nat
  | .eq => 1 | .lt => 1 | .add => 2 | .sub => 2 | .mul => 3
/-- the level that the left side needs -/
def Op.ll : Op → Nat
  | .eq => 2 | .lt => 2 | .add => 2 | .sub => 2 | .mul => 3
def Ex.lv : Ex → Nat
  | .op s _ _ => s.lv
  | .un _ _ => 4
  | .rf _ _ => 4
  | _ => 5
def Un.pre : Un → List Pc
  | .not => [sg .bang]
  | .box => [sg .kBox, .sp]
  | .unbox => [sg .kUnbox, .sp]
def Rf.pre : Rf → List Pc
  | .ref => [sg .kRef, .sp]
  | .mut => [sg .kMut, .sp]
  | .deref => [sg .star]
def Ex.isDe : Ex → Bool
  | .rf .deref _ => true
  | _ => false
def Ex.nk (e : Ex) : Nat := if e.isDe = true then 4 else 5
def wr (k lv : Nat) (l : List Pc) : List Pc := if lv < k then sg .lpar :: (l ++ [sg .rpar]) else l
/-- with a comma between -/
def joinP (sep : List Pc) : List (List Pc) → List Pc
  | [] => []
  | [x] => x
  | x :: y :: r => x ++ (sep ++ joinP sep (y :: r))
abbrev cs2 : List Pc := [sg .comma, .sp]
mutual
def Ex.ps : Ex → List Pc
  | .num n => [.tok (.num n)]
  | .name w => [nmP w]
  | .truth b => [sg (if b = true then .kTrue else .kFalse)]
  | .op s a b => wr s.ll a.lv a.ps ++ (.sp :: sg s.sym :: .sp :: wr (s.lv + 1) b.lv b.ps)
  | .un u a => u.pre ++ wr 4 a.lv a.ps
  | .rf r p => r.pre ++ wr p.nk p.lv p.ps
  | .field p f => wr 5 p.lv p.ps ++ [sg .dot, nmP f]
  | .index p e => wr 5 p.lv p.ps ++ (sg .lbrk :: (e.ps ++ [sg .rbrk]))
  | .call f xs => nmP f :: sg .lpar :: (joinP cs2 (Ex.pss xs) ++ [sg .rpar])
  | .len p => sg .kLen :: sg .lpar :: (p.ps ++ [sg .rpar])
  | .vec k => sg .kVec :: .sp :: k.ps
def Ex.pss : List Ex → List (List Pc)
  | [] => []
  | x :: xs => x.ps :: Ex.pss xs
end
theorem Ex.pss_map (xs : List Ex) : Ex.pss xs = xs.map Ex.ps := by
  induction xs with
  | nil => rfl
  | cons x xs ih => rw [Ex.pss, ih]; rfl
/-- text(e, k) -/
def Ex.pn (k : Nat) (e : Ex) : List Pc := wr k e.lv e.ps
/-! ### how long -/
def rl (ps : List Pc) : Nat := (render ps).length
theorem rl_app (a b : List Pc) : rl (a ++ b) = rl a + rl b := by unfold rl; rw [render_app, List.length_append]
theorem rl_cons (a : Pc) (b : List Pc) : rl (a :: b) = a.cs.length + rl b := by unfold rl; rw [render_cons, List.length_append]
theorem rl_nil : rl [] = 0 := rfl
theorem sym_len (s : Sym) : (sg s).cs.length ≤ 7 := by
  have h : ∀ t ∈ Sym.all, (TL.tl t.txt).length ≤ 7 := by decide +kernel
  exact h s s.mem_all
theorem name_len {w : Str} (h : w ∈ NAMES) : (nmP w).cs.length ≤ 5 := by
  have q : ∀ t ∈ NAMES, (TL.tl t).length ≤ 5 := by decide +kernel
  exact q w h
theorem num_len {n : Nat} (h : n ∈ NUMS) : (Pc.tok (.num n)).cs.length ≤ 10 := by
  have q : ∀ t ∈ NUMS, (TL.tl (numS t)).length ≤ 10 := by decide +kernel
  exact q n h
theorem sp_len : (Pc.sp).cs.length = 1 := rfl
theorem nl_len : (Pc.nl).cs.length = 1 := rfl
theorem wr_len (k lv : Nat) (l : List Pc) : rl (wr k lv l) ≤ rl l + 14 := by
  unfold wr
  split
  · rw [rl_cons, rl_app, rl_cons, rl_nil]
    have := sym_len .lpar
    have := sym_len .rpar
    omega
  · omega
theorem kd_len : ∀ n k, GK n k → rl k.ps ≤ 8 * n + 8
  | n, .int, _ => by have := sym_len .kInt; rw [Kd.ps, rl_cons, rl_nil]; omega
  | n, .bool, _ => by have := sym_len .kBool; rw [Kd.ps, rl_cons, rl_nil]; omega
  | n, .named w, h => by have := name_len (w := w) (by cases n <;> exact h); rw [Kd.ps, rl_cons, rl_nil]; omega
  | n + 1, .box k, h => by have := sym_len .kBox; have := kd_len n k h; rw [Kd.ps, rl_cons, rl_cons, sp_len]; omega
  | n + 1, .vec k, h => by have := sym_len .kVec; have := kd_len n k h; rw [Kd.ps, rl_cons, rl_cons, sp_len]; omega
  | n + 1, .ref k, h => by have := sym_len .kRef; have := kd_len n k h; rw [Kd.ps, rl_cons, rl_cons, sp_len]; omega
  | n + 1, .mut k, h => by have := sym_len .kMut; have := kd_len n k h; rw [Kd.ps, rl_cons, rl_cons, sp_len]; omega
theorem join_len {sep : List Pc} {b s : Nat} (hs : rl sep ≤ s) : ∀ (xs : List (List Pc)), (∀ x ∈ xs, rl x ≤ b) → rl (joinP sep xs) ≤ xs.length * (b + s)
  | [], _ => by simp [joinP, rl_nil]
  | [x], h => by
    have := h x (by simp)
    simp only [joinP, List.length_cons, List.length_nil]
    omega
  | x :: y :: r, h => by
    have h1 := h x (by simp)
    have h2 := join_len hs (y :: r) (fun z hz => h z (by simp only [List.mem_cons] at hz ⊢; exact .inr hz))
    rw [joinP, rl_app, rl_app]
    rw [List.length_cons, Nat.succ_mul]
    omega
def EB : Nat → Nat
  | 0 => 100
  | n + 1 => 4 * EB n
theorem EB_pos : ∀ n, 100 ≤ EB n
  | 0 => Nat.le_refl _
  | n + 1 => by have := EB_pos n; show 100 ≤ 4 * EB n; omega
theorem ex_len : ∀ n e, GE n e → rl e.ps ≤ EB n
  | n, .num k, h => by have := num_len (n := k) (by cases n <;> exact h); have := EB_pos n; rw [Ex.ps, rl_cons, rl_nil]; omega
  | n, .name w, h => by have := name_len (w := w) (by cases n <;> exact h); have := EB_pos n; rw [Ex.ps, rl_cons, rl_nil]; omega
  | n, .truth b, h => by have := sym_len (if b = true then .kTrue else .kFalse); have := EB_pos n; rw [Ex.ps, rl_cons, rl_nil]; omega
  | n + 1, .op s a b, h => by
    have h1 := ex_len n a h.1; have h2 := ex_len n b h.2; have := EB_pos n; have := wr_len s.ll a.lv a.ps; have := wr_len (s.lv + 1) b.lv b.ps; have := sym_len s.sym
    rw [Ex.ps, rl_app, rl_cons, rl_cons, rl_cons, sp_len]; show _ ≤ 4 * EB n; omega
  | n + 1, .un u a, h => by
    have h1 := ex_len n a h; have := EB_pos n; have := wr_len 4 a.lv a.ps
    have h3 : rl u.pre ≤ 8 := by cases u <;> decide +kernel
    rw [Ex.ps, rl_app]; show _ ≤ 4 * EB n; omega
  | n + 1, .rf r p, h => by
    have h1 := ex_len n p h.2; have := EB_pos n; have := wr_len p.nk p.lv p.ps
    have h3 : rl r.pre ≤ 8 := by cases r <;> decide +kernel
    rw [Ex.ps, rl_app]; show _ ≤ 4 * EB n; omega
  | n + 1, .field p f, h => by
    have h1 := ex_len n p h.2.1; have := EB_pos n; have := wr_len 5 p.lv p.ps; have := sym_len .dot; have := name_len h.2.2
    rw [Ex.ps, rl_app, rl_cons, rl_cons, rl_nil]; show _ ≤ 4 * EB n; omega
  | n + 1, .index p e, h => by
    have h1 := ex_len n p h.2.1; have h2 := ex_len n e h.2.2; have := EB_pos n; have := wr_len 5 p.lv p.ps; have := sym_len .lbrk; have := sym_len .rbrk
    rw [Ex.ps, rl_app, rl_cons, rl_app, rl_cons, rl_nil]; show _ ≤ 4 * EB n; omega
  | n + 1, .call f xs, h => by
    have hs : rl cs2 ≤ 8 := by decide +kernel
    have h1 := join_len hs (b := EB n) (Ex.pss xs) (fun x hx => by
      rw [Ex.pss_map] at hx
      obtain ⟨e, he, rfl⟩ := List.mem_map.mp hx
      exact ex_len n e (h.2.2 e he))
    have h2 : (Ex.pss xs).length ≤ 3 := by rw [Ex.pss_map, List.length_map]; exact h.2.1
    have h3 : (Ex.pss xs).length * (EB n + 8) ≤ 3 * (EB n + 8) := Nat.mul_le_mul_right _ h2
    have := EB_pos n; have := name_len h.1; have := sym_len .lpar; have := sym_len .rpar
    rw [Ex.ps, rl_cons, rl_cons, rl_app, rl_cons, rl_nil]; show _ ≤ 4 * EB n; omega
  | n + 1, .len p, h => by
    have h1 := ex_len n p h.2; have := EB_pos n; have := sym_len .lpar; have := sym_len .rpar; have := sym_len .kLen
    rw [Ex.ps, rl_cons, rl_cons, rl_app, rl_cons, rl_nil]; show _ ≤ 4 * EB n; omega
  | n + 1, .vec k, h => by
    have h1 := kd_len 2 k h; have := EB_pos n; have := sym_len .kVec
    rw [Ex.ps, rl_cons, rl_cons, sp_len]; show _ ≤ 4 * EB n; omega
end Ko
end
section
set_option Elab.async false
set_option linter.all false
set_option maxRecDepth 100000
set_option maxHeartbeats 4000000
/-! The law's defs that print -/
namespace Ko
open PySem PySem.Spec PyProof.Rows L2
section
variable {P : Program} {w : World} {K : PySem.W.Frag} {mg : Str → Option Value} {base : Heap}
theorem at0 {v : V} {vs : List V} : atI (v :: vs) 0 = some v := atI_nat (j := 0) rfl
/-- a text of the pieces -/
def TxQ (ps : List Pc) (H : Hp) (Q : VK) : Prop := ∀ z H', Same H H' → TL.tl z = render ps → Q (.str z) H'
theorem tx_len {z : Str} {ps : List Pc} (h : TL.tl z = render ps) : z.length = rl ps := by rw [TL.len_tl, h]; rfl
theorem joinL_render (sep : List Pc) : ∀ xs : List (List Pc), TL.joinL (render sep) (xs.map render) = render (joinP sep xs)
  | [] => rfl
  | [x] => rfl
  | x :: y :: r => by
    have ih := joinL_render sep (y :: r)
    show render x ++ (render sep ++ TL.joinL (render sep) ((y :: r).map render)) = _
    rw [ih, joinP, render_app, render_app]
theorem tx_join {sep : Str} {sp : List Pc} {zs : List Str} {xs : List (List Pc)} (hs : TL.tl sep = render sp) (hz : zs.map TL.tl = xs.map render) : TL.tl (Txt.join sep zs) = render (joinP sp xs) := by
  rw [TL.join_eq, TL.tl_join, hs, hz, joinL_render]
theorem sum_le {b : Nat} : ∀ (zs : List Str), (∀ z ∈ zs, z.length ≤ b) → (zs.map (·.length)).sum ≤ zs.length * b
  | [], _ => by simp
  | z :: zs, h => by
    have h1 := h z (by simp)
    have h2 := sum_le zs (fun y hy => h y (by simp [hy]))
    rw [List.map_cons, List.sum_cons, List.length_cons, Nat.succ_mul]
    omega
theorem zs_len {b : Nat} {zs : List Str} {xs : List (List Pc)} (hz : zs.map TL.tl = xs.map render) (h : ∀ x ∈ xs, rl x ≤ b) : zs.length = xs.length ∧ ∀ z ∈ zs, z.length ≤ b := by
  refine ⟨by have := congrArg List.length hz; simpa using this, fun z hm => ?_⟩
  have : TL.tl z ∈ xs.map render := by rw [← hz]; exact List.mem_map_of_mem hm
  obtain ⟨x, hx, e⟩ := List.mem_map.mp this
  rw [TL.len_tl, ← e]
  exact h x hx
/-- a comprehension over a tuple, each item printed -/
theorem lc_texts {a D : Addr} {xs : List V} {g : TG} {te : TE} {vs : List Nat} {σ : L2.St} {H1 : Hp} {Qd : Hp → Prop} {α : Type} {enc : α → PyData} {items : List α} {pr : α → List Pc} (ha : SqT K H1 a xs) (hD : H1 D = none) (dxs : Dts K H1 xs (items.map enc)) (hl : items.length ≤ 1000)
    (step : ∀ x ∈ items, ∀ (v : V) (H : Hp) (Q' : VK) (Z : Hp → Prop), Dt K H v (enc x) → TxQ (pr x) H Q' → g v (wipe σ vs) H fun σ2 H2 => wipe σ2 vs = wipe σ vs ∧ tYes σ2 H2 fun b H3 => if b = true then te σ2 H3 Q' else Z H3)
    (done : ∀ (H : Hp) (zs : List Str), Same H1 H → H D = some (.lst (zs.map V.str)) → zs.map TL.tl = (items.map pr).map render → Qd H) :
    ∃ W : Nat → Nat → Hp → Prop, (∃ m, W 0 m (upd H1 D (.lst []))) ∧ ∀ i m H, W i m H →
      ((Itt K a).stop i H ∧ Qd H) ∨ ((Itt K a).go i H ∧ ∃ Nx : Hp → Prop, (∀ H', Nx H' → ∃ m', m' < m ∧ W (i + 1) m' H') ∧ ∀ x H', (Itt K a).yld i H x H' → g x (wipe σ vs) H' fun σ2 H2 => wipe σ2 vs = wipe σ vs ∧ tYes σ2 H2 fun b H3 =>
        if b = true then te σ2 H3 fun y H4 => ∃ acc, H4 D = some (.lst acc) ∧ acc.length < sizeLine ∧ Nx (upd H4 D (.lst (acc ++ [y]))) else Nx H3) := by
  refine lc_tup (K := K) (a := a) (xs := xs) (g := g) (tt := tYes) (te := te) (vs := vs) (σ := σ) (Qd := Qd) (fun i H => ∃ zs : List Str, Same H1 H ∧ H D = some (.lst (zs.map V.str)) ∧ zs.map TL.tl = ((items.take i).map pr).map render) ⟨[], same_new hD _, upd_same, rfl⟩
    (fun i H _ ⟨zs, s, _⟩ => (same_kt s).sqT ha) ?_ ?_
  · rintro i v H hv ⟨zs, s, hz, hm⟩
    obtain ⟨dd, hdd, dv⟩ := dts_of dxs hv
    rw [List.getElem?_map] at hdd
    cases hx : items[i]? with
    | none => rw [hx] at hdd; cases hdd
    | some x =>
      rw [hx] at hdd
      cases hdd
      refine step x (List.mem_of_getElem? hx) v H _ _ (dt_keep (same_kt s) dv) fun z H' s2 ez => ?_
      have hz2 := s2 _ _ hz
      have hi : i < items.length := (List.getElem?_eq_some_iff.mp hx).1
      refine ⟨_, hz2, ?_, zs ++ [z], same_upd hD (s.trans s2) _, by rw [upd_same, List.map_append]; rfl, ?_⟩
      · have := congrArg List.length hm
        simp only [List.length_map, List.length_take] at this
        rw [List.length_map, this, show sizeLine = 16777216 from rfl]
        omega
      · rw [List.map_append, hm, List.take_succ, hx, List.map_append, List.map_append]
        show _ ++ [TL.tl z] = _ ++ [render (pr x)]
        rw [ez]
  · rintro H ⟨zs, s, hz, hm⟩
    refine done H zs s hz ?_
    rw [hm, List.take_of_length_le]
    have := dts_len dxs
    rw [List.length_map] at this
    omega
def spKT (K : PySem.W.Frag) (n : Nat) : Sp := fun vs H Q _ => ∃ v k m, m < n ∧ vs = [v] ∧ GK m k ∧ Dt K H v k.d ∧ TxQ k.ps H Q
theorem spKT_len {n : Nat} {vs : List V} {H : Hp} {Q : VK} {E : XK} (h : spKT K n vs H Q E) : vs.length = 1 := by
  obtain ⟨v, k, m, _, rfl, _⟩ := h
  rfl
theorem ok_kind_text (T : Tx K mg) (n : Nat) (hn : n ≤ 5) (G_law_kind_text : FnOk P w K mg base CX0 (n + 1) (a_law_kind_text K) (fdOf K d_law_kind_text) ["_law_kind_here"] (spKT K n)) : FnOk P w K mg base CX0 (n + 2) (a_law_kind_text K) (fdOf K d_law_kind_text) ["_law_kind_here"] (spKT K (n + 1)) := by
  refine (F_law_kind_text T).ok sc_law_kind_text (fun vs H Q E h => spKT_len h) (fun cdv A0 outer s H vs Q E hr h => ?_)
  obtain ⟨v, k, m, hm, rfl, gk, dk, q⟩ := h
  refine ⟨_, PSs.nox (pss_cons (ps_if (pt_cmpR op_eq (pe_ix ix_tup (pv 0) pe_int (fun _ _ => rfl)) pe_str (nomark _)) (pss_one (ps_ret (pe_ix ix_tup (pv 0) pe_int (fun _ _ => rfl)))) pss_nil) (pss_one (ps_ret (pe_join pe_str (pe_op op_cat (pe_lst (pa_cons (pe_ix ix_tup (pv 0) pe_int (fun _ _ => rfl)) pa_nil)) (pe_lc (own := [("_law_part", 1)]) rfl sc_law_kind_text.nd (pi_tup (pe_slice sl_tupA (pv 0) (po_some pe_int) po_none)) (blkOk_by (N := ["_law_kind_here", "_law_part"]) (sc := defScope s_law_kind_text) (by decide +kernel)) (fun _ _ _ _ _ => (pg_name (i := 1) sc_law_kind_text.nd rfl (Or.inl rfl))) (fun _ _ _ _ _ => pts_nil) (fun _ _ _ _ _ => (pe_call G_law_kind_text (hr.mono (by omega)) rfl (m_law_kind_text T) (F_law_kind_text T).kp (B_law_kind_text T) .nil pass0 (pa_cons (pv 1) pa_nil))))))))), ?_⟩
  have cases_k : (∃ x, k = .named x) ∨ (∃ (tag : Str) (s : Sym) (rest : List Kd), k.d = .tuple (.str tag :: rest.map Kd.d) ∧ decide (V.str tag = V.str "named") = false ∧ tag = s.txt ∧ k.ps = sg s :: (rest.map fun k => .sp :: k.ps).flatten ∧ rest.length ≤ 1 ∧ ∀ k' ∈ rest, ∃ i, i < n ∧ GK i k') := by
    cases k with
    | named x => exact .inl ⟨x, rfl⟩
    | int => exact .inr ⟨_, .kInt, [], rfl, by decide +kernel, rfl, rfl, by decide, by simp⟩
    | bool => exact .inr ⟨_, .kBool, [], rfl, by decide +kernel, rfl, rfl, by decide, by simp⟩
    | box k =>
      obtain ⟨i, rfl⟩ : ∃ i, m = i + 1 := by cases m with | zero => exact gk.elim | succ i => exact ⟨i, rfl⟩
      exact .inr ⟨_, .kBox, [k], rfl, by decide +kernel, rfl, by simp [Kd.ps], by simp, fun k' h => by obtain rfl := List.mem_singleton.mp h; exact ⟨i, by omega, gk⟩⟩
    | vec k =>
      obtain ⟨i, rfl⟩ : ∃ i, m = i + 1 := by cases m with | zero => exact gk.elim | succ i => exact ⟨i, rfl⟩
      exact .inr ⟨_, .kVec, [k], rfl, by decide +kernel, rfl, by simp [Kd.ps], by simp, fun k' h => by obtain rfl := List.mem_singleton.mp h; exact ⟨i, by omega, gk⟩⟩
    | ref k =>
      obtain ⟨i, rfl⟩ : ∃ i, m = i + 1 := by cases m with | zero => exact gk.elim | succ i => exact ⟨i, rfl⟩
      exact .inr ⟨_, .kRef, [k], rfl, by decide +kernel, rfl, by simp [Kd.ps], by simp, fun k' h => by obtain rfl := List.mem_singleton.mp h; exact ⟨i, by omega, gk⟩⟩
    | «mut» k =>
      obtain ⟨i, rfl⟩ : ∃ i, m = i + 1 := by cases m with | zero => exact gk.elim | succ i => exact ⟨i, rfl⟩
      exact .inr ⟨_, .kMut, [k], rfl, by decide +kernel, rfl, by simp [Kd.ps], by simp, fun k' h => by obtain rfl := List.mem_singleton.mp h; exact ⟨i, by omega, gk⟩⟩
  rcases cases_k with ⟨x, rfl⟩ | ⟨tag, s, rest, hd, htag, rfl, hps, hrl, hrest⟩
  · obtain ⟨a, xs, rfl, ha, hxs⟩ := dt_tup_inv dk
    obtain rfl := strs_inv (ss := ["named", x]) hxs
    refine ⟨_, rfl, a, _, 0, .str "named", rfl, rfl, ha, rfl, rfl, _, rfl, iteT ?_⟩
    exact ⟨_, rfl, a, _, 1, .str x, rfl, rfl, ha, rfl, q x _ (fun _ _ h => h) (by rw [Kd.ps, render_cons, render_nil, List.append_nil]; rfl)⟩
  · rw [hd] at dk
    obtain ⟨a, xs, rfl, ha, hxs⟩ := dt_tup_inv dk
    cases hxs with
    | @cons v0 vs _ _ h0 hvs =>
    obtain rfl := dt_str_inv h0
    refine ⟨_, rfl, a, _, 0, .str s.txt, rfl, rfl, ha, at0, rfl, _, rfl, ?_⟩
    rw [htag]
    refine iteF ?_
    refine ⟨⟨_, rfl⟩, _, rfl, a, _, 0, _, rfl, rfl, ha, at0, (by show 1 ≤ sizeLine; decide), fun l el => ?_⟩
    have s1 := same_new el (.lst [.str s.txt])
    refine ⟨_, rfl, 1, rfl, a, _, rfl, (same_kt s1).sqT ha, fun hw => ?_, fun _ t et => ?_⟩
    · exfalso
      have := hw.1
      simp [HT.sIx] at this
    have hcut : cutV (.str s.txt :: vs) (some 1) none = vs := by
      show ((.str s.txt :: vs).drop (HT.sIx (vs.length + 1) 0 (some ((1 : Nat) : Int)))).take (vs.length + 1 - HT.sIx (vs.length + 1) 0 (some ((1 : Nat) : Int))) = vs
      rw [HT.sIx_nat, Nat.min_eq_left (by omega)]
      simp
    rw [hcut]
    have s2 := same_new et (.tup vs)
    refine ⟨t, rfl, ⟨_, SqT.of upd_same⟩, fun D eD => ?_⟩
    refine lc_texts (K := K) (enc := Kd.d) (pr := Kd.ps) (items := rest) (SqT.of upd_same) eD (dts_keep (same_kt (s1.trans s2)) hvs) (by omega) ?_ ?_
    · intro x hx v H Q' Z dx tq
      obtain ⟨i, hi, gi⟩ := hrest x hx
      exact ⟨rfl, _, rfl, v, x, i, hi, rfl, gi, dx, tq⟩
    · intro H3 zs s3 hz hm
      have hl3 := s3 _ _ (s2 _ _ (upd_same : upd H l (.lst [.str s.txt]) l = _))
      have hb : ∀ x ∈ rest.map Kd.ps, rl x ≤ 48 := fun x hx => by
        obtain ⟨k', hk', rfl⟩ := List.mem_map.mp hx
        obtain ⟨i, hi, gi⟩ := hrest k' hk'
        have := kd_len i k' gi
        omega
      obtain ⟨zl, zb⟩ := zs_len hm hb
      rw [List.length_map] at zl
      have hs := sum_le zs zb
      have hs2 : zs.length * 48 ≤ 1 * 48 := Nat.mul_le_mul_right _ (by omega)
      refine ⟨l, D, _, _, rfl, rfl, hl3, hz, ?_, fun p hp => ?_⟩
      · rw [List.length_map, zl, show sizeLine = 16777216 from rfl]
        simp only [List.length_cons, List.length_nil]
        omega
      refine ⟨" ", p, s.txt :: zs, rfl, rfl, .inl (SqL.of upd_same), ?_, ?_⟩
      · have hsl := sym_len s
        have : s.txt.length ≤ 7 := by rw [TL.len_tl]; exact hsl
        have h1 : (" " : Str).length = 1 := by decide +kernel
        rw [h1, List.map_cons, List.sum_cons, List.length_cons]
        omega
      · refine q _ _ (((s1.trans s2).trans s3).trans (same_new hp _)) ?_
        have e1 : (s.txt :: zs).map TL.tl = ([sg s] :: rest.map Kd.ps).map render := by
          rw [List.map_cons, hm, List.map_cons, render_cons, render_nil, List.append_nil]
          rfl
        rw [tx_join (sp := [.sp]) (by decide +kernel) e1, hps]
        match rest, hrl with
        | [], _ => rfl
        | [k'], _ => simp [joinP]
theorem kt_ok (T : Tx K mg) : ∀ n, n ≤ 6 → FnOk P w K mg base CX0 (n + 1) (a_law_kind_text K) (fdOf K d_law_kind_text) ["_law_kind_here"] (spKT K n)
  | 0, _ => by
    have no : ∀ vs H Q E, ¬ spKT K 0 vs H Q E := fun vs H Q E z => by
      obtain ⟨v, k, m, hm, _⟩ := z
      exact absurd hm (Nat.not_lt_zero m)
    exact ⟨fun vs H Q E h => absurd h (no vs H Q E), fun A outer s H args us vs Q E _ _ _ _ h => absurd h (no vs H Q E)⟩
  | n + 1, hn => ok_kind_text T n (by omega) (kt_ok T n (by omega))
end
end Ko
end
section
set_option Elab.async false
set_option linter.all false
set_option maxRecDepth 100000
set_option maxHeartbeats 4000000
/-! The law's defs that print expressions -/
namespace Ko
open PySem PySem.Spec PyProof.Rows L2
section
variable {P : Program} {w : World} {K : PySem.W.Frag} {mg : Str → Option Value} {base : Heap}
theorem at1 {v u : V} {vs : List V} : atI (v :: u :: vs) 1 = some u := atI_nat (j := 1) rfl
theorem at2 {v u x : V} {vs : List V} : atI (v :: u :: x :: vs) 2 = some x := atI_nat (j := 2) rfl
theorem at3 {v u x y : V} {vs : List V} : atI (v :: u :: x :: y :: vs) 3 = some y := atI_nat (j := 3) rfl
theorem addl {a b : Str} {pa pb : List Pc} (ha : TL.tl a = render pa) (hb : TL.tl b = render pb) (hl : rl pa + rl pb ≤ 1000000) : a.length + b.length ≤ sizeLine := by
  rw [tx_len ha, tx_len hb, show sizeLine = 16777216 from rfl]
  omega
theorem adt {a b : Str} {pa pb : List Pc} (ha : TL.tl a = render pa) (hb : TL.tl b = render pb) : TL.tl (a ++ b) = render (pa ++ pb) := by rw [TL.tl_append, ha, hb, render_app]
theorem tl_sym (s : Sym) : TL.tl s.txt = render [sg s] := by rw [render_cons, render_nil, List.append_nil]; rfl
theorem tl_name (x : Str) : TL.tl x = render [nmP x] := by rw [render_cons, render_nil, List.append_nil]; rfl
theorem rl1 (s : Sym) : rl [sg s] ≤ 7 := by rw [rl_cons, rl_nil]; exact sym_len s
theorem rl1n {x : Str} (h : x ∈ NAMES) : rl [nmP x] ≤ 5 := by rw [rl_cons, rl_nil]; exact name_len h
theorem EB_le {m : Nat} (h : m ≤ 4) : EB m ≤ 25600 := by
  match m, h with
  | 0, _ => decide
  | 1, _ => decide
  | 2, _ => decide
  | 3, _ => decide
  | 4, _ => decide
theorem pn_len {m k : Nat} {e : Ex} (h : m ≤ 4) (g : GE m e) : rl (Ex.pn k e) ≤ 25614 := by
  have h1 := ex_len m e g
  have h2 := wr_len k e.lv e.ps
  have h3 := EB_le h
  show rl (wr k e.lv e.ps) ≤ _
  omega
/-- level(tree) -/
def spLev (K : PySem.W.Frag) : Sp := fun vs H Q _ => ∃ v e, vs = [v] ∧ Dt K H v (Ex.d e) ∧ ∀ H', Same H H' → Q (.int (e.lv : Nat)) H'
def levK : List (Key × V) := [(.inr ("not" : Str), .int 4), (.inr ("box" : Str), .int 4), (.inr ("unbox" : Str), .int 4), (.inr ("ref" : Str), .int 4), (.inr ("mut" : Str), .int 4), (.inr ("deref" : Str), .int 4)]
def opK : List (Key × V) := [(.inr ("==" : Str), .int 1), (.inr ("<" : Str), .int 1), (.inr ("+" : Str), .int 2), (.inr ("-" : Str), .int 2), (.inr ("*" : Str), .int 3)]
theorem lev_tag (e : Ex) (h : e.tag ≠ "op") : (valV (mergeK [] levK) (.inr e.tag)).getD (.int 5) = .int (e.lv : Nat) := by
  cases e with
  | op s a b => exact absurd rfl h
  | un u a => show (valV (mergeK [] levK) (.inr u.txt)).getD (.int 5) = .int 4; cases u <;> decide +kernel
  | rf r p => show (valV (mergeK [] levK) (.inr r.txt)).getD (.int 5) = .int 4; cases r <;> decide +kernel
  | num _ => show (valV (mergeK [] levK) (.inr ("num" : Str))).getD (.int 5) = .int 5; decide +kernel
  | name _ => show (valV (mergeK [] levK) (.inr ("name" : Str))).getD (.int 5) = .int 5; decide +kernel
  | truth _ => show (valV (mergeK [] levK) (.inr ("truth" : Str))).getD (.int 5) = .int 5; decide +kernel
  | field _ _ => show (valV (mergeK [] levK) (.inr ("field" : Str))).getD (.int 5) = .int 5; decide +kernel
  | index _ _ => show (valV (mergeK [] levK) (.inr ("index" : Str))).getD (.int 5) = .int 5; decide +kernel
  | call _ _ => show (valV (mergeK [] levK) (.inr ("call" : Str))).getD (.int 5) = .int 5; decide +kernel
  | len _ => show (valV (mergeK [] levK) (.inr ("len" : Str))).getD (.int 5) = .int 5; decide +kernel
  | vec _ => show (valV (mergeK [] levK) (.inr ("vec" : Str))).getD (.int 5) = .int 5; decide +kernel
theorem lev_op (s : Op) : valV (mergeK [] opK) (.inr s.txt) = some (.int (s.lv : Nat)) := by cases s <;> decide +kernel
theorem tag_op {e : Ex} (h : e.tag = "op") : ∃ s a b, e = .op s a b := by
  have n : ∀ x : Str, x ≠ "op" → x = "op" → ∃ s a b, e = .op s a b := fun x h1 h2 => absurd h2 h1
  cases e with
  | op s a b => exact ⟨s, a, b, rfl⟩
  | un u a => exact absurd h (by show u.txt ≠ "op"; cases u <;> decide +kernel)
  | rf r p => exact absurd h (by show r.txt ≠ "op"; cases r <;> decide +kernel)
  | num _ => exact absurd h (by show ("num" : Str) ≠ "op"; decide +kernel)
  | name _ => exact absurd h (by show ("name" : Str) ≠ "op"; decide +kernel)
  | truth _ => exact absurd h (by show ("truth" : Str) ≠ "op"; decide +kernel)
  | field _ _ => exact absurd h (by show ("field" : Str) ≠ "op"; decide +kernel)
  | index _ _ => exact absurd h (by show ("index" : Str) ≠ "op"; decide +kernel)
  | call _ _ => exact absurd h (by show ("call" : Str) ≠ "op"; decide +kernel)
  | len _ => exact absurd h (by show ("len" : Str) ≠ "op"; decide +kernel)
  | vec _ => exact absurd h (by show ("vec" : Str) ≠ "op"; decide +kernel)
theorem ok_level (T : Tx K mg) : FnOk P w K mg base CX0 1 (a_law_level K) (fdOf K d_law_level) ["_law_tree"] (spLev K) := by
  refine (F_law_level T).ok sc_law_level (fun vs H Q E h => ?_) (fun cdv A0 outer s H vs Q E hr h => ?_)
  · obtain ⟨v, e, rfl, _⟩ := h
    rfl
  obtain ⟨v, e, rfl, de, q⟩ := h
  refine ⟨_, PSs.nox (pss_cons (ps_set (i := 1) sc_law_level.nd rfl (Or.inl rfl) (pe_disp (pps_cons pe_str pe_int (pps_cons pe_str pe_int (pps_cons pe_str pe_int (pps_cons pe_str pe_int (pps_cons pe_str pe_int (pps_cons pe_str pe_int pps_nil)))))) (by rfl) (by rfl) (fun z => by cases z) (by decide))) (pss_cons (ps_if (pt_cmpR op_eq (pe_ix ix_tup (pv 0) pe_int (fun _ _ => rfl)) pe_str (nomark _)) (pss_one (ps_ret (pe_dget (hu_of hr) (pe_disp (pps_cons pe_str pe_int (pps_cons pe_str pe_int (pps_cons pe_str pe_int (pps_cons pe_str pe_int (pps_cons pe_str pe_int pps_nil))))) (by rfl) (by rfl) (fun z => by cases z) (by decide)) (pe_ix ix_tup (pv 0) pe_int (fun _ _ => rfl)) (fun _ _ => rfl)))) pss_nil) (pss_one (ps_ret (pe_dget2 (hu_of hr) (pv 1) (pe_ix ix_tup (pv 0) pe_int (fun _ _ => rfl)) pe_int ⟨rfl, rfl, rfl, rfl⟩))))), ?_⟩
  intro d hd
  refine ⟨upd_same, levK, rfl, by decide, ?_⟩
  rw [upd_upd]
  have s1 := same_new hd (.dK (mergeK [] levK))
  obtain ⟨a, xs, rfl, ha, hx⟩ := ex_first de
  have ha1 := (same_kt s1).sqT ha
  refine ⟨_, rfl, a, xs, 0, _, rfl, rfl, ha1, atI_nat hx, rfl, _, rfl, iteB (fun hb => ?_) (fun hb => ?_)⟩
  · obtain ⟨o, x, y, rfl⟩ := tag_op (V.str.inj (of_decide_eq_true hb))
    intro d2 hd2
    refine ⟨upd_same, opK, rfl, by decide, ?_⟩
    rw [upd_upd]
    have s2 := same_new hd2 (.dK (mergeK [] opK))
    obtain ⟨a', xs', e', ha', hx'⟩ := dt_tup_inv de
    cases e'
    cases hx' with
    | cons h0 hx' =>
    cases hx' with
    | cons h1 hx' =>
    obtain rfl := dt_str_inv h0
    obtain rfl := dt_str_inv h1
    refine ⟨_, rfl, a, _, 1, _, rfl, rfl, (same_kt (s1.trans s2)).sqT ha', at1, d2, _, rfl, ?_, q _ (s1.trans s2)⟩
    have g := DGet.k (k := .inr o.txt) (upd_same : upd (upd H d (.dK (mergeK [] levK))) d2 (.dK (mergeK [] opK)) d2 = _)
    rw [lev_op] at g
    exact g
  · have hne : e.tag ≠ "op" := fun z => by rw [z] at hb; exact absurd hb (by decide +kernel)
    refine ⟨_, rfl, d, rfl, .inl ⟨_, .inl upd_same⟩, _, rfl, a, xs, 0, _, rfl, rfl, ha1, atI_nat hx, _, DGet.k (k := .inr e.tag) upd_same, ?_⟩
    rw [lev_tag e hne]
    exact q _ s1
def spNear (K : PySem.W.Frag) (n : Nat) : Sp := fun vs H Q _ => ∃ v e m, m < n ∧ vs = [v] ∧ GE m e ∧ Dt K H v (Ex.d e) ∧ TxQ (Ex.pn e.nk e) H Q
def spTx (K : PySem.W.Frag) (n : Nat) : Sp := fun vs H Q _ => ∃ v e m, ∃ k : Nat, m < n ∧ vs = [v, .int k] ∧ k ≤ 5 ∧ GE m e ∧ Dt K H v (Ex.d e) ∧ TxQ (Ex.pn k e) H Q
theorem tag_de (e : Ex) : decide (V.str e.tag = V.str "deref") = e.isDe := by
  cases e with
  | rf r p => cases r with
    | ref => show decide (V.str "ref" = V.str "deref") = false; decide +kernel
    | «mut» => show decide (V.str "mut" = V.str "deref") = false; decide +kernel
    | deref => show decide (V.str "deref" = V.str "deref") = true; decide +kernel
  | op s a b => show decide (V.str "op" = V.str "deref") = false; decide +kernel
  | un u a => show decide (V.str u.txt = V.str "deref") = false; cases u <;> decide +kernel
  | num _ => show decide (V.str "num" = V.str "deref") = false; decide +kernel
  | name _ => show decide (V.str "name" = V.str "deref") = false; decide +kernel
  | truth _ => show decide (V.str "truth" = V.str "deref") = false; decide +kernel
  | field _ _ => show decide (V.str "field" = V.str "deref") = false; decide +kernel
  | index _ _ => show decide (V.str "index" = V.str "deref") = false; decide +kernel
  | call _ _ => show decide (V.str "call" = V.str "deref") = false; decide +kernel
  | len _ => show decide (V.str "len" = V.str "deref") = false; decide +kernel
  | vec _ => show decide (V.str "vec" = V.str "deref") = false; decide +kernel
theorem ok_near (T : Tx K mg) (n : Nat) {k : Nat} (G_law_text : FnOk P w K mg base CX0 k (a_law_text K) (fdOf K d_law_text) ["_law_tree", "_law_needed"] (spTx K n)) : FnOk P w K mg base CX0 (k + 1) (a_law_near K) (fdOf K d_law_near) ["_law_tree"] (spNear K n) := by
  refine (F_law_near T).ok sc_law_near (fun vs H Q E h => ?_) (fun cdv A0 outer s H vs Q E hr h => ?_)
  · obtain ⟨v, e, m, _, rfl, _⟩ := h
    rfl
  obtain ⟨v, e, m, hm, rfl, ge, de, q⟩ := h
  refine ⟨_, PSs.nox (pss_one (ps_ret (pe_call G_law_text (hr.mono (by omega)) rfl (m_law_text T) (F_law_text T).kp (B_law_text T) .nil pass0 (pa_cons (pv 0) (pa_cons (pe_ix ix_list (pe_lst (pa_cons pe_int (pa_cons pe_int pa_nil))) (pe_callTy call_int1 (by rfl) (z_int T) (by decide +kernel) (pa_cons (pe_cmpR op_eq (pe_ix ix_tup (pv 0) pe_int (fun _ _ => rfl)) pe_str (nomark _)) pa_nil)) (fun _ _ => rfl)) pa_nil))))), ?_⟩
  obtain ⟨a, xs, rfl, ha, hx⟩ := ex_first de
  refine ⟨_, rfl, (by show 2 ≤ sizeLine; decide), fun l el => ?_⟩
  have s1 := same_new el (.lst [.int 5, .int 4])
  refine ⟨_, rfl, a, xs, 0, _, rfl, rfl, (same_kt s1).sqT ha, atI_nat hx, rfl, .inr ⟨_, rfl, ?_⟩⟩
  rw [tag_de]
  refine ⟨l, _, _, .int (e.nk : Nat), rfl, rfl, SqL.of upd_same, ?_, ?_⟩
  · unfold Ex.nk
    cases e.isDe with
    | true => exact at1
    | false => exact at0
  · exact ⟨_, e, m, e.nk, hm, rfl, by unfold Ex.nk; split <;> decide, ge, dt_keep (same_kt s1) de, fun z H' s2 ez => q z H' (s1.trans s2) ez⟩
end
end Ko
end
section
set_option Elab.async false
set_option linter.all false
set_option maxRecDepth 100000
set_option maxHeartbeats 4000000
/-! The law's text of an expression -/
namespace Ko
open PySem PySem.Spec PyProof.Rows L2
section
variable {P : Program} {w : World} {K : PySem.W.Frag} {mg : Str → Option Value} {base : Heap}
theorem seq_cut3 {t1 t2 t3 u : TS} {D : Ends} {σ : L2.St} {H : Hp} (W : L2.St → Hp → Prop) (hu : ∀ σ H, W σ H → u D σ H) (ht : ∀ U : TS, (∀ σ H, W σ H → U D σ H) → tSeq t1 (tSeq t2 (tSeq t3 U)) D σ H) : tSeq t1 (tSeq t2 (tSeq t3 u)) D σ H := ht u hu
theorem if_eq {A B : TS} {D : Ends} {σ : L2.St} {H : Hp} {i : Nat} {x y : Str} (h : σ[i]? = some (some (.str x))) (ht : x = y → A D σ H) (hf : x ≠ y → B D σ H) : tIfS (tTest (tOp rEq (tVar i) (tC (.str y)))) A B D σ H :=
  ⟨_, h, rfl, _, rfl, iteB (fun hb => ht (V.str.inj (of_decide_eq_true hb))) (fun hb => hf fun z => (of_decide_eq_false hb) (by rw [z]))⟩
theorem if_in3 {A B : TS} {D : Ends} {σ : L2.St} {H : Hp} {i : Nat} {x a b c : Str} (h : σ[i]? = some (some (.str x))) (ht : inV (.str x) [.str a, .str b, .str c] = true → ∀ H', Same H H' → A D σ H') (hf : inV (.str x) [.str a, .str b, .str c] = false → ∀ H', Same H H' → B D σ H') :
    tIfS (tTest (tOp (rIn K false) (tVar i) (tTup (tCons (tC (.str a)) (tCons (tC (.str b)) (tCons (tC (.str c)) tNil)))))) A B D σ H :=
  ⟨_, h, (by show 3 ≤ sizeLine; decide), fun p hp => ⟨p, _, rfl, .inr (SqT.of upd_same), rfl, rfl, _, rfl, iteB (fun hb => ht hb _ (same_new hp _)) (fun hb => hf hb _ (same_new hp _))⟩⟩
theorem in3_false {x a b c : Str} (h1 : x ≠ a) (h2 : x ≠ b) (h3 : x ≠ c) : inV (.str x) [.str a, .str b, .str c] = false := by
  simp only [inV, List.any_cons, List.any_nil, eqV, Bool.or_false, Bool.or_eq_false_iff]
  exact ⟨beq_eq_false_iff_ne.mpr (Ne.symm h1), beq_eq_false_iff_ne.mpr (Ne.symm h2), beq_eq_false_iff_ne.mpr (Ne.symm h3)⟩
theorem dt1i {H : Hp} {a : Addr} {d0 : PyData} (h : Dt K H (.ref a) (.tuple [d0])) : ∃ v0, SqT K H a [v0] ∧ Dt K H v0 d0 := by
  obtain ⟨a', xs, e, ha, hx⟩ := dt_tup_inv h
  cases e
  cases hx with
  | cons h0 hx =>
  cases hx
  exact ⟨_, ha, h0⟩
theorem dt2i {H : Hp} {a : Addr} {d0 d1 : PyData} (h : Dt K H (.ref a) (.tuple [d0, d1])) : ∃ v0 v1, SqT K H a [v0, v1] ∧ Dt K H v0 d0 ∧ Dt K H v1 d1 := by
  obtain ⟨a', xs, e, ha, hx⟩ := dt_tup_inv h
  cases e
  cases hx with
  | cons h0 hx =>
  cases hx with
  | cons h1 hx =>
  cases hx
  exact ⟨_, _, ha, h0, h1⟩
theorem dt3i {H : Hp} {a : Addr} {d0 d1 d2 : PyData} (h : Dt K H (.ref a) (.tuple [d0, d1, d2])) : ∃ v0 v1 v2, SqT K H a [v0, v1, v2] ∧ Dt K H v0 d0 ∧ Dt K H v1 d1 ∧ Dt K H v2 d2 := by
  obtain ⟨a', xs, e, ha, hx⟩ := dt_tup_inv h
  cases e
  cases hx with
  | cons h0 hx =>
  cases hx with
  | cons h1 hx =>
  cases hx with
  | cons h2 hx =>
  cases hx
  exact ⟨_, _, _, ha, h0, h1, h2⟩
theorem dt4i {H : Hp} {a : Addr} {d0 d1 d2 d3 : PyData} (h : Dt K H (.ref a) (.tuple [d0, d1, d2, d3])) : ∃ v0 v1 v2 v3, SqT K H a [v0, v1, v2, v3] ∧ Dt K H v0 d0 ∧ Dt K H v1 d1 ∧ Dt K H v2 d2 ∧ Dt K H v3 d3 := by
  obtain ⟨a', xs, e, ha, hx⟩ := dt_tup_inv h
  cases e
  cases hx with
  | cons h0 hx =>
  cases hx with
  | cons h1 hx =>
  cases hx with
  | cons h2 hx =>
  cases hx with
  | cons h3 hx =>
  cases hx
  exact ⟨_, _, _, _, ha, h0, h1, h2, h3⟩
def unK : List (Key × V) := [(.inr ("not" : Str), .str "!"), (.inr ("box" : Str), .str "box "), (.inr ("unbox" : Str), .str "unbox ")]
def rfK : List (Key × V) := [(.inr ("ref" : Str), .str "ref "), (.inr ("mut" : Str), .str "mut "), (.inr ("deref" : Str), .str "*")]
def unS : Un → Str
  | .not => "!" | .box => "box " | .unbox => "unbox "
def rfS : Rf → Str
  | .ref => "ref " | .mut => "mut " | .deref => "*"
theorem un_get (u : Un) : valV (mergeK [] unK) (.inr u.txt) = some (.str (unS u)) := by cases u <;> decide +kernel
theorem rf_get (r : Rf) : valV (mergeK [] rfK) (.inr r.txt) = some (.str (rfS r)) := by cases r <;> decide +kernel
theorem un_tl (u : Un) : TL.tl (unS u) = render u.pre ∧ rl u.pre ≤ 8 := by cases u <;> decide +kernel
theorem rf_tl (r : Rf) : TL.tl (rfS r) = render r.pre ∧ rl r.pre ≤ 8 := by cases r <;> decide +kernel
def boK : List (Key × V) := [(.inr ("True" : Str), .str "true"), (.inr ("False" : Str), .str "false")]
theorem bo_name : ∀ x ∈ NAMES, (valV (mergeK [] boK) (.inr x)).getD (.str x) = .str x := by decide +kernel
theorem bo_num : ∀ x ∈ NUMS, (valV (mergeK [] boK) (.inr (numS x))).getD (.str (numS x)) = .str (numS x) := by decide +kernel
theorem num_log : ∀ x ∈ NUMS, ((x : Int)).natAbs.log2 < 1920 := by decide +kernel
def boS (b : Bool) : Str := (if b = true then Sym.kTrue else Sym.kFalse).txt
theorem bo_bool (b : Bool) : (valV (mergeK [] boK) (.inr (if b then "True" else "False" : Str))).getD (.str (if b then "True" else "False" : Str)) = .str (boS b) := by cases b <;> decide +kernel
theorem sp_t : TL.tl (" " : Str) = render [.sp] := by decide +kernel
theorem cs_t : TL.tl (", " : Str) = render cs2 := by decide +kernel
theorem rlsp : rl [.sp] = 1 := rfl
theorem ok_text (T : Tx K mg) (n : Nat) (hn : n ≤ 4) {k : Nat} (hk : 7 ≤ k) (G_law_text : FnOk P w K mg base CX0 k (a_law_text K) (fdOf K d_law_text) ["_law_tree", "_law_needed"] (spTx K n)) (G_law_near : FnOk P w K mg base CX0 k (a_law_near K) (fdOf K d_law_near) ["_law_tree"] (spNear K n)) :
    FnOk P w K mg base CX0 (k + 1) (a_law_text K) (fdOf K d_law_text) ["_law_tree", "_law_needed"] (spTx K (n + 1)) := by
  have G_law_level := ok_level (P := P) (w := w) (base := base) T
  have G_law_kind_text := kt_ok (P := P) (w := w) (base := base) T 3 (by decide)
  refine (F_law_text T).ok sc_law_text (fun vs H Q E h => ?_) (fun cdv A0 outer s H vs Q E hr h => ?_)
  · obtain ⟨v, e, m, kk, _, rfl, _⟩ := h
    rfl
  obtain ⟨v, e, m, kk, hm, rfl, hkk, ge, de, q⟩ := h
  refine ⟨_, PSs.nox (pss_cons (ps_set (i := 2) sc_law_text.nd rfl (Or.inl rfl) (pe_ix ix_tup (pv 0) pe_int (fun _ _ => rfl))) (pss_cons (ps_set (i := 3) sc_law_text.nd rfl (Or.inl rfl) (pe_call G_law_level (hr.mono (by omega)) rfl (m_law_level T) (F_law_level T).kp (B_law_level T) .nil pass0 (pa_cons (pv 0) pa_nil))) (pss_cons (ps_if (pt_cmpR op_eq (pv 2) pe_str (nomark _)) (pss_one (ps_set (i := 4) sc_law_text.nd rfl (Or.inl rfl) (pe_op op_add_str (pe_op op_add_str (pe_op op_add_str (pe_op op_add_str (pe_call G_law_text (hr.mono (by omega)) rfl (m_law_text T) (F_law_text T).kp (B_law_text T) .nil pass0 (pa_cons (pe_ix ix_tup (pv 0) pe_int (fun _ _ => rfl)) (pa_cons (pe_op op_add (pv 3) (pe_callTy call_int1 (by rfl) (z_int T) (by decide +kernel) (pa_cons (pe_cmpR op_eq (pv 3) pe_int (nomark _)) pa_nil))) pa_nil))) pe_str) (pe_ix ix_tup (pv 0) pe_int (fun _ _ => rfl))) pe_str) (pe_call G_law_text (hr.mono (by omega)) rfl (m_law_text T) (F_law_text T).kp (B_law_text T) .nil pass0 (pa_cons (pe_ix ix_tup (pv 0) pe_int (fun _ _ => rfl)) (pa_cons (pe_op op_add (pv 3) pe_int) pa_nil)))))) (pss_one (ps_if (pt_cmpR op_in_seq (pv 2) (pe_tup (pa_cons pe_str (pa_cons pe_str (pa_cons pe_str pa_nil)))) (by rfl)) (pss_one (ps_set (i := 4) sc_law_text.nd rfl (Or.inl rfl) (pe_op op_add_str (pe_dget (hu_of hr) (pe_disp (pps_cons pe_str pe_str (pps_cons pe_str pe_str (pps_cons pe_str pe_str pps_nil))) (by rfl) (by rfl) (fun z => by cases z) (by decide)) (pv 2) (fun _ _ => rfl)) (pe_call G_law_text (hr.mono (by omega)) rfl (m_law_text T) (F_law_text T).kp (B_law_text T) .nil pass0 (pa_cons (pe_ix ix_tup (pv 0) pe_int (fun _ _ => rfl)) (pa_cons pe_int pa_nil)))))) (pss_one (ps_if (pt_cmpR op_in_seq (pv 2) (pe_tup (pa_cons pe_str (pa_cons pe_str (pa_cons pe_str pa_nil)))) (by rfl)) (pss_one (ps_set (i := 4) sc_law_text.nd rfl (Or.inl rfl) (pe_op op_add_str (pe_dget (hu_of hr) (pe_disp (pps_cons pe_str pe_str (pps_cons pe_str pe_str (pps_cons pe_str pe_str pps_nil))) (by rfl) (by rfl) (fun z => by cases z) (by decide)) (pv 2) (fun _ _ => rfl)) (pe_call G_law_near (hr.mono (by omega)) rfl (m_law_near T) (F_law_near T).kp (B_law_near T) .nil pass0 (pa_cons (pe_ix ix_tup (pv 0) pe_int (fun _ _ => rfl)) pa_nil))))) (pss_one (ps_if (pt_cmpR op_eq (pv 2) pe_str (nomark _)) (pss_one (ps_set (i := 4) sc_law_text.nd rfl (Or.inl rfl) (pe_op op_add_str (pe_op op_add_str (pe_call G_law_text (hr.mono (by omega)) rfl (m_law_text T) (F_law_text T).kp (B_law_text T) .nil pass0 (pa_cons (pe_ix ix_tup (pv 0) pe_int (fun _ _ => rfl)) (pa_cons pe_int pa_nil))) pe_str) (pe_ix ix_tup (pv 0) pe_int (fun _ _ => rfl))))) (pss_one (ps_if (pt_cmpR op_eq (pv 2) pe_str (nomark _)) (pss_one (ps_set (i := 4) sc_law_text.nd rfl (Or.inl rfl) (pe_op op_add_str (pe_op op_add_str (pe_op op_add_str (pe_call G_law_text (hr.mono (by omega)) rfl (m_law_text T) (F_law_text T).kp (B_law_text T) .nil pass0 (pa_cons (pe_ix ix_tup (pv 0) pe_int (fun _ _ => rfl)) (pa_cons pe_int pa_nil))) pe_str) (pe_call G_law_text (hr.mono (by omega)) rfl (m_law_text T) (F_law_text T).kp (B_law_text T) .nil pass0 (pa_cons (pe_ix ix_tup (pv 0) pe_int (fun _ _ => rfl)) (pa_cons pe_int pa_nil)))) pe_str))) (pss_one (ps_if (pt_cmpR op_eq (pv 2) pe_str (nomark _)) (pss_one (ps_set (i := 4) sc_law_text.nd rfl (Or.inl rfl) (pe_op op_add_str (pe_op op_add_str (pe_op op_add_str (pe_ix ix_tup (pv 0) pe_int (fun _ _ => rfl)) pe_str) (pe_join pe_str (pe_lc (own := [("_law_part", 5)]) rfl sc_law_text.nd (pi_tup (pe_ix ix_tup (pv 0) pe_int (fun _ _ => rfl))) (blkOk_by (N := ["_law_tree", "_law_needed", "_law_kind_here", "_law_level_here", "_law_text_here", "_law_part"]) (sc := defScope s_law_text) (by decide +kernel)) (fun _ _ _ _ _ => (pg_name (i := 5) sc_law_text.nd rfl (Or.inl rfl))) (fun _ _ _ _ _ => pts_nil) (fun _ _ _ _ _ => (pe_call G_law_text (hr.mono (by omega)) rfl (m_law_text T) (F_law_text T).kp (B_law_text T) .nil pass0 (pa_cons (pv 5) (pa_cons pe_int pa_nil))))))) pe_str))) (pss_one (ps_if (pt_cmpR op_eq (pv 2) pe_str (nomark _)) (pss_one (ps_set (i := 4) sc_law_text.nd rfl (Or.inl rfl) (pe_op op_add_str (pe_op op_add_str pe_str (pe_call G_law_text (hr.mono (by omega)) rfl (m_law_text T) (F_law_text T).kp (B_law_text T) .nil pass0 (pa_cons (pe_ix ix_tup (pv 0) pe_int (fun _ _ => rfl)) (pa_cons pe_int pa_nil)))) pe_str))) (pss_one (ps_if (pt_cmpR op_eq (pv 2) pe_str (nomark _)) (pss_one (ps_set (i := 4) sc_law_text.nd rfl (Or.inl rfl) (pe_op op_add_str pe_str (pe_call G_law_kind_text (hr.mono (by omega)) rfl (m_law_kind_text T) (F_law_kind_text T).kp (B_law_kind_text T) .nil pass0 (pa_cons (pe_ix ix_tup (pv 0) pe_int (fun _ _ => rfl)) pa_nil))))) (pss_one (ps_set (i := 4) sc_law_text.nd rfl (Or.inl rfl) (pe_dget2 (hu_of hr) (pe_disp (pps_cons pe_str pe_str (pps_cons pe_str pe_str pps_nil)) (by rfl) (by rfl) (fun z => by cases z) (by decide)) (pe_callTy call_strA (by rfl) (z_str T) (by decide +kernel) (pa_cons (pe_ix ix_tup (pv 0) pe_int (fun _ _ => rfl)) pa_nil)) (pe_callTy call_strA (by rfl) (z_str T) (by decide +kernel) (pa_cons (pe_ix ix_tup (pv 0) pe_int (fun _ _ => rfl)) pa_nil)) ⟨rfl, rfl, rfl, rfl⟩)))))))))))))))))) (pss_cons (ps_if (pt_cmpR op_lt (pv 3) (pv 1) (nomark _)) (pss_one (ps_ret (pe_op op_add_str (pe_op op_add_str pe_str (pv 4)) pe_str))) pss_nil) (pss_one (ps_ret (pv 4))))))), ?_⟩
  refine seq_cut3 (fun σ' H' => ∃ (x1 x2 : Option V) (z : Str), σ' = [some v, some (.int (kk : Nat)), x1, some (.int (e.lv : Nat)), some (.str z), x2] ∧ Same H H' ∧ TL.tl z = render e.ps) ?_ ?_
  · rintro σ' H' ⟨x1, x2, z, rfl, s1, ez⟩
    have hb := ex_len m e ge
    have hb2 := EB_le (show m ≤ 4 by omega)
    refine ⟨_, rfl, _, rfl, _, _, rfl, rfl, _, rfl, iteB (fun hlt => ?_) (fun hlt => ?_)⟩
    · have hlt' : e.lv < kk := by have := of_decide_eq_true hlt; omega
      have e1 := tl_sym .lpar
      have e2 := adt e1 ez
      have e3 := adt e2 (tl_sym .rpar)
      have := rl1 .lpar
      have := rl1 .rpar
      refine ⟨_, rfl, _, _, rfl, rfl, addl e1 ez (by omega), _, _, rfl, rfl, addl e2 (tl_sym .rpar) (by rw [rl_app]; omega), q _ _ s1 ?_⟩
      rw [show (("(" : Str) ++ z ++ (")" : Str)) = Sym.lpar.txt ++ z ++ Sym.rpar.txt from rfl, e3]
      unfold Ex.pn wr
      rw [if_pos hlt']
      simp
    · have hlt' : ¬ e.lv < kk := by have := of_decide_eq_false hlt; omega
      refine ⟨_, rfl, q _ _ s1 ?_⟩
      unfold Ex.pn wr
      rw [if_neg hlt']
      exact ez
  intro U hU
  obtain ⟨a, xs, rfl, ha, hx⟩ := ex_first de
  refine ⟨_, rfl, a, xs, 0, _, rfl, rfl, ha, atI_nat hx, ?_⟩
  refine ⟨_, rfl, _, e, rfl, de, fun H1 s1 => ?_⟩
  dsimp only [gName, tSeq]
  have de := dt_keep (same_kt s1) de
  cases e with
  | op o l r =>
    refine if_eq rfl (fun _ => ?_) (fun z => absurd rfl z)
    obtain ⟨m, rfl⟩ : ∃ i, m = i + 1 := by cases m with | zero => exact ge.elim | succ i => exact ⟨i, rfl⟩
    obtain ⟨v0, v1, vl, vr, ha, d0, d1, dl, dr⟩ := dt4i de
    obtain rfl := dt_str_inv d1
    have hl := pn_len (k := o.ll) (show m ≤ 4 by omega) ge.1
    have hr2 := pn_len (k := o.lv + 1) (show m ≤ 4 by omega) ge.2
    have hs := rl1 o.sym
    refine ⟨_, rfl, a, _, 2, _, rfl, rfl, ha, at2, _, rfl, _, rfl, rfl, .inr ⟨_, rfl, _, _, rfl, rfl, vl, l, m, o.ll, by omega, ?_, by cases o <;> decide, ge.1, dl, fun z1 H2 s2 e1 => ?_⟩⟩
    · exact congrArg (fun z => [vl, V.int z]) (show (((o.lv : Nat) : Int) + if decide (V.int ((o.lv : Nat) : Int) = V.int 1) = true then 1 else 0) = ((o.ll : Nat) : Int) by cases o <;> decide +kernel)
    have e2 := adt e1 sp_t
    refine ⟨_, _, rfl, rfl, addl e1 sp_t (by rw [rlsp]; omega), _, rfl, a, _, 1, _, rfl, rfl, (same_kt s2).sqT ha, at1, ?_⟩
    have e3 := adt e2 (tl_sym o.sym)
    refine ⟨_, _, rfl, rfl, addl e2 (tl_sym o.sym) (by rw [rl_app, rlsp]; omega), ?_⟩
    have e4 := adt e3 sp_t
    refine ⟨_, _, rfl, rfl, addl e3 sp_t (by rw [rl_app, rl_app, rlsp]; omega), _, rfl, a, _, 3, _, rfl, rfl, (same_kt s2).sqT ha, at3, _, rfl, _, _, rfl, rfl, vr, r, m, o.lv + 1, by omega, rfl, by cases o <;> decide, ge.2, dt_keep (same_kt s2) dr, fun z5 H3 s3 e5 => ?_⟩
    have e6 := adt e4 e5
    refine ⟨_, _, rfl, rfl, addl e4 e5 (by rw [rl_app, rl_app, rl_app, rlsp]; omega), ?_⟩
    refine hU _ _ ⟨_, _, _, rfl, (s1.trans s2).trans s3, ?_⟩
    show TL.tl (z1 ++ (" " : Str) ++ o.sym.txt ++ (" " : Str) ++ z5) = _
    rw [e6, Ex.ps]
    simp [Ex.pn]
  | un u x =>
    refine if_eq rfl (fun z => absurd z (by show u.txt ≠ "op"; cases u <;> decide +kernel)) (fun _ => ?_)
    obtain ⟨m, rfl⟩ : ∃ i, m = i + 1 := by cases m with | zero => exact ge.elim | succ i => exact ⟨i, rfl⟩
    refine if_in3 rfl (fun _ H2 s2 => ?_) (fun z => absurd z (by show inV (.str u.txt) [.str "not", .str "box", .str "unbox"] ≠ false; cases u <;> decide +kernel))
    obtain ⟨v0, vx, ha, d0, dx⟩ := dt2i (dt_keep (same_kt s2) de)
    intro d hd
    refine ⟨upd_same, unK, rfl, by decide, ?_⟩
    rw [upd_upd]
    have s3 := same_new hd (.dK (mergeK [] unK))
    refine ⟨_, rfl, d, _, rfl, DGet.k (k := .inr u.txt) upd_same |> fun g => (by rw [un_get] at g; exact g), ?_⟩
    have hl := pn_len (k := 4) (show m ≤ 4 by omega) ge
    obtain ⟨e1, l1⟩ := un_tl u
    refine ⟨_, rfl, a, _, 1, _, rfl, rfl, (same_kt s3).sqT ha, at1, vx, x, m, 4, by omega, rfl, by decide, ge, dt_keep (same_kt s3) dx, fun z2 H4 s4 e2 => ?_⟩
    refine ⟨_, _, rfl, rfl, addl e1 e2 (by omega), hU _ _ ⟨_, _, _, rfl, ((s1.trans s2).trans s3).trans s4, ?_⟩⟩
    rw [adt e1 e2, Ex.ps]
    rfl
  | rf r x =>
    refine if_eq rfl (fun z => absurd z (by show r.txt ≠ "op"; cases r <;> decide +kernel)) (fun _ => ?_)
    obtain ⟨m, rfl⟩ : ∃ i, m = i + 1 := by cases m with | zero => exact ge.elim | succ i => exact ⟨i, rfl⟩
    refine if_in3 rfl (fun z => absurd z (by show inV (.str r.txt) [.str "not", .str "box", .str "unbox"] ≠ true; cases r <;> decide +kernel)) (fun _ H2' s2' => ?_)
    refine if_in3 rfl (fun _ H2 s2 => ?_) (fun z => absurd z (by show inV (.str r.txt) [.str "ref", .str "mut", .str "deref"] ≠ false; cases r <;> decide +kernel))
    obtain ⟨v0, vx, ha, d0, dx⟩ := dt2i (dt_keep (same_kt (s2'.trans s2)) de)
    intro d hd
    refine ⟨upd_same, rfK, rfl, by decide, ?_⟩
    rw [upd_upd]
    have s3 := same_new hd (.dK (mergeK [] rfK))
    refine ⟨_, rfl, d, _, rfl, DGet.k (k := .inr r.txt) upd_same |> fun g => (by rw [rf_get] at g; exact g), ?_⟩
    have hl := pn_len (k := x.nk) (show m ≤ 4 by omega) ge.2
    obtain ⟨e1, l1⟩ := rf_tl r
    refine ⟨_, rfl, a, _, 1, _, rfl, rfl, (same_kt s3).sqT ha, at1, vx, x, m, by omega, rfl, ge.2, dt_keep (same_kt s3) dx, fun z2 H4 s4 e2 => ?_⟩
    refine ⟨_, _, rfl, rfl, addl e1 e2 (by omega), hU _ _ ⟨_, _, _, rfl, ((s1.trans (s2'.trans s2)).trans s3).trans s4, ?_⟩⟩
    rw [adt e1 e2, Ex.ps]
    rfl
  | field p f =>
    refine if_eq rfl (fun z => absurd z (by show ("field" : Str) ≠ "op"; decide +kernel)) (fun _ => ?_)
    obtain ⟨m, rfl⟩ : ∃ i, m = i + 1 := by cases m with | zero => exact ge.elim | succ i => exact ⟨i, rfl⟩
    refine if_in3 rfl (fun z => absurd z (by show inV (.str "field") [.str "not", .str "box", .str "unbox"] ≠ true; decide +kernel)) (fun _ H2' s2' => ?_)
    refine if_in3 rfl (fun z => absurd z (by show inV (.str "field") [.str "ref", .str "mut", .str "deref"] ≠ true; decide +kernel)) (fun _ H2 s2 => ?_)
    refine if_eq rfl (fun _ => ?_) (fun z => absurd rfl z)
    obtain ⟨v0, vx, vf, ha, d0, dx, df⟩ := dt3i (dt_keep (same_kt (s2'.trans s2)) de)
    obtain rfl := dt_str_inv df
    have hl := pn_len (k := 5) (show m ≤ 4 by omega) ge.2.1
    have hf := rl1n ge.2.2
    have hd := rl1 .dot
    refine ⟨_, rfl, a, _, 1, _, rfl, rfl, ha, at1, vx, p, m, 5, by omega, rfl, by decide, ge.2.1, dx, fun z1 H4 s4 e1 => ?_⟩
    have e2 := adt e1 (tl_sym .dot)
    refine ⟨_, _, rfl, rfl, addl e1 (tl_sym .dot) (by omega), _, rfl, a, _, 2, _, rfl, rfl, (same_kt s4).sqT ha, at2, ?_⟩
    refine ⟨_, _, rfl, rfl, addl e2 (tl_name f) (by rw [rl_app]; omega), hU _ _ ⟨_, _, _, rfl, (s1.trans (s2'.trans s2)).trans s4, ?_⟩⟩
    show TL.tl (z1 ++ Sym.dot.txt ++ f) = _
    rw [adt e2 (tl_name f), Ex.ps]
    simp [Ex.pn]
  | index p i =>
    refine if_eq rfl (fun z => absurd z (by show ("index" : Str) ≠ "op"; decide +kernel)) (fun _ => ?_)
    obtain ⟨m, rfl⟩ : ∃ i, m = i + 1 := by cases m with | zero => exact ge.elim | succ i => exact ⟨i, rfl⟩
    refine if_in3 rfl (fun z => absurd z (by show inV (.str "index") [.str "not", .str "box", .str "unbox"] ≠ true; decide +kernel)) (fun _ H2' s2' => ?_)
    refine if_in3 rfl (fun z => absurd z (by show inV (.str "index") [.str "ref", .str "mut", .str "deref"] ≠ true; decide +kernel)) (fun _ H2 s2 => ?_)
    refine if_eq rfl (fun z => absurd z (by show ("index" : Str) ≠ "field"; decide +kernel)) (fun _ => ?_)
    refine if_eq rfl (fun _ => ?_) (fun z => absurd rfl z)
    obtain ⟨v0, vx, vi, ha, d0, dx, di⟩ := dt3i (dt_keep (same_kt (s2'.trans s2)) de)
    have hl := pn_len (k := 5) (show m ≤ 4 by omega) ge.2.1
    have hi := pn_len (k := 0) (show m ≤ 4 by omega) ge.2.2
    have hb1 := rl1 .lbrk
    have hb2 := rl1 .rbrk
    refine ⟨_, rfl, a, _, 1, _, rfl, rfl, ha, at1, vx, p, m, 5, by omega, rfl, by decide, ge.2.1, dx, fun z1 H4 s4 e1 => ?_⟩
    have e2 := adt e1 (tl_sym .lbrk)
    refine ⟨_, _, rfl, rfl, addl e1 (tl_sym .lbrk) (by omega), _, rfl, a, _, 2, _, rfl, rfl, (same_kt s4).sqT ha, at2, vi, i, m, 0, by omega, rfl, by decide, ge.2.2, dt_keep (same_kt s4) di, fun z3 H5 s5 e3 => ?_⟩
    have e4 := adt e2 e3
    refine ⟨_, _, rfl, rfl, addl e2 e3 (by rw [rl_app]; omega), _, _, rfl, rfl, addl e4 (tl_sym .rbrk) (by rw [rl_app, rl_app]; omega), hU _ _ ⟨_, _, _, rfl, ((s1.trans (s2'.trans s2)).trans s4).trans s5, ?_⟩⟩
    show TL.tl (z1 ++ Sym.lbrk.txt ++ z3 ++ Sym.rbrk.txt) = _
    rw [adt e4 (tl_sym .rbrk), Ex.ps]
    simp [Ex.pn, wr]
  | call f xs =>
    refine if_eq rfl (fun z => absurd z (by show ("call" : Str) ≠ "op"; decide +kernel)) (fun _ => ?_)
    obtain ⟨m, rfl⟩ : ∃ i, m = i + 1 := by cases m with | zero => exact ge.elim | succ i => exact ⟨i, rfl⟩
    refine if_in3 rfl (fun z => absurd z (by show inV (.str "call") [.str "not", .str "box", .str "unbox"] ≠ true; decide +kernel)) (fun _ H2' s2' => ?_)
    refine if_in3 rfl (fun z => absurd z (by show inV (.str "call") [.str "ref", .str "mut", .str "deref"] ≠ true; decide +kernel)) (fun _ H2 s2 => ?_)
    refine if_eq rfl (fun z => absurd z (by show ("call" : Str) ≠ "field"; decide +kernel)) (fun _ => ?_)
    refine if_eq rfl (fun z => absurd z (by show ("call" : Str) ≠ "index"; decide +kernel)) (fun _ => ?_)
    refine if_eq rfl (fun _ => ?_) (fun z => absurd rfl z)
    obtain ⟨v0, vf, vx, ha, d0, df, dx⟩ := dt3i (dt_keep (same_kt (s2'.trans s2)) de)
    obtain rfl := dt_str_inv df
    obtain ⟨ax, ys, rfl, hax, dys⟩ := dt_tup_inv dx
    rw [Ex.ds_map] at dys
    have hf := rl1n ge.1
    have hb1 := rl1 .lpar
    have hb2 := rl1 .rpar
    have e1 := adt (tl_name f) (tl_sym .lpar)
    refine ⟨_, rfl, a, _, 1, _, rfl, rfl, ha, at1, _, _, rfl, rfl, addl (tl_name f) (tl_sym .lpar) (by omega), ⟨_, rfl⟩, _, rfl, a, _, 2, _, rfl, rfl, ha, at2, ax, rfl, ⟨_, hax⟩, fun D eD => ?_⟩
    have hxl := ge.2.1
    refine lc_texts (K := K) (enc := Ex.d) (pr := Ex.ps) (items := xs) hax eD dys (by omega) ?_ ?_
    · intro x hx v H Q' Z dx tq
      refine ⟨rfl, _, rfl, v, x, m, 0, by omega, rfl, by decide, ge.2.2 x hx, dx, fun z H' s ez => tq z H' s ?_⟩
      rw [ez]
      rfl
    intro H3 zs s3 hz hm2
    have hb : ∀ x ∈ xs.map Ex.ps, rl x ≤ 25614 := fun x hx => by
      obtain ⟨y, hy, rfl⟩ := List.mem_map.mp hx
      exact pn_len (k := 0) (show m ≤ 4 by omega) (ge.2.2 y hy)
    obtain ⟨zl, zb⟩ := zs_len hm2 hb
    rw [List.length_map] at zl
    have hs := sum_le zs zb
    have h1 : (", " : Str).length = 2 := by decide +kernel
    have hs2 : zs.length * 25614 ≤ 3 * 25614 := Nat.mul_le_mul_right _ (by omega)
    refine ⟨_, D, zs, rfl, rfl, .inl (SqL.of hz), by rw [h1]; omega, ?_⟩
    have e2 := tx_join cs_t hm2
    have hjl : rl (joinP cs2 (xs.map Ex.ps)) ≤ 100000 := by
      have := join_len (sep := cs2) (s := 8) (by decide +kernel) (xs.map Ex.ps) hb
      rw [List.length_map] at this
      have h3 : xs.length * (25614 + 8) ≤ 3 * (25614 + 8) := Nat.mul_le_mul_right _ hxl
      omega
    have e3 := adt e1 e2
    refine ⟨_, _, rfl, rfl, addl e1 e2 (by rw [rl_app]; omega), _, _, rfl, rfl, addl e3 (tl_sym .rpar) (by rw [rl_app, rl_app]; omega), hU _ _ ⟨_, _, _, rfl, (s1.trans (s2'.trans s2)).trans s3, ?_⟩⟩
    show TL.tl (f ++ Sym.lpar.txt ++ Txt.join ", " zs ++ Sym.rpar.txt) = _
    rw [adt e3 (tl_sym .rpar), Ex.ps, Ex.pss_map]
    simp
  | len p =>
    refine if_eq rfl (fun z => absurd z (by show ("len" : Str) ≠ "op"; decide +kernel)) (fun _ => ?_)
    obtain ⟨m, rfl⟩ : ∃ i, m = i + 1 := by cases m with | zero => exact ge.elim | succ i => exact ⟨i, rfl⟩
    refine if_in3 rfl (fun z => absurd z (by show inV (.str "len") [.str "not", .str "box", .str "unbox"] ≠ true; decide +kernel)) (fun _ H2' s2' => ?_)
    refine if_in3 rfl (fun z => absurd z (by show inV (.str "len") [.str "ref", .str "mut", .str "deref"] ≠ true; decide +kernel)) (fun _ H2 s2 => ?_)
    refine if_eq rfl (fun z => absurd z (by show ("len" : Str) ≠ "field"; decide +kernel)) (fun _ => ?_)
    refine if_eq rfl (fun z => absurd z (by show ("len" : Str) ≠ "index"; decide +kernel)) (fun _ => ?_)
    refine if_eq rfl (fun z => absurd z (by show ("len" : Str) ≠ "call"; decide +kernel)) (fun _ => ?_)
    refine if_eq rfl (fun _ => ?_) (fun z => absurd rfl z)
    obtain ⟨v0, vx, ha, d0, dx⟩ := dt2i (dt_keep (same_kt (s2'.trans s2)) de)
    have hl := pn_len (k := 0) (show m ≤ 4 by omega) ge.2
    have hb2 := rl1 .rpar
    have e0 : TL.tl ("len(" : Str) = render [sg .kLen, sg .lpar] := by decide +kernel
    have l0 : rl [sg .kLen, sg .lpar] = 4 := by decide +kernel
    refine ⟨_, rfl, a, _, 1, _, rfl, rfl, ha, at1, vx, p, m, 0, by omega, rfl, by decide, ge.2, dx, fun z1 H4 s4 e1 => ?_⟩
    have e2 := adt e0 e1
    refine ⟨_, _, rfl, rfl, addl e0 e1 (by omega), _, _, rfl, rfl, addl e2 (tl_sym .rpar) (by rw [rl_app]; omega), hU _ _ ⟨_, _, _, rfl, (s1.trans (s2'.trans s2)).trans s4, ?_⟩⟩
    show TL.tl (("len(" : Str) ++ z1 ++ Sym.rpar.txt) = _
    rw [adt e2 (tl_sym .rpar), Ex.ps]
    simp [Ex.pn, wr]
  | vec kd =>
    refine if_eq rfl (fun z => absurd z (by show ("vec" : Str) ≠ "op"; decide +kernel)) (fun _ => ?_)
    obtain ⟨m, rfl⟩ : ∃ i, m = i + 1 := by cases m with | zero => exact ge.elim | succ i => exact ⟨i, rfl⟩
    refine if_in3 rfl (fun z => absurd z (by show inV (.str "vec") [.str "not", .str "box", .str "unbox"] ≠ true; decide +kernel)) (fun _ H2' s2' => ?_)
    refine if_in3 rfl (fun z => absurd z (by show inV (.str "vec") [.str "ref", .str "mut", .str "deref"] ≠ true; decide +kernel)) (fun _ H2 s2 => ?_)
    refine if_eq rfl (fun z => absurd z (by show ("vec" : Str) ≠ "field"; decide +kernel)) (fun _ => ?_)
    refine if_eq rfl (fun z => absurd z (by show ("vec" : Str) ≠ "index"; decide +kernel)) (fun _ => ?_)
    refine if_eq rfl (fun z => absurd z (by show ("vec" : Str) ≠ "call"; decide +kernel)) (fun _ => ?_)
    refine if_eq rfl (fun z => absurd z (by show ("vec" : Str) ≠ "len"; decide +kernel)) (fun _ => ?_)
    refine if_eq rfl (fun _ => ?_) (fun z => absurd rfl z)
    obtain ⟨v0, vx, ha, d0, dx⟩ := dt2i (dt_keep (same_kt (s2'.trans s2)) de)
    have e0 : TL.tl ("vec " : Str) = render [sg .kVec, .sp] := by decide +kernel
    have l0 : rl [sg .kVec, .sp] = 4 := by decide +kernel
    have l1 := kd_len 2 kd ge
    refine ⟨_, rfl, a, _, 1, _, rfl, rfl, ha, at1, vx, kd, 2, by decide, rfl, ge, dx, fun z1 H4 s4 e1 => ?_⟩
    refine ⟨_, _, rfl, rfl, addl e0 e1 (by omega), hU _ _ ⟨_, _, _, rfl, (s1.trans (s2'.trans s2)).trans s4, ?_⟩⟩
    rw [adt e0 e1, Ex.ps]
    rfl
  | num x =>
    refine if_eq rfl (fun z => absurd z (by show ("num" : Str) ≠ "op"; decide +kernel)) (fun _ => ?_)
    have gx : x ∈ NUMS := by cases m <;> exact ge
    refine if_in3 rfl (fun z => absurd z (by show inV (.str "num") [.str "not", .str "box", .str "unbox"] ≠ true; decide +kernel)) (fun _ H2' s2' => ?_)
    refine if_in3 rfl (fun z => absurd z (by show inV (.str "num") [.str "ref", .str "mut", .str "deref"] ≠ true; decide +kernel)) (fun _ H2 s2 => ?_)
    refine if_eq rfl (fun z => absurd z (by show ("num" : Str) ≠ "field"; decide +kernel)) (fun _ => ?_)
    refine if_eq rfl (fun z => absurd z (by show ("num" : Str) ≠ "index"; decide +kernel)) (fun _ => ?_)
    refine if_eq rfl (fun z => absurd z (by show ("num" : Str) ≠ "call"; decide +kernel)) (fun _ => ?_)
    refine if_eq rfl (fun z => absurd z (by show ("num" : Str) ≠ "len"; decide +kernel)) (fun _ => ?_)
    refine if_eq rfl (fun z => absurd z (by show ("num" : Str) ≠ "vec"; decide +kernel)) (fun _ => ?_)
    obtain ⟨v0, vx, ha, d0, dx⟩ := dt2i (dt_keep (same_kt (s2'.trans s2)) de)
    obtain rfl := dt_int_inv dx
    intro d hd
    refine ⟨upd_same, boK, rfl, by decide, ?_⟩
    rw [upd_upd]
    have s3 := same_new hd (.dK (mergeK [] boK))
    have es : strOf (.int (x : Nat)) = some (numS x) := if_pos (num_log x gx)
    refine ⟨d, rfl, .inl ⟨_, .inl upd_same⟩, _, rfl, a, _, 1, _, rfl, rfl, (same_kt s3).sqT ha, at1, _, _, rfl, es, _, rfl, a, _, 1, _, rfl, rfl, (same_kt s3).sqT ha, at1, _, _, rfl, es, _, DGet.k (k := .inr (numS x)) upd_same, ?_⟩
    rw [bo_num x gx]
    refine hU _ _ ⟨_, _, _, rfl, (s1.trans (s2'.trans s2)).trans s3, ?_⟩
    rw [Ex.ps, render_cons, render_nil, List.append_nil]
    rfl
  | name x =>
    refine if_eq rfl (fun z => absurd z (by show ("name" : Str) ≠ "op"; decide +kernel)) (fun _ => ?_)
    have gx : x ∈ NAMES := by cases m <;> exact ge
    refine if_in3 rfl (fun z => absurd z (by show inV (.str "name") [.str "not", .str "box", .str "unbox"] ≠ true; decide +kernel)) (fun _ H2' s2' => ?_)
    refine if_in3 rfl (fun z => absurd z (by show inV (.str "name") [.str "ref", .str "mut", .str "deref"] ≠ true; decide +kernel)) (fun _ H2 s2 => ?_)
    refine if_eq rfl (fun z => absurd z (by show ("name" : Str) ≠ "field"; decide +kernel)) (fun _ => ?_)
    refine if_eq rfl (fun z => absurd z (by show ("name" : Str) ≠ "index"; decide +kernel)) (fun _ => ?_)
    refine if_eq rfl (fun z => absurd z (by show ("name" : Str) ≠ "call"; decide +kernel)) (fun _ => ?_)
    refine if_eq rfl (fun z => absurd z (by show ("name" : Str) ≠ "len"; decide +kernel)) (fun _ => ?_)
    refine if_eq rfl (fun z => absurd z (by show ("name" : Str) ≠ "vec"; decide +kernel)) (fun _ => ?_)
    obtain ⟨v0, vx, ha, d0, dx⟩ := dt2i (dt_keep (same_kt (s2'.trans s2)) de)
    obtain rfl := dt_str_inv dx
    intro d hd
    refine ⟨upd_same, boK, rfl, by decide, ?_⟩
    rw [upd_upd]
    have s3 := same_new hd (.dK (mergeK [] boK))
    refine ⟨d, rfl, .inl ⟨_, .inl upd_same⟩, _, rfl, a, _, 1, _, rfl, rfl, (same_kt s3).sqT ha, at1, _, _, rfl, rfl, _, rfl, a, _, 1, _, rfl, rfl, (same_kt s3).sqT ha, at1, _, _, rfl, rfl, _, DGet.k (k := .inr x) upd_same, ?_⟩
    rw [bo_name x gx]
    refine hU _ _ ⟨_, _, _, rfl, (s1.trans (s2'.trans s2)).trans s3, ?_⟩
    rw [Ex.ps]
    exact tl_name x
  | truth b =>
    refine if_eq rfl (fun z => absurd z (by show ("truth" : Str) ≠ "op"; decide +kernel)) (fun _ => ?_)
    refine if_in3 rfl (fun z => absurd z (by show inV (.str "truth") [.str "not", .str "box", .str "unbox"] ≠ true; decide +kernel)) (fun _ H2' s2' => ?_)
    refine if_in3 rfl (fun z => absurd z (by show inV (.str "truth") [.str "ref", .str "mut", .str "deref"] ≠ true; decide +kernel)) (fun _ H2 s2 => ?_)
    refine if_eq rfl (fun z => absurd z (by show ("truth" : Str) ≠ "field"; decide +kernel)) (fun _ => ?_)
    refine if_eq rfl (fun z => absurd z (by show ("truth" : Str) ≠ "index"; decide +kernel)) (fun _ => ?_)
    refine if_eq rfl (fun z => absurd z (by show ("truth" : Str) ≠ "call"; decide +kernel)) (fun _ => ?_)
    refine if_eq rfl (fun z => absurd z (by show ("truth" : Str) ≠ "len"; decide +kernel)) (fun _ => ?_)
    refine if_eq rfl (fun z => absurd z (by show ("truth" : Str) ≠ "vec"; decide +kernel)) (fun _ => ?_)
    obtain ⟨v0, vx, ha, d0, dx⟩ := dt2i (dt_keep (same_kt (s2'.trans s2)) de)
    obtain rfl := dt_bool_inv dx
    intro d hd
    refine ⟨upd_same, boK, rfl, by decide, ?_⟩
    rw [upd_upd]
    have s3 := same_new hd (.dK (mergeK [] boK))
    refine ⟨d, rfl, .inl ⟨_, .inl upd_same⟩, _, rfl, a, _, 1, _, rfl, rfl, (same_kt s3).sqT ha, at1, _, _, rfl, rfl, _, rfl, a, _, 1, _, rfl, rfl, (same_kt s3).sqT ha, at1, _, _, rfl, rfl, _, DGet.k (k := .inr (if b then "True" else "False" : Str)) upd_same, ?_⟩
    rw [bo_bool b]
    refine hU _ _ ⟨_, _, _, rfl, (s1.trans (s2'.trans s2)).trans s3, ?_⟩
    rw [Ex.ps]
    exact tl_sym _
/-- the text of expressions, of places -/
theorem tx_ok (T : Tx K mg) : ∀ n, n ≤ 5 → FnOk P w K mg base CX0 (2 * n + 7) (a_law_text K) (fdOf K d_law_text) ["_law_tree", "_law_needed"] (spTx K n)
  | 0, _ => by
    have no : ∀ vs H Q E, ¬ spTx K 0 vs H Q E := fun vs H Q E z => by
      obtain ⟨v, e, m, k, hm, _⟩ := z
      exact absurd hm (Nat.not_lt_zero m)
    exact ⟨fun vs H Q E h => absurd h (no vs H Q E), fun A outer s H args us vs Q E _ _ _ _ h => absurd h (no vs H Q E)⟩
  | n + 1, hn => by
    have G := tx_ok T n (by omega)
    exact ok_text T n (by omega) (k := 2 * n + 8) (by omega) (G.mono (Nat.le_succ _)) (ok_near T n G)
end
end Ko
end
section
set_option Elab.async false
set_option linter.all false
set_option maxRecDepth 100000
set_option maxHeartbeats 4000000
/-! The one form of statements, declarations, programs: rows of pieces -/
namespace Ko
open PySem PySem.Spec PyProof.Rows L2
def nmsP (xs : List Str) : List Pc := joinP cs2 (xs.map fun x => [nmP x])
/-- a statement of one row -/
def St.row : St → List Pc
  | .letS w k e => sg .kLet :: .sp :: nmP w :: sg .colon :: .sp :: (k.ps ++ (.sp :: sg .eq :: .sp :: (e.ps ++ [sg .semi])))
  | .openS e xs => sg .kOpen :: .sp :: (e.ps ++ (.sp :: sg .kAs :: .sp :: sg .lpar :: (nmsP xs ++ [sg .rpar, sg .semi])))
  | .showS e => sg .kShow :: .sp :: (e.ps ++ [sg .semi])
  | .pushS p e => sg .kPush :: sg .lpar :: (p.ps ++ (sg .comma :: .sp :: (e.ps ++ [sg .rpar, sg .semi])))
  | .takeS p w => sg .kTake :: sg .lpar :: (p.ps ++ [sg .rpar, .sp, sg .kAs, .sp, nmP w, sg .semi])
  | .doS e => e.ps ++ [sg .semi]
  | .setS p e => p.ps ++ (.sp :: sg .eq :: .sp :: (e.ps ++ [sg .semi]))
  | _ => []
def ind (i : Nat) : List Pc := List.replicate i .sp
def How.ps : How → List Pc
  | .move => []
  | .ref => [sg .kRef, .sp]
  | .mut => [sg .kMut, .sp]
def listedP (xs : List Str) : List Pc := if xs.isEmpty = true then [] else sg .lpar :: (nmsP xs ++ [sg .rpar])
mutual
def St.rows (i : Nat) : St → List (List Pc)
  | .ifS e a b => (ind i ++ (sg .kIf :: .sp :: (e.ps ++ [.sp, sg .lbrace]))) :: (St.rws (i + 2) a ++ ((if b.isEmpty = true then [] else (ind i ++ [sg .rbrace, .sp, sg .kElse, .sp, sg .lbrace]) :: St.rws (i + 2) b) ++ [ind i ++ [sg .rbrace]]))
  | .whileS e a => (ind i ++ (sg .kWhile :: .sp :: (e.ps ++ [.sp, sg .lbrace]))) :: (St.rws (i + 2) a ++ [ind i ++ [sg .rbrace]])
  | .parS a b => (ind i ++ [sg .kPar, .sp, sg .lbrace]) :: (St.rws (i + 2) a ++ ((ind i ++ [sg .rbrace, .sp, sg .lbrace]) :: (St.rws (i + 2) b ++ [ind i ++ [sg .rbrace]])))
  | .matchS h p cs => (ind i ++ (sg .kMatch :: .sp :: (h.ps ++ (p.ps ++ [.sp, sg .lbrace])))) :: (Cs.rws i cs ++ [ind i ++ [sg .rbrace]])
  | .letS w k e => [ind i ++ (St.letS w k e).row]
  | .openS e xs => [ind i ++ (St.openS e xs).row]
  | .showS e => [ind i ++ (St.showS e).row]
  | .pushS p e => [ind i ++ (St.pushS p e).row]
  | .takeS p w => [ind i ++ (St.takeS p w).row]
  | .doS e => [ind i ++ (St.doS e).row]
  | .setS p e => [ind i ++ (St.setS p e).row]
def Cs.rows (i : Nat) : Cs → List (List Pc)
  | .mk t xs b => (ind (i + 2) ++ (nmP t :: (listedP xs ++ [.sp, sg .lbrace]))) :: (St.rws (i + 4) b ++ [ind (i + 2) ++ [sg .rbrace]])
def St.rws (i : Nat) : List St → List (List Pc)
  | [] => []
  | s :: ss => s.rows i ++ St.rws i ss
def Cs.rws (i : Nat) : List Cs → List (List Pc)
  | [] => []
  | c :: cs => c.rows i ++ Cs.rws i cs
end
theorem rws_app (i : Nat) (a b : List St) : St.rws i (a ++ b) = St.rws i a ++ St.rws i b := by
  induction a with
  | nil => rfl
  | cons x a ih => rw [List.cons_append, St.rws, ih, St.rws, List.append_assoc]
theorem crws_app (i : Nat) (a b : List Cs) : Cs.rws i (a ++ b) = Cs.rws i a ++ Cs.rws i b := by
  induction a with
  | nil => rfl
  | cons x a ih => rw [List.cons_append, Cs.rws, ih, Cs.rws, List.append_assoc]
def pairPs (p : Str × Kd) : List Pc := nmP p.1 :: sg .colon :: .sp :: p.2.ps
def pairsPs (ps : List (Str × Kd)) : List Pc := joinP cs2 (ps.map pairPs)
def tagPs (t : Str × List Kd) : List Pc := nmP t.1 :: (if t.2.isEmpty = true then [] else sg .lpar :: (joinP cs2 (t.2.map Kd.ps) ++ [sg .rpar]))
def recPs (r : Str × List (Str × Kd)) : List Pc := sg .kRecord :: .sp :: nmP r.1 :: .sp :: sg .lbrace :: .sp :: (pairsPs r.2 ++ [.sp, sg .rbrace])
def varPs (v : Str × List (Str × List Kd)) : List Pc := sg .kVariant :: .sp :: nmP v.1 :: .sp :: sg .lbrace :: .sp :: (joinP cs2 (v.2.map tagPs) ++ [.sp, sg .rbrace])
def fromPs (xs : List Str) : List Pc := if xs.isEmpty = true then [] else .sp :: sg .kFrom :: .sp :: nmsP xs
def fnHead (f : Fn) : List Pc := sg .kFn :: .sp :: nmP f.name :: sg .lpar :: (pairsPs f.params ++ (sg .rpar :: .sp :: sg .arrow :: .sp :: (f.kind.ps ++ (fromPs f.lent ++ [.sp, sg .lbrace]))))
def fnRows (f : Fn) : List (List Pc) := fnHead f :: (St.rws 2 f.body ++ [ind 2 ++ (sg .kReturn :: .sp :: (f.result.ps ++ [sg .semi])), [sg .rbrace]])
def prRows (p : Pr) : List (List Pc) := p.recs.map recPs ++ (p.vars.map varPs ++ (p.fns.map fnRows).flatten)
/-! ### bounds -/
theorem pair_len {p : Str × Kd} (h : p.1 ∈ NAMES ∧ GK 2 p.2) : rl (pairPs p) ≤ 40 := by
  have h1 := kd_len 2 p.2 h.2
  have h2 := name_len h.1
  have h3 := sym_len .colon
  rw [pairPs, rl_cons, rl_cons, rl_cons, sp_len]
  omega
theorem pairs_len {lo hi : Nat} {ps : List (Str × Kd)} (h : GPs lo hi ps) (hh : hi ≤ 3) : rl (pairsPs ps) ≤ 150 := by
  have h1 := join_len (sep := cs2) (s := 8) (b := 40) (by decide +kernel) (ps.map pairPs) (fun x hx => by
    obtain ⟨y, hy, rfl⟩ := List.mem_map.mp hx
    exact pair_len (h.2.2 y hy))
  rw [List.length_map] at h1
  have : ps.length * (40 + 8) ≤ 3 * (40 + 8) := Nat.mul_le_mul_right _ (by have := h.2.1; omega)
  show rl (joinP _ _) ≤ _
  omega
theorem kinds_len {t : Str × List Kd} (h : GT t) : rl (joinP cs2 (t.2.map Kd.ps)) ≤ 60 := by
  have h1 := join_len (sep := cs2) (s := 8) (b := 16) (by decide +kernel) (t.2.map Kd.ps) (fun x hx => by
    obtain ⟨y, hy, rfl⟩ := List.mem_map.mp hx
    exact kd_len 1 y (h.2.2 y hy))
  rw [List.length_map] at h1
  have : t.2.length * (16 + 8) ≤ 2 * (16 + 8) := Nat.mul_le_mul_right _ h.2.1
  omega
theorem tag_len {t : Str × List Kd} (h : GT t) : rl (tagPs t) ≤ 80 := by
  have h1 := kinds_len h
  have h2 := name_len h.1
  have h3 := sym_len .lpar
  have h4 := sym_len .rpar
  rw [tagPs, rl_cons]
  split
  · rw [rl_nil]; omega
  · rw [rl_cons, rl_app, rl_cons, rl_nil]; omega
theorem tags_len {ts : List (Str × List Kd)} (h : ts.length ≤ 3) (g : ∀ t ∈ ts, GT t) : rl (joinP cs2 (ts.map tagPs)) ≤ 300 := by
  have h1 := join_len (sep := cs2) (s := 8) (b := 80) (by decide +kernel) (ts.map tagPs) (fun x hx => by
    obtain ⟨y, hy, rfl⟩ := List.mem_map.mp hx
    exact tag_len (g y hy))
  rw [List.length_map] at h1
  have : ts.length * (80 + 8) ≤ 3 * (80 + 8) := Nat.mul_le_mul_right _ h
  omega
theorem nms_len {lo hi : Nat} {xs : List Str} (h : GN lo hi xs) (hh : hi ≤ 3) : rl (nmsP xs) ≤ 39 := by
  have h1 := join_len (sep := cs2) (s := 8) (b := 5) (by decide +kernel) (xs.map fun x => [nmP x]) (fun x hx => by
    obtain ⟨y, hy, rfl⟩ := List.mem_map.mp hx
    rw [rl_cons, rl_nil]
    exact name_len (h.2.2 y hy))
  rw [List.length_map] at h1
  have : xs.length * (5 + 8) ≤ 3 * (5 + 8) := Nat.mul_le_mul_right _ (by have := h.2.1; omega)
  show rl (joinP _ _) ≤ _
  omega
theorem ind_rl (i : Nat) : rl (ind i) = i := by
  induction i with
  | zero => rfl
  | succ i ih =>
    show rl (.sp :: ind i) = _
    rw [rl_cons, ih, sp_len]
    omega
theorem ex2_len {e : Ex} (h : GE 2 e) : rl e.ps ≤ 1600 := ex_len 2 e h
theorem ex1_len {e : Ex} (h : GE 1 e) : rl e.ps ≤ 400 := ex_len 1 e h
theorem ex3_len {e : Ex} (h : GE 3 e) : rl e.ps ≤ 6400 := ex_len 3 e h
/-- how many rows -/
def SB : Nat → Nat
  | 0 => 1
  | n + 1 => 6 * SB n + 6
theorem SB_pos (n : Nat) : 1 ≤ SB n := by cases n <;> simp [SB]
theorem rows_cnt : ∀ n, (∀ i s, GS n s → (s.rows i).length ≤ SB n) ∧ (∀ i b, (∀ s ∈ b, GS n s) → (St.rws i b).length ≤ b.length * SB n) := by
  have blk : ∀ n, (∀ i s, GS n s → (s.rows i).length ≤ SB n) → ∀ i b, (∀ s ∈ b, GS n s) → (St.rws i b).length ≤ b.length * SB n := by
    intro n h i b hb
    induction b with
    | nil => simp [St.rws]
    | cons s b ih =>
      have h1 := h i s (hb s (by simp))
      have h2 := ih fun t ht => hb t (by simp [ht])
      rw [St.rws, List.length_append, List.length_cons, Nat.succ_mul]
      omega
  intro n
  induction n with
  | zero =>
    have h0 : ∀ i s, GS 0 s → (s.rows i).length ≤ SB 0 := by
      intro i s g
      cases s <;> first | exact g.elim | (simp [St.rows, SB])
    exact ⟨h0, blk 0 h0⟩
  | succ n ih =>
    have h0 : ∀ i s, GS (n + 1) s → (s.rows i).length ≤ SB (n + 1) := by
      intro i s g
      have hp := SB_pos n
      cases s with
      | ifS e a b =>
        have h1 := ih.2 (i + 2) a g.2.1.2
        have h2 := ih.2 (i + 2) b g.2.2.2
        have h3 : a.length * SB n ≤ 3 * SB n := Nat.mul_le_mul_right _ g.2.1.1
        have h4 : b.length * SB n ≤ 3 * SB n := Nat.mul_le_mul_right _ g.2.2.1
        show _ ≤ 6 * SB n + 6
        rw [St.rows, List.length_cons, List.length_append, List.length_append]
        split
        · simp only [List.length_cons, List.length_nil]; omega
        · simp only [List.length_cons, List.length_nil]; omega
      | whileS e a =>
        have h1 := ih.2 (i + 2) a g.2.2
        have h3 : a.length * SB n ≤ 3 * SB n := Nat.mul_le_mul_right _ g.2.1
        show _ ≤ 6 * SB n + 6
        simp only [St.rows, List.length_cons, List.length_append, List.length_nil]
        omega
      | parS a b =>
        have h1 := ih.2 (i + 2) a g.1.2
        have h2 := ih.2 (i + 2) b g.2.2
        have h3 : a.length * SB n ≤ 3 * SB n := Nat.mul_le_mul_right _ g.1.1
        have h4 : b.length * SB n ≤ 3 * SB n := Nat.mul_le_mul_right _ g.2.1
        show _ ≤ 6 * SB n + 6
        simp only [St.rows, List.length_cons, List.length_append, List.length_nil]
        omega
      | matchS h p cs =>
        have hc : ∀ cs : List Cs, (∀ t xs b, Cs.mk t xs b ∈ cs → t ∈ NAMES ∧ GN 0 2 xs ∧ (b.length ≤ 3 ∧ ∀ s ∈ b, GS n s)) → (Cs.rws i cs).length ≤ cs.length * (3 * SB n + 2) := by
          intro cs hcs
          induction cs with
          | nil => simp [Cs.rws]
          | cons c cs ihc =>
            cases c with
            | mk t xs b =>
              have g1 := hcs t xs b (by simp)
              have h1 := ih.2 (i + 4) b g1.2.2.2
              have h3 : b.length * SB n ≤ 3 * SB n := Nat.mul_le_mul_right _ g1.2.2.1
              have h2 := ihc fun t xs b hb => hcs t xs b (by simp [hb])
              rw [Cs.rws, Cs.rows, List.length_append, List.length_cons, List.length_append, List.length_cons, List.length_cons, List.length_nil, Nat.succ_mul]
              omega
        have h1 := hc cs g.2.2.2
        have h2 : cs.length * (3 * SB n + 2) ≤ 2 * (3 * SB n + 2) := Nat.mul_le_mul_right _ g.2.2.1
        show _ ≤ 6 * SB n + 6
        simp only [St.rows, List.length_cons, List.length_append, List.length_nil]
        omega
      | _ => simp [St.rows, SB] <;> omega
    exact ⟨h0, blk _ h0⟩
end Ko
end
section
set_option Elab.async false
set_option linter.all false
set_option maxRecDepth 100000
set_option maxHeartbeats 4000000
/-! The law's row of a statement, tags, pairs -/
namespace Ko
open PySem PySem.Spec PyProof.Rows L2
section
variable {P : Program} {w : World} {K : PySem.W.Frag} {mg : Str → Option Value} {base : Heap}
theorem nms_map (xs : List Str) : xs.map TL.tl = (xs.map fun x => [nmP x]).map render := by
  rw [List.map_map]
  exact List.map_congr_left fun x _ => tl_name x
theorem nms_join {xs : List Str} : TL.tl (Txt.join ", " xs) = render (nmsP xs) := tx_join cs_t (nms_map xs)
theorem nms_size {lo hi : Nat} {xs : List Str} (h : GN lo hi xs) (hh : hi ≤ 3) : (xs.map (·.length)).sum + xs.length * (", " : Str).length ≤ 16777216 := by
  have h1 := sum_le (b := 5) xs (fun z hz => by rw [TL.len_tl]; exact name_len (h.2.2 z hz))
  have h2 : (", " : Str).length = 2 := by decide +kernel
  have h3 : xs.length * 5 ≤ 3 * 5 := Nat.mul_le_mul_right _ (by have := h.2.1; omega)
  have := h.2.1
  rw [h2]
  omega
def spRow (K : PySem.W.Frag) : Sp := fun vs H Q _ => ∃ v s, vs = [v] ∧ GS 0 s ∧ Dt K H v (St.d s) ∧ TxQ s.row H Q
theorem ok_row (T : Tx K mg) : FnOk P w K mg base CX0 14 (a_law_row K) (fdOf K d_law_row) ["_law_tree"] (spRow K) := by
  have G_law_text := tx_ok (P := P) (w := w) (base := base) T 3 (by decide)
  have G_law_kind_text := kt_ok (P := P) (w := w) (base := base) T 3 (by decide)
  refine (F_law_row T).ok sc_law_row (fun vs H Q E h => ?_) (fun cdv A0 outer s0 H vs Q E hr h => ?_)
  · obtain ⟨v, s, rfl, _⟩ := h
    rfl
  obtain ⟨v, s, rfl, gs, ds, q⟩ := h
  refine ⟨_, PSs.nox (pss_cons (ps_set (i := 1) sc_law_row.nd rfl (Or.inl rfl) (pe_ix ix_tup (pv 0) pe_int (fun _ _ => rfl))) (pss_cons (ps_if (pt_cmpR op_eq (pv 1) pe_str (nomark _)) (pss_one (ps_ret (pe_op op_add_str (pe_op op_add_str (pe_op op_add_str (pe_op op_add_str (pe_op op_add_str (pe_op op_add_str pe_str (pe_ix ix_tup (pv 0) pe_int (fun _ _ => rfl))) pe_str) (pe_call G_law_kind_text (hr.mono (by omega)) rfl (m_law_kind_text T) (F_law_kind_text T).kp (B_law_kind_text T) .nil pass0 (pa_cons (pe_ix ix_tup (pv 0) pe_int (fun _ _ => rfl)) pa_nil))) pe_str) (pe_call G_law_text (hr.mono (by omega)) rfl (m_law_text T) (F_law_text T).kp (B_law_text T) .nil pass0 (pa_cons (pe_ix ix_tup (pv 0) pe_int (fun _ _ => rfl)) (pa_cons pe_int pa_nil)))) pe_str))) pss_nil) (pss_cons (ps_if (pt_cmpR op_eq (pv 1) pe_str (nomark _)) (pss_one (ps_ret (pe_op op_add_str (pe_op op_add_str (pe_op op_add_str (pe_op op_add_str pe_str (pe_call G_law_text (hr.mono (by omega)) rfl (m_law_text T) (F_law_text T).kp (B_law_text T) .nil pass0 (pa_cons (pe_ix ix_tup (pv 0) pe_int (fun _ _ => rfl)) (pa_cons pe_int pa_nil)))) pe_str) (pe_join pe_str (pe_callTy call_list_of (by rfl) (z_list T) (by decide +kernel) (pa_cons (pe_ix ix_tup (pv 0) pe_int (fun _ _ => rfl)) pa_nil)))) pe_str))) pss_nil) (pss_cons (ps_if (pt_cmpR op_eq (pv 1) pe_str (nomark _)) (pss_one (ps_ret (pe_op op_add_str (pe_op op_add_str pe_str (pe_call G_law_text (hr.mono (by omega)) rfl (m_law_text T) (F_law_text T).kp (B_law_text T) .nil pass0 (pa_cons (pe_ix ix_tup (pv 0) pe_int (fun _ _ => rfl)) (pa_cons pe_int pa_nil)))) pe_str))) pss_nil) (pss_cons (ps_if (pt_cmpR op_eq (pv 1) pe_str (nomark _)) (pss_one (ps_ret (pe_op op_add_str (pe_op op_add_str (pe_op op_add_str (pe_op op_add_str pe_str (pe_call G_law_text (hr.mono (by omega)) rfl (m_law_text T) (F_law_text T).kp (B_law_text T) .nil pass0 (pa_cons (pe_ix ix_tup (pv 0) pe_int (fun _ _ => rfl)) (pa_cons pe_int pa_nil)))) pe_str) (pe_call G_law_text (hr.mono (by omega)) rfl (m_law_text T) (F_law_text T).kp (B_law_text T) .nil pass0 (pa_cons (pe_ix ix_tup (pv 0) pe_int (fun _ _ => rfl)) (pa_cons pe_int pa_nil)))) pe_str))) pss_nil) (pss_cons (ps_if (pt_cmpR op_eq (pv 1) pe_str (nomark _)) (pss_one (ps_ret (pe_op op_add_str (pe_op op_add_str (pe_op op_add_str (pe_op op_add_str pe_str (pe_call G_law_text (hr.mono (by omega)) rfl (m_law_text T) (F_law_text T).kp (B_law_text T) .nil pass0 (pa_cons (pe_ix ix_tup (pv 0) pe_int (fun _ _ => rfl)) (pa_cons pe_int pa_nil)))) pe_str) (pe_ix ix_tup (pv 0) pe_int (fun _ _ => rfl))) pe_str))) pss_nil) (pss_cons (ps_if (pt_cmpR op_eq (pv 1) pe_str (nomark _)) (pss_one (ps_ret (pe_op op_add_str (pe_call G_law_text (hr.mono (by omega)) rfl (m_law_text T) (F_law_text T).kp (B_law_text T) .nil pass0 (pa_cons (pe_ix ix_tup (pv 0) pe_int (fun _ _ => rfl)) (pa_cons pe_int pa_nil))) pe_str))) pss_nil) (pss_one (ps_ret (pe_op op_add_str (pe_op op_add_str (pe_op op_add_str (pe_call G_law_text (hr.mono (by omega)) rfl (m_law_text T) (F_law_text T).kp (B_law_text T) .nil pass0 (pa_cons (pe_ix ix_tup (pv 0) pe_int (fun _ _ => rfl)) (pa_cons pe_int pa_nil))) pe_str) (pe_call G_law_text (hr.mono (by omega)) rfl (m_law_text T) (F_law_text T).kp (B_law_text T) .nil pass0 (pa_cons (pe_ix ix_tup (pv 0) pe_int (fun _ _ => rfl)) (pa_cons pe_int pa_nil)))) pe_str)))))))))), ?_⟩
  have l1 := rl1 .semi
  have l2 := rl1 .rpar
  cases s with
  | letS x k e =>
    have lk := kd_len 2 k gs.2.1
    have le := pn_len (k := 0) (show 2 ≤ 4 by omega) gs.2.2
    have ln := rl1n gs.1
    obtain ⟨a, _, rfl, _, _⟩ := dt_tup_inv ds
    obtain ⟨v0, v1, v2, v3, ha, d0, d1, d2, d3⟩ := dt4i ds
    obtain rfl := dt_str_inv d0
    obtain rfl := dt_str_inv d1
    refine ⟨_, rfl, a, _, 0, _, rfl, rfl, ha, at0, ?_⟩
    dsimp only [gName, tSeq]
    refine if_eq rfl (fun _ => ?_) (fun z => absurd rfl z)
    have e0 : TL.tl ("let " : Str) = render [sg .kLet, .sp] := by decide +kernel
    have n0 : rl [sg .kLet, .sp] = 4 := by decide +kernel
    have e2 : TL.tl (": " : Str) = render [sg .colon, .sp] := by decide +kernel
    have n2 : rl [sg .colon, .sp] = 2 := by decide +kernel
    have e4 : TL.tl (" = " : Str) = render [.sp, sg .eq, .sp] := by decide +kernel
    have n4 : rl [.sp, sg .eq, .sp] = 3 := by decide +kernel
    have t1 := adt e0 (tl_name x)
    have t2 := adt t1 e2
    refine ⟨_, rfl, a, _, 1, _, rfl, rfl, ha, at1, _, _, rfl, rfl, addl e0 (tl_name x) (by omega), _, _, rfl, rfl, addl t1 e2 (by rw [rl_app]; omega), _, rfl, a, _, 2, _, rfl, rfl, ha, at2, v2, k, 2, by decide, rfl, gs.2.1, d2, fun z3 H3 s3 e3 => ?_⟩
    have t3 := adt t2 e3
    have t4 := adt t3 e4
    refine ⟨_, _, rfl, rfl, addl t2 e3 (by rw [rl_app, rl_app]; omega), _, _, rfl, rfl, addl t3 e4 (by rw [rl_app, rl_app, rl_app]; omega), _, rfl, a, _, 3, _, rfl, rfl, (same_kt s3).sqT ha, at3, v3, e, 2, 0, by decide, rfl, by decide, gs.2.2, dt_keep (same_kt s3) d3, fun z5 H5 s5 e5 => ?_⟩
    have t5 := adt t4 e5
    refine ⟨_, _, rfl, rfl, addl t4 e5 (by rw [rl_app, rl_app, rl_app, rl_app]; omega), _, _, rfl, rfl, addl t5 (tl_sym .semi) (by rw [rl_app, rl_app, rl_app, rl_app, rl_app]; omega), q _ _ (s3.trans s5) ?_⟩
    show TL.tl (("let " : Str) ++ x ++ (": " : Str) ++ z3 ++ (" = " : Str) ++ z5 ++ Sym.semi.txt) = _
    rw [adt t5 (tl_sym .semi)]
    simp [St.row, Ex.pn, wr]
  | openS e xs =>
    have le := pn_len (k := 0) (show 2 ≤ 4 by omega) gs.1
    have ln := nms_len gs.2 (by decide)
    obtain ⟨a, _, rfl, _, _⟩ := dt_tup_inv ds
    obtain ⟨v0, v1, v2, ha, d0, d1, d2⟩ := dt3i ds
    obtain rfl := dt_str_inv d0
    obtain ⟨ax, ys, rfl, hax, hys⟩ := dt_tup_inv d2
    obtain rfl := strs_inv hys
    refine ⟨_, rfl, a, _, 0, _, rfl, rfl, ha, at0, ?_⟩
    dsimp only [gName, tSeq]
    refine if_eq rfl (fun z => absurd z (by show ("open" : Str) ≠ "let"; decide +kernel)) (fun _ => ?_)
    refine if_eq rfl (fun _ => ?_) (fun z => absurd rfl z)
    have e0 : TL.tl ("open " : Str) = render [sg .kOpen, .sp] := by decide +kernel
    have n0 : rl [sg .kOpen, .sp] = 5 := by decide +kernel
    have e2 : TL.tl (" as (" : Str) = render [.sp, sg .kAs, .sp, sg .lpar] := by decide +kernel
    have n2 : rl [.sp, sg .kAs, .sp, sg .lpar] = 5 := by decide +kernel
    have e4 : TL.tl (");" : Str) = render [sg .rpar, sg .semi] := by decide +kernel
    have n4 : rl [sg .rpar, sg .semi] = 2 := by decide +kernel
    refine ⟨_, rfl, a, _, 1, _, rfl, rfl, ha, at1, v1, e, 2, 0, by decide, rfl, by decide, gs.1, d1, fun z1 H1 s1 e1 => ?_⟩
    have t1 := adt e0 e1
    have t2 := adt t1 e2
    refine ⟨_, _, rfl, rfl, addl e0 e1 (by omega), _, _, rfl, rfl, addl t1 e2 (by rw [rl_app]; omega), ⟨_, rfl⟩, _, rfl, a, _, 2, _, rfl, rfl, (same_kt s1).sqT ha, at2, ax, _, rfl, .inr ((same_kt s1).sqT hax), fun l hl => ?_⟩
    have t3 := adt t2 (nms_join (xs := xs))
    refine ⟨_, l, xs, rfl, rfl, .inl (SqL.of upd_same), nms_size gs.2 (by decide), _, _, rfl, rfl, addl t2 nms_join (by rw [rl_app, rl_app]; omega), _, _, rfl, rfl, addl t3 e4 (by rw [rl_app, rl_app, rl_app]; omega), q _ _ (s1.trans (same_new hl _)) ?_⟩
    rw [adt t3 e4]
    simp [St.row, Ex.pn, wr]
  | showS e =>
    have le := pn_len (k := 0) (show 2 ≤ 4 by omega) gs
    obtain ⟨a, _, rfl, _, _⟩ := dt_tup_inv ds
    obtain ⟨v0, v1, ha, d0, d1⟩ := dt2i ds
    obtain rfl := dt_str_inv d0
    refine ⟨_, rfl, a, _, 0, _, rfl, rfl, ha, at0, ?_⟩
    dsimp only [gName, tSeq]
    refine if_eq rfl (fun z => absurd z (by show ("show" : Str) ≠ "let"; decide +kernel)) (fun _ => ?_)
    refine if_eq rfl (fun z => absurd z (by show ("show" : Str) ≠ "open"; decide +kernel)) (fun _ => ?_)
    refine if_eq rfl (fun _ => ?_) (fun z => absurd rfl z)
    have e0 : TL.tl ("show " : Str) = render [sg .kShow, .sp] := by decide +kernel
    have n0 : rl [sg .kShow, .sp] = 5 := by decide +kernel
    refine ⟨_, rfl, a, _, 1, _, rfl, rfl, ha, at1, v1, e, 2, 0, by decide, rfl, by decide, gs, d1, fun z1 H1 s1 e1 => ?_⟩
    have t1 := adt e0 e1
    refine ⟨_, _, rfl, rfl, addl e0 e1 (by omega), _, _, rfl, rfl, addl t1 (tl_sym .semi) (by rw [rl_app]; omega), q _ _ s1 ?_⟩
    show TL.tl (("show " : Str) ++ z1 ++ Sym.semi.txt) = _
    rw [adt t1 (tl_sym .semi)]
    simp [St.row, Ex.pn, wr]
  | pushS p e =>
    have lp := pn_len (k := 0) (show 2 ≤ 4 by omega) gs.2.1
    have le := pn_len (k := 0) (show 2 ≤ 4 by omega) gs.2.2
    obtain ⟨a, _, rfl, _, _⟩ := dt_tup_inv ds
    obtain ⟨v0, v1, v2, ha, d0, d1, d2⟩ := dt3i ds
    obtain rfl := dt_str_inv d0
    refine ⟨_, rfl, a, _, 0, _, rfl, rfl, ha, at0, ?_⟩
    dsimp only [gName, tSeq]
    refine if_eq rfl (fun z => absurd z (by show ("push" : Str) ≠ "let"; decide +kernel)) (fun _ => ?_)
    refine if_eq rfl (fun z => absurd z (by show ("push" : Str) ≠ "open"; decide +kernel)) (fun _ => ?_)
    refine if_eq rfl (fun z => absurd z (by show ("push" : Str) ≠ "show"; decide +kernel)) (fun _ => ?_)
    refine if_eq rfl (fun _ => ?_) (fun z => absurd rfl z)
    have e0 : TL.tl ("push(" : Str) = render [sg .kPush, sg .lpar] := by decide +kernel
    have n0 : rl [sg .kPush, sg .lpar] = 5 := by decide +kernel
    have nc : rl cs2 = 2 := by decide +kernel
    have e4 : TL.tl (");" : Str) = render [sg .rpar, sg .semi] := by decide +kernel
    have n4 : rl [sg .rpar, sg .semi] = 2 := by decide +kernel
    refine ⟨_, rfl, a, _, 1, _, rfl, rfl, ha, at1, v1, p, 2, 0, by decide, rfl, by decide, gs.2.1, d1, fun z1 H1 s1 e1 => ?_⟩
    have t1 := adt e0 e1
    have t2 := adt t1 cs_t
    refine ⟨_, _, rfl, rfl, addl e0 e1 (by omega), _, _, rfl, rfl, addl t1 cs_t (by rw [rl_app]; omega), _, rfl, a, _, 2, _, rfl, rfl, (same_kt s1).sqT ha, at2, v2, e, 2, 0, by decide, rfl, by decide, gs.2.2, dt_keep (same_kt s1) d2, fun z3 H3 s3 e3 => ?_⟩
    have t3 := adt t2 e3
    refine ⟨_, _, rfl, rfl, addl t2 e3 (by rw [rl_app, rl_app]; omega), _, _, rfl, rfl, addl t3 e4 (by rw [rl_app, rl_app, rl_app]; omega), q _ _ (s1.trans s3) ?_⟩
    rw [adt t3 e4]
    simp [St.row, Ex.pn, wr]
  | takeS p x =>
    have lp := pn_len (k := 0) (show 2 ≤ 4 by omega) gs.2.1
    have ln := rl1n gs.2.2
    obtain ⟨a, _, rfl, _, _⟩ := dt_tup_inv ds
    obtain ⟨v0, v1, v2, ha, d0, d1, d2⟩ := dt3i ds
    obtain rfl := dt_str_inv d0
    obtain rfl := dt_str_inv d2
    refine ⟨_, rfl, a, _, 0, _, rfl, rfl, ha, at0, ?_⟩
    dsimp only [gName, tSeq]
    refine if_eq rfl (fun z => absurd z (by show ("take" : Str) ≠ "let"; decide +kernel)) (fun _ => ?_)
    refine if_eq rfl (fun z => absurd z (by show ("take" : Str) ≠ "open"; decide +kernel)) (fun _ => ?_)
    refine if_eq rfl (fun z => absurd z (by show ("take" : Str) ≠ "show"; decide +kernel)) (fun _ => ?_)
    refine if_eq rfl (fun z => absurd z (by show ("take" : Str) ≠ "push"; decide +kernel)) (fun _ => ?_)
    refine if_eq rfl (fun _ => ?_) (fun z => absurd rfl z)
    have e0 : TL.tl ("take(" : Str) = render [sg .kTake, sg .lpar] := by decide +kernel
    have n0 : rl [sg .kTake, sg .lpar] = 5 := by decide +kernel
    have e2 : TL.tl (") as " : Str) = render [sg .rpar, .sp, sg .kAs, .sp] := by decide +kernel
    have n2 : rl [sg .rpar, .sp, sg .kAs, .sp] = 5 := by decide +kernel
    refine ⟨_, rfl, a, _, 1, _, rfl, rfl, ha, at1, v1, p, 2, 0, by decide, rfl, by decide, gs.2.1, d1, fun z1 H1 s1 e1 => ?_⟩
    have t1 := adt e0 e1
    have t2 := adt t1 e2
    have t3 := adt t2 (tl_name x)
    refine ⟨_, _, rfl, rfl, addl e0 e1 (by omega), _, _, rfl, rfl, addl t1 e2 (by rw [rl_app]; omega), _, rfl, a, _, 2, _, rfl, rfl, (same_kt s1).sqT ha, at2, _, _, rfl, rfl, addl t2 (tl_name x) (by rw [rl_app, rl_app]; omega), _, _, rfl, rfl, addl t3 (tl_sym .semi) (by rw [rl_app, rl_app, rl_app]; omega), q _ _ s1 ?_⟩
    show TL.tl (("take(" : Str) ++ z1 ++ (") as " : Str) ++ x ++ Sym.semi.txt) = _
    rw [adt t3 (tl_sym .semi)]
    simp [St.row, Ex.pn, wr]
  | doS e =>
    have le := pn_len (k := 0) (show 2 ≤ 4 by omega) gs.2
    obtain ⟨a, _, rfl, _, _⟩ := dt_tup_inv ds
    obtain ⟨v0, v1, ha, d0, d1⟩ := dt2i ds
    obtain rfl := dt_str_inv d0
    refine ⟨_, rfl, a, _, 0, _, rfl, rfl, ha, at0, ?_⟩
    dsimp only [gName, tSeq]
    refine if_eq rfl (fun z => absurd z (by show ("do" : Str) ≠ "let"; decide +kernel)) (fun _ => ?_)
    refine if_eq rfl (fun z => absurd z (by show ("do" : Str) ≠ "open"; decide +kernel)) (fun _ => ?_)
    refine if_eq rfl (fun z => absurd z (by show ("do" : Str) ≠ "show"; decide +kernel)) (fun _ => ?_)
    refine if_eq rfl (fun z => absurd z (by show ("do" : Str) ≠ "push"; decide +kernel)) (fun _ => ?_)
    refine if_eq rfl (fun z => absurd z (by show ("do" : Str) ≠ "take"; decide +kernel)) (fun _ => ?_)
    refine if_eq rfl (fun _ => ?_) (fun z => absurd rfl z)
    refine ⟨_, rfl, a, _, 1, _, rfl, rfl, ha, at1, v1, e, 2, 0, by decide, rfl, by decide, gs.2, d1, fun z1 H1 s1 e1 => ?_⟩
    refine ⟨_, _, rfl, rfl, addl e1 (tl_sym .semi) (by omega), q _ _ s1 ?_⟩
    show TL.tl (z1 ++ Sym.semi.txt) = _
    rw [adt e1 (tl_sym .semi)]
    simp [St.row, Ex.pn, wr]
  | setS p e =>
    have lp := pn_len (k := 0) (show 2 ≤ 4 by omega) gs.2.1
    have le := pn_len (k := 0) (show 2 ≤ 4 by omega) gs.2.2
    obtain ⟨a, _, rfl, _, _⟩ := dt_tup_inv ds
    obtain ⟨v0, v1, v2, ha, d0, d1, d2⟩ := dt3i ds
    obtain rfl := dt_str_inv d0
    refine ⟨_, rfl, a, _, 0, _, rfl, rfl, ha, at0, ?_⟩
    dsimp only [gName, tSeq]
    refine if_eq rfl (fun z => absurd z (by show ("set" : Str) ≠ "let"; decide +kernel)) (fun _ => ?_)
    refine if_eq rfl (fun z => absurd z (by show ("set" : Str) ≠ "open"; decide +kernel)) (fun _ => ?_)
    refine if_eq rfl (fun z => absurd z (by show ("set" : Str) ≠ "show"; decide +kernel)) (fun _ => ?_)
    refine if_eq rfl (fun z => absurd z (by show ("set" : Str) ≠ "push"; decide +kernel)) (fun _ => ?_)
    refine if_eq rfl (fun z => absurd z (by show ("set" : Str) ≠ "take"; decide +kernel)) (fun _ => ?_)
    refine if_eq rfl (fun z => absurd z (by show ("set" : Str) ≠ "do"; decide +kernel)) (fun _ => ?_)
    have e4 : TL.tl (" = " : Str) = render [.sp, sg .eq, .sp] := by decide +kernel
    have n4 : rl [.sp, sg .eq, .sp] = 3 := by decide +kernel
    refine ⟨_, rfl, a, _, 1, _, rfl, rfl, ha, at1, v1, p, 2, 0, by decide, rfl, by decide, gs.2.1, d1, fun z1 H1 s1 e1 => ?_⟩
    have t1 := adt e1 e4
    refine ⟨_, _, rfl, rfl, addl e1 e4 (by omega), _, rfl, a, _, 2, _, rfl, rfl, (same_kt s1).sqT ha, at2, v2, e, 2, 0, by decide, rfl, by decide, gs.2.2, dt_keep (same_kt s1) d2, fun z3 H3 s3 e3 => ?_⟩
    have t3 := adt t1 e3
    refine ⟨_, _, rfl, rfl, addl t1 e3 (by rw [rl_app]; omega), _, _, rfl, rfl, addl t3 (tl_sym .semi) (by rw [rl_app, rl_app]; omega), q _ _ (s1.trans s3) ?_⟩
    show TL.tl (z1 ++ (" = " : Str) ++ z3 ++ Sym.semi.txt) = _
    rw [adt t3 (tl_sym .semi)]
    simp [St.row, Ex.pn, wr]
  | _ => exact gs.elim
end
end Ko
end
section
set_option Elab.async false
set_option linter.all false
set_option maxRecDepth 100000
set_option maxHeartbeats 4000000
/-! The law's text of a tag, of pairs -/
namespace Ko
open PySem PySem.Spec PyProof.Rows L2
section
variable {P : Program} {w : World} {K : PySem.W.Frag} {mg : Str → Option Value} {base : Heap}
def spTagT (K : PySem.W.Frag) : Sp := fun vs H Q _ => ∃ v t, vs = [v] ∧ GT t ∧ Dt K H v (tagD t) ∧ TxQ (tagPs t) H Q
theorem ok_tag_text (T : Tx K mg) : FnOk P w K mg base CX0 5 (a_law_tag_text K) (fdOf K d_law_tag_text) ["_law_tag"] (spTagT K) := by
  have G_law_kind_text := kt_ok (P := P) (w := w) (base := base) T 3 (by decide)
  refine (F_law_tag_text T).ok sc_law_tag_text (fun vs H Q E h => ?_) (fun cdv A0 outer s0 H vs Q E hr h => ?_)
  · obtain ⟨v, s, rfl, _⟩ := h
    rfl
  obtain ⟨v, t, rfl, gt, dt, q⟩ := h
  refine ⟨_, PSs.nox (pss_cons (ps_asg (pv 0) (pg_tup rfl (pgs_cons (pg_name (i := 1) sc_law_tag_text.nd rfl (Or.inl rfl)) (pgs_cons (pg_name (i := 2) sc_law_tag_text.nd rfl (Or.inl rfl)) pgs_nil)))) (pss_one (ps_ret (pe_op op_add_str (pv 1) (pe_op op_mul_str (pe_op op_add_str (pe_op op_add_str pe_str (pe_join pe_str (pe_lc (own := [("_law_kind_here", 3)]) rfl sc_law_tag_text.nd (pi_tup (pv 2)) (blkOk_by (N := ["_law_tag", "_law_name_here", "_law_kinds", "_law_kind_here"]) (sc := defScope s_law_tag_text) (by decide +kernel)) (fun _ _ _ _ _ => (pg_name (i := 3) sc_law_tag_text.nd rfl (Or.inl rfl))) (fun _ _ _ _ _ => pts_nil) (fun _ _ _ _ _ => (pe_call G_law_kind_text (hr.mono (by omega)) rfl (m_law_kind_text T) (F_law_kind_text T).kp (B_law_kind_text T) .nil pass0 (pa_cons (pv 3) pa_nil)))))) pe_str) (pe_callTy call_int1 (by rfl) (z_int T) (by decide +kernel) (pa_cons (pe_cmpR (op_ne_nilT hr.units0) (pv 2) (pe_tup pa_nil) (nomark _)) pa_nil))))))), ?_⟩
  obtain ⟨a, _, rfl, _, _⟩ := dt_tup_inv dt
  obtain ⟨v0, v1, ha, d0, d1⟩ := dt2i dt
  obtain rfl := dt_str_inv d0
  obtain ⟨ax, ys, rfl, hax, dys⟩ := dt_tup_inv d1
  refine ⟨_, rfl, a, _, rfl, ha, rfl, _, _, rfl, _, _, rfl, rfl, ?_⟩
  refine ⟨_, rfl, ⟨_, rfl⟩, _, rfl, ax, rfl, ⟨_, hax⟩, fun D eD => ?_⟩
  have hxl := gt.2.1
  refine lc_texts (K := K) (enc := Kd.d) (pr := Kd.ps) (items := t.2) hax eD dys (by omega) ?_ ?_
  · intro x hx v H Q' Z dx tq
    exact ⟨rfl, _, rfl, v, x, 1, by decide, rfl, gt.2.2 x hx, dx, tq⟩
  intro H3 zs s3 hz hm2
  have hb : ∀ x ∈ t.2.map Kd.ps, rl x ≤ 16 := fun x hx => by
    obtain ⟨y, hy, rfl⟩ := List.mem_map.mp hx
    exact kd_len 1 y (gt.2.2 y hy)
  obtain ⟨zl, zb⟩ := zs_len hm2 hb
  rw [List.length_map] at zl
  have hs := sum_le zs zb
  have h1 : (", " : Str).length = 2 := by decide +kernel
  have hs2 : zs.length * 16 ≤ 2 * 16 := Nat.mul_le_mul_right _ (by omega)
  have e1 := tx_join cs_t hm2
  have l1 := kinds_len gt
  have lp := rl1 .lpar
  have lr := rl1 .rpar
  have ln := rl1n gt.1
  have e2 := adt (tl_sym .lpar) e1
  have e3 := adt e2 (tl_sym .rpar)
  refine ⟨_, D, zs, rfl, rfl, .inl (SqL.of hz), by rw [h1]; omega, ?_⟩
  refine ⟨_, _, rfl, rfl, addl (tl_sym .lpar) e1 (by omega), _, _, rfl, rfl, addl e2 (tl_sym .rpar) (by rw [rl_app]; omega), ?_⟩
  refine ⟨_, rfl, Nat.zero_le _, fun p hp => ?_⟩
  have s4 := same_new hp (.tup [])
  refine ⟨ax, p, ys, rfl, rfl, (same_kt (s3.trans s4)).sqT hax, SqT.of upd_same, .inr ⟨_, rfl, _, !ys.isEmpty, rfl, rfl, ?_⟩⟩
  have ey : ys.isEmpty = t.2.isEmpty := by
    have := dts_len dys
    rw [List.length_map] at this
    cases ys <;> cases h : t.2 <;> rw [h] at this <;> first | rfl | simp at this
  rw [ey]
  have e4 : TL.tl (if (!t.2.isEmpty) = true then (("(" : Str) ++ Txt.join ", " zs ++ (")" : Str)) else Str.empty) = render (if t.2.isEmpty = true then [] else sg .lpar :: (joinP cs2 (t.2.map Kd.ps) ++ [sg .rpar])) := by
    cases t.2.isEmpty with
    | true => rfl
    | false =>
      show TL.tl (Sym.lpar.txt ++ Txt.join ", " zs ++ Sym.rpar.txt) = _
      rw [e3]
      simp
  have l4 : rl (if t.2.isEmpty = true then [] else sg .lpar :: (joinP cs2 (t.2.map Kd.ps) ++ [sg .rpar])) ≤ 100 := by
    split
    · rw [rl_nil]; omega
    · have := sym_len .lpar
      have := sym_len .rpar
      rw [rl_cons, rl_app, rl_cons, rl_nil]; omega
  refine ⟨_, _, rfl, rfl, addl (tl_name t.1) e4 (by omega), q _ _ (s3.trans s4) ?_⟩
  rw [adt (tl_name t.1) e4, tagPs]
  rfl
def spListed (K : PySem.W.Frag) : Sp := fun vs H Q _ => ∃ v ps, vs = [v] ∧ GPs 0 3 ps ∧ Dt K H v (psD ps) ∧ TxQ (pairsPs ps) H Q
theorem ok_listed (T : Tx K mg) : FnOk P w K mg base CX0 5 (a_law_listed K) (fdOf K d_law_listed) ["_law_pairs_here"] (spListed K) := by
  have G_law_kind_text := kt_ok (P := P) (w := w) (base := base) T 3 (by decide)
  refine (F_law_listed T).ok sc_law_listed (fun vs H Q E h => ?_) (fun cdv A0 outer s0 H vs Q E hr h => ?_)
  · obtain ⟨v, s, rfl, _⟩ := h
    rfl
  obtain ⟨v, ps, rfl, gp, dp, q⟩ := h
  refine ⟨_, PSs.nox (pss_one (ps_ret (pe_join pe_str (pe_lc (own := [("_law_name_here", 1), ("_law_kind_here", 2)]) rfl sc_law_listed.nd (pi_tup (pv 0)) (blkOk_by (N := ["_law_pairs_here", "_law_name_here", "_law_kind_here"]) (sc := defScope s_law_listed) (by decide +kernel)) (fun _ _ _ _ _ => (show PG _ _ (gTup K 2 (gCons (gName 1) (gCons (gName 2) gNil))) from (pg_tup rfl (pgs_cons (pg_name (i := 1) sc_law_listed.nd rfl (Or.inl rfl)) (pgs_cons (pg_name (i := 2) sc_law_listed.nd rfl (Or.inl rfl)) pgs_nil))))) (fun _ _ _ _ _ => pts_nil) (fun _ _ _ _ _ => (pe_op op_add_str (pe_op op_add_str (pv 1) pe_str) (pe_call G_law_kind_text (hr.mono (by omega)) rfl (m_law_kind_text T) (F_law_kind_text T).kp (B_law_kind_text T) .nil pass0 (pa_cons (pv 2) pa_nil)))))))), ?_⟩
  obtain ⟨ax, ys, rfl, hax, dys⟩ := dt_tup_inv dp
  refine ⟨⟨_, rfl⟩, _, rfl, ax, rfl, ⟨_, hax⟩, fun D eD => ?_⟩
  have hxl := gp.2.1
  refine lc_texts (K := K) (enc := pairD) (pr := pairPs) (items := ps) hax eD dys (by omega) ?_ ?_
  · intro x hx v H Q' Z dx tq
    have gx := gp.2.2 x hx
    obtain ⟨a, _, rfl, _, _⟩ := dt_tup_inv dx
    obtain ⟨v0, v1, ha, d0, d1⟩ := dt2i dx
    obtain rfl := dt_str_inv d0
    refine ⟨a, _, rfl, ha, rfl, _, _, rfl, _, _, rfl, rfl, rfl, ?_⟩
    have e2 : TL.tl (": " : Str) = render [sg .colon, .sp] := by decide +kernel
    have n2 : rl [sg .colon, .sp] = 2 := by decide +kernel
    have e1 := adt (tl_name x.1) e2
    have ln := rl1n gx.1
    have lk := kd_len 2 x.2 gx.2
    refine ⟨_, rfl, _, _, rfl, rfl, addl (tl_name x.1) e2 (by omega), _, rfl, v1, x.2, 2, by decide, rfl, gx.2, d1, fun z3 H3 s3 e3 => ?_⟩
    refine ⟨_, _, rfl, rfl, addl e1 e3 (by rw [rl_app]; omega), tq _ _ s3 ?_⟩
    rw [adt e1 e3]
    rfl
  intro H3 zs s3 hz hm2
  have hb : ∀ x ∈ ps.map pairPs, rl x ≤ 40 := fun x hx => by
    obtain ⟨y, hy, rfl⟩ := List.mem_map.mp hx
    exact pair_len (gp.2.2 y hy)
  obtain ⟨zl, zb⟩ := zs_len hm2 hb
  rw [List.length_map] at zl
  have hs := sum_le zs zb
  have h1 : (", " : Str).length = 2 := by decide +kernel
  have hs2 : zs.length * 40 ≤ 3 * 40 := Nat.mul_le_mul_right _ (by omega)
  exact ⟨_, D, zs, rfl, rfl, .inl (SqL.of hz), by rw [h1]; omega, q _ _ s3 (tx_join cs_t hm2)⟩
end
end Ko
end
section
set_option Elab.async false
set_option linter.all false
set_option maxRecDepth 100000
set_option maxHeartbeats 4000000
/-! The law's rows of statements -/
namespace Ko
open PySem PySem.Spec PyProof.Rows L2
def St.tag : St → Str
  | .letS _ _ _ => "let" | .openS _ _ => "open" | .showS _ => "show" | .pushS _ _ => "push" | .takeS _ _ => "take" | .doS _ => "do" | .setS _ _ => "set" | .ifS _ _ _ => "if" | .whileS _ _ => "while" | .parS _ _ => "par" | .matchS _ _ _ => "match"
def St.isC : St → Bool
  | .ifS _ _ _ => true | .whileS _ _ => true | .parS _ _ => true | .matchS _ _ _ => true | _ => false
def St.lastR (i : Nat) (s : St) : List Pc := ind i ++ (if s.isC = true then [sg .rbrace] else s.row)
def St.midR (i : Nat) : St → List (List Pc)
  | .ifS e a b => (ind i ++ (sg .kIf :: .sp :: (e.ps ++ [.sp, sg .lbrace]))) :: (St.rws (i + 2) a ++ (if b.isEmpty = true then [] else (ind i ++ [sg .rbrace, .sp, sg .kElse, .sp, sg .lbrace]) :: St.rws (i + 2) b))
  | .whileS e a => (ind i ++ (sg .kWhile :: .sp :: (e.ps ++ [.sp, sg .lbrace]))) :: St.rws (i + 2) a
  | .parS a b => (ind i ++ [sg .kPar, .sp, sg .lbrace]) :: (St.rws (i + 2) a ++ ((ind i ++ [sg .rbrace, .sp, sg .lbrace]) :: St.rws (i + 2) b))
  | .matchS h p cs => (ind i ++ (sg .kMatch :: .sp :: (h.ps ++ (p.ps ++ [.sp, sg .lbrace])))) :: Cs.rws i cs
  | _ => []
theorem rows_mid (i : Nat) (s : St) : s.rows i = s.midR i ++ [s.lastR i] := by
  cases s <;> simp [St.rows, St.midR, St.lastR, St.isC]
theorem tag_isC (s : St) : inV (.str s.tag) [.str "if", .str "while", .str "par", .str "match"] = s.isC := by
  cases s with
  | letS _ _ _ => show inV (.str "let") [.str "if", .str "while", .str "par", .str "match"] = false; decide +kernel
  | openS _ _ => show inV (.str "open") [.str "if", .str "while", .str "par", .str "match"] = false; decide +kernel
  | showS _ => show inV (.str "show") [.str "if", .str "while", .str "par", .str "match"] = false; decide +kernel
  | pushS _ _ => show inV (.str "push") [.str "if", .str "while", .str "par", .str "match"] = false; decide +kernel
  | takeS _ _ => show inV (.str "take") [.str "if", .str "while", .str "par", .str "match"] = false; decide +kernel
  | doS _ => show inV (.str "do") [.str "if", .str "while", .str "par", .str "match"] = false; decide +kernel
  | setS _ _ => show inV (.str "set") [.str "if", .str "while", .str "par", .str "match"] = false; decide +kernel
  | ifS _ _ _ => show inV (.str "if") [.str "if", .str "while", .str "par", .str "match"] = true; decide +kernel
  | whileS _ _ => show inV (.str "while") [.str "if", .str "while", .str "par", .str "match"] = true; decide +kernel
  | parS _ _ => show inV (.str "par") [.str "if", .str "while", .str "par", .str "match"] = true; decide +kernel
  | matchS _ _ _ => show inV (.str "match") [.str "if", .str "while", .str "par", .str "match"] = true; decide +kernel
theorem gs_zero {m : Nat} {s : St} (g : GS m s) (h : s.isC = false) : GS 0 s := by
  cases s <;> first | (cases m <;> exact g) | exact nomatch h
theorem row_len {s : St} (g : GS 0 s) : rl s.row ≤ 3500 := by
  cases s with
  | letS x k e =>
    have h1 := name_len g.1; have h2 := kd_len 2 k g.2.1; have h3 := ex2_len g.2.2
    have := sym_len .kLet; have := sym_len .colon; have := sym_len .eq; have := sym_len .semi
    simp only [St.row, rl_cons, rl_app, rl_nil, sp_len]; omega
  | openS e xs =>
    have h1 := ex2_len g.1; have h2 := nms_len g.2 (by decide)
    have := sym_len .kOpen; have := sym_len .kAs; have := sym_len .lpar; have := sym_len .rpar; have := sym_len .semi
    simp only [St.row, rl_cons, rl_app, rl_nil, sp_len]; omega
  | showS e =>
    have h1 := ex2_len g
    have := sym_len .kShow; have := sym_len .semi
    simp only [St.row, rl_cons, rl_app, rl_nil, sp_len]; omega
  | pushS p e =>
    have h1 := ex2_len g.2.1; have h2 := ex2_len g.2.2
    have := sym_len .kPush; have := sym_len .lpar; have := sym_len .comma; have := sym_len .rpar; have := sym_len .semi
    simp only [St.row, rl_cons, rl_app, rl_nil, sp_len]; omega
  | takeS p x =>
    have h1 := ex2_len g.2.1; have h2 := name_len g.2.2
    have := sym_len .kTake; have := sym_len .lpar; have := sym_len .kAs; have := sym_len .rpar; have := sym_len .semi
    simp only [St.row, rl_cons, rl_app, rl_nil, sp_len]; omega
  | doS e =>
    have h1 := ex2_len g.2
    have := sym_len .semi
    simp only [St.row, rl_cons, rl_app, rl_nil, sp_len]; omega
  | setS p e =>
    have h1 := ex2_len g.2.1; have h2 := ex2_len g.2.2
    have := sym_len .eq; have := sym_len .semi
    simp only [St.row, rl_cons, rl_app, rl_nil, sp_len]; omega
  | _ => exact g.elim
theorem SB_le {m : Nat} (h : m ≤ 2) : SB m ≤ 78 := by
  match m, h with
  | 0, _ => decide
  | 1, _ => decide
  | 2, _ => decide
theorem blk_cnt {m i : Nat} {b : List St} (hm : m ≤ 2) (hb : b.length ≤ 3) (g : ∀ s ∈ b, GS m s) : (St.rws i b).length ≤ 234 := by
  have h1 := (rows_cnt m).2 i b g
  have h2 := SB_le hm
  have h3 : b.length * SB m ≤ 3 * 78 := Nat.mul_le_mul hb h2
  omega
section
variable {P : Program} {w : World} {K : PySem.W.Frag} {mg : Str → Option Value} {base : Heap}
theorem seq_cut {t u : TS} {D : Ends} {σ : L2.St} {H : Hp} (W : L2.St → Hp → Prop) (hu : ∀ σ H, W σ H → u D σ H) (ht : ∀ U : TS, (∀ σ H, W σ H → U D σ H) → tSeq t U D σ H) : tSeq t u D σ H := ht u hu
theorem if_in4 {A B : TS} {D : Ends} {σ : L2.St} {H : Hp} {i : Nat} {x a b c d : Str} (h : σ[i]? = some (some (.str x))) (ht : inV (.str x) [.str a, .str b, .str c, .str d] = true → ∀ H', Same H H' → A D σ H') (hf : inV (.str x) [.str a, .str b, .str c, .str d] = false → ∀ H', Same H H' → B D σ H') :
    tIfS (tTest (tOp (rIn K false) (tVar i) (tTup (tCons (tC (.str a)) (tCons (tC (.str b)) (tCons (tC (.str c)) (tCons (tC (.str d)) tNil))))))) A B D σ H :=
  ⟨_, h, (by show 4 ≤ sizeLine; decide), fun p hp => ⟨p, _, rfl, .inr (SqT.of upd_same), rfl, rfl, _, rfl, iteB (fun hb => ht hb _ (same_new hp _)) (fun hb => hf hb _ (same_new hp _))⟩⟩
/-- a list of texts at p -/
def Ls (H : Hp) (p : Addr) (zs : List Str) : Prop := H p = some (.lst (zs.map V.str))
theorem cat_ok {H : Hp} {l b : Addr} {xs zs : List Str} {Q : VK} (hl : Ls H l xs) (hb : Ls H b zs) (hn : xs.length + zs.length ≤ 100000) (k : ∀ p H', Same H H' → H p = none → Ls H' p (xs ++ zs) → Q (.ref p) H') : rCat (.ref l) (.ref b) H Q :=
  ⟨l, b, _, _, rfl, rfl, hl, hb, by rw [List.length_map, List.length_map, show sizeLine = 16777216 from rfl]; omega, fun p hp => k p _ (same_new hp _) hp (by show upd H p _ p = _; rw [upd_same, List.map_append])⟩
theorem ap_ok {H : Hp} {l : Addr} {xs : List Str} {z : Str} {Q : VK} (hl : Ls H l xs) (hn : xs.length ≤ 100000) (k : Ls (upd H l (.lst ((xs ++ [z]).map V.str))) l (xs ++ [z]) → Q .non (upd H l (.lst ((xs ++ [z]).map V.str)))) : rAppend (.ref l) [.str z] H Q := by
  refine ⟨l, _, _, rfl, rfl, hl, by rw [List.length_map, show sizeLine = 16777216 from rfl]; omega, ?_⟩
  have e : xs.map V.str ++ [V.str z] = (xs ++ [z]).map V.str := by rw [List.map_append]; rfl
  rw [e]
  exact k upd_same
/-- texts of rows -/
def Rws (zs : List Str) (rs : List (List Pc)) : Prop := zs.map TL.tl = rs.map render
theorem Rws.len {zs : List Str} {rs : List (List Pc)} (h : Rws zs rs) : zs.length = rs.length := by
  have := congrArg List.length h
  simpa using this
theorem Rws.app {zs ys : List Str} {rs ss : List (List Pc)} (h : Rws zs rs) (h2 : Rws ys ss) : Rws (zs ++ ys) (rs ++ ss) := by
  show (zs ++ ys).map TL.tl = (rs ++ ss).map render
  rw [List.map_append, List.map_append, h, h2]
theorem Rws.one {z : Str} {r : List Pc} (h : TL.tl z = render r) : Rws [z] [r] := by
  show [TL.tl z] = [render r]
  rw [h]
/-- any new list of texts of the rows -/
def RwQ (rs : List (List Pc)) (H : Hp) (Q : VK) : Prop := ∀ p zs H', Same H H' → H p = none → Ls H' p zs → Rws zs rs → Q (.ref p) H'
def spRows (K : PySem.W.Frag) (n : Nat) : Sp := fun vs H Q _ => ∃ v b m i sp, m < n ∧ vs = [v, .str sp] ∧ TL.tl sp = render (ind i) ∧ i + 4 * m ≤ 20 ∧ b.length ≤ 3 ∧ (∀ s ∈ b, GS m s) ∧ Dt K H v (blD b) ∧ RwQ (St.rws i b) H Q
theorem pn0 (e : Ex) : Ex.pn 0 e = e.ps := by simp [Ex.pn, wr]
theorem pn_nk {p : Ex} (h : p.isPlace = true) : Ex.pn p.nk p = p.ps := by
  cases p with
  | rf r q => cases r <;> first | rfl | cases h
  | name _ => rfl
  | field _ _ => rfl
  | index _ _ => rfl
  | _ => cases h
def moveS (h : How) (z y : Str) : Str := match h with
  | .move => z
  | _ => y
def moK (z : Str) : List (Key × V) := [(.inr ("move" : Str), .str z)]
theorem mo_get (h : How) (z y : Str) : (valV (mergeK [] (moK z)) (.inr h.txt)).getD (.str y) = .str (moveS h z y) := by
  have e : mergeK [] (moK z) = moK z := rfl
  rw [e]
  cases h with
  | move => rfl
  | ref => rw [moK, valV_neg (by show ¬ (Sum.inr ("move" : Str) : Key) = Sum.inr ("ref" : Str); decide +kernel)]; rfl
  | «mut» => rw [moK, valV_neg (by show ¬ (Sum.inr ("move" : Str) : Key) = Sum.inr ("mut" : Str); decide +kernel)]; rfl
theorem how_tl (h : How) (hm : h ≠ .move) : TL.tl (h.txt ++ (" " : Str)) = render h.ps := by
  cases h with
  | move => exact absurd rfl hm
  | ref => decide +kernel
  | «mut» => decide +kernel
theorem ind_add (i j : Nat) : ind i ++ ind j = ind (i + j) := by unfold ind; rw [List.replicate_append_replicate]
theorem sp2_t : TL.tl ("  " : Str) = render (ind 2) := by decide +kernel
theorem st_tag (s : St) : ∃ ds, s.d = .tuple (.str s.tag :: ds) := by
  cases s <;> exact ⟨_, by rw [St.d]; rfl⟩
theorem st_first {H : Hp} {v : V} {s : St} (h : Dt K H v s.d) : ∃ a xs, v = .ref a ∧ SqT K H a xs ∧ xs[0]? = some (.str s.tag) := by
  obtain ⟨ds, ed⟩ := st_tag s
  rw [ed] at h
  obtain ⟨a, xs, rfl, hs, r⟩ := dt_tup_inv h
  cases r with
  | cons h1 r =>
    rw [dt_str_inv h1] at hs
    exact ⟨a, _, rfl, hs, rfl⟩
theorem take_rws {i k : Nat} {b : List St} {s : St} (h : b[k]? = some s) : St.rws i (b.take (k + 1)) = St.rws i (b.take k) ++ s.rows i := by
  rw [List.take_succ, h, rws_app]
  simp [St.rws]
theorem none_back {H0 H : Hp} {p : Addr} (s : Same H0 H) (h : H p = none) : H0 p = none := by
  cases e : H0 p with
  | none => rfl
  | some o => rw [s _ _ e] at h; cases h
theorem gs_succ {m : Nat} {s : St} (g : GS m s) (h : s.isC = true) : ∃ j, m = j + 1 := by
  cases m with
  | succ j => exact ⟨j, rfl⟩
  | zero => cases s <;> first | exact g.elim | exact nomatch h
theorem ok_rows (T : Tx K mg) (n : Nat) (hn : n ≤ 2) {k : Nat} (hk : 14 ≤ k) (hk2 : k ≤ 40) (G_law_rows : FnOk P w K mg base CX0 k (a_law_rows K) (fdOf K d_law_rows) ["_law_trees", "_law_space"] (spRows K n)) :
    FnOk P w K mg base CX0 (k + 1) (a_law_rows K) (fdOf K d_law_rows) ["_law_trees", "_law_space"] (spRows K (n + 1)) := by
  have G_law_text := tx_ok (P := P) (w := w) (base := base) T 3 (by decide)
  have G_law_near := ok_near (P := P) (w := w) (base := base) T 3 G_law_text
  have G_law_row := ok_row (P := P) (w := w) (base := base) T
  refine (F_law_rows T).ok sc_law_rows (fun vs H Q E h => ?_) (fun cdv A0 outer s0 H0 vs Q E hr h => ?_)
  · obtain ⟨v, b, m, i, sp, _, rfl, _⟩ := h
    rfl
  obtain ⟨v, b, m, i, sp, hm, rfl, hsp, hi, hbl, gb, db, q⟩ := h
  refine ⟨_, PSs.nox (pss_cons (ps_set (i := 2) sc_law_rows.nd rfl (Or.inl rfl) (pe_lst pa_nil)) (pss_cons (ps_for PassesOwn.never rfl (pi_tup (pv 0)) (pg_name (i := 3) sc_law_rows.nd rfl (Or.inl rfl)) (pss_cons (ps_set (i := 4) sc_law_rows.nd rfl (Or.inl rfl) (pe_ix ix_tup (pv 3) pe_int (fun _ _ => rfl))) (pss_cons (ps_set (i := 5) sc_law_rows.nd rfl (Or.inl rfl) (pe_op op_add_str (pv 1) pe_str)) (pss_cons (ps_if (pt_cmpR op_eq (pv 4) pe_str (nomark _)) (pss_cons (ps_set (i := 2) sc_law_rows.nd rfl (Or.inl rfl) (pe_op op_cat (pe_op op_cat (pv 2) (pe_lst (pa_cons (pe_op op_add_str (pe_op op_add_str (pe_op op_add_str (pv 1) pe_str) (pe_call G_law_text (hr.mono (by omega)) rfl (m_law_text T) (F_law_text T).kp (B_law_text T) .nil pass0 (pa_cons (pe_ix ix_tup (pv 3) pe_int (fun _ _ => rfl)) (pa_cons pe_int pa_nil)))) pe_str) pa_nil))) (pe_call G_law_rows (hr.mono (by omega)) rfl (m_law_rows T) (F_law_rows T).kp (B_law_rows T) .nil pass0 (pa_cons (pe_ix ix_tup (pv 3) pe_int (fun _ _ => rfl)) (pa_cons (pv 5) pa_nil))))) (pss_one (ps_if (pt_cmpR (op_ne_nilT hr.units0) (pe_ix ix_tup (pv 3) pe_int (fun _ _ => rfl)) (pe_tup pa_nil) (nomark _)) (pss_one (ps_set (i := 2) sc_law_rows.nd rfl (Or.inl rfl) (pe_op op_cat (pe_op op_cat (pv 2) (pe_lst (pa_cons (pe_op op_add_str (pv 1) pe_str) pa_nil))) (pe_call G_law_rows (hr.mono (by omega)) rfl (m_law_rows T) (F_law_rows T).kp (B_law_rows T) .nil pass0 (pa_cons (pe_ix ix_tup (pv 3) pe_int (fun _ _ => rfl)) (pa_cons (pv 5) pa_nil)))))) pss_nil))) (pss_one (ps_if (pt_cmpR op_eq (pv 4) pe_str (nomark _)) (pss_one (ps_set (i := 2) sc_law_rows.nd rfl (Or.inl rfl) (pe_op op_cat (pe_op op_cat (pv 2) (pe_lst (pa_cons (pe_op op_add_str (pe_op op_add_str (pe_op op_add_str (pv 1) pe_str) (pe_call G_law_text (hr.mono (by omega)) rfl (m_law_text T) (F_law_text T).kp (B_law_text T) .nil pass0 (pa_cons (pe_ix ix_tup (pv 3) pe_int (fun _ _ => rfl)) (pa_cons pe_int pa_nil)))) pe_str) pa_nil))) (pe_call G_law_rows (hr.mono (by omega)) rfl (m_law_rows T) (F_law_rows T).kp (B_law_rows T) .nil pass0 (pa_cons (pe_ix ix_tup (pv 3) pe_int (fun _ _ => rfl)) (pa_cons (pv 5) pa_nil)))))) (pss_one (ps_if (pt_cmpR op_eq (pv 4) pe_str (nomark _)) (pss_one (ps_set (i := 2) sc_law_rows.nd rfl (Or.inl rfl) (pe_op op_cat (pe_op op_cat (pe_op op_cat (pe_op op_cat (pv 2) (pe_lst (pa_cons (pe_op op_add_str (pv 1) pe_str) pa_nil))) (pe_call G_law_rows (hr.mono (by omega)) rfl (m_law_rows T) (F_law_rows T).kp (B_law_rows T) .nil pass0 (pa_cons (pe_ix ix_tup (pv 3) pe_int (fun _ _ => rfl)) (pa_cons (pv 5) pa_nil)))) (pe_lst (pa_cons (pe_op op_add_str (pv 1) pe_str) pa_nil))) (pe_call G_law_rows (hr.mono (by omega)) rfl (m_law_rows T) (F_law_rows T).kp (B_law_rows T) .nil pass0 (pa_cons (pe_ix ix_tup (pv 3) pe_int (fun _ _ => rfl)) (pa_cons (pv 5) pa_nil)))))) (pss_one (ps_if (pt_cmpR op_eq (pv 4) pe_str (nomark _)) (pss_cons (ps_set (i := 6) sc_law_rows.nd rfl (Or.inl rfl) (pe_dget2 (hu_of hr) (pe_disp (pps_cons pe_str (pe_op op_add_str pe_str (pe_call G_law_text (hr.mono (by omega)) rfl (m_law_text T) (F_law_text T).kp (B_law_text T) .nil pass0 (pa_cons (pe_ix ix_tup (pv 3) pe_int (fun _ _ => rfl)) (pa_cons pe_int pa_nil)))) pps_nil) (by rfl) (by rfl) (fun z => by cases z) (by decide)) (pe_ix ix_tup (pv 3) pe_int (fun _ _ => rfl)) (pe_op op_add_str (pe_op op_add_str (pe_op op_add_str pe_str (pe_ix ix_tup (pv 3) pe_int (fun _ _ => rfl))) pe_str) (pe_call G_law_near (hr.mono (by omega)) rfl (m_law_near T) (F_law_near T).kp (B_law_near T) .nil pass0 (pa_cons (pe_ix ix_tup (pv 3) pe_int (fun _ _ => rfl)) pa_nil))) ⟨rfl, rfl, rfl, rfl⟩)) (pss_cons (ps_expr (pe_bm PySem.F.plainAttrs_list PySem.F.slot_list_append PySem.F.type_list_append mt_append (pv 2) (pa_cons (pe_op op_add_str (pe_op op_add_str (pv 1) (pv 6)) pe_str) pa_nil))) (pss_one (ps_for PassesOwn.never rfl (pi_tup (pe_ix ix_tup (pv 3) pe_int (fun _ _ => rfl))) (pg_tup rfl (pgs_cons (pg_name (i := 7) sc_law_rows.nd rfl (Or.inl rfl)) (pgs_cons (pg_name (i := 8) sc_law_rows.nd rfl (Or.inl rfl)) (pgs_cons (pg_name (i := 9) sc_law_rows.nd rfl (Or.inl rfl)) pgs_nil)))) (pss_cons (ps_set (i := 10) sc_law_rows.nd rfl (Or.inl rfl) (pe_op op_mul_str (pe_op op_add_str (pe_op op_add_str pe_str (pe_join pe_str (pe_callTy call_list_of (by rfl) (z_list T) (by decide +kernel) (pa_cons (pv 8) pa_nil)))) pe_str) (pe_callTy call_int1 (by rfl) (z_int T) (by decide +kernel) (pa_cons (pe_cmpR (op_ne_nilT hr.units0) (pv 8) (pe_tup pa_nil) (nomark _)) pa_nil)))) (pss_one (ps_set (i := 2) sc_law_rows.nd rfl (Or.inl rfl) (pe_op op_cat (pe_op op_cat (pe_op op_cat (pv 2) (pe_lst (pa_cons (pe_op op_add_str (pe_op op_add_str (pe_op op_add_str (pv 5) (pv 7)) (pv 10)) pe_str) pa_nil))) (pe_call G_law_rows (hr.mono (by omega)) rfl (m_law_rows T) (F_law_rows T).kp (B_law_rows T) .nil pass0 (pa_cons (pv 9) (pa_cons (pe_op op_add_str (pv 5) pe_str) pa_nil)))) (pe_lst (pa_cons (pe_op op_add_str (pv 5) pe_str) pa_nil)))))))))) pss_nil))))))) (pss_one (ps_if (pt_cmpR op_in_seq (pv 4) (pe_tup (pa_cons pe_str (pa_cons pe_str (pa_cons pe_str (pa_cons pe_str pa_nil))))) (by rfl)) (pss_one (ps_expr (pe_bm PySem.F.plainAttrs_list PySem.F.slot_list_append PySem.F.type_list_append mt_append (pv 2) (pa_cons (pe_op op_add_str (pv 1) pe_str) pa_nil)))) (pss_one (ps_expr (pe_bm PySem.F.plainAttrs_list PySem.F.slot_list_append PySem.F.type_list_append mt_append (pv 2) (pa_cons (pe_op op_add_str (pv 1) (pe_call G_law_row (hr.mono (by omega)) rfl (m_law_row T) (F_law_row T).kp (B_law_row T) .nil pass0 (pa_cons (pv 3) pa_nil))) pa_nil)))))))))) (pss_one (ps_ret (pv 2))))), ?_⟩
  refine ⟨Nat.zero_le _, fun q0 hq0 => ?_⟩
  obtain ⟨av, xs, rfl, hav, dxs⟩ := dt_tup_inv db
  rw [St.ds_map] at dxs
  have hxl := dts_len dxs
  rw [List.length_map] at hxl
  let Inv : Nat → L2.St → Hp → Prop := fun kx σ' H' => ∃ (p : Addr) (zs : List Str) (o3 o4 o5 o6 o7 o8 o9 o10 : Option V), σ' = [some (.ref av), some (.str sp), some (.ref p), o3, o4, o5, o6, o7, o8, o9, o10] ∧ Same H0 H' ∧ H0 p = none ∧ Ls H' p zs ∧ Rws zs (St.rws i (b.take kx))
  refine ⟨_, rfl, av, rfl, ⟨xs, (same_kt (same_new hq0 _)).sqT hav⟩, for_tup (K := K) (a := av) (xs := xs) Inv ⟨q0, [], none, none, none, none, none, none, none, none, rfl, same_new hq0 _, hq0, upd_same, rfl⟩ ?_ ?_ ?_⟩
  · rintro kx σ' H' _ ⟨p, zs, _, _, _, _, _, _, _, _, _, s1, _⟩
    exact (same_kt s1).sqT hav
  · rintro kx x σ' H1 hx ⟨p, zs, o3, o4, o5, o6, o7, o8, o9, o10, rfl, s1, hp0, hz, hrw⟩
    obtain ⟨dd, hdd, dx⟩ := dts_of dxs hx
    rw [List.getElem?_map] at hdd
    cases hb : b[kx]? with
    | none => rw [hb] at hdd; cases hdd
    | some s =>
    rw [hb] at hdd
    cases hdd
    have gs := gb s (List.mem_of_getElem? hb)
    have dx := dt_keep (same_kt s1) dx
    have hcnt : zs.length ≤ 234 := by
      rw [hrw.len]
      exact blk_cnt (by omega) (by rw [List.length_take]; omega) fun t ht => gb t (List.mem_of_mem_take ht)
    obtain ⟨a, ys, rfl, ha, hy⟩ := st_first dx
    refine seq_cut3 (fun σ2 H2 => ∃ (p : Addr) (zs : List Str) (o5 o6 o7 o8 o9 o10 : Option V), σ2 = [some (.ref av), some (.str sp), some (.ref p), some (.ref a), some (.str s.tag), o5, o6, o7, o8, o9, o10] ∧ Same H0 H2 ∧ KeepT H1 H2 ∧ H0 p = none ∧ Ls H2 p zs ∧ Rws zs (St.rws i (b.take kx) ++ s.midR i) ∧ zs.length ≤ 2000) ?_ ?_
    · rintro σ2 H2 ⟨p, zs, o5, o6, o7, o8, o9, o10, rfl, s2, s12, hp0, hz, hrw, hzl⟩
      have hfin : ∀ z H3, Same H2 H3 → TL.tl z = render (s.lastR i) → rAppend (.ref p) [.str z] H3 (fun _ H4 => Inv (kx + 1) [some (.ref av), some (.str sp), some (.ref p), some (.ref a), some (.str s.tag), o5, o6, o7, o8, o9, o10] H4) := fun z H3 s3 ez => by
        refine ap_ok (s3 _ _ hz) (by omega) fun hls => ?_
        refine ⟨p, zs ++ [z], _, _, _, _, _, _, _, _, rfl, same_upd hp0 (s2.trans s3) _, hp0, hls, ?_⟩
        rw [take_rws hb, rows_mid, ← List.append_assoc]
        exact hrw.app (.one ez)
      refine if_in4 rfl (fun hc H3 s3 => ?_) (fun hc H3 s3 => ?_)
      · rw [tag_isC] at hc
        refine ⟨_, rfl, .inl ⟨rfl, _, SqL.of (s3 _ _ hz)⟩, _, rfl, _, _, rfl, rfl, addl hsp (tl_sym .rbrace) (by rw [ind_rl]; have := rl1 .rbrace; omega), ?_⟩
        refine hfin _ H3 s3 ?_
        show TL.tl (sp ++ Sym.rbrace.txt) = _
        rw [adt hsp (tl_sym .rbrace), St.lastR, hc]
        rfl
      · rw [tag_isC] at hc
        have g0 := gs_zero gs hc
        have hl := row_len g0
        refine ⟨_, rfl, .inl ⟨rfl, _, SqL.of (s3 _ _ hz)⟩, _, rfl, _, rfl, _, s, rfl, g0, dt_keep (s12.trans (same_kt s3)) dx, fun z H4 s4 ez => ?_⟩
        refine ⟨_, _, rfl, rfl, addl hsp ez (by rw [ind_rl]; omega), ?_⟩
        refine hfin _ H4 (s3.trans s4) ?_
        rw [adt hsp ez, St.lastR, hc]
        rfl
    intro U hU
    refine ⟨_, rfl, a, ys, 0, _, rfl, rfl, ha, atI_nat hy, ?_⟩
    have hin : TL.tl (sp ++ ("  " : Str)) = render (ind (i + 2)) := by rw [adt hsp sp2_t, ind_add]
    refine ⟨_, rfl, _, _, rfl, rfl, addl hsp sp2_t (by rw [ind_rl, ind_rl]; omega), ?_⟩
    dsimp only [gName, tSeq]
    cases s with
    | ifS e a1 b1 =>
      refine if_eq rfl (fun _ => ?_) (fun z => absurd rfl z)
      obtain ⟨j, rfl⟩ := gs_succ gs rfl
      obtain ⟨v0, ve, va, vb, ha, d0, de, da, db2⟩ := dt4i dx
      have le := pn_len (k := 0) (show 2 ≤ 4 by omega) gs.1
      have e0 : TL.tl ("if " : Str) = render [sg .kIf, .sp] := by decide +kernel
      have n0 : rl [sg .kIf, .sp] = 3 := by decide +kernel
      have f0 : TL.tl (" {" : Str) = render [.sp, sg .lbrace] := by decide +kernel
      have m0 : rl [.sp, sg .lbrace] = 2 := by decide +kernel
      have t1 := adt hsp e0
      refine ⟨_, rfl, _, rfl, _, _, rfl, rfl, addl hsp e0 (by rw [ind_rl]; omega), _, rfl, a, _, 1, _, rfl, rfl, ha, at1, ve, e, 2, 0, by decide, rfl, by decide, gs.1, de, fun z1 H2 s2 e1 => ?_⟩
      have t2 := adt t1 e1
      have t3 := adt t2 f0
      refine ⟨_, _, rfl, rfl, addl t1 e1 (by rw [rl_app, ind_rl]; omega), _, _, rfl, rfl, addl t2 f0 (by rw [rl_app, rl_app, ind_rl]; omega), (by show 1 ≤ sizeLine; decide), fun l el => ?_⟩
      have sl := same_new el (.lst ([sp ++ ("if " : Str) ++ z1 ++ (" {" : Str)].map V.str))
      refine cat_ok (xs := zs) (zs := [sp ++ ("if " : Str) ++ z1 ++ (" {" : Str)]) ((s2.trans sl) _ _ hz) upd_same (by simp only [List.length_cons, List.length_nil]; omega) fun p3 H3 s3 n3 hz3 => ?_
      have s13 := (s2.trans sl).trans s3
      refine ⟨_, rfl, a, _, 2, _, rfl, rfl, (same_kt s13).sqT ha, at2, _, rfl, va, a1, j, i + 2, _, by omega, rfl, hin, by omega, gs.2.1.1, gs.2.1.2, dt_keep (same_kt s13) da, fun p4 zs4 H4 s4 n4 hz4 hr4 => ?_⟩
      have c4 := blk_cnt (i := i + 2) (show j ≤ 2 by omega) gs.2.1.1 gs.2.1.2
      have l4 := hr4.len
      refine cat_ok (s4 _ _ hz3) hz4 (by simp only [List.length_append, List.length_cons, List.length_nil]; omega) fun p5 H5 s5 n5 hz5 => ?_
      have s15 := (s13.trans s4).trans s5
      have r5 := (hrw.app (.one t3)).app hr4
      have hp5 := none_back ((s1.trans s13).trans s4) n5
      refine ⟨_, rfl, a, _, 3, _, rfl, rfl, (same_kt s15).sqT ha, at3, Nat.zero_le _, fun t et => ?_⟩
      have s6 := same_new et (.tup [])
      obtain ⟨ab, ysb, rfl, hab, dysb⟩ := dt_tup_inv db2
      rw [St.ds_map] at dysb
      have hbl2 := dts_len dysb
      rw [List.length_map] at hbl2
      have eyb : ysb.isEmpty = b1.isEmpty := by cases ysb <;> cases b1 <;> first | rfl | (simp at hbl2)
      refine ⟨ab, t, ysb, rfl, rfl, (same_kt (s15.trans s6)).sqT hab, SqT.of upd_same, _, rfl, iteB (fun hc => ?_) (fun hc => ?_)⟩
      · have hne : b1.isEmpty = false := by rw [eyb] at hc; simpa using hc
        have e6 : TL.tl ("} else {" : Str) = render [sg .rbrace, .sp, sg .kElse, .sp, sg .lbrace] := by decide +kernel
        have n6 : rl [sg .rbrace, .sp, sg .kElse, .sp, sg .lbrace] = 8 := by decide +kernel
        have t6 := adt hsp e6
        refine ⟨_, rfl, _, rfl, _, _, rfl, rfl, addl hsp e6 (by rw [ind_rl]; omega), (by show 1 ≤ sizeLine; decide), fun l2 el2 => ?_⟩
        have sl2 := same_new el2 (.lst ([sp ++ ("} else {" : Str)].map V.str))
        have hzl5 : (zs ++ [sp ++ ("if " : Str) ++ z1 ++ (" {" : Str)] ++ zs4).length ≤ 700 := by simp only [List.length_append, List.length_cons, List.length_nil]; omega
        refine cat_ok (zs := [sp ++ ("} else {" : Str)]) ((s6.trans sl2) _ _ hz5) upd_same (by simp only [List.length_cons, List.length_nil]; omega) fun p7 H7 s7 n7 hz7 => ?_
        have s17 := ((s15.trans s6).trans sl2).trans s7
        refine ⟨_, rfl, a, _, 3, _, rfl, rfl, (same_kt s17).sqT ha, at3, _, rfl, _, b1, j, i + 2, _, by omega, rfl, hin, by omega, gs.2.2.1, gs.2.2.2, dt_keep (same_kt s17) (.tup hab (by rw [St.ds_map]; exact dysb)), fun p8 zs8 H8 s8 n8 hz8 hr8 => ?_⟩
        have c8 := blk_cnt (i := i + 2) (show j ≤ 2 by omega) gs.2.2.1 gs.2.2.2
        have l8 := hr8.len
        refine cat_ok (s8 _ _ hz7) hz8 (by simp only [List.length_append, List.length_cons, List.length_nil] at hzl5 ⊢; omega) fun p9 H9 s9 n9 hz9 => ?_
        have r9 := (r5.app (.one t6)).app hr8
        refine hU _ _ ⟨p9, _, _, _, _, _, _, _, rfl, s1.trans ((s17.trans s8).trans s9), same_kt ((s17.trans s8).trans s9), none_back (s1.trans (s17.trans s8)) n9, hz9, ?_, ?_⟩
        · simp only [St.midR, hne] at r9 ⊢
          simpa [pn0] using r9
        · simp only [List.length_append, List.length_cons, List.length_nil] at hzl5 ⊢; omega
      · have hne : b1.isEmpty = true := by rw [eyb] at hc; simpa using hc
        refine hU _ _ ⟨p5, _, _, _, _, _, _, _, rfl, (s1.trans s15).trans s6, same_kt (s15.trans s6), hp5, s6 _ _ hz5, ?_, ?_⟩
        · simp only [St.midR, hne] at r5 ⊢
          simpa [pn0] using r5
        · simp only [List.length_append, List.length_cons, List.length_nil]; omega
    | whileS e a1 =>
      refine if_eq rfl (fun z => absurd z (by show ("while" : Str) ≠ "if"; decide +kernel)) (fun _ => ?_)
      refine if_eq rfl (fun _ => ?_) (fun z => absurd rfl z)
      obtain ⟨j, rfl⟩ := gs_succ gs rfl
      obtain ⟨v0, ve, va, ha, d0, de, da⟩ := dt3i dx
      have le := pn_len (k := 0) (show 1 ≤ 4 by omega) gs.1
      have e0 : TL.tl ("while " : Str) = render [sg .kWhile, .sp] := by decide +kernel
      have n0 : rl [sg .kWhile, .sp] = 6 := by decide +kernel
      have f0 : TL.tl (" {" : Str) = render [.sp, sg .lbrace] := by decide +kernel
      have m0 : rl [.sp, sg .lbrace] = 2 := by decide +kernel
      have t1 := adt hsp e0
      refine ⟨_, rfl, _, rfl, _, _, rfl, rfl, addl hsp e0 (by rw [ind_rl]; omega), _, rfl, a, _, 1, _, rfl, rfl, ha, at1, ve, e, 1, 0, by decide, rfl, by decide, gs.1, de, fun z1 H2 s2 e1 => ?_⟩
      have t2 := adt t1 e1
      have t3 := adt t2 f0
      refine ⟨_, _, rfl, rfl, addl t1 e1 (by rw [rl_app, ind_rl]; omega), _, _, rfl, rfl, addl t2 f0 (by rw [rl_app, rl_app, ind_rl]; omega), (by show 1 ≤ sizeLine; decide), fun l el => ?_⟩
      have sl := same_new el (.lst ([sp ++ ("while " : Str) ++ z1 ++ (" {" : Str)].map V.str))
      refine cat_ok (xs := zs) (zs := [sp ++ ("while " : Str) ++ z1 ++ (" {" : Str)]) ((s2.trans sl) _ _ hz) upd_same (by simp only [List.length_cons, List.length_nil]; omega) fun p3 H3 s3 n3 hz3 => ?_
      have s13 := (s2.trans sl).trans s3
      refine ⟨_, rfl, a, _, 2, _, rfl, rfl, (same_kt s13).sqT ha, at2, _, rfl, va, a1, j, i + 2, _, by omega, rfl, hin, by omega, gs.2.1, gs.2.2, dt_keep (same_kt s13) da, fun p4 zs4 H4 s4 n4 hz4 hr4 => ?_⟩
      have c4 := blk_cnt (i := i + 2) (show j ≤ 2 by omega) gs.2.1 gs.2.2
      have l4 := hr4.len
      refine cat_ok (s4 _ _ hz3) hz4 (by simp only [List.length_append, List.length_cons, List.length_nil]; omega) fun p5 H5 s5 n5 hz5 => ?_
      have s15 := (s13.trans s4).trans s5
      have r5 := (hrw.app (.one t3)).app hr4
      have hp5 := none_back ((s1.trans s13).trans s4) n5
      refine hU _ _ ⟨p5, _, _, _, _, _, _, _, rfl, s1.trans s15, same_kt s15, hp5, hz5, ?_, ?_⟩
      · simp only [St.midR] at r5 ⊢
        simpa [pn0] using r5
      · simp only [List.length_append, List.length_cons, List.length_nil]; omega
    | parS a1 b1 =>
      refine if_eq rfl (fun z => absurd z (by show ("par" : Str) ≠ "if"; decide +kernel)) (fun _ => ?_)
      refine if_eq rfl (fun z => absurd z (by show ("par" : Str) ≠ "while"; decide +kernel)) (fun _ => ?_)
      refine if_eq rfl (fun _ => ?_) (fun z => absurd rfl z)
      obtain ⟨j, rfl⟩ := gs_succ gs rfl
      obtain ⟨v0, va, vb, ha, d0, da, db2⟩ := dt3i dx
      have e0 : TL.tl ("par {" : Str) = render [sg .kPar, .sp, sg .lbrace] := by decide +kernel
      have n0 : rl [sg .kPar, .sp, sg .lbrace] = 5 := by decide +kernel
      have e6 : TL.tl ("} {" : Str) = render [sg .rbrace, .sp, sg .lbrace] := by decide +kernel
      have n6 : rl [sg .rbrace, .sp, sg .lbrace] = 3 := by decide +kernel
      have t3 := adt hsp e0
      have t6 := adt hsp e6
      refine ⟨_, rfl, _, rfl, _, _, rfl, rfl, addl hsp e0 (by rw [ind_rl]; omega), (by show 1 ≤ sizeLine; decide), fun l el => ?_⟩
      have sl := same_new el (.lst ([sp ++ ("par {" : Str)].map V.str))
      refine cat_ok (xs := zs) (zs := [sp ++ ("par {" : Str)]) (sl _ _ hz) upd_same (by simp only [List.length_cons, List.length_nil]; omega) fun p3 H3 s3 n3 hz3 => ?_
      have s13 := sl.trans s3
      refine ⟨_, rfl, a, _, 1, _, rfl, rfl, (same_kt s13).sqT ha, at1, _, rfl, va, a1, j, i + 2, _, by omega, rfl, hin, by omega, gs.1.1, gs.1.2, dt_keep (same_kt s13) da, fun p4 zs4 H4 s4 n4 hz4 hr4 => ?_⟩
      have c4 := blk_cnt (i := i + 2) (show j ≤ 2 by omega) gs.1.1 gs.1.2
      have l4 := hr4.len
      refine cat_ok (s4 _ _ hz3) hz4 (by simp only [List.length_append, List.length_cons, List.length_nil]; omega) fun p5 H5 s5 n5 hz5 => ?_
      have s15 := (s13.trans s4).trans s5
      have r5 := (hrw.app (.one t3)).app hr4
      have hzl5 : (zs ++ [sp ++ ("par {" : Str)] ++ zs4).length ≤ 700 := by simp only [List.length_append, List.length_cons, List.length_nil]; omega
      refine ⟨_, rfl, _, _, rfl, rfl, addl hsp e6 (by rw [ind_rl]; omega), (by show 1 ≤ sizeLine; decide), fun l2 el2 => ?_⟩
      have sl2 := same_new el2 (.lst ([sp ++ ("} {" : Str)].map V.str))
      refine cat_ok (zs := [sp ++ ("} {" : Str)]) (sl2 _ _ hz5) upd_same (by simp only [List.length_cons, List.length_nil]; omega) fun p7 H7 s7 n7 hz7 => ?_
      have s17 := (s15.trans sl2).trans s7
      refine ⟨_, rfl, a, _, 2, _, rfl, rfl, (same_kt s17).sqT ha, at2, _, rfl, vb, b1, j, i + 2, _, by omega, rfl, hin, by omega, gs.2.1, gs.2.2, dt_keep (same_kt s17) db2, fun p8 zs8 H8 s8 n8 hz8 hr8 => ?_⟩
      have c8 := blk_cnt (i := i + 2) (show j ≤ 2 by omega) gs.2.1 gs.2.2
      have l8 := hr8.len
      refine cat_ok (s8 _ _ hz7) hz8 (by simp only [List.length_append, List.length_cons, List.length_nil] at hzl5 ⊢; omega) fun p9 H9 s9 n9 hz9 => ?_
      have r9 := (r5.app (.one t6)).app hr8
      refine hU _ _ ⟨p9, _, _, _, _, _, _, _, rfl, s1.trans ((s17.trans s8).trans s9), same_kt ((s17.trans s8).trans s9), none_back (s1.trans (s17.trans s8)) n9, hz9, ?_, ?_⟩
      · simp only [St.midR] at r9 ⊢
        simpa [pn0] using r9
      · simp only [List.length_append, List.length_cons, List.length_nil] at hzl5 ⊢; omega
    | matchS h p1 cs =>
      refine if_eq rfl (fun z => absurd z (by show ("match" : Str) ≠ "if"; decide +kernel)) (fun _ => ?_)
      refine if_eq rfl (fun z => absurd z (by show ("match" : Str) ≠ "while"; decide +kernel)) (fun _ => ?_)
      refine if_eq rfl (fun z => absurd z (by show ("match" : Str) ≠ "par"; decide +kernel)) (fun _ => ?_)
      refine if_eq rfl (fun _ => ?_) (fun z => absurd rfl z)
      obtain ⟨j, rfl⟩ := gs_succ gs rfl
      obtain ⟨v0, v1, vp, vc, ha, d0, d1, dp, dc⟩ := dt4i dx
      obtain rfl := dt_str_inv d1
      obtain ⟨ac, ysc, rfl, hac, dysc⟩ := dt_tup_inv dc
      rw [Cs.ds_map] at dysc
      have lp := pn_len (k := 0) (show 2 ≤ 4 by omega) gs.2.1
      have lp2 := pn_len (k := p1.nk) (show 2 ≤ 4 by omega) gs.2.1
      have e0 : TL.tl ("match " : Str) = render [sg .kMatch, .sp] := by decide +kernel
      have n0 : rl [sg .kMatch, .sp] = 6 := by decide +kernel
      have f0 : TL.tl (" {" : Str) = render [.sp, sg .lbrace] := by decide +kernel
      have m0 : rl [.sp, sg .lbrace] = 2 := by decide +kernel
      intro d hd
      have sd := same_new hd (.dK [])
      refine ⟨_, rfl, a, _, 2, _, rfl, rfl, (same_kt sd).sqT ha, at2, vp, p1, 2, 0, by decide, rfl, by decide, gs.2.1, dt_keep (same_kt sd) dp, fun z1 H2 s2 e1 => ?_⟩
      refine ⟨_, _, rfl, rfl, addl e0 e1 (by omega), s2 _ _ upd_same, moK (("match " : Str) ++ z1), rfl, (by show 1 ≤ 15; decide), ?_⟩
      have s3 : Same H1 (upd H2 d (.dK (mergeK [] (moK (("match " : Str) ++ z1))))) := same_upd hd (sd.trans s2) _
      have lh : h.txt.length ≤ 5 := by cases h <;> decide +kernel
      have lm : ("match " : Str).length = 6 := by decide +kernel
      have l1 : (" " : Str).length = 1 := by decide +kernel
      refine ⟨d, rfl, .inl ⟨_, .inl upd_same⟩, _, rfl, a, _, 1, _, rfl, rfl, (same_kt s3).sqT ha, at1, _, rfl, a, _, 1, _, rfl, rfl, (same_kt s3).sqT ha, at1, _, _, rfl, rfl, by rw [lm, show sizeLine = 16777216 from rfl]; omega, ?_⟩
      have la1 : (("match " : Str) ++ h.txt).length ≤ 11 := by rw [TL.len_tl, TL.tl_append, List.length_append, ← TL.len_tl, ← TL.len_tl, lm]; omega
      refine ⟨_, _, rfl, rfl, by rw [l1, show sizeLine = 16777216 from rfl]; omega, ?_⟩
      have la2 : (("match " : Str) ++ h.txt ++ (" " : Str)).length ≤ 12 := by rw [TL.len_tl, TL.tl_append, List.length_append, ← TL.len_tl, ← TL.len_tl, l1]; omega
      refine ⟨_, rfl, a, _, 2, _, rfl, rfl, (same_kt s3).sqT ha, at2, vp, p1, 2, by decide, rfl, gs.2.1, dt_keep (same_kt s3) dp, fun z2 H4 s4 e2 => ?_⟩
      refine ⟨_, _, rfl, rfl, by rw [tx_len e2, show sizeLine = 16777216 from rfl]; omega, _, DGet.k (k := .inr h.txt) (s4 _ _ upd_same), ?_⟩
      rw [mo_get]
      obtain ⟨hd1, ehd⟩ : ∃ y : Str, y = moveS h (("match " : Str) ++ z1) (("match " : Str) ++ h.txt ++ (" " : Str) ++ z2) := ⟨_, rfl⟩
      have thd : TL.tl hd1 = render (sg .kMatch :: .sp :: (h.ps ++ p1.ps)) := by
        rw [ehd]
        cases h with
        | move =>
          show TL.tl (("match " : Str) ++ z1) = _
          rw [adt e0 e1, pn0]
          rfl
        | ref =>
          show TL.tl (("match " : Str) ++ ("ref" : Str) ++ (" " : Str) ++ z2) = _
          have e3 : TL.tl (("match " : Str) ++ ("ref" : Str) ++ (" " : Str)) = render [sg .kMatch, .sp, sg .kRef, .sp] := by decide +kernel
          rw [adt e3 e2, pn_nk gs.1]
          rfl
        | «mut» =>
          show TL.tl (("match " : Str) ++ ("mut" : Str) ++ (" " : Str) ++ z2) = _
          have e3 : TL.tl (("match " : Str) ++ ("mut" : Str) ++ (" " : Str)) = render [sg .kMatch, .sp, sg .kMut, .sp] := by decide +kernel
          rw [adt e3 e2, pn_nk gs.1]
          rfl
      rw [← ehd]
      have lhd : rl (sg .kMatch :: .sp :: (h.ps ++ p1.ps)) ≤ 30000 := by
        have hh : rl h.ps ≤ 5 := by cases h <;> decide +kernel
        have := sym_len .kMatch
        rw [pn0] at lp
        rw [rl_cons, rl_cons, rl_app, sp_len]
        omega
      have s14 := s3.trans s4
      have t1 := adt hsp thd
      have t2 := adt t1 f0
      refine ⟨_, rfl, .inl ⟨rfl, _, SqL.of (s14 _ _ hz)⟩, _, rfl, _, rfl, _, _, rfl, rfl, addl hsp thd (by rw [ind_rl]; omega), _, _, rfl, rfl, addl t1 f0 (by rw [rl_app, ind_rl]; omega), ?_⟩
      refine ⟨p, _, _, rfl, rfl, s14 _ _ hz, by rw [List.length_map, show sizeLine = 16777216 from rfl]; omega, ?_⟩
      have hz5 : Ls (upd H4 p (.lst (zs.map V.str ++ [V.str (sp ++ hd1 ++ (" {" : Str))]))) p (zs ++ [sp ++ hd1 ++ (" {" : Str)]) := by
        show upd H4 p _ p = _
        rw [upd_same, List.map_append]
        rfl
      generalize hH5 : upd H4 p (.lst (zs.map V.str ++ [V.str (sp ++ hd1 ++ (" {" : Str))])) = H5 at hz5 ⊢
      have s05 : Same H0 H5 := by rw [← hH5]; exact same_upd hp0 (s1.trans s14) _
      have k15 : KeepT H1 H5 := by rw [← hH5]; exact (same_kt s14).trans (kt_upd (s14 _ _ hz) (fun z => z) _)
      have r5 : Rws (zs ++ [sp ++ hd1 ++ (" {" : Str)]) (St.rws i (b.take kx) ++ [ind i ++ (sg .kMatch :: .sp :: (h.ps ++ (p1.ps ++ [.sp, sg .lbrace])))]) := hrw.app (.one (by rw [t2]; simp))
      have hcl := dts_len dysc
      rw [List.length_map] at hcl
      have gcs : cs.length ≤ 2 := gs.2.2.1
      refine ⟨_, rfl, a, _, 3, _, rfl, rfl, k15.sqT ha, at3, ac, rfl, ⟨_, k15.sqT hac⟩, for_tup (K := K) (a := ac) (xs := ysc) (fun kc σ2 H2 => ∃ (p : Addr) (zs : List Str) (o7 o8 o9 o10 : Option V), σ2 = [some (.ref av), some (.str sp), some (.ref p), some (.ref a), some (.str "match"), some (.str (sp ++ ("  " : Str))), some (.str hd1), o7, o8, o9, o10] ∧ Same H0 H2 ∧ KeepT H1 H2 ∧ H0 p = none ∧ Ls H2 p zs ∧ Rws zs (St.rws i (b.take kx) ++ [ind i ++ (sg .kMatch :: .sp :: (h.ps ++ (p1.ps ++ [.sp, sg .lbrace])))] ++ Cs.rws i (cs.take kc)) ∧ zs.length ≤ 300 + 300 * kc)
        ⟨p, _, _, _, _, _, rfl, s05, k15, hp0, hz5, by simpa [Cs.rws] using r5, by simp only [List.length_append, List.length_cons, List.length_nil]; omega⟩ ?_ ?_ ?_⟩
      · rintro kc σ2 H2 _ ⟨p, zs, _, _, _, _, _, _, k2, _⟩
        exact k2.sqT hac
      · rintro kc x σ2 H2 hx2 ⟨p, zs, o7, o8, o9, o10, rfl, s02, k12, hp0, hz, hrw, hzl⟩
        obtain ⟨dd, hdd, dcx⟩ := dts_of dysc hx2
        rw [List.getElem?_map] at hdd
        cases hc : cs[kc]? with
        | none => rw [hc] at hdd; cases hdd
        | some c =>
        rw [hc] at hdd
        cases hdd
        have hkc : kc < cs.length := (List.getElem?_eq_some_iff.mp hc).1
        cases c with
        | mk t nm bd =>
        obtain ⟨gt, gn, gbl, gbd⟩ := gs.2.2.2 t nm bd (List.mem_of_getElem? hc)
        have dcx := dt_keep k12 dcx
        obtain ⟨at', _, rfl, _, _⟩ := dt_tup_inv dcx
        obtain ⟨w0, w1, w2, hat, g0, g1, g2⟩ := dt3i dcx
        obtain rfl := dt_str_inv g0
        obtain ⟨an, ysn, rfl, han, dn⟩ := dt_tup_inv g1
        obtain rfl := strs_inv dn
        refine ⟨at', _, rfl, hat, rfl, _, _, rfl, _, _, rfl, _, _, rfl, rfl, ?_⟩
        have ln := nms_len gn (by decide)
        have e1 := adt (tl_sym .lpar) (nms_join (xs := nm))
        have e3 := adt e1 (tl_sym .rpar)
        have q1 := rl1 .lpar
        have q2 := rl1 .rpar
        refine ⟨⟨_, rfl⟩, _, rfl, an, _, rfl, .inr han, fun l hl => ?_⟩
        have s3 := same_new hl (.lst (nm.map V.str))
        refine ⟨_, l, nm, rfl, rfl, .inl (SqL.of upd_same), nms_size gn (by decide), _, _, rfl, rfl, addl (tl_sym .lpar) nms_join (by omega), _, _, rfl, rfl, addl e1 (tl_sym .rpar) (by rw [rl_app]; omega), ?_⟩
        refine ⟨_, rfl, Nat.zero_le _, fun te ete => ?_⟩
        have s4 := same_new ete (.tup [])
        refine ⟨an, te, _, rfl, rfl, (same_kt (s3.trans s4)).sqT han, SqT.of upd_same, .inr ⟨_, rfl, _, !(nm.map V.str).isEmpty, rfl, rfl, ?_⟩⟩
        have ey : (nm.map V.str).isEmpty = nm.isEmpty := by cases nm <;> rfl
        rw [ey]
        have e4 : TL.tl (if (!nm.isEmpty) = true then (("(" : Str) ++ Txt.join ", " nm ++ (")" : Str)) else Str.empty) = render (listedP nm) := by
          unfold listedP
          cases nm.isEmpty with
          | true => rfl
          | false =>
            show TL.tl (Sym.lpar.txt ++ Txt.join ", " nm ++ Sym.rpar.txt) = _
            rw [e3]
            simp
        have l4 : rl (listedP nm) ≤ 100 := by
          unfold listedP
          split
          · rw [rl_nil]; omega
          · have := sym_len .lpar
            have := sym_len .rpar
            rw [rl_cons, rl_app, rl_cons, rl_nil]; omega
        generalize (if (!nm.isEmpty) = true then (("(" : Str) ++ Txt.join ", " nm ++ (")" : Str)) else Str.empty) = lis at e4 ⊢
        have s24 := s3.trans s4
        have t1 := adt hin (tl_name t)
        have t2 := adt t1 e4
        have t3 := adt t2 f0
        have lt := rl1n gt
        refine ⟨_, rfl, _, rfl, _, rfl, _, _, rfl, rfl, addl hin (tl_name t) (by rw [ind_rl]; omega), _, rfl, _, _, rfl, rfl, addl t1 e4 (by rw [rl_app, ind_rl]; omega), _, _, rfl, rfl, addl t2 f0 (by rw [rl_app, rl_app, ind_rl]; omega), (by show 1 ≤ sizeLine; decide), fun l5 el5 => ?_⟩
        have sl := same_new el5 (.lst ([sp ++ ("  " : Str) ++ t ++ lis ++ (" {" : Str)].map V.str))
        refine cat_ok (xs := zs) (zs := [sp ++ ("  " : Str) ++ t ++ lis ++ (" {" : Str)]) ((s24.trans sl) _ _ hz) upd_same (by simp only [List.length_cons, List.length_nil]; omega) fun p6 H6 s6 n6 hz6 => ?_
        have s26 := (s24.trans sl).trans s6
        have hin4 : TL.tl (sp ++ ("  " : Str) ++ ("  " : Str)) = render (ind (i + 4)) := by rw [adt hin sp2_t, ind_add]
        refine ⟨_, rfl, _, rfl, _, _, rfl, rfl, addl hin sp2_t (by rw [ind_rl, ind_rl]; omega), w2, bd, j, i + 4, _, by omega, rfl, hin4, by omega, gbl, gbd, dt_keep (same_kt s26) g2, fun p7 zs7 H7 s7 n7 hz7 hr7 => ?_⟩
        have c7 := blk_cnt (i := i + 4) (show j ≤ 2 by omega) gbl gbd
        have l7 := hr7.len
        refine cat_ok (s7 _ _ hz6) hz7 (by simp only [List.length_append, List.length_cons, List.length_nil]; omega) fun p8 H8 s8 n8 hz8 => ?_
        have t8 := adt hin (tl_sym .rbrace)
        refine ⟨_, rfl, _, _, rfl, rfl, addl hin (tl_sym .rbrace) (by rw [ind_rl]; have := rl1 .rbrace; omega), (by show 1 ≤ sizeLine; decide), fun l9 el9 => ?_⟩
        have sl9 := same_new el9 (.lst ([sp ++ ("  " : Str) ++ ("}" : Str)].map V.str))
        refine cat_ok (zs := [sp ++ ("  " : Str) ++ ("}" : Str)]) (sl9 _ _ hz8) upd_same (by simp only [List.length_append, List.length_cons, List.length_nil]; omega) fun p10 H10 s10 n10 hz10 => ?_
        have s210 := (((s26.trans s7).trans s8).trans sl9).trans s10
        refine ⟨p10, _, _, _, _, _, rfl, s02.trans s210, k12.trans (same_kt s210), none_back (s02.trans (((s26.trans s7).trans s8).trans sl9)) n10, hz10, ?_, ?_⟩
        · have r10 := ((hrw.app (.one t3)).app hr7).app (Rws.one (z := sp ++ ("  " : Str) ++ ("}" : Str)) t8)
          rw [List.take_succ, hc, crws_app]
          simp only [Option.toList, Cs.rws, Cs.rows]
          simpa using r10
        · simp only [List.length_append, List.length_cons, List.length_nil]; omega
      · rintro σ2 H2 ⟨p, zs, o7, o8, o9, o10, rfl, s02, k12, hp0, hz, hrw, hzl⟩
        rw [hcl, List.take_length] at hrw
        refine hU _ _ ⟨p, zs, _, _, _, _, _, _, rfl, s02, k12, hp0, hz, ?_, by omega⟩
        simp only [St.midR]
        simpa using hrw
    | letS x kd e =>
      refine if_eq rfl (fun z => absurd z (by show ("let" : Str) ≠ "if"; decide +kernel)) (fun _ => ?_)
      refine if_eq rfl (fun z => absurd z (by show ("let" : Str) ≠ "while"; decide +kernel)) (fun _ => ?_)
      refine if_eq rfl (fun z => absurd z (by show ("let" : Str) ≠ "par"; decide +kernel)) (fun _ => ?_)
      refine if_eq rfl (fun z => absurd z (by show ("let" : Str) ≠ "match"; decide +kernel)) (fun _ => ?_)
      exact hU _ _ ⟨p, zs, _, _, _, _, _, _, rfl, s1, KeepT.refl _, hp0, hz, by simpa [St.midR] using hrw, by omega⟩
    | openS _ _ =>
      refine if_eq rfl (fun z => absurd z (by show ("open" : Str) ≠ "if"; decide +kernel)) (fun _ => ?_)
      refine if_eq rfl (fun z => absurd z (by show ("open" : Str) ≠ "while"; decide +kernel)) (fun _ => ?_)
      refine if_eq rfl (fun z => absurd z (by show ("open" : Str) ≠ "par"; decide +kernel)) (fun _ => ?_)
      refine if_eq rfl (fun z => absurd z (by show ("open" : Str) ≠ "match"; decide +kernel)) (fun _ => ?_)
      exact hU _ _ ⟨p, zs, _, _, _, _, _, _, rfl, s1, KeepT.refl _, hp0, hz, by simpa [St.midR] using hrw, by omega⟩
    | showS _ =>
      refine if_eq rfl (fun z => absurd z (by show ("show" : Str) ≠ "if"; decide +kernel)) (fun _ => ?_)
      refine if_eq rfl (fun z => absurd z (by show ("show" : Str) ≠ "while"; decide +kernel)) (fun _ => ?_)
      refine if_eq rfl (fun z => absurd z (by show ("show" : Str) ≠ "par"; decide +kernel)) (fun _ => ?_)
      refine if_eq rfl (fun z => absurd z (by show ("show" : Str) ≠ "match"; decide +kernel)) (fun _ => ?_)
      exact hU _ _ ⟨p, zs, _, _, _, _, _, _, rfl, s1, KeepT.refl _, hp0, hz, by simpa [St.midR] using hrw, by omega⟩
    | pushS _ _ =>
      refine if_eq rfl (fun z => absurd z (by show ("push" : Str) ≠ "if"; decide +kernel)) (fun _ => ?_)
      refine if_eq rfl (fun z => absurd z (by show ("push" : Str) ≠ "while"; decide +kernel)) (fun _ => ?_)
      refine if_eq rfl (fun z => absurd z (by show ("push" : Str) ≠ "par"; decide +kernel)) (fun _ => ?_)
      refine if_eq rfl (fun z => absurd z (by show ("push" : Str) ≠ "match"; decide +kernel)) (fun _ => ?_)
      exact hU _ _ ⟨p, zs, _, _, _, _, _, _, rfl, s1, KeepT.refl _, hp0, hz, by simpa [St.midR] using hrw, by omega⟩
    | takeS _ _ =>
      refine if_eq rfl (fun z => absurd z (by show ("take" : Str) ≠ "if"; decide +kernel)) (fun _ => ?_)
      refine if_eq rfl (fun z => absurd z (by show ("take" : Str) ≠ "while"; decide +kernel)) (fun _ => ?_)
      refine if_eq rfl (fun z => absurd z (by show ("take" : Str) ≠ "par"; decide +kernel)) (fun _ => ?_)
      refine if_eq rfl (fun z => absurd z (by show ("take" : Str) ≠ "match"; decide +kernel)) (fun _ => ?_)
      exact hU _ _ ⟨p, zs, _, _, _, _, _, _, rfl, s1, KeepT.refl _, hp0, hz, by simpa [St.midR] using hrw, by omega⟩
    | doS _ =>
      refine if_eq rfl (fun z => absurd z (by show ("do" : Str) ≠ "if"; decide +kernel)) (fun _ => ?_)
      refine if_eq rfl (fun z => absurd z (by show ("do" : Str) ≠ "while"; decide +kernel)) (fun _ => ?_)
      refine if_eq rfl (fun z => absurd z (by show ("do" : Str) ≠ "par"; decide +kernel)) (fun _ => ?_)
      refine if_eq rfl (fun z => absurd z (by show ("do" : Str) ≠ "match"; decide +kernel)) (fun _ => ?_)
      exact hU _ _ ⟨p, zs, _, _, _, _, _, _, rfl, s1, KeepT.refl _, hp0, hz, by simpa [St.midR] using hrw, by omega⟩
    | setS _ _ =>
      refine if_eq rfl (fun z => absurd z (by show ("set" : Str) ≠ "if"; decide +kernel)) (fun _ => ?_)
      refine if_eq rfl (fun z => absurd z (by show ("set" : Str) ≠ "while"; decide +kernel)) (fun _ => ?_)
      refine if_eq rfl (fun z => absurd z (by show ("set" : Str) ≠ "par"; decide +kernel)) (fun _ => ?_)
      refine if_eq rfl (fun z => absurd z (by show ("set" : Str) ≠ "match"; decide +kernel)) (fun _ => ?_)
      exact hU _ _ ⟨p, zs, _, _, _, _, _, _, rfl, s1, KeepT.refl _, hp0, hz, by simpa [St.midR] using hrw, by omega⟩
  · rintro σ' H' ⟨p, zs, _, _, _, _, _, _, _, _, rfl, s1, hp0, hz, hrw⟩
    rw [hxl, List.take_length] at hrw
    exact ⟨_, rfl, q p zs H' s1 hp0 hz hrw⟩
/-- rows of blocks, at every depth -/
theorem rows_ok (T : Tx K mg) : ∀ n, n ≤ 3 → FnOk P w K mg base CX0 (n + 14) (a_law_rows K) (fdOf K d_law_rows) ["_law_trees", "_law_space"] (spRows K n)
  | 0, _ => by
    have no : ∀ vs H Q E, ¬ spRows K 0 vs H Q E := fun vs H Q E z => by
      obtain ⟨v, b, m, i, sp, hm, _⟩ := z
      exact absurd hm (Nat.not_lt_zero m)
    exact ⟨fun vs H Q E h => absurd h (no vs H Q E), fun A outer s H args us vs Q E _ _ _ _ h => absurd h (no vs H Q E)⟩
  | n + 1, hn => ok_rows T n (by omega) (k := n + 14) (by omega) (by omega) (rows_ok T n (by omega))
end
end Ko
end
section
set_option Elab.async false
set_option linter.all false
set_option maxRecDepth 100000
set_option maxHeartbeats 4000000
/-! The law's rows of a program -/
namespace Ko
open PySem PySem.Spec PyProof.Rows L2
theorem fn_cnt {f : Fn} (g : GF f) : (fnRows f).length ≤ 240 := by
  have := blk_cnt (i := 2) (m := 2) (by decide) g.2.2.2.2.1.1 g.2.2.2.2.1.2
  simp only [fnRows, List.length_cons, List.length_append, List.length_nil]
  omega
section
variable {P : Program} {w : World} {K : PySem.W.Frag} {mg : Str → Option Value} {base : Heap}
def spPR (K : PySem.W.Frag) : Sp := fun vs H Q _ => ∃ v p, vs = [v] ∧ GP p ∧ Dt K H v (Pr.d p) ∧ RwQ (prRows p) H Q
theorem ok_program_rows (T : Tx K mg) : FnOk P w K mg base CX0 18 (a_law_program_rows K) (fdOf K d_law_program_rows) ["_law_program_here"] (spPR K) := by
  have G_law_text := tx_ok (P := P) (w := w) (base := base) T 4 (by decide)
  have G_law_kind_text := kt_ok (P := P) (w := w) (base := base) T 3 (by decide)
  have G_law_rows := rows_ok (P := P) (w := w) (base := base) T 3 (by decide)
  have G_law_listed := ok_listed (P := P) (w := w) (base := base) T
  have G_law_tag_text := ok_tag_text (P := P) (w := w) (base := base) T
  refine (F_law_program_rows T).ok sc_law_program_rows (fun vs H Q E h => ?_) (fun cdv A0 outer s0 H0 vs Q E hr h => ?_)
  · obtain ⟨v, p, rfl, _⟩ := h
    rfl
  obtain ⟨v, pr, rfl, gp, dp, q⟩ := h
  refine ⟨_, PSs.nox (pss_cons (ps_setLc (i := 2) (own := [("_law_name_here", 1), ("_law_fields", 10)]) rfl sc_law_program_rows.nd rfl rfl (sw_true rfl rfl rfl (by decide +kernel)) (pi_tup (pe_ix ix_tup (pv 0) pe_int (fun _ _ => rfl))) (blkOk_by (N := ["_law_program_here", "_law_name_here", "_law_rows_here", "_law_tags_here", "_law_params", "_law_kind_here", "_law_lent", "_law_trees", "_law_result", "_law_told_here", "_law_fields", "_law_tag"]) (sc := defScope s_law_program_rows) (by decide +kernel)) (fun _ _ _ _ _ => (show PG _ _ (gTup K 2 (gCons (gName 1) (gCons (gName 10) gNil))) from (pg_tup rfl (pgs_cons (pg_name (i := 1) sc_law_program_rows.nd rfl (Or.inl rfl)) (pgs_cons (pg_name (i := 10) sc_law_program_rows.nd rfl (Or.inl rfl)) pgs_nil))))) (fun _ _ _ _ _ => pts_nil) (fun _ _ _ _ _ => (pe_op op_add_str (pe_op op_add_str (pe_op op_add_str (pe_op op_add_str pe_str (pv 1)) pe_str) (pe_call G_law_listed (hr.mono (by omega)) rfl (m_law_listed T) (F_law_listed T).kp (B_law_listed T) .nil pass0 (pa_cons (pv 10) pa_nil))) pe_str))) (pss_cons (ps_for PassesOwn.never rfl (pi_tup (pe_ix ix_tup (pv 0) pe_int (fun _ _ => rfl))) (pg_tup rfl (pgs_cons (pg_name (i := 1) sc_law_program_rows.nd rfl (Or.inl rfl)) (pgs_cons (pg_name (i := 3) sc_law_program_rows.nd rfl (Or.inl rfl)) pgs_nil))) (pss_one (ps_expr (pe_bm PySem.F.plainAttrs_list PySem.F.slot_list_append PySem.F.type_list_append mt_append (pv 2) (pa_cons (pe_op op_add_str (pe_op op_add_str (pe_op op_add_str (pe_op op_add_str pe_str (pv 1)) pe_str) (pe_join pe_str (pe_lc (own := [("_law_tag", 11)]) rfl sc_law_program_rows.nd (pi_tup (pv 3)) (blkOk_by (N := ["_law_program_here", "_law_name_here", "_law_rows_here", "_law_tags_here", "_law_params", "_law_kind_here", "_law_lent", "_law_trees", "_law_result", "_law_told_here", "_law_fields", "_law_tag"]) (sc := defScope s_law_program_rows) (by decide +kernel)) (fun _ _ _ _ _ => (pg_name (i := 11) sc_law_program_rows.nd rfl (Or.inl rfl))) (fun _ _ _ _ _ => pts_nil) (fun _ _ _ _ _ => (pe_call G_law_tag_text (hr.mono (by omega)) rfl (m_law_tag_text T) (F_law_tag_text T).kp (B_law_tag_text T) .nil pass0 (pa_cons (pv 11) pa_nil)))))) pe_str) pa_nil))))) (pss_cons (ps_for PassesOwn.never rfl (pi_tup (pe_ix ix_tup (pv 0) pe_int (fun _ _ => rfl))) (pg_tup rfl (pgs_cons (pg_name (i := 1) sc_law_program_rows.nd rfl (Or.inl rfl)) (pgs_cons (pg_name (i := 4) sc_law_program_rows.nd rfl (Or.inl rfl)) (pgs_cons (pg_name (i := 5) sc_law_program_rows.nd rfl (Or.inl rfl)) (pgs_cons (pg_name (i := 6) sc_law_program_rows.nd rfl (Or.inl rfl)) (pgs_cons (pg_name (i := 7) sc_law_program_rows.nd rfl (Or.inl rfl)) (pgs_cons (pg_name (i := 8) sc_law_program_rows.nd rfl (Or.inl rfl)) pgs_nil))))))) (pss_cons (ps_set (i := 9) sc_law_program_rows.nd rfl (Or.inl rfl) (pe_op op_mul_str (pe_op op_add_str pe_str (pe_join pe_str (pe_callTy call_list_of (by rfl) (z_list T) (by decide +kernel) (pa_cons (pv 6) pa_nil)))) (pe_callTy call_int1 (by rfl) (z_int T) (by decide +kernel) (pa_cons (pe_cmpR (op_ne_nilT hr.units0) (pv 6) (pe_tup pa_nil) (nomark _)) pa_nil)))) (pss_cons (ps_expr (pe_bm PySem.F.plainAttrs_list PySem.F.slot_list_append PySem.F.type_list_append mt_append (pv 2) (pa_cons (pe_op op_add_str (pe_op op_add_str (pe_op op_add_str (pe_op op_add_str (pe_op op_add_str (pe_op op_add_str (pe_op op_add_str pe_str (pv 1)) pe_str) (pe_call G_law_listed (hr.mono (by omega)) rfl (m_law_listed T) (F_law_listed T).kp (B_law_listed T) .nil pass0 (pa_cons (pv 4) pa_nil))) pe_str) (pe_call G_law_kind_text (hr.mono (by omega)) rfl (m_law_kind_text T) (F_law_kind_text T).kp (B_law_kind_text T) .nil pass0 (pa_cons (pv 5) pa_nil))) (pv 9)) pe_str) pa_nil))) (pss_one (ps_set (i := 2) sc_law_program_rows.nd rfl (Or.inl rfl) (pe_op op_cat (pe_op op_cat (pv 2) (pe_call G_law_rows (hr.mono (by omega)) rfl (m_law_rows T) (F_law_rows T).kp (B_law_rows T) .nil pass0 (pa_cons (pv 7) (pa_cons pe_str pa_nil)))) (pe_lst (pa_cons (pe_op op_add_str (pe_op op_add_str pe_str (pe_call G_law_text (hr.mono (by omega)) rfl (m_law_text T) (F_law_text T).kp (B_law_text T) .nil pass0 (pa_cons (pv 8) (pa_cons pe_int pa_nil)))) pe_str) (pa_cons pe_str pa_nil))))))))) (pss_one (ps_ret (pv 2)))))), ?_⟩
  obtain ⟨a, _, rfl, _, _⟩ := dt_tup_inv dp
  obtain ⟨vr, vv, vf, ha, dr, dv, df⟩ := dt3i dp
  obtain ⟨ar, xr, rfl, har, dxr⟩ := dt_tup_inv dr
  obtain ⟨av, xv, rfl, hav, dxv⟩ := dt_tup_inv dv
  obtain ⟨af, xf, rfl, haf, dxf⟩ := dt_tup_inv df
  have hlv := dts_len dxv
  have hlf := dts_len dxf
  rw [List.length_map] at hlv hlf
  obtain ⟨⟨gr1, gr2⟩, ⟨gv1, gv2⟩, ⟨gf1, gf2⟩, gf3⟩ := gp
  have f1 : TL.tl (" { " : Str) = render [.sp, sg .lbrace, .sp] := by decide +kernel
  have m1 : rl [.sp, sg .lbrace, .sp] = 3 := by decide +kernel
  have f2 : TL.tl (" }" : Str) = render [.sp, sg .rbrace] := by decide +kernel
  have m2 : rl [.sp, sg .rbrace] = 2 := by decide +kernel
  refine ⟨_, rfl, a, _, 0, _, rfl, rfl, ha, at0, ar, rfl, ⟨_, har⟩, fun D eD => ?_⟩
  refine lc_texts (K := K) (enc := recD) (pr := recPs) (items := pr.recs) har eD dxr (by omega) ?_ ?_
  · intro x hx v H Q' Z dx tq
    have gx := gr2 x hx
    obtain ⟨b, _, rfl, _, _⟩ := dt_tup_inv dx
    obtain ⟨v0, v1, hb, d0, d1⟩ := dt2i dx
    obtain rfl := dt_str_inv d0
    refine ⟨b, _, rfl, hb, rfl, _, _, rfl, _, _, rfl, rfl, rfl, ?_⟩
    have e0 : TL.tl ("record " : Str) = render [sg .kRecord, .sp] := by decide +kernel
    have n0 : rl [sg .kRecord, .sp] = 7 := by decide +kernel
    have ln := rl1n gx.1
    have gps : GPs 0 3 x.2 := ⟨Nat.zero_le _, gx.2.2.1, gx.2.2.2⟩
    have lps := pairs_len gps (by decide)
    have t1 := adt e0 (tl_name x.1)
    have t2 := adt t1 f1
    refine ⟨_, rfl, _, _, rfl, rfl, addl e0 (tl_name x.1) (by omega), _, _, rfl, rfl, addl t1 f1 (by rw [rl_app]; omega), _, rfl, v1, x.2, rfl, gps, d1, fun z3 H3 s3 e3 => ?_⟩
    have t3 := adt t2 e3
    refine ⟨_, _, rfl, rfl, addl t2 e3 (by rw [rl_app, rl_app]; omega), _, _, rfl, rfl, addl t3 f2 (by rw [rl_app, rl_app, rl_app]; omega), tq _ _ s3 ?_⟩
    rw [adt t3 f2]
    simp [recPs]
  intro H1 zs s1 hz hrw
  have hD0 : H0 D = none := eD
  have hrw : Rws zs (pr.recs.map recPs) := hrw
  have hzl : zs.length ≤ 2 := by
    have := (show Rws zs (pr.recs.map recPs) from hrw).len
    rw [List.length_map] at this
    omega
  let Inv : List (List Pc) → Nat → L2.St → Hp → Prop := fun rs bnd σ' H' => ∃ (p : Addr) (zs : List Str) (o1 o3 o4 o5 o6 o7 o8 o9 o10 o11 : Option V), σ' = [some (.ref a), o1, some (.ref p), o3, o4, o5, o6, o7, o8, o9, o10, o11] ∧ Same H0 H' ∧ H0 p = none ∧ Ls H' p zs ∧ Rws zs rs ∧ zs.length ≤ bnd
  refine ⟨_, rfl, a, _, 1, _, rfl, rfl, (same_kt s1).sqT ha, at1, av, rfl, ⟨_, (same_kt s1).sqT hav⟩, for_tup (K := K) (a := av) (xs := xv) (fun kx => Inv (pr.recs.map recPs ++ (pr.vars.take kx).map varPs) (2 + kx)) ⟨D, zs, _, _, _, _, _, _, _, _, _, _, rfl, s1, hD0, hz, by simpa using hrw, hzl⟩ ?_ ?_ ?_⟩
  · rintro kx σ' H' _ ⟨p, zs, _, _, _, _, _, _, _, _, _, _, _, s1, _⟩
    exact (same_kt s1).sqT hav
  · rintro kx x σ' H1 hx ⟨p, zs, o1, o3, o4, o5, o6, o7, o8, o9, o10, o11, rfl, s1, hp0, hz, hrw, hzl⟩
    obtain ⟨dd, hdd, dx⟩ := dts_of dxv hx
    rw [List.getElem?_map] at hdd
    cases hb : pr.vars[kx]? with
    | none => rw [hb] at hdd; cases hdd
    | some x =>
    rw [hb] at hdd
    cases hdd
    have hkx : kx < pr.vars.length := (List.getElem?_eq_some_iff.mp hb).1
    have gx := gv2 x (List.mem_of_getElem? hb)
    have dx := dt_keep (same_kt s1) dx
    obtain ⟨b, _, rfl, _, _⟩ := dt_tup_inv dx
    obtain ⟨v0, v1, hb2, d0, d1⟩ := dt2i dx
    obtain rfl := dt_str_inv d0
    obtain ⟨at', xt, rfl, hat, dxt⟩ := dt_tup_inv d1
    refine ⟨b, _, rfl, hb2, rfl, _, _, rfl, _, _, rfl, rfl, ?_⟩
    have e0 : TL.tl ("variant " : Str) = render [sg .kVariant, .sp] := by decide +kernel
    have n0 : rl [sg .kVariant, .sp] = 8 := by decide +kernel
    have ln := rl1n gx.1
    have t1 := adt e0 (tl_name x.1)
    have t2 := adt t1 f1
    have lts := tags_len gx.2.1.2 gx.2.2
    refine ⟨_, rfl, .inl ⟨rfl, _, SqL.of hz⟩, _, rfl, _, _, rfl, rfl, addl e0 (tl_name x.1) (by omega), _, _, rfl, rfl, addl t1 f1 (by rw [rl_app]; omega), ⟨_, rfl⟩, _, rfl, at', rfl, ⟨_, hat⟩, fun D2 eD2 => ?_⟩
    have hxl := gx.2.1.2
    refine lc_texts (K := K) (enc := tagD) (pr := tagPs) (items := x.2) hat eD2 dxt (by omega) ?_ ?_
    · intro y hy v H Q' Z dy tq
      exact ⟨rfl, _, rfl, v, y, rfl, gx.2.2 y hy, dy, tq⟩
    intro H3 zs3 s3 hz3 hm3
    have hb3 : ∀ y ∈ x.2.map tagPs, rl y ≤ 80 := fun y hy => by
      obtain ⟨t, ht, rfl⟩ := List.mem_map.mp hy
      exact tag_len (gx.2.2 t ht)
    obtain ⟨zl, zb⟩ := zs_len hm3 hb3
    rw [List.length_map] at zl
    have hs := sum_le zs3 zb
    have h1 : (", " : Str).length = 2 := by decide +kernel
    have hs2 : zs3.length * 80 ≤ 3 * 80 := Nat.mul_le_mul_right _ (by omega)
    have e3 := tx_join cs_t hm3
    have t3 := adt t2 e3
    refine ⟨_, D2, zs3, rfl, rfl, .inl (SqL.of hz3), by rw [h1]; omega, _, _, rfl, rfl, addl t2 e3 (by rw [rl_app, rl_app]; omega), _, _, rfl, rfl, addl t3 f2 (by rw [rl_app, rl_app, rl_app]; omega), ?_⟩
    refine ⟨p, _, _, rfl, rfl, s3 _ _ hz, by rw [List.length_map, show sizeLine = 16777216 from rfl]; omega, ?_⟩
    refine ⟨p, zs ++ [("variant " : Str) ++ x.1 ++ (" { " : Str) ++ Txt.join ", " zs3 ++ (" }" : Str)], _, _, _, _, _, _, _, _, _, _, rfl, same_upd hp0 (s1.trans s3) _, hp0, ?_, ?_, ?_⟩
    · show upd H3 p _ p = _
      rw [upd_same, List.map_append]
      rfl
    · rw [List.take_succ, hb, List.map_append, ← List.append_assoc]
      refine hrw.app (.one ?_)
      rw [adt t3 f2]
      simp [varPs]
    · simp only [List.length_append, List.length_cons, List.length_nil]; omega
  rintro σ' H1 ⟨p, zs, o1, o3, o4, o5, o6, o7, o8, o9, o10, o11, rfl, s1, hp0, hz, hrw, hzl⟩
  rw [hlv, List.take_length] at hrw
  refine ⟨_, rfl, a, _, 2, _, rfl, rfl, (same_kt s1).sqT ha, at2, af, rfl, ⟨_, (same_kt s1).sqT haf⟩, for_tup (K := K) (a := af) (xs := xf) (fun kx => Inv (pr.recs.map recPs ++ pr.vars.map varPs ++ ((pr.fns.take kx).map fnRows).flatten) (10 + 300 * kx)) ⟨p, zs, _, _, _, _, _, _, _, _, _, _, rfl, s1, hp0, hz, by simpa using hrw, by omega⟩ ?_ ?_ ?_⟩
  · rintro kx σ' H' _ ⟨p, zs, _, _, _, _, _, _, _, _, _, _, _, s1, _⟩
    exact (same_kt s1).sqT haf
  · rintro kx x σ' H1 hx ⟨p, zs, o1, o3, o4, o5, o6, o7, o8, o9, o10, o11, rfl, s1, hp0, hz, hrw, hzl⟩
    obtain ⟨dd, hdd, dx⟩ := dts_of dxf hx
    rw [List.getElem?_map] at hdd
    cases hb : pr.fns[kx]? with
    | none => rw [hb] at hdd; cases hdd
    | some f =>
    rw [hb] at hdd
    cases hdd
    have hkx : kx < pr.fns.length := (List.getElem?_eq_some_iff.mp hb).1
    have gf := gf3 f (List.mem_of_getElem? hb)
    have dx := dt_keep (same_kt s1) dx
    obtain ⟨gfn, gfp, gfk, gfl, gfb, gfr⟩ := gf
    obtain ⟨b, _, e', hb2, dys⟩ := dt_tup_inv dx
    subst e'
    cases dys with
    | @cons w0 _ _ _ d0 dys =>
    cases dys with
    | @cons w1 _ _ _ d1 dys =>
    cases dys with
    | @cons w2 _ _ _ d2 dys =>
    cases dys with
    | @cons w3 _ _ _ d3 dys =>
    cases dys with
    | @cons w4 _ _ _ d4 dys =>
    cases dys with
    | @cons w5 _ _ _ d5 dys =>
    cases dys
    obtain rfl := dt_str_inv d0
    obtain ⟨an, ysn, rfl, han, dn⟩ := dt_tup_inv d3
    obtain rfl := strs_inv dn
    refine ⟨b, _, rfl, hb2, rfl, _, _, rfl, _, _, rfl, _, _, rfl, _, _, rfl, _, _, rfl, _, _, rfl, rfl, ?_⟩
    have ln := nms_len gfl (by decide)
    have e0 : TL.tl (" from " : Str) = render [.sp, sg .kFrom, .sp] := by decide +kernel
    have n0 : rl [.sp, sg .kFrom, .sp] = 6 := by decide +kernel
    have e1 := adt e0 (nms_join (xs := f.lent))
    refine ⟨⟨_, rfl⟩, _, rfl, an, _, rfl, .inr han, fun l hl => ?_⟩
    have s3 := same_new hl (.lst (f.lent.map V.str))
    refine ⟨_, l, f.lent, rfl, rfl, .inl (SqL.of upd_same), nms_size gfl (by decide), _, _, rfl, rfl, addl e0 nms_join (by omega), ?_⟩
    refine ⟨_, rfl, Nat.zero_le _, fun te ete => ?_⟩
    have s4 := same_new ete (.tup [])
    refine ⟨an, te, _, rfl, rfl, (same_kt (s3.trans s4)).sqT han, SqT.of upd_same, .inr ⟨_, rfl, _, !(f.lent.map V.str).isEmpty, rfl, rfl, ?_⟩⟩
    have ey : (f.lent.map V.str).isEmpty = f.lent.isEmpty := by cases f.lent <;> rfl
    rw [ey]
    have e4 : TL.tl (if (!f.lent.isEmpty) = true then ((" from " : Str) ++ Txt.join ", " f.lent) else Str.empty) = render (fromPs f.lent) := by
      unfold fromPs
      cases f.lent.isEmpty with
      | true => rfl
      | false =>
        show TL.tl ((" from " : Str) ++ Txt.join ", " f.lent) = _
        rw [e1]
        rfl
    have l4 : rl (fromPs f.lent) ≤ 100 := by
      unfold fromPs
      split
      · rw [rl_nil]; omega
      · have := sym_len .kFrom
        rw [rl_cons, rl_cons, rl_cons, sp_len]; omega
    generalize (if (!f.lent.isEmpty) = true then ((" from " : Str) ++ Txt.join ", " f.lent) else Str.empty) = lis at e4 ⊢
    have s24 := s3.trans s4
    have k0 : TL.tl ("fn " : Str) = render [sg .kFn, .sp] := by decide +kernel
    have j0 : rl [sg .kFn, .sp] = 3 := by decide +kernel
    have k3 : TL.tl (") -> " : Str) = render [sg .rpar, .sp, sg .arrow, .sp] := by decide +kernel
    have j3 : rl [sg .rpar, .sp, sg .arrow, .sp] = 5 := by decide +kernel
    have k5 : TL.tl (" {" : Str) = render [.sp, sg .lbrace] := by decide +kernel
    have j5 : rl [.sp, sg .lbrace] = 2 := by decide +kernel
    have lnm := rl1n gfn
    have l1 := rl1 .lpar
    have gps : GPs 0 3 f.params := ⟨Nat.zero_le _, by have := gfp.2.1; omega, gfp.2.2⟩
    have lps := pairs_len gps (by decide)
    have lk := kd_len 2 f.kind gfk
    have t1 := adt k0 (tl_name f.name)
    have t2 := adt t1 (tl_sym .lpar)
    refine ⟨_, rfl, .inl ⟨rfl, _, SqL.of (s24 _ _ hz)⟩, _, rfl, _, _, rfl, rfl, addl k0 (tl_name f.name) (by omega), _, _, rfl, rfl, addl t1 (tl_sym .lpar) (by rw [rl_app]; omega), _, rfl, _, f.params, rfl, gps, dt_keep (same_kt s24) d1, fun z5 H5 s5 e5 => ?_⟩
    have t3 := adt t2 e5
    have t4 := adt t3 k3
    refine ⟨_, _, rfl, rfl, addl t2 e5 (by rw [rl_app, rl_app]; omega), _, _, rfl, rfl, addl t3 k3 (by rw [rl_app, rl_app, rl_app]; omega), _, rfl, _, f.kind, 2, by decide, rfl, gfk, dt_keep (same_kt (s24.trans s5)) d2, fun z6 H6 s6 e6 => ?_⟩
    have t5 := adt t4 e6
    have t6 := adt t5 e4
    have t7 := adt t6 k5
    refine ⟨_, _, rfl, rfl, addl t4 e6 (by rw [rl_app, rl_app, rl_app, rl_app]; omega), _, rfl, _, _, rfl, rfl, addl t5 e4 (by rw [rl_app, rl_app, rl_app, rl_app, rl_app]; omega), _, _, rfl, rfl, addl t6 k5 (by rw [rl_app, rl_app, rl_app, rl_app, rl_app, rl_app]; omega), ?_⟩
    have s26 := (s24.trans s5).trans s6
    have hz6 := s26 _ _ hz
    refine ⟨p, _, _, rfl, rfl, hz6, by rw [List.length_map, show sizeLine = 16777216 from rfl]; omega, ?_⟩
    generalize hzd : ("fn " : Str) ++ f.name ++ ("(" : Str) ++ z5 ++ (") -> " : Str) ++ z6 ++ lis ++ (" {" : Str) = hd1
    have thd : TL.tl hd1 = render (fnHead f) := by
      rw [← hzd]
      show TL.tl (("fn " : Str) ++ f.name ++ Sym.lpar.txt ++ z5 ++ (") -> " : Str) ++ z6 ++ lis ++ (" {" : Str)) = _
      rw [t7]
      simp [fnHead]
    have hz7 : Ls (upd H6 p (.lst (zs.map V.str ++ [V.str hd1]))) p (zs ++ [hd1]) := by
      show upd H6 p _ p = _
      rw [upd_same, List.map_append]
      rfl
    have s07 : Same H0 (upd H6 p (.lst (zs.map V.str ++ [V.str hd1]))) := same_upd hp0 (s1.trans s26) _
    have k17 : KeepT H1 (upd H6 p (.lst (zs.map V.str ++ [V.str hd1]))) := (same_kt s26).trans (kt_upd hz6 (fun z => z) _)
    generalize upd H6 p (.lst (zs.map V.str ++ [V.str hd1])) = H7 at hz7 s07 k17 ⊢
    refine ⟨_, rfl, _, rfl, _, f.body, 2, 2, "  ", by decide, rfl, sp2_t, by decide, gfb.1, gfb.2, dt_keep k17 (by rw [blD, St.ds_map]; exact d4), fun p8 zs8 H8 s8 n8 hz8 hr8 => ?_⟩
    have c8 := blk_cnt (i := 2) (m := 2) (by decide) gfb.1 gfb.2
    have l8 := hr8.len
    refine cat_ok (s8 _ _ hz7) hz8 (by simp only [List.length_append, List.length_cons, List.length_nil]; omega) fun p9 H9 s9 n9 hz9 => ?_
    have k8 : TL.tl ("  return " : Str) = render (ind 2 ++ [sg .kReturn, .sp]) := by decide +kernel
    have j8 : rl (ind 2 ++ [sg .kReturn, .sp]) = 9 := by decide +kernel
    have le := pn_len (k := 0) (show 3 ≤ 4 by omega) gfr
    have ls := rl1 .semi
    refine ⟨_, rfl, _, f.result, 3, 0, by decide, rfl, by decide, gfr, dt_keep (k17.trans (same_kt (s8.trans s9))) d5, fun z10 H10 s10 e10 => ?_⟩
    have u1 := adt k8 e10
    have u2 := adt u1 (tl_sym .semi)
    refine ⟨_, _, rfl, rfl, addl k8 e10 (by omega), _, _, rfl, rfl, addl u1 (tl_sym .semi) (by rw [rl_app]; omega), (by show 2 ≤ sizeLine; decide), fun l11 el11 => ?_⟩
    have s11 := same_new el11 (.lst ([("  return " : Str) ++ z10 ++ (";" : Str), ("}" : Str)].map V.str))
    refine cat_ok (zs := [("  return " : Str) ++ z10 ++ (";" : Str), ("}" : Str)]) ((s10.trans s11) _ _ hz9) upd_same (by simp only [List.length_append, List.length_cons, List.length_nil]; omega) fun p12 H12 s12 n12 hz12 => ?_
    have s812 := (((s8.trans s9).trans s10).trans s11)
    refine ⟨p12, _, _, _, _, _, _, _, _, _, _, _, rfl, s07.trans (s812.trans s12), none_back (s07.trans s812) n12, hz12, ?_, ?_⟩
    · have r12 := ((hrw.app (.one thd)).app hr8).app ((Rws.one (z := ("  return " : Str) ++ z10 ++ (";" : Str)) u2).app (Rws.one (z := ("}" : Str)) (tl_sym .rbrace)))
      rw [List.take_succ, hb]
      simp only [Option.toList, List.map_append, List.map_cons, List.map_nil, List.flatten_append, List.flatten_cons, List.flatten_nil, List.append_nil]
      rw [fnRows]
      simpa [pn0] using r12
    · simp only [List.length_append, List.length_cons, List.length_nil]; omega
  · rintro σ' H' ⟨p, zs, o1, o3, o4, o5, o6, o7, o8, o9, o10, o11, rfl, s1, hp0, hz, hrw, hzl⟩
    rw [hlf, List.take_length] at hrw
    exact ⟨_, rfl, q p zs H' s1 hp0 hz (by rw [prRows, ← List.append_assoc]; exact hrw)⟩
end
end Ko
end
section
set_option Elab.async false
set_option linter.all false
set_option maxRecDepth 100000
set_option maxHeartbeats 4000000
/-! The law's told, begun -/
namespace Ko
open PySem PySem.Spec PyProof.Rows L2
section
variable {P : Program} {w : World} {K : PySem.W.Frag} {mg : Str → Option Value} {base : Heap}
def NF : Nat := 215
/-- parse, at its fuel -/
theorem parse_ok (T : Tx K mg) : FnOk P w K mg base (L2.CX P w) (NF + 11) (a_parse K) (fdOf K d_parse) ["text"] (spParse K NF) :=
  ok_parse (n := NF) (kt := 4) T (rd_ok T) (fun m hm => e_ok T m (by unfold NF at hm; omega)) (fun m hm => s_ok T m (by unfold NF at hm; omega)) (by decide) (by decide) (ok_tokens T)
def t_suite (K : PySem.W.Frag) : Addr → Value → Option Addr → TS := fun a cls d => tRet (tTup (tCons (tXf a cls d (aU K) "row" (tVar 1)) (tCons (tXf a cls d (aU K) "column" (tVar 1)) (tCons (tCB (rIsF K (aU K) a cls d) (tCons (tVar 1) (tCons (tC (.ref (aT K))) tNil))) tNil))))
def errD (t : Tok) : PyData := .tuple [.int t.row, .int t.col, .bool true]
def spTold (K : PySem.W.Frag) : Sp := fun vs H Q _ => ∃ text ps, vs = [.str text] ∧ TL.tl text = render ps ∧ okAdj ps = true ∧ text.length ≤ sizeLine ∧ ps.length < sizeLine ∧
  (parseP NF (place ps 1 1)).wp (fun a _ => ∀ v H', Same H H' → Dt K H' v (.tuple [.str "read", Pr.d a]) → Q v H') (fun r => ∀ v H', Same H H' → Dt K H' v (errD (hdT r)) → Q v H')
theorem ok_told (T : Tx K mg) : FnOk P w K mg base CX0 (NF + 12) (a_law_told K) (fdOf K d_law_told) ["_law_text_here"] (spTold K) := by
  have G_parse := parse_ok (P := P) (w := w) (base := base) T
  refine (F_law_told T).ok sc_law_told (fun vs H Q E h => ?_) (fun cdv A0 outer s0 H0 vs Q E hr h => ?_)
  · obtain ⟨v, p, rfl, _⟩ := h
    rfl
  obtain ⟨text, ps, rfl, ht, ha, hl, hpl, h⟩ := h
  refine ⟨_, PSs.nox (pss_one (ps_try_as (i := 1) (tb := fun W => tRet (tTup (tCons (tC (.str "read")) (tCons (tCallS (spParse K NF) (WE W) (tCons (tVar 0) tNil)) tNil)))) (ts := t_suite K) (Wout := fun _ _ _ _ => False) rfl rfl sc_law_told.nd rfl rfl ⟨rfl, by decide, Or.inl (m_Unexpected T)⟩ takes0
    (fun W pn xe tk _ => pss_one (ps_ret (by exact (pe_tup (pa_cons pe_str (pa_cons (pe_callS G_parse (hr.mono (by omega)) rfl (m_parse T) (F_parse T).kp (B_parse T) (fun σ => passAt tk σ) (by exact (pa_cons (pv 0) pa_nil))) pa_nil))))))
    (fun a oe cls d pn hz hf => pss_one (ps_ret (by exact (pe_tup (pa_cons (pe_xf (x_xf T) (x_row T) hz hf (pv 1)) (pa_cons (pe_xf (x_xf T) (x_col T) hz hf (pv 1)) (pa_cons (pe_callB (call_isF (x_clsS T) (x_xf T).ga (x_xf T).gg (x_xf T).exC (x_clsA T) (x_clsG T) (x_clsT T) (x_mro T) hz hf) (by rfl) (z_isinstance T) (by decide +kernel) (pa_cons (pv 1) (pa_cons (pe_gref (m_TextError T)) pa_nil))) pa_nil))))))))), ?_⟩
  refine ⟨_, rfl, text, ps, rfl, ht, ha, hl, hpl, Ko.R.mono h (fun a r o v H1 s1 dv => ?_) fun r o d H1 s1 he => ?_⟩
  · refine ⟨(by show 2 ≤ sizeLine; decide), fun t et => ?_⟩
    exact o _ _ (s1.trans (same_new et _)) (dt_new et (.cons (.str _) (.cons dv .nil)))
  · refine ⟨true, x_exm T, fun _ a haa => ?_, fun z => nomatch z⟩
    have l1 : ([("column", .int (hdT r).col), ("row", .int (hdT r).row)] : List (Str × V)).lookup ("row" : Str) = some (.int (hdT r).row) := by
      have e : (("row" : Str) == "column") = false := by decide +kernel
      simp [List.lookup, e]
    have l2 : ([("column", .int (hdT r).col), ("row", .int (hdT r).row)] : List (Str × V)).lookup ("column" : Str) = some (.int (hdT r).col) := by
      simp [List.lookup]
    refine ⟨_, rfl, rfl, rfl, d, _, _, rfl, he, l1, _, rfl, rfl, rfl, d, _, _, rfl, he, l2, _, rfl, ?_⟩
    refine ⟨.ref (aT K), .ref (aT K), true, d, _, rfl, fun u r => r, rfl, rfl, he, x_kit T, (by show 3 ≤ sizeLine; decide), fun t et => ?_⟩
    exact o _ _ (s1.trans (same_new et _)) (dt_new et (.cons (.int _) (.cons (.int _) (.cons (.bl _) .nil))))
theorem app_step {H2 : Hp} {q : Addr} {vs : List V} {ds : List PyData} {v : V} {d : PyData} (h : H2 q = some (.lst vs)) (dvs : Dts K H2 vs ds) (dv : Dt K H2 v d) : Dts K (upd H2 q (.lst (vs ++ [v]))) (vs ++ [v]) (ds ++ [d]) :=
  dts_keep (kt_upd h (fun z => z) _) (dts_app dvs (dts_one dv))
theorem dts_take {H : Hp} : ∀ {vs : List V} {ds : List PyData}, Dts K H vs ds → ∀ n, Dts K H (vs.take n) (ds.take n)
  | _, _, .nil, n => by simp; exact .nil
  | _, _, .cons h r, 0 => .nil
  | _, _, .cons h r, n + 1 => .cons h (dts_take r n)
/-- begun(program, many) -/
def begunD (p : Pr) (n : Nat) : Pr := ⟨p.recs.take n, p.vars.take (n - p.recs.length), p.fns.take (n - p.recs.length - p.vars.length)⟩
def spBegun (K : PySem.W.Frag) : Sp := fun vs H Q _ => ∃ v p, ∃ n : Nat, vs = [v, .int n] ∧ GP p ∧ Dt K H v (Pr.d p) ∧ ∀ v' H', Same H H' → Dt K H' v' (Pr.d (begunD p n)) → Q v' H'
theorem ok_begun (T : Tx K mg) : FnOk P w K mg base CX0 1 (a_law_begun K) (fdOf K d_law_begun) ["_law_program_here", "_law_many"] (spBegun K) := by
  refine (F_law_begun T).ok sc_law_begun (fun vs H Q E h => ?_) (fun cdv A0 outer s0 H0 vs Q E hr h => ?_)
  · obtain ⟨v, p, n, rfl, _⟩ := h
    rfl
  obtain ⟨v, p, n, rfl, gp, dp, h⟩ := h
  refine ⟨_, PSs.nox (pss_cons (ps_set (i := 2) sc_law_begun.nd rfl (Or.inl rfl) (pe_lst pa_nil)) (pss_cons (ps_for PassesOwn.never rfl (pi_tup (pv 0)) (pg_name (i := 3) sc_law_begun.nd rfl (Or.inl rfl)) (pss_cons (ps_expr (pe_bm PySem.F.plainAttrs_list PySem.F.slot_list_append PySem.F.type_list_append mt_append (pv 2) (pa_cons (pe_slice sl_tupA (pv 3) po_none (po_some (pe_callB (call_max2 rfl) (by rfl) (z_max T) (by decide +kernel) (pa_cons pe_int (pa_cons (pv 1) pa_nil))))) pa_nil))) (pss_one (ps_set (i := 1) sc_law_begun.nd rfl (Or.inl rfl) (pe_op op_sub (pv 1) (pe_callB call_len_seq (by rfl) (z_len T) PySem.boot_len (pa_cons (pv 3) pa_nil))))))) (pss_one (ps_ret (pe_callTy call_tuple_of (by rfl) (z_tuple T) (by decide +kernel) (pa_cons (pv 2) pa_nil)))))), ?_⟩
  refine ⟨Nat.zero_le _, fun q hq => ?_⟩
  have s0' := same_new hq (.lst [])
  obtain ⟨a, xs, rfl, ha, dxs⟩ := dt_tup_inv dp
  let parts : List (List PyData) := [p.recs.map recD, p.vars.map varD, p.fns.map Fn.d]
  let mk : Nat → Int := fun k => (n : Int) - ((parts.take k).map (fun x => (x.length : Int))).sum
  let res : List PyData := [.tuple ((p.recs.map recD).take n), .tuple ((p.vars.map varD).take (n - p.recs.length)), .tuple ((p.fns.map Fn.d).take (n - p.recs.length - p.vars.length))]
  have hlen := dts_len dxs
  have emk : mk 0 = (n : Int) := by simp [mk]
  have facts : ∀ (k : Nat) (d : PyData), ([.tuple (p.recs.map recD), .tuple (p.vars.map varD), .tuple (p.fns.map Fn.d)] : List PyData)[k]? = some d → ∃ P : List PyData, d = .tuple P ∧ res[k]? = some (.tuple (P.take (mk k).toNat)) ∧ mk (k + 1) = mk k - P.length ∧ P.length ≤ 3 := by
    intro k d h
    match k, h with
    | 0, h =>
      cases h
      refine ⟨_, rfl, ?_, ?_, ?_⟩
      · show some _ = some _
        simp [mk]
      · simp [mk, parts]
      · rw [List.length_map]; have := gp.1.1; omega
    | 1, h =>
      cases h
      refine ⟨_, rfl, ?_, ?_, ?_⟩
      · show some _ = some _
        have e : (mk 1).toNat = n - p.recs.length := by simp [mk, parts] <;> omega
        rw [e]
      · simp [mk, parts] <;> omega
      · rw [List.length_map]; have := gp.2.1.1; omega
    | 2, h =>
      cases h
      refine ⟨_, rfl, ?_, ?_, ?_⟩
      · show some _ = some _
        have e : (mk 2).toNat = n - p.recs.length - p.vars.length := by simp [mk, parts] <;> omega
        rw [e]
      · simp [mk, parts] <;> omega
      · rw [List.length_map]; have := gp.2.2.1.2; omega
    | k + 3, h => cases h
  have hres : res = [.tuple ((begunD p n).recs.map recD), .tuple ((begunD p n).vars.map varD), .tuple ((begunD p n).fns.map Fn.d)] := by
    simp [res, begunD, List.map_take]
  refine ⟨_, rfl, a, rfl, ⟨_, (same_kt s0').sqT ha⟩, for_tup (K := K) (a := a) (xs := xs) (fun k σ' H' => ∃ (vs : List V) (wd : Option V), σ' = [some (.ref a), some (.int (mk k)), some (.ref q), wd] ∧ Same H0 H' ∧ H' q = some (.lst vs) ∧ Dts K H' vs (res.take k))
    ⟨[], none, by rw [emk]; rfl, s0', upd_same, .nil⟩ ?_ ?_ ?_⟩
  · rintro k σ' H' _ ⟨vs, wd, _, s1, _⟩
    exact (same_kt s1).sqT ha
  · rintro k x σ' H1 hx ⟨vs, wd, rfl, s1, hvs, dvs⟩
    obtain ⟨d, hd, dx⟩ := dts_of dxs hx
    obtain ⟨P, rfl, hr1, hm, hP⟩ := facts k d hd
    obtain ⟨b, ys, rfl, hb, dys⟩ := dt_tup_inv (dt_keep (same_kt s1) dx)
    have hyl := dts_len dys
    have eM : (if mk k > 0 then mk k else 0) = (((mk k).toNat : Nat) : Int) := by split <;> omega
    have hsz : vs.length < sizeLine := by
      have := dts_len dvs
      rw [List.length_take] at this
      have h3 : res.length = 3 := rfl
      rw [show sizeLine = 16777216 from rfl]
      omega
    refine ⟨_, rfl, .inl ⟨rfl, _, SqL.of hvs⟩, _, rfl, _, rfl, _, _, rfl, (((mk k).toNat : Nat) : Int), by rw [eM], b, ys, rfl, hb, fun hw => ?a, fun hw t et => ?b⟩
    case' a =>
      have s2 : Same H1 H1 := fun _ _ h => h
      have h2 := hw.2
      rw [HT.sIx_nat] at h2
      have dv : Dt K H1 (.ref b) (.tuple (P.take (mk k).toNat)) := by
        rw [List.take_of_length_le (by omega)]
        exact .tup hb dys
    case' b =>
      have s2 := same_new et (.tup (cutV ys none (some (((mk k).toNat : Nat) : Int))))
      have ec : cutV ys none (some (((mk k).toNat : Nat) : Int)) = ys.take (mk k).toNat := by
        show (ys.drop (HT.sIx ys.length 0 none)).take (HT.sIx ys.length ys.length (some (((mk k).toNat : Nat) : Int)) - HT.sIx ys.length 0 none) = _
        rw [HT.sIx_nat, HT.sIx_none, List.drop_zero, Nat.sub_zero]
        by_cases hle : (mk k).toNat ≤ ys.length
        · rw [Nat.min_eq_left hle]
        · rw [Nat.min_eq_right (by omega), List.take_length, List.take_of_length_le (by omega)]
      have dq : Dts K H1 (cutV ys none (some (((mk k).toNat : Nat) : Int))) (P.take (mk k).toNat) := by
        rw [ec]
        exact dts_take dys _
      have dv := dt_new et dq
    all_goals
      have hvs2 := s2 _ _ hvs
      refine ⟨q, _, _, rfl, rfl, hvs2, hsz, ?_⟩
      have kt := fun (o : List V) => (same_kt s2).trans (kt_upd hvs2 (fun z => z) (.lst o))
      refine ⟨_, rfl, _, rfl, b, ys, rfl, .inr ((kt _).sqT hb), _, _, rfl, rfl, vs ++ [_], some (.ref b), ?_, same_upd hq (s1.trans s2) _, upd_same, ?_⟩
      · rw [hm, hyl]
        rfl
      · rw [List.take_succ, hr1]
        exact app_step hvs2 (dts_keep (same_kt s2) dvs) dv
  · rintro σ' H1 ⟨vs, wd, rfl, s1, hvs, dvs⟩
    have e3 : xs.length = 3 := hlen
    rw [e3] at dvs
    refine ⟨_, rfl, q, vs, rfl, .inl ⟨SqL.of hvs, fun t et => ?_⟩⟩
    refine h _ _ (s1.trans (same_new et _)) ?_
    have dvs' : Dts K H1 vs res := dvs
    rw [hres] at dvs'
    exact dt_new et dvs'
end
end Ko
end
section
set_option Elab.async false
set_option linter.all false
set_option maxRecDepth 100000
set_option maxHeartbeats 4000000
/-! The parser's steps on printed tokens, and on a strict beginning of them with the end behind -/
namespace Ko
open PySem
section
variable {α β : Type}
/-- bad at the end, or (k = false) done at the end -/
def At (k : Bool) (x : P α) (l : List Tok) (e : Tok) : Prop := x l = .bad [e] ∨ (k = false ∧ ∃ v, x l = .ok v [e])
def EndK (k : Bool) (x : P α) : Prop := ∀ e : Tok, e.tk = .fin → At k x [e] e
/-- what comes next -/
def nx (ts : List Tk) (f φ : Tk → Bool) : Prop := match ts with
  | [] => ∀ t, f t = true → φ t = true
  | u :: _ => φ u = true
/-- x reads ts as v, whatever of f follows; of a strict beginning of ts it is bad (or done) at the end -/
structure Rd (k : Bool) (x : P α) (ts : List Tk) (v : α) (f : Tk → Bool) : Prop where
  full : ∀ a r : List Tok, a.map Tok.tk = ts → f (hd r) = true → x (a ++ r) = .ok v r
  cut : ∀ (a : List Tok) (e : Tok) (t : Tk) (s : List Tk), ts = a.map Tok.tk ++ t :: s → e.tk = .fin → At k x (a ++ [e]) e
def any : Tk → Bool := fun _ => true
theorem At.weak {x : P α} {l : List Tok} {e : Tok} (h : At true x l e) : At false x l e := by
  rcases h with h | ⟨h, _⟩
  · exact .inl h
  · cases h
theorem EndK.weak {x : P α} (h : EndK true x) : EndK false x := fun e he => (h e he).weak
theorem EndK.to {k : Bool} {x : P α} (h : EndK true x) : EndK k x := by
  cases k with
  | true => exact h
  | false => exact h.weak
theorem Rd.weak {x : P α} {ts : List Tk} {v : α} {f : Tk → Bool} (h : Rd true x ts v f) : Rd false x ts v f := ⟨h.full, fun a e t s h1 h2 => (h.cut a e t s h1 h2).weak⟩
theorem Rd.fol {k : Bool} {x : P α} {ts : List Tk} {v : α} {f g : Tk → Bool} (h : Rd k x ts v f) (hg : ∀ t, g t = true → f t = true) : Rd k x ts v g := ⟨fun a r h1 h2 => h.full a r h1 (hg _ h2), h.cut⟩
theorem hd_app {a r : List Tok} {ts : List Tk} (h : a.map Tok.tk = ts) : hd (a ++ r) = match ts with | [] => hd r | u :: _ => u := by
  cases a with
  | nil => subst h; rfl
  | cons t a => subst h; rfl
theorem nx_hd {a r : List Tok} {ts : List Tk} {f φ : Tk → Bool} (h : a.map Tok.tk = ts) (n : nx ts f φ) (hr : f (hd r) = true) : φ (hd (a ++ r)) = true := by
  rw [hd_app h]
  cases ts with
  | nil => exact n _ hr
  | cons u ts => exact n
theorem nx_cut {a : List Tok} {e : Tok} {t : Tk} {s ts : List Tk} {f φ : Tk → Bool} (h : ts = a.map Tok.tk ++ t :: s) (he : e.tk = .fin) (n : nx ts f φ) (hφ : φ .fin = true) : φ (hd (a ++ [e])) = true := by
  cases a with
  | nil => show φ e.tk = true; rw [he]; exact hφ
  | cons u a =>
    rw [h] at n
    exact n
theorem Rd.bindG {j k : Bool} {x : P β} {g : β → P α} {ts1 ts2 : List Tk} {v : β} {u : α} {f1 f2 : Tk → Bool} (h1 : Rd j x ts1 v f1) (h2 : Rd k (g v) ts2 u f2) (hfin : f1 .fin = true) (hf : nx ts2 f2 f1) (he : j = false → ∀ v', EndK k (g v')) : Rd k (bindP x g) (ts1 ++ ts2) u f2 := by
  refine ⟨fun a r ha hr => ?_, fun a e t s ha hee => ?_⟩
  · obtain ⟨a1, a2, rfl, e1, e2⟩ := List.map_eq_append_iff.mp ha
    rw [List.append_assoc]
    show (match x (a1 ++ (a2 ++ r)) with | .ok a r => g a r | .bad r => .bad r | .out => .out) = _
    rw [h1.full a1 (a2 ++ r) e1 (nx_hd e2 hf hr)]
    exact h2.full a2 r e2 hr
  · have key : ∀ a1 a2 : List Tok, a = a1 ++ a2 → a1.map Tok.tk = ts1 → ts2 = a2.map Tok.tk ++ t :: s → At k (bindP x g) (a ++ [e]) e := by
      intro a1 a2 ea e1 e2
      have hq : f1 (hd (a2 ++ [e])) = true := nx_cut e2 hee hf hfin
      have q := h2.cut a2 e t s e2 hee
      have eq : bindP x g (a ++ [e]) = g v (a2 ++ [e]) := by
        rw [ea, List.append_assoc]
        show (match x (a1 ++ (a2 ++ [e])) with | .ok a r => g a r | .bad r => .bad r | .out => .out) = _
        rw [h1.full a1 (a2 ++ [e]) e1 hq]
      unfold At
      rw [eq]
      exact q
    rcases List.append_eq_append_iff.mp ha with ⟨c, e1, e2⟩ | ⟨c, e1, e2⟩
    · obtain ⟨a1, a2, ea, e3, e4⟩ := List.map_eq_append_iff.mp e1
      exact key a1 a2 ea e3 (by rw [e4]; exact e2)
    · cases c with
      | nil =>
        rw [List.append_nil] at e1
        exact key a [] (by simp) e1.symm (by simpa using e2.symm)
      | cons t' c =>
        have q := h1.cut a e t' c e1 hee
        unfold At bindP
        rcases q with q | ⟨hj, v', q⟩
        · rw [q]; exact .inl rfl
        · rw [q]
          exact he hj v' e hee
theorem Rd.bind {k : Bool} {x : P β} {g : β → P α} {ts1 ts2 : List Tk} {v : β} {u : α} {f1 f2 : Tk → Bool} (h1 : Rd false x ts1 v f1) (h2 : Rd k (g v) ts2 u f2) (hfin : f1 .fin = true) (hf : nx ts2 f2 f1) (he : ∀ v', EndK k (g v')) : Rd k (bindP x g) (ts1 ++ ts2) u f2 := h1.bindG h2 hfin hf fun _ => he
theorem Rd.bindT {k : Bool} {x : P β} {g : β → P α} {ts1 ts2 : List Tk} {v : β} {u : α} {f1 f2 : Tk → Bool} (h1 : Rd true x ts1 v f1) (h2 : Rd k (g v) ts2 u f2) (hfin : f1 .fin = true) (hf : nx ts2 f2 f1) : Rd k (bindP x g) (ts1 ++ ts2) u f2 := h1.bindG h2 hfin hf (fun z => by cases z)
/-- x fails with nothing behind that it looks at -/
theorem nx_any {ts : List Tk} {f : Tk → Bool} : nx ts f any := by cases ts <;> first | exact fun _ _ => rfl | rfl
theorem Rd.bindA {k : Bool} {x : P β} {g : β → P α} {ts1 ts2 : List Tk} {v : β} {u : α} {f2 : Tk → Bool} (h1 : Rd true x ts1 v any) (h2 : Rd k (g v) ts2 u f2) : Rd k (bindP x g) (ts1 ++ ts2) u f2 := h1.bindT h2 rfl nx_any
theorem Rd.pure {k : Bool} {v : α} {f : Tk → Bool} : Rd k (pureP v) [] v f := by
  refine ⟨fun a r ha hr => ?_, fun a e t s ha _ => ?_⟩
  · have : a = [] := by cases a <;> first | rfl | cases ha
    subst this
    rfl
  · simp at ha
theorem tail_app {a r : List Tok} {u : Tk} {ts : List Tk} (h : a.map Tok.tk = u :: ts) : ∃ t b, a = t :: b ∧ t.tk = u ∧ b.map Tok.tk = ts := by
  cases a with
  | nil => cases h
  | cons t b =>
    simp only [List.map_cons, List.cons.injEq] at h
    exact ⟨t, b, rfl, h.1, h.2⟩
theorem Rd.expect {s : Sym} {f : Tk → Bool} : Rd true (expectP s) [.sym s] () f := by
  refine ⟨fun a r ha hr => ?_, fun a e t s' ha he => ?_⟩
  · obtain ⟨t, b, rfl, e1, e2⟩ := tail_app (r := r) ha
    have : b = [] := by cases b <;> first | rfl | cases e2
    subst this
    show (if t.tk = .sym s then R.ok () r else R.bad _) = _
    rw [if_pos e1]
  · cases a with
    | nil =>
      refine .inl ?_
      show (if e.tk = .sym s then R.ok () _ else R.bad _) = _
      rw [he, if_neg (by intro z; cases z)]
      rfl
    | cons u a => cases a <;> simp at ha
theorem Rd.name {w : Str} {f : Tk → Bool} : Rd true takeNameP [.name w] w f := by
  refine ⟨fun a r ha hr => ?_, fun a e t s' ha he => ?_⟩
  · obtain ⟨t, b, rfl, e1, e2⟩ := tail_app (r := r) ha
    have : b = [] := by cases b <;> first | rfl | cases e2
    subst this
    show (match t.tk with | .name w => R.ok w r | _ => R.bad _) = _
    rw [e1]
  · cases a with
    | nil =>
      refine .inl ?_
      show (match e.tk with | .name w => R.ok w _ | _ => R.bad _) = _
      rw [he]
      rfl
    | cons u a => cases a <;> simp at ha
theorem Rd.num {n : Nat} {f : Tk → Bool} : Rd true takeNumP [.num n] n f := by
  refine ⟨fun a r ha hr => ?_, fun a e t s' ha he => ?_⟩
  · obtain ⟨t, b, rfl, e1, e2⟩ := tail_app (r := r) ha
    have : b = [] := by cases b <;> first | rfl | cases e2
    subst this
    show (match t.tk with | .num w => R.ok w r | _ => R.bad _) = _
    rw [e1]
  · cases a with
    | nil =>
      refine .inl ?_
      show (match e.tk with | .num w => R.ok w _ | _ => R.bad _) = _
      rw [he]
      rfl
    | cons u a => cases a <;> simp at ha
/-! ### choices -/
theorem ifB_eq {c : P Bool} {t e : P α} {l r : List Tok} {b : Bool} (h : c l = .ok b r) : ifB c t e l = if b = true then t r else e r := by
  unfold ifB bindP
  rw [h]
  cases b <;> rfl
theorem skip_t {s : Sym} {l : List Tok} (h : hd l = .sym s) : skipP s l = .ok true l.tail := by unfold skipP; rw [if_pos h]
theorem skip_f {s : Sym} {l : List Tok} (h : hd l ≠ .sym s) : skipP s l = .ok false l := by unfold skipP; rw [if_neg h]
theorem end_ne {e : Tok} (he : e.tk = .fin) (s : Sym) : hd [e] ≠ .sym s := by
  show e.tk ≠ _
  rw [he]
  intro z
  cases z
def neS (s : Sym) : Tk → Bool := fun t => decide (t ≠ .sym s)
theorem Rd.skT {k : Bool} {s : Sym} {t e : P α} {ts : List Tk} {v : α} {f : Tk → Bool} (h : Rd k t ts v f) (he : EndK k e) : Rd k (ifB (skipP s) t e) (.sym s :: ts) v f := by
  refine ⟨fun a r ha hr => ?_, fun a z u s' ha hz => ?_⟩
  · obtain ⟨t0, b, rfl, e1, e2⟩ := tail_app (r := r) ha
    rw [ifB_eq (skip_t (show hd (t0 :: b ++ r) = _ from e1)), if_pos rfl]
    exact h.full b r e2 hr
  · cases a with
    | nil =>
      unfold At
      rw [show ([] : List Tok) ++ [z] = [z] from rfl, ifB_eq (skip_f (end_ne hz s)), if_neg (by decide)]
      exact he z hz
    | cons t0 b =>
      simp only [List.map_cons, List.cons_append, List.cons.injEq] at ha
      unfold At
      rw [ifB_eq (skip_t (show hd (t0 :: b ++ [z]) = _ from ha.1.symm)), if_pos rfl]
      exact h.cut b z u s' ha.2 hz
theorem Rd.skF {k : Bool} {s : Sym} {t e : P α} {ts : List Tk} {v : α} {f : Tk → Bool} (hn : nx ts f (neS s)) (h : Rd k e ts v f) : Rd k (ifB (skipP s) t e) ts v f := by
  refine ⟨fun a r ha hr => ?_, fun a z u s' ha hz => ?_⟩
  · rw [ifB_eq (skip_f (of_decide_eq_true (nx_hd ha hn hr))), if_neg (by decide)]
    exact h.full a r ha hr
  · unfold At
    rw [ifB_eq (skip_f (of_decide_eq_true (nx_cut ha hz hn rfl))), if_neg (by decide)]
    exact h.cut a z u s' ha hz
theorem Rd.pkT {k : Bool} {s : Sym} {t e : P α} {ts : List Tk} {v : α} {f : Tk → Bool} (h : Rd k t (.sym s :: ts) v f) (he : EndK k e) : Rd k (ifB (peekP s) t e) (.sym s :: ts) v f := by
  refine ⟨fun a r ha hr => ?_, fun a z u s' ha hz => ?_⟩
  · obtain ⟨t0, b, rfl, e1, e2⟩ := tail_app (r := r) ha
    have hh : hd (t0 :: b ++ r) = .sym s := e1
    rw [ifB_eq (show peekP s (t0 :: b ++ r) = .ok true _ by unfold peekP; rw [decide_eq_true hh]), if_pos rfl]
    exact h.full _ r ha hr
  · cases a with
    | nil =>
      unfold At
      rw [show ([] : List Tok) ++ [z] = [z] from rfl, ifB_eq (show peekP s [z] = .ok false _ by unfold peekP; rw [decide_eq_false (end_ne hz s)]), if_neg (by decide)]
      exact he z hz
    | cons t0 b =>
      have ha' := ha
      simp only [List.map_cons, List.cons_append, List.cons.injEq] at ha'
      have hh : hd (t0 :: b ++ [z]) = .sym s := ha'.1.symm
      unfold At
      rw [ifB_eq (show peekP s (t0 :: b ++ [z]) = .ok true _ by unfold peekP; rw [decide_eq_true hh]), if_pos rfl]
      exact h.cut _ z u s' ha hz
theorem Rd.pkF {k : Bool} {s : Sym} {t e : P α} {ts : List Tk} {v : α} {f : Tk → Bool} (hn : nx ts f (neS s)) (h : Rd k e ts v f) : Rd k (ifB (peekP s) t e) ts v f := by
  refine ⟨fun a r ha hr => ?_, fun a z u s' ha hz => ?_⟩
  · rw [ifB_eq (show peekP s (a ++ r) = .ok false _ by unfold peekP; rw [decide_eq_false (of_decide_eq_true (nx_hd ha hn hr))]), if_neg (by decide)]
    exact h.full a r ha hr
  · unfold At
    rw [ifB_eq (show peekP s (a ++ [z]) = .ok false _ by unfold peekP; rw [decide_eq_false (of_decide_eq_true (nx_cut ha hz hn rfl))]), if_neg (by decide)]
    exact h.cut a z u s' ha hz
def isNmB : Tk → Bool
  | .name _ => true
  | _ => false
theorem isName_eq (l : List Tok) : isNameP l = .ok (isNmB (hd l)) l := by
  unfold isNameP
  cases hd l <;> rfl
theorem isNum_eq (l : List Tok) : isNumP l = .ok (hd l).isNum l := by
  unfold isNumP
  cases hd l <;> rfl
theorem Rd.nmT {k : Bool} {t e : P α} {w : Str} {ts : List Tk} {v : α} {f : Tk → Bool} (h : Rd k t (.name w :: ts) v f) (he : EndK k e) : Rd k (ifB isNameP t e) (.name w :: ts) v f := by
  refine ⟨fun a r ha hr => ?_, fun a z u s' ha hz => ?_⟩
  · rw [ifB_eq (isName_eq _), hd_app ha]
    exact h.full _ r ha hr
  · cases a with
    | nil =>
      unfold At
      rw [show ([] : List Tok) ++ [z] = [z] from rfl, ifB_eq (isName_eq _), show hd [z] = .fin from hz]
      exact he z hz
    | cons t0 b =>
      have ha' := ha
      simp only [List.map_cons, List.cons_append, List.cons.injEq] at ha'
      unfold At
      rw [ifB_eq (isName_eq _), show hd (t0 :: b ++ [z]) = .name w from ha'.1.symm]
      exact h.cut _ z u s' ha hz
theorem Rd.nmF {k : Bool} {t e : P α} {ts : List Tk} {v : α} {f : Tk → Bool} (hn : nx ts f (fun t => !isNmB t)) (h : Rd k e ts v f) : Rd k (ifB isNameP t e) ts v f := by
  refine ⟨fun a r ha hr => ?_, fun a z u s' ha hz => ?_⟩
  · have := nx_hd ha hn hr
    simp only [Bool.not_eq_true'] at this
    rw [ifB_eq (isName_eq _), this]
    exact h.full a r ha hr
  · have := nx_cut ha hz hn rfl
    simp only [Bool.not_eq_true'] at this
    unfold At
    rw [ifB_eq (isName_eq _), this]
    exact h.cut a z u s' ha hz
theorem Rd.nuT {k : Bool} {t e : P α} {n : Nat} {ts : List Tk} {v : α} {f : Tk → Bool} (h : Rd k t (.num n :: ts) v f) (he : EndK k e) : Rd k (ifB isNumP t e) (.num n :: ts) v f := by
  refine ⟨fun a r ha hr => ?_, fun a z u s' ha hz => ?_⟩
  · rw [ifB_eq (isNum_eq _), hd_app ha]
    exact h.full _ r ha hr
  · cases a with
    | nil =>
      unfold At
      rw [show ([] : List Tok) ++ [z] = [z] from rfl, ifB_eq (isNum_eq _), show hd [z] = .fin from hz]
      exact he z hz
    | cons t0 b =>
      have ha' := ha
      simp only [List.map_cons, List.cons_append, List.cons.injEq] at ha'
      unfold At
      rw [ifB_eq (isNum_eq _), show hd (t0 :: b ++ [z]) = .num n from ha'.1.symm]
      exact h.cut _ z u s' ha hz
theorem Rd.nuF {k : Bool} {t e : P α} {ts : List Tk} {v : α} {f : Tk → Bool} (hn : nx ts f (fun t => !t.isNum)) (h : Rd k e ts v f) : Rd k (ifB isNumP t e) ts v f := by
  refine ⟨fun a r ha hr => ?_, fun a z u s' ha hz => ?_⟩
  · have := nx_hd ha hn hr
    simp only [Bool.not_eq_true'] at this
    rw [ifB_eq (isNum_eq _), this]
    exact h.full a r ha hr
  · have := nx_cut ha hz hn rfl
    simp only [Bool.not_eq_true'] at this
    unfold At
    rw [ifB_eq (isNum_eq _), this]
    exact h.cut a z u s' ha hz
theorem need_ok {t : Ex} (h : t.isPlace = true) (x : P α) : (bindP (needP t) fun _ => x) = x := by
  funext l
  unfold bindP needP
  rw [if_pos h]
theorem pure_bind (b : Bool) (g : Bool → P α) : bindP (pureP b) g = g b := rfl
/-! ### at the end -/
theorem EndK.pure {v : α} : EndK false (pureP v) := fun e he => .inr ⟨rfl, v, rfl⟩
theorem EndK.fail : EndK true (failP : P α) := fun e he => .inl rfl
theorem EndK.expect {s : Sym} : EndK true (expectP s) := fun e he => .inl (by unfold expectP; rw [if_neg (end_ne he s)])
theorem EndK.name : EndK true takeNameP := fun e he => .inl (by unfold takeNameP; rw [show hd [e] = .fin from he])
theorem EndK.num : EndK true takeNumP := fun e he => .inl (by unfold takeNumP; rw [show hd [e] = .fin from he])
theorem EndK.bind {k : Bool} {x : P β} {g : β → P α} (h : EndK false x) (hg : ∀ v, EndK k (g v)) : EndK k (bindP x g) := fun e he => by
  unfold At bindP
  rcases h e he with q | ⟨_, v, q⟩
  · rw [q]; exact .inl rfl
  · rw [q]; exact hg v e he
theorem EndK.bindB {k : Bool} {x : P β} {g : β → P α} (h : EndK true x) : EndK k (bindP x g) := fun e he => by
  unfold At bindP
  rcases h e he with q | ⟨z, _⟩
  · rw [q]; exact .inl rfl
  · cases z
theorem EndK.skip {k : Bool} {s : Sym} {t e : P α} (h : EndK k e) : EndK k (ifB (skipP s) t e) := fun z hz => by
  unfold At
  rw [ifB_eq (skip_f (end_ne hz s)), if_neg (by decide)]
  exact h z hz
theorem EndK.peek {k : Bool} {s : Sym} {t e : P α} (h : EndK k e) : EndK k (ifB (peekP s) t e) := fun z hz => by
  unfold At
  rw [ifB_eq (show peekP s [z] = .ok false _ by unfold peekP; rw [decide_eq_false (end_ne hz s)]), if_neg (by decide)]
  exact h z hz
theorem EndK.isName {k : Bool} {t e : P α} (h : EndK k e) : EndK k (ifB isNameP t e) := fun z hz => by
  unfold At
  rw [ifB_eq (isName_eq _), show hd [z] = .fin from hz]
  exact h z hz
theorem EndK.isNum {k : Bool} {t e : P α} (h : EndK k e) : EndK k (ifB isNumP t e) := fun z hz => by
  unfold At
  rw [ifB_eq (isNum_eq _), show hd [z] = .fin from hz]
  exact h z hz
/-- peek s or peek s' -/
def pk2 (s s' : Sym) : P Bool := ifB (peekP s) (pureP true) (peekP s')
theorem pk2_eq (s s' : Sym) (l : List Tok) : pk2 s s' l = .ok (decide (hd l = .sym s) || decide (hd l = .sym s')) l := by
  unfold pk2
  rw [ifB_eq (show peekP s l = .ok (decide (hd l = .sym s)) l from rfl)]
  cases decide (hd l = .sym s) with
  | true => rfl
  | false => rfl
theorem EndK.pk2 {k : Bool} {s s' : Sym} {t e : P α} (h : EndK k e) : EndK k (ifB (pk2 s s') t e) := fun z hz => by
  unfold At
  rw [ifB_eq (pk2_eq _ _ _), decide_eq_false (end_ne hz s), decide_eq_false (end_ne hz s')]
  exact h z hz
theorem Rd.p2T {k : Bool} {s s' u : Sym} {t e : P α} {ts : List Tk} {v : α} {f : Tk → Bool} (hu : u = s ∨ u = s') (h : Rd k t (.sym u :: ts) v f) (he : EndK k e) : Rd k (ifB (pk2 s s') t e) (.sym u :: ts) v f := by
  have hb : (decide (Tk.sym u = .sym s) || decide (Tk.sym u = .sym s')) = true := by
    rcases hu with rfl | rfl <;> simp
  refine ⟨fun a r ha hr => ?_, fun a z u' s' ha hz => ?_⟩
  · rw [ifB_eq (pk2_eq _ _ _), hd_app ha]
    show (if (decide (Tk.sym u = .sym s) || decide (Tk.sym u = .sym s')) = true then _ else _) = _
    rw [hb]
    exact h.full _ r ha hr
  · cases a with
    | nil =>
      unfold At
      rw [show ([] : List Tok) ++ [z] = [z] from rfl, ifB_eq (pk2_eq _ _ _), decide_eq_false (end_ne hz _), decide_eq_false (end_ne hz _)]
      exact he z hz
    | cons t0 b =>
      have ha' := ha
      simp only [List.map_cons, List.cons_append, List.cons.injEq] at ha'
      unfold At
      rw [ifB_eq (pk2_eq _ _ _), show hd (t0 :: b ++ [z]) = .sym u from ha'.1.symm, hb]
      exact h.cut _ z u' s' ha hz
theorem Rd.p2F {k : Bool} {s s' : Sym} {t e : P α} {ts : List Tk} {v : α} {f : Tk → Bool} (hn : nx ts f (fun t => neS s t && neS s' t)) (h : Rd k e ts v f) : Rd k (ifB (pk2 s s') t e) ts v f := by
  refine ⟨fun a r ha hr => ?_, fun a z u s'' ha hz => ?_⟩
  · have := nx_hd ha hn hr
    simp only [Bool.and_eq_true] at this
    rw [ifB_eq (pk2_eq _ _ _), decide_eq_false (of_decide_eq_true this.1), decide_eq_false (of_decide_eq_true this.2)]
    exact h.full a r ha hr
  · have := nx_cut ha hz hn rfl
    simp only [Bool.and_eq_true] at this
    unfold At
    rw [ifB_eq (pk2_eq _ _ _), decide_eq_false (of_decide_eq_true this.1), decide_eq_false (of_decide_eq_true this.2)]
    exact h.cut a z u s'' ha hz
end
theorem toks_tok (t : Tk) (r : List Pc) : toks (.tok t :: r) = t :: toks r := rfl
theorem toks_sp (r : List Pc) : toks (.sp :: r) = toks r := rfl
theorem toks_nl (r : List Pc) : toks (.nl :: r) = toks r := rfl
theorem toks_nil : toks [] = [] := rfl
/-! ### kinds -/
theorem kind_end (n : Nat) : EndK true (kindP (n + 1)) := .isName (.skip (.skip (.skip (.skip (.skip (.bindB .expect))))))
theorem Rd.mapA {α β : Type} {x : P β} {ts : List Tk} {v : β} (h : Rd true x ts v any) (g : β → α) : Rd true (bindP x fun b => pureP (g b)) ts (g v) any := by
  have q := Rd.bindA (g := fun b => pureP (g b)) h (Rd.pure (k := true) (v := g v) (f := any))
  rwa [List.append_nil] at q
theorem kind_rd : ∀ (d : Nat) (k : Kd), GK d k → ∀ n, d + 1 ≤ n → Rd true (kindP n) (toks k.ps) k any
  | d, k, g, 0, h => absurd h (by omega)
  | d, .named w, g, n + 1, h => .nmT (Rd.mapA (v := w) Rd.name Kd.named) (.skip (.skip (.skip (.skip (.skip (.bindB .expect))))))
  | d, .int, g, n + 1, h => .nmF rfl (.skT .pure (.skip (.skip (.skip (.skip (.bindB .expect))))))
  | d, .bool, g, n + 1, h => .nmF rfl (.skF rfl (.skT .pure (.skip (.skip (.skip (.bindB .expect))))))
  | d + 1, .box k, g, n + 1, h => .nmF rfl (.skF rfl (.skF rfl (.skT ((kind_rd d k g n (by omega)).mapA Kd.box) (.skip (.skip (.bindB .expect))))))
  | d + 1, .vec k, g, n + 1, h => .nmF rfl (.skF rfl (.skF rfl (.skF rfl (.skT ((kind_rd d k g n (by omega)).mapA Kd.vec) (.skip (.bindB .expect))))))
  | d + 1, .ref k, g, n + 1, h => .nmF rfl (.skF rfl (.skF rfl (.skF rfl (.skF rfl (.skT ((kind_rd d k g n (by omega)).mapA Kd.ref) (.bindB .expect))))))
  | d + 1, .mut k, g, n + 1, h => .nmF rfl (.skF rfl (.skF rfl (.skF rfl (.skF rfl (.skF rfl (Rd.bindA (ts1 := [.sym .kMut]) Rd.expect ((kind_rd d k g n (by omega)).mapA Kd.mut)))))))
end Ko
end
section
set_option Elab.async false
set_option linter.all false
set_option maxRecDepth 100000
set_option maxHeartbeats 4000000
/-! Expressions read back -/
namespace Ko
open PySem
def f4 : Tk → Bool := fun t => neS .dot t && neS .lbrk t && neS .lpar t
def f3 : Tk → Bool := fun t => f4 t && neS .star t
def f2 : Tk → Bool := fun t => f3 t && neS .plus t && neS .minus t
def f1 : Tk → Bool := fun t => f2 t && neS .eqeq t && neS .lt t
theorem f43 {t : Tk} (h : f3 t = true) : f4 t = true ∧ neS .star t = true := by simpa [f3] using h
theorem f32 {t : Tk} (h : f2 t = true) : f3 t = true ∧ neS .plus t = true ∧ neS .minus t = true := by
  simp only [f2, Bool.and_eq_true] at h
  exact ⟨h.1.1, h.1.2, h.2⟩
theorem f21 {t : Tk} (h : f1 t = true) : f2 t = true ∧ neS .eqeq t = true ∧ neS .lt t = true := by
  simp only [f1, Bool.and_eq_true] at h
  exact ⟨h.1.1, h.1.2, h.2⟩
theorem f4s {t : Tk} (h : f4 t = true) : neS .dot t = true ∧ neS .lbrk t = true ∧ neS .lpar t = true := by
  simp only [f4, Bool.and_eq_true] at h
  exact ⟨h.1.1, h.1.2, h.2⟩
def Tn (k : Nat) (e : Ex) : List Tk := toks (e.pn k)
theorem Tn_ge {k : Nat} {e : Ex} (h : ¬ e.lv < k) : Tn k e = toks e.ps := by unfold Tn Ex.pn wr; rw [if_neg h]
theorem Tn_lt {k : Nat} {e : Ex} (h : e.lv < k) : Tn k e = .sym .lpar :: (toks e.ps ++ [.sym .rpar]) := by
  unfold Tn Ex.pn wr
  rw [if_pos h, toks_tok, toks_app]
  rfl
/-! ### first tokens -/
def okP : Tk → Bool
  | .num _ => true
  | .name _ => true
  | .sym s => decide (s = .kTrue ∨ s = .kFalse ∨ s = .kVec ∨ s = .kLen ∨ s = .lpar)
  | .fin => false
def okE : Tk → Bool
  | .sym s => decide (s = .kTrue ∨ s = .kFalse ∨ s = .kVec ∨ s = .kLen ∨ s = .lpar ∨ s = .bang ∨ s = .kBox ∨ s = .kUnbox ∨ s = .kRef ∨ s = .kMut ∨ s = .star)
  | .fin => false
  | _ => true
theorem okP_E {u : Tk} (h : okP u = true) : okE u = true := by
  cases u with
  | sym s =>
    have h' := of_decide_eq_true h
    refine decide_eq_true ?_
    rcases h' with h | h | h | h | h <;> simp [h]
  | fin => cases h
  | _ => rfl
def Hd (φ : Tk → Bool) (l : List Tk) : Prop := ∃ u r, l = u :: r ∧ φ u = true
theorem Hd.app {φ : Tk → Bool} {l m : List Tk} (h : Hd φ l) : Hd φ (l ++ m) := by
  obtain ⟨u, r, rfl, h⟩ := h
  exact ⟨u, r ++ m, rfl, h⟩
theorem Hd.nx {φ ψ : Tk → Bool} {l : List Tk} {f : Tk → Bool} (h : Hd φ l) (hi : ∀ u, φ u = true → ψ u = true) : nx l f ψ := by
  obtain ⟨u, r, rfl, h⟩ := h
  exact hi u h
theorem Hd.mono {φ ψ : Tk → Bool} {l : List Tk} (h : Hd φ l) (hi : ∀ u, φ u = true → ψ u = true) : Hd ψ l := by
  obtain ⟨u, r, rfl, h⟩ := h
  exact ⟨u, r, rfl, hi u h⟩
theorem lv_le (e : Ex) : 1 ≤ e.lv ∧ e.lv ≤ 5 := by
  cases e with
  | op s _ _ => show 1 ≤ s.lv ∧ s.lv ≤ 5; cases s <;> decide
  | un _ _ => show 1 ≤ 4 ∧ 4 ≤ 5; decide
  | rf _ _ => show 1 ≤ 4 ∧ 4 ≤ 5; decide
  | _ => show 1 ≤ 5 ∧ 5 ≤ 5; decide
theorem hd_both : ∀ (d : Nat) (e : Ex), GE d e → Hd okE (toks e.ps) ∧ (e.lv = 5 → Hd okP (toks e.ps)) := by
  have wrE : ∀ (k : Nat) (e : Ex), Hd okE (toks e.ps) → Hd okE (Tn k e) := fun k e h => by
    by_cases c : e.lv < k
    · rw [Tn_lt c]; exact ⟨_, _, rfl, rfl⟩
    · rw [Tn_ge c]; exact h
  have wr5 : ∀ e : Ex, (e.lv = 5 → Hd okP (toks e.ps)) → Hd okP (Tn 5 e) := fun e h => by
    by_cases c : e.lv < 5
    · rw [Tn_lt c]; exact ⟨_, _, rfl, rfl⟩
    · rw [Tn_ge c]
      refine h ?_
      have := (lv_le e).2
      omega
  intro d
  induction d with
  | zero =>
    intro e g
    cases e with
    | num _ => exact ⟨⟨_, _, rfl, rfl⟩, fun _ => ⟨_, _, rfl, rfl⟩⟩
    | name _ => exact ⟨⟨_, _, rfl, rfl⟩, fun _ => ⟨_, _, rfl, rfl⟩⟩
    | truth b => cases b <;> exact ⟨⟨_, _, rfl, rfl⟩, fun _ => ⟨_, _, rfl, rfl⟩⟩
    | _ => exact g.elim
  | succ d ih =>
    intro e g
    cases e with
    | num _ => exact ⟨⟨_, _, rfl, rfl⟩, fun _ => ⟨_, _, rfl, rfl⟩⟩
    | name _ => exact ⟨⟨_, _, rfl, rfl⟩, fun _ => ⟨_, _, rfl, rfl⟩⟩
    | truth b => cases b <;> exact ⟨⟨_, _, rfl, rfl⟩, fun _ => ⟨_, _, rfl, rfl⟩⟩
    | op s a b =>
      refine ⟨?_, fun h => by cases s <;> cases h⟩
      rw [Ex.ps, toks_app]
      exact (wrE _ a (ih a g.1).1).app
    | un u a =>
      refine ⟨?_, fun h => by cases h⟩
      rw [Ex.ps, toks_app]
      cases u <;> exact ⟨_, _, rfl, rfl⟩
    | rf r p =>
      refine ⟨?_, fun h => by cases h⟩
      rw [Ex.ps, toks_app]
      cases r <;> exact ⟨_, _, rfl, rfl⟩
    | field p f =>
      have q := wr5 p (ih p g.2.1).2
      rw [Ex.ps, toks_app]
      exact ⟨(q.mono fun u => okP_E).app, fun _ => q.app⟩
    | index p i =>
      have q := wr5 p (ih p g.2.1).2
      rw [Ex.ps, toks_app]
      exact ⟨(q.mono fun u => okP_E).app, fun _ => q.app⟩
    | call f xs => exact ⟨⟨_, _, rfl, rfl⟩, fun _ => ⟨_, _, rfl, rfl⟩⟩
    | len p => exact ⟨⟨_, _, rfl, rfl⟩, fun _ => ⟨_, _, rfl, rfl⟩⟩
    | vec k => exact ⟨⟨_, _, rfl, rfl⟩, fun _ => ⟨_, _, rfl, rfl⟩⟩
theorem hdE {d : Nat} {e : Ex} (g : GE d e) : Hd okE (toks e.ps) := (hd_both d e g).1
theorem hd5 {d : Nat} {e : Ex} (g : GE d e) : Hd okP (Tn 5 e) := by
  by_cases c : e.lv < 5
  · rw [Tn_lt c]; exact ⟨_, _, rfl, rfl⟩
  · rw [Tn_ge c]
    exact (hd_both d e g).2 (by have := (lv_le e).2; omega)
theorem okP_ne {u : Tk} (h : okP u = true) : neS .bang u = true ∧ neS .kBox u = true ∧ neS .kUnbox u = true ∧ neS .kRef u = true ∧ neS .kMut u = true ∧ neS .star u = true := by
  cases u with
  | sym s => cases s <;> first | exact (by decide) | exact absurd h (by decide)
  | fin => cases h
  | _ => exact ⟨rfl, rfl, rfl, rfl, rfl, rfl⟩
theorem okE_ne {u : Tk} (h : okE u = true) : neS .rpar u = true ∧ neS .lbrace u = true := by
  cases u with
  | sym s => cases s <;> first | exact (by decide) | exact absurd h (by decide)
  | fin => cases h
  | _ => exact ⟨rfl, rfl⟩
/-! ### at the end -/
theorem prim_end (n : Nat) : EndK true (primP (n + 1)) := .isNum (.skip (.skip (.skip (.skip (.skip (.bindB .name))))))
theorem post_end (n : Nat) : EndK true (postP (n + 2)) := .bindB (prim_end n)
theorem place_end (n : Nat) : EndK true (placeP (n + 3)) := .skip (.bindB (post_end n))
theorem un_end (n : Nat) : EndK true (unaryP (n + 3)) := .skip (.skip (.skip (.skip (.skip (.peek (post_end n))))))
theorem prod_end (n : Nat) : EndK true (prodP (n + 4)) := .bindB (un_end n)
theorem tot_end (n : Nat) : EndK true (totP (n + 5)) := .bindB (prod_end n)
theorem one_end (n : Nat) : EndK true (oneP (n + 6)) := .bindB (tot_end n)
theorem one_endG {n : Nat} (h : 6 ≤ n) : EndK true (oneP n) := by obtain ⟨m, rfl⟩ := Nat.exists_eq_add_of_le' h; exact one_end m
theorem tot_endG {n : Nat} (h : 5 ≤ n) : EndK true (totP n) := by obtain ⟨m, rfl⟩ := Nat.exists_eq_add_of_le' h; exact tot_end m
theorem prod_endG {n : Nat} (h : 4 ≤ n) : EndK true (prodP n) := by obtain ⟨m, rfl⟩ := Nat.exists_eq_add_of_le' h; exact prod_end m
theorem un_endG {n : Nat} (h : 3 ≤ n) : EndK true (unaryP n) := by obtain ⟨m, rfl⟩ := Nat.exists_eq_add_of_le' h; exact un_end m
theorem place_endG {n : Nat} (h : 3 ≤ n) : EndK true (placeP n) := by obtain ⟨m, rfl⟩ := Nat.exists_eq_add_of_le' h; exact place_end m
theorem post_endG {n : Nat} (h : 2 ≤ n) : EndK true (postP n) := by obtain ⟨m, rfl⟩ := Nat.exists_eq_add_of_le' h; exact post_end m
theorem kind_endG {n : Nat} (h : 1 ≤ n) : EndK true (kindP n) := by obtain ⟨m, rfl⟩ := Nat.exists_eq_add_of_le' h; exact kind_end m
theorem postL_end {n : Nat} (h : 1 ≤ n) (e : Ex) : EndK false (postL n e) := by obtain ⟨m, rfl⟩ := Nat.exists_eq_add_of_le' h; exact .pk2 .pure
theorem prodL_end {n : Nat} (h : 1 ≤ n) (e : Ex) : EndK false (prodL n e) := by obtain ⟨m, rfl⟩ := Nat.exists_eq_add_of_le' h; exact .skip .pure
theorem totL_end {n : Nat} (h : 1 ≤ n) (e : Ex) : EndK false (totL n e) := by obtain ⟨m, rfl⟩ := Nat.exists_eq_add_of_le' h; exact .pk2 .pure
theorem moreP_end {n : Nat} (h : 1 ≤ n) (acc : List Ex) : EndK false (moreP n acc) := by obtain ⟨m, rfl⟩ := Nat.exists_eq_add_of_le' h; exact .skip .pure
theorem exprs_end {n : Nat} (h : 7 ≤ n) : EndK true (exprsP n) := by obtain ⟨m, rfl⟩ := Nat.exists_eq_add_of_le' h; exact .bindB (.peek (.bindB (one_endG (by omega))))
/-! ### the loops' ends -/
theorem postL_nil {n : Nat} (h : 1 ≤ n) (e : Ex) : Rd false (postL n e) [] e f4 := by
  obtain ⟨m, rfl⟩ := Nat.exists_eq_add_of_le' h
  exact .p2F (fun t ht => Bool.and_eq_true_iff.mpr ⟨(f4s ht).1, (f4s ht).2.1⟩) .pure
theorem prodL_nil {n : Nat} (h : 1 ≤ n) (e : Ex) : Rd false (prodL n e) [] e f3 := by
  obtain ⟨m, rfl⟩ := Nat.exists_eq_add_of_le' h
  exact .skF (fun t ht => (f43 ht).2) .pure
theorem totL_nil {n : Nat} (h : 1 ≤ n) (e : Ex) : Rd false (totL n e) [] e f2 := by
  obtain ⟨m, rfl⟩ := Nat.exists_eq_add_of_le' h
  exact .p2F (fun t ht => Bool.and_eq_true_iff.mpr ⟨(f32 ht).2.1, (f32 ht).2.2⟩) .pure
theorem Rd.bindN {α β : Type} {k : Bool} {x : P β} {g : β → P α} {ts : List Tk} {v : β} {u : α} {fa fb : Tk → Bool} (h1 : Rd false x ts v fa) (h2 : Rd k (g v) [] u fb) (hfin : fa .fin = true) (hf : ∀ t, fb t = true → fa t = true) (he : ∀ v', EndK k (g v')) : Rd k (bindP x g) ts u fb := by
  have q := Rd.bind (ts2 := []) h1 h2 hfin hf he
  rwa [List.append_nil] at q
theorem up_un {n : Nat} {ts : List Tk} {e : Ex} (h : Rd false (postP n) ts e f4) (hh : Hd okP ts) : Rd false (unaryP (n + 1)) ts e f4 :=
  .skF (hh.nx fun u q => (okP_ne q).1) (.skF (hh.nx fun u q => (okP_ne q).2.1) (.skF (hh.nx fun u q => (okP_ne q).2.2.1) (.skF (hh.nx fun u q => (okP_ne q).2.2.2.1) (.skF (hh.nx fun u q => (okP_ne q).2.2.2.2.1) (.pkF (hh.nx fun u q => (okP_ne q).2.2.2.2.2) h)))))
theorem up_prod {n : Nat} {ts : List Tk} {e : Ex} (hn : 1 ≤ n) (h : Rd false (unaryP n) ts e f4) : Rd false (prodP (n + 1)) ts e f3 := h.bindN (prodL_nil hn e) rfl (fun t ht => (f43 ht).1) (prodL_end hn)
theorem up_tot {n : Nat} {ts : List Tk} {e : Ex} (hn : 1 ≤ n) (h : Rd false (prodP n) ts e f3) : Rd false (totP (n + 1)) ts e f2 := h.bindN (totL_nil hn e) rfl (fun t ht => (f32 ht).1) (totL_end hn)
theorem up_one {n : Nat} {ts : List Tk} {e : Ex} (h : Rd false (totP n) ts e f2) : Rd false (oneP (n + 1)) ts e f1 :=
  h.bindN (.skF (fun t ht => (f21 ht).2.1) (.skF (fun t ht => (f21 ht).2.2) .pure)) rfl (fun t ht => (f21 ht).1) (fun v => .skip (.skip .pure))
structure ER (d : Nat) : Prop where
  one : ∀ e, GE d e → ∀ n, 48 * d + 42 ≤ n → Rd false (oneP n) (toks e.ps) e f1
  tot : ∀ e, GE d e → ∀ n, 48 * d + 41 ≤ n → Rd false (totP n) (Tn 2 e) e f2
  prod : ∀ e, GE d e → ∀ n, 48 * d + 31 ≤ n → Rd false (prodP n) (Tn 3 e) e f3
  un : ∀ e, GE d e → ∀ n, 48 * d + 21 ≤ n → Rd false (unaryP n) (Tn 4 e) e f4
  post : ∀ e, GE d e → ∀ n, 48 * d + 20 ≤ n → Rd false (postP n) (Tn 5 e) e f4
  place : ∀ e, GE d e → e.isPlace = true → ∀ n, 48 * d + 21 ≤ n → Rd false (placeP n) (toks e.ps) e f4
  pl : ∀ e, GE d e → ∃ c, c ≤ d + 1 ∧ ∀ m, 48 * d + 11 ≤ m → ∀ (ts : List Tk) (v : Ex) (f : Tk → Bool), Rd false (postL m e) ts v f → nx ts f (neS .lpar) → Rd false (postP (m + c)) (Tn 5 e ++ ts) v f
  rl : ∀ e, GE d e → ∃ c, c ≤ d + 1 ∧ ∀ m, 48 * d + 21 ≤ m → ∀ (ts : List Tk) (v : Ex) (f : Tk → Bool), Rd false (prodL m e) ts v f → nx ts f f4 → Rd false (prodP (m + c)) (Tn 3 e ++ ts) v f
  tl : ∀ e, GE d e → ∃ c, c ≤ d + 1 ∧ ∀ m, 48 * d + 31 ≤ m → ∀ (ts : List Tk) (v : Ex) (f : Tk → Bool), Rd false (totL m e) ts v f → nx ts f f3 → Rd false (totP (m + c)) (Tn 2 e ++ ts) v f
/-! ### op and its parts -/
theorem inner_un {d : Nat} (I : ER d) {u : Un} {a : Ex} (g : GE d a) {n : Nat} (h : 48 * d + 22 ≤ n) : Rd false (unaryP n) (toks (Ex.un u a).ps) (.un u a) f4 := by
  obtain ⟨m, rfl⟩ : ∃ m, n = m + 1 := ⟨n - 1, by omega⟩
  have q := I.un a g m (by omega)
  have mp : ∀ u : Un, Rd false (bindP (unaryP m) fun a => pureP (Ex.un u a)) (Tn 4 a) (.un u a) f4 := fun u => q.bindN .pure rfl (fun _ h => h) (fun _ => .pure)
  have e1 : EndK false (postP m) := (post_endG (by omega)).weak
  have e2 : EndK false (ifB (peekP .star) (placeP m) (postP m)) := .peek e1
  rw [Ex.ps, toks_app]
  cases u with
  | not => exact .skT (mp .not) (.skip (.skip (.skip (.skip e2))))
  | box => exact .skF rfl (.skT (mp .box) (.skip (.skip (.skip e2))))
  | unbox => exact .skF rfl (.skF rfl (.skT (mp .unbox) (.skip (.skip e2))))
theorem pn_nk' {p : Ex} (h : p.isPlace = true) : p.pn p.nk = p.ps := by
  cases p with
  | rf r q => cases r <;> first | rfl | cases h
  | name _ => rfl
  | field _ _ => rfl
  | index _ _ => rfl
  | _ => cases h
theorem inner_rf {d : Nat} (I : ER d) {r : Rf} {p : Ex} (g : GE d p) (hp : p.isPlace = true) {n : Nat} (h : 48 * d + 23 ≤ n) : Rd false (unaryP n) (toks (Ex.rf r p).ps) (.rf r p) f4 := by
  obtain ⟨m, rfl⟩ : ∃ m, n = m + 1 := ⟨n - 1, by omega⟩
  have e1 : EndK false (postP m) := (post_endG (by omega)).weak
  have e2 : EndK false (ifB (peekP .star) (placeP m) (postP m)) := .peek e1
  have ew : toks (wr p.nk p.lv p.ps) = toks p.ps := congrArg toks (pn_nk' hp)
  rw [Ex.ps, toks_app, ew]
  have mp : ∀ r : Rf, ∀ k, 48 * d + 21 ≤ k → Rd false (bindP (placeP k) fun a => pureP (Ex.rf r a)) (toks p.ps) (.rf r p) f4 := fun r k hk => (I.place p g hp k hk).bindN .pure rfl (fun _ h => h) (fun _ => .pure)
  cases r with
  | ref => exact .skF rfl (.skF rfl (.skF rfl (.skT (mp .ref m (by omega)) (.skip e2))))
  | «mut» => exact .skF rfl (.skF rfl (.skF rfl (.skF rfl (.skT (mp .mut m (by omega)) e2))))
  | deref =>
    obtain ⟨j, rfl⟩ : ∃ j, m = j + 1 := ⟨m - 1, by omega⟩
    exact .skF rfl (.skF rfl (.skF rfl (.skF rfl (.skF rfl (.pkT (.skT (mp .deref j (by omega)) (.bindB (post_endG (by omega)))) e1)))))
theorem toks_op (s : Op) (l r : Ex) : toks (Ex.op s l r).ps = Tn s.ll l ++ (.sym s.sym :: Tn (s.lv + 1) r) := by
  rw [Ex.ps, toks_app]
  rfl
theorem rl_op {d : Nat} (I : ER d) {l r : Ex} (gl : GE d l) (gr : GE d r) : ∃ c, c ≤ d + 2 ∧ ∀ m, 48 * d + 21 ≤ m → ∀ (ts : List Tk) (v : Ex) (f : Tk → Bool), Rd false (prodL m (.op .mul l r)) ts v f → nx ts f f4 → Rd false (prodP (m + c)) (toks (Ex.op .mul l r).ps ++ ts) v f := by
  obtain ⟨c, hc, h⟩ := I.rl l gl
  refine ⟨c + 1, by omega, fun m hm ts v f h2 hn => ?_⟩
  have q : Rd false (prodL (m + 1) l) (.sym .star :: (Tn 4 r ++ ts)) v f := .skT (Rd.bind (I.un r gr m hm) h2 rfl hn (fun v' => prodL_end (by omega) _)) .pure
  have w := h (m + 1) (by omega) _ v f q (show f4 (.sym .star) = true from rfl)
  rw [toks_op, List.append_assoc]
  rw [show m + (c + 1) = m + 1 + c by omega]
  exact w
theorem tl_op {d : Nat} (I : ER d) {o : Op} (ho : o = .add ∨ o = .sub) {l r : Ex} (gl : GE d l) (gr : GE d r) : ∃ c, c ≤ d + 2 ∧ ∀ m, 48 * d + 31 ≤ m → ∀ (ts : List Tk) (v : Ex) (f : Tk → Bool), Rd false (totL m (.op o l r)) ts v f → nx ts f f3 → Rd false (totP (m + c)) (toks (Ex.op o l r).ps ++ ts) v f := by
  obtain ⟨c, hc, h⟩ := I.tl l gl
  refine ⟨c + 1, by omega, fun m hm ts v f h2 hn => ?_⟩
  have q : ∀ o : Op, o = .add ∨ o = .sub → Rd false (totL m (.op o l r)) ts v f → Rd false (totL (m + 1) l) (.sym o.sym :: (Tn 3 r ++ ts)) v f := by
    intro o ho h2
    rcases ho with rfl | rfl
    · exact .p2T (.inl rfl) (.skT (Rd.bind (I.prod r gr m (by omega)) h2 rfl hn (fun v' => totL_end (by omega) _)) (.bindB .expect)) .pure
    · exact .p2T (.inr rfl) (Rd.skF (ts := .sym .minus :: (Tn 3 r ++ ts)) (show neS .plus (.sym .minus) = true from rfl) (Rd.bindA (ts1 := [.sym .minus]) Rd.expect (Rd.bind (I.prod r gr m (by omega)) h2 rfl hn (fun v' => totL_end (by omega) _)))) .pure
  have e2 : o.ll = 2 ∧ o.lv + 1 = 3 := by rcases ho with rfl | rfl <;> decide
  have w := h (m + 1) (by omega) _ v f (q o ho h2) (show f3 (.sym o.sym) = true by rcases ho with rfl | rfl <;> rfl)
  rw [toks_op, List.append_assoc, e2.1, e2.2]
  rw [show m + (c + 1) = m + 1 + c by omega]
  exact w
theorem inner_mul {d : Nat} (hd : d ≤ 8) (I : ER d) {l r : Ex} (gl : GE d l) (gr : GE d r) {n : Nat} (h : 48 * d + 32 ≤ n) : Rd false (prodP n) (toks (Ex.op .mul l r).ps) (.op .mul l r) f3 := by
  obtain ⟨c, hc, w⟩ := rl_op I gl gr
  have q := w (n - c) (by omega) [] _ f3 (prodL_nil (by omega) _) (fun t ht => (f43 ht).1)
  rw [List.append_nil, Nat.sub_add_cancel (by omega)] at q
  exact q
theorem inner_add {d : Nat} (hd : d ≤ 8) (I : ER d) {o : Op} (ho : o = .add ∨ o = .sub) {l r : Ex} (gl : GE d l) (gr : GE d r) {n : Nat} (h : 48 * d + 42 ≤ n) : Rd false (totP n) (toks (Ex.op o l r).ps) (.op o l r) f2 := by
  obtain ⟨c, hc, w⟩ := tl_op I ho gl gr
  have q := w (n - c) (by omega) [] _ f2 (totL_nil (by omega) _) (fun t ht => (f32 ht).1)
  rw [List.append_nil, Nat.sub_add_cancel (by omega)] at q
  exact q
theorem inner_cmp {d : Nat} (I : ER d) {o : Op} (ho : o = .eq ∨ o = .lt) {l r : Ex} (gl : GE d l) (gr : GE d r) {n : Nat} (h : 48 * d + 44 ≤ n) : Rd false (oneP n) (toks (Ex.op o l r).ps) (.op o l r) f1 := by
  obtain ⟨m, rfl⟩ : ∃ m, n = m + 1 := ⟨n - 1, by omega⟩
  have ql := I.tot l gl m (by omega)
  have qr := I.tot r gr m (by omega)
  have fin : ∀ v : Ex, EndK false (ifB (skipP .eqeq) (bindP (totP m) fun u => pureP (Ex.op .eq v u)) (ifB (skipP .lt) (bindP (totP m) fun u => pureP (Ex.op .lt v u)) (pureP v))) := fun v => .skip (.skip .pure)
  rcases ho with rfl | rfl
  · rw [toks_op]
    exact (Rd.bind (ts2 := .sym .eqeq :: Tn 2 r) ql (.skT (qr.bindN (.pure (v := Ex.op .eq l r) (f := f2)) rfl (fun _ h => h) (fun _ => .pure)) (.skip .pure)) rfl (show f2 (.sym .eqeq) = true from rfl) fin).fol fun t ht => (f21 ht).1
  · rw [toks_op]
    exact (Rd.bind (ts2 := .sym .lt :: Tn 2 r) ql (Rd.skF (ts := .sym .lt :: Tn 2 r) (show neS .eqeq (.sym .lt) = true from rfl) (.skT (qr.bindN (.pure (v := Ex.op .lt l r) (f := f2)) rfl (fun _ h => h) (fun _ => .pure)) .pure)) rfl (show f2 (.sym .lt) = true from rfl) fin).fol fun t ht => (f21 ht).1
/-- in its own form, not in parentheses -/
theorem inner {d : Nat} (hd : d ≤ 8) (I : ER d) {e : Ex} (g : GE (d + 1) e) (hl : e.lv < 5) {n : Nat} (h : 48 * (d + 1) + 10 ≤ n) : Rd false (oneP n) (toks e.ps) e f1 := by
  obtain ⟨m, rfl⟩ : ∃ m, n = m + 3 := ⟨n - 3, by omega⟩
  cases e with
  | op o l r =>
    cases o with
    | mul => exact up_one (up_tot (by omega) (inner_mul hd I g.1 g.2 (by omega)))
    | add => exact up_one (inner_add hd I (.inl rfl) g.1 g.2 (by omega))
    | sub => exact up_one (inner_add hd I (.inr rfl) g.1 g.2 (by omega))
    | eq => exact inner_cmp I (.inl rfl) g.1 g.2 (by omega)
    | lt => exact inner_cmp I (.inr rfl) g.1 g.2 (by omega)
  | un u a => exact up_one (up_tot (by omega) (up_prod (by omega) (inner_un I g (by omega))))
  | rf r p => exact up_one (up_tot (by omega) (up_prod (by omega) (inner_rf I g.2 g.1 (by omega))))
  | _ => exact absurd hl (by show ¬ 5 < 5; decide)
/-! ### atoms -/
theorem more_rd {d : Nat} (I : ER d) : ∀ (ys acc : List Ex), (∀ y ∈ ys, GE d y) → ∀ n, 48 * d + 43 + ys.length ≤ n → Rd false (moreP n acc) (toks ((ys.map fun y => cs2 ++ y.ps).flatten)) (acc ++ ys) (fun t => f1 t && neS .comma t)
  | [], acc, _, n, h => by
    obtain ⟨m, rfl⟩ : ∃ m, n = m + 1 := ⟨n - 1, by omega⟩
    rw [List.append_nil]
    exact .skF (fun t ht => by simp only [Bool.and_eq_true] at ht; exact ht.2) .pure
  | y :: ys, acc, g, n, h => by
    simp only [List.length_cons] at h
    obtain ⟨m, rfl⟩ : ∃ m, n = m + 1 := ⟨n - 1, by omega⟩
    have ih := more_rd I ys (acc ++ [y]) (fun z hz => g z (by simp [hz])) m (by omega)
    have e : toks (((y :: ys).map fun y => cs2 ++ y.ps).flatten) = .sym .comma :: (toks y.ps ++ toks ((ys.map fun y => cs2 ++ y.ps).flatten)) := by
      rw [List.map_cons, List.flatten_cons, List.append_assoc, toks_app]
      show .sym .comma :: toks (y.ps ++ _) = _
      rw [toks_app]
    rw [e]
    refine .skT (Rd.bind (I.one y (g y (by simp)) m (by omega)) ?_ rfl ?_ (fun v' => moreP_end (by omega) _)) .pure
    · rw [List.append_assoc] at ih
      exact ih
    · cases ys with
      | nil => exact fun t ht => by simp only [Bool.and_eq_true] at ht; exact ht.1
      | cons z ys =>
        rw [List.map_cons, List.flatten_cons, List.append_assoc, toks_app]
        exact rfl
theorem join_cons (x : List Pc) : ∀ ys : List (List Pc), joinP cs2 (x :: ys) = x ++ (ys.map fun y => cs2 ++ y).flatten
  | [] => by simp [joinP]
  | y :: ys => by
    rw [joinP, join_cons y ys]
    simp
theorem exprs_rd {d : Nat} (I : ER d) {xs : List Ex} (g : ∀ x ∈ xs, GE d x) (hl : xs.length ≤ 3) {n : Nat} (h : 48 * d + 48 ≤ n) {f : Tk → Bool} : Rd true (exprsP n) (toks (joinP cs2 (xs.map Ex.ps)) ++ [.sym .rpar]) xs f := by
  obtain ⟨m, rfl⟩ : ∃ m, n = m + 1 := ⟨n - 1, by omega⟩
  have fin : ∀ v : List Ex, EndK true (bindP (expectP .rpar) fun _ => pureP v) := fun v => .bindB .expect
  have close : ∀ v : List Ex, Rd true (bindP (expectP .rpar) fun _ => pureP v) [.sym .rpar] v f := fun v => Rd.bindA (ts1 := [.sym .rpar]) (ts2 := []) Rd.expect .pure
  cases xs with
  | nil =>
    refine ⟨fun a r ha hr => ?_, fun a e t s ha he => ?_⟩
    · obtain ⟨t, b, rfl, e1, e2⟩ := tail_app (r := r) (u := .sym .rpar) (ts := []) ha
      have : b = [] := by cases b <;> first | rfl | cases e2
      subst this
      have hh : hd ([t] ++ r) = .sym .rpar := e1
      have e3 : (ifB (peekP .rpar) (pureP []) (bindP (oneP m) fun e => moreP m [e])) ([t] ++ r) = .ok [] ([t] ++ r) := by
        rw [ifB_eq (show peekP .rpar ([t] ++ r) = .ok true _ by unfold peekP; rw [decide_eq_true hh]), if_pos rfl]
        rfl
      show (bindP (ifB (peekP .rpar) (pureP []) (bindP (oneP m) fun e => moreP m [e])) fun xs => bindP (expectP .rpar) fun _ => pureP xs) ([t] ++ r) = _
      rw [bindP, e3]
      exact (close []).full [t] r (by show [t.tk] = _; rw [e1]) hr
    · cases a with
      | nil => exact exprs_end (by omega) e he
      | cons u a => cases a <;> simp [joinP, toks] at ha
  | cons x ys =>
    have gx := g x (by simp)
    have q1 := I.one x gx m (by omega)
    have q2 := more_rd I ys [x] (fun y hy => g y (by simp [hy])) m (by simp only [List.length_cons] at hl; omega)
    rw [List.map_cons, join_cons, List.map_map, toks_app, List.append_assoc]
    have q3 : Rd false (bindP (oneP m) fun e => moreP m [e]) (toks x.ps ++ toks ((ys.map fun y => cs2 ++ y.ps).flatten)) (x :: ys) (fun t => f1 t && neS .comma t) := by
      refine Rd.bind q1 q2 rfl ?_ (fun v' => moreP_end (by omega) _)
      cases ys with
      | nil => exact fun t ht => by simp only [Bool.and_eq_true] at ht; exact ht.1
      | cons z ys =>
        rw [List.map_cons, List.flatten_cons, List.append_assoc, toks_app]
        exact rfl
    have q4 : Rd false (ifB (peekP .rpar) (pureP []) (bindP (oneP m) fun e => moreP m [e])) (toks x.ps ++ toks ((ys.map fun y => cs2 ++ y.ps).flatten)) (x :: ys) (fun t => f1 t && neS .comma t) := .pkF ((hdE gx).app.nx fun u hu => (okE_ne hu).1) q3
    have q5 := Rd.bind (ts2 := [.sym .rpar]) q4 (close (x :: ys)) rfl (show (f1 (.sym .rpar) && neS .comma (.sym .rpar)) = true from rfl) (fun v => fin v)
    rw [List.append_assoc] at q5
    exact q5
/-- parentheses -/
theorem paren_rd {e : Ex} {n : Nat} (h : Rd false (oneP n) (toks e.ps) e f1) (h0 : 6 ≤ n) {f : Tk → Bool} : Rd true (primP (n + 1)) (.sym .lpar :: (toks e.ps ++ [.sym .rpar])) e f := by
  refine .nuF rfl (.skF rfl (.skF rfl (.skF rfl (.skF rfl (.skT (Rd.bind h (Rd.bindA (ts1 := [.sym .rpar]) (ts2 := []) Rd.expect .pure) rfl rfl fun v => .bindB .expect) (.bindB .name))))))
/-- what is read by the first def: neither a field nor an index -/
def Ex.isAt : Ex → Bool
  | .num _ => true
  | .name _ => true
  | .truth _ => true
  | .call _ _ => true
  | .len _ => true
  | .vec _ => true
  | _ => false
theorem atom_rd {d : Nat} (I : ∀ d', d = d' + 1 → ER d') {e : Ex} (g : GE d e) (ha : e.isAt = true) {n : Nat} (h : 48 * d + 10 ≤ n) : Rd false (primP n) (toks e.ps) e (neS .lpar) := by
  obtain ⟨m, rfl⟩ : ∃ m, n = m + 1 := ⟨n - 1, by omega⟩
  cases e with
  | num k => exact (Rd.nuT ((Rd.mapA (v := k) Rd.num Ex.num).fol fun _ _ => rfl) (.skip (.skip (.skip (.skip (.skip (.bindB .name))))))).weak
  | truth b =>
    cases b with
    | true => exact (Rd.nuF (ts := [.sym .kTrue]) (show (!Tk.isNum (.sym .kTrue)) = true from rfl) (.skT (k := true) .pure (.skip (.skip (.skip (.skip (.bindB .name))))))).weak
    | false => exact (Rd.nuF (ts := [.sym .kFalse]) (show (!Tk.isNum (.sym .kFalse)) = true from rfl) (Rd.skF (ts := [.sym .kFalse]) (show neS .kTrue (.sym .kFalse) = true from rfl) (.skT (k := true) .pure (.skip (.skip (.skip (.bindB .name))))))).weak
  | name w =>
    refine .nuF rfl (.skF rfl (.skF rfl (.skF rfl (.skF rfl (.skF rfl ?_)))))
    exact Rd.bindA (ts1 := [.name w]) (ts2 := []) (f2 := neS .lpar) (g := fun w => ifB (skipP .lpar) (bindP (exprsP m) fun xs => pureP (Ex.call w xs)) (pureP (Ex.name w))) (u := Ex.name w) (k := false) Rd.name (.skF (fun t ht => ht) .pure)
  | call w xs =>
    obtain ⟨d', rfl⟩ : ∃ j, d = j + 1 := by cases d with | zero => exact g.elim | succ j => exact ⟨j, rfl⟩
    have I' := I d' rfl
    rw [Ex.ps, Ex.pss_map, toks_tok, toks_tok, toks_app]
    refine .nuF rfl (.skF rfl (.skF rfl (.skF rfl (.skF rfl (.skF rfl ?_)))))
    have q0 := (exprs_rd I' g.2.2 g.2.1 (n := m) (by omega) (f := any)).mapA (Ex.call w)
    exact Rd.bindA (ts1 := [.name w]) (f2 := neS .lpar) (g := fun w => ifB (skipP .lpar) (bindP (exprsP m) fun xs => pureP (Ex.call w xs)) (pureP (Ex.name w))) (u := Ex.call w xs) (k := false) Rd.name (.skT (q0.weak.fol fun _ _ => rfl) .pure)
  | len p =>
    obtain ⟨d', rfl⟩ : ∃ j, d = j + 1 := by cases d with | zero => exact g.elim | succ j => exact ⟨j, rfl⟩
    have I' := I d' rfl
    have q0 := I'.place p g.2 g.1 m (by omega)
    rw [Ex.ps, toks_tok, toks_tok, toks_app]
    refine .nuF rfl (.skF rfl (.skF rfl (.skF rfl (.skT ?_ (.skip (.bindB .name))))))
    refine Rd.bindA (ts1 := [.sym .lpar]) Rd.expect ?_
    exact Rd.bind q0 (Rd.bindA (ts1 := [.sym .rpar]) (ts2 := []) Rd.expect .pure) rfl rfl fun v => .bindB EndK.expect
  | vec k =>
    obtain ⟨d', rfl⟩ : ∃ j, d = j + 1 := by cases d with | zero => exact g.elim | succ j => exact ⟨j, rfl⟩
    have q0 := (kind_rd 2 k g m (by omega)).mapA Ex.vec
    refine .nuF rfl (.skF rfl (.skF rfl (.skT (q0.weak.fol fun _ _ => rfl) (.skip (.skip (.bindB .name))))))
  | _ => cases ha
/-! ### all of one depth -/
theorem er_of {d : Nat} (hd : d ≤ 8) (I : ∀ d', d = d' + 1 → ER d') : ER d := by
  have inn : ∀ e, GE d e → e.lv < 5 → ∀ n, 48 * d + 10 ≤ n → Rd false (oneP n) (toks e.ps) e f1 := by
    intro e g hl n h
    obtain ⟨d', rfl⟩ : ∃ j, d = j + 1 := by
      cases d with
      | succ j => exact ⟨j, rfl⟩
      | zero => cases e <;> first | exact g.elim | exact absurd hl (by show ¬ 5 < 5; decide)
    exact inner (by omega) (I d' rfl) g hl h
  have pl : ∀ e, GE d e → ∃ c, c ≤ d + 1 ∧ ∀ m, 48 * d + 11 ≤ m → ∀ (ts : List Tk) (v : Ex) (f : Tk → Bool), Rd false (postL m e) ts v f → nx ts f (neS .lpar) → Rd false (postP (m + c)) (Tn 5 e ++ ts) v f := by
    intro e g
    have base : (∀ m, 48 * d + 11 ≤ m → Rd false (primP m) (Tn 5 e) e (neS .lpar)) → ∃ c, c ≤ d + 1 ∧ ∀ m, 48 * d + 11 ≤ m → ∀ (ts : List Tk) (v : Ex) (f : Tk → Bool), Rd false (postL m e) ts v f → nx ts f (neS .lpar) → Rd false (postP (m + c)) (Tn 5 e ++ ts) v f :=
      fun hb => ⟨1, by omega, fun m hm ts v f h hn => Rd.bind (hb m hm) h rfl hn fun v' => postL_end (by omega) _⟩
    by_cases hl : e.lv < 5
    · refine base fun m hm => ?_
      rw [Tn_lt hl]
      obtain ⟨j, rfl⟩ : ∃ j, m = j + 1 := ⟨m - 1, by omega⟩
      exact (paren_rd (inn e g hl j (by omega)) (by omega)).weak
    · have e5 : Tn 5 e = toks e.ps := Tn_ge hl
      rw [e5] at base ⊢
      cases e with
      | field p w =>
        obtain ⟨d', rfl⟩ : ∃ j, d = j + 1 := by cases d with | zero => exact g.elim | succ j => exact ⟨j, rfl⟩
        obtain ⟨c, hc, q⟩ := (I d' rfl).pl p g.2.1
        refine ⟨c + 1, by omega, fun m hm ts v f h hn => ?_⟩
        have w1 : Rd false (postL (m + 1) p) (.sym .dot :: .name w :: ts) v f := by
          refine .p2T (.inl rfl) ?_ .pure
          rw [need_ok g.1]
          exact .skT (Rd.bindA (ts1 := [.name w]) Rd.name h) (.bindB .expect)
        have w2 := q (m + 1) (by omega) _ v f w1 (show neS .lpar (.sym .dot) = true from rfl)
        rw [Ex.ps, toks_app, List.append_assoc, show m + (c + 1) = m + 1 + c by omega]
        exact w2
      | index p i =>
        obtain ⟨d', rfl⟩ : ∃ j, d = j + 1 := by cases d with | zero => exact g.elim | succ j => exact ⟨j, rfl⟩
        obtain ⟨c, hc, q⟩ := (I d' rfl).pl p g.2.1
        refine ⟨c + 1, by omega, fun m hm ts v f h hn => ?_⟩
        have q1 := (I d' rfl).one i g.2.2 m (by omega)
        have w1 : Rd false (postL (m + 1) p) (.sym .lbrk :: (toks i.ps ++ (.sym .rbrk :: ts))) v f := by
          refine .p2T (.inr rfl) ?_ .pure
          rw [need_ok g.1]
          refine Rd.skF (show neS .dot (.sym .lbrk) = true from rfl) ?_
          refine Rd.bindA (ts1 := [.sym .lbrk]) Rd.expect (Rd.bind q1 (Rd.bindA (ts1 := [.sym .rbrk]) Rd.expect h) rfl rfl fun v => .bindB EndK.expect)
        have w2 := q (m + 1) (by omega) _ v f w1 (show neS .lpar (.sym .lbrk) = true from rfl)
        rw [Ex.ps, toks_app, toks_tok, toks_app, List.append_assoc, show m + (c + 1) = m + 1 + c by omega]
        show Rd false _ (Tn 5 p ++ (.sym .lbrk :: (toks i.ps ++ [.sym .rbrk] ++ ts))) v f
        rw [List.append_assoc]
        exact w2
      | op o l r => exact absurd (show (Ex.op o l r).lv < 5 by show o.lv < 5; cases o <;> decide) hl
      | un u a => exact absurd (show (Ex.un u a).lv < 5 by show 4 < 5; decide) hl
      | rf r p => exact absurd (show (Ex.rf r p).lv < 5 by show 4 < 5; decide) hl
      | _ => exact base fun m hm => atom_rd I g rfl (by omega)
  have post : ∀ e, GE d e → ∀ n, 48 * d + 20 ≤ n → Rd false (postP n) (Tn 5 e) e f4 := by
    intro e g n h
    obtain ⟨c, hc, q⟩ := pl e g
    have w := q (n - c) (by omega) [] e f4 (postL_nil (by omega) e) (fun t ht => (f4s ht).2.2)
    rwa [List.append_nil, Nat.sub_add_cancel (by omega)] at w
  have un : ∀ e, GE d e → ∀ n, 48 * d + 21 ≤ n → Rd false (unaryP n) (Tn 4 e) e f4 := by
    intro e g n h
    have up5 : Rd false (unaryP n) (Tn 5 e) e f4 := by
      obtain ⟨m, rfl⟩ : ∃ m, n = m + 1 := ⟨n - 1, by omega⟩
      exact up_un (post e g m (by omega)) (hd5 g)
    by_cases h4 : e.lv < 4
    · rw [Tn_lt h4, ← Tn_lt (k := 5) (show e.lv < 5 by omega)]
      exact up5
    · rw [Tn_ge h4]
      cases e with
      | op o l r =>
        exact absurd (show (Ex.op o l r).lv < 4 by show o.lv < 4; cases o <;> decide) h4
      | un u a =>
        obtain ⟨d', rfl⟩ : ∃ j, d = j + 1 := by cases d with | zero => exact g.elim | succ j => exact ⟨j, rfl⟩
        exact inner_un (I d' rfl) g (by omega)
      | rf r p =>
        obtain ⟨d', rfl⟩ : ∃ j, d = j + 1 := by cases d with | zero => exact g.elim | succ j => exact ⟨j, rfl⟩
        exact inner_rf (I d' rfl) g.2 g.1 (by omega)
      | _ => exact up5
  have rl : ∀ e, GE d e → ∃ c, c ≤ d + 1 ∧ ∀ m, 48 * d + 21 ≤ m → ∀ (ts : List Tk) (v : Ex) (f : Tk → Bool), Rd false (prodL m e) ts v f → nx ts f f4 → Rd false (prodP (m + c)) (Tn 3 e ++ ts) v f := by
    intro e g
    have base : Tn 3 e = Tn 4 e → ∃ c, c ≤ d + 1 ∧ ∀ m, 48 * d + 21 ≤ m → ∀ (ts : List Tk) (v : Ex) (f : Tk → Bool), Rd false (prodL m e) ts v f → nx ts f f4 → Rd false (prodP (m + c)) (Tn 3 e ++ ts) v f :=
      fun he => ⟨1, by omega, fun m hm ts v f h hn => by rw [he]; exact Rd.bind (un e g m hm) h rfl hn fun v' => prodL_end (by omega) _⟩
    by_cases h3 : e.lv < 3
    · exact base (by rw [Tn_lt h3, Tn_lt (show e.lv < 4 by omega)])
    · by_cases h4 : e.lv < 4
      · cases e with
        | op o l r =>
          obtain ⟨d', rfl⟩ : ∃ j, d = j + 1 := by cases d with | zero => exact g.elim | succ j => exact ⟨j, rfl⟩
          have ho : o = .mul := by cases o <;> first | rfl | exact absurd (show (1:Nat) < 3 by decide) h3 | exact absurd (show (2:Nat) < 3 by decide) h3
          subst ho
          rw [Tn_ge h3]
          obtain ⟨c, hc, q⟩ := rl_op (I d' rfl) g.1 g.2
          exact ⟨c, by omega, fun m hm => q m (by omega)⟩
        | un u a => exact absurd h4 (by show ¬ 4 < 4; decide)
        | rf r p => exact absurd h4 (by show ¬ 4 < 4; decide)
        | _ => exact absurd h4 (by show ¬ 5 < 4; decide)
      · exact base (by rw [Tn_ge h3, Tn_ge h4])
  have prod : ∀ e, GE d e → ∀ n, 48 * d + 31 ≤ n → Rd false (prodP n) (Tn 3 e) e f3 := by
    intro e g n h
    obtain ⟨c, hc, q⟩ := rl e g
    have w := q (n - c) (by omega) [] e f3 (prodL_nil (by omega) e) (fun t ht => (f43 ht).1)
    rwa [List.append_nil, Nat.sub_add_cancel (by omega)] at w
  have tl : ∀ e, GE d e → ∃ c, c ≤ d + 1 ∧ ∀ m, 48 * d + 31 ≤ m → ∀ (ts : List Tk) (v : Ex) (f : Tk → Bool), Rd false (totL m e) ts v f → nx ts f f3 → Rd false (totP (m + c)) (Tn 2 e ++ ts) v f := by
    intro e g
    have base : Tn 2 e = Tn 3 e → ∃ c, c ≤ d + 1 ∧ ∀ m, 48 * d + 31 ≤ m → ∀ (ts : List Tk) (v : Ex) (f : Tk → Bool), Rd false (totL m e) ts v f → nx ts f f3 → Rd false (totP (m + c)) (Tn 2 e ++ ts) v f :=
      fun he => ⟨1, by omega, fun m hm ts v f h hn => by rw [he]; exact Rd.bind (prod e g m hm) h rfl hn fun v' => totL_end (by omega) _⟩
    by_cases h2 : e.lv < 2
    · exact base (by rw [Tn_lt h2, Tn_lt (show e.lv < 3 by omega)])
    · by_cases h3 : e.lv < 3
      · cases e with
        | op o l r =>
          obtain ⟨d', rfl⟩ : ∃ j, d = j + 1 := by cases d with | zero => exact g.elim | succ j => exact ⟨j, rfl⟩
          have ho : o = .add ∨ o = .sub := by cases o <;> first | exact .inl rfl | exact .inr rfl | exact absurd (show (1:Nat) < 2 by decide) h2 | exact absurd h3 (show ¬ (3:Nat) < 3 by decide)
          rw [Tn_ge h2]
          obtain ⟨c, hc, q⟩ := tl_op (I d' rfl) ho g.1 g.2
          exact ⟨c, by omega, fun m hm => q m (by omega)⟩
        | un u a => exact absurd h3 (by show ¬ 4 < 3; decide)
        | rf r p => exact absurd h3 (by show ¬ 4 < 3; decide)
        | _ => exact absurd h3 (by show ¬ 5 < 3; decide)
      · exact base (by rw [Tn_ge h2, Tn_ge h3])
  have tot : ∀ e, GE d e → ∀ n, 48 * d + 41 ≤ n → Rd false (totP n) (Tn 2 e) e f2 := by
    intro e g n h
    obtain ⟨c, hc, q⟩ := tl e g
    have w := q (n - c) (by omega) [] e f2 (totL_nil (by omega) e) (fun t ht => (f32 ht).1)
    rwa [List.append_nil, Nat.sub_add_cancel (by omega)] at w
  have one : ∀ e, GE d e → ∀ n, 48 * d + 42 ≤ n → Rd false (oneP n) (toks e.ps) e f1 := by
    intro e g n h
    by_cases hl : e.lv < 5
    · exact inn e g hl n (by omega)
    · obtain ⟨m, rfl⟩ : ∃ m, n = m + 1 := ⟨n - 1, by omega⟩
      have w := up_one (tot e g m (by omega))
      rwa [Tn_ge (show ¬ e.lv < 2 by omega)] at w
  have place : ∀ e, GE d e → e.isPlace = true → ∀ n, 48 * d + 21 ≤ n → Rd false (placeP n) (toks e.ps) e f4 := by
    intro e g hp n h
    obtain ⟨m, rfl⟩ : ∃ m, n = m + 1 := ⟨n - 1, by omega⟩
    by_cases hl : e.lv < 5
    · cases e with
      | rf r p =>
        have hr : r = .deref := by cases r <;> first | rfl | cases hp
        subst hr
        obtain ⟨d', rfl⟩ : ∃ j, d = j + 1 := by cases d with | zero => exact g.elim | succ j => exact ⟨j, rfl⟩
        have ew : toks (wr p.nk p.lv p.ps) = toks p.ps := congrArg toks (pn_nk' g.1)
        rw [Ex.ps, toks_app, ew]
        exact .skT (((I d' rfl).place p g.2 g.1 m (by omega)).bindN .pure rfl (fun _ h => h) (fun _ => .pure)) (.bindB (post_endG (by omega)))
      | op _ _ _ => cases hp
      | un _ _ => cases hp
      | _ => exact absurd hl (by show ¬ 5 < 5; decide)
    · have q := post e g m (by omega)
      have hh := hd5 g
      rw [Tn_ge hl] at q hh
      refine .skF (hh.nx fun u q => (okP_ne q).2.2.2.2.2) ?_
      have e0 : Rd false (bindP (needP e) fun _ => pureP e) [] e f4 := by
        rw [need_ok hp]
        exact .pure
      refine q.bindN e0 rfl (fun _ h => h) (fun v => ?_)
      intro z hz
      unfold At bindP needP
      cases v.isPlace with
      | true => exact .inr ⟨rfl, v, rfl⟩
      | false => exact .inl rfl
  exact ⟨one, tot, prod, un, post, place, pl, rl, tl⟩
theorem er : ∀ d, d ≤ 8 → ER d
  | 0, h => er_of h fun d' z => by cases z
  | d + 1, h => er_of h fun d' z => by
    cases z
    exact er d (by omega)
end Ko
end
section
set_option Elab.async false
set_option linter.all false
set_option maxRecDepth 100000
set_option maxHeartbeats 4000000
/-! Names, pairs, tags, statements, declarations read back -/
namespace Ko
open PySem
theorem close_rd {α : Type} {s : Sym} {v : α} {f : Tk → Bool} : Rd true (bindP (expectP s) fun _ => pureP v) [.sym s] v f := Rd.bindA (ts1 := [.sym s]) (ts2 := []) Rd.expect .pure
theorem close_end {α : Type} {s : Sym} {v : α} : EndK true (bindP (expectP s) fun _ => pureP v) := .bindB .expect
/-- toks of joined pieces -/
def ctk (xs : List (List Pc)) : List Tk := toks ((xs.map fun y => cs2 ++ y).flatten)
theorem ctk_nil : ctk [] = [] := rfl
theorem ctk_cons (x : List Pc) (xs : List (List Pc)) : ctk (x :: xs) = .sym .comma :: (toks x ++ ctk xs) := by
  unfold ctk
  rw [List.map_cons, List.flatten_cons, List.append_assoc, toks_app]
  show .sym .comma :: toks (x ++ _) = _
  rw [toks_app]
theorem join_toks (x : List Pc) (xs : List (List Pc)) : toks (joinP cs2 (x :: xs)) = toks x ++ ctk xs := by rw [join_cons, toks_app]; rfl
theorem names_end {n : Nat} (h : 1 ≤ n) (acc : List Str) : EndK false (namesL n acc) := by obtain ⟨m, rfl⟩ := Nat.exists_eq_add_of_le' h; exact .skip .pure
theorem kinds_end {n : Nat} (h : 1 ≤ n) (acc : List Kd) : EndK false (kindsL n acc) := by obtain ⟨m, rfl⟩ := Nat.exists_eq_add_of_le' h; exact .skip .pure
theorem tags_end {n : Nat} (h : 1 ≤ n) (acc : List (Str × List Kd)) : EndK false (tagsL n acc) := by obtain ⟨m, rfl⟩ := Nat.exists_eq_add_of_le' h; exact .skip .pure
theorem pairs_end {n : Nat} (h : 1 ≤ n) (s : Sym) (acc : List (Str × Kd)) : EndK true (pairsL s n acc) := by
  obtain ⟨m, rfl⟩ := Nat.exists_eq_add_of_le' h
  refine .skip ?_
  cases acc with
  | nil => exact .bind EndK.pure fun _ => .bindB .name
  | cons a acc => exact .bindB .expect
theorem namesL_rd : ∀ (ys acc : List Str) (n : Nat), ys.length + 1 ≤ n → Rd false (namesL n acc) (ctk (ys.map fun x => [nmP x])) (acc ++ ys) (neS .comma)
  | [], acc, n, h => by
    obtain ⟨m, rfl⟩ := Nat.exists_eq_add_of_le' h
    rw [List.append_nil]
    exact .skF (fun t ht => ht) .pure
  | y :: ys, acc, n, h => by
    simp only [List.length_cons] at h
    obtain ⟨m, rfl⟩ : ∃ m, n = m + 1 := ⟨n - 1, by omega⟩
    have ih := namesL_rd ys (acc ++ [y]) m (by omega)
    rw [List.append_assoc] at ih
    rw [List.map_cons, ctk_cons]
    exact .skT (Rd.bindA (ts1 := [.name y]) Rd.name ih) .pure
theorem list_rd {xs : List Str} (h0 : xs ≠ []) {n : Nat} (h : xs.length ≤ n) : Rd false (listP n) (toks (nmsP xs)) xs (neS .comma) := by
  cases xs with
  | nil => exact absurd rfl h0
  | cons x xs =>
    show Rd false _ (toks (joinP cs2 ([nmP x] :: xs.map fun x => [nmP x]))) _ _
    rw [join_toks]
    exact Rd.bindA (ts1 := [.name x]) Rd.name (namesL_rd xs [x] n (by simpa using h))
theorem list_end (n : Nat) : EndK true (listP n) := .bindB .name
theorem names_rd {xs : List Str} (h0 : xs ≠ []) {n : Nat} (h : xs.length ≤ n) {f : Tk → Bool} : Rd true (namesP n) (.sym .lpar :: (toks (nmsP xs) ++ [.sym .rpar])) xs f :=
  Rd.bindA (ts1 := [.sym .lpar]) Rd.expect (Rd.bind (list_rd h0 h) close_rd rfl rfl fun v => close_end)
theorem kindsL_rd : ∀ (ys acc : List Kd) (n : Nat), (∀ k ∈ ys, GK 2 k) → ys.length + 3 ≤ n → Rd false (kindsL n acc) (ctk (ys.map Kd.ps)) (acc ++ ys) (neS .comma)
  | [], acc, n, _, h => by
    obtain ⟨m, rfl⟩ : ∃ m, n = m + 1 := ⟨n - 1, by omega⟩
    rw [List.append_nil]
    exact .skF (fun t ht => ht) .pure
  | y :: ys, acc, n, g, h => by
    simp only [List.length_cons] at h
    obtain ⟨m, rfl⟩ : ∃ m, n = m + 1 := ⟨n - 1, by omega⟩
    have ih := kindsL_rd ys (acc ++ [y]) m (fun k hk => g k (by simp [hk])) (by omega)
    rw [List.append_assoc] at ih
    rw [List.map_cons, ctk_cons]
    exact .skT (Rd.bindA (kind_rd 2 y (g y (by simp)) m (by omega)) ih) .pure
theorem gk_12 : ∀ k, GK 1 k → GK 2 k
  | .int, _ => trivial
  | .bool, _ => trivial
  | .named w, h => h
  | .box k, h => by cases k <;> first | exact trivial | exact h | exact h.elim
  | .vec k, h => by cases k <;> first | exact trivial | exact h | exact h.elim
  | .ref k, h => by cases k <;> first | exact trivial | exact h | exact h.elim
  | .mut k, h => by cases k <;> first | exact trivial | exact h | exact h.elim
theorem tag_rd {t : Str × List Kd} (g : GT t) {n : Nat} (h : 10 ≤ n) : Rd false (tagP n) (toks (tagPs t)) t (neS .lpar) := by
  obtain ⟨w, ks⟩ := t
  rw [tagPs, toks_tok]
  refine Rd.bindA (ts1 := [.name w]) Rd.name ?_
  cases ks with
  | nil =>
    have q : Rd false (ifB (skipP .lpar) (bindP (kindP n) fun k => bindP (kindsL n [k]) fun ks => bindP (expectP .rpar) fun _ => pureP ks) (pureP [])) [] ([] : List Kd) (neS .lpar) := .skF (fun t ht => ht) .pure
    exact q.bindN .pure rfl (fun _ h => h) fun _ => .pure
  | cons k ks =>
    have q : Rd false (ifB (skipP .lpar) (bindP (kindP n) fun k => bindP (kindsL n [k]) fun ks => bindP (expectP .rpar) fun _ => pureP ks) (pureP [])) (.sym .lpar :: (toks (joinP cs2 ((k :: ks).map Kd.ps)) ++ [.sym .rpar])) (k :: ks) (neS .lpar) := by
      refine .skT ?_ .pure
      rw [List.map_cons, join_toks, List.append_assoc]
      have hl : ks.length ≤ 1 := by have := g.2.1; simp only [List.length_cons] at this; omega
      refine Rd.bindA (kind_rd 2 k (gk_12 k (g.2.2 k (by simp))) n (by omega)) ?_
      exact Rd.bind (kindsL_rd ks [k] n (fun j hj => gk_12 j (g.2.2 j (by simp [hj]))) (by omega)) close_rd.weak rfl rfl fun v => close_end.weak
    have e : toks (if (k :: ks).isEmpty = true then [] else sg .lpar :: (joinP cs2 ((k :: ks).map Kd.ps) ++ [sg .rpar])) = .sym .lpar :: (toks (joinP cs2 ((k :: ks).map Kd.ps)) ++ [.sym .rpar]) := by
      rw [if_neg (by simp), toks_tok, toks_app]
      rfl
    show Rd false _ (toks (if (k :: ks).isEmpty = true then [] else sg .lpar :: (joinP cs2 ((k :: ks).map Kd.ps) ++ [sg .rpar]))) _ _
    rw [e]
    exact q.bindN .pure rfl (fun _ h => h) fun _ => .pure
theorem tag_end (n : Nat) : EndK true (tagP n) := .bindB .name
def fT : Tk → Bool := fun t => neS .lpar t && neS .comma t
theorem tagsL_rd : ∀ (ys acc : List (Str × List Kd)) (n : Nat), (∀ t ∈ ys, GT t) → ys.length + 11 ≤ n → Rd false (tagsL n acc) (ctk (ys.map tagPs)) (acc ++ ys) fT
  | [], acc, n, _, h => by
    obtain ⟨m, rfl⟩ : ∃ m, n = m + 1 := ⟨n - 1, by omega⟩
    rw [List.append_nil]
    exact .skF (fun t ht => by simp only [fT, Bool.and_eq_true] at ht; exact ht.2) .pure
  | y :: ys, acc, n, g, h => by
    simp only [List.length_cons] at h
    obtain ⟨m, rfl⟩ : ∃ m, n = m + 1 := ⟨n - 1, by omega⟩
    have ih := tagsL_rd ys (acc ++ [y]) m (fun k hk => g k (by simp [hk])) (by omega)
    rw [List.append_assoc] at ih
    rw [List.map_cons, ctk_cons]
    refine .skT (Rd.bind (tag_rd (g y (by simp)) (by omega)) ih rfl ?_ fun v => tags_end (by omega) _) .pure
    cases ys with
    | nil => exact fun t ht => by simp only [fT, Bool.and_eq_true] at ht; exact ht.1
    | cons z zs => rw [List.map_cons, ctk_cons]; exact rfl
theorem var_rd {v : Str × List (Str × List Kd)} (g : GV v) {n : Nat} (h : 20 ≤ n) {f : Tk → Bool} : Rd true (varP n) (.name v.1 :: .sym .lbrace :: (toks (joinP cs2 (v.2.map tagPs)) ++ [.sym .rbrace])) v f := by
  obtain ⟨w, ts⟩ := v
  cases ts with
  | nil => exact absurd g.2.1.1 (by simp)
  | cons t ts =>
    have hl : ts.length ≤ 2 := by have := g.2.1.2; simp only [List.length_cons] at this; omega
    show Rd true _ (.name w :: .sym .lbrace :: (toks (joinP cs2 ((t :: ts).map tagPs)) ++ [.sym .rbrace])) _ _
    rw [List.map_cons, join_toks, List.append_assoc]
    refine Rd.bindA (ts1 := [.name w]) Rd.name (Rd.bindA (ts1 := [.sym .lbrace]) Rd.expect ?_)
    refine Rd.bind (tag_rd (g.2.2 t (by simp)) (by omega)) (Rd.bind (tagsL_rd ts [t] n (fun k hk => g.2.2 k (by simp [hk])) (by omega)) close_rd rfl rfl fun v => close_end) rfl ?_ fun v => .bind (tags_end (by omega) _) fun _ => close_end
    cases ts with
    | nil => exact rfl
    | cons z zs => rw [List.map_cons, ctk_cons]; exact rfl
theorem pairsL_rd {last : Sym} (hl : last = .rpar ∨ last = .rbrace) {f : Tk → Bool} : ∀ (ys acc : List (Str × Kd)) (n : Nat), acc ≠ [] → (∀ p ∈ ys, p.1 ∈ NAMES ∧ GK 2 p.2) → ys.length + 4 ≤ n → Rd true (pairsL last n acc) (ctk (ys.map pairPs) ++ [.sym last]) (acc ++ ys) f
  | [], acc, n, ha, _, h => by
    obtain ⟨m, rfl⟩ : ∃ m, n = m + 1 := ⟨n - 1, by omega⟩
    rw [List.append_nil]
    refine .skT .pure ?_
    cases acc with
    | nil => exact absurd rfl ha
    | cons a acc => exact .bindB .expect
  | (w, k) :: ys, acc, n, ha, g, h => by
    simp only [List.length_cons] at h
    obtain ⟨m, rfl⟩ : ∃ m, n = m + 1 := ⟨n - 1, by omega⟩
    have ih := pairsL_rd hl (f := f) ys (acc ++ [(w, k)]) m (by simp) (fun p hp => g p (by simp [hp])) (by omega)
    rw [List.append_assoc] at ih
    rw [List.map_cons, ctk_cons, List.cons_append]
    refine .skF (by rcases hl with rfl | rfl <;> exact rfl) ?_
    have he : acc.isEmpty = false := by cases acc <;> first | exact absurd rfl ha | rfl
    rw [he]
    have e : toks (pairPs (w, k)) ++ ctk (ys.map pairPs) ++ [.sym last] = .name w :: .sym .colon :: (toks k.ps ++ (ctk (ys.map pairPs) ++ [.sym last])) := by
      rw [pairPs, toks_tok, toks_tok, toks_sp]
      simp
    rw [e]
    refine Rd.bindA (ts1 := [.sym .comma]) (x := expectP .comma) Rd.expect ?_
    refine Rd.bindA (ts1 := [.name w]) Rd.name (Rd.bindA (ts1 := [.sym .colon]) Rd.expect ?_)
    exact Rd.bindA (kind_rd 2 k (g (w, k) (by simp)).2 m (by omega)) ih
theorem pairs_rd {last : Sym} (hl : last = .rpar ∨ last = .rbrace) {f : Tk → Bool} {ps : List (Str × Kd)} (g : ∀ p ∈ ps, p.1 ∈ NAMES ∧ GK 2 p.2) {n : Nat} (h : ps.length + 5 ≤ n) : Rd true (pairsL last n []) (toks (pairsPs ps) ++ [.sym last]) ps f := by
  obtain ⟨m, rfl⟩ : ∃ m, n = m + 1 := ⟨n - 1, by omega⟩
  cases ps with
  | nil => exact .skT .pure (.bind EndK.pure fun _ => .bindB .name)
  | cons p ps =>
    obtain ⟨w, k⟩ := p
    simp only [List.length_cons] at h
    show Rd true _ (toks (joinP cs2 (pairPs (w, k) :: ps.map pairPs)) ++ [.sym last]) _ _
    rw [join_toks]
    have e : toks (pairPs (w, k)) ++ ctk (ps.map pairPs) ++ [.sym last] = .name w :: .sym .colon :: (toks k.ps ++ (ctk (ps.map pairPs) ++ [.sym last])) := by
      rw [pairPs, toks_tok, toks_tok, toks_sp]
      simp
    rw [e]
    refine .skF (by rcases hl with rfl | rfl <;> exact rfl) ?_
    show Rd true (bindP (pureP ()) _) _ _ _
    have ih := pairsL_rd hl (f := f) ps [(w, k)] m (by simp) (fun p hp => g p (by simp [hp])) (by omega)
    refine (show Rd true (bindP takeNameP fun w => bindP (expectP .colon) fun _ => bindP (kindP m) fun k => pairsL last m ([] ++ [(w, k)])) _ _ f from ?_)
    refine Rd.bindA (ts1 := [.name w]) Rd.name (Rd.bindA (ts1 := [.sym .colon]) Rd.expect ?_)
    exact Rd.bindA (kind_rd 2 k (g (w, k) (by simp)).2 m (by omega)) ih
theorem rec_rd {r : Str × List (Str × Kd)} (g : GR r) {n : Nat} (h : 20 ≤ n) {f : Tk → Bool} : Rd true (recP n) (.name r.1 :: .sym .lbrace :: (toks (pairsPs r.2) ++ [.sym .rbrace])) r f := by
  obtain ⟨w, ps⟩ := r
  have hl : ps.length ≤ 3 := g.2.2.1
  have q := (pairs_rd (last := .rbrace) (.inr rfl) (f := any) g.2.2.2 (n := n) (by show ps.length + 5 ≤ n; omega)).mapA fun xs => (w, xs)
  refine Rd.bindA (ts1 := [.name w]) Rd.name (Rd.bindA (ts1 := [.sym .lbrace]) Rd.expect ?_)
  refine .pkF ?_ (q.fol fun _ _ => rfl)
  cases ps with
  | nil => exact absurd g.2.1 (by simp)
  | cons p ps =>
    show nx (toks (joinP cs2 (pairPs p :: ps.map pairPs)) ++ _) _ _
    rw [join_toks]
    exact rfl
end Ko
end
section
set_option Elab.async false
set_option linter.all false
set_option maxRecDepth 100000
set_option maxHeartbeats 4000000
/-! Statements read back -/
namespace Ko
open PySem
def rtk (rs : List (List Pc)) : List Tk := (rs.map toks).flatten
theorem rtk_nil : rtk [] = [] := rfl
theorem rtk_cons (r : List Pc) (rs : List (List Pc)) : rtk (r :: rs) = toks r ++ rtk rs := by simp [rtk]
theorem rtk_app (a b : List (List Pc)) : rtk (a ++ b) = rtk a ++ rtk b := by simp [rtk]
theorem toks_ind (i : Nat) (x : List Pc) : toks (ind i ++ x) = toks x := by
  induction i with
  | zero => rfl
  | succ i ih =>
    show toks (.sp :: (ind i ++ x)) = _
    rw [toks_sp, ih]
/-! ### first tokens -/
def okN : Tk → Bool
  | .name _ => true
  | .sym s => decide (s = .lpar)
  | _ => false
theorem hdN : ∀ (d : Nat) (p : Ex), GE d p → p.isPlace = true → Hd okN (Tn 5 p) := by
  intro d
  induction d with
  | zero =>
    intro p g hp
    cases p with
    | name _ => exact ⟨_, _, rfl, rfl⟩
    | num _ => cases hp
    | truth _ => cases hp
    | _ => exact g.elim
  | succ d ih =>
    intro p g hp
    cases p with
    | name _ => exact ⟨_, _, rfl, rfl⟩
    | field q f =>
      rw [Tn_ge (show ¬ (Ex.field q f).lv < 5 by show ¬ 5 < 5; decide), Ex.ps, toks_app]
      exact (ih q g.2.1 g.1).app
    | index q i =>
      rw [Tn_ge (show ¬ (Ex.index q i).lv < 5 by show ¬ 5 < 5; decide), Ex.ps, toks_app]
      exact (ih q g.2.1 g.1).app
    | rf r q =>
      rw [Tn_lt (show (Ex.rf r q).lv < 5 by show 4 < 5; decide)]
      exact ⟨_, _, rfl, rfl⟩
    | _ => cases hp
theorem okN_ne {u : Tk} (h : okN u = true) : neS .star u = true ∧ neS .kLet u = true ∧ neS .kOpen u = true ∧ neS .kShow u = true ∧ neS .kPush u = true ∧ neS .kTake u = true ∧ neS .kMatch u = true ∧ neS .kIf u = true ∧ neS .kWhile u = true ∧ neS .kPar u = true := by
  cases u with
  | sym s =>
    obtain rfl := of_decide_eq_true h
    decide
  | fin => cases h
  | num _ => cases h
  | name _ => exact ⟨rfl, rfl, rfl, rfl, rfl, rfl, rfl, rfl, rfl, rfl⟩
/-- a name or a parenthesis next -/
theorem pnm_eq (l : List Tok) : (ifB isNameP (pureP true) (peekP .lpar)) l = .ok (okN (hd l)) l := by
  rw [ifB_eq (isName_eq l)]
  cases h : hd l with
  | sym s => show peekP .lpar l = _; unfold peekP; rw [h]; show R.ok (decide (Tk.sym s = .sym .lpar)) l = R.ok (decide (s = .lpar)) l; congr 1; simp
  | name w => rfl
  | num n => show peekP .lpar l = _; unfold peekP; rw [h]; rfl
  | fin => show peekP .lpar l = _; unfold peekP; rw [h]; rfl
theorem Rd.pnT {α : Type} {k : Bool} {t e : P α} {ts : List Tk} {v : α} {f : Tk → Bool} (hh : Hd okN ts) (h : Rd k t ts v f) (he : EndK k e) : Rd k (ifB (ifB isNameP (pureP true) (peekP .lpar)) t e) ts v f := by
  obtain ⟨u, r0, rfl, hu⟩ := hh
  refine ⟨fun a r ha hr => ?_, fun a z t' s' ha hz => ?_⟩
  · rw [ifB_eq (pnm_eq _), hd_app ha]
    show (if okN u = true then _ else _) = _
    rw [hu]
    exact h.full _ r ha hr
  · cases a with
    | nil =>
      unfold At
      rw [show ([] : List Tok) ++ [z] = [z] from rfl, ifB_eq (pnm_eq _), show hd [z] = .fin from hz]
      exact he z hz
    | cons t0 b =>
      have ha' := ha
      simp only [List.map_cons, List.cons_append, List.cons.injEq] at ha'
      unfold At
      rw [ifB_eq (pnm_eq _), show hd (t0 :: b ++ [z]) = u from ha'.1.symm, hu]
      exact h.cut _ z t' s' ha hz
theorem EndK.pn {α : Type} {k : Bool} {t e : P α} (h : EndK k e) : EndK k (ifB (ifB isNameP (pureP true) (peekP .lpar)) t e) := fun z hz => by
  unfold At
  rw [ifB_eq (pnm_eq _), show hd [z] = .fin from hz]
  exact h z hz
/-! ### simple ones -/
theorem set_end (n : Nat) : EndK true (setP n) := .bindB (.peek (.pn .fail))
theorem simp_end (n : Nat) : EndK true (simpP n) := .skip (.skip (.skip (.skip (.skip (set_end n)))))
theorem stmt_end (n : Nat) : EndK true (stmtP (n + 1)) := .skip (.skip (.skip (.skip (.bindB (simp_end n)))))
/-- behind the place or call -/
theorem setK_end (n : Nat) (t : Ex) : EndK false (if t.isCall = true then pureP (St.doS t) else bindP (needP t) fun _ => bindP (expectP .eq) fun _ => bindP (oneP n) fun e => pureP (St.setS t e)) := by
  split
  · exact .pure
  · by_cases hp : t.isPlace = true
    · rw [need_ok hp]
      exact .bindB EndK.expect
    · intro z hz
      refine .inl ?_
      unfold bindP needP
      rw [if_neg hp]
theorem er2 : ER 2 := er 2 (by decide)
theorem lpl {p : Ex} (h : p.isPlace = true) : p.lv < 5 → ∃ q, p = .rf .deref q := by
  intro hl
  cases p with
  | rf r q => cases r <;> first | exact ⟨q, rfl⟩ | cases h
  | op _ _ _ => cases h
  | un _ _ => cases h
  | _ => exact absurd hl (by show ¬ 5 < 5; decide)
theorem set_rd {p : Ex} (gp : GE 2 p) (hp : p.isPlace = true) {ts : List Tk} {v : St} {f : Tk → Bool} {n : Nat} (h : 138 ≤ n) (hk : Rd false (if p.isCall = true then pureP (St.doS p) else bindP (needP p) fun _ => bindP (expectP .eq) fun _ => bindP (oneP n) fun e => pureP (St.setS p e)) ts v f) (hn : nx ts f f4) :
    Rd false (setP n) (toks p.ps ++ ts) v f := by
  refine Rd.bind ?_ hk rfl hn (setK_end n)
  by_cases hl : p.lv < 5
  · obtain ⟨q, rfl⟩ := lpl hp hl
    have w := er2.place _ gp hp n (by omega)
    rw [Ex.ps, toks_app] at w ⊢
    exact .pkT w (EndK.pn (EndK.fail)).weak
  · have w := er2.post _ gp n (by omega)
    have hh := hdN 2 p gp hp
    rw [Tn_ge hl] at w hh
    exact .pkF (hh.nx fun u hu => (okN_ne hu).1) (.pnT hh w EndK.fail.weak)
theorem do_rd {e : Ex} (g : GE 2 e) (hc : e.isCall = true) {n : Nat} (h : 138 ≤ n) : Rd false (setP n) (toks e.ps) (.doS e) f4 := by
  cases e with
  | call w xs =>
    have q := er2.post _ g n (by omega)
    rw [Tn_ge (show ¬ (Ex.call w xs).lv < 5 by show ¬ 5 < 5; decide)] at q
    have hh : Hd okN (toks (Ex.call w xs).ps) := ⟨.name w, _, rfl, rfl⟩
    have w2 : Rd false (ifB (peekP .star) (placeP n) (ifB (ifB isNameP (pureP true) (peekP .lpar)) (postP n) failP)) (toks (Ex.call w xs).ps) (Ex.call w xs) f4 := .pkF (hh.nx fun u hu => (okN_ne hu).1) (.pnT hh q EndK.fail.weak)
    exact w2.bindN (.pure (v := St.doS (.call w xs)) (f := f4)) rfl (fun _ h => h) (setK_end n)
  | _ => cases hc
/-- the tokens ahead of the semicolon -/
def St.btk : St → List Tk
  | .letS w k e => .sym .kLet :: .name w :: .sym .colon :: (toks k.ps ++ (.sym .eq :: toks e.ps))
  | .openS e xs => .sym .kOpen :: (toks e.ps ++ (.sym .kAs :: .sym .lpar :: (toks (nmsP xs) ++ [.sym .rpar])))
  | .showS e => .sym .kShow :: toks e.ps
  | .pushS p e => .sym .kPush :: .sym .lpar :: (toks p.ps ++ (.sym .comma :: (toks e.ps ++ [.sym .rpar])))
  | .takeS p w => .sym .kTake :: .sym .lpar :: (toks p.ps ++ [.sym .rpar, .sym .kAs, .name w])
  | .doS e => toks e.ps
  | .setS p e => toks p.ps ++ (.sym .eq :: toks e.ps)
  | _ => []
theorem row_toks {s : St} (g : GS 0 s) : toks s.row = s.btk ++ [.sym .semi] := by
  cases s with
  | letS w k e => simp [St.row, St.btk, toks, toks_app]
  | openS e xs => simp [St.row, St.btk, toks, toks_app]
  | showS e => simp [St.row, St.btk, toks, toks_app]
  | pushS p e => simp [St.row, St.btk, toks, toks_app]
  | takeS p w => simp [St.row, St.btk, toks, toks_app]
  | doS e => simp [St.row, St.btk, toks, toks_app]
  | setS p e => simp [St.row, St.btk, toks, toks_app]
  | _ => exact g.elim
theorem set_hd {p : Ex} (gp : GE 2 p) (hp : p.isPlace = true) : Hd (fun u => okN u || decide (u = .sym .star)) (toks p.ps) := by
  by_cases hl : p.lv < 5
  · obtain ⟨q, rfl⟩ := lpl hp hl
    rw [Ex.ps, toks_app]
    exact ⟨_, _, rfl, rfl⟩
  · have := hdN 2 p gp hp
    rw [Tn_ge hl] at this
    exact this.mono fun u hu => by rw [hu]; rfl
theorem okNs_ne {u : Tk} (h : (okN u || decide (u = .sym .star)) = true) : neS .kLet u = true ∧ neS .kOpen u = true ∧ neS .kShow u = true ∧ neS .kPush u = true ∧ neS .kTake u = true ∧ neS .kMatch u = true ∧ neS .kIf u = true ∧ neS .kWhile u = true ∧ neS .kPar u = true := by
  rcases Bool.or_eq_true_iff.mp h with h | h
  · exact (okN_ne h).2
  · rw [of_decide_eq_true h]; decide
theorem simp_rd {s : St} (g : GS 0 s) {n : Nat} (h : 138 ≤ n) : Rd false (simpP n) s.btk s f1 := by
  cases s with
  | letS w k e =>
    refine .skT ?_ (.skip (.skip (.skip (.skip (set_end n).weak))))
    refine Rd.bindA (ts1 := [.name w]) Rd.name (Rd.bindA (ts1 := [.sym .colon]) Rd.expect (Rd.bindA (kind_rd 2 k g.2.1 n (by omega)) (Rd.bindA (ts1 := [.sym .eq]) Rd.expect ?_)))
    exact (er2.one e g.2.2 n (by omega)).bindN .pure rfl (fun _ h => h) fun _ => .pure
  | openS e xs =>
    refine .skF rfl (.skT ?_ (.skip (.skip (.skip (set_end n).weak))))
    have hx : xs ≠ [] := by
      intro z
      have := g.2.1
      rw [z] at this
      exact absurd this (by decide)
    refine Rd.bind (er2.one e g.1 n (by omega)) (Rd.bindA (ts1 := [.sym .kAs]) Rd.expect ?_) rfl rfl fun v => .bindB EndK.expect
    have q := (names_rd hx (n := n) (by have := g.2.2.1; omega) (f := any)).mapA (St.openS e)
    exact (q.weak).fol fun _ _ => rfl
  | showS e =>
    refine .skF rfl (.skF rfl (.skT ?_ (.skip (.skip (set_end n).weak))))
    exact (er2.one e g n (by omega)).bindN .pure rfl (fun _ h => h) fun _ => .pure
  | pushS p e =>
    refine .skF rfl (.skF rfl (.skF rfl (.skT ?_ (.skip (set_end n).weak))))
    refine Rd.bindA (ts1 := [.sym .lpar]) Rd.expect (Rd.bind (er2.place p g.2.1 g.1 n (by omega)) (Rd.bindA (ts1 := [.sym .comma]) Rd.expect ?_) rfl rfl fun v => .bindB EndK.expect)
    exact Rd.bind (er2.one e g.2.2 n (by omega)) close_rd.weak rfl rfl fun v => close_end.weak
  | takeS p w =>
    refine .skF rfl (.skF rfl (.skF rfl (.skF rfl (.skT ?_ (set_end n).weak))))
    refine Rd.bindA (ts1 := [.sym .lpar]) Rd.expect (Rd.bind (er2.place p g.2.1 g.1 n (by omega)) (Rd.bindA (ts1 := [.sym .rpar]) Rd.expect (Rd.bindA (ts1 := [.sym .kAs]) Rd.expect ?_)) rfl rfl fun v => .bindB EndK.expect)
    exact ((Rd.mapA (v := w) Rd.name (St.takeS p)).weak).fol fun _ _ => rfl
  | doS e =>
    have hh : Hd (fun u => okN u || decide (u = .sym .star)) (toks e.ps) := by
      cases e with
      | call w xs => exact ⟨.name w, _, rfl, rfl⟩
      | _ => cases g.1
    refine .skF (hh.nx fun u hu => (okNs_ne hu).1) (.skF (hh.nx fun u hu => (okNs_ne hu).2.1) (.skF (hh.nx fun u hu => (okNs_ne hu).2.2.1) (.skF (hh.nx fun u hu => (okNs_ne hu).2.2.2.1) (.skF (hh.nx fun u hu => (okNs_ne hu).2.2.2.2.1) ?_))))
    exact (do_rd g.2 g.1 h).fol fun t ht => (f43 (f32 (f21 ht).1).1).1
  | setS p e =>
    have hh := (set_hd g.2.1 g.1).app (m := .sym .eq :: toks e.ps)
    refine .skF (hh.nx fun u hu => (okNs_ne hu).1) (.skF (hh.nx fun u hu => (okNs_ne hu).2.1) (.skF (hh.nx fun u hu => (okNs_ne hu).2.2.1) (.skF (hh.nx fun u hu => (okNs_ne hu).2.2.2.1) (.skF (hh.nx fun u hu => (okNs_ne hu).2.2.2.2.1) ?_))))
    refine set_rd g.2.1 g.1 h ?_ rfl
    have hc : p.isCall = false := by cases p <;> first | rfl | cases g.1
    rw [hc, need_ok g.1]
    refine Rd.bindA (ts1 := [.sym .eq]) (x := expectP .eq) Rd.expect ?_
    exact (er2.one e g.2.2 n (by omega)).bindN .pure rfl (fun _ h => h) fun _ => .pure
  | _ => exact g.elim
end Ko
end
section
set_option Elab.async false
set_option linter.all false
set_option maxRecDepth 100000
set_option maxHeartbeats 4000000
/-! Statements, blocks, functions read back -/
namespace Ko
open PySem
theorem toks_ind0 (i : Nat) : toks (ind i) = [] := by have := toks_ind i []; rwa [List.append_nil] at this
def okSt : Tk → Bool := fun u => neS .rbrace u && neS .kReturn u && neS .kElse u
theorem okSt_ne {u : Tk} (h : okSt u = true) : neS .rbrace u = true ∧ neS .kReturn u = true ∧ neS .kElse u = true := by
  simp only [okSt, Bool.and_eq_true] at h
  exact ⟨h.1.1, h.1.2, h.2⟩
theorem okNs_St {u : Tk} (h : (okN u || decide (u = .sym .star)) = true) : okSt u = true := by
  rcases Bool.or_eq_true_iff.mp h with h | h
  · cases u with
    | sym s => obtain rfl := of_decide_eq_true h; decide
    | fin => cases h
    | num _ => cases h
    | name _ => rfl
  · rw [of_decide_eq_true h]; decide
def St.isSi : St → Bool
  | .ifS _ _ _ => false | .whileS _ _ => false | .parS _ _ => false | .matchS _ _ _ => false | _ => true
theorem gs_si {d : Nat} {s : St} (g : GS d s) (h : s.isSi = true) : GS 0 s := by
  cases s <;> first | (cases d <;> exact g) | exact nomatch h
theorem si_rtk {s : St} (h : s.isSi = true) (g : GS 0 s) (i : Nat) : rtk (s.rows i) = s.btk ++ [.sym .semi] := by
  have e : s.rows i = [ind i ++ s.row] := by cases s <;> first | rfl | exact nomatch h
  rw [e, rtk_cons, rtk_nil, List.append_nil, toks_ind, row_toks g]
theorem btk_hd {s : St} (g : GS 0 s) : Hd okSt s.btk := by
  cases s with
  | letS w k e => exact ⟨_, _, rfl, rfl⟩
  | openS e xs => exact ⟨_, _, rfl, rfl⟩
  | showS e => exact ⟨_, _, rfl, rfl⟩
  | pushS p e => exact ⟨_, _, rfl, rfl⟩
  | takeS p w => exact ⟨_, _, rfl, rfl⟩
  | doS e =>
    cases e with
    | call w xs => exact ⟨.name w, _, rfl, rfl⟩
    | _ => cases g.1
  | setS p e => exact ((set_hd g.2.1 g.1).mono fun u hu => okNs_St hu).app
  | _ => exact g.elim
theorem if_rtk (i : Nat) (e : Ex) (a b : List St) : rtk ((St.ifS e a b).rows i) = .sym .kIf :: (toks e.ps ++ ((.sym .lbrace :: (rtk (St.rws (i + 2) a) ++ [.sym .rbrace])) ++ (if b.isEmpty = true then [] else .sym .kElse :: .sym .lbrace :: (rtk (St.rws (i + 2) b) ++ [.sym .rbrace])))) := by
  rw [St.rows]
  by_cases h : b.isEmpty = true
  · rw [if_pos h, if_pos h]
    simp [rtk_cons, rtk_app, rtk_nil, toks_ind0, toks, toks_app]
  · rw [if_neg h, if_neg h]
    simp [rtk_cons, rtk_app, rtk_nil, toks_ind0, toks, toks_app]
theorem while_rtk (i : Nat) (e : Ex) (a : List St) : rtk ((St.whileS e a).rows i) = .sym .kWhile :: (toks e.ps ++ (.sym .lbrace :: (rtk (St.rws (i + 2) a) ++ [.sym .rbrace]))) := by
  rw [St.rows]
  simp [rtk_cons, rtk_app, rtk_nil, toks_ind0, toks, toks_app]
theorem par_rtk (i : Nat) (a b : List St) : rtk ((St.parS a b).rows i) = .sym .kPar :: ((.sym .lbrace :: (rtk (St.rws (i + 2) a) ++ [.sym .rbrace])) ++ (.sym .lbrace :: (rtk (St.rws (i + 2) b) ++ [.sym .rbrace]))) := by
  rw [St.rows]
  simp [rtk_cons, rtk_app, rtk_nil, toks_ind0, toks, toks_app]
def How.tk : How → List Tk
  | .move => []
  | .ref => [.sym .kRef]
  | .mut => [.sym .kMut]
theorem how_toks (h : How) : toks h.ps = h.tk := by cases h <;> rfl
theorem match_rtk (i : Nat) (h : How) (p : Ex) (cs : List Cs) : rtk ((St.matchS h p cs).rows i) = .sym .kMatch :: (h.tk ++ (toks p.ps ++ (.sym .lbrace :: (rtk (Cs.rws i cs) ++ [.sym .rbrace])))) := by
  rw [St.rows]
  simp [rtk_cons, rtk_app, rtk_nil, toks_ind0, toks, toks_app, how_toks]
theorem case_rtk (i : Nat) (t : Str) (xs : List Str) (b : List St) : rtk ((Cs.mk t xs b).rows i) = .name t :: (toks (listedP xs) ++ (.sym .lbrace :: (rtk (St.rws (i + 4) b) ++ [.sym .rbrace]))) := by
  rw [Cs.rows]
  simp [rtk_cons, rtk_app, rtk_nil, toks_ind0, toks, toks_app]
theorem st_hd {d : Nat} {s : St} (g : GS d s) (i : Nat) : Hd okSt (rtk (s.rows i)) := by
  by_cases h : s.isSi = true
  · rw [si_rtk h (gs_si g h)]
    exact (btk_hd (gs_si g h)).app
  · cases s with
    | ifS e a b => rw [if_rtk]; exact ⟨_, _, rfl, rfl⟩
    | whileS e a => rw [while_rtk]; exact ⟨_, _, rfl, rfl⟩
    | parS a b => rw [par_rtk]; exact ⟨_, _, rfl, rfl⟩
    | matchS hw p cs => rw [match_rtk]; exact ⟨_, _, rfl, rfl⟩
    | _ => exact absurd rfl h
theorem btk_hd2 {s : St} (g : GS 0 s) : Hd (fun u => neS .kMatch u && neS .kIf u && neS .kWhile u && neS .kPar u) s.btk := by
  have hq : ∀ u : Tk, (okN u || decide (u = .sym .star)) = true → (neS .kMatch u && neS .kIf u && neS .kWhile u && neS .kPar u) = true := fun u hu => by
    obtain ⟨_, _, _, _, _, a, b, c, d⟩ := okNs_ne hu
    rw [a, b, c, d]
    rfl
  cases s with
  | letS w k e => exact ⟨_, _, rfl, rfl⟩
  | openS e xs => exact ⟨_, _, rfl, rfl⟩
  | showS e => exact ⟨_, _, rfl, rfl⟩
  | pushS p e => exact ⟨_, _, rfl, rfl⟩
  | takeS p w => exact ⟨_, _, rfl, rfl⟩
  | doS e =>
    cases e with
    | call w xs => exact ⟨.name w, _, rfl, rfl⟩
    | _ => cases g.1
  | setS p e => exact ((set_hd g.2.1 g.1).mono hq).app
  | _ => exact g.elim
def RSt (d : Nat) : Prop := ∀ s, GS d s → ∀ n, 12 * d + 150 ≤ n → ∀ i, Rd false (stmtP n) (rtk (s.rows i)) s (neS .kElse)
theorem stmts_end {n : Nat} (h : 2 ≤ n) (stop : Sym) (acc : List St) : EndK true (stmtsL stop n acc) := by
  obtain ⟨m, rfl⟩ : ∃ m, n = m + 2 := ⟨n - 2, by omega⟩
  exact .skip (.bindB (stmt_end m))
theorem stmts_rd {d : Nat} (R : RSt d) {stop : Sym} (hs : stop = .rbrace ∨ stop = .kReturn) {i : Nat} {f : Tk → Bool} : ∀ (ys acc : List St) (n : Nat), (∀ s ∈ ys, GS d s) → 12 * d + 151 + ys.length ≤ n → Rd true (stmtsL stop n acc) (rtk (St.rws i ys) ++ [.sym stop]) (acc ++ ys) f
  | [], acc, n, _, h => by
    obtain ⟨m, rfl⟩ : ∃ m, n = m + 2 := ⟨n - 2, by omega⟩
    rw [List.append_nil]
    exact .skT .pure (.bindB (stmt_end m))
  | y :: ys, acc, n, g, h => by
    simp only [List.length_cons] at h
    obtain ⟨m, rfl⟩ : ∃ m, n = m + 1 := ⟨n - 1, by omega⟩
    have gy := g y (by simp)
    have ih := stmts_rd R hs (i := i) (f := f) ys (acc ++ [y]) m (fun s hs => g s (by simp [hs])) (by omega)
    rw [List.append_assoc] at ih
    rw [St.rws, rtk_app, List.append_assoc]
    have hh := (st_hd gy i).app (m := rtk (St.rws i ys) ++ [.sym stop])
    refine .skF (hh.nx fun u hu => by rcases hs with rfl | rfl; exact (okSt_ne hu).1; exact (okSt_ne hu).2.1) ?_
    refine Rd.bind (R y gy m (by omega) i) ih rfl ?_ fun v => stmts_end (by omega) stop _
    cases ys with
    | nil => rcases hs with rfl | rfl <;> exact rfl
    | cons z zs =>
      rw [St.rws, rtk_app, List.append_assoc]
      exact ((st_hd (g z (by simp)) i).app).nx fun u hu => (okSt_ne hu).2.2
theorem block_rd {d : Nat} (R : RSt d) {i : Nat} {b : List St} (g : b.length ≤ 3 ∧ ∀ s ∈ b, GS d s) {n : Nat} (h : 12 * d + 155 ≤ n) {f : Tk → Bool} : Rd true (blockP n) (.sym .lbrace :: (rtk (St.rws i b) ++ [.sym .rbrace])) b f := by
  obtain ⟨m, rfl⟩ : ∃ m, n = m + 1 := ⟨n - 1, by omega⟩
  exact Rd.bindA (ts1 := [.sym .lbrace]) Rd.expect (stmts_rd R (.inl rfl) b [] m g.2 (by have := g.1; omega))
theorem block_end (n : Nat) : EndK true (blockP (n + 1)) := .bindB .expect
theorem block_endG {n : Nat} (h : 1 ≤ n) : EndK true (blockP n) := by obtain ⟨m, rfl⟩ := Nat.exists_eq_add_of_le' h; exact block_end m
theorem case_rd {d : Nat} (R : RSt d) {i : Nat} {t : Str} {xs : List Str} {b : List St} (gx : GN 0 2 xs) (g : b.length ≤ 3 ∧ ∀ s ∈ b, GS d s) {n : Nat} (h : 12 * d + 156 ≤ n) {f : Tk → Bool} : Rd true (caseP n) (rtk ((Cs.mk t xs b).rows i)) (.mk t xs b) f := by
  obtain ⟨m, rfl⟩ : ∃ m, n = m + 1 := ⟨n - 1, by omega⟩
  rw [case_rtk]
  refine Rd.bindA (ts1 := [.name t]) Rd.name ?_
  have qb : ∀ xs, Rd true (bindP (blockP m) fun b => pureP (Cs.mk t xs b)) (.sym .lbrace :: (rtk (St.rws (i + 4) b) ++ [.sym .rbrace])) (.mk t xs b) f := fun xs => ((block_rd R (i := i + 4) g (n := m) (by omega) (f := any)).mapA (Cs.mk t xs)).fol fun _ _ => rfl
  cases xs with
  | nil =>
    have q : Rd true (ifB (peekP .lpar) (namesP m) (pureP [])) [] ([] : List Str) (neS .lpar) := .pkF (fun t ht => ht) .pure
    exact Rd.bindT (ts1 := []) q (qb []) rfl rfl
  | cons x xs =>
    have hx : (x :: xs).length ≤ 2 := gx.2.1
    have e : toks (listedP (x :: xs)) = .sym .lpar :: (toks (nmsP (x :: xs)) ++ [.sym .rpar]) := by
      unfold listedP
      rw [if_neg (by simp), toks_tok, toks_app]
      rfl
    rw [e]
    have q : Rd false (ifB (peekP .lpar) (namesP m) (pureP [])) (.sym .lpar :: (toks (nmsP (x :: xs)) ++ [.sym .rpar])) (x :: xs) any := .pkT (names_rd (by simp) (by omega)).weak .pure
    exact Rd.bind q (qb (x :: xs)) rfl nx_any fun v' => .bindB (block_endG (by omega))
theorem case_end (n : Nat) : EndK true (caseP (n + 1)) := .bindB .name
theorem cases_end {n : Nat} (h : 2 ≤ n) (acc : List Cs) : EndK true (casesL n acc) := by
  obtain ⟨m, rfl⟩ : ∃ m, n = m + 2 := ⟨n - 2, by omega⟩
  exact .skip (.bindB (case_end m))
theorem cases_rd {d : Nat} (R : RSt d) {i : Nat} {f : Tk → Bool} : ∀ (ys acc : List Cs) (n : Nat), (∀ t xs b, Cs.mk t xs b ∈ ys → t ∈ NAMES ∧ GN 0 2 xs ∧ (b.length ≤ 3 ∧ ∀ s ∈ b, GS d s)) → 12 * d + 157 + ys.length ≤ n → Rd true (casesL n acc) (rtk (Cs.rws i ys) ++ [.sym .rbrace]) (acc ++ ys) f
  | [], acc, n, _, h => by
    obtain ⟨m, rfl⟩ : ∃ m, n = m + 2 := ⟨n - 2, by omega⟩
    rw [List.append_nil]
    exact .skT .pure (.bindB (case_end m))
  | .mk t xs b :: ys, acc, n, g, h => by
    simp only [List.length_cons] at h
    obtain ⟨m, rfl⟩ : ∃ m, n = m + 1 := ⟨n - 1, by omega⟩
    have gy := g t xs b (by simp)
    have ih := cases_rd R (i := i) (f := f) ys (acc ++ [.mk t xs b]) m (fun t xs b hs => g t xs b (by simp [hs])) (by omega)
    rw [List.append_assoc] at ih
    rw [Cs.rws, rtk_app, List.append_assoc]
    have hh : Hd (neS .rbrace) (rtk ((Cs.mk t xs b).rows i) ++ (rtk (Cs.rws i ys) ++ [.sym .rbrace])) := by
      rw [case_rtk]
      exact ⟨_, _, rfl, rfl⟩
    exact .skF (hh.nx fun _ h => h) (Rd.bindA (case_rd R gy.2.1 gy.2.2 (by omega)) ih)
theorem er1 : ER 1 := er 1 (by decide)
theorem iff_end {n : Nat} (h : 7 ≤ n) : EndK true (iffP n) := by
  obtain ⟨m, rfl⟩ : ∃ m, n = m + 1 := ⟨n - 1, by omega⟩
  exact .bindB (one_endG (by omega))
theorem st_rd_si {d : Nat} {s : St} (g : GS d s) (h : s.isSi = true) {n : Nat} (hn : 139 ≤ n) (i : Nat) {f : Tk → Bool} : Rd true (stmtP n) (rtk (s.rows i)) s f := by
  obtain ⟨m, rfl⟩ : ∃ m, n = m + 1 := ⟨n - 1, by omega⟩
  have g0 := gs_si g h
  rw [si_rtk h g0]
  have hh := (btk_hd2 g0).app (m := [.sym .semi])
  have hb : ∀ u, (neS .kMatch u && neS .kIf u && neS .kWhile u && neS .kPar u) = true → neS .kMatch u = true ∧ neS .kIf u = true ∧ neS .kWhile u = true ∧ neS .kPar u = true := fun u hu => by
    simp only [Bool.and_eq_true] at hu
    exact ⟨hu.1.1.1, hu.1.1.2, hu.1.2, hu.2⟩
  refine .skF (hh.nx fun u hu => (hb u hu).1) (.skF (hh.nx fun u hu => (hb u hu).2.1) (.skF (hh.nx fun u hu => (hb u hu).2.2.1) (.skF (hh.nx fun u hu => (hb u hu).2.2.2) ?_)))
  exact Rd.bind (simp_rd g0 (by omega)) close_rd rfl rfl fun v => close_end
theorem st_rd : ∀ d, RSt d
  | 0 => fun s g n h i => by
    have hs : s.isSi = true := by cases s <;> first | rfl | exact g.elim
    exact (st_rd_si g hs (by omega) i).weak
  | d + 1 => fun s g n h i => by
    have R := st_rd d
    by_cases hs : s.isSi = true
    · exact (st_rd_si g hs (by omega) i).weak
    obtain ⟨m, rfl⟩ : ∃ m, n = m + 2 := ⟨n - 2, by omega⟩
    cases s with
    | ifS e a b =>
      rw [if_rtk]
      refine .skF rfl (.skT ?_ (.skip (.skip (.bindB (simp_end _)))))
      refine Rd.bind (er2.one e g.1 m (by omega)) ?_ rfl rfl fun v => .bindB (block_endG (by omega))
      refine Rd.bindA (block_rd R (i := i + 2) g.2.1 (by omega)) ?_
      by_cases hb : b.isEmpty = true
      · have : b = [] := by cases b <;> first | rfl | cases hb
        subst this
        have q : Rd false (ifB (skipP .kElse) (blockP m) (pureP [])) [] ([] : List St) (neS .kElse) := .skF (fun t ht => ht) .pure
        exact q.bindN .pure rfl (fun _ h => h) fun _ => .pure
      · rw [if_neg hb]
        have q : Rd false (ifB (skipP .kElse) (blockP m) (pureP [])) (.sym .kElse :: .sym .lbrace :: (rtk (St.rws (i + 2) b) ++ [.sym .rbrace])) b any := .skT (block_rd R (i := i + 2) g.2.2 (by omega)).weak .pure
        exact (q.bindN (.pure (v := St.ifS e a b) (f := any)) rfl (fun _ h => h) fun _ => .pure).fol fun _ _ => rfl
    | whileS e a =>
      rw [while_rtk]
      refine .skF rfl (.skF rfl (.skT ?_ (.skip (.bindB (simp_end _)))))
      refine Rd.bind (er1.one e g.1 (m + 1) (by omega)) ?_ rfl rfl fun v => .bindB (block_endG (by omega))
      exact (((block_rd R (i := i + 2) g.2 (n := m + 1) (by omega) (f := any)).mapA (St.whileS e)).weak).fol fun _ _ => rfl
    | parS a b =>
      rw [par_rtk]
      refine .skF rfl (.skF rfl (.skF rfl (.skT ?_ (.bindB (simp_end _)))))
      refine Rd.bindA (block_rd R (i := i + 2) g.1 (by omega)) ?_
      exact (((block_rd R (i := i + 2) g.2 (n := m + 1) (by omega) (f := any)).mapA (St.parS a)).weak).fol fun _ _ => rfl
    | matchS hw p cs =>
      rw [match_rtk]
      refine .skT ?_ (.skip (.skip (.skip (.bindB (simp_end _)))))
      have qp := er2.place p g.2.1 g.1 m (by omega)
      have qc := (cases_rd R (i := i) (f := any) cs [] m g.2.2.2 (by have := g.2.2.1; omega)).mapA (St.matchS hw p)
      have q1 : Rd false (bindP (placeP m) fun p => bindP (expectP .lbrace) fun _ => bindP (casesL m []) fun cs => pureP (St.matchS hw p cs)) (toks p.ps ++ (.sym .lbrace :: (rtk (Cs.rws i cs) ++ [.sym .rbrace]))) (.matchS hw p cs) (neS .kElse) :=
        Rd.bind qp (Rd.bindA (ts1 := [.sym .lbrace]) Rd.expect ((qc.weak).fol fun _ _ => rfl)) rfl rfl fun v => .bindB .expect
      have hp := hdE g.2.1
      have hpe : ∀ hw : How, EndK false (bindP (placeP m) fun p => bindP (expectP .lbrace) fun _ => bindP (casesL m []) fun cs => pureP (St.matchS hw p cs)) := fun hw => .bindB (place_endG (by omega))
      cases hw with
      | ref =>
        have q : Rd false howP [.sym .kRef] How.ref any := .skT .pure (.skip .pure)
        exact Rd.bind q q1 rfl nx_any hpe
      | «mut» =>
        have q : Rd false howP [.sym .kMut] How.mut any := Rd.skF (ts := [.sym .kMut]) rfl (.skT .pure .pure)
        exact Rd.bind q q1 rfl nx_any hpe
      | move =>
        have q : Rd false howP [] How.move (fun t => neS .kRef t && neS .kMut t) := .skF (fun t ht => by simp only [Bool.and_eq_true] at ht; exact ht.1) (.skF (fun t ht => by simp only [Bool.and_eq_true] at ht; exact ht.2) .pure)
        refine Rd.bind (ts1 := []) q q1 rfl ?_ hpe
        -- a place begins with a name, a parenthesis or a star
        have hs := (set_hd g.2.1 g.1).app (m := .sym .lbrace :: (rtk (Cs.rws i cs) ++ [.sym .rbrace]))
        refine hs.nx fun u hu => ?_
        rcases Bool.or_eq_true_iff.mp hu with h | h
        · cases u with
          | sym s => obtain rfl := of_decide_eq_true h; decide
          | fin => cases h
          | num _ => cases h
          | name _ => rfl
        · rw [of_decide_eq_true h]; decide
    | _ => exact absurd rfl hs
/-! ### functions -/
theorem er3 : ER 3 := er 3 (by decide)
theorem head_toks (f : Fn) : rtk (fnRows f) = .sym .kFn :: .name f.name :: .sym .lpar :: (toks (pairsPs f.params) ++ [.sym .rpar] ++ (.sym .arrow :: (toks f.kind.ps ++ (toks (fromPs f.lent) ++ (.sym .lbrace :: (rtk (St.rws 2 f.body) ++ [.sym .kReturn] ++ (toks f.result.ps ++ [.sym .semi, .sym .rbrace]))))))) := by
  simp [fnRows, fnHead, rtk_cons, rtk_app, rtk_nil, toks_ind0, toks, toks_app]
theorem fn_rd {f : Fn} (g : GF f) {n : Nat} (h : 200 ≤ n) {fo : Tk → Bool} : Rd true (fnP n) (rtk (fnRows f)).tail f fo := by
  obtain ⟨gn, gp, gk, gl, gb, ge⟩ := g
  rw [head_toks]
  show Rd true (fnP n) (.name f.name :: .sym .lpar :: _) f fo
  refine Rd.bindA (ts1 := [.name f.name]) Rd.name (Rd.bindA (ts1 := [.sym .lpar]) Rd.expect ?_)
  refine Rd.bindA (pairs_rd (.inl rfl) gp.2.2 (by have := gp.2.1; omega)) (Rd.bindA (ts1 := [.sym .arrow]) Rd.expect (Rd.bindA (kind_rd 2 f.kind gk n (by omega)) ?_))
  have rest : ∀ ls : List Str, Rd true (bindP (expectP .lbrace) fun _ => bindP (stmtsL .kReturn n []) fun b => bindP (oneP n) fun e => bindP (expectP .semi) fun _ => bindP (expectP .rbrace) fun _ => pureP (⟨f.name, f.params, f.kind, ls, b, e⟩ : Fn)) (.sym .lbrace :: (rtk (St.rws 2 f.body) ++ [.sym .kReturn] ++ (toks f.result.ps ++ [.sym .semi, .sym .rbrace]))) ⟨f.name, f.params, f.kind, ls, f.body, f.result⟩ fo := fun ls => by
    refine Rd.bindA (ts1 := [.sym .lbrace]) Rd.expect (Rd.bindA (stmts_rd (st_rd 2) (.inr rfl) f.body [] n gb.2 (by have := gb.1; omega)) ?_)
    exact Rd.bind (er3.one f.result ge n (by omega)) (Rd.bindA (ts1 := [.sym .semi]) Rd.expect close_rd) rfl rfl fun v => .bindB .expect
  obtain ⟨nm, params, kind, lent, body, result⟩ := f
  cases lent with
  | nil =>
    have q : Rd true (ifB (skipP .kFrom) (listP n) (pureP [])) [] ([] : List Str) (neS .kFrom) := .skF (fun t ht => ht) .pure
    exact Rd.bindT (ts1 := []) q (rest []) rfl rfl
  | cons x xs =>
    have e : toks (fromPs (x :: xs)) = .sym .kFrom :: toks (nmsP (x :: xs)) := by
      unfold fromPs
      rw [if_neg (by simp), toks_sp, toks_tok, toks_sp]
    show Rd true _ (toks (fromPs (x :: xs)) ++ _) _ _
    rw [e]
    have q : Rd false (ifB (skipP .kFrom) (listP n) (pureP [])) (.sym .kFrom :: toks (nmsP (x :: xs))) (x :: xs) (neS .comma) := .skT (list_rd (by simp) (by have := gl.2.1; show (x :: xs).length ≤ n; exact Nat.le_trans this (by omega))) .pure
    exact Rd.bind q (rest (x :: xs)) rfl rfl fun v => .bindB .expect
end Ko
end
section
set_option Elab.async false
set_option linter.all false
set_option maxRecDepth 100000
set_option maxHeartbeats 4000000
/-! Programs read back, cut short -/
namespace Ko
open PySem
inductive Dl where
  | rc (r : Str × List (Str × Kd)) | var (v : Str × List (Str × List Kd)) | fn (f : Fn)
def Dl.rows : Dl → List (List Pc)
  | .rc r => [recPs r]
  | .var v => [varPs v]
  | .fn f => fnRows f
def Dl.tk (d : Dl) : List Tk := rtk d.rows
def Dl.good : Dl → Prop
  | .rc r => GR r
  | .var v => GV v
  | .fn f => GF f
def Pr.add (q : Pr) : Dl → Pr
  | .rc r => { q with recs := q.recs ++ [r] }
  | .var v => { q with vars := q.vars ++ [v] }
  | .fn f => { q with fns := q.fns ++ [f] }
def Dl.kw : Dl → Sym
  | .rc _ => .kRecord
  | .var _ => .kVariant
  | .fn _ => .kFn
theorem dl_head (d : Dl) : d.tk = .sym d.kw :: d.tk.tail := by
  cases d with
  | rc r => simp [Dl.tk, Dl.rows, rtk_cons, rtk_nil, recPs, toks, Dl.kw]
  | var v => simp [Dl.tk, Dl.rows, rtk_cons, rtk_nil, varPs, toks, Dl.kw]
  | fn f => rw [Dl.tk, Dl.rows, head_toks]; rfl
theorem rec_tk (r : Str × List (Str × Kd)) : (Dl.rc r).tk.tail = .name r.1 :: .sym .lbrace :: (toks (pairsPs r.2) ++ [.sym .rbrace]) := by
  simp [Dl.tk, Dl.rows, rtk_cons, rtk_nil, recPs, toks, toks_app]
theorem var_tk (v : Str × List (Str × List Kd)) : (Dl.var v).tk.tail = .name v.1 :: .sym .lbrace :: (toks (joinP cs2 (v.2.map tagPs)) ++ [.sym .rbrace]) := by
  simp [Dl.tk, Dl.rows, rtk_cons, rtk_nil, varPs, toks, toks_app]
theorem end_f {α : Type} {t e : P α} {l : List Tok} (h : hd l ≠ .fin) : ifB atEndP t e l = e l := by
  rw [ifB_eq (show atEndP l = .ok false l by unfold atEndP; rw [decide_eq_false h]), if_neg (by decide)]
theorem skip_tt {α : Type} {s : Sym} {t e : P α} {x : Tok} {l : List Tok} (h : x.tk = .sym s) : ifB (skipP s) t e (x :: l) = t l := by
  rw [ifB_eq (skip_t (show hd (x :: l) = _ from h)), if_pos rfl]
  rfl
theorem skip_ff {α : Type} {s : Sym} {t e : P α} {x : Tok} {l : List Tok} (h : x.tk ≠ .sym s) : ifB (skipP s) t e (x :: l) = e (x :: l) := by
  rw [ifB_eq (skip_f (show hd (x :: l) ≠ _ from h)), if_neg (by decide)]
theorem prog_eq (n : Nat) (q : Pr) : progL (n + 1) q = ifB atEndP (pureP q) (ifB (skipP .kRecord) (bindP (recP n) fun r => progL n (q.add (.rc r))) (ifB (skipP .kVariant) (bindP (varP n) fun v => progL n (q.add (.var v))) (bindP (expectP .kFn) fun _ => bindP (fnP n) fun f => progL n (q.add (.fn f))))) := rfl
theorem kw_ne {x : Tok} {s : Sym} (hx : x.tk = .sym s) (l : List Tok) : hd (x :: l) ≠ .fin := by show x.tk ≠ .fin; rw [hx]; intro z; cases z
theorem prog_rc {n : Nat} {q : Pr} {x : Tok} (hx : x.tk = .sym .kRecord) (l : List Tok) : progL (n + 1) q (x :: l) = bindP (recP n) (fun r => progL n (q.add (.rc r))) l := by
  rw [prog_eq, end_f (kw_ne hx l), skip_tt hx]
theorem prog_vr {n : Nat} {q : Pr} {x : Tok} (hx : x.tk = .sym .kVariant) (l : List Tok) : progL (n + 1) q (x :: l) = bindP (varP n) (fun r => progL n (q.add (.var r))) l := by
  rw [prog_eq, end_f (kw_ne hx l), skip_ff (by rw [hx]; intro z; cases z), skip_tt hx]
theorem prog_fc {n : Nat} {q : Pr} {x : Tok} (hx : x.tk = .sym .kFn) (l : List Tok) : progL (n + 1) q (x :: l) = bindP (fnP n) (fun r => progL n (q.add (.fn r))) l := by
  have e : expectP .kFn (x :: l) = .ok () l := by unfold expectP; rw [if_pos (show hd (x :: l) = _ from hx)]; rfl
  have e2 : (bindP (expectP .kFn) fun _ => bindP (fnP n) fun f => progL n (q.add (.fn f))) (x :: l) = bindP (fnP n) (fun r => progL n (q.add (.fn r))) l := by
    rw [bindP, e]
  rw [prog_eq, end_f (kw_ne hx l), skip_ff (by rw [hx]; intro z; cases z), skip_ff (by rw [hx]; intro z; cases z), e2]
theorem dl_full {n : Nat} (hn : 200 ≤ n) {d : Dl} (g : d.good) {a r : List Tok} (ha : a.map Tok.tk = d.tk) (q : Pr) : progL (n + 1) q (a ++ r) = progL n (q.add d) r := by
  rw [dl_head] at ha
  obtain ⟨x, b, rfl, e1, e2⟩ := tail_app (r := r) ha
  rw [List.cons_append]
  cases d with
  | rc w =>
    have h := (rec_rd (n := n) g (by omega) (f := any)).full b r (by rw [e2, rec_tk]) rfl
    rw [prog_rc e1, bindP, h]
  | var w =>
    have h := (var_rd (n := n) g (by omega) (f := any)).full b r (by rw [e2, var_tk]) rfl
    rw [prog_vr e1, bindP, h]
  | fn w =>
    have h := (fn_rd (n := n) g (by omega) (fo := any)).full b r e2 rfl
    rw [prog_fc e1, bindP, h]
theorem dl_cut {n : Nat} (hn : 200 ≤ n) {d : Dl} (g : d.good) {a : List Tok} {e : Tok} {t : Tk} {s : List Tk} (ha : d.tk = a.map Tok.tk ++ t :: s) (h0 : a ≠ []) (he : e.tk = .fin) (q : Pr) : progL (n + 1) q (a ++ [e]) = .bad [e] := by
  cases a with
  | nil => exact absurd rfl h0
  | cons x b =>
  rw [dl_head, List.map_cons, List.cons_append] at ha
  simp only [List.cons.injEq] at ha
  obtain ⟨e1, e2⟩ := ha
  rw [List.cons_append]
  have fin : ∀ {α : Type} {p : P α} {k : α → P Pr}, At true p (b ++ [e]) e → bindP p k (b ++ [e]) = .bad [e] := fun h => by
    rcases h with h | ⟨z, _⟩
    · rw [bindP, h]
    · cases z
  cases d with
  | rc w => rw [prog_rc e1.symm]; exact fin ((rec_rd (n := n) g (by omega) (f := any)).cut b e t s (by rw [← e2, rec_tk]) he)
  | var w => rw [prog_vr e1.symm]; exact fin ((var_rd (n := n) g (by omega) (f := any)).cut b e t s (by rw [← e2, var_tk]) he)
  | fn w => rw [prog_fc e1.symm]; exact fin ((fn_rd (n := n) g (by omega) (fo := any)).cut b e t s e2 he)
def dtk (ds : List Dl) : List Tk := (ds.map Dl.tk).flatten
theorem dtk_cons (d : Dl) (ds : List Dl) : dtk (d :: ds) = d.tk ++ dtk ds := by simp [dtk]
theorem prog_at : ∀ (ds : List Dl) (n : Nat) (q : Pr) (a : List Tok) (e : Tok), (∀ d ∈ ds, d.good) → ds.length + 201 ≤ n → a.map Tok.tk = dtk ds → e.tk = .fin → progL n q (a ++ [e]) = .ok (ds.foldl Pr.add q) [e]
  | [], n, q, a, e, _, hn, ha, he => by
    obtain ⟨m, rfl⟩ : ∃ m, n = m + 1 := ⟨n - 1, by omega⟩
    have : a = [] := by cases a <;> first | rfl | cases ha
    subst this
    unfold progL
    rw [List.nil_append, ifB_eq (show atEndP [e] = .ok true [e] by unfold atEndP; rw [decide_eq_true (show hd [e] = _ from he)]), if_pos rfl]
    rfl
  | d :: ds, n, q, a, e, g, hn, ha, he => by
    simp only [List.length_cons] at hn
    obtain ⟨m, rfl⟩ : ∃ m, n = m + 1 := ⟨n - 1, by omega⟩
    rw [dtk_cons] at ha
    obtain ⟨a1, a2, rfl, h1, h2⟩ := List.map_eq_append_iff.mp ha
    rw [List.append_assoc, dl_full (by omega) (g d (by simp)) h1]
    exact prog_at ds m (q.add d) a2 e (fun x hx => g x (by simp [hx])) (by omega) h2 he
theorem prog_in : ∀ (ds : List Dl) (n : Nat) (q : Pr) (a : List Tok) (e : Tok) (d : Dl) (b : List Tk) (t : Tk) (s : List Tk), (∀ d ∈ ds, d.good) → d.good → ds.length + 202 ≤ n → a.map Tok.tk = dtk ds ++ b → d.tk = b ++ t :: s → b ≠ [] → e.tk = .fin → progL n q (a ++ [e]) = .bad [e]
  | [], n, q, a, e, d, b, t, s, _, gd, hn, ha, hd, hb, he => by
    obtain ⟨m, rfl⟩ : ∃ m, n = m + 1 := ⟨n - 1, by omega⟩
    have ha' : a.map Tok.tk = b := ha
    exact dl_cut (by omega) gd (by rw [ha']; exact hd) (fun z => hb (by rw [← ha', z]; rfl)) he q
  | x :: ds, n, q, a, e, d, b, t, s, g, gd, hn, ha, hd, hb, he => by
    simp only [List.length_cons] at hn
    obtain ⟨m, rfl⟩ : ∃ m, n = m + 1 := ⟨n - 1, by omega⟩
    rw [dtk_cons, List.append_assoc] at ha
    obtain ⟨a1, a2, rfl, h1, h2⟩ := List.map_eq_append_iff.mp ha
    rw [List.append_assoc, dl_full (by omega) (g x (by simp)) h1]
    exact prog_in ds m (q.add x) a2 e d b t s (fun x hx => g x (by simp [hx])) gd (by omega) h2 hd hb he
/-! ### the declarations of a program -/
def Pr.dls (p : Pr) : List Dl := p.recs.map .rc ++ (p.vars.map .var ++ p.fns.map .fn)
theorem pr_rows (p : Pr) : prRows p = (p.dls.map Dl.rows).flatten := by
  have h1 : ∀ xs : List (Str × List (Str × Kd)), ((xs.map Dl.rc).map Dl.rows).flatten = xs.map recPs := fun xs => by induction xs <;> simp_all [Dl.rows]
  have h2 : ∀ xs : List (Str × List (Str × List Kd)), ((xs.map Dl.var).map Dl.rows).flatten = xs.map varPs := fun xs => by induction xs <;> simp_all [Dl.rows]
  have h3 : ∀ xs : List Fn, (xs.map Dl.fn).map Dl.rows = xs.map fnRows := fun xs => by induction xs <;> simp_all [Dl.rows]
  rw [Pr.dls, List.map_append, List.map_append, List.flatten_append, List.flatten_append, h1, h2, h3]
  rfl
theorem pr_tks (p : Pr) : rtk (prRows p) = dtk p.dls := by
  rw [pr_rows]
  generalize p.dls = ds
  induction ds with
  | nil => rfl
  | cons d ds ih => rw [List.map_cons, List.flatten_cons, rtk_app, ih, dtk_cons]; rfl
theorem dls_good {p : Pr} (g : GP p) : ∀ d ∈ p.dls, d.good := by
  intro d hd
  rcases List.mem_append.mp hd with h | h
  · obtain ⟨r, hr, rfl⟩ := List.mem_map.mp h
    exact g.1.2 r hr
  rcases List.mem_append.mp h with h | h
  · obtain ⟨r, hr, rfl⟩ := List.mem_map.mp h
    exact g.2.1.2 r hr
  · obtain ⟨r, hr, rfl⟩ := List.mem_map.mp h
    exact g.2.2.2 r hr
theorem dls_len {p : Pr} (g : GP p) : p.dls.length ≤ 7 := by
  have h1 := g.1.1
  have h2 := g.2.1.1
  have h3 := g.2.2.1.2
  simp only [Pr.dls, List.length_append, List.length_map]
  omega
theorem fold_rec : ∀ (xs : List (Str × List (Str × Kd))) (q : Pr), (xs.map Dl.rc).foldl Pr.add q = { q with recs := q.recs ++ xs }
  | [], q => by simp
  | x :: xs, q => by
    rw [List.map_cons, List.foldl_cons, fold_rec xs]
    simp [Pr.add]
theorem fold_var : ∀ (xs : List (Str × List (Str × List Kd))) (q : Pr), (xs.map Dl.var).foldl Pr.add q = { q with vars := q.vars ++ xs }
  | [], q => by simp
  | x :: xs, q => by
    rw [List.map_cons, List.foldl_cons, fold_var xs]
    simp [Pr.add]
theorem fold_fn : ∀ (xs : List Fn) (q : Pr), (xs.map Dl.fn).foldl Pr.add q = { q with fns := q.fns ++ xs }
  | [], q => by simp
  | x :: xs, q => by
    rw [List.map_cons, List.foldl_cons, fold_fn xs]
    simp [Pr.add]
theorem fold_take (p : Pr) (j : Nat) : (p.dls.take j).foldl Pr.add ⟨[], [], []⟩ = ⟨p.recs.take j, p.vars.take (j - p.recs.length), p.fns.take (j - p.recs.length - p.vars.length)⟩ := by
  rw [Pr.dls, List.take_append, List.take_append, List.foldl_append, List.foldl_append, List.length_map, List.length_map, ← List.map_take, ← List.map_take, ← List.map_take, fold_rec, fold_var, fold_fn]
  simp
/-! ### where the declarations begin -/
def isD : Tk → Bool
  | .sym .kRecord => true
  | .sym .kVariant => true
  | .sym .kFn => true
  | _ => false
/-- the places of the words, the end last -/
def pos : List Tk → Nat → List Nat
  | [], i => [i]
  | t :: ts, i => if isD t = true then i :: pos ts (i + 1) else pos ts (i + 1)
def bnd : List Dl → Nat → List Nat
  | [], i => [i]
  | d :: ds, i => i :: bnd ds (i + d.tk.length)
theorem pos_skip : ∀ (xs ts : List Tk) (i : Nat), (∀ x ∈ xs, isD x = false) → pos (xs ++ ts) i = pos ts (i + xs.length)
  | [], ts, i, _ => rfl
  | x :: xs, ts, i, h => by
    rw [List.cons_append, pos, if_neg (by rw [h x (by simp)]; decide), pos_skip xs ts (i + 1) fun y hy => h y (by simp [hy]), List.length_cons]
    congr 1
    omega
theorem pos_bnd : ∀ (ds : List Dl) (i : Nat), (∀ d ∈ ds, ∀ x ∈ d.tk.tail, isD x = false) → pos (dtk ds) i = bnd ds i
  | [], i, _ => rfl
  | d :: ds, i, h => by
    have hh : isD (.sym d.kw) = true := by cases d <;> rfl
    have hl : d.tk.length = d.tk.tail.length + 1 := by rw [dl_head d]; rfl
    have hd := dl_head d
    have ht := h d (by simp)
    generalize d.tk.tail = w at hd ht hl
    rw [dtk_cons, bnd, hl, hd, List.cons_append, pos, if_pos hh, pos_skip _ _ _ ht, pos_bnd ds _ fun e he => h e (by simp [he])]
    congr 2
    omega
/-- the j-th place is the length of the first j declarations -/
theorem bnd_get : ∀ (ds : List Dl) (i j k : Nat), (bnd ds i)[j]? = some k → k = i + (dtk (ds.take j)).length ∧ j ≤ ds.length
  | [], i, 0, k, h => by cases h; exact ⟨rfl, Nat.le_refl _⟩
  | [], i, j + 1, k, h => by simp [bnd] at h
  | d :: ds, i, 0, k, h => by simp [bnd] at h; subst h; exact ⟨by simp [dtk], by simp⟩
  | d :: ds, i, j + 1, k, h => by
    have := bnd_get ds (i + d.tk.length) j k (by simpa [bnd] using h)
    rw [List.take_succ_cons, dtk_cons, List.length_append, List.length_cons]
    omega
/-- not one of the places: within a declaration -/
theorem bnd_in : ∀ (ds : List Dl) (i k : Nat), i ≤ k → k ≤ i + (dtk ds).length → k ∉ bnd ds i → ∃ (pre : List Dl) (d : Dl) (b : List Tk) (t : Tk) (s : List Tk), (∃ post, ds = pre ++ d :: post) ∧ d.tk = b ++ t :: s ∧ b ≠ [] ∧ (dtk ds).take (k - i) = dtk pre ++ b
  | [], i, k, h1, h2, h => by
    simp [dtk, bnd] at h2 h
    omega
  | d :: ds, i, k, h1, h2, h => by
    simp only [bnd, List.mem_cons, not_or] at h
    by_cases hk : k < i + d.tk.length
    · refine ⟨[], d, d.tk.take (k - i), (d.tk[k - i]'(by omega)), d.tk.drop (k - i + 1), ⟨ds, rfl⟩, ?_, ?_, ?_⟩
      · rw [List.getElem_cons_drop, List.take_append_drop]
      · intro z
        have := congrArg List.length z
        rw [List.length_take, List.length_nil] at this
        have hl : d.tk.length = d.tk.tail.length + 1 := by rw [dl_head d]; rfl
        omega
      · rw [dtk_cons, List.take_append_of_le_length (by omega)]
        rfl
    · rw [dtk_cons, List.length_append] at h2
      obtain ⟨pre, d', b, t, s, ⟨post, hp⟩, e1, e2, e3⟩ := bnd_in ds (i + d.tk.length) k (by omega) (by omega) h.2
      refine ⟨d :: pre, d', b, t, s, ⟨post, by rw [hp]; rfl⟩, e1, e2, ?_⟩
      rw [dtk_cons, dtk_cons, List.take_append, List.take_of_length_le (by omega), show k - i - d.tk.length = k - (i + d.tk.length) by omega, e3, List.append_assoc]
end Ko
end
section
set_option Elab.async false
set_option linter.all false
set_option maxRecDepth 100000
set_option maxHeartbeats 4000000
/-! The printed pieces may stand side by side; no word of a declaration within -/
namespace Ko
open PySem
/-- good tokens, no word of a declaration, no newline, no comment -/
def plain : List Pc → Bool
  | [] => true
  | .tok t :: r => !isD t && plain r
  | .sp :: r => plain r
  | _ => false
def sf (b : List Pc) : Bool := !stW b && !stE b
structure Cl (ps : List Pc) : Prop where
  pl : plain ps = true
  adj : ∀ b, okAdj b = true → stW b = false → stE b = false → okAdj (ps ++ b) = true
theorem plain_app : ∀ a b : List Pc, plain (a ++ b) = (plain a && plain b)
  | [], b => rfl
  | .tok t :: a, b => by simp [plain, plain_app a b, Bool.and_assoc]
  | .sp :: a, b => by simp [plain, plain_app a b]
  | .nl :: a, b => rfl
  | .cm :: a, b => rfl
theorem Cl.nil : Cl [] := ⟨rfl, fun b h _ _ => h⟩
theorem Cl.sp {b : List Pc} (h : Cl b) : Cl (.sp :: b) := ⟨h.pl, fun c h1 h2 h3 => h.adj c h1 h2 h3⟩
theorem sf_app {b c : List Pc} (h : sf b = true) (h2 : stW c = false) (h3 : stE c = false) : stW (b ++ c) = false ∧ stE (b ++ c) = false := by
  simp only [sf, Bool.and_eq_true, Bool.not_eq_true'] at h
  cases b with
  | nil => exact ⟨h2, h3⟩
  | cons p b =>
    cases p with
    | tok u =>
      refine ⟨h.1, ?_⟩
      have h2 := h.2
      cases u with
      | sym s => cases s <;> exact h2
      | _ => exact h2
    | _ => exact h
theorem adj_cons {t : Tk} {r : List Pc} (g : t.good = true) (hw : t.isW = true → stW r = false) (he : t = .sym .eq → stE r = false) (h : okAdj r = true) : okAdj (.tok t :: r) = true := by
  simp only [okAdj, Bool.and_eq_true, Bool.not_eq_true']
  refine ⟨⟨⟨g, ?_⟩, ?_⟩, h⟩
  · cases hq : t.isW with
    | true => rw [hw hq]; rfl
    | false => rfl
  · by_cases hq : t = .sym .eq
    · rw [he hq, Bool.and_false]
    · rw [decide_eq_false hq, Bool.false_and]
theorem Cl.app {a b : List Pc} (ha : Cl a) (hb : Cl b) (h : sf b = true) : Cl (a ++ b) := by
  refine ⟨by rw [plain_app, ha.pl, hb.pl]; rfl, fun c h1 h2 h3 => ?_⟩
  rw [List.append_assoc]
  have q := sf_app h h2 h3
  exact ha.adj _ (hb.adj c h1 h2 h3) q.1 q.2
/-- any token but = -/
theorem Cl.tok {t : Tk} {b : List Pc} (g : t.good = true) (hd : isD t = false) (ne : t ≠ .sym .eq) (hb : Cl b) (h : sf b = true) : Cl (.tok t :: b) := by
  refine ⟨by simp [plain, hd, hb.pl], fun c h1 h2 h3 => ?_⟩
  have q := sf_app h h2 h3
  exact adj_cons g (fun _ => q.1) (fun z => absurd z ne) (hb.adj c h1 h2 h3)
/-- a sign but = -/
theorem Cl.sig {s : Sym} {b : List Pc} (hs : s.isKw = false) (ne : s ≠ .eq) (hb : Cl b) : Cl (sg s :: b) := by
  have hd : isD (.sym s) = false := by cases s <;> first | rfl | cases hs
  refine ⟨by simp [plain, hd, hb.pl], fun c h1 h2 h3 => ?_⟩
  exact adj_cons rfl (fun z => by rw [show (Tk.sym s).isW = s.isKw from rfl, hs] at z; cases z) (fun z => absurd (Tk.sym.inj z) ne) (hb.adj c h1 h2 h3)
theorem Cl.eqs {b : List Pc} (hb : Cl b) : Cl (sg .eq :: .sp :: b) := by
  refine ⟨hb.pl, fun c h1 h2 h3 => ?_⟩
  exact adj_cons rfl (fun _ => rfl) (fun _ => rfl) (hb.adj c h1 h2 h3)
theorem Cl.nm {w : Str} {b : List Pc} (g : w ∈ NAMES) (hb : Cl b) (h : sf b = true) : Cl (nmP w :: b) := Cl.tok (by simpa [Tk.good] using g) rfl nofun hb h
theorem Cl.kw {s : Sym} {b : List Pc} (hd : isD (.sym s) = false) (ne : s ≠ .eq) (hb : Cl b) (h : sf b = true) : Cl (sg s :: b) := Cl.tok rfl hd (fun z => ne (Tk.sym.inj z)) hb h
theorem kd_cl : ∀ (d : Nat) (k : Kd), GK d k → Cl k.ps
  | d, .int, _ => .kw rfl nofun .nil rfl
  | d, .bool, _ => .kw rfl nofun .nil rfl
  | d, .named w, g => .nm (by cases d <;> exact g) .nil rfl
  | d + 1, .box k, g => .kw rfl nofun (.sp (kd_cl d k g)) rfl
  | d + 1, .vec k, g => .kw rfl nofun (.sp (kd_cl d k g)) rfl
  | d + 1, .ref k, g => .kw rfl nofun (.sp (kd_cl d k g)) rfl
  | d + 1, .mut k, g => .kw rfl nofun (.sp (kd_cl d k g)) rfl
theorem wr_cl {k lv : Nat} {l : List Pc} (h : Cl l) : Cl (wr k lv l) := by
  unfold wr
  split
  · exact .sig rfl nofun (h.app (.sig rfl nofun .nil) rfl)
  · exact h
theorem join_cl : ∀ xs : List (List Pc), (∀ x ∈ xs, Cl x) → Cl (joinP cs2 xs)
  | [], _ => .nil
  | [x], h => h x (by simp)
  | x :: y :: r, h => (h x (by simp)).app (.sig rfl nofun (.sp (join_cl (y :: r) fun z hz => h z (by simp only [List.mem_cons] at hz ⊢; exact .inr hz)))) rfl
theorem ex_cl : ∀ (d : Nat) (e : Ex), GE d e → Cl e.ps
  | d, .num n, g => by
    have gn : n ∈ NUMS := by cases d <;> exact g
    exact Cl.tok (by simpa [Tk.good] using gn) rfl nofun .nil rfl
  | d, .name w, g => .nm (by cases d <;> exact g) .nil rfl
  | d, .truth b, g => by cases b <;> exact .kw rfl nofun .nil rfl
  | d + 1, .op s a b, g => by
    rw [Ex.ps]
    refine (wr_cl (ex_cl d a g.1)).app (.sp ?_) rfl
    cases s <;> exact .sig rfl nofun (.sp (wr_cl (ex_cl d b g.2)))
  | d + 1, .un u a, g => by
    rw [Ex.ps]
    cases u with
    | not => exact .sig rfl nofun (wr_cl (ex_cl d a g))
    | box => exact .kw rfl nofun (.sp (wr_cl (ex_cl d a g))) rfl
    | unbox => exact .kw rfl nofun (.sp (wr_cl (ex_cl d a g))) rfl
  | d + 1, .rf r p, g => by
    rw [Ex.ps]
    cases r with
    | deref => exact .sig rfl nofun (wr_cl (ex_cl d p g.2))
    | ref => exact .kw rfl nofun (.sp (wr_cl (ex_cl d p g.2))) rfl
    | «mut» => exact .kw rfl nofun (.sp (wr_cl (ex_cl d p g.2))) rfl
  | d + 1, .field p f, g => by
    rw [Ex.ps]
    exact (wr_cl (ex_cl d p g.2.1)).app (.sig rfl nofun (.nm g.2.2 .nil rfl)) rfl
  | d + 1, .index p i, g => by
    rw [Ex.ps]
    exact (wr_cl (ex_cl d p g.2.1)).app (.sig rfl nofun ((ex_cl d i g.2.2).app (.sig rfl nofun .nil) rfl)) rfl
  | d + 1, .call f xs, g => by
    rw [Ex.ps, Ex.pss_map]
    refine .nm g.1 (.sig rfl nofun ((join_cl _ ?_).app (.sig rfl nofun .nil) rfl)) rfl
    intro x hx
    obtain ⟨e, he, rfl⟩ := List.mem_map.mp hx
    exact ex_cl d e (g.2.2 e he)
  | d + 1, .len p, g => by
    rw [Ex.ps]
    exact .kw rfl nofun (.sig rfl nofun ((ex_cl d p g.2).app (.sig rfl nofun .nil) rfl)) rfl
  | d + 1, .vec k, g => by
    rw [Ex.ps]
    exact .kw rfl nofun (.sp (kd_cl 2 k g)) rfl
theorem nms_cl {xs : List Str} (h : ∀ x ∈ xs, x ∈ NAMES) : Cl (nmsP xs) := by
  refine join_cl _ ?_
  intro x hx
  obtain ⟨y, hy, rfl⟩ := List.mem_map.mp hx
  exact .nm (h y hy) .nil rfl
theorem pairs_cl {ps : List (Str × Kd)} (h : ∀ p ∈ ps, p.1 ∈ NAMES ∧ GK 2 p.2) : Cl (pairsPs ps) := by
  refine join_cl _ ?_
  intro x hx
  obtain ⟨y, hy, rfl⟩ := List.mem_map.mp hx
  exact .nm (h y hy).1 (.sig rfl nofun (.sp (kd_cl 2 y.2 (h y hy).2))) rfl
theorem tag_cl {t : Str × List Kd} (g : GT t) : Cl (tagPs t) := by
  unfold tagPs
  refine .nm g.1 ?_ ?_
  · split
    · exact .nil
    · refine .sig rfl nofun ((join_cl _ ?_).app (.sig rfl nofun .nil) rfl)
      intro x hx
      obtain ⟨y, hy, rfl⟩ := List.mem_map.mp hx
      exact kd_cl 1 y (g.2.2 y hy)
  · split <;> rfl
theorem ind_cl0 {b : List Pc} (h : Cl b) : ∀ i, Cl (ind i ++ b)
  | 0 => h
  | i + 1 => .sp (ind_cl0 h i)
theorem ind_cl {i : Nat} {b : List Pc} (h : Cl b) : Cl (ind i ++ b) := ind_cl0 h i
theorem row_cl {s : St} (g : GS 0 s) : Cl s.row := by
  cases s with
  | letS w k e => exact .kw rfl nofun (.sp (.nm g.1 (.sig rfl nofun (.sp ((kd_cl 2 k g.2.1).app (.sp (.eqs ((ex_cl 2 e g.2.2).app (.sig rfl nofun .nil) rfl))) rfl))) rfl)) rfl
  | openS e xs => exact .kw rfl nofun (.sp ((ex_cl 2 e g.1).app (.sp (.kw rfl nofun (.sp (.sig rfl nofun ((nms_cl g.2.2.2).app (.sig rfl nofun (.sig rfl nofun .nil)) rfl))) rfl)) rfl)) rfl
  | showS e => exact .kw rfl nofun (.sp ((ex_cl 2 e g).app (.sig rfl nofun .nil) rfl)) rfl
  | pushS p e => exact .kw rfl nofun (.sig rfl nofun ((ex_cl 2 p g.2.1).app (.sig rfl nofun (.sp ((ex_cl 2 e g.2.2).app (.sig rfl nofun (.sig rfl nofun .nil)) rfl))) rfl)) rfl
  | takeS p w => exact .kw rfl nofun (.sig rfl nofun ((ex_cl 2 p g.2.1).app (.sig rfl nofun (.sp (.kw rfl nofun (.sp (.nm g.2.2 (.sig rfl nofun .nil) rfl)) rfl))) rfl)) rfl
  | doS e => exact (ex_cl 2 e g.2).app (.sig rfl nofun .nil) rfl
  | setS p e => exact (ex_cl 2 p g.2.1).app (.sp (.eqs ((ex_cl 2 e g.2.2).app (.sig rfl nofun .nil) rfl))) rfl
  | _ => exact g.elim
def ClR (rs : List (List Pc)) : Prop := ∀ r ∈ rs, Cl r
theorem ClR.app {a b : List (List Pc)} (ha : ClR a) (hb : ClR b) : ClR (a ++ b) := fun r hr => by
  rcases List.mem_append.mp hr with h | h
  · exact ha r h
  · exact hb r h
theorem ClR.cons {a : List Pc} {b : List (List Pc)} (ha : Cl a) (hb : ClR b) : ClR (a :: b) := fun r hr => by
  rcases List.mem_cons.mp hr with rfl | h
  · exact ha
  · exact hb r h
theorem ClR.nil : ClR [] := fun r hr => by cases hr
theorem rws_cl {n : Nat} (h : ∀ (i : Nat) (s : St), GS n s → ClR (s.rows i)) : ∀ (i : Nat) (b : List St), (∀ s ∈ b, GS n s) → ClR (St.rws i b)
  | i, [], _ => .nil
  | i, s :: b, g => by
    rw [St.rws]
    exact (h i s (g s (by simp))).app (rws_cl h i b fun t ht => g t (by simp [ht]))
theorem rb_cl (i : Nat) : Cl (ind i ++ [sg .rbrace]) := ind_cl (.sig rfl nofun .nil)
theorem rows_cl : ∀ (n i : Nat) (s : St), GS n s → ClR (s.rows i) := by
  intro n
  induction n with
  | zero =>
    intro i s g
    have hs : s.isSi = true := by cases s <;> first | rfl | exact g.elim
    have e : s.rows i = [ind i ++ s.row] := by cases s <;> first | rfl | exact nomatch hs
    rw [e]
    exact .cons (ind_cl (row_cl g)) .nil
  | succ n ih =>
    intro i s g
    by_cases hs : s.isSi = true
    · have e : s.rows i = [ind i ++ s.row] := by cases s <;> first | rfl | exact nomatch hs
      rw [e]
      exact .cons (ind_cl (row_cl (gs_si g hs))) .nil
    cases s with
    | ifS e a b =>
      rw [St.rows]
      refine .cons (ind_cl (.kw rfl nofun (.sp ((ex_cl 2 e g.1).app (.sp (.sig rfl nofun .nil)) rfl)) rfl)) ((rws_cl ih _ a g.2.1.2).app (ClR.app ?_ (.cons (rb_cl i) .nil)))
      split
      · exact .nil
      · exact .cons (ind_cl (.sig rfl nofun (.sp (.kw rfl nofun (.sp (.sig rfl nofun .nil)) rfl)))) (rws_cl ih _ b g.2.2.2)
    | whileS e a =>
      rw [St.rows]
      exact .cons (ind_cl (.kw rfl nofun (.sp ((ex_cl 1 e g.1).app (.sp (.sig rfl nofun .nil)) rfl)) rfl)) ((rws_cl ih _ a g.2.2).app (.cons (rb_cl i) .nil))
    | parS a b =>
      rw [St.rows]
      exact .cons (ind_cl (.kw rfl nofun (.sp (.sig rfl nofun .nil)) rfl)) ((rws_cl ih _ a g.1.2).app (.cons (ind_cl (.sig rfl nofun (.sp (.sig rfl nofun .nil)))) ((rws_cl ih _ b g.2.2).app (.cons (rb_cl i) .nil))))
    | matchS h p cs =>
      rw [St.rows]
      have hp : Cl (p.ps ++ [.sp, sg .lbrace]) := (ex_cl 2 p g.2.1).app (.sp (.sig rfl nofun .nil)) rfl
      have hh : Cl (h.ps ++ (p.ps ++ [.sp, sg .lbrace])) := by
        cases h with
        | move => exact hp
        | ref => exact .kw rfl nofun (.sp hp) rfl
        | «mut» => exact .kw rfl nofun (.sp hp) rfl
      refine .cons (ind_cl (.kw rfl nofun (.sp hh) rfl)) (ClR.app ?_ (.cons (rb_cl i) .nil))
      have hc : ∀ cs : List Cs, (∀ t xs b, Cs.mk t xs b ∈ cs → t ∈ NAMES ∧ GN 0 2 xs ∧ (b.length ≤ 3 ∧ ∀ s ∈ b, GS n s)) → ClR (Cs.rws i cs) := by
        intro cs hcs
        induction cs with
        | nil => exact .nil
        | cons c cs ihc =>
          cases c with
          | mk t xs b =>
            have g1 := hcs t xs b (by simp)
            rw [Cs.rws, Cs.rows]
            refine ClR.app (.cons (ind_cl (.nm g1.1 ?_ ?_)) ((rws_cl ih _ b g1.2.2.2).app (.cons (rb_cl _) .nil))) (ihc fun t xs b hb => hcs t xs b (by simp [hb]))
            · unfold listedP
              split
              · exact .sp (.sig rfl nofun .nil)
              · exact .sig rfl nofun (Cl.app ((nms_cl g1.2.1.2.2).app (.sig rfl nofun .nil) rfl) (.sp (.sig rfl nofun .nil)) rfl)
            · unfold listedP
              split <;> rfl
      exact hc cs g.2.2.2
    | _ => exact absurd rfl hs
end Ko
end
section
set_option Elab.async false
set_option linter.all false
set_option maxRecDepth 100000
set_option maxHeartbeats 4000000
/-! The whole program's pieces; where a token stands -/
namespace Ko
open PySem PySem.Spec PyProof.Rows L2
theorem dl_rows {d : Dl} (g : d.good) : ∃ r0 rs, d.rows = (sg d.kw :: .sp :: r0) :: rs ∧ Cl r0 ∧ ClR rs := by
  cases d with
  | rc r =>
    exact ⟨_, [], rfl, .nm g.1 (.sp (.sig rfl nofun (.sp ((pairs_cl g.2.2.2).app (.sp (.sig rfl nofun .nil)) rfl)))) rfl, .nil⟩
  | var v =>
    refine ⟨_, [], rfl, .nm g.1 (.sp (.sig rfl nofun (.sp ((join_cl _ ?_).app (.sp (.sig rfl nofun .nil)) rfl)))) rfl, .nil⟩
    intro x hx
    obtain ⟨t, ht, rfl⟩ := List.mem_map.mp hx
    exact tag_cl (g.2.2 t ht)
  | fn f =>
    obtain ⟨gn, gp, gk, gl, gb, ge⟩ := g
    refine ⟨_, _, rfl, .nm gn (.sig rfl nofun ((pairs_cl gp.2.2).app (.sig rfl nofun (.sp (.sig rfl nofun (.sp ((kd_cl 2 f.kind gk).app (Cl.app ?_ (.sp (.sig rfl nofun .nil)) rfl) ?_))))) rfl)) rfl, ?_⟩
    · unfold fromPs
      split
      · exact .nil
      · exact .sp (.kw rfl nofun (.sp (nms_cl gl.2.2)) rfl)
    · unfold fromPs
      split <;> rfl
    · exact (rws_cl (rows_cl 2) 2 f.body gb.2).app (.cons (ind_cl (.kw rfl nofun (.sp ((ex_cl 3 f.result ge).app (.sig rfl nofun .nil) rfl)) rfl)) (.cons (.sig rfl nofun .nil) .nil))
theorem plain_noD : ∀ ps : List Pc, plain ps = true → ∀ t ∈ toks ps, isD t = false
  | [], _, t, h => by cases h
  | .tok u :: r, hp, t, h => by
    simp only [plain, Bool.and_eq_true, Bool.not_eq_true'] at hp
    rcases List.mem_cons.mp h with rfl | h
    · exact hp.1
    · exact plain_noD r hp.2 t h
  | .sp :: r, hp, t, h => plain_noD r hp t h
  | .nl :: r, hp, t, h => by cases hp
  | .cm :: r, hp, t, h => by cases hp
theorem clr_noD : ∀ rs : List (List Pc), ClR rs → ∀ t ∈ rtk rs, isD t = false
  | [], _, t, h => by cases h
  | r :: rs, hr, t, h => by
    rw [rtk_cons] at h
    rcases List.mem_append.mp h with h | h
    · exact plain_noD r (hr r (by simp)).pl t h
    · exact clr_noD rs (fun x hx => hr x (by simp [hx])) t h
theorem dl_noD {d : Dl} (g : d.good) : ∀ t ∈ d.tk.tail, isD t = false := by
  obtain ⟨r0, rs, e, h0, hr⟩ := dl_rows g
  intro t ht
  rw [Dl.tk, e, rtk_cons] at ht
  have ht' : t ∈ toks r0 ++ rtk rs := ht
  rcases List.mem_append.mp ht' with h | h
  · exact plain_noD r0 h0.pl t h
  · exact clr_noD rs hr t h
/-- tokens and spaces only -/
def flat : List Pc → Bool
  | [] => true
  | .tok _ :: r => flat r
  | .sp :: r => flat r
  | _ => false
theorem plain_flat : ∀ ps : List Pc, plain ps = true → flat ps = true
  | [], _ => rfl
  | .tok u :: r, hp => by
    simp only [plain, Bool.and_eq_true] at hp
    exact plain_flat r hp.2
  | .sp :: r, hp => plain_flat r hp
  | .nl :: r, hp => by cases hp
  | .cm :: r, hp => by cases hp
structure RowOk (r : List Pc) : Prop where
  fl : flat r = true
  adj : ∀ b, okAdj b = true → stW b = false → stE b = false → okAdj (r ++ b) = true
theorem Cl.row {r : List Pc} (h : Cl r) : RowOk r := ⟨plain_flat r h.pl, h.adj⟩
theorem pr_rowok {p : Pr} (g : GP p) : ∀ r ∈ prRows p, RowOk r := by
  intro r hr
  rw [pr_rows] at hr
  obtain ⟨rs, hrs, h⟩ := List.mem_flatten.mp hr
  obtain ⟨d, hd, rfl⟩ := List.mem_map.mp hrs
  obtain ⟨r0, rs, e, h0, hrr⟩ := dl_rows (dls_good g d hd)
  rw [e] at h
  rcases List.mem_cons.mp h with rfl | h
  · refine ⟨show flat r0 = true from plain_flat r0 h0.pl, fun b h1 h2 h3 => ?_⟩
    exact adj_cons rfl (fun _ => rfl) (fun _ => rfl) (h0.adj b h1 h2 h3)
  · exact (hrr r h).row
theorem join_adj : ∀ rs : List (List Pc), (∀ r ∈ rs, RowOk r) → okAdj (joinP [.nl] rs) = true
  | [], _ => rfl
  | [r], h => by have := (h r (by simp)).adj [] rfl rfl rfl; rwa [List.append_nil] at this
  | r :: s :: rs, h => (h r (by simp)).adj _ (join_adj (s :: rs) fun x hx => h x (by simp only [List.mem_cons] at hx ⊢; exact .inr hx)) rfl rfl
theorem join_rtk : ∀ rs : List (List Pc), toks (joinP [.nl] rs) = rtk rs
  | [] => rfl
  | [r] => by simp [joinP, rtk]
  | r :: s :: rs => by
    rw [joinP, toks_app, rtk_cons, ← join_rtk (s :: rs)]
    rfl
/-! ### where a token stands -/
theorem place_row : ∀ (r rest : List Pc) (row col : Int) (k : Nat), flat r = true → k < (toks r).length → ∃ pre t post, r = pre ++ .tok t :: post ∧ (toks pre).length = k ∧ (place (r ++ rest) row col)[k]? = some ⟨t, row, col + rl pre⟩
  | [], rest, row, col, k, _, h => by simp [toks] at h
  | .tok t :: r, rest, row, col, 0, _, h => ⟨[], t, r, rfl, rfl, by simp [place, rl_nil]⟩
  | .tok t :: r, rest, row, col, k + 1, hf, h => by
    obtain ⟨pre, u, post, e1, e2, e3⟩ := place_row r rest row (col + t.txt.length) k hf (by simpa [toks] using h)
    refine ⟨.tok t :: pre, u, post, by rw [e1]; rfl, by simp [toks, e2], ?_⟩
    rw [List.cons_append, place, List.getElem?_cons_succ, e3, rl_cons]
    have : (Pc.tok t).cs.length = t.txt.length := by rw [TL.len_tl]; rfl
    rw [this]
    congr 2
    omega
  | .sp :: r, rest, row, col, k, hf, h => by
    obtain ⟨pre, u, post, e1, e2, e3⟩ := place_row r rest row (col + 1) k hf h
    refine ⟨.sp :: pre, u, post, by rw [e1]; rfl, e2, ?_⟩
    rw [List.cons_append, place, e3, rl_cons, sp_len]
    congr 2
    omega
  | .nl :: r, rest, row, col, k, hf, h => by cases hf
  | .cm :: r, rest, row, col, k, hf, h => by cases hf
theorem place_skip : ∀ (r rest : List Pc) (row col : Int) (k : Nat), flat r = true → (place (r ++ rest) row col)[(toks r).length + k]? = (place rest row (col + rl r))[k]?
  | [], rest, row, col, k, _ => by simp [toks, rl_nil]
  | .tok t :: r, rest, row, col, k, hf => by
    have := place_skip r rest row (col + t.txt.length) k hf
    rw [List.cons_append, place, toks_tok, List.length_cons, show (toks r).length + 1 + k = (toks r).length + k + 1 by omega, List.getElem?_cons_succ, this, rl_cons]
    have e : (Pc.tok t).cs.length = t.txt.length := by rw [TL.len_tl]; rfl
    rw [e]
    congr 2
    omega
  | .sp :: r, rest, row, col, k, hf => by
    have := place_skip r rest row (col + 1) k hf
    rw [List.cons_append, place, toks_sp, this, rl_cons, sp_len]
    congr 2
    omega
  | .nl :: r, rest, row, col, k, hf => by cases hf
  | .cm :: r, rest, row, col, k, hf => by cases hf
theorem tok_at : ∀ (R : List (List Pc)) (row : Int) (k : Nat), (∀ r ∈ R, flat r = true) → k < (rtk R).length → ∃ i pre t post, R[i]? = some (pre ++ .tok t :: post) ∧ (place (joinP [.nl] R) row 1)[k]? = some ⟨t, row + (i : Nat), 1 + rl pre⟩ ∧ k = (rtk (R.take i)).length + (toks pre).length
  | [], row, k, _, h => by simp [rtk] at h
  | r :: R, row, k, hf, h => by
    rw [rtk_cons, List.length_append] at h
    have hr := hf r (by simp)
    have ej : ∃ rest, joinP [.nl] (r :: R) = r ++ rest ∧ (R ≠ [] → rest = .nl :: joinP [.nl] R) := by
      cases R with
      | nil => exact ⟨[], by simp [joinP], fun z => absurd rfl z⟩
      | cons s R => exact ⟨_, rfl, fun _ => rfl⟩
    obtain ⟨rest, ej, er⟩ := ej
    rw [ej]
    by_cases hk : k < (toks r).length
    · obtain ⟨pre, t, post, e1, e2, e3⟩ := place_row r rest row 1 k hr hk
      exact ⟨0, pre, t, post, by rw [e1]; rfl, by rw [e3]; simp, by simp [rtk, e2]⟩
    · have hR : R ≠ [] := by
        intro z
        subst z
        simp [rtk] at h
        omega
      obtain ⟨i, pre, t, post, e1, e2, e3⟩ := tok_at R (row + 1) (k - (toks r).length) (fun x hx => hf x (by simp [hx])) (by omega)
      refine ⟨i + 1, pre, t, post, by simpa using e1, ?_, ?_⟩
      · have := place_skip r rest row 1 (k - (toks r).length) hr
        rw [show (toks r).length + (k - (toks r).length) = k by omega] at this
        rw [this, er hR, place, e2]
        congr 2
        omega
      · rw [List.take_succ_cons, rtk_cons, List.length_append]
        omega
end Ko
end
section
set_option Elab.async false
set_option linter.all false
set_option maxRecDepth 100000
set_option maxHeartbeats 4000000
/-! One cut -/
namespace Ko
open PySem PySem.Spec PyProof.Rows L2
def endP : List Nat → Int → Int → Int × Int
  | [], r, c => (r, c)
  | x :: xs, r, c => if x = 10 then endP xs (r + 1) 1 else endP xs r (c + 1)
theorem endP_plain : ∀ (w xs : List Nat) (r c : Int), (∀ x ∈ w, x ≠ 10) → endP (w ++ xs) r c = endP xs r (c + w.length)
  | [], xs, r, c, _ => by simp
  | x :: w, xs, r, c, h => by
    rw [List.cons_append, endP, if_neg (h x (by simp)), endP_plain w xs r (c + 1) fun y hy => h y (by simp [hy]), List.length_cons]
    congr 1
    omega
theorem tk_no10 {t : Tk} (g : t.good = true) : ∀ x ∈ TL.tl t.txt, x ≠ 10 := by
  have h : ∀ t ∈ goodL, (TL.tl t.txt).all (fun x => decide (x ≠ 10)) = true := by decide +kernel
  intro x hx
  exact of_decide_eq_true (List.all_eq_true.mp (h t (good_mem g)) x hx)
theorem cm_no10 : ∀ x ∈ Pc.cm.cs, x ≠ 10 := by decide +kernel
/-- the tokens, then the end at its place -/
theorem place_last : ∀ (ps : List Pc) (r c : Int), okAdj ps = true → ∃ pl, place ps r c = pl ++ [⟨.fin, (endP (render ps) r c).1, (endP (render ps) r c).2⟩] ∧ pl.map Tok.tk = toks ps
  | [], r, c, _ => ⟨[], rfl, rfl⟩
  | .tok t :: ps, r, c, h => by
    have hg : t.good = true ∧ okAdj ps = true := by
      simp only [okAdj, Bool.and_eq_true] at h
      exact ⟨h.1.1.1, h.2⟩
    obtain ⟨pl, e1, e2⟩ := place_last ps r (c + t.txt.length) hg.2
    refine ⟨⟨t, r, c⟩ :: pl, ?_, by simp [toks, e2]⟩
    rw [render_cons, show (Pc.tok t).cs = TL.tl t.txt from rfl, endP_plain _ _ _ _ (tk_no10 hg.1), ← TL.len_tl, place, e1]
    rfl
  | .sp :: ps, r, c, h => by
    obtain ⟨pl, e1, e2⟩ := place_last ps r (c + 1) h
    refine ⟨pl, ?_, e2⟩
    rw [render_cons, place, e1]
    rfl
  | .nl :: ps, r, c, h => by
    obtain ⟨pl, e1, e2⟩ := place_last ps (r + 1) 1 h
    refine ⟨pl, ?_, e2⟩
    rw [render_cons, place, e1]
    rfl
  | .cm :: ps, r, c, h => by
    have : ps = [] := by simpa [okAdj] using h
    subst this
    refine ⟨[], ?_, rfl⟩
    have e : endP (render [.cm]) r c = endP [] r (c + (Pc.cm.cs).length) := by
      rw [render_cons, render_nil, endP_plain _ _ _ _ cm_no10]
    rw [e]
    show [(⟨.fin, r, c + (cmS.length : Nat)⟩ : Tok)] = [⟨.fin, r, c + ((Pc.cm.cs).length : Nat)⟩]
    have : (Pc.cm.cs).length = cmS.length := by rw [TL.len_tl]; rfl
    rw [this]
theorem endP_row : ∀ (xs : List Nat) (r c : Int), (endP xs r c).1 = r + (xs.count 10 : Nat)
  | [], r, c => by simp [endP]
  | x :: xs, r, c => by
    rw [endP]
    split
    · rename_i h
      rw [endP_row xs, h, List.count_cons_self]
      omega
    · rename_i h
      rw [endP_row xs, List.count_cons_of_ne h]
theorem endP_none : ∀ (xs : List Nat) (r c : Int), (∀ x ∈ xs, x ≠ 10) → (endP xs r c).2 = c + xs.length := fun xs r c h => by
  have := endP_plain xs [] r c h
  rw [List.append_nil] at this
  rw [this]
  rfl
theorem endP_some : ∀ (xs : List Nat) (r c : Int) (i : Nat), xs[i]? = some 10 → (∀ k, i < k → xs[k]? ≠ some 10) → (endP xs r c).2 = (xs.length : Int) - i
  | [], r, c, i, h, _ => by simp at h
  | x :: xs, r, c, 0, h, hn => by
    simp at h
    subst h
    rw [endP, if_pos rfl, endP_none xs _ _ (fun y hy => ?_)]
    · simp; omega
    · intro z
      subst z
      obtain ⟨k, hk⟩ := List.mem_iff_getElem?.mp hy
      exact hn (k + 1) (by omega) (by simpa using hk)
  | x :: xs, r, c, i + 1, h, hn => by
    have ih := fun r c => endP_some xs r c i (by simpa using h) fun k hk => by have := hn (k + 1) (by omega); simpa using this
    rw [endP]
    split
    · rw [ih]; simp; omega
    · rw [ih]; simp; omega
theorem nl_str : ("\n" : Str) = ⟨#[10]⟩ := by decide +kernel
theorem cnt_count : ∀ l : List Nat, cnt 10 l = ((l.count 10 : Nat) : Int)
  | [] => by rw [cnt_nil]; rfl
  | x :: l => by
    rw [cnt_cons, cnt_count l]
    by_cases h : x = 10
    · rw [if_pos h, h, List.count_cons_self]
      omega
    · rw [if_neg h, List.count_cons_of_ne h]
      omega
/-- the law's reckoning of the end -/
theorem end_place (z : Str) : endP (TL.tl z) 1 1 = (Txt.count z "\n" + 1, (z.length : Int) - Txt.rfind z "\n") := by
  have h1 : (endP (TL.tl z) 1 1).1 = Txt.count z "\n" + 1 := by
    rw [endP_row, nl_str, count_cnt, cnt_count]
    show (1 : Int) + ((TL.tl z).count 10 : Nat) = ((TL.tl z).count 10 : Nat) + 1
    omega
  have h2 : (endP (TL.tl z) 1 1).2 = (z.length : Int) - Txt.rfind z "\n" := by
    rw [nl_str]
    unfold Txt.rfind
    rcases StrLaws.last_spec z ⟨#[10]⟩ with ⟨h, hn⟩ | ⟨i, h, hi, hn⟩
    · rw [h, endP_none]
      · show (1 : Int) + (TL.tl z).length = z.length - (-1)
        rw [← TL.len_tl]
        omega
      · intro x hx e
        subst e
        obtain ⟨k, hk⟩ := List.mem_iff_getElem?.mp hx
        exact hn k ((StrLaws.subAt_one z 10 k).mpr hk)
    · rw [h, endP_some _ _ _ i ((StrLaws.subAt_one z 10 i).mp hi) fun k hk e => hn k hk ((StrLaws.subAt_one z 10 k).mpr e), ← TL.len_tl]
  exact Prod.ext h1 h2
end Ko
end
section
set_option Elab.async false
set_option linter.all false
set_option maxRecDepth 100000
set_option maxHeartbeats 4000000
/-! One cut, what parse gives -/
namespace Ko
open PySem PySem.Spec PyProof.Rows L2
theorem join_split : ∀ (A : List (List Pc)) (x y : List Pc) (B : List (List Pc)), ∃ rest, joinP [.nl] (A ++ (x ++ y) :: B) = joinP [.nl] (A ++ [x]) ++ (y ++ rest) ∧ (B = [] → rest = [])
  | [], x, y, [] => ⟨[], by simp [joinP], fun _ => rfl⟩
  | [], x, y, b :: B => ⟨.nl :: joinP [.nl] (b :: B), by simp [joinP], fun z => by cases z⟩
  | [a], x, y, B => by
    obtain ⟨rest, h, h2⟩ := join_split [] x y B
    refine ⟨rest, ?_, h2⟩
    show a ++ ([.nl] ++ joinP [.nl] ((x ++ y) :: B)) = (a ++ ([.nl] ++ joinP [.nl] [x])) ++ (y ++ rest)
    rw [show joinP [.nl] ((x ++ y) :: B) = joinP [.nl] ([] ++ [x]) ++ (y ++ rest) from h]
    simp
  | a :: b :: A, x, y, B => by
    obtain ⟨rest, h, h2⟩ := join_split (b :: A) x y B
    refine ⟨rest, ?_, h2⟩
    show a ++ ([.nl] ++ joinP [.nl] ((b :: A) ++ (x ++ y) :: B)) = (a ++ ([.nl] ++ joinP [.nl] ((b :: A) ++ [x]))) ++ (y ++ rest)
    rw [h]
    simp
theorem adj_swap {t : Tk} {x y : List Pc} (hy : okAdj (.tok t :: y) = true) : ∀ pre : List Pc, okAdj (pre ++ .tok t :: x) = true → okAdj (pre ++ .tok t :: y) = true
  | [], _ => hy
  | .tok u :: pre, h => by
    have hs : stW (pre ++ .tok t :: y) = stW (pre ++ .tok t :: x) ∧ stE (pre ++ .tok t :: y) = stE (pre ++ .tok t :: x) := by
      cases pre with
      | nil => exact ⟨rfl, by cases t with | sym s => cases s <;> rfl | _ => rfl⟩
      | cons p pre => cases p with
        | tok v => exact ⟨rfl, by cases v with | sym s => cases s <;> rfl | _ => rfl⟩
        | _ => exact ⟨rfl, rfl⟩
    rw [List.cons_append] at h ⊢
    simp only [okAdj, Bool.and_eq_true, Bool.not_eq_true'] at h ⊢
    rw [hs.1, hs.2]
    exact ⟨h.1, adj_swap hy pre h.2⟩
  | .sp :: pre, h => adj_swap hy pre h
  | .nl :: pre, h => adj_swap hy pre h
  | .cm :: pre, h => by
    have : pre ++ .tok t :: x = [] := by simpa [okAdj] using h
    simp at this
theorem adj_good {t : Tk} {x : List Pc} : ∀ pre : List Pc, okAdj (pre ++ .tok t :: x) = true → t.good = true
  | [], h => by simp only [List.nil_append, okAdj, Bool.and_eq_true] at h; exact h.1.1.1
  | .tok u :: pre, h => by
    rw [List.cons_append] at h
    simp only [okAdj, Bool.and_eq_true] at h
    exact adj_good pre h.2
  | .sp :: pre, h => adj_good pre h
  | .nl :: pre, h => adj_good pre h
  | .cm :: pre, h => by
    have : pre ++ .tok t :: x = [] := by simpa [okAdj] using h
    simp at this
def SUF : List (List Pc) := [[], [.sp], [.nl], [.sp, .cm]]
theorem suf_ok {s : List Pc} (h : s ∈ SUF) : okAdj s = true ∧ stW s = false ∧ stE s = false ∧ toks s = [] := by
  have q : ∀ s ∈ SUF, okAdj s = true ∧ stW s = false ∧ stE s = false ∧ toks s = [] := by decide +kernel
  exact q s h
/-- the text up to a token's end -/
def headP (R : List (List Pc)) (i : Nat) (pre : List Pc) (t : Tk) : List Pc := joinP [.nl] (R.take i ++ [pre ++ [.tok t]])
theorem rtk_take {R : List (List Pc)} {i : Nat} {pre post : List Pc} {t : Tk} (h : R[i]? = some (pre ++ .tok t :: post)) : toks (headP R i pre t) = (rtk R).take ((rtk (R.take i)).length + (toks pre).length + 1) := by
  have e : R = R.take i ++ (pre ++ .tok t :: post) :: R.drop (i + 1) := by
    have hi := (List.getElem?_eq_some_iff.mp h)
    obtain ⟨hlt, hx⟩ := hi
    rw [← hx, List.getElem_cons_drop, List.take_append_drop]
  have e1 : rtk R = (rtk (R.take i) ++ toks pre ++ [t]) ++ (toks post ++ rtk (R.drop (i + 1))) := by
    conv => lhs; rw [e, rtk_app, rtk_cons, toks_app, toks_tok]
    simp
  rw [headP, join_rtk, rtk_app, rtk_cons, rtk_nil, toks_app, e1, List.take_left']
  · simp [toks]
  · simp only [List.length_append, List.length_cons, List.length_nil]
theorem dtk_split (ds : List Dl) (j : Nat) : dtk ds = dtk (ds.take j) ++ dtk (ds.drop j) := by
  unfold dtk
  rw [← List.flatten_append, ← List.map_append, List.take_append_drop]
theorem head_adj {R : List (List Pc)} {i : Nat} {pre post : List Pc} {t : Tk} (h : R[i]? = some (pre ++ .tok t :: post)) (ha : okAdj (joinP [.nl] R) = true) {s : List Pc} (hs : s ∈ SUF) : t.good = true ∧ okAdj (headP R i pre t ++ s) = true := by
  have e : R = R.take i ++ (pre ++ .tok t :: post) :: R.drop (i + 1) := by
    obtain ⟨hlt, hx⟩ := (List.getElem?_eq_some_iff.mp h)
    rw [← hx, List.getElem_cons_drop, List.take_append_drop]
  obtain ⟨rest, h1, _⟩ := join_split (R.take i) pre (.tok t :: post) (R.drop (i + 1))
  obtain ⟨rest2, h2, h3⟩ := join_split (R.take i) pre [.tok t] []
  rw [e, h1] at ha
  have hg := adj_good _ ha
  obtain ⟨s1, s2, s3, _⟩ := suf_ok hs
  refine ⟨hg, ?_⟩
  rw [headP, h2, h3 rfl, List.append_nil, List.append_assoc]
  exact adj_swap (adj_cons hg (fun _ => s2) (fun _ => s3) s1) _ ha
theorem cut_ok {p : Pr} (g : GP p) {at' : Nat} (h : at' < (rtk (prRows p)).length) : ∃ i pre t post, (prRows p)[i]? = some (pre ++ .tok t :: post) ∧ t.good = true ∧ (place (joinP [.nl] (prRows p)) 1 1)[at']? = some ⟨t, 1 + (i : Nat), 1 + rl pre⟩ ∧
    ∀ s ∈ SUF, okAdj (headP (prRows p) i pre t ++ s) = true ∧ ∀ z : Str, TL.tl z = render (headP (prRows p) i pre t ++ s) → ∀ n, 212 ≤ n →
      (∀ j : Nat, (bnd p.dls 0)[j]? = some (at' + 1) → ∃ r, parseP n (place (headP (prRows p) i pre t ++ s) 1 1) = .ok ⟨p.recs.take j, p.vars.take (j - p.recs.length), p.fns.take (j - p.recs.length - p.vars.length)⟩ r) ∧
      (at' + 1 ∉ bnd p.dls 0 → ∃ e : Tok, e.row = Txt.count z "\n" + 1 ∧ e.col = (z.length : Int) - Txt.rfind z "\n" ∧ parseP n (place (headP (prRows p) i pre t ++ s) 1 1) = .bad [e]) := by
  have hrow := pr_rowok g
  have ha := join_adj _ hrow
  obtain ⟨i, pre, t, post, e1, e2, e3⟩ := tok_at (prRows p) 1 at' (fun r hr => (hrow r hr).fl) h
  refine ⟨i, pre, t, post, e1, (head_adj e1 ha (s := []) (by decide)).1, e2, fun s hs => ?_⟩
  have hadj := (head_adj e1 ha hs).2
  refine ⟨hadj, fun z hz n hn => ?_⟩
  obtain ⟨pl, e4, e5⟩ := place_last _ 1 1 hadj
  rw [← hz, end_place] at e4
  have e6 : pl.map Tok.tk = (dtk p.dls).take (at' + 1) := by
    rw [e5, toks_app, (suf_ok hs).2.2.2, List.append_nil, rtk_take e1, ← e3, pr_tks]
  have hlen := dls_len g
  have hl2 : at' + 1 ≤ (dtk p.dls).length := by rw [← pr_tks]; exact h
  refine ⟨fun j hj => ?_, fun hno => ?_⟩
  · obtain ⟨q1, q2⟩ := bnd_get _ _ _ _ hj
    rw [Nat.zero_add] at q1
    have e7 : pl.map Tok.tk = dtk (p.dls.take j) := by
      rw [e6, q1]
      rw [dtk_split p.dls j, List.take_left']
      rfl
    have q := prog_at (p.dls.take j) n ⟨[], [], []⟩ pl ⟨.fin, Txt.count z "\n" + 1, (z.length : Int) - Txt.rfind z "\n"⟩ (fun d hd => dls_good g d (List.mem_of_mem_take hd)) (by rw [List.length_take]; omega) e7 rfl
    rw [fold_take] at q
    rw [e4]
    exact ⟨_, q⟩
  · obtain ⟨ds, d, b, u, w, ⟨pst, hp⟩, f1, f2, f3⟩ := bnd_in p.dls 0 (at' + 1) (by omega) (by omega) hno
    rw [Nat.sub_zero] at f3
    have hmem : ∀ x ∈ ds, x ∈ p.dls := fun x hx => by rw [hp]; simp [hx]
    have hdm : d ∈ p.dls := by rw [hp]; simp
    have hle : ds.length ≤ 7 := by
      have := congrArg List.length hp
      rw [List.length_append, List.length_cons] at this
      omega
    refine ⟨⟨.fin, Txt.count z "\n" + 1, (z.length : Int) - Txt.rfind z "\n"⟩, rfl, rfl, ?_⟩
    rw [e4]
    exact prog_in ds n ⟨[], [], []⟩ pl _ d b u w (fun x hx => dls_good g x (hmem x hx)) (dls_good g d hdm) (by omega) (by rw [e6, f3]) f1 f2 rfl
end Ko
end
section
set_option Elab.async false
set_option linter.all false
set_option maxRecDepth 100000
set_option maxHeartbeats 4000000
/-! How long the text is -/
namespace Ko
open PySem PySem.Spec PyProof.Rows L2
def LeR (b : Nat) (rs : List (List Pc)) : Prop := ∀ r ∈ rs, rl r ≤ b
theorem LeR.app {b : Nat} {x y : List (List Pc)} (h1 : LeR b x) (h2 : LeR b y) : LeR b (x ++ y) := fun r hr => by
  rcases List.mem_append.mp hr with h | h
  · exact h1 r h
  · exact h2 r h
theorem LeR.cons {b : Nat} {x : List Pc} {y : List (List Pc)} (h1 : rl x ≤ b) (h2 : LeR b y) : LeR b (x :: y) := fun r hr => by
  rcases List.mem_cons.mp hr with rfl | h
  · exact h1
  · exact h2 r h
theorem LeR.nil {b : Nat} : LeR b [] := fun r hr => by cases hr
theorem rws_len {n : Nat} (h : ∀ (i : Nat) (s : St), GS n s → i + 4 * n ≤ 20 → LeR 4000 (s.rows i)) : ∀ (i : Nat) (b : List St), (∀ s ∈ b, GS n s) → i + 4 * n ≤ 20 → LeR 4000 (St.rws i b)
  | i, [], _, _ => .nil
  | i, s :: b, g, hi => by
    rw [St.rws]
    exact (h i s (g s (by simp)) hi).app (rws_len h i b (fun t ht => g t (by simp [ht])) hi)
theorem rows_len : ∀ (n i : Nat) (s : St), GS n s → i + 4 * n ≤ 20 → LeR 4000 (s.rows i) := by
  have si : ∀ (n i : Nat) (s : St), GS n s → s.isSi = true → i ≤ 20 → LeR 4000 (s.rows i) := fun n i s g h hi => by
    have e : s.rows i = [ind i ++ s.row] := by cases s <;> first | rfl | exact nomatch h
    rw [e]
    refine .cons ?_ .nil
    have := row_len (gs_si g h)
    rw [rl_app, ind_rl]
    omega
  have l1 := sym_len .rbrace
  have l2 := sym_len .lbrace
  have l3 := sym_len .kIf
  have l4 := sym_len .kElse
  have l5 := sym_len .kWhile
  have l6 := sym_len .kPar
  have l7 := sym_len .kMatch
  intro n
  induction n with
  | zero =>
    intro i s g hi
    exact si 0 i s g (by cases s <;> first | rfl | exact g.elim) (by omega)
  | succ n ih =>
    intro i s g hi
    by_cases hs : s.isSi = true
    · exact si _ i s g hs (by omega)
    have rb : LeR 4000 [ind i ++ [sg .rbrace]] := .cons (by rw [rl_app, ind_rl, rl_cons, rl_nil]; omega) .nil
    cases s with
    | ifS e a b =>
      have le := ex2_len g.1
      rw [St.rows]
      refine .cons (by rw [rl_app, ind_rl, rl_cons, rl_cons, rl_app, rl_cons, rl_cons, rl_nil, sp_len]; omega) ((rws_len ih _ a g.2.1.2 (by omega)).app (LeR.app ?_ rb))
      split
      · exact .nil
      · exact .cons (by rw [rl_app, ind_rl, rl_cons, rl_cons, rl_cons, rl_cons, rl_cons, rl_nil, sp_len]; omega) (rws_len ih _ b g.2.2.2 (by omega))
    | whileS e a =>
      have le := ex1_len g.1
      rw [St.rows]
      exact .cons (by rw [rl_app, ind_rl, rl_cons, rl_cons, rl_app, rl_cons, rl_cons, rl_nil, sp_len]; omega) ((rws_len ih _ a g.2.2 (by omega)).app rb)
    | parS a b =>
      rw [St.rows]
      exact .cons (by rw [rl_app, ind_rl, rl_cons, rl_cons, rl_cons, rl_nil, sp_len]; omega) ((rws_len ih _ a g.1.2 (by omega)).app (.cons (by rw [rl_app, ind_rl, rl_cons, rl_cons, rl_cons, rl_nil, sp_len]; omega) ((rws_len ih _ b g.2.2 (by omega)).app rb)))
    | matchS h p cs =>
      have lp := ex2_len g.2.1
      have lh : rl h.ps ≤ 8 := by cases h <;> decide +kernel
      rw [St.rows]
      refine .cons (by rw [rl_app, ind_rl, rl_cons, rl_cons, rl_app, rl_app, rl_cons, rl_cons, rl_nil, sp_len]; omega) (LeR.app ?_ rb)
      have hc : ∀ cs : List Cs, (∀ t xs b, Cs.mk t xs b ∈ cs → t ∈ NAMES ∧ GN 0 2 xs ∧ (b.length ≤ 3 ∧ ∀ s ∈ b, GS n s)) → LeR 4000 (Cs.rws i cs) := by
        intro cs hcs
        induction cs with
        | nil => exact .nil
        | cons c cs ihc =>
          cases c with
          | mk t xs b =>
            have g1 := hcs t xs b (by simp)
            have ln := name_len g1.1
            have lx : rl (listedP xs) ≤ 60 := by
              have := nms_len g1.2.1 (by decide)
              have := sym_len .lpar
              have := sym_len .rpar
              unfold listedP
              split
              · rw [rl_nil]; omega
              · rw [rl_cons, rl_app, rl_cons, rl_nil]; omega
            rw [Cs.rws, Cs.rows]
            refine LeR.app (.cons (by rw [rl_app, ind_rl, rl_cons, rl_app, rl_cons, rl_cons, rl_nil, sp_len]; omega) ((rws_len ih _ b g1.2.2.2 (by omega)).app (.cons (by rw [rl_app, ind_rl, rl_cons, rl_nil]; omega) .nil))) (ihc fun t xs b hb => hcs t xs b (by simp [hb]))
      exact hc cs g.2.2.2
    | _ => exact absurd rfl hs
theorem pr_len {p : Pr} (g : GP p) : LeR 7000 (prRows p) ∧ (prRows p).length ≤ 730 := by
  have l1 := sym_len .rbrace
  have l2 := sym_len .lbrace
  have l3 := sym_len .kRecord
  have l4 := sym_len .kVariant
  have l5 := sym_len .kFn
  have l6 := sym_len .lpar
  have l7 := sym_len .rpar
  have l8 := sym_len .arrow
  have l9 := sym_len .kReturn
  have l10 := sym_len .semi
  have l11 := sym_len .kFrom
  obtain ⟨⟨gr1, gr2⟩, ⟨gv1, gv2⟩, ⟨gf1, gf2⟩, gf3⟩ := g
  refine ⟨LeR.app ?_ (LeR.app ?_ ?_), ?_⟩
  · intro r hr
    obtain ⟨x, hx, rfl⟩ := List.mem_map.mp hr
    have gx := gr2 x hx
    have ln := name_len gx.1
    have lps := pairs_len (lo := 0) (hi := 3) ⟨Nat.zero_le _, gx.2.2.1, gx.2.2.2⟩ (by decide)
    rw [recPs, rl_cons, rl_cons, rl_cons, rl_cons, rl_cons, rl_cons, rl_app, rl_cons, rl_cons, rl_nil, sp_len]
    omega
  · intro r hr
    obtain ⟨x, hx, rfl⟩ := List.mem_map.mp hr
    have gx := gv2 x hx
    have ln := name_len gx.1
    have lts := tags_len gx.2.1.2 gx.2.2
    rw [varPs, rl_cons, rl_cons, rl_cons, rl_cons, rl_cons, rl_cons, rl_app, rl_cons, rl_cons, rl_nil, sp_len]
    omega
  · intro r hr
    obtain ⟨rs, hrs, h⟩ := List.mem_flatten.mp hr
    obtain ⟨f, hf, rfl⟩ := List.mem_map.mp hrs
    obtain ⟨gn, gp, gk, gl, gb, ge⟩ := gf3 f hf
    have ln := name_len gn
    have lps := pairs_len (lo := 0) (hi := 3) ⟨Nat.zero_le _, by have := gp.2.1; omega, gp.2.2⟩ (by decide)
    have lk := kd_len 2 f.kind gk
    have lr := ex3_len ge
    have lf : rl (fromPs f.lent) ≤ 100 := by
      have := nms_len gl (by decide)
      unfold fromPs
      split
      · rw [rl_nil]; omega
      · rw [rl_cons, rl_cons, rl_cons, sp_len]; omega
    rw [fnRows] at h
    rcases List.mem_cons.mp h with rfl | h
    · rw [fnHead, rl_cons, rl_cons, rl_cons, rl_cons, rl_app, rl_cons, rl_cons, rl_cons, rl_cons, rl_app, rl_app, rl_cons, rl_cons, rl_nil, sp_len]
      omega
    rcases List.mem_append.mp h with h | h
    · have := rws_len (rows_len 2) 2 f.body gb.2 (by decide) r h
      omega
    · rcases List.mem_cons.mp h with rfl | h
      · rw [rl_app, ind_rl, rl_cons, rl_cons, rl_app, rl_cons, rl_nil, sp_len]
        omega
      · obtain rfl := List.mem_singleton.mp h
        rw [rl_cons, rl_nil]
        omega
  · have hf : ∀ fs : List Fn, (∀ f ∈ fs, GF f) → ((fs.map fnRows).flatten).length ≤ fs.length * 240 := by
      intro fs hfs
      induction fs with
      | nil => simp
      | cons f fs ih =>
        have h1 : (fnRows f).length ≤ 240 := by
          have gf := hfs f (by simp)
          have := blk_cnt (i := 2) (m := 2) (by decide) gf.2.2.2.2.1.1 gf.2.2.2.2.1.2
          simp only [fnRows, List.length_cons, List.length_append, List.length_nil]
          omega
        have h2 := ih fun g hg => hfs g (by simp [hg])
        rw [List.map_cons, List.flatten_cons, List.length_append, List.length_cons, Nat.succ_mul]
        omega
    have h1 := hf p.fns gf3
    have h2 : p.fns.length * 240 ≤ 3 * 240 := Nat.mul_le_mul_right _ gf2
    rw [prRows, List.length_append, List.length_append, List.length_map, List.length_map]
    omega
theorem pr_total {p : Pr} (g : GP p) : rl (joinP [.nl] (prRows p)) ≤ 5200000 := by
  obtain ⟨h1, h2⟩ := pr_len g
  have := join_len (sep := [.nl]) (s := 1) (b := 7000) (by decide) (prRows p) h1
  have h3 : (prRows p).length * (7000 + 1) ≤ 730 * (7000 + 1) := Nat.mul_le_mul_right _ h2
  omega
theorem adj_len : ∀ ps : List Pc, okAdj ps = true → ps.length ≤ rl ps
  | [], _ => Nat.zero_le _
  | .tok t :: r, h => by
    have hg : t.good = true ∧ okAdj r = true := by
      simp only [okAdj, Bool.and_eq_true] at h
      exact ⟨h.1.1.1, h.2⟩
    have ih := adj_len r hg.2
    have hn : 1 ≤ (Pc.tok t).cs.length := by
      cases hw : t.isW with
      | true => obtain ⟨c, l, e, _⟩ := tk_w hg.1 hw; show 1 ≤ (TL.tl t.txt).length; rw [e]; simp
      | false => obtain ⟨c, l, e, _⟩ := tk_s hg.1 hw; show 1 ≤ (TL.tl t.txt).length; rw [e]; simp
    rw [rl_cons, List.length_cons]
    omega
  | .sp :: r, h => by have := adj_len r h; rw [rl_cons, sp_len, List.length_cons]; omega
  | .nl :: r, h => by have := adj_len r h; rw [rl_cons, nl_len, List.length_cons]; omega
  | .cm :: r, h => by
    have : r = [] := by simpa [okAdj] using h
    subst this
    decide +kernel
theorem head_len {R : List (List Pc)} {i : Nat} {pre post : List Pc} {t : Tk} (h : R[i]? = some (pre ++ .tok t :: post)) : rl (headP R i pre t) ≤ rl (joinP [.nl] R) := by
  have e : R = R.take i ++ ((pre ++ [.tok t]) ++ post) :: R.drop (i + 1) := by
    obtain ⟨hlt, hx⟩ := (List.getElem?_eq_some_iff.mp h)
    rw [List.append_assoc, show [Pc.tok t] ++ post = .tok t :: post from rfl, ← hx, List.getElem_cons_drop, List.take_append_drop]
  obtain ⟨rest, h1, _⟩ := join_split (R.take i) (pre ++ [.tok t]) post (R.drop (i + 1))
  conv => rhs; rw [e, h1, rl_app]
  exact Nat.le_add_right _ _
/-! ### the places of the words -/
theorem isD_in : ∀ t ∈ goodL, inV (.str t.txt) [.str "record", .str "variant", .str "fn"] = isD t := by decide +kernel
theorem pos_filter : ∀ (ts : List Tk) (i : Nat), pos ts i = ((List.range ts.length).filter fun k => isD (ts.getD k .fin)).map (· + i) ++ [ts.length + i]
  | [], i => by simp [pos]
  | t :: ts, i => by
    have ih := pos_filter ts (i + 1)
    rw [List.length_cons, List.range_succ_eq_map, List.filter_cons, List.filter_map, pos]
    have e : ((List.range ts.length).filter ((fun k => isD ((t :: ts).getD k .fin)) ∘ Nat.succ)) = (List.range ts.length).filter fun k => isD (ts.getD k .fin) := by
      apply List.filter_congr
      intro x _
      simp
    rw [e]
    have e2 : (((List.range ts.length).filter fun k => isD (ts.getD k .fin)).map Nat.succ).map (· + i) = ((List.range ts.length).filter fun k => isD (ts.getD k .fin)).map (· + (i + 1)) := by
      rw [List.map_map]
      apply List.map_congr_left
      intro x _
      simp
      omega
    have e3 : ts.length + 1 + i = ts.length + (i + 1) := by omega
    by_cases h : isD t = true
    · rw [if_pos h, ih]
      simp only [List.getD_cons_zero, h, if_true, List.map_cons, e2, e3, Nat.zero_add, List.cons_append]
    · rw [if_neg h, ih]
      have h' : isD t = false := by simpa using h
      simp only [List.getD_cons_zero, h', Bool.false_eq_true, if_false, e2, e3]
def startsOf (ts : List Tk) (n : Nat) : List Nat := (List.range n).filter fun k => isD (ts.getD k .fin)
theorem starts_succ (ts : List Tk) (n : Nat) : startsOf ts (n + 1) = startsOf ts n ++ (if isD (ts.getD n .fin) = true then [n] else []) := by
  unfold startsOf
  rw [List.range_succ, List.filter_append, List.filter_cons]
  by_cases h : isD (ts.getD n .fin) = true
  · rw [if_pos h, if_pos h]; rfl
  · rw [if_neg h, if_neg h]; rfl
theorem starts_pos (ts : List Tk) : startsOf ts ts.length ++ [ts.length] = pos ts 0 := by
  rw [pos_filter]
  simp [startsOf]
theorem bnd_len : ∀ (ds : List Dl) (i : Nat), (bnd ds i).length = ds.length + 1
  | [], i => rfl
  | d :: ds, i => by rw [bnd, List.length_cons, bnd_len ds, List.length_cons]
end Ko
end
section
set_option Elab.async false
set_option linter.all false
set_option maxRecDepth 100000
set_option maxHeartbeats 4000000
/-! The data of a good program: plain, bounded, equal to itself -/
namespace Ko
open PySem PySem.Spec PyProof.Rows L2
/-- can lie, of the depth n at most, equal to itself -/
structure Lo (n : Nat) (d : PyData) : Prop where
  lay : d.canLay0 = true
  dep : d.depth ≤ n
  self : PyData.eqv d d = true
def LoA (n : Nat) (ds : List PyData) : Prop := ∀ d ∈ ds, Lo n d
theorem lo_up {n m : Nat} {d : PyData} (h : Lo n d) (hm : n ≤ m) : Lo m d := ⟨h.lay, Nat.le_trans h.dep hm, h.self⟩
theorem loA_parts {n : Nat} : ∀ {ds : List PyData}, LoA n ds → PyData.canLayAll0 ds = true ∧ PyData.depthAll ds ≤ n ∧ PyData.eqvAll ds ds = true
  | [], _ => ⟨rfl, Nat.zero_le _, rfl⟩
  | d :: ds, h => by
    obtain ⟨a, b, c⟩ := loA_parts (ds := ds) fun x hx => h x (List.mem_cons_of_mem _ hx)
    have h1 := h d List.mem_cons_self
    refine ⟨?_, ?_, ?_⟩
    · rw [PyData.canLayAll0, h1.lay, a]; rfl
    · rw [PyData.depthAll]; exact Nat.max_le.mpr ⟨h1.dep, b⟩
    · rw [PyData.eqvAll, h1.self, c]; rfl
theorem lo_tup {n : Nat} {ds : List PyData} (h : LoA n ds) : Lo (n + 1) (.tuple ds) := by
  obtain ⟨a, b, c⟩ := loA_parts h
  exact ⟨by rw [PyData.canLay0]; exact a, by rw [PyData.depth]; exact Nat.succ_le_succ b, by rw [PyData.eqv]; exact c⟩
theorem lo_str {n : Nat} {x : Str} (h : PyData.strOk x = true) : Lo n (.str x) := ⟨by rw [PyData.canLay0]; exact h, by rw [PyData.depth]; exact Nat.zero_le _, by simp [PyData.eqv]⟩
theorem lo_int (n : Nat) (i : Int) : Lo n (.int i) := ⟨by rw [PyData.canLay0], by rw [PyData.depth]; exact Nat.zero_le _, by simp [PyData.eqv]⟩
theorem lo_bool (n : Nat) (b : Bool) : Lo n (.bool b) := ⟨by rw [PyData.canLay0], by rw [PyData.depth]; exact Nat.zero_le _, by simp [PyData.eqv]⟩
theorem la_nil {n : Nat} : LoA n [] := fun _ h => by cases h
theorem la_cons {n : Nat} {d : PyData} {ds : List PyData} (h : Lo n d) (t : LoA n ds) : LoA n (d :: ds) := fun x hx => by
  rcases List.mem_cons.mp hx with rfl | hx
  · exact h
  · exact t x hx
theorem la_map {α : Type} {n : Nat} {f : α → PyData} {xs : List α} (h : ∀ x ∈ xs, Lo n (f x)) : LoA n (xs.map f) := fun d hd => by
  obtain ⟨x, hx, rfl⟩ := List.mem_map.mp hd
  exact h x hx
theorem names_ok {x : Str} (h : x ∈ NAMES) : PyData.strOk x = true := by
  have a : NAMES.all (fun x => PyData.strOk x) = true := by decide +kernel
  exact List.all_eq_true.mp a x h
theorem la_names {n : Nat} {xs : List Str} (h : ∀ x ∈ xs, x ∈ NAMES) : LoA n (strD xs) := la_map fun x hx => lo_str (names_ok (h x hx))
theorem lo_gk : ∀ {n : Nat} {k : Kd}, GK n k → Lo (n + 1) k.d
  | _, .int, _ => lo_tup (la_cons (lo_str (by decide +kernel)) la_nil)
  | _, .bool, _ => lo_tup (la_cons (lo_str (by decide +kernel)) la_nil)
  | n, .named w, h => lo_tup (la_cons (lo_str (by decide +kernel)) (la_cons (lo_str (names_ok (by cases n <;> exact h))) la_nil))
  | 0, .box k, h => h.elim
  | 0, .vec k, h => h.elim
  | 0, .ref k, h => h.elim
  | 0, .mut k, h => h.elim
  | n + 1, .box k, h => lo_tup (la_cons (lo_str (by decide +kernel)) (la_cons (lo_gk (n := n) (k := k) h) la_nil))
  | n + 1, .vec k, h => lo_tup (la_cons (lo_str (by decide +kernel)) (la_cons (lo_gk (n := n) (k := k) h) la_nil))
  | n + 1, .ref k, h => lo_tup (la_cons (lo_str (by decide +kernel)) (la_cons (lo_gk (n := n) (k := k) h) la_nil))
  | n + 1, .mut k, h => lo_tup (la_cons (lo_str (by decide +kernel)) (la_cons (lo_gk (n := n) (k := k) h) la_nil))
theorem op_txt_ok (s : Op) : PyData.strOk s.txt = true := by cases s <;> decide +kernel
theorem un_txt_ok (s : Un) : PyData.strOk s.txt = true := by cases s <;> decide +kernel
theorem rf_txt_ok (s : Rf) : PyData.strOk s.txt = true := by cases s <;> decide +kernel
theorem how_txt_ok (s : How) : PyData.strOk s.txt = true := by cases s <;> decide +kernel
theorem lo_ge : ∀ {n : Nat} {e : Ex}, GE n e → Lo (2 * n + 4) e.d := by
  intro n
  induction n with
  | zero =>
    intro e h
    cases e with
    | num k => exact lo_tup (la_cons (lo_str (by decide +kernel)) (la_cons (lo_int _ _) la_nil))
    | name w => exact lo_tup (la_cons (lo_str (by decide +kernel)) (la_cons (lo_str (names_ok h)) la_nil))
    | truth b => exact lo_tup (la_cons (lo_str (by decide +kernel)) (la_cons (lo_bool _ _) la_nil))
    | _ => exact h.elim
  | succ n ih =>
    intro e h
    have up : ∀ {e : Ex}, GE n e → Lo (2 * n + 5) e.d := fun h => lo_up (ih h) (by omega)
    have f : ∀ {ds : List PyData}, LoA (2 * n + 5) ds → Lo (2 * (n + 1) + 4) (.tuple ds) := fun h => lo_up (lo_tup h) (by omega)
    cases e with
    | num k => exact f (la_cons (lo_str (by decide +kernel)) (la_cons (lo_int _ _) la_nil))
    | name w => exact f (la_cons (lo_str (by decide +kernel)) (la_cons (lo_str (names_ok h)) la_nil))
    | truth b => exact f (la_cons (lo_str (by decide +kernel)) (la_cons (lo_bool _ _) la_nil))
    | op s a b => exact f (la_cons (lo_str (by decide +kernel)) (la_cons (lo_str (op_txt_ok s)) (la_cons (up h.1) (la_cons (up h.2) la_nil))))
    | un u a => exact f (la_cons (lo_str (un_txt_ok u)) (la_cons (up h) la_nil))
    | rf r p => exact f (la_cons (lo_str (rf_txt_ok r)) (la_cons (up h.2) la_nil))
    | field p w => exact f (la_cons (lo_str (by decide +kernel)) (la_cons (up h.2.1) (la_cons (lo_str (names_ok h.2.2)) la_nil)))
    | index p e => exact f (la_cons (lo_str (by decide +kernel)) (la_cons (up h.2.1) (la_cons (up h.2.2) la_nil)))
    | call w xs =>
      refine f (la_cons (lo_str (by decide +kernel)) (la_cons (lo_str (names_ok h.1)) (la_cons ?_ la_nil)))
      rw [Ex.ds_map]
      exact lo_tup (la_map fun x hx => ih (h.2.2 x hx))
    | len p => exact f (la_cons (lo_str (by decide +kernel)) (la_cons (up h.2) la_nil))
    | vec k => exact f (la_cons (lo_str (by decide +kernel)) (la_cons (lo_up (lo_gk (n := 2) h) (by omega)) la_nil))
theorem lo_gs : ∀ {n : Nat} {s : St}, GS n s → Lo (4 * n + 9) s.d := by
  have ge : ∀ {m : Nat} {e : Ex}, GE 2 e → Lo (m + 8) e.d := fun h => lo_up (lo_ge h) (by omega)
  have ge1 : ∀ {m : Nat} {e : Ex}, GE 1 e → Lo (m + 8) e.d := fun h => lo_up (lo_ge h) (by omega)
  have gk : ∀ {m : Nat} {e : Kd}, GK 2 e → Lo (m + 8) e.d := fun h => lo_up (lo_gk h) (by omega)
  have flat : ∀ {n : Nat} {s : St}, GS n s → (match s with | .ifS .. => False | .whileS .. => False | .parS .. => False | .matchS .. => False | _ => True) → Lo (4 * n + 9) s.d := by
    intro n s h hs
    cases s with
    | letS w k e =>
      have h' : w ∈ NAMES ∧ GK 2 k ∧ GE 2 e := by cases n <;> exact h
      exact lo_tup (la_cons (lo_str (by decide +kernel)) (la_cons (lo_str (names_ok h'.1)) (la_cons (gk h'.2.1) (la_cons (ge h'.2.2) la_nil))))
    | openS e xs =>
      have h' : GE 2 e ∧ GN 1 3 xs := by cases n <;> exact h
      exact lo_tup (la_cons (lo_str (by decide +kernel)) (la_cons (ge h'.1) (la_cons (lo_up (lo_tup (n := 0) (la_names h'.2.2.2)) (by omega)) la_nil)))
    | showS e =>
      have h' : GE 2 e := by cases n <;> exact h
      exact lo_tup (la_cons (lo_str (by decide +kernel)) (la_cons (ge h') la_nil))
    | pushS p e =>
      have h' : p.isPlace = true ∧ GE 2 p ∧ GE 2 e := by cases n <;> exact h
      exact lo_tup (la_cons (lo_str (by decide +kernel)) (la_cons (ge h'.2.1) (la_cons (ge h'.2.2) la_nil)))
    | takeS p w =>
      have h' : p.isPlace = true ∧ GE 2 p ∧ w ∈ NAMES := by cases n <;> exact h
      exact lo_tup (la_cons (lo_str (by decide +kernel)) (la_cons (ge h'.2.1) (la_cons (lo_str (names_ok h'.2.2)) la_nil)))
    | doS e =>
      have h' : e.isCall = true ∧ GE 2 e := by cases n <;> exact h
      exact lo_tup (la_cons (lo_str (by decide +kernel)) (la_cons (ge h'.2) la_nil))
    | setS p e =>
      have h' : p.isPlace = true ∧ GE 2 p ∧ GE 2 e := by cases n <;> exact h
      exact lo_tup (la_cons (lo_str (by decide +kernel)) (la_cons (ge h'.2.1) (la_cons (ge h'.2.2) la_nil)))
    | ifS => exact hs.elim
    | whileS => exact hs.elim
    | parS => exact hs.elim
    | matchS => exact hs.elim
  intro n
  induction n with
  | zero =>
    intro s h
    refine flat h ?_
    cases s <;> first | trivial | exact h.elim
  | succ n ih =>
    intro s h
    have f : ∀ {ds : List PyData}, LoA (4 * n + 12) ds → Lo (4 * (n + 1) + 9) (.tuple ds) := fun h => lo_up (lo_tup h) (by omega)
    have sub : ∀ {b : List St}, (∀ s ∈ b, GS n s) → Lo (4 * n + 10) (.tuple (St.ds b)) := fun {b} h => by
      rw [St.ds_map]
      exact lo_tup (la_map fun x hx => ih (h x hx))
    cases s with
    | ifS e a b => exact f (la_cons (lo_str (by decide +kernel)) (la_cons (lo_up (ge (m := 0) h.1) (by omega)) (la_cons (lo_up (sub h.2.1.2) (by omega)) (la_cons (lo_up (sub h.2.2.2) (by omega)) la_nil))))
    | whileS e a => exact f (la_cons (lo_str (by decide +kernel)) (la_cons (lo_up (ge1 (m := 0) h.1) (by omega)) (la_cons (lo_up (sub h.2.2) (by omega)) la_nil)))
    | parS a b => exact f (la_cons (lo_str (by decide +kernel)) (la_cons (lo_up (sub h.1.2) (by omega)) (la_cons (lo_up (sub h.2.2) (by omega)) la_nil)))
    | matchS hw p cs =>
      refine f (la_cons (lo_str (by decide +kernel)) (la_cons (lo_str (how_txt_ok hw)) (la_cons (lo_up (ge (m := 0) h.2.1) (by omega)) (la_cons ?_ la_nil))))
      rw [Cs.ds_map]
      refine lo_tup (la_map fun c hc => ?_)
      cases c with
      | mk t xs b =>
        have g := h.2.2.2 t xs b hc
        exact lo_tup (la_cons (lo_str (names_ok g.1)) (la_cons (lo_up (lo_tup (n := 0) (la_names g.2.1.2.2)) (by omega)) (la_cons (lo_up (sub g.2.2.2) (by omega)) la_nil)))
    | letS => exact flat h trivial
    | openS => exact flat h trivial
    | showS => exact flat h trivial
    | pushS => exact flat h trivial
    | takeS => exact flat h trivial
    | doS => exact flat h trivial
    | setS => exact flat h trivial
theorem lo_pair {p : Str × Kd} (h : p.1 ∈ NAMES ∧ GK 2 p.2) : Lo 4 (pairD p) := lo_tup (la_cons (lo_str (names_ok h.1)) (la_cons (lo_gk h.2) la_nil))
theorem lo_rec {r : Str × List (Str × Kd)} (h : GR r) : Lo 6 (recD r) := lo_tup (la_cons (lo_str (names_ok h.1)) (la_cons (lo_tup (la_map fun p hp => lo_pair (h.2.2.2 p hp))) la_nil))
theorem lo_tag {t : Str × List Kd} (h : GT t) : Lo 4 (tagD t) := lo_tup (la_cons (lo_str (names_ok h.1)) (la_cons (lo_tup (la_map fun k hk => lo_gk (h.2.2 k hk))) la_nil))
theorem lo_var {v : Str × List (Str × List Kd)} (h : GV v) : Lo 6 (varD v) := lo_tup (la_cons (lo_str (names_ok h.1)) (la_cons (lo_tup (la_map fun t ht => lo_tag (h.2.2 t ht))) la_nil))
theorem lo_fn {f : Fn} (h : GF f) : Lo 19 f.d := by
  refine lo_tup (la_cons (lo_str (names_ok h.1)) (la_cons (lo_up (lo_tup (la_map fun p hp => lo_pair (h.2.1.2.2 p hp))) (by decide)) (la_cons (lo_up (lo_gk h.2.2.1) (by decide)) (la_cons (lo_up (lo_tup (n := 0) (la_names h.2.2.2.1.2.2)) (by decide)) (la_cons (lo_tup (n := 17) (la_map fun s hs => lo_gs (h.2.2.2.2.1.2 s hs))) (la_cons (lo_up (lo_ge h.2.2.2.2.2) (by decide)) la_nil))))))
theorem lo_begun {p : Pr} (h : GP p) (n : Nat) : Lo 21 (begunD p n).d := by
  refine lo_tup (la_cons (lo_up (lo_tup (la_map fun r hr => lo_rec (h.1.2 r (List.mem_of_mem_take hr)))) (by decide)) (la_cons (lo_up (lo_tup (la_map fun v hv => lo_var (h.2.1.2 v (List.mem_of_mem_take hv)))) (by decide)) (la_cons (lo_tup (la_map fun f hf => lo_fn (h.2.2.2 f (List.mem_of_mem_take hf)))) la_nil)))
theorem lo_shaped {n : Nat} {d : PyData} (h : Lo n d) (hn : n ≤ 64) : SeqAt.shaped d = true := by
  unfold SeqAt.shaped
  rw [h.lay, decide_eq_true (Nat.le_trans h.dep hn)]
  rfl
end Ko
end
section
set_option Elab.async false
set_option linter.all false
set_option maxRecDepth 100000
set_option maxHeartbeats 4000000
/-! The law itself -/
namespace Ko
open PySem PySem.Spec PyProof.Rows L2
section
variable {P : Program} {w : World} {K : PySem.W.Frag} {mg : Str → Option Value} {base : Heap}
theorem toks_good : ∀ ps : List Pc, okAdj ps = true → ∀ t ∈ toks ps, t.good = true
  | [], _, t, h => by cases h
  | .tok u :: r, ha, t, h => by
    simp only [okAdj, Bool.and_eq_true] at ha
    rcases List.mem_cons.mp h with rfl | h
    · exact ha.1.1.1
    · exact toks_good r ha.2 t h
  | .sp :: r, ha, t, h => toks_good r ha t h
  | .nl :: r, ha, t, h => toks_good r ha t h
  | .cm :: r, ha, t, h => by
    have : r = [] := by simpa [okAdj] using ha
    subst this
    cases h
theorem seq_cut2 {t1 t2 u : TS} {D : Ends} {σ : L2.St} {H : Hp} (W : L2.St → Hp → Prop) (hu : ∀ σ H, W σ H → u D σ H) (ht : ∀ U : TS, (∀ σ H, W σ H → U D σ H) → tSeq t1 (tSeq t2 U) D σ H) : tSeq t1 (tSeq t2 u) D σ H := ht u hu
theorem bnd_pos {ds : List Dl} {j k : Nat} (h : (bnd ds 0)[j]? = some k) (hj : 1 ≤ j) : 1 ≤ k ∧ k ≤ (dtk ds).length := by
  obtain ⟨h1, h2⟩ := bnd_get _ _ _ _ h
  rw [Nat.zero_add] at h1
  have e := dtk_split ds j
  refine ⟨?_, by rw [e, List.length_append]; omega⟩
  rw [h1]
  cases ds with
  | nil => simp at h2; omega
  | cons d ds =>
    obtain ⟨i, rfl⟩ : ∃ i, j = i + 1 := ⟨j - 1, by omega⟩
    rw [List.take_succ_cons, dtk_cons, dl_head d]
    simp
theorem first_at : ∀ {l : List Nat} {x : Nat}, x ∈ l → ∃ j, l[j]? = some x ∧ ∀ (m k : Nat), m < j → l[m]? = some k → k ≠ x
  | y :: l, x, h => by
    by_cases e : y = x
    · exact ⟨0, by rw [e]; rfl, fun m k hm => absurd hm (Nat.not_lt_zero m)⟩
    · have h' : x ∈ l := by
        rcases List.mem_cons.mp h with h | h
        · exact absurd h.symm e
        · exact h
      obtain ⟨j, h1, h2⟩ := first_at h'
      refine ⟨j + 1, h1, fun m k hm hk => ?_⟩
      cases m with
      | zero => exact fun z => e (by rw [← z]; exact Option.some.inj hk)
      | succ m => exact h2 m k (by omega) hk
theorem in_ints (x : Nat) (l : List Nat) : inV (.int ((x : Nat) : Int)) (l.map fun k => V.int (k : Nat)) = decide (x ∈ l) := by
  rw [Bool.eq_iff_iff, decide_eq_true_iff]
  unfold inV
  rw [List.any_map, List.any_eq_true]
  constructor
  · rintro ⟨y, hy, e⟩
    have e' : ((y : Nat) : Int) = ((x : Nat) : Int) := eq_of_beq e
    have : y = x := by omega
    rwa [← this]
  · intro h
    exact ⟨x, h, beq_self_eq_true ((x : Nat) : Int)⟩
theorem flat_ints (l : List Nat) : (l.map fun k => V.int (k : Nat)).all flatV = true := by
  rw [List.all_map]
  exact List.all_eq_true.mpr fun _ _ => rfl
def spLaw (K : PySem.W.Frag) : Sp := fun vs H Q _ => ∃ (a : Addr) (ns : List Int), vs = [.ref a] ∧ SqL K H a (ns.map V.int) ∧ ∀ H', Q (.bl true) H'
theorem ok_law (T : Tx K mg) : FnOk P w K mg base CX0 (NF + 13) (a_law K) (fdOf K d_law) ["_law_script"] (spLaw K) := by
  have G_law_stream := ok_stream (P := P) (w := w) (base := base) T
  have G_law_program := ok_gprogram (P := P) (w := w) (base := base) T
  have G_law_program_rows := ok_program_rows (P := P) (w := w) (base := base) T
  have G_tokens := ok_tokens (P := P) (w := w) (base := base) T
  have G_law_pick := ok_pick (P := P) (w := w) (base := base) T
  have G_law_begun := ok_begun (P := P) (w := w) (base := base) T
  have G_law_told := ok_told (P := P) (w := w) (base := base) T
  have hNF : NF = 215 := rfl
  refine (F_law T).ok sc_law (fun vs H Q E h => ?_) (fun cdv A0 outer s0 H0 vs Q E hr h => ?_)
  · obtain ⟨a, ns, rfl, _⟩ := h
    rfl
  obtain ⟨a, ns, rfl, ha, q⟩ := h
  refine ⟨_, PSs.nox (pss_cons (ps_set (i := 1) sc_law.nd rfl (Or.inl rfl) (pe_call G_law_stream (hr.mono (by omega)) rfl (m_law_stream T) (F_law_stream T).kp (B_law_stream T) .nil pass0 (pa_cons (pv 0) (pa_cons pe_int pa_nil)))) (pss_cons (ps_set (i := 2) sc_law.nd rfl (Or.inl rfl) (pe_call G_law_program (hr.mono (by omega)) rfl (m_law_program T) (F_law_program T).kp (B_law_program T) .nil pass0 (pa_cons (pv 1) pa_nil))) (pss_cons (ps_set (i := 3) sc_law.nd rfl (Or.inl rfl) (pe_call G_law_program_rows (hr.mono (by omega)) rfl (m_law_program_rows T) (F_law_program_rows T).kp (B_law_program_rows T) .nil pass0 (pa_cons (pv 2) pa_nil))) (pss_cons (ps_set (i := 4) sc_law.nd rfl (Or.inr rfl) (pe_slice sl_list (pe_call G_tokens (hr.mono (by omega)) rfl (m_tokens T) (F_tokens T).kp (B_tokens T) .nil pass0 (pa_cons (pe_join pe_str (pv 3)) pa_nil)) po_none (po_some (pe_un un_neg pe_int)))) (pss_cons (ps_set (i := 5) sc_law.nd rfl (Or.inl rfl) (pe_op op_cat (pe_lc (own := [("_law_k", 15)]) rfl sc_law.nd (pi_range1 rfl (z_range T) (pa_cons (pe_callB call_len_seq (by rfl) (z_len T) PySem.boot_len (pa_cons (pv 4) pa_nil)) pa_nil)) (blkOk_by (N := ["_law_script", "_law_draws", "_law_program_here", "_law_rows_here", "_law_found", "_law_starts", "_law_turn", "_law_at", "_law_kind_here", "_law_word", "_law_row_here", "_law_column", "_law_head", "_law_cut", "_law_due", "_law_k"]) (sc := defScope s_law) (by decide +kernel)) (fun _ _ _ _ _ => (pg_name (i := 15) sc_law.nd rfl (Or.inl rfl))) (fun _ _ _ _ _ => (pts_one (pt_cmpR (show OpR _ _ (rIn K false) from op_in_seq) (pe_ix (show IxR _ (rIxT K) from ix_tup) (pe_ix (show IxR _ (rIxL K) from ix_list) (pv 4) (pv 15) (fun _ _ => rfl)) pe_int (fun _ _ => rfl)) (pe_tup (pa_cons pe_str (pa_cons pe_str (pa_cons pe_str pa_nil)))) (by rfl)))) (fun _ _ _ _ _ => (pv 15))) (pe_lst (pa_cons (pe_callB call_len_seq (by rfl) (z_len T) PySem.boot_len (pa_cons (pv 4) pa_nil)) pa_nil)))) (pss_cons (ps_for PassesOwn.never rfl (pi_range1 rfl (z_range T) (pa_cons (pe_callB (call_min2 rfl) (by rfl) (z_min T) (by decide +kernel) (pa_cons pe_int (pa_cons (pe_op op_add pe_int (pe_op op_fdiv (pe_callB call_len_seq (by rfl) (z_len T) PySem.boot_len (pa_cons (pe_dget (hu_of hr) (pv 1) pe_str (fun _ _ => rfl)) pa_nil)) pe_int)) pa_nil))) pa_nil)) (pg_name (i := 6) sc_law.nd rfl (Or.inl rfl)) (pss_cons (ps_set (i := 7) sc_law.nd rfl (Or.inl rfl) (pe_call G_law_pick (hr.mono (by omega)) rfl (m_law_pick T) (F_law_pick T).kp (B_law_pick T) .nil pass0 (pa_cons (pv 1) (pa_cons (pe_callB call_len_seq (by rfl) (z_len T) PySem.boot_len (pa_cons (pv 4) pa_nil)) pa_nil)))) (pss_cons (ps_if (pt_cmpR op_lt (pv 6) pe_int (nomark _)) (pss_one (ps_set (i := 7) sc_law.nd rfl (Or.inl rfl) (pe_op op_sub (pe_ix ix_list (pe_lst (pa_cons (pe_callB call_len_seq (by rfl) (z_len T) PySem.boot_len (pa_cons (pv 4) pa_nil)) (pa_cons (pe_ix ix_list (pv 5) (pe_op op_add (pe_call G_law_pick (hr.mono (by omega)) rfl (m_law_pick T) (F_law_pick T).kp (B_law_pick T) .nil pass0 (pa_cons (pv 1) (pa_cons (pe_op op_sub (pe_callB call_len_seq (by rfl) (z_len T) PySem.boot_len (pa_cons (pv 5) pa_nil)) pe_int) pa_nil))) pe_int) (fun _ _ => rfl)) pa_nil))) (pv 6) (fun _ _ => rfl)) pe_int))) pss_nil) (pss_cons (ps_asg (pe_ix ix_list (pv 4) (pv 7) (fun _ _ => rfl)) (pg_tup rfl (pgs_cons (pg_name (i := 8) sc_law.nd rfl (Or.inl rfl)) (pgs_cons (pg_name (i := 9) sc_law.nd rfl (Or.inl rfl)) (pgs_cons (pg_name (i := 10) sc_law.nd rfl (Or.inl rfl)) (pgs_cons (pg_name (i := 11) sc_law.nd rfl (Or.inl rfl)) pgs_nil)))))) (pss_cons (ps_set (i := 12) sc_law.nd rfl (Or.inl rfl) (pe_join pe_str (pe_op op_cat (pe_slice sl_list (pv 3) po_none (po_some (pe_op op_sub (pv 10) pe_int))) (pe_lst (pa_cons (pe_slice sl_str (pe_ix ix_list (pv 3) (pe_op op_sub (pv 10) pe_int) (fun _ _ => rfl)) po_none (po_some (pe_op op_add (pe_op op_sub (pv 11) pe_int) (pe_callB call_len_str (by rfl) (z_len T) PySem.boot_len (pa_cons (pv 9) pa_nil))))) pa_nil))))) (pss_cons (ps_set (i := 13) sc_law.nd rfl (Or.inl rfl) (pe_op op_add_str (pv 12) (pe_ix ix_list (pe_lst (pa_cons pe_str (pa_cons pe_str (pa_cons pe_str (pa_cons pe_str pa_nil))))) (pe_call G_law_pick (hr.mono (by omega)) rfl (m_law_pick T) (F_law_pick T).kp (B_law_pick T) .nil pass0 (pa_cons (pv 1) (pa_cons pe_int pa_nil))) (fun _ _ => rfl)))) (pss_cons (ps_set (i := 14) sc_law.nd rfl (Or.inl rfl) (pe_tup (pa_cons (pe_op op_add (pe_bm PySem.F.plainAttrs_str PySem.F.slot_str_count PySem.F.type_str_count mt_count (pv 13) (pa_cons pe_str pa_nil)) pe_int) (pa_cons (pe_op op_sub (pe_callB call_len_str (by rfl) (z_len T) PySem.boot_len (pa_cons (pv 13) pa_nil)) (pe_bm PySem.F.plainAttrs_str PySem.F.slot_str_rfind PySem.F.type_str_rfind mt_rfind (pv 13) (pa_cons pe_str pa_nil))) (pa_cons pe_bl pa_nil))))) (pss_cons (ps_if (pt_cmpR op_in_seq (pe_op op_add (pv 7) pe_int) (pv 5) (by rfl)) (pss_one (ps_set (i := 14) sc_law.nd rfl (Or.inl rfl) (pe_tup (pa_cons pe_str (pa_cons (pe_call G_law_begun (hr.mono (by omega)) rfl (m_law_begun T) (F_law_begun T).kp (B_law_begun T) .nil pass0 (pa_cons (pv 2) (pa_cons (pe_bm PySem.F.plainAttrs_list PySem.F.slot_list_index PySem.F.type_list_index mt_index (pv 5) (pa_cons (pe_op op_add (pv 7) pe_int) pa_nil)) pa_nil))) pa_nil))))) pss_nil) (pss_one (ps_if (pt_cmpR (op_neD hr.units) (pe_call G_law_told (hr.mono (by omega)) rfl (m_law_told T) (F_law_told T).kp (B_law_told T) .nil pass0 (pa_cons (pv 13) pa_nil)) (pv 14) (nomark _)) (pss_one (ps_ret pe_bl)) pss_nil)))))))))) (pss_one (ps_ret pe_bl)))))))), ?_⟩
  refine ⟨_, rfl, a, ns, rfl, ha, fun d ra row H1 s1 hd D1 => ?_⟩
  refine ⟨_, rfl, d, ra, rfl, ⟨row, D1⟩, fun p vp H2 gp k2 D2 dp => ?_⟩
  refine ⟨_, rfl, vp, p, rfl, gp, dp, fun lr zs H3 s3 n3 hz hrw => ?_⟩
  have hrow := pr_rowok gp
  have hadj := join_adj _ hrow
  have htot := pr_total gp
  have hz' : H3 lr = some (.lst (zs.map V.str)) := hz
  have ejn : TL.tl (Txt.join "\n" zs) = render (joinP [.nl] (prRows p)) := tx_join (by decide +kernel) hrw
  obtain ⟨lz, lb⟩ := zs_len hrw (pr_len gp).1
  have hcn := (pr_len gp).2
  have l1 : ("\n" : Str).length = 1 := by decide +kernel
  have hsum := sum_le zs lb
  have hsum2 : zs.length * 7000 ≤ 730 * 7000 := Nat.mul_le_mul_right _ (by omega)
  have hlen : (Txt.join "\n" zs).length ≤ sizeLine := by rw [tx_len ejn, show sizeLine = 16777216 from rfl]; omega
  have hpl : (joinP [.nl] (prRows p)).length < sizeLine := by
    have := adj_len _ hadj
    rw [show sizeLine = 16777216 from rfl]
    omega
  refine ⟨⟨_, rfl⟩, _, rfl, "\n", lr, zs, rfl, rfl, .inl (SqL.of hz'), by rw [l1]; omega, Txt.join "\n" zs, _, rfl, ejn, hadj, hlen, hpl, fun lf ts H4 n4 s4 hts dts => ?_⟩
  refine ⟨1, rfl, _, rfl, lf, ts, rfl, SqL.of hts, fun lg eg => ?_⟩
  have s5 := same_new eg (.lst (cutV ts none (some (-1))))
  obtain ⟨pl, e4, e5⟩ := place_last (joinP [.nl] (prRows p)) 1 1 hadj
  rw [join_rtk] at e5
  generalize hTT : rtk (prRows p) = TT at e5
  have hN : pl.length = TT.length := by rw [← e5, List.length_map]
  have htl := dts_len dts
  rw [List.length_map, e4, List.length_append, List.length_cons, List.length_nil, hN] at htl
  have ecut : cutV ts none (some (-1)) = ts.take TT.length := by
    show (ts.drop 0).take ((if (-1 : Int) < 0 then ((-1 : Int) + (ts.length : Int)).toNat else min (-1 : Int).toNat ts.length) - 0) = _
    rw [if_pos (by decide), htl, List.drop_zero, Nat.sub_zero]
    congr 1
    omega
  rw [ecut] at s5 ⊢
  have hfl : (ts.take TT.length).length = TT.length := by rw [List.length_take]; omega
  have tokAt : ∀ i, i < TT.length → ∃ v tk, (ts.take TT.length)[i]? = some v ∧ pl[i]? = some tk ∧ tk.tk = TT.getD i .fin ∧ Dt K H4 v (tokD tk) ∧ tk.tk.good = true := by
    intro i hi
    obtain ⟨tk, hp⟩ : ∃ tk, pl[i]? = some tk := ⟨_, List.getElem?_eq_getElem (by omega)⟩
    have e6 : ((place (joinP [.nl] (prRows p)) 1 1).map tokD)[i]? = some (tokD tk) := by
      rw [e4, List.getElem?_map, List.getElem?_append_left (by omega), hp]
      rfl
    obtain ⟨v, hv, dv⟩ := dts_get dts e6
    have e7 : TT[i]? = some tk.tk := by rw [← e5, List.getElem?_map, hp]; rfl
    refine ⟨v, tk, by rw [List.getElem?_take_of_lt hi]; exact hv, hp, by rw [List.getD_eq_getElem?_getD, e7]; rfl, dv, ?_⟩
    refine toks_good _ hadj _ ?_
    rw [join_rtk, hTT]
    exact List.mem_of_getElem? e7
  have hTl : TT.length ≤ 5200000 := by
    have h1 := adj_len _ hadj
    have : TT.length ≤ (joinP [.nl] (prRows p)).length := by
      rw [← hTT, ← join_rtk]
      generalize joinP [.nl] (prRows p) = ps
      induction ps with
      | nil => simp [toks]
      | cons q ps ih => cases q <;> simp [toks] <;> omega
    omega
  refine ⟨_, rfl, lg, _, rfl, .inl (SqL.of upd_same), _, rfl, by omega, by rw [hfl]; omega, fun D eD => ?_⟩
  refine lc_range (lo := 0) (fun i H => Same (upd H4 lg (.lst (ts.take TT.length))) H ∧ H D = some (.lst ((startsOf TT i).map fun k => V.int (k : Nat)))) ⟨same_new eD _, upd_same⟩ ?_ ?_
  · rintro i H hi ⟨sH, hDi⟩
    rw [hfl] at hi
    have hi' : i < TT.length := by omega
    obtain ⟨v, tk, hv, hpi, etk, dv, hg⟩ := tokAt i hi'
    have dv2 := dt_keep (same_kt (s5.trans sH)) dv
    obtain ⟨b, _, rfl, _, _⟩ := dt_tup_inv dv2
    obtain ⟨w0, w1, w2, w3, hb, q0, q1, q2, q3⟩ := dt4i dv2
    obtain rfl := dt_str_inv q1
    refine ⟨rfl, _, rfl, _, rfl, lg, _, _, _, rfl, rfl, SqL.of (sH _ _ upd_same), by rw [Int.zero_add]; exact atI_nat hv, b, _, 1, _, rfl, rfl, hb, at1, (by show 3 ≤ sizeLine; decide), fun t et => ⟨t, _, rfl, .inr (SqT.of upd_same), rfl, rfl, _, rfl, ?_⟩⟩
    have s6 := same_new et (.tup [.str "record", .str "variant", .str "fn"])
    have eD2 := isD_in _ (good_mem hg)
    have hlen2 : (startsOf TT i).length ≤ i := by
      unfold startsOf
      have := List.length_filter_le (fun k => isD (TT.getD k .fin)) (List.range i)
      rwa [List.length_range] at this
    refine iteB (fun hc => ?_) (fun hc => ?_)
    · have hc' : isD tk.tk = true := by rw [← eD2]; exact hc
      refine ⟨_, rfl, _, s6 _ _ hDi, by rw [List.length_map, show sizeLine = 16777216 from rfl]; omega, same_upd eD (sH.trans s6) _, ?_⟩
      rw [upd_same, starts_succ, ← etk, if_pos hc', List.map_append, Int.zero_add]
      rfl
    · have hc' : isD tk.tk = false := by rw [← eD2]; exact hc
      refine ⟨sH.trans s6, ?_⟩
      rw [s6 _ _ hDi, starts_succ, ← etk, if_neg (by rw [hc']; decide), List.append_nil]
  rintro H ⟨sH, hDi⟩
  rw [hfl, show ((TT.length : Nat) : Int).toNat = TT.length from Int.toNat_natCast _] at hDi
  have hsl : (startsOf TT TT.length).length ≤ TT.length := by
    unfold startsOf
    have := List.length_filter_le (fun k => isD (TT.getD k .fin)) (List.range TT.length)
    rwa [List.length_range] at this
  refine ⟨_, rfl, lg, _, rfl, .inl (SqL.of (sH _ _ upd_same)), (by show 1 ≤ sizeLine; decide), fun l2 el2 => ?_⟩
  have s7 := same_new el2 (.lst [V.int ((ts.take TT.length).length : Nat)])
  refine ⟨D, l2, _, _, rfl, rfl, s7 _ _ hDi, upd_same, by rw [List.length_map, show sizeLine = 16777216 from rfl]; simp only [List.length_cons, List.length_nil]; omega, fun lst elst => ?_⟩
  have eS : (startsOf TT TT.length).map (fun k => V.int (k : Nat)) ++ [V.int ((ts.take TT.length).length : Nat)] = (pos TT 0).map fun k => V.int (k : Nat) := by
    rw [hfl, ← starts_pos, List.map_append]
    rfl
  rw [eS]
  have hTb : TT = dtk p.dls := by rw [← hTT, pr_tks]
  have hSb : pos TT 0 = bnd p.dls 0 := by rw [hTb]; exact pos_bnd _ _ fun d hd => dl_noD (dls_good gp d hd)
  have hSl : (pos TT 0).length = p.dls.length + 1 := by rw [hSb, bnd_len]
  have hd1 : 1 ≤ p.dls.length := by
    have := gp.2.2.1.1
    simp only [Pr.dls, List.length_append, List.length_map]
    omega
  have hd7 := dls_len gp
  have s8 := same_new elst (.lst ((pos TT 0).map fun k => V.int (k : Nat)))
  have s48 := ((s5.trans sH).trans s7).trans s8
  have hS : upd (upd H l2 (.lst [V.int ((ts.take TT.length).length : Nat)])) lst (.lst ((pos TT 0).map fun k => V.int (k : Nat))) lst = some (.lst ((pos TT 0).map fun k => V.int (k : Nat))) := upd_same
  have hG := ((sH.trans s7).trans s8) _ _ (upd_same : upd H4 lg (.lst (ts.take TT.length)) lg = _)
  generalize upd (upd H l2 (.lst [V.int ((ts.take TT.length).length : Nat)])) lst (.lst ((pos TT 0).map fun k => V.int (k : Nat))) = HH at s48 hS hG ⊢
  have s38 : Same H3 HH := s4.trans s48
  have hR : HH lr = some (.lst (zs.map V.str)) := s38 _ _ hz'
  have DD : Dr ra HH d := (D2.same s3).same s38
  have dpp := dt_keep (same_kt (s3.trans s38)) dp
  have tokH : ∀ i, i < TT.length → ∃ v tk, (ts.take TT.length)[i]? = some v ∧ pl[i]? = some tk ∧ tk.tk = TT.getD i .fin ∧ Dt K HH v (tokD tk) ∧ tk.tk.good = true := fun i hi => by
    obtain ⟨v, tk, h1, h2, h3, h4, h5⟩ := tokAt i hi
    exact ⟨v, tk, h1, h2, h3, dt_keep (same_kt s48) h4, h5⟩
  obtain ⟨rw0, i0, n0, hd0, hra, hi0⟩ := id DD
  have g4 : DGet HH d (.str "row") (some (.ref ra)) := by
    have := DGet.k (k := .inr ("row" : Str)) hd0
    rw [drK_row] at this
    exact this
  let Inv : L2.St → Hp → Prop := fun σ' H' => ∃ (o6 o7 o8 o9 o10 o11 o12 o13 o14 o15 : Option V), σ' = [some (.ref a), some (.ref d), some vp, some (.ref lr), some (.ref lg), some (.ref lst), o6, o7, o8, o9, o10, o11, o12, o13, o14, o15] ∧ Keep d HH H' ∧ Dr ra H' d
  have hJ : ∃ J : Nat, (if (4 : Int) + ((rw0.map V.int).length : Nat) / 3 < 40 then 4 + (((rw0.map V.int).length : Nat) : Int) / 3 else 40) = J ∧ J ≤ 40 := by
    split
    · exact ⟨4 + (rw0.map V.int).length / 3, by omega, by omega⟩
    · exact ⟨40, rfl, Nat.le_refl _⟩
  obtain ⟨J, eJ, hJ⟩ := hJ
  refine ⟨_, rfl, d, _, rfl, g4, ra, _, rfl, .inl (SqL.of hra), _, _, rfl, rfl, ⟨by decide, by decide⟩, _, _, rfl, rfl, _, _, rfl, J, by rw [← eJ], by omega, by omega, for_range (fun _ σ' H' => Inv σ' H') ⟨none, none, none, none, none, none, none, none, none, none, rfl, Keep.refl _ _, DD⟩ ?_ ?_⟩
  · rintro tn σ' H' htn ⟨o6, o7, o8, o9, o10, o11, o12, o13, o14, o15, rfl, kH, Dd⟩
    have ndg : lg ≠ d := ne_of hG hd0 (by intro z; cases z)
    have nds : lst ≠ d := ne_of hS hd0 (by intro z; cases z)
    have ndr : lr ≠ d := ne_of hR hd0 (by intro z; cases z)
    have hTp : 1 ≤ TT.length := by
      rw [hTb]
      obtain ⟨x, hx⟩ : ∃ x, (bnd p.dls 0)[1]? = some x := ⟨_, List.getElem?_eq_getElem (by rw [bnd_len]; omega)⟩
      have := bnd_pos hx (by decide)
      omega
    dsimp only [gName]
    refine seq_cut2 (fun σ2 H2 => ∃ (A : Nat) (o8 o9 o10 o11 o12 o13 o14 o15 : Option V), A < TT.length ∧ σ2 = [some (.ref a), some (.ref d), some vp, some (.ref lr), some (.ref lg), some (.ref lst), some (.int (0 + (tn : Int))), some (.int (A : Nat)), o8, o9, o10, o11, o12, o13, o14, o15] ∧ Keep d HH H2 ∧ Dr ra H2 d) ?_ ?_
    · rintro σ2 H2 ⟨A, o8, o9, o10, o11, o12, o13, o14, o15, hA, rfl, k2, D2⟩
      obtain ⟨v, tk, hv, hpk, etk, dv, hgd⟩ := tokH A hA
      obtain ⟨i, pre, tt, post, hRi, hgt, hpla, hcut⟩ := cut_ok gp (at' := A) (by rw [hTT]; exact hA)
      have htk : tk = ⟨tt, 1 + (i : Nat), 1 + rl pre⟩ := by
        rw [e4, List.getElem?_append_left (by omega), hpk] at hpla
        exact Option.some.inj hpla
      subst htk
      have dv2 := dt_keep (DD.kt k2) dv
      obtain ⟨b, _, rfl, _, _⟩ := dt_tup_inv dv2
      obtain ⟨w0, w1, w2, w3, hb, q0, q1, q2, q3⟩ := dt4i dv2
      obtain rfl := dt_str_inv q0
      obtain rfl := dt_str_inv q1
      obtain rfl := dt_int_inv q2
      obtain rfl := dt_int_inv q3
      refine ⟨_, rfl, _, rfl, lg, _, _, _, rfl, rfl, SqL.of (k2 _ _ ndg hG), atI_nat hv, b, _, rfl, hb, rfl, _, _, rfl, _, _, rfl, _, _, rfl, _, _, rfl, rfl, ?_⟩
      have hzi : ∃ zi, zs[i]? = some zi ∧ TL.tl zi = render (pre ++ .tok tt :: post) := by
        have h1 : (zs.map TL.tl)[i]? = some (render (pre ++ .tok tt :: post)) := by
          rw [show zs.map TL.tl = (prRows p).map render from hrw, List.getElem?_map, hRi]
          rfl
        rw [List.getElem?_map] at h1
        cases hz3 : zs[i]? with
        | none => rw [hz3] at h1; cases h1
        | some zi =>
          rw [hz3] at h1
          exact ⟨zi, rfl, Option.some.inj h1⟩
      obtain ⟨zi, hzi, ezi⟩ := hzi
      have hil : i < zs.length := (List.getElem?_eq_some_iff.mp hzi).1
      have lzi : zi.length ≤ 7000 := lb zi (List.mem_of_getElem? hzi)
      have e1i : (1 + ((i : Nat) : Int)) - 1 = ((i : Nat) : Int) := by omega
      have ltt : tt.txt.length ≤ 7000 := by
        have h1 := tx_len ezi
        rw [rl_app, rl_cons] at h1
        have : (Pc.tok tt).cs.length = tt.txt.length := by rw [TL.len_tl]; rfl
        omega
      have hRk := k2 _ _ ndr hR
      refine ⟨⟨_, rfl⟩, _, rfl, _, rfl, _, _, rfl, rfl, ((i : Nat) : Int), congrArg V.int e1i, lr, _, rfl, SqL.of hRk, fun la ea => ?_⟩
      have sa := same_new ea (.lst (cutV (zs.map V.str) none (some ((i : Nat) : Int))))
      have ezt : TL.tl zi = ([] : List Nat) ++ render (pre ++ [.tok tt]) ++ render post := by rw [ezi, List.nil_append, ← render_app]; simp
      have ecs : TL.tl (cutS zi none (some ((rl pre + tt.txt.length : Nat) : Int))) = render (pre ++ [.tok tt]) := by
        have hlp : (render (pre ++ [.tok tt])).length = rl pre + tt.txt.length := by
          rw [render_app, List.length_append, render_cons, render_nil, List.append_nil, TL.len_tl]
          rfl
        show ((zi.cps.toList.drop (HT.sIx zi.length 0 none)).take (HT.sIx zi.length zi.length (some ((rl pre + tt.txt.length : Nat) : Int)) - HT.sIx zi.length 0 none)) = _
        have hzl : zi.length = rl pre + tt.txt.length + (render post).length := by rw [TL.len_tl, ezt, List.nil_append, List.length_append, hlp]
        rw [HT.sIx_nat, HT.sIx_none, List.drop_zero, Nat.sub_zero, Nat.min_eq_left (by omega), show zi.cps.toList = _ from ezt, List.nil_append, List.take_left' hlp]
      refine ⟨_, rfl, _, rfl, _, _, rfl, rfl, lr, _, _, .str zi, rfl, rfl, SqL.of (sa _ _ hRk), ?_, _, rfl, _, _, rfl, rfl, _, rfl, tt.txt, rfl, by rw [show sizeLine = 16777216 from rfl]; omega, _, _, rfl, rfl, ((rl pre + tt.txt.length : Nat) : Int), ?_, zi, rfl, by rw [show sizeLine = 16777216 from rfl]; omega, (by show 1 ≤ sizeLine; decide), fun lb' eb => ?_⟩
      · show atI (zs.map V.str) ((1 + ((i : Nat) : Int)) - 1) = _
        rw [e1i]
        exact atI_nat (by rw [List.getElem?_map, hzi]; rfl)
      · show V.int ((1 + ((rl pre : Nat) : Int)) - 1 + ((tt.txt.length : Nat) : Int)) = _
        congr 1
        omega
      generalize hcz : cutS zi none (some ((rl pre + tt.txt.length : Nat) : Int)) = wz at ecs
      have ecv : cutV (zs.map V.str) none (some ((i : Nat) : Int)) = (zs.take i).map V.str := by
        show ((zs.map V.str).drop (HT.sIx (zs.map V.str).length 0 none)).take (HT.sIx (zs.map V.str).length (zs.map V.str).length (some ((i : Nat) : Int)) - HT.sIx (zs.map V.str).length 0 none) = _
        rw [HT.sIx_nat, HT.sIx_none, List.drop_zero, Nat.sub_zero, List.length_map, Nat.min_eq_left (by omega), List.map_take]
      have sb := same_new eb (.lst [V.str wz])
      have lwz : wz.length ≤ 7000 := by
        rw [TL.len_tl, ecs]
        have h1 := tx_len ezi
        have h2 : (render (pre ++ [.tok tt])).length = rl (pre ++ [.tok tt]) := rfl
        rw [rl_app, rl_cons] at h1
        rw [h2, rl_app, rl_cons, rl_nil]
        omega
      have hti : (zs.take i).length ≤ 730 := by rw [List.length_take]; omega
      refine cat_ok (xs := zs.take i) (zs := [wz]) (by show _ = some (HO.lst ((zs.take i).map V.str)); rw [← ecv]; exact sb _ _ upd_same) upd_same (by simp only [List.length_cons, List.length_nil]; omega) fun lc Hc sc nc hlc => ?_
      have lys : ∀ z ∈ zs.take i ++ [wz], z.length ≤ 7000 := fun z hz => by
        rcases List.mem_append.mp hz with h | h
        · exact lb z (List.mem_of_mem_take h)
        · obtain rfl := List.mem_singleton.mp h
          exact lwz
      have hsm := sum_le _ lys
      have hyl : (zs.take i ++ [wz]).length ≤ 731 := by rw [List.length_append]; simp only [List.length_cons, List.length_nil]; omega
      have hsm2 : (zs.take i ++ [wz]).length * 7000 ≤ 731 * 7000 := Nat.mul_le_mul_right _ hyl
      refine ⟨"\n", lc, zs.take i ++ [wz], rfl, rfl, .inl (SqL.of hlc), by rw [l1]; omega, ?_⟩
      have ehd : TL.tl (Txt.join "\n" (zs.take i ++ [wz])) = render (headP (prRows p) i pre tt) := by
        refine tx_join (sp := [.nl]) (by decide +kernel) ?_
        rw [List.map_append, List.map_append, List.map_take, List.map_take, show zs.map TL.tl = (prRows p).map render from hrw]
        show _ ++ [TL.tl wz] = _ ++ [render (pre ++ [.tok tt])]
        rw [ecs]
      generalize Txt.join "\n" (zs.take i ++ [wz]) = z0 at ehd ⊢
      have lz0 : z0.length ≤ 5200000 := by
        rw [tx_len ehd]
        exact Nat.le_trans (head_len hRi) htot
      have k0c : Keep d HH Hc := k2.trans (same_kp ((sa.trans sb).trans sc))
      have Dc : Dr ra Hc d := D2.same ((sa.trans sb).trans sc)
      refine ⟨_, rfl, (by show 4 ≤ sizeLine; decide), fun l4 el4 => ?_⟩
      have s4' := same_new el4 (.lst [.str "", .str " ", .str "\n", .str " # no more"])
      refine ⟨_, rfl, d, 4, ra, rfl, by decide, Dc.same s4', fun r H5 h0 h1 k5 D5 => ?_⟩
      have k05 := (k0c.trans (same_kp s4')).trans k5
      have pick : ∃ (x : Str) (s : List Pc), s ∈ SUF ∧ TL.tl x = render s ∧ x.length ≤ 10 ∧ atI [V.str "", V.str " ", V.str "\n", V.str " # no more"] r = some (.str x) := by
        obtain ⟨j, rfl⟩ := Int.eq_ofNat_of_zero_le h0
        have hj : j < 4 := by omega
        match j, hj with
        | 0, _ => exact ⟨"", [], by decide, by decide +kernel, by decide +kernel, rfl⟩
        | 1, _ => exact ⟨" ", [.sp], by decide, by decide +kernel, by decide +kernel, rfl⟩
        | 2, _ => exact ⟨"\n", [.nl], by decide, by decide +kernel, by decide +kernel, rfl⟩
        | 3, _ => exact ⟨" # no more", [.sp, .cm], by decide, by decide +kernel, by decide +kernel, rfl⟩
      obtain ⟨x, sf0, hsf, ex, lx, hx⟩ := pick
      refine ⟨l4, _, r, _, rfl, rfl, SqL.of (k5 _ _ (Dc.ne' el4) upd_same), hx, _, _, rfl, rfl, by rw [show sizeLine = 16777216 from rfl]; omega, ?_⟩
      have ez : TL.tl (z0 ++ x) = render (headP (prRows p) i pre tt ++ sf0) := adt ehd ex
      have lz : (z0 ++ x).length ≤ 5200010 := by rw [TL.len_tl, TL.tl_append, List.length_append, ← TL.len_tl, ← TL.len_tl]; omega
      obtain ⟨hca, hcz⟩ := hcut sf0 hsf
      obtain ⟨hok, hbad⟩ := hcz (z0 ++ x) ez NF (by decide)
      generalize z0 ++ x = z at ez lz hok hbad ⊢
      refine ⟨_, rfl, rfl, z, "\n", rfl, rfl, _, _, rfl, rfl, _, rfl, z, rfl, by rw [show sizeLine = 16777216 from rfl]; omega, _, rfl, rfl, z, "\n", rfl, rfl, _, _, rfl, rfl, (by show 3 ≤ sizeLine; decide), fun td etd => ?_⟩
      have s6 := same_new etd (.tup [V.int (Txt.count z "\n" + 1), V.int (((z.length : Nat) : Int) - Txt.rfind z "\n"), V.bl true])
      have hpsl : (headP (prRows p) i pre tt ++ sf0).length < sizeLine := by
        have h1 := adj_len _ hca
        have h2 := tx_len ez
        rw [show sizeLine = 16777216 from rfl]
        omega
      dsimp only [gName]
      refine seq_cut (fun σ2 H2 => ∃ (vd : V) (dd : PyData) (o8 o9 o10 o11 o12 o15 : Option V), σ2 = [some (.ref a), some (.ref d), some vp, some (.ref lr), some (.ref lg), some (.ref lst), some (.int (0 + (tn : Int))), some (.int (A : Nat)), o8, o9, o10, o11, o12, some (.str z), some vd, o15] ∧ Dt K H2 vd dd ∧ Lo 22 dd ∧ Keep d HH H2 ∧ Dr ra H2 d ∧ (parseP NF (place (headP (prRows p) i pre tt ++ sf0) 1 1)).wp (fun a _ => PyData.tuple [.str "read", Pr.d a] = dd) (fun r => errD (hdT r) = dd)) ?_ ?_
      · rintro σ2 H2 ⟨vd, dd, o8, o9, o10, o11, o12, o15, rfl, ddd, lo, k2', D2', hwp⟩
        have fin : ∀ v H', Same H2 H' → Dt K H' v dd → ∃ w, ([some (.ref a), some (.ref d), some vp, some (.ref lr), some (.ref lg), some (.ref lst), some (.int (0 + (tn : Int))), some (.int (A : Nat)), o8, o9, o10, o11, o12, some (.str z), some vd, o15] : L2.St)[14]? = some (some w) ∧ rNeD K v w H' (fun x H1 => ∃ k, x = V.bl k ∧ (k = false ∧ Keep d HH H1 ∧ Dr ra H1 d)) := fun v H' sv dv =>
          ⟨_, rfl, dd, dd, dv.dp, (dt_keep (same_kt sv) ddd).dp, lo_shaped lo (by decide), lo_shaped lo (by decide), _, rfl, by rw [lo.self]; rfl, k2'.trans (same_kp sv), D2'.same sv⟩
        refine ⟨_, rfl, z, headP (prRows p) i pre tt ++ sf0, rfl, ez, hca, by rw [show sizeLine = 16777216 from rfl]; omega, hpsl, R.mono hwp (fun a' r e v H' sv dv => ?_) (fun r e v H' sv dv => ?_)⟩
        all_goals
          rw [e] at dv
          obtain ⟨w', hw', d1, d2, p1, p2, sh1, sh2, k, ek, hk, kk, dd'⟩ := fin v H' sv dv
          refine ⟨w', hw', d1, d2, p1, p2, sh1, sh2, k, ek, ?_⟩
          subst hk
          exact ⟨_, _, _, _, _, _, _, _, _, _, rfl, kk, dd'⟩
      · intro U hU
        have hin : inV (.int (((A : Nat) : Int) + 1)) ((pos TT 0).map fun k => V.int (k : Nat)) = decide (A + 1 ∈ pos TT 0) := in_ints (A + 1) (pos TT 0)
        have k6 := k05.trans (same_kp s6)
        have hl6 := k6 _ _ nds hS
        have eA : ((A : Nat) : Int) + 1 = ((A + 1 : Nat) : Int) := by omega
        refine ⟨_, rfl, _, _, rfl, rfl, _, rfl, lst, _, rfl, .inl (SqL.of hl6), rfl, flat_ints _, _, rfl, iteB (fun hc => ?_) (fun hc => ?_)⟩
        · have hm : A + 1 ∈ pos TT 0 := by
            exact of_decide_eq_true (hin.symm.trans hc)
          obtain ⟨j, hj1, hj2⟩ := first_at hm
          obtain ⟨rr, hrr⟩ := hok j (by rw [← hSb]; exact hj1)
          refine ⟨_, rfl, _, rfl, .inl ⟨rfl, _, SqL.of hl6⟩, _, rfl, _, _, rfl, rfl, lst, _, _, j, .int ((A + 1 : Nat) : Int), rfl, rfl, SqL.of hl6, rfl, flat_ints _, by rw [List.getElem?_map, hj1]; rfl, beq_self_eq_true ((A + 1 : Nat) : Int), fun m z' hm' hz' => ?_, vp, p, j, rfl, gp, dt_keep (DD.kt k6) dpp, fun v' H' sv dv => ⟨(by show 2 ≤ sizeLine; decide), fun t2 et2 => ?_⟩⟩
          · rw [List.getElem?_map] at hz'
            cases hk : (pos TT 0)[m]? with
            | none => rw [hk] at hz'; cases hz'
            | some k =>
              rw [hk] at hz'
              cases hz'
              have := hj2 m k hm' hk
              show ((((k : Nat) : Int)) == ((A : Nat) : Int) + 1) = false
              exact beq_eq_false_iff_ne.mpr fun z => this (by omega)
          · have s7' := sv.trans (same_new et2 (.tup [.str "read", v']))
            refine hU _ _ ⟨.ref t2, .tuple [.str "read", Pr.d (begunD p j)], _, _, _, _, _, _, rfl, dt_new et2 (.cons (.str _) (.cons dv .nil)), lo_tup (la_cons (lo_str (by decide +kernel)) (la_cons (lo_begun gp j) la_nil)), k6.trans (same_kp s7'), (D5.same s6).same s7', ?_⟩
            rw [hrr]
            rfl
        · have hm : A + 1 ∉ pos TT 0 := by
            exact of_decide_eq_false (hin.symm.trans hc)
          obtain ⟨e, er, ec, eb⟩ := hbad (by rw [← hSb]; exact hm)
          refine hU _ _ ⟨.ref td, errD e, _, _, _, _, _, _, rfl, ?_, lo_up (lo_tup (n := 0) (la_cons (lo_int _ _) (la_cons (lo_int _ _) (la_cons (lo_bool _ _) la_nil)))) (by decide), k6, D5.same s6, ?_⟩
          · unfold errD
            rw [er, ec]
            exact dt_new etd (.cons (.int _) (.cons (.int _) (.cons (.bl _) .nil)))
          · rw [eb]
            rfl
    intro U hU
    refine ⟨_, rfl, _, rfl, lg, _, rfl, .inl (SqL.of (kH _ _ ndg hG)), d, _, ra, rfl, by rw [hfl]; omega, Dd, fun r H2 h0 h1 k2 D2 => ?_⟩
    rw [hfl] at h1
    have k02 := kH.trans k2
    refine ⟨_, rfl, _, _, rfl, rfl, _, rfl, iteB (fun hc => ?_) (fun hc => ?_)⟩
    · have hc' := of_decide_eq_true hc
      refine ⟨_, rfl, lg, _, rfl, .inl (SqL.of (k02 _ _ ndg hG)), _, rfl, _, rfl, _, rfl, lst, _, rfl, .inl (SqL.of (k02 _ _ nds hS)), _, _, rfl, rfl, d, _, ra, rfl, by rw [List.length_map, hSl]; omega, D2, fun r2 H3 h20 h21 k3 D3 => ?_⟩
      rw [List.length_map, hSl] at h21
      obtain ⟨j, rfl⟩ := Int.eq_ofNat_of_zero_le h20
      have hj : j + 1 < (pos TT 0).length := by omega
      obtain ⟨x, hx⟩ : ∃ x, (pos TT 0)[j + 1]? = some x := ⟨_, List.getElem?_eq_getElem hj⟩
      have hxb := bnd_pos (by rw [← hSb]; exact hx) (by omega)
      rw [← hTb] at hxb
      have k03 := k02.trans k3
      refine ⟨_, _, rfl, rfl, lst, _, _, .int (x : Nat), rfl, rfl, SqL.of (k03 _ _ nds hS), ?_, (by show 2 ≤ sizeLine; decide), fun l el => ?_⟩
      · rw [show ((j : Nat) : Int) + 1 = ((j + 1 : Nat) : Int) by omega]
        refine atI_nat ?_
        rw [List.getElem?_map, hx]
        rfl
      have s4' := same_new el (.lst [V.int ((ts.take TT.length).length : Nat), V.int (x : Nat)])
      have fin : ∀ A : Nat, A < TT.length → U _ [some (.ref a), some (.ref d), some vp, some (.ref lr), some (.ref lg), some (.ref lst), some (.int (0 + (tn : Int))), some (.int (A : Nat)), o8, o9, o10, o11, o12, o13, o14, o15] (upd H3 l (.lst [V.int ((ts.take TT.length).length : Nat), V.int (x : Nat)])) := fun A hA => hU _ _ ⟨A, _, _, _, _, _, _, _, _, hA, rfl, k03.trans (same_kp s4'), D3.same s4'⟩
      have ht : tn = 0 ∨ tn = 1 := by omega
      rcases ht with rfl | rfl
      · refine ⟨_, rfl, l, _, _, .int ((ts.take TT.length).length : Nat), rfl, rfl, SqL.of upd_same, rfl, _, _, rfl, rfl, ?_⟩
        have := fin (TT.length - 1) (by omega)
        rw [show ((TT.length - 1 : Nat) : Int) = ((ts.take TT.length).length : Nat) - 1 by rw [hfl]; omega] at this
        exact this
      · refine ⟨_, rfl, l, _, _, .int (x : Nat), rfl, rfl, SqL.of upd_same, rfl, _, _, rfl, rfl, ?_⟩
        have := fin (x - 1) (by omega)
        rw [show ((x - 1 : Nat) : Int) = (x : Nat) - 1 by omega] at this
        exact this
    · obtain ⟨j, rfl⟩ := Int.eq_ofNat_of_zero_le h0
      exact hU _ _ ⟨j, _, _, _, _, _, _, _, _, by omega, rfl, k02, D2⟩
  · rintro σ' H' ⟨o6, o7, o8, o9, o10, o11, o12, o13, o14, o15, rfl, kH, Dd⟩
    exact q H'
end
end Ko
end
section
set_option Elab.async false
set_option linter.all false
set_option maxRecDepth 100000
set_option maxHeartbeats 0
/-! The head's facts and the law's walk, joined -/
namespace Ko
open PySem PySem.Spec PyProof.Rows L2
theorem head_law {P : Program} {w : World} {K : PySem.W.Frag} {h : Heap} {mg : Str → Option Value} {f : Addr} (X : K.In h) (G : h.Ns mainGlobals mg) (hfa : mg ("law" : Str) = some (.ref f)) (c : He.SaysD fa fn K) (e : ex K = true) :
    ∃ fd : FuncData, (∀ (s : Shared) (v : Value), BindsTo s fd ⟨[v], []⟩ [("_law_script", v)]) ∧ ∀ base : Heap, K.In base → base.Ns mainGlobals mg → FnOk P w K mg base CX0 (NF + 13) f fd ["_law_script"] (spLaw K) := by
  have T := Tx.mk_of X G c e
  have e' := hfa.symm.trans (T.gl (x := "law") (T.fact 63 (f := .glo "law")))
  have F := F_law T
  have b := FunD.bindsA (ps := ["_law_script"]) F fun _ _ _ _ _ _ us hl => match us, hl with | [_], _ => rfl
  have ef : f = a_law K := (Value.ref.inj (Option.some.inj e'))
  subst ef
  exact ⟨fdOf K d_law, fun s v => b s [v] rfl, fun base _ _ => ok_law T⟩
end Ko
open PySem PySem.W PySem.Calls PyProof.Rows
theorem PySem.Challenge.cw_oneowner_k04_programs_cut_short_holds : PySem.Challenge.rw_oneowner_k04_programs_cut_short.Holds := by
  w_on; o_law
  refine HandSHeadRun.head_any (r := OpenLaw.row PySem.Challenge.rw_oneowner_k04_programs_cut_short) (q := view (OpenLaw.row PySem.Challenge.rw_oneowner_k04_programs_cut_short).prog [82]) (H := Ko.hk) (ob := Ko.ob) (M := 12000) (loose := Ko.loose) (d := HandSHeadRun.topDef (OpenLaw.row PySem.Challenge.rw_oneowner_k04_programs_cut_short).prog 82) (kwd := []) Ko.ob_eq
    (by kernel_rfl) (fun s => by kernel_rfl) Ko.run (by kernel_rfl) (by kernel_rfl) (by kernel_rfl) (by rfl) (by first | assumption | decide +kernel) (by decide +kernel) ⟨rfl, rfl, rfl, rfl, rfl, by decide +kernel⟩ ?hw ?hc
  case hw => w_witness2
  case hc =>
    refine L2.walk_ofE (l := PySem.Challenge.rw_oneowner_k04_programs_cut_short) (n := 63) (k := Ko.NF + 13) (x := "_law_script") (CX := L2.CX0) rfl (by decide) (by kernel_rfl) ⟨rfl, by decide, by decide⟩ ?F (fun _ _ _ _ z => z)
    intro w mg fa h Y G hmg0
    obtain ⟨K, KX, c, e⟩ := Y
    have hmg : mg ("law" : PySem.Str) = some (.ref fa) := by
      have e : (HandSHeadRun.topDef (OpenLaw.row PySem.Challenge.rw_oneowner_k04_programs_cut_short).prog 82).name = ("law" : PySem.Str) := by kernel_rfl
      rw [← e]
      exact hmg0
    obtain ⟨fd, hb, hF⟩ := Ko.head_law (P := (PySem.Challenge.rw_oneowner_k04_programs_cut_short).prog) (w := w) KX G hmg c e
    exact ⟨K, fd, Ko.spLaw K, KX, hb, fun H a ns hl _ hS => ⟨a, ns, rfl, hS, fun _ => rfl⟩, hF⟩
end
