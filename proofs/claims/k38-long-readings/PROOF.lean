import PyProof.Rows.All
import Wide.All
import OpenK.AllK
import Wide.FinOn
import HandS.ForMost
import HandS.ForExc
import HandS.SetKeys
import HandS.DictComp
import HandS.Wide
import HandS.TupAny
import HandS.Style
import HandS.IsInst
import HandS.SortInts
import HandS.StrMore
import HandS.DictTup
import HandS.Strs
import HandS.TryOnly
import HandS.ExcOwn
import KE.KDictKeyed
import HandS.TupSets
import HandS.WordsExc
import PySem.Challenge.RW_scribeself_k38_whole_long_readings
set_option Elab.async false
set_option linter.all false
set_option maxRecDepth 100000
set_option maxHeartbeats 4000000
namespace K38
open PySem L2
def top (i : Nat) : Stmt := PySem.Challenge.pw_scribeself_k38_whole_long_readings.main.body.getD i (.Pass ⟨0, 0, 0, 0⟩)
abbrev s_check_edit : Stmt := top 5
abbrev s_applied : Stmt := top 6
abbrev s_nullable : Stmt := top 8
abbrev s_Spans_init : Stmt := inClass (top 10) 0
abbrev s_Spans_add_item : Stmt := inClass (top 10) 1
abbrev s_Spans_predict : Stmt := inClass (top 10) 2
abbrev s_Spans_scan : Stmt := inClass (top 10) 3
abbrev s_Spans_complete : Stmt := inClass (top 10) 4
abbrev s_Spans_wait : Stmt := inClass (top 10) 5
abbrev s_Spans_fill : Stmt := inClass (top 10) 6
abbrev s_Spans_take_over : Stmt := inClass (top 10) 7
abbrev s_Spans_ends : Stmt := inClass (top 10) 8
abbrev s_spans_of : Stmt := top 11
abbrev s_cuts_of : Stmt := top 12
abbrev s_Table_init : Stmt := inClass (top 13) 0
abbrev s_Table_allowed : Stmt := inClass (top 13) 1
abbrev s_Table_kid_keys : Stmt := inClass (top 13) 2
abbrev s_Table_alternatives : Stmt := inClass (top 13) 3
abbrev s_table_of : Stmt := top 14
abbrev s_counted : Stmt := top 15
abbrev s_count : Stmt := top 16
abbrev s_built : Stmt := top 17
abbrev s_tree : Stmt := top 18
abbrev s_nodes : Stmt := top 20
abbrev s_add_rows : Stmt := top 21
abbrev s_subtree : Stmt := top 22
abbrev s_Reading_init : Stmt := inClass (top 24) 0
abbrev s_Reading_tree : Stmt := inClass (top 24) 1
abbrev s_read : Stmt := top 25
abbrev s_read_again : Stmt := top 26
abbrev s_kept : Stmt := top 27
abbrev s_law_draws : Stmt := top 29
abbrev s_law_draw : Stmt := top 30
abbrev s_law_same : Stmt := top 31
abbrev s_law_grammar : Stmt := top 32
abbrev s_law_run : Stmt := top 33
abbrev s_law_item : Stmt := top 34
abbrev s_law_list : Stmt := top 35
abbrev s_law_read : Stmt := top 36
abbrev s_law_ways : Stmt := top 37
abbrev s_law_size : Stmt := top 38
abbrev s_law_nodes : Stmt := top 39
abbrev s_law_kept : Stmt := top 40
abbrev s_law_tree : Stmt := top 41
abbrev s_law_items : Stmt := top 42
abbrev s_law_edit : Stmt := top 43
abbrev s_law : Stmt := top 44
theorem sc_check_edit : FnScope ["text", "edit"] ["text", "edit"] (defScope s_check_edit) := ⟨rfl, rfl, rfl, by decide +kernel, rfl, by decide +kernel, by decide +kernel⟩
theorem sc_applied : FnScope ["text", "edit"] ["text", "edit"] (defScope s_applied) := ⟨rfl, rfl, rfl, by decide +kernel, rfl, by decide +kernel, by decide +kernel⟩
theorem sc_nullable : FnScope ["grammar", "found", "going", "rule", "symbol"] ["grammar"] (defScope s_nullable) := ⟨rfl, rfl, rfl, by decide +kernel, rfl, by decide +kernel, by decide +kernel⟩
theorem sc_Spans_init : FnScope ["self", "grammar", "text", "rule", "row", "_"] ["self", "grammar", "text"] (defScope s_Spans_init) := ⟨rfl, rfl, rfl, by decide +kernel, rfl, by decide +kernel, by decide +kernel⟩
theorem sc_Spans_add_item : FnScope ["self", "at", "item"] ["self", "at", "item"] (defScope s_Spans_add_item) := ⟨rfl, rfl, rfl, by decide +kernel, rfl, by decide +kernel, by decide +kernel⟩
theorem sc_Spans_predict : FnScope ["self", "at", "name", "rule"] ["self", "at", "name"] (defScope s_Spans_predict) := ⟨rfl, rfl, rfl, by decide +kernel, rfl, by decide +kernel, by decide +kernel⟩
theorem sc_Spans_scan : FnScope ["self", "at", "item", "symbol", "rule", "seen", "start", "end"] ["self", "at", "item", "symbol"] (defScope s_Spans_scan) := ⟨rfl, rfl, rfl, by decide +kernel, rfl, by decide +kernel, by decide +kernel⟩
theorem sc_Spans_complete : FnScope ["self", "at", "item", "rule", "_", "start", "name", "ends", "other", "seen", "first"] ["self", "at", "item"] (defScope s_Spans_complete) := ⟨rfl, rfl, rfl, by decide +kernel, rfl, by decide +kernel, by decide +kernel⟩
theorem sc_Spans_wait : FnScope ["self", "at", "item", "name"] ["self", "at", "item", "name"] (defScope s_Spans_wait) := ⟨rfl, rfl, rfl, by decide +kernel, rfl, by decide +kernel, by decide +kernel⟩
theorem sc_Spans_fill : FnScope ["self", "at", "done", "item", "symbols"] ["self", "at"] (defScope s_Spans_fill) := ⟨rfl, rfl, rfl, by decide +kernel, rfl, by decide +kernel, by decide +kernel⟩
theorem sc_Spans_take_over : FnScope ["self", "other", "last", "at", "item", "rows", "symbols", "name", "end"] ["self", "other", "last"] (defScope s_Spans_take_over) := ⟨rfl, rfl, rfl, by decide +kernel, rfl, by decide +kernel, by decide +kernel⟩
theorem sc_Spans_ends : FnScope ["self", "symbol", "at", "end"] ["self", "symbol", "at"] (defScope s_Spans_ends) := ⟨rfl, rfl, rfl, by decide +kernel, rfl, by decide +kernel, by decide +kernel⟩
theorem sc_spans_of : FnScope ["grammar", "text", "spans", "at"] ["grammar", "text"] (defScope s_spans_of) := ⟨rfl, rfl, rfl, by decide +kernel, rfl, by decide +kernel, by decide +kernel⟩
theorem sc_cuts_of : FnScope ["spans", "symbols", "start", "end", "found", "middle", "rest"] ["spans", "symbols", "start", "end"] (defScope s_cuts_of) := ⟨rfl, rfl, rfl, by decide +kernel, rfl, by decide +kernel, by decide +kernel⟩
theorem sc_Table_init : FnScope ["self", "grammar", "filters", "spans"] ["self", "grammar", "filters", "spans"] (defScope s_Table_init) := ⟨rfl, rfl, rfl, by decide +kernel, rfl, by decide +kernel, by decide +kernel⟩
theorem sc_Table_allowed : FnScope ["self", "key", "name", "start", "end", "_", "text", "row"] ["self", "key"] (defScope s_Table_allowed) := ⟨rfl, rfl, rfl, by decide +kernel, rfl, by decide +kernel, by decide +kernel⟩
theorem sc_Table_kid_keys : FnScope ["self", "k", "cuts", "keys", "at", "symbol", "bans", "row"] ["self", "k", "cuts"] (defScope s_Table_kid_keys) := ⟨rfl, rfl, rfl, by decide +kernel, rfl, by decide +kernel, by decide +kernel⟩
theorem sc_Table_alternatives : FnScope ["self", "key", "name", "start", "end", "bans", "found", "k", "cuts", "kids", "there", "worse", "kid", "_", "row", "pair"] ["self", "key"] (defScope s_Table_alternatives) := ⟨rfl, rfl, rfl, by decide +kernel, rfl, by decide +kernel, by decide +kernel⟩
theorem sc_table_of : FnScope ["grammar", "filters", "spans", "table"] ["grammar", "filters", "spans"] (defScope s_table_of) := ⟨rfl, rfl, rfl, by decide +kernel, rfl, by decide +kernel, by decide +kernel⟩
theorem sc_counted : FnScope ["table", "key", "known", "total", "k", "cuts", "many", "kid"] ["table", "key", "known"] (defScope s_counted) := ⟨rfl, rfl, rfl, by decide +kernel, rfl, by decide +kernel, by decide +kernel⟩
theorem sc_count : FnScope ["grammar", "filters", "text", "table", "whole"] ["grammar", "filters", "text"] (defScope s_count) := ⟨rfl, rfl, rfl, by decide +kernel, rfl, by decide +kernel, by decide +kernel⟩
theorem sc_built : FnScope ["table", "key", "number", "known", "k", "cuts", "kids", "kid", "sizes", "many", "size", "parts", "at"] ["table", "key", "number", "known"] (defScope s_built) := ⟨rfl, rfl, rfl, by decide +kernel, rfl, by decide +kernel, by decide +kernel⟩
theorem sc_tree : FnScope ["grammar", "filters", "text", "number", "table", "whole"] ["grammar", "filters", "text", "number"] (defScope s_tree) := ⟨rfl, rfl, rfl, by decide +kernel, rfl, by decide +kernel, by decide +kernel⟩
theorem sc_nodes : FnScope ["tree", "rows"] ["tree"] (defScope s_nodes) := ⟨rfl, rfl, rfl, by decide +kernel, rfl, by decide +kernel, by decide +kernel⟩
theorem sc_add_rows : FnScope ["rows", "tree", "path", "start", "here", "end", "at", "kid"] ["rows", "tree", "path", "start"] (defScope s_add_rows) := ⟨rfl, rfl, rfl, by decide +kernel, rfl, by decide +kernel, by decide +kernel⟩
theorem sc_subtree : FnScope ["tree", "path", "at"] ["tree", "path"] (defScope s_subtree) := ⟨rfl, rfl, rfl, by decide +kernel, rfl, by decide +kernel, by decide +kernel⟩
theorem sc_Reading_init : FnScope ["self", "grammar", "filters", "spans"] ["self", "grammar", "filters", "spans"] (defScope s_Reading_init) := ⟨rfl, rfl, rfl, by decide +kernel, rfl, by decide +kernel, by decide +kernel⟩
theorem sc_Reading_tree : FnScope ["self", "number", "table", "whole"] ["self", "number"] (defScope s_Reading_tree) := ⟨rfl, rfl, rfl, by decide +kernel, rfl, by decide +kernel, by decide +kernel⟩
theorem sc_read : FnScope ["grammar", "filters", "text"] ["grammar", "filters", "text"] (defScope s_read) := ⟨rfl, rfl, rfl, by decide +kernel, rfl, by decide +kernel, by decide +kernel⟩
theorem sc_read_again : FnScope ["reading", "edit", "text", "spans", "at"] ["reading", "edit"] (defScope s_read_again) := ⟨rfl, rfl, rfl, by decide +kernel, rfl, by decide +kernel, by decide +kernel⟩
theorem sc_kept : FnScope ["old", "new", "edit", "shift", "places", "path", "rule", "start", "end", "found", "taken", "other"] ["old", "new", "edit"] (defScope s_kept) := ⟨rfl, rfl, rfl, by decide +kernel, rfl, by decide +kernel, by decide +kernel⟩
theorem sc_law_draws : FnScope ["_law_script"] ["_law_script"] (defScope s_law_draws) := ⟨rfl, rfl, rfl, by decide +kernel, rfl, by decide +kernel, by decide +kernel⟩
theorem sc_law_draw : FnScope ["_law_draws_here", "_law_limit", "_law_cell", "_law_value"] ["_law_draws_here", "_law_limit"] (defScope s_law_draw) := ⟨rfl, rfl, rfl, by decide +kernel, rfl, by decide +kernel, by decide +kernel⟩
theorem sc_law_same : FnScope ["_law_actual", "_law_expected", "_law_k"] ["_law_actual", "_law_expected"] (defScope s_law_same) := ⟨rfl, rfl, rfl, by decide +kernel, rfl, by decide +kernel, by decide +kernel⟩
theorem sc_law_grammar : FnScope ["_law_loose", "_law_rules"] ["_law_loose"] (defScope s_law_grammar) := ⟨rfl, rfl, rfl, by decide +kernel, rfl, by decide +kernel, by decide +kernel⟩
theorem sc_law_run : FnScope ["_law_text", "_law_at", "_law_chars", "_law_end"] ["_law_text", "_law_at", "_law_chars"] (defScope s_law_run) := ⟨rfl, rfl, rfl, by decide +kernel, rfl, by decide +kernel, by decide +kernel⟩
theorem sc_law_item : FnScope ["_law_text", "_law_at", "_law_end", "_law_found"] ["_law_text", "_law_at"] (defScope s_law_item) := ⟨rfl, rfl, rfl, by decide +kernel, rfl, by decide +kernel, by decide +kernel⟩
theorem sc_law_list : FnScope ["_law_text", "_law_at", "_law_first", "_law_rest"] ["_law_text", "_law_at"] (defScope s_law_list) := ⟨rfl, rfl, rfl, by decide +kernel, rfl, by decide +kernel, by decide +kernel⟩
theorem sc_law_read : FnScope ["_law_text", "_law_lines", "_law_at", "_law_end", "_law_found", "_law_whole", "_law_line"] ["_law_text"] (defScope s_law_read) := ⟨rfl, rfl, rfl, by decide +kernel, rfl, by decide +kernel, by decide +kernel⟩
theorem sc_law_ways : FnScope ["_law_one", "_law_many", "_law_items_here", "_law_kid", "_law_rows", "_law_k", "_law_j"] ["_law_one"] (defScope s_law_ways) := ⟨rfl, rfl, rfl, by decide +kernel, rfl, by decide +kernel, by decide +kernel⟩
theorem sc_law_size : FnScope ["_law_one", "_law_kid"] ["_law_one"] (defScope s_law_size) := ⟨rfl, rfl, rfl, by decide +kernel, rfl, by decide +kernel, by decide +kernel⟩
theorem sc_law_nodes : FnScope ["_law_one", "_law_path", "_law_start", "_law_rows", "_law_at"] ["_law_one", "_law_path", "_law_start"] (defScope s_law_nodes) := ⟨rfl, rfl, rfl, by decide +kernel, rfl, by decide +kernel, by decide +kernel⟩
theorem sc_law_kept : FnScope ["_law_old", "_law_new", "_law_edit_here", "_law_behind", "_law_shift", "_law_rows", "_law_path", "_law_one", "_law_start", "_law_end", "_law_found", "_law_same_here", "_law_pair", "_law_row", "_law_first_here"] ["_law_old", "_law_new", "_law_edit_here"] (defScope s_law_kept) := ⟨rfl, rfl, rfl, by decide +kernel, rfl, by decide +kernel, by decide +kernel⟩
theorem sc_law_tree : FnScope ["_law_reading", "_law_number"] ["_law_reading", "_law_number"] (defScope s_law_tree) := ⟨rfl, rfl, rfl, by decide +kernel, rfl, by decide +kernel, by decide +kernel⟩
theorem sc_law_items : FnScope ["_law_draws_here", "_law_deep", "_law_rows", "_law_k", "_law_kind"] ["_law_draws_here", "_law_deep"] (defScope s_law_items) := ⟨rfl, rfl, rfl, by decide +kernel, rfl, by decide +kernel, by decide +kernel⟩
theorem sc_law_edit : FnScope ["_law_draws_here", "_law_text", "_law_at", "_law_gone", "_law_new", "_law_kind", "_law_spots", "_law_ends", "_law_k"] ["_law_draws_here", "_law_text"] (defScope s_law_edit) := ⟨rfl, rfl, rfl, by decide +kernel, rfl, by decide +kernel, by decide +kernel⟩
theorem sc_law : FnScope ["_law_script", "_law_draws_here", "_law_loose", "_law_grammar_here", "_law_text", "_law_k", "_law_reading", "_law_made", "_law_turn", "_law_due", "_law_many", "_law_edit_here", "_law_old", "_law_again", "_law_new"] ["_law_script"] (defScope s_law) := ⟨rfl, rfl, rfl, by decide +kernel, rfl, by decide +kernel, by decide +kernel⟩
structure TX (K : PySem.W.Frag) (mg : Str → Option Value) where
  C_ScribeError : Addr
  mC_ScribeError : mg "ScribeError" = some (.ref C_ScribeError)
  C_TreeError : Addr
  mC_TreeError : mg "TreeError" = some (.ref C_TreeError)
  C_EditError : Addr
  mC_EditError : mg "EditError" = some (.ref C_EditError)
  C_Spans : Addr
  mC_Spans : mg "Spans" = some (.ref C_Spans)
  cl_Spans : Cls K C_Spans
  n_Spans_grammar : NoAttr K C_Spans "grammar"
  n_Spans_text : NoAttr K C_Spans "text"
  n_Spans_empty : NoAttr K C_Spans "empty"
  n_Spans_by_name : NoAttr K C_Spans "by_name"
  n_Spans_rows : NoAttr K C_Spans "rows"
  n_Spans_states : NoAttr K C_Spans "states"
  n_Spans_there : NoAttr K C_Spans "there"
  n_Spans_waiting : NoAttr K C_Spans "waiting"
  n_Spans_made : NoAttr K C_Spans "made"
  C_Table : Addr
  mC_Table : mg "Table" = some (.ref C_Table)
  cl_Table : Cls K C_Table
  n_Table_grammar : NoAttr K C_Table "grammar"
  n_Table_filters : NoAttr K C_Table "filters"
  n_Table_spans : NoAttr K C_Table "spans"
  n_Table_rows : NoAttr K C_Table "rows"
  C_Reading : Addr
  mC_Reading : mg "Reading" = some (.ref C_Reading)
  cl_Reading : Cls K C_Reading
  n_Reading_grammar : NoAttr K C_Reading "grammar"
  n_Reading_filters : NoAttr K C_Reading "filters"
  n_Reading_text : NoAttr K C_Reading "text"
  n_Reading_spans : NoAttr K C_Reading "spans"
  n_Reading_made : NoAttr K C_Reading "made"
  f_check_edit : Addr
  d_check_edit : FuncData
  F_check_edit : Fun K "check_edit" "check_edit" s_check_edit f_check_edit d_check_edit
  b_check_edit : Binds K d_check_edit ["text", "edit"] []
  m_check_edit : mg "check_edit" = some (.ref f_check_edit)
  f_applied : Addr
  d_applied : FuncData
  F_applied : Fun K "applied" "applied" s_applied f_applied d_applied
  b_applied : Binds K d_applied ["text", "edit"] []
  m_applied : mg "applied" = some (.ref f_applied)
  f_nullable : Addr
  d_nullable : FuncData
  F_nullable : Fun K "nullable" "nullable" s_nullable f_nullable d_nullable
  b_nullable : Binds K d_nullable ["grammar"] []
  m_nullable : mg "nullable" = some (.ref f_nullable)
  f_Spans_init : Addr
  d_Spans_init : FuncData
  F_Spans_init : Fun K "__init__" "Spans.__init__" s_Spans_init f_Spans_init d_Spans_init
  b_Spans_init : Binds K d_Spans_init ["self", "grammar", "text"] []
  mk_Spans : Mk K C_Spans f_Spans_init
  f_Spans_add_item : Addr
  d_Spans_add_item : FuncData
  F_Spans_add_item : Fun K "add_item" "Spans.add_item" s_Spans_add_item f_Spans_add_item d_Spans_add_item
  b_Spans_add_item : Binds K d_Spans_add_item ["self", "at", "item"] []
  me_Spans_add_item : Meth K C_Spans "add_item" f_Spans_add_item
  f_Spans_predict : Addr
  d_Spans_predict : FuncData
  F_Spans_predict : Fun K "predict" "Spans.predict" s_Spans_predict f_Spans_predict d_Spans_predict
  b_Spans_predict : Binds K d_Spans_predict ["self", "at", "name"] []
  me_Spans_predict : Meth K C_Spans "predict" f_Spans_predict
  f_Spans_scan : Addr
  d_Spans_scan : FuncData
  F_Spans_scan : Fun K "scan" "Spans.scan" s_Spans_scan f_Spans_scan d_Spans_scan
  b_Spans_scan : Binds K d_Spans_scan ["self", "at", "item", "symbol"] []
  me_Spans_scan : Meth K C_Spans "scan" f_Spans_scan
  f_Spans_complete : Addr
  d_Spans_complete : FuncData
  F_Spans_complete : Fun K "complete" "Spans.complete" s_Spans_complete f_Spans_complete d_Spans_complete
  b_Spans_complete : Binds K d_Spans_complete ["self", "at", "item"] []
  me_Spans_complete : Meth K C_Spans "complete" f_Spans_complete
  f_Spans_wait : Addr
  d_Spans_wait : FuncData
  F_Spans_wait : Fun K "wait" "Spans.wait" s_Spans_wait f_Spans_wait d_Spans_wait
  b_Spans_wait : Binds K d_Spans_wait ["self", "at", "item", "name"] []
  me_Spans_wait : Meth K C_Spans "wait" f_Spans_wait
  f_Spans_fill : Addr
  d_Spans_fill : FuncData
  F_Spans_fill : Fun K "fill" "Spans.fill" s_Spans_fill f_Spans_fill d_Spans_fill
  b_Spans_fill : Binds K d_Spans_fill ["self", "at"] []
  me_Spans_fill : Meth K C_Spans "fill" f_Spans_fill
  f_Spans_take_over : Addr
  d_Spans_take_over : FuncData
  F_Spans_take_over : Fun K "take_over" "Spans.take_over" s_Spans_take_over f_Spans_take_over d_Spans_take_over
  b_Spans_take_over : Binds K d_Spans_take_over ["self", "other", "last"] []
  me_Spans_take_over : Meth K C_Spans "take_over" f_Spans_take_over
  f_Spans_ends : Addr
  d_Spans_ends : FuncData
  F_Spans_ends : Fun K "ends" "Spans.ends" s_Spans_ends f_Spans_ends d_Spans_ends
  b_Spans_ends : Binds K d_Spans_ends ["self", "symbol", "at"] []
  me_Spans_ends : Meth K C_Spans "ends" f_Spans_ends
  f_spans_of : Addr
  d_spans_of : FuncData
  F_spans_of : Fun K "spans_of" "spans_of" s_spans_of f_spans_of d_spans_of
  b_spans_of : Binds K d_spans_of ["grammar", "text"] []
  m_spans_of : mg "spans_of" = some (.ref f_spans_of)
  f_cuts_of : Addr
  d_cuts_of : FuncData
  F_cuts_of : Fun K "cuts_of" "cuts_of" s_cuts_of f_cuts_of d_cuts_of
  b_cuts_of : Binds K d_cuts_of ["spans", "symbols", "start", "end"] []
  m_cuts_of : mg "cuts_of" = some (.ref f_cuts_of)
  f_Table_init : Addr
  d_Table_init : FuncData
  F_Table_init : Fun K "__init__" "Table.__init__" s_Table_init f_Table_init d_Table_init
  b_Table_init : Binds K d_Table_init ["self", "grammar", "filters", "spans"] []
  mk_Table : Mk K C_Table f_Table_init
  f_Table_allowed : Addr
  d_Table_allowed : FuncData
  F_Table_allowed : Fun K "allowed" "Table.allowed" s_Table_allowed f_Table_allowed d_Table_allowed
  b_Table_allowed : Binds K d_Table_allowed ["self", "key"] []
  me_Table_allowed : Meth K C_Table "allowed" f_Table_allowed
  f_Table_kid_keys : Addr
  d_Table_kid_keys : FuncData
  F_Table_kid_keys : Fun K "kid_keys" "Table.kid_keys" s_Table_kid_keys f_Table_kid_keys d_Table_kid_keys
  b_Table_kid_keys : Binds K d_Table_kid_keys ["self", "k", "cuts"] []
  me_Table_kid_keys : Meth K C_Table "kid_keys" f_Table_kid_keys
  f_Table_alternatives : Addr
  d_Table_alternatives : FuncData
  F_Table_alternatives : Fun K "alternatives" "Table.alternatives" s_Table_alternatives f_Table_alternatives d_Table_alternatives
  b_Table_alternatives : Binds K d_Table_alternatives ["self", "key"] []
  me_Table_alternatives : Meth K C_Table "alternatives" f_Table_alternatives
  f_table_of : Addr
  d_table_of : FuncData
  F_table_of : Fun K "table_of" "table_of" s_table_of f_table_of d_table_of
  b_table_of : Binds K d_table_of ["grammar", "filters", "spans"] []
  m_table_of : mg "table_of" = some (.ref f_table_of)
  f_counted : Addr
  d_counted : FuncData
  F_counted : Fun K "counted" "counted" s_counted f_counted d_counted
  b_counted : Binds K d_counted ["table", "key", "known"] []
  m_counted : mg "counted" = some (.ref f_counted)
  f_count : Addr
  d_count : FuncData
  F_count : Fun K "count" "count" s_count f_count d_count
  b_count : Binds K d_count ["grammar", "filters", "text"] []
  m_count : mg "count" = some (.ref f_count)
  f_built : Addr
  d_built : FuncData
  F_built : Fun K "built" "built" s_built f_built d_built
  b_built : Binds K d_built ["table", "key", "number", "known"] []
  m_built : mg "built" = some (.ref f_built)
  f_tree : Addr
  d_tree : FuncData
  F_tree : Fun K "tree" "tree" s_tree f_tree d_tree
  b_tree : Binds K d_tree ["grammar", "filters", "text", "number"] []
  m_tree : mg "tree" = some (.ref f_tree)
  f_nodes : Addr
  d_nodes : FuncData
  F_nodes : Fun K "nodes" "nodes" s_nodes f_nodes d_nodes
  b_nodes : Binds K d_nodes ["tree"] []
  m_nodes : mg "nodes" = some (.ref f_nodes)
  f_add_rows : Addr
  d_add_rows : FuncData
  F_add_rows : Fun K "add_rows" "add_rows" s_add_rows f_add_rows d_add_rows
  b_add_rows : Binds K d_add_rows ["rows", "tree", "path", "start"] []
  m_add_rows : mg "add_rows" = some (.ref f_add_rows)
  f_subtree : Addr
  d_subtree : FuncData
  F_subtree : Fun K "subtree" "subtree" s_subtree f_subtree d_subtree
  b_subtree : Binds K d_subtree ["tree", "path"] []
  m_subtree : mg "subtree" = some (.ref f_subtree)
  f_Reading_init : Addr
  d_Reading_init : FuncData
  F_Reading_init : Fun K "__init__" "Reading.__init__" s_Reading_init f_Reading_init d_Reading_init
  b_Reading_init : Binds K d_Reading_init ["self", "grammar", "filters", "spans"] []
  mk_Reading : Mk K C_Reading f_Reading_init
  f_Reading_tree : Addr
  d_Reading_tree : FuncData
  F_Reading_tree : Fun K "tree" "Reading.tree" s_Reading_tree f_Reading_tree d_Reading_tree
  b_Reading_tree : Binds K d_Reading_tree ["self", "number"] []
  me_Reading_tree : Meth K C_Reading "tree" f_Reading_tree
  f_read : Addr
  d_read : FuncData
  F_read : Fun K "read" "read" s_read f_read d_read
  b_read : Binds K d_read ["grammar", "filters", "text"] []
  m_read : mg "read" = some (.ref f_read)
  f_read_again : Addr
  d_read_again : FuncData
  F_read_again : Fun K "read_again" "read_again" s_read_again f_read_again d_read_again
  b_read_again : Binds K d_read_again ["reading", "edit"] []
  m_read_again : mg "read_again" = some (.ref f_read_again)
  f_kept : Addr
  d_kept : FuncData
  F_kept : Fun K "kept" "kept" s_kept f_kept d_kept
  b_kept : Binds K d_kept ["old", "new", "edit"] []
  m_kept : mg "kept" = some (.ref f_kept)
  f_law_draws : Addr
  d_law_draws : FuncData
  F_law_draws : Fun K "_law_draws" "_law_draws" s_law_draws f_law_draws d_law_draws
  b_law_draws : Binds K d_law_draws ["_law_script"] []
  m_law_draws : mg "_law_draws" = some (.ref f_law_draws)
  f_law_draw : Addr
  d_law_draw : FuncData
  F_law_draw : Fun K "_law_draw" "_law_draw" s_law_draw f_law_draw d_law_draw
  b_law_draw : Binds K d_law_draw ["_law_draws_here", "_law_limit"] []
  m_law_draw : mg "_law_draw" = some (.ref f_law_draw)
  f_law_same : Addr
  d_law_same : FuncData
  F_law_same : Fun K "_law_same" "_law_same" s_law_same f_law_same d_law_same
  b_law_same : Binds K d_law_same ["_law_actual", "_law_expected"] []
  m_law_same : mg "_law_same" = some (.ref f_law_same)
  f_law_grammar : Addr
  d_law_grammar : FuncData
  F_law_grammar : Fun K "_law_grammar" "_law_grammar" s_law_grammar f_law_grammar d_law_grammar
  b_law_grammar : Binds K d_law_grammar ["_law_loose"] []
  m_law_grammar : mg "_law_grammar" = some (.ref f_law_grammar)
  f_law_run : Addr
  d_law_run : FuncData
  F_law_run : Fun K "_law_run" "_law_run" s_law_run f_law_run d_law_run
  b_law_run : Binds K d_law_run ["_law_text", "_law_at", "_law_chars"] []
  m_law_run : mg "_law_run" = some (.ref f_law_run)
  f_law_item : Addr
  d_law_item : FuncData
  F_law_item : Fun K "_law_item" "_law_item" s_law_item f_law_item d_law_item
  b_law_item : Binds K d_law_item ["_law_text", "_law_at"] []
  m_law_item : mg "_law_item" = some (.ref f_law_item)
  f_law_list : Addr
  d_law_list : FuncData
  F_law_list : Fun K "_law_list" "_law_list" s_law_list f_law_list d_law_list
  b_law_list : Binds K d_law_list ["_law_text", "_law_at"] []
  m_law_list : mg "_law_list" = some (.ref f_law_list)
  f_law_read : Addr
  d_law_read : FuncData
  F_law_read : Fun K "_law_read" "_law_read" s_law_read f_law_read d_law_read
  b_law_read : Binds K d_law_read ["_law_text"] []
  m_law_read : mg "_law_read" = some (.ref f_law_read)
  f_law_ways : Addr
  d_law_ways : FuncData
  F_law_ways : Fun K "_law_ways" "_law_ways" s_law_ways f_law_ways d_law_ways
  b_law_ways : Binds K d_law_ways ["_law_one"] []
  m_law_ways : mg "_law_ways" = some (.ref f_law_ways)
  f_law_size : Addr
  d_law_size : FuncData
  F_law_size : Fun K "_law_size" "_law_size" s_law_size f_law_size d_law_size
  b_law_size : Binds K d_law_size ["_law_one"] []
  m_law_size : mg "_law_size" = some (.ref f_law_size)
  f_law_nodes : Addr
  d_law_nodes : FuncData
  F_law_nodes : Fun K "_law_nodes" "_law_nodes" s_law_nodes f_law_nodes d_law_nodes
  b_law_nodes : Binds K d_law_nodes ["_law_one", "_law_path", "_law_start"] []
  m_law_nodes : mg "_law_nodes" = some (.ref f_law_nodes)
  f_law_kept : Addr
  d_law_kept : FuncData
  F_law_kept : Fun K "_law_kept" "_law_kept" s_law_kept f_law_kept d_law_kept
  b_law_kept : Binds K d_law_kept ["_law_old", "_law_new", "_law_edit_here"] []
  m_law_kept : mg "_law_kept" = some (.ref f_law_kept)
  f_law_tree : Addr
  d_law_tree : FuncData
  F_law_tree : Fun K "_law_tree" "_law_tree" s_law_tree f_law_tree d_law_tree
  b_law_tree : Binds K d_law_tree ["_law_reading", "_law_number"] []
  m_law_tree : mg "_law_tree" = some (.ref f_law_tree)
  f_law_items : Addr
  d_law_items : FuncData
  F_law_items : Fun K "_law_items" "_law_items" s_law_items f_law_items d_law_items
  b_law_items : Binds K d_law_items ["_law_draws_here", "_law_deep"] []
  m_law_items : mg "_law_items" = some (.ref f_law_items)
  f_law_edit : Addr
  d_law_edit : FuncData
  F_law_edit : Fun K "_law_edit" "_law_edit" s_law_edit f_law_edit d_law_edit
  b_law_edit : Binds K d_law_edit ["_law_draws_here", "_law_text"] []
  m_law_edit : mg "_law_edit" = some (.ref f_law_edit)
  f_law : Addr
  d_law : FuncData
  F_law : Fun K "law" "law" s_law f_law d_law
  b_law : Binds K d_law ["_law_script"] []
  m_law : mg "law" = some (.ref f_law)
  z_len : mg "len" = none
  z_sorted : mg "sorted" = none
  z_all : mg "all" = none
  z_any : mg "any" = none
  z_sum : mg "sum" = none
  z_min : mg "min" = none
  z_isinstance : mg "isinstance" = none
  z_enumerate : mg "enumerate" = none
  z_range : mg "range" = none
  z_list : mg "list" = none
  z_int : mg "int" = none
  z_tuple : mg "tuple" = none
  z_set : mg "set" = none
  z_str : mg "str" = none
  z_bool : mg "bool" = none
end K38
namespace K38
open PySem L2
/-! ### stepping through readings -/
section
variable {K : PySem.W.Frag} {σ : L2.St} {H H1 : Hp} {Q : VK} {v x y : V} {ta tb te : TE} {D : Ends}
theorem x_var {i : Nat} (h : σ[i]? = some (some v)) (q : Q v H) : tVar i σ H Q := ⟨v, h, q⟩
theorem x_c (q : Q v H) : tC v σ H Q := q
theorem x_op {r : R2} (h : ta σ H fun x H1 => tb σ H1 fun y H2 => r x y H2 Q) : tOp r ta tb σ H Q := h
theorem x_un {r : V → Hp → VK → Prop} (h : ta σ H fun x H1 => r x H1 Q) : tUn r ta σ H Q := h
theorem x_I0 {g : Int → Int → V} {i j : Int} (q : Q (g i j) H) : rI0 g (.int i) (.int j) H Q := ⟨i, j, rfl, rfl, q⟩
theorem x_I {C : Int → Int → Prop} {g : Int → Int → V} {i j : Int} (c : C i j) (q : Q (g i j) H) : rI C g (.int i) (.int j) H Q := ⟨i, j, rfl, rfl, c, q⟩
theorem x_U {g : Int → V} {i : Int} (q : Q (g i) H) : rU g (.int i) H Q := ⟨i, rfl, q⟩
theorem x_eqI {i j : Int} (q : Q (.bl (decide (i = j))) H) : rEq (.int i) (.int j) H Q := ⟨rfl, by
  have e : decide (V.int i = V.int j) = decide (i = j) := by
    by_cases h : i = j
    · subst h; simp
    · have : ¬ V.int i = V.int j := fun z => h (V.int.inj z)
      simp [h]
  rw [e]; exact q⟩
theorem x_neI {i j : Int} (q : Q (.bl (!decide (i = j))) H) : rNe (.int i) (.int j) H Q := ⟨rfl, by
  have e : decide (V.int i = V.int j) = decide (i = j) := by
    by_cases h : i = j
    · subst h; simp
    · have : ¬ V.int i = V.int j := fun z => h (V.int.inj z)
      simp [h]
  rw [e]; exact q⟩
theorem x_eqS {i j : Str} (q : Q (.bl (decide (i = j))) H) : rEq (.str i) (.str j) H Q := ⟨rfl, by
  have e : decide (V.str i = V.str j) = decide (i = j) := by
    by_cases h : i = j
    · subst h; simp
    · have : ¬ V.str i = V.str j := fun z => h (V.str.inj z)
      simp [h]
  rw [e]; exact q⟩
theorem x_neS {i j : Str} (q : Q (.bl (!decide (i = j))) H) : rNe (.str i) (.str j) H Q := ⟨rfl, by
  have e : decide (V.str i = V.str j) = decide (i = j) := by
    by_cases h : i = j
    · subst h; simp
    · have : ¬ V.str i = V.str j := fun z => h (V.str.inj z)
      simp [h]
  rw [e]; exact q⟩
theorem x_eqB {i j : Bool} (q : Q (.bl (decide (i = j))) H) : rEq (.bl i) (.bl j) H Q := ⟨rfl, by
  have e : decide (V.bl i = V.bl j) = decide (i = j) := by cases i <;> cases j <;> rfl
  rw [e]; exact q⟩
theorem x_neB {i j : Bool} (q : Q (.bl (!decide (i = j))) H) : rNe (.bl i) (.bl j) H Q := ⟨rfl, by
  have e : decide (V.bl i = V.bl j) = decide (i = j) := by cases i <;> cases j <;> rfl
  rw [e]; exact q⟩
/-- an item of a list, of a tuple -/
theorem x_ixL {p : Addr} {xs : List V} {i : Int} (h : H p = some (.lst xs)) (e : atI xs i = some v) (q : Q v H) : rIxL K (.ref p) (.int i) H Q := ⟨p, xs, i, v, rfl, rfl, SqL.of h, e, q⟩
theorem x_ixT {p : Addr} {xs : List V} {i : Int} (h : H p = some (.tup xs)) (e : atI xs i = some v) (q : Q v H) : rIxT K (.ref p) (.int i) H Q := ⟨p, xs, i, v, rfl, rfl, SqT.of h, e, q⟩
theorem x_ixS {z : Str} {i : Int} {c : Nat} (h : z.length ≤ sizeLine) (e : atI z.cps.toList i = some c) (q : Q (.str ⟨#[c]⟩) H) : rIxS (.str z) (.int i) H Q := ⟨z, i, c, rfl, rfl, h, e, q⟩
/-- fields -/
def rFld (K : PySem.W.Frag) (f : Str) (x : V) (H : Hp) (Q : VK) : Prop := ∃ a C dx fs v, x = .ref a ∧ H a = some (.ins C dx fs) ∧ Cls K C ∧ NoAttr K C f ∧ fs.lookup f = some v ∧ Q v H
theorem x_fld {f : Str} (h : ta σ H fun x H1 => rFld K f x H1 Q) : tFld K ta f σ H Q := h
theorem x_fldR {f : Str} {a C dx : Addr} {fs : List (Str × V)} (h : H a = some (.ins C dx fs)) (c : Cls K C) (n : NoAttr K C f) (l : fs.lookup f = some v) (q : Q v H) : rFld K f (.ref a) H Q := ⟨a, C, dx, fs, v, rfl, h, c, n, l, q⟩
def rSetF (K : PySem.W.Frag) (f : Str) (y : V) (D : Ends) (σ : L2.St) (x : V) (H2 : Hp) : Prop := ∃ a C dx fs, x = .ref a ∧ H2 a = some (.ins C dx fs) ∧ Cls K C ∧ NoAttr K C f ∧ fs.length < 1000 ∧ D.nx σ (upd H2 a (.ins C dx (putF f y fs)))
theorem x_setF {f : Str} {tv : TE} (h : tv σ H fun y H1 => ta σ H1 fun x H2 => rSetF K f y D σ x H2) : sFld K ta tv f D σ H := h
theorem x_setFR {f : Str} {a C dx : Addr} {fs : List (Str × V)} (h : H a = some (.ins C dx fs)) (c : Cls K C) (n : NoAttr K C f) (l : fs.length < 1000) (q : D.nx σ (upd H a (.ins C dx (putF f y fs)))) : rSetF K f y D σ (.ref a) H := ⟨a, C, dx, fs, rfl, h, c, n, l, q⟩
/-- tests -/
def rBl (x : V) (H : Hp) (Q : Bool → Hp → Prop) : Prop := ∃ k, x = .bl k ∧ Q k H
theorem x_bl {b : Bool} {R : Bool → Hp → Prop} (q : R b H) : rBl (.bl b) H R := ⟨b, rfl, q⟩
theorem x_test {R : Bool → Hp → Prop} {t : TE} (h : t σ H fun x H' => rBl x H' R) : tTest t σ H R := h
theorem x_B {R : Bool → Hp → Prop} {t : TE} (h : t σ H fun x H' => rBl x H' R) : tB t σ H R := h
theorem x_and {R : Bool → Hp → Prop} {t u : TT} (h : t σ H fun c H1 => if c = true then u σ H1 R else R false H1) : tAnd t u σ H R := h
theorem x_or {R : Bool → Hp → Prop} {t u : TT} (h : t σ H fun c H1 => if c = true then R true H1 else u σ H1 R) : tOr t u σ H R := h
theorem x_not {R : Bool → Hp → Prop} {t : TT} (h : t σ H fun c H1 => R (!c) H1) : tNot t σ H R := h
theorem x_ifE {t : TT} (h : t σ H fun c H1 => if c = true then ta σ H1 Q else tb σ H1 Q) : tIf t ta tb σ H Q := h
def rBlV (x : V) (H : Hp) (P : Bool → Prop) : Prop := ∃ c, x = .bl c ∧ P c
theorem x_blV {b : Bool} {P : Bool → Prop} (q : P b) : rBlV (.bl b) H P := ⟨b, rfl, q⟩
theorem x_andV (h : ta σ H fun x H1 => rBlV x H1 fun c => if c = true then tb σ H1 Q else Q (.bl false) H1) : tAndV ta tb σ H Q := h
theorem x_orV (h : ta σ H fun x H1 => rBlV x H1 fun c => if c = true then Q (.bl true) H1 else tb σ H1 Q) : tOrV ta tb σ H Q := h
theorem x_notV (h : ta σ H fun x H1 => rBlV x H1 fun c => Q (.bl (!c)) H1) : tNotV ta σ H Q := h
/-- statements -/
theorem x_seq {t u : TS} (h : t { D with nx := u D } σ H) : tSeq t u D σ H := h
theorem x_asg {g : TG} (h : te σ H fun x H1 => g x σ H1 D.nx) : tAsg te g D σ H := h
theorem x_name {i : Nat} {R : L2.St → Hp → Prop} (h : R (σ.set i (some v)) H) : gName i v σ H R := h
theorem x_if {c : TT} {t u : TS} (h : c σ H fun b H1 => if b = true then t D σ H1 else u D σ H1) : tIfS c t u D σ H := h
theorem x_next (h : D.nx σ H) : tNext D σ H := h
theorem x_ret (h : te σ H D.rt) : tRet te D σ H := h
theorem x_retN (h : D.rt .non H) : tRetN D σ H := h
theorem x_cont (h : D.ct σ H) : tCont D σ H := h
theorem x_brk (h : D.bk σ H) : tBreak D σ H := h
theorem x_drop (h : te σ H fun _ H1 => D.nx σ H1) : tDrop te D σ H := h
/-- arguments -/
theorem x_nil {R : List V → Hp → Prop} (h : R [] H) : tNil σ H R := h
theorem x_cons {R : List V → Hp → Prop} {t : TA} (h : te σ H fun x H1 => t σ H1 fun xs H2 => R (x :: xs) H2) : tCons te t σ H R := h
theorem x_cb {r : List V → Hp → VK → Prop} {t : TA} (h : t σ H fun vs H1 => r vs H1 Q) : tCB r t σ H Q := h
theorem x_call {sp : Sp} {dvs : List V} {E : XK} {t : TA} (h : t σ H fun vs H1 => sp (vs ++ dvs) H1 Q E) : tCall sp dvs E t σ H Q := h
def rMeth (C : Addr) (m : Str) (sp : Sp) (dvs : List V) (E : XK) (t : TA) (σ : L2.St) (Q : VK) (x : V) (H1 : Hp) : Prop := ∃ a dx fs, x = .ref a ∧ H1 a = some (.ins C dx fs) ∧ fs.lookup m = none ∧ t σ H1 fun vs H2 => sp (x :: (vs ++ dvs)) H2 Q E
theorem x_meth {C : Addr} {m : Str} {sp : Sp} {dvs : List V} {E : XK} {t : TA} (h : ta σ H fun x H1 => rMeth C m sp dvs E t σ Q x H1) : tMeth C m sp dvs E ta t σ H Q := h
theorem x_methR {C a dx : Addr} {fs : List (Str × V)} {m : Str} {sp : Sp} {dvs : List V} {E : XK} {t : TA} (h : H a = some (.ins C dx fs)) (l : fs.lookup m = none) (q : t σ H fun vs H2 => sp (.ref a :: (vs ++ dvs)) H2 Q E) : rMeth C m sp dvs E t σ Q (.ref a) H := ⟨a, dx, fs, rfl, h, l, q⟩
def rBM (K : PySem.W.Frag) (T : String) (r : V → List V → Hp → VK → Prop) (t : TA) (σ : L2.St) (Q : VK) (x : V) (H1 : Hp) : Prop := tyV K T x H1 ∧ t σ H1 fun xs H2 => r x xs H2 Q
theorem x_bm {T : String} {r : V → List V → Hp → VK → Prop} {t : TA} (h : ta σ H fun x H1 => rBM K T r t σ Q x H1) : tBM K T r ta t σ H Q := h
theorem x_bmL {r : V → List V → Hp → VK → Prop} {t : TA} {p : Addr} {xs : List V} (h : H p = some (.lst xs)) (q : t σ H fun ys H2 => r (.ref p) ys H2 Q) : rBM K "list" r t σ Q (.ref p) H := ⟨.inl ⟨rfl, _, SqL.of h⟩, q⟩
theorem x_bmS {r : V → List V → Hp → VK → Prop} {t : TA} {z : Str} (q : t σ H fun ys H2 => r (.str z) ys H2 Q) : rBM K "str" r t σ Q (.str z) H := ⟨rfl, q⟩
theorem x_append {l : Addr} {xs : List V} (h : H l = some (.lst xs)) (n : xs.length < sizeLine) (q : Q .non (upd H l (.lst (xs ++ [y])))) : rAppend (.ref l) [y] H Q := ⟨l, xs, y, rfl, rfl, h, n, q⟩
theorem x_tup {t : TA} (h : t σ H fun xs H1 => xs.length ≤ sizeLine ∧ ∀ p, H1 p = none → Q (.ref p) (upd H1 p (.tup xs))) : tTup t σ H Q := h
theorem x_lst {t : TA} (h : t σ H fun xs H1 => xs.length ≤ sizeLine ∧ ∀ p, H1 p = none → Q (.ref p) (upd H1 p (.lst xs))) : tLst t σ H Q := h
/-- slices -/
theorem x_sl {r : V → Option Int → Option Int → Hp → VK → Prop} {tl th : TO} (h : te σ H fun x H1 => tl σ H1 fun l H2 => th σ H2 fun u H3 => r x l u H3 Q) : tSl r te tl th σ H Q := h
def rPart (x : V) (H : Hp) (R : Option Int → Hp → Prop) : Prop := ∃ i, x = .int i ∧ R (some i) H
theorem x_part {R : Option Int → Hp → Prop} (h : te σ H fun x H1 => rPart x H1 R) : tPart te σ H R := h
theorem x_partR {i : Int} {R : Option Int → Hp → Prop} (q : R (some i) H) : rPart (.int i) H R := ⟨i, rfl, q⟩
theorem x_nopart {R : Option Int → Hp → Prop} (q : R none H) : tNoPart σ H R := q
end
/-! ### the heap, looked up -/
theorem look1 {H : Hp} {l p : Addr} {o u : HO} (hp : H p = some o) (hl : H l = none) : upd H l u p = some o := by rw [upd_ne (ne_of_none hp hl)]; exact hp
theorem look2 {H : Hp} {l p : Addr} {o u w : HO} (hp : H p = some o) (hl : H l = some w) (d : o ≠ w) : upd H l u p = some o := by rw [upd_ne (ne_of hp hl d)]; exact hp
theorem new1 {H : Hp} {l p : Addr} {u : HO} (hp : H p = none) (h : p ≠ l) : upd H l u p = none := by rw [upd_ne h]; exact hp
theorem free1 {H : Hp} {l p : Addr} {u : HO} (h : upd H l u p = none) : H p = none ∧ p ≠ l := by
  by_cases e : p = l
  · subst e; rw [upd_same] at h; cases h
  · rw [upd_ne e] at h; exact ⟨h, e⟩
theorem Same.new {H : Hp} {l : Addr} {o : HO} (hl : H l = none) : Same H (upd H l o) := fun b u e => by rw [upd_ne (ne_of_none e hl)]; exact e
theorem _root_.L2.Same.mut {H0 H : Hp} {l : Addr} {o : HO} (s : Same H0 H) (hl : H0 l = none) : Same H0 (upd H l o) := fun b u e => by rw [upd_ne (ne_of_none e hl)]; exact s b u e
theorem Same.seqT {K : PySem.W.Frag} {H H' : Hp} {a : Addr} {xs : List V} (e : Same H H') (h : SqT K H a xs) : SqT K H' a xs := by
  rcases h with (h | ⟨o, h⟩) | h
  · exact .inl (.inl (e _ _ h))
  · exact .inl (.inr ⟨o, e _ _ h⟩)
  · exact .inr h
theorem pe_never {X : Cx} {e : Expr} : PE X e (fun _ _ _ => False) := ⟨fun _ _ _ _ _ _ h => h.elim⟩
theorem small_ {n : Nat} (h : n ≤ 100000) : n < sizeLine := Nat.lt_of_le_of_lt h (by decide)
theorem small__ {n : Nat} (h : n ≤ 100000) : n ≤ sizeLine := Nat.le_of_lt (small_ h)
theorem at0 {a : V} {r : List V} : atI (a :: r) 0 = some a := atI_nat (j := 0) rfl
/-! ### dicts -/
section
variable {K : PySem.W.Frag} {σ : L2.St} {H H1 : Hp} {Q : VK} {v x y : V} {ta tb te td ty tv : TE} {D : Ends}
def rDN (x y : V) (H : Hp) (Q : VK) : Prop := ∃ a o, x = .ref a ∧ DGet H a y o ∧ Q (.bl (!o.isSome)) H
def rDI (x y : V) (H : Hp) (Q : VK) : Prop := ∃ a o, x = .ref a ∧ DGet H a y o ∧ Q (.bl o.isSome) H
def rDG (x y : V) (H : Hp) (Q : VK) : Prop := ∃ a v, x = .ref a ∧ DGet H a y (some v) ∧ Q v H
def rDP (D : Ends) (σ : L2.St) (v x y : V) (H : Hp) : Prop := ∃ a H4, x = .ref a ∧ DPut H a y v H4 ∧ D.nx σ H4
theorem x_dn (h : ty σ H fun y H1 => td σ H1 fun x H2 => rDN x y H2 Q) : tDNotIn ty td σ H Q := h
theorem x_di (h : ty σ H fun y H1 => td σ H1 fun x H2 => rDI x y H2 Q) : tDIn ty td σ H Q := h
theorem x_dg (h : td σ H fun x H1 => ty σ H1 fun y H2 => rDG x y H2 Q) : tDGet td ty σ H Q := h
theorem x_dp (h : tv σ H fun v H1 => td σ H1 fun x H2 => ty σ H2 fun y H3 => rDP D σ v x y H3) : sDPut td ty tv D σ H := h
theorem x_dnT {a b : Addr} {kvs : List (List Key × V)} {k : List Key} (h : H a = some (.dT kvs)) (hb : H b = some (.tup (k.map kV))) (q : Q (.bl (!(valV kvs k).isSome)) H) : rDN (.ref a) (.ref b) H Q := ⟨a, _, rfl, DGet.t h hb, q⟩
theorem x_dnK {a : Addr} {kvs : List (Key × V)} {s : Str} (h : H a = some (.dK kvs)) (q : Q (.bl (!(valV kvs (.inr s)).isSome)) H) : rDN (.ref a) (.str s) H Q := ⟨a, _, rfl, DGet.k (k := .inr s) h, q⟩
theorem x_diK {a : Addr} {kvs : List (Key × V)} {s : Str} (h : H a = some (.dK kvs)) (q : Q (.bl (valV kvs (.inr s)).isSome) H) : rDI (.ref a) (.str s) H Q := ⟨a, _, rfl, DGet.k (k := .inr s) h, q⟩
theorem x_dgK {a : Addr} {kvs : List (Key × V)} {s : Str} (h : H a = some (.dK kvs)) (e : valV kvs (.inr s) = some v) (q : Q v H) : rDG (.ref a) (.str s) H Q := ⟨a, v, rfl, by rw [← e]; exact DGet.k (k := .inr s) h, q⟩
theorem x_dpT {a b : Addr} {kvs : List (List Key × V)} {k : List Key} (h : H a = some (.dT kvs)) (hb : H b = some (.tup (k.map kV))) (l : kvs.length < sizeLine) (q : D.nx σ (upd H a (.dT (putK kvs k v)))) : rDP D σ v (.ref a) (.ref b) H := ⟨a, _, rfl, DPut.t h hb l, q⟩
theorem x_dpK {a : Addr} {kvs : List (Key × V)} {s : Str} (h : H a = some (.dK kvs)) (l : kvs.length < sizeLine) (q : D.nx σ (upd H a (.dK (putK kvs (.inr s) v)))) : rDP D σ v (.ref a) (.str s) H := ⟨a, _, rfl, DPut.k (k := .inr s) h l, q⟩
/-- d.get(y, z) -/
def rD2a (ty tx : TE) (σ : L2.St) (Q : VK) (x : V) (H1 : Hp) : Prop := ∃ a, x = .ref a ∧ IsD H1 a ∧ ty σ H1 fun y H2 => tx σ H2 fun z H3 => ∃ o, DGet H3 a y o ∧ Q (o.getD z) H3
def rD2b (a : Addr) (Q : VK) (y z : V) (H3 : Hp) : Prop := ∃ o, DGet H3 a y o ∧ Q (o.getD z) H3
theorem x_d2 {tx : TE} (h : td σ H fun x H1 => rD2a ty tx σ Q x H1) : tDGet2 td ty tx σ H Q := h
theorem x_d2K {tx : TE} {a : Addr} {kvs : List (Key × V)} (h : H a = some (.dK kvs)) (q : ty σ H fun y H2 => tx σ H2 fun z H3 => rD2b a Q y z H3) : rD2a ty tx σ Q (.ref a) H := ⟨a, rfl, .inl ⟨kvs, .inl h⟩, q⟩
theorem x_d2T {tx : TE} {a : Addr} {kvs : List (List Key × V)} (h : H a = some (.dT kvs)) (q : ty σ H fun y H2 => tx σ H2 fun z H3 => rD2b a Q y z H3) : rD2a ty tx σ Q (.ref a) H := ⟨a, rfl, .inr ⟨kvs, .inl h⟩, q⟩
theorem x_d2bK {a : Addr} {kvs : List (Key × V)} {s : Str} (h : H a = some (.dK kvs)) (q : Q ((valV kvs (.inr s)).getD y) H) : rD2b a Q (.str s) y H := ⟨_, DGet.k (k := .inr s) h, q⟩
theorem x_d2bT {a b : Addr} {kvs : List (List Key × V)} {k : List Key} (h : H a = some (.dT kvs)) (hb : H b = some (.tup (k.map kV))) (q : Q ((valV kvs k).getD y) H) : rD2b a Q (.ref b) y H := ⟨_, DGet.t h hb, q⟩
/-- d.setdefault(y, z) -/
def rDSa (ty tx : TE) (σ : L2.St) (Q : VK) (x : V) (H1 : Hp) : Prop := ∃ a, x = .ref a ∧ IsD H1 a ∧ ty σ H1 fun y H2 => tx σ H2 fun z H3 => ∃ (kvs : List (Key × V)) (k : Key), H3 a = some (.dK kvs) ∧ y = kV k ∧ kvs.length < sizeLine ∧ (∀ v, valV kvs k = some v → Q v H3) ∧ (valV kvs k = none → Q z (upd H3 a (.dK (putK kvs k z))))
def rDSb (a : Addr) (Q : VK) (y z : V) (H3 : Hp) : Prop := ∃ (kvs : List (Key × V)) (k : Key), H3 a = some (.dK kvs) ∧ y = kV k ∧ kvs.length < sizeLine ∧ (∀ v, valV kvs k = some v → Q v H3) ∧ (valV kvs k = none → Q z (upd H3 a (.dK (putK kvs k z))))
theorem x_ds {tx : TE} (h : td σ H fun x H1 => rDSa ty tx σ Q x H1) : tDSetd td ty tx σ H Q := h
theorem x_dsK {tx : TE} {a : Addr} {kvs : List (Key × V)} (h : H a = some (.dK kvs)) (q : ty σ H fun y H2 => tx σ H2 fun z H3 => rDSb a Q y z H3) : rDSa ty tx σ Q (.ref a) H := ⟨a, rfl, .inl ⟨kvs, .inl h⟩, q⟩
theorem x_dsbK {a : Addr} {kvs : List (Key × V)} {s : Str} (h : H a = some (.dK kvs)) (l : kvs.length < sizeLine) (q1 : ∀ v, valV kvs (.inr s) = some v → Q v H) (q2 : valV kvs (.inr s) = none → Q y (upd H a (.dK (putK kvs (.inr s) y)))) : rDSb a Q (.str s) y H := ⟨kvs, .inr s, h, rfl, l, q1, q2⟩
/-- a tuple's items to names -/
def rTup (K : PySem.W.Frag) (n : Nat) (t : TGs) (v : V) (σ : L2.St) (H : Hp) (Q : L2.St → Hp → Prop) : Prop := ∃ a xs, v = .ref a ∧ SqT K H a xs ∧ xs.length = n ∧ t xs σ H Q
theorem x_gtup {n : Nat} {t : TGs} {a : Addr} {xs : List V} {R : L2.St → Hp → Prop} (h : H a = some (.tup xs)) (e : xs.length = n) (q : t xs σ H R) : gTup K n t (.ref a) σ H R := ⟨a, xs, rfl, SqT.of h, e, q⟩
theorem x_gcons {t : TG} {u : TGs} {r : List V} {R : L2.St → Hp → Prop} (h : t v σ H fun σ' H' => u r σ' H' R) : gCons t u (v :: r) σ H R := ⟨v, r, rfl, h⟩
theorem x_gnil {R : L2.St → Hp → Prop} (h : R σ H) : gNil [] σ H R := ⟨rfl, h⟩
/-- in a list -/
theorem x_in {neg : Bool} {p : Addr} {xs : List V} (h : H p = some (.lst xs)) (f : flatV x = true) (fs : xs.all flatV = true) (q : Q (.bl (if neg then !inV x xs else inV x xs)) H) : rIn K neg x (.ref p) H Q := ⟨p, xs, rfl, .inl (SqL.of h), f, fs, q⟩
end
theorem iteY {c A B : Prop} [Decidable c] (hc : c) (h : A) : if decide c = true then A else B := by rw [if_pos (decide_eq_true hc)]; exact h
theorem iteN {c A B : Prop} [Decidable c] (hc : ¬ c) (h : B) : if decide c = true then A else B := by rw [if_neg (by simpa using hc)]; exact h
theorem iteNY {c A B : Prop} [Decidable c] (hc : ¬ c) (h : A) : if (!decide c) = true then A else B := by rw [decide_eq_false hc]; exact iteT h
theorem iteB {b : Bool} {A B : Prop} (h1 : b = true → A) (h2 : b = false → B) : if b = true then A else B := by
  cases b
  · exact iteF (h2 rfl)
  · exact iteT (h1 rfl)
theorem atI_range {f : Nat → V} {n m : Nat} (h : m ≤ n) : atI ((List.range (n + 1)).map f) (m : Int) = some (f m) := atI_nat (by rw [List.getElem?_map, List.getElem?_range (by omega)]; rfl)
/-! ### loops -/
section
variable {K : PySem.W.Frag} {σ : L2.St} {H H1 : Hp} {tl : TE} {g : TG} {tb : TS} {D : Ends}
def rFor (J : It) (g : TG) (tb : TS) (D : Ends) (σ : L2.St) (H1 : Hp) : Prop := ∃ W : Nat → Nat → L2.St → Hp → Prop, (∃ m, W 0 m σ H1) ∧ ∀ i m σ H, W i m σ H →
  (J.stop i H ∧ D.nx σ H) ∨ (J.go i H ∧ ∃ N : L2.St → Hp → Prop, (∀ σ' H', N σ' H' → ∃ m', m' < m ∧ W (i + 1) m' σ' H') ∧ ∀ x H', J.yld i H x H' → g x σ H' fun σ2 H2 => tb { D with nx := N, ct := N, bk := D.nx } σ2 H2)
def rForL (K : PySem.W.Frag) (g : TG) (tb : TS) (D : Ends) (σ : L2.St) (x : V) (H1 : Hp) : Prop := ∃ a, x = .ref a ∧ (∃ xs, SqL K H1 a xs) ∧ rFor (Itl K a) g tb D σ H1
theorem x_forL (h : tl σ H fun x H1 => rForL K g tb D σ x H1) : tFor (iList K tl) g tb D σ H := h
theorem x_forLR {a : Addr} {xs : List V} (h : H a = some (.lst xs)) (Pv : Nat → L2.St → Hp → Prop) (h0 : Pv 0 σ H) (hl : ∀ i σ H, i ≤ xs.length → Pv i σ H → H a = some (.lst xs))
    (hs : ∀ i x σ H, xs[i]? = some x → Pv i σ H → g x σ H fun σ2 H2 => tb { D with nx := Pv (i + 1), ct := Pv (i + 1), bk := D.nx } σ2 H2) (hd : ∀ σ H, Pv xs.length σ H → D.nx σ H) : rForL K g tb D σ (.ref a) H :=
  ⟨a, rfl, ⟨xs, SqL.of h⟩, for_list (K := K) (xs := xs) Pv h0 (fun i σ H hi p => SqL.of (hl i σ H hi p)) hs hd⟩
def rForR1 (g : TG) (tb : TS) (D : Ends) (σ : L2.St) (vs : List V) (H1 : Hp) : Prop := ∃ j : Int, vs = [.int j] ∧ -(2 ^ 62) ≤ j ∧ j < 2 ^ 62 ∧ rFor (Itr 0 j.toNat) g tb D σ H1
def rForR2 (g : TG) (tb : TS) (D : Ends) (σ : L2.St) (vs : List V) (H1 : Hp) : Prop := ∃ i j : Int, vs = [.int i, .int j] ∧ (-(2 ^ 62) ≤ i ∧ i < 2 ^ 62 ∧ -(2 ^ 62) ≤ j ∧ j < 2 ^ 62) ∧ rFor (Itr i (j - i).toNat) g tb D σ H1
theorem x_forR1 {ta : TA} (h : ta σ H fun vs H1 => rForR1 g tb D σ vs H1) : tFor (iRng1 ta) g tb D σ H := h
theorem x_forR2 {ta : TA} (h : ta σ H fun vs H1 => rForR2 g tb D σ vs H1) : tFor (iRng2 ta) g tb D σ H := h
theorem x_forR1R {n : Nat} (hn : n ≤ 100000) (Pv : Nat → L2.St → Hp → Prop) (h0 : Pv 0 σ H)
    (hs : ∀ i σ H, i < n → Pv i σ H → g (.int (i : Nat)) σ H fun σ2 H2 => tb { D with nx := Pv (i + 1), ct := Pv (i + 1), bk := D.nx } σ2 H2) (hd : ∀ σ H, Pv n σ H → D.nx σ H) : rForR1 g tb D σ [.int (n : Nat)] H := by
  refine ⟨n, rfl, by omega, by omega, ?_⟩
  have e : ((n : Nat) : Int).toNat = n := Int.toNat_natCast n
  rw [e]
  exact for_range (lo := 0) Pv h0 (fun i σ H hi p => by rw [Int.zero_add]; exact hs i σ H hi p) hd
theorem x_forR2R {a b : Nat} (hn : b ≤ 100000) (ha : a ≤ b) (Pv : Nat → L2.St → Hp → Prop) (h0 : Pv a σ H)
    (hs : ∀ i σ H, a ≤ i → i < b → Pv i σ H → g (.int (i : Nat)) σ H fun σ2 H2 => tb { D with nx := Pv (i + 1), ct := Pv (i + 1), bk := D.nx } σ2 H2) (hd : ∀ σ H, Pv b σ H → D.nx σ H) : rForR2 g tb D σ [.int (a : Nat), .int (b : Nat)] H := by
  refine ⟨a, b, rfl, by omega, ?_⟩
  have e : (((b : Nat) : Int) - (a : Nat)).toNat = b - a := by omega
  rw [e]
  refine for_range (lo := (a : Int)) (fun i => Pv (a + i)) h0 (fun i σ H hi p => ?_) (fun σ H p => hd σ H (by rw [show b = a + (b - a) by omega]; exact p))
  have := hs (a + i) σ H (by omega) (by omega) p
  rw [show ((a : Int) + (i : Nat)) = ((a + i : Nat) : Int) by omega]
  exact this
def rForE (K : PySem.W.Frag) (g : TG) (tb : TS) (D : Ends) (σ : L2.St) (vs : List V) (H1 : Hp) : Prop := ∃ a xs, vs = [.ref a] ∧ SqL K H1 a xs ∧ rFor (Ite K a) g tb D σ H1
theorem x_forE {ta : TA} (h : ta σ H fun vs H1 => rForE K g tb D σ vs H1) : tFor (iEnum K ta) g tb D σ H := h
/-- over enumerate: each turn a new pair -/
theorem x_forER {a : Addr} {xs : List V} (h : H a = some (.lst xs)) (Pv : Nat → L2.St → Hp → Prop) (h0 : Pv 0 σ H) (hl : ∀ i σ H, i ≤ xs.length → Pv i σ H → H a = some (.lst xs))
    (hs : ∀ i x σ H T, xs[i]? = some x → Pv i σ H → H T = none → g (.ref T) σ (upd H T (.tup [.int (i : Nat), x])) fun σ2 H2 => tb { D with nx := Pv (i + 1), ct := Pv (i + 1), bk := D.nx } σ2 H2) (hd : ∀ σ H, Pv xs.length σ H → D.nx σ H) : rForE K g tb D σ [.ref a] H := by
  refine ⟨a, xs, rfl, SqL.of h, fun i m σ H => m = xs.length - i ∧ i ≤ xs.length ∧ Pv i σ H, ⟨xs.length, by simp, Nat.zero_le _, h0⟩, ?_⟩
  rintro i m σ H ⟨rfl, hi, p⟩
  have q := hl i σ H hi p
  by_cases hlt : i < xs.length
  · refine .inr ⟨⟨xs, xs[i], SqL.of q, by simp [hlt]⟩, Pv (i + 1), fun σ' H' p' => ⟨xs.length - (i + 1), by omega, rfl, hlt, p'⟩, fun x H' y => ?_⟩
    obtain ⟨T, x', e, hT, eH, y⟩ := y
    subst e eH
    exact hs i x' σ H T (y xs (SqL.of q)) p hT
  · have e : i = xs.length := by omega
    subst e
    exact .inl ⟨⟨xs, SqL.of q, Nat.le_refl _⟩, hd σ H p⟩
end
theorem take_more {α : Type} {l : List α} {i : Nat} {x : α} (h : l[i]? = some x) : l.take (i + 1) = l.take i ++ [x] := by
  obtain ⟨h1, h2⟩ := List.getElem?_eq_some_iff.mp h
  rw [List.take_succ, h]; rfl
/-! ### while -/
section
variable {σ : L2.St} {H : Hp} {tb : TS} {D : Ends} {c : TT}
def WhN (Pv : L2.St → Hp → Prop) (μ : L2.St → Hp → Nat) (σ : L2.St) (H : Hp) : L2.St → Hp → Prop := fun σ' H' => Pv σ' H' ∧ μ σ' H' < μ σ H
def rWh (Pv : L2.St → Hp → Prop) (μ : L2.St → Hp → Nat) (tb : TS) (D : Ends) (σ : L2.St) (H H1 : Hp) : Prop := ∃ N : L2.St → Hp → Prop, (∀ σ' H', N σ' H' → ∃ m', m' < μ σ H ∧ m' = μ σ' H' ∧ Pv σ' H') ∧ tb { D with nx := N, ct := N, bk := D.nx } σ H1
theorem x_while (Pv : L2.St → Hp → Prop) (μ : L2.St → Hp → Nat) (h0 : Pv σ H) (hs : ∀ σ H, Pv σ H → c σ H fun b H1 => if b = true then rWh Pv μ tb D σ H H1 else D.nx σ H1) : tWhile c tb D σ H := by
  refine ⟨fun n σ' G => n = μ σ' G ∧ Pv σ' G, ⟨_, rfl, h0⟩, ?_⟩
  rintro m σ H ⟨rfl, p⟩
  exact hs σ H p
theorem x_wh {Pv : L2.St → Hp → Prop} {μ : L2.St → Hp → Nat} {H1 : Hp} (h : tb { D with nx := WhN Pv μ σ H, ct := WhN Pv μ σ H, bk := D.nx } σ H1) : rWh Pv μ tb D σ H H1 := ⟨_, fun _ _ ⟨p, l⟩ => ⟨_, l, rfl, p⟩, h⟩
end
section
variable {K : PySem.W.Frag} {H : Hp} {Q : VK}
theorem x_sortI {a : Addr} {ns : List Int} (h : H a = some (.lst (ns.map V.int))) (q : ∀ (ns' : List Int) (p : Addr), ns'.Perm ns → ns'.Pairwise (· ≤ ·) → H p = none → Q (.ref p) (upd H p (.lst (ns'.map V.int)))) : rSortedI K [.ref a] H Q := ⟨a, ns, rfl, SqL.of h, q⟩
end
/-! ### readings by name -/
section
variable {K : PySem.W.Frag} {H : Hp} {Q : VK} {x : V} {X : Cx}
/-- len of a text -/
def rLenS : List V → Hp → VK → Prop := fun vs G R => ∃ z, vs = [.str z] ∧ z.length ≤ sizeLine ∧ R (.int z.length) G
theorem cl_lenS : CallR X (.builtin "len") rLenS := call_len_str
theorem x_lenS {z : Str} (h : z.length ≤ sizeLine) (q : Q (.int (z.length : Nat)) H) : rLenS [.str z] H Q := ⟨z, rfl, h, q⟩
def rLenL (K : PySem.W.Frag) : List V → Hp → VK → Prop := fun xs H Q => ∃ p ys, xs = [.ref p] ∧ (SqL K H p ys ∨ SqT K H p ys) ∧ Q (.int ys.length) H
theorem cl_lenL : CallR X (.builtin "len") (rLenL X.K) := call_len_seq
theorem x_lenL {p : Addr} {xs : List V} (h : H p = some (.lst xs)) (q : Q (.int (xs.length : Nat)) H) : rLenL K [.ref p] H Q := ⟨p, xs, rfl, .inl (SqL.of h), q⟩
theorem x_lenT {p : Addr} {xs : List V} (h : H p = some (.tup xs)) (q : Q (.int (xs.length : Nat)) H) : rLenL K [.ref p] H Q := ⟨p, xs, rfl, .inr (SqT.of h), q⟩
/-- a sign in a text -/
def rInS : R2 := fun u v G R => ∃ (c : Nat) (z : Str), u = .str ⟨#[c]⟩ ∧ v = .str z ∧ R (.bl (decide (c ∈ z.cps.toList))) G
theorem or_inS : OpR X (compareOp .In) rInS := op_in_sign
theorem x_inS {c : Nat} {z : Str} (q : Q (.bl (decide (c ∈ z.cps.toList))) H) : rInS (.str ⟨#[c]⟩) (.str z) H Q := ⟨c, z, rfl, rfl, q⟩
def rSw : V → List V → Hp → VK → Prop := fun x xs H Q => ∃ (a b : Str) (i : Int), x = .str a ∧ xs = [.str b, .int i] ∧ Q (.bl (Txt.startswith3 a b i)) H
theorem mr_sw : MtR X "str.startswith" rSw := mt_startswith3
theorem x_sw {y z : Str} {m : Int} (q : Q (.bl (Txt.startswith3 z y m)) H) : rSw (.str z) [.str y, .int m] H Q := ⟨z, y, m, rfl, rfl, q⟩
def rAddS : R2 := fun x y H Q => ∃ i j, x = .str i ∧ y = .str j ∧ i.length + j.length ≤ sizeLine ∧ Q (.str (i ++ j)) H
theorem or_addS : OpR X (binaryOp .Add) rAddS := op_add_str
theorem x_addS {i j : Str} (h : i.length + j.length ≤ sizeLine) (q : Q (.str (i ++ j)) H) : rAddS (.str i) (.str j) H Q := ⟨i, j, rfl, rfl, h, q⟩
/-- is None -/
def rIsN : R2 := fun u v G R => v = .non ∧ R (.bl (decide (u = .non))) G
/-- is not None -/
def rNotN : R2 := fun u v G R => v = .non ∧ R (.bl (!decide (u = .non))) G
theorem or_isN : OpR X (compareOp .Is) rIsN := op_isN
theorem or_notN : OpR X (compareOp .IsNot) rNotN := op_notN
theorem x_isN (q : Q (.bl (decide (x = .non))) H) : rIsN x .non H Q := ⟨rfl, q⟩
theorem x_notN (q : Q (.bl (!decide (x = .non))) H) : rNotN x .non H Q := ⟨rfl, q⟩
def rListOf (K : PySem.W.Frag) : List V → Hp → VK → Prop := fun xs H Q => ∃ p ys, xs = [.ref p] ∧ (SqL K H p ys ∨ SqT K H p ys) ∧ ∀ l, H l = none → Q (.ref l) (upd H l (.lst ys))
theorem cl_list : CallR X (.type "list") (rListOf X.K) := call_list_of
theorem x_list {p : Addr} {xs : List V} (h : H p = some (.lst xs)) (q : ∀ l, H l = none → Q (.ref l) (upd H l (.lst xs))) : rListOf K [.ref p] H Q := ⟨p, xs, rfl, .inl (SqL.of h), q⟩
def rTupOf (K : PySem.W.Frag) : List V → Hp → VK → Prop := fun xs H Q => ∃ p ys, xs = [.ref p] ∧ ((SqL K H p ys ∧ ∀ l, H l = none → Q (.ref l) (upd H l (.tup ys))) ∨ (SqT K H p ys ∧ Q (.ref p) H))
theorem cl_tuple : CallR X (.type "tuple") (rTupOf X.K) := call_tuple_of
theorem x_tupleL {p : Addr} {xs : List V} (h : H p = some (.lst xs)) (q : ∀ l, H l = none → Q (.ref l) (upd H l (.tup xs))) : rTupOf K [.ref p] H Q := ⟨p, xs, rfl, .inl ⟨SqL.of h, q⟩⟩
def rInt1 : List V → Hp → VK → Prop := fun xs H Q => (∃ i, xs = [.int i] ∧ Q (.int i) H) ∨ ∃ k, xs = [.bl k] ∧ Q (.int (if k then 1 else 0)) H
theorem cl_int : CallR X (.type "int") rInt1 := call_int1
theorem x_int1 {i : Int} (q : Q (.int i) H) : rInt1 [.int i] H Q := .inl ⟨i, rfl, q⟩
def rMin2 : List V → Hp → VK → Prop := fun xs H Q => ∃ i j, xs = [.int i, .int j] ∧ Q (.int (if j < i then j else i)) H
theorem cl_min (hc : X.calm = true) : CallR X (.builtin "min") rMin2 := call_min2 hc
theorem x_min2 {i j : Int} (q : Q (.int (if j < i then j else i)) H) : rMin2 [.int i, .int j] H Q := ⟨i, j, rfl, q⟩
theorem x_any {a : Addr} {bs : List Bool} (h : H a = some (.lst (bs.map V.bl))) (q : Q (.bl (bs.any id)) H) : rAny K [.ref a] H Q := ⟨a, bs, rfl, SqL.of h, q⟩
theorem x_all {a : Addr} {bs : List Bool} (h : H a = some (.lst (bs.map V.bl))) (q : Q (.bl (bs.all id)) H) : rAll K [.ref a] H Q := ⟨a, bs, rfl, SqL.of h, q⟩
theorem x_sum {a : Addr} {ns : List Int} (h : H a = some (.lst (ns.map V.int))) (q : Q (.int ns.sum) H) : rSum K [.ref a] H Q := ⟨a, ns, rfl, SqL.of h, q⟩
/-- slices -/
theorem x_slL {a : Addr} {xs : List V} {lo hi : Option Int} (h : H a = some (.lst xs)) (q : ∀ p, H p = none → Q (.ref p) (upd H p (.lst (cutV xs lo hi)))) : rSlL K (.ref a) lo hi H Q := ⟨a, xs, rfl, SqL.of h, q⟩
theorem x_slA {a : Addr} {xs : List V} {lo hi : Option Int} (h : H a = some (.tup xs)) (q1 : HT.sIx xs.length 0 lo = 0 ∧ HT.sIx xs.length xs.length hi = xs.length → Q (.ref a) H)
    (q2 : ¬ (HT.sIx xs.length 0 lo = 0 ∧ HT.sIx xs.length xs.length hi = xs.length) → ∀ p, H p = none → Q (.ref p) (upd H p (.tup (cutV xs lo hi)))) : rSlA K (.ref a) lo hi H Q := ⟨a, xs, rfl, SqT.of h, q1, q2⟩
theorem x_cat {l b : Addr} {xs zs : List V} (h : H l = some (.lst xs)) (h' : H b = some (.lst zs)) (n : xs.length + zs.length ≤ sizeLine) (q : ∀ p, H p = none → Q (.ref p) (upd H p (.lst (xs ++ zs)))) : rCat (.ref l) (.ref b) H Q := ⟨l, b, xs, zs, rfl, rfl, h, h', n, q⟩
theorem x_extend {l b : Addr} {xs zs : List V} (h : H l = some (.lst xs)) (h' : H b = some (.lst zs)) (n : xs.length + zs.length ≤ sizeLine) (q : Q .non (upd H l (.lst (xs ++ zs)))) : rExtend (.ref l) [.ref b] H Q := ⟨l, b, xs, zs, rfl, rfl, h, h', n, q⟩
end
theorem lk0 {α : Type} : True := trivial
section
variable {K : PySem.W.Frag} {σ : L2.St} {H : Hp} {g : TG} {tb : TS} {D : Ends}
/-- over a list whose items may be other objects at each turn, its length fixed -/
theorem x_forLn {a : Addr} {n : Nat} (h0' : ∃ xs, H a = some (.lst xs)) (Pv : Nat → L2.St → Hp → Prop) (h0 : Pv 0 σ H) (hl : ∀ i σ H, i ≤ n → Pv i σ H → ∃ xs, H a = some (.lst xs) ∧ xs.length = n)
    (hs : ∀ i x xs σ H, i < n → H a = some (.lst xs) → xs[i]? = some x → Pv i σ H → g x σ H fun σ2 H2 => tb { D with nx := Pv (i + 1), ct := Pv (i + 1), bk := D.nx } σ2 H2) (hd : ∀ σ H, Pv n σ H → D.nx σ H) : rForL K g tb D σ (.ref a) H := by
  obtain ⟨xs0, hx0⟩ := h0'
  refine ⟨a, rfl, ⟨xs0, SqL.of hx0⟩, fun i m σ H => m = n - i ∧ i ≤ n ∧ Pv i σ H, ⟨n, by simp, Nat.zero_le _, h0⟩, ?_⟩
  rintro i m σ H ⟨rfl, hi, p⟩
  obtain ⟨xs, q, en⟩ := hl i σ H hi p
  by_cases hlt : i < n
  · refine .inr ⟨⟨xs, xs[i], SqL.of q, by simp [en, hlt]⟩, Pv (i + 1), fun σ' H' p' => ⟨n - (i + 1), by omega, rfl, hlt, p'⟩, fun x H' y => ?_⟩
    obtain ⟨e, y⟩ := y
    subst e
    exact hs i x xs σ _ hlt q (y xs (SqL.of q)) p
  · have e : i = n := by omega
    subst e
    exact .inl ⟨⟨xs, SqL.of q, by omega⟩, hd σ H p⟩
end
theorem x_dsbJ {H : Hp} {Q : VK} {a : Addr} {kvs : List (Key × V)} {s : Str} {y : V} (R : V → Hp → Prop) (h : H a = some (.dK kvs)) (l : kvs.length < sizeLine) (q1 : ∀ v, valV kvs (.inr s) = some v → R v H)
    (q2 : valV kvs (.inr s) = none → R y (upd H a (.dK (putK kvs (.inr s) y)))) (q : ∀ v H', R v H' → Q v H') : rDSb a Q (.str s) y H := ⟨kvs, .inr s, h, rfl, l, fun v e => q v _ (q1 v e), fun e => q y _ (q2 e)⟩
/-- the rest of a block told once, by what stands ahead of it -/
theorem x_cut {t u : TS} {D : Ends} {σ : L2.St} {H : Hp} (J : L2.St → Hp → Prop) (q : ∀ σ' H', J σ' H' → u D σ' H') (h : ∀ N : L2.St → Hp → Prop, (∀ σ' H', J σ' H' → N σ' H') → t { D with nx := N } σ H) : tSeq t u D σ H := h (u D) q
/-! ### list comprehensions -/
section
variable {K : PySem.W.Frag} {σ : L2.St} {H : Hp} {Q : VK} {tl te : TE} {g : TG} {tt : TT} {vs : List Nat}
def rLc (J : It) (g : TG) (tt : TT) (te : TE) (vs : List Nat) (σ : L2.St) (Q : VK) (H1 : Hp) : Prop := ∀ D, H1 D = none → ∃ W : Nat → Nat → Hp → Prop, (∃ m, W 0 m (upd H1 D (.lst []))) ∧ ∀ i m H, W i m H →
  (J.stop i H ∧ Q (.ref D) H) ∨ (J.go i H ∧ ∃ Nx : Hp → Prop, (∀ H', Nx H' → ∃ m', m' < m ∧ W (i + 1) m' H') ∧
    ∀ x H', J.yld i H x H' → g x (wipe σ vs) H' fun σ2 H2 => wipe σ2 vs = wipe σ vs ∧
      tt σ2 H2 fun b H3 => if b = true then te σ2 H3 fun y H4 => ∃ acc, H4 D = some (.lst acc) ∧
        acc.length < sizeLine ∧ Nx (upd H4 D (.lst (acc ++ [y]))) else Nx H3)
def rLcL (K : PySem.W.Frag) (g : TG) (tt : TT) (te : TE) (vs : List Nat) (σ : L2.St) (Q : VK) (x : V) (H1 : Hp) : Prop := ∃ a, x = .ref a ∧ (∃ xs, SqL K H1 a xs) ∧ rLc (Itl K a) g tt te vs σ Q H1
theorem x_lcL (h : tl σ H fun x H1 => rLcL K g tt te vs σ Q x H1) : tLc (iList K tl) g tt te vs σ H Q := h
def rLcR (g : TG) (tt : TT) (te : TE) (vs : List Nat) (σ : L2.St) (Q : VK) (ws : List V) (H1 : Hp) : Prop := ∃ j : Int, ws = [.int j] ∧ -(2 ^ 62) ≤ j ∧ j < 2 ^ 62 ∧ rLc (Itr 0 j.toNat) g tt te vs σ Q H1
theorem x_lcR {ta : TA} (h : ta σ H fun ws H1 => rLcR g tt te vs σ Q ws H1) : tLc (iRng1 ta) g tt te vs σ H Q := h
/-- one turn, its ends told -/
def LcTurn (g : TG) (tt : TT) (te : TE) (vs : List Nat) (σ : L2.St) (x : V) (H1 : Hp) (N : V → Hp → Prop) (N' : Hp → Prop) : Prop :=
  g x (wipe σ vs) H1 fun σ2 H2 => wipe σ2 vs = wipe σ vs ∧ tt σ2 H2 fun b H3 => if b = true then te σ2 H3 N else N' H3
/-- over a list, nothing but new objects made -/
theorem x_lcP {a : Addr} {xs : List V} (h : H a = some (.lst xs)) (acc : Nat → List V) (h0 : acc 0 = []) (hb : ∀ i, i < xs.length → (acc i).length ≤ 99999)
    (hs : ∀ i x H1 (N : V → Hp → Prop) (N' : Hp → Prop), xs[i]? = some x → Same H H1 → (∀ y H4, Same H1 H4 → acc (i + 1) = acc i ++ [y] → N y H4) → (∀ H3, Same H1 H3 → acc (i + 1) = acc i → N' H3) → LcTurn g tt te vs σ x H1 N N')
    (hd : ∀ D H2, Same H H2 → H D = none → H2 D = some (.lst (acc xs.length)) → Q (.ref D) H2) : rLcL K g tt te vs σ Q (.ref a) H := by
  refine ⟨a, rfl, ⟨xs, SqL.of h⟩, fun D hD => ?_⟩
  refine lc_list (K := K) (a := a) (xs := xs) (fun i H' => Same H H' ∧ H' D = some (.lst (acc i))) ⟨Same.new hD, by rw [h0]; exact upd_same⟩ (fun i H' _ p => SqL.of (p.1 a _ h)) ?_ (fun H' p => hd D H' p.1 hD p.2)
  rintro i x H1 hx ⟨s1, d1⟩
  have hi := (List.getElem?_eq_some_iff.mp hx).1
  exact hs i x H1 _ _ hx s1 (fun y H4 s4 e => ⟨acc i, s4 D _ d1, small_ (by have := hb i hi; omega), Same.mut (s1.trans s4) hD, by rw [e]; exact upd_same⟩) (fun H3 s3 e => ⟨s1.trans s3, by rw [e]; exact s3 D _ d1⟩)
theorem x_lcRP {n : Nat} (hn : n ≤ 100000) (acc : Nat → List V) (h0 : acc 0 = []) (hb : ∀ i, i < n → (acc i).length ≤ 99999)
    (hs : ∀ i H1 (N : V → Hp → Prop) (N' : Hp → Prop), i < n → Same H H1 → (∀ y H4, Same H1 H4 → acc (i + 1) = acc i ++ [y] → N y H4) → (∀ H3, Same H1 H3 → acc (i + 1) = acc i → N' H3) → LcTurn g tt te vs σ (.int (i : Nat)) H1 N N')
    (hd : ∀ D H2, Same H H2 → H D = none → H2 D = some (.lst (acc n)) → Q (.ref D) H2) : rLcR g tt te vs σ Q [.int (n : Nat)] H := by
  refine ⟨n, rfl, by omega, by omega, fun D hD => ?_⟩
  have e : ((n : Nat) : Int).toNat = n := Int.toNat_natCast n
  rw [e]
  refine lc_range (lo := 0) (fun i H' => Same H H' ∧ H' D = some (.lst (acc i))) ⟨Same.new hD, by rw [h0]; exact upd_same⟩ ?_ (fun H' p => hd D H' p.1 hD p.2)
  rintro i H1 hi ⟨s1, d1⟩
  rw [Int.zero_add]
  exact hs i H1 _ _ hi s1 (fun y H4 s4 e => ⟨acc i, s4 D _ d1, small_ (by have := hb i hi; omega), Same.mut (s1.trans s4) hD, by rw [e]; exact upd_same⟩) (fun H3 s3 e => ⟨s1.trans s3, by rw [e]; exact s3 D _ d1⟩)
/-- the same where the turns change other objects: what holds is Pv -/
theorem x_lcG {a : Addr} {xs : List V} (h : H a = some (.lst xs)) (Pv : Addr → Nat → Hp → Prop) (acc : Nat → List V) (h0 : acc 0 = []) (hb : ∀ i, i < xs.length → (acc i).length ≤ 99999)
    (hP0 : ∀ D, H D = none → Pv D 0 (upd H D (.lst []))) (hPa : ∀ D i H', Pv D i H' → H' a = some (.lst xs) ∧ H' D = some (.lst (acc i)))
    (hs : ∀ D i x H1 (N : V → Hp → Prop) (N' : Hp → Prop), H D = none → xs[i]? = some x → Pv D i H1 → (∀ y H4, H4 D = some (.lst (acc i)) → Pv D (i + 1) (upd H4 D (.lst (acc i ++ [y]))) → N y H4) → (∀ H3, Pv D (i + 1) H3 → N' H3) → LcTurn g tt te vs σ x H1 N N')
    (hd : ∀ D H2, H D = none → Pv D xs.length H2 → Q (.ref D) H2) : rLcL K g tt te vs σ Q (.ref a) H := by
  refine ⟨a, rfl, ⟨xs, SqL.of h⟩, fun D hD => ?_⟩
  refine lc_list (K := K) (a := a) (xs := xs) (Pv D) (hP0 D hD) (fun i H' _ p => SqL.of (hPa D i H' p).1) ?_ (fun H' p => hd D H' hD p)
  rintro i x H1 hx p
  have hi := (List.getElem?_eq_some_iff.mp hx).1
  exact hs D i x H1 _ _ hD hx p (fun y H4 d4 p4 => ⟨acc i, d4, small_ (by have := hb i hi; omega), p4⟩) (fun H3 p3 => p3)
theorem x_yes {R : Bool → Hp → Prop} (h : R true H) : tYes σ H R := h
end
/-! ### rules over a written part that is named -/
section
variable {X : Cx} (K : PySem.W.Frag)
theorem kx_list (e : X.K = K := by rfl) : IxR X (rIxL K) := by subst e; exact ix_list
theorem kx_tup (e : X.K = K := by rfl) : IxR X (rIxT K) := by subst e; exact ix_tup
theorem kfld {o : Expr} {ta : TE} {f : Str} {pos : Pos} (he : PE X o ta) (hb : attributeBase o f X.env (eval o X.env) = eval o X.env) (e : X.K = K := by rfl) : PE X (.Attribute o f pos) (tFld K ta f) := by subst e; exact pe_fld he hb
theorem kfldS {o value : Expr} {ta tv : TE} {f : Str} {pos pos' : Pos} (ha : PE X o ta) (hv : PE X value tv) (hs : swapsWith value (some (.Attribute o f pos')) pos.line X.env = pure false) (e : X.K = K := by rfl) : PS X (.Assign [.Attribute o f pos'] value pos) (sFld K ta tv f) := by subst e; exact ps_fld ha hv hs
theorem kl_len (e : X.K = K := by rfl) : CallR X (.builtin "len") (rLenL K) := by subst e; exact cl_lenL
theorem kpi_list {tg l : Expr} {tl : TE} (hl : PE X l tl) (e : X.K = K := by rfl) : PI X tg l (iList K tl) := by subst e; exact pi_list hl
theorem kpi_tup {tg l : Expr} {tl : TE} (hl : PE X l tl) (e : X.K = K := by rfl) : PI X tg l (iTup K tl) := by subst e; exact pi_tup hl
theorem kpi_enum {e : Expr} {ta : TA} {p pos tpos : Pos} {elts : List Expr} {kk : Nat} (hg : Gl X "enumerate") (hm : X.mg "enumerate" = none) (ha : PA X [e] ta) (hs : starEach [e] X.env = [(false, eval e X.env)] := by rfl) (ek : X.K = K := by rfl) :
    PI X (.Tuple elts kk tpos) (.Call (.Name "enumerate" p) [e] [] pos) (iEnum K ta) := by subst ek; exact pi_enum hg hm ha hs
theorem kpg_tup {es : List Expr} {k : Nat} {pos : Pos} {t : TGs} (n : Nat) (hc : X.calm = true) (h : PGs X es t) (hn : (assignEach es X.env).length = n := by rfl) (hst : (assignEach es X.env).findIdx? (·.1) = none := by rfl) (e : X.K = K := by rfl) : PG X (.Tuple es k pos) (gTup K n t) := by
  subst e; exact pg_tup hc h hn hst
theorem ksl_list (e : X.K = K := by rfl) : SlR X (rSlL K) := by subst e; exact sl_list
theorem ksl_tup (e : X.K = K := by rfl) : SlR X (rSlA K) := by subst e; exact sl_tupA
theorem kin_seq (e : X.K = K := by rfl) : OpR X (compareOp .In) (rIn K false) := by subst e; exact op_in_seq
theorem knotin_seq (e : X.K = K := by rfl) : OpR X (compareOp .NotIn) (rIn K true) := by subst e; exact op_notIn_seq
theorem kc_sortedI (e : X.K = K := by rfl) : CallR X (.builtin "sorted") (rSortedI K) := by subst e; exact cr_sortedI
theorem kc_sortedS (e : X.K = K := by rfl) : CallR X (.builtin "sorted") (rSortedS K) := by subst e; exact cr_sortedS
theorem kc_all (hc : X.calm = true) (e : X.K = K := by rfl) : CallR X (.builtin "all") (rAll K) := by subst e; exact cr_all hc
theorem kc_any (hc : X.calm = true) (e : X.K = K := by rfl) : CallR X (.builtin "any") (rAny K) := by subst e; exact cr_any hc
theorem kc_sum (hc : X.calm = true) (e : X.K = K := by rfl) : CallR X (.builtin "sum") (rSum K) := by subst e; exact cr_sum hc
theorem kop_cat (e : X.K = K := by rfl) : OpR X (binaryOp .Add) (rCatA K) := by subst e; exact op_catA
theorem kc_list (e : X.K = K := by rfl) : CallR X (.type "list") (rListOf K) := by subst e; exact cl_list
theorem kc_tuple (e : X.K = K := by rfl) : CallR X (.type "tuple") (rTupOf K) := by subst e; exact cl_tuple
end
section
variable {X : Cx} (K : PySem.W.Frag)
theorem kbm {ex : Expr} {T : String} {r : V → List V → Hp → VK → Prop} {to : TE} {t : TA} (h : PE X ex (tBM X.K T r to t)) (e : X.K = K := by rfl) : PE X ex (tBM K T r to t) := by subst e; exact h
theorem krev {ex : Expr} {te : TE} (h : PE X ex (tRevL X.K te)) (e : X.K = K := by rfl) : PE X ex (tRevL K te) := by subst e; exact h
def rRev (K : PySem.W.Frag) (Q : VK) (x : V) (H1 : Hp) : Prop := ∃ a xs, x = .ref a ∧ SqL K H1 a xs ∧ ∀ p, H1 p = none → Q (.ref p) (upd H1 p (.lst xs.reverse))
variable {K}
theorem x_rev {te : TE} {σ : L2.St} {H : Hp} {Q : VK} (h : te σ H fun x H1 => rRev K Q x H1) : tRevL K te σ H Q := h
theorem x_revR {a : Addr} {xs : List V} {H : Hp} {Q : VK} (h : H a = some (.lst xs)) (q : ∀ p, H p = none → Q (.ref p) (upd H p (.lst xs.reverse))) : rRev K Q (.ref a) H := ⟨a, xs, rfl, SqL.of h, q⟩
variable (K)
def rJoin (K : PySem.W.Frag) (Q : VK) (x y : V) (H : Hp) : Prop := ∃ a p, ∃ ys : List Str, x = .str a ∧ [y] = [.ref p] ∧ (SqL K H p (ys.map V.str) ∨ SqT K H p (ys.map V.str)) ∧ (ys.map (·.length)).sum + ys.length * a.length ≤ 16777216 ∧ Q (.str (Txt.join a ys)) H
def tJoin (K : PySem.W.Frag) (to te : TE) : TE := fun σ H Q => to σ H fun x H1 => (∃ a, x = .str a) ∧ te σ H1 fun y H2 => rJoin K Q x y H2
theorem kjoin {o e : Expr} {to te : TE} {apos pos : Pos} (ho : PE X o to) (he : PE X e te) (hs : starEach [e] X.env = [(false, eval e X.env)] := by rfl) (hbase : attributeBase o "join" X.env (eval o X.env) = eval o X.env := by rfl) (hline : (apos.endLine == pos.line) = true := by rfl) (ek : X.K = K := by rfl) :
    PE X (.Call (.Attribute o "join" apos) [e] [] pos) (tJoin K to te) := by subst ek; exact pe_join ho he hs hbase hline
variable {K}
theorem x_joinR {a : Str} {p : Addr} {ys : List Str} {H : Hp} {Q : VK} (h : H p = some (.lst (ys.map V.str))) (l : (ys.map (·.length)).sum + ys.length * a.length ≤ 16777216) (q : Q (.str (Txt.join a ys)) H) : rJoin K Q (.str a) (.ref p) H := ⟨a, p, ys, rfl, rfl, .inl (SqL.of h), l, q⟩
end
end K38
namespace K38
open PySem L2
/-! ### a dict built by a comprehension, its keys tuples -/
section
open PySem.Spec PyProof.Rows
/-- one entry goes into the dict at d, its key the tuple at b -/
theorem put_tup {X : Cx} {pins : List (Addr × Obj)} {σ : L2.St} {H : Hp} {s : Shared} {E : Value → Shared → Prop} {Q : Unit → Shared → Prop} {d b : Addr} {ws : List (List Key × V)} {ks : List Key} {v : V} {r : Value}
    (hu : X.A.units + 1 < cLine) (I : Inv X pins σ H s) (hd : H d = some (.dT ws)) (hb : H b = some (.tup (ks.map kV))) (few : ws.length < sizeLine) (rv : RelV v r)
    (go : ∀ s1, Inv X pins σ (upd H d (.dT (putK ws ks v))) s1 → Q () s1) : wpAny (model X.prog X.w) X.A (dictSet d (.ref b) r) Q E s := by
  obtain ⟨c1, c2, es, kt, dm⟩ := dt_of I.hok hd
  have le : es.length ≤ sizeLine := (Paired.length kt) ▸ c1
  have le2 : (putK ws ks v).length ≤ sizeLine := Nat.le_trans (length_putK ws ks v) few
  refine wpAny_dictSet_heap (hsz := le) (knd := tupleKind (mixKind X.prog X.w)) (show X.A.units < cLine by omega) (key_of I.hok hb) dm fun g dm' sb => go _ ?_
  obtain ⟨ob, en, ep, e1, e2, e3, e4, _, e6⟩ := dm'
  refine d_write I (by rw [hd]; exact True.intro) sb ⟨ob, e1⟩ ⟨le2, c2, _, (kt.put ks hb rv).keeps fun c ys ec => ?_, ob, en, ep, e1, e2, e3, e4, e6⟩
  exact (upd_ne (ne_of ec hd (fun z => nomatch z))).trans ec
/-- what one turn does with its key and its value -/
def DtEnd (D : Addr) (Nx : Hp → Prop) (y z : V) (H : Hp) : Prop := ∃ ws ks b, y = .ref b ∧ H b = some (.tup (ks.map kV)) ∧ H D = some (.dT ws) ∧ ws.length < sizeLine ∧ Nx (upd H D (.dT (putK ws ks z)))
def DtTurn (g : TG) (tt : TT) (tk tv : TE) (vs : List Nat) (σ : L2.St) (D : Addr) (Nx : Hp → Prop) (x : V) (H : Hp) : Prop := g x (wipe σ vs) H fun σ2 H2 => wipe σ2 vs = wipe σ vs ∧ tt σ2 H2 fun b H3 =>
  if b = true then tk σ2 H3 fun y H4 => tv σ2 H4 fun z H5 => DtEnd D Nx y z H5 else Nx H3
def DtLoop (J : It) (g : TG) (tt : TT) (tk tv : TE) (vs : List Nat) (σ : L2.St) (Q : VK) (H1 : Hp) (D : Addr) : Prop := ∃ W : Nat → Nat → Hp → Prop, (∃ m, W 0 m (upd H1 D (.dT []))) ∧ ∀ i m H, W i m H →
  (J.stop i H ∧ Q (.ref D) H) ∨ (J.go i H ∧ ∃ Nx : Hp → Prop, (∀ H', Nx H' → ∃ m', m' < m ∧ W (i + 1) m' H') ∧ ∀ x H', J.yld i H x H' → DtTurn g tt tk tv vs σ D Nx x H')
def tDcT (wi : TI) (g : TG) (tt : TT) (tk tv : TE) (vs : List Nat) : TE := fun σ H Q => wi σ H fun J H1 => ∀ D, H1 D = none → DtLoop J g tt tk tv vs σ Q H1 D
abbrev Blk (X : Cx) (sc : Scope) (Pr : Cx → Prop) : Prop := ∀ (s : Shared) (H : Hp) (C : Addr) (cl : List (Str × Addr)) (fp : List Addr), Pr (X.blk s H sc (compEnvC sc cl C X.env) fp)
theorem pe_dcT {X : Cx} {kx vx tg iter : Expr} {ifs : List Expr} {sc : Scope} {own : List (Str × Nat)} {pos : Pos} {wi : TI} {g : TG} {tt : TT} {tk tv : TE} (hu : X.A.units + 1 < cLine) (calm : X.calm = true) (nd : X.N.Nodup)
    (hi : PI X tg iter wi) (bo : BlkOk X.N X.env.scope sc own) (hg : Blk X sc fun B => PG B tg g) (ht : Blk X sc fun B => PTs B ifs tt) (hk : Blk X sc fun B => PE B kx tk) (hv : Blk X sc fun B => PE B vx tv)
    (fold : ∀ x, foldedSetIterable iter X.env x = pure x := by intro _; rfl) : PE X (.DictComp kx vx [⟨tg, iter, ifs, 0⟩] sc pos) (tDcT wi g tt tk tv (own.map (·.2))) := by
  refine ⟨fun pins s σ H Q I h => ?_⟩
  rw [arm_eval_DictComp]
  have free : ∀ y ∈ sc.names, y.2 = .free → ∃ c, X.env.cells.lookup y.1 = some c := fun y hy e => I.ok.has _ ((bo.free y hy e).imp id id)
  refine wpAny_comprehension_free (use := none) rfl fold (closure_ok free) bo.kind (fun y hy e => (bo.uniq y hy).trans (by rw [e])) (thn (hi.run pins s σ H _ I h) fun xv s1 hx => thn hx fun itv s2 z => ?_)
  obtain ⟨it, fp, tn, J, H2, rfl, I2, T, laid, fps, more⟩ := z
  refine wpAny_newObj_type (newEnv_comp ?_)
  generalize eD : s2.heap.objs.size = D
  have free2 : H2 D = none := I2.hok.fresh (Nat.le_of_eq eD)
  obtain ⟨W, ⟨n0, w0⟩, turn⟩ := more D free2
  -- the dict is laid
  generalize e3 : ({ s2 with heap := s2.heap.push { cls := .type "dict", data := .dict #[] } } : Shared) = s3
  have heap3 : s3.heap = s2.heap.push { cls := .type "dict", data := .dict #[] } := e3 ▸ rfl
  have I3 : Inv X pins σ (upd H2 D (.dT [])) s3 := by
    rw [← e3]
    exact I2.laid (t' := s2.toks) (fun _ _ => Heap.get?_push_of_some _) (Nat.le_of_eq eD) (eD ▸ dt_empty s2.heap I2.big)
  have fp3 : ∀ b ∈ fp, FpOk X pins (upd H2 D (.dT [])) b ∧ b < s3.heap.objs.size := fun b hb => by
    obtain ⟨o, ho, _⟩ := T.obj _ _ laid b hb
    have lt := Heap.lt_size ho
    refine ⟨⟨(upd_ne (Nat.ne_of_lt (eD ▸ lt))).trans (fps b hb).1, (fps b hb).2⟩, ?_⟩
    rw [heap3, Heap.size_push]; exact Nat.lt_succ_of_lt lt
  have laid3 : tn 0 s3.heap := T.keep _ _ _ laid fun b _ o e => heap3 ▸ Heap.get?_push_of_some _ e
  have I4 := block_start I3 bo nd fp3
  have none3 : ∀ b ∈ fp, (upd H2 D (.dT [])) b = none := fun b hb => (fp3 b hb).1.1
  have qg := hg s3 (upd H2 D (.dT [])) s3.heap.objs.size (cellsFrom (s3.heap.objs.size + 1) sc.names (cloFrom X.env.cells sc.names [])) fp
  have qt := ht s3 (upd H2 D (.dT [])) s3.heap.objs.size (cellsFrom (s3.heap.objs.size + 1) sc.names (cloFrom X.env.cells sc.names [])) fp
  have qk := hk s3 (upd H2 D (.dT [])) s3.heap.objs.size (cellsFrom (s3.heap.objs.size + 1) sc.names (cloFrom X.env.cells sc.names [])) fp
  have qv := hv s3 (upd H2 D (.dT [])) s3.heap.objs.size (cellsFrom (s3.heap.objs.size + 1) sc.names (cloFrom X.env.cells sc.names [])) fp
  show codeAny _ _ (.compStart _ 0 (.ref it) (.ref D) (compEnvC sc (cellsFrom (s3.heap.objs.size + 1) sc.names (cloFrom X.env.cells sc.names [])) s3.heap.objs.size X.env)) (compPost (model X.prog X.w) X.A X.xe none _ (.ref D) s3.heap.objs.size) { s3 with heap := pushCells (s3.heap.push { cls := .type "dict", data := .dict #[] }) sc.names }
  have eloc : (compEnvC sc (cellsFrom (s3.heap.objs.size + 1) sc.names (cloFrom X.env.cells sc.names [])) s3.heap.objs.size X.env).locals = s3.heap.objs.size := rfl
  generalize compEnvC sc (cellsFrom (s3.heap.objs.size + 1) sc.names (cloFrom X.env.cells sc.names [])) s3.heap.objs.size X.env = en at I4 qg qt qk qv eloc ⊢
  generalize upd H2 D (.dT []) = H3 at I3 I4 w0 none3 fp3 qg qt qk qv
  have laid4 : tn 0 ({ s3 with heap := pushCells (s3.heap.push { cls := .type "dict", data := .dict #[] }) sc.names } : Shared).heap := T.keep _ _ _ laid3 fun _ _ _ e => pushCells_keeps _ _ _ _ (Heap.get?_push_of_some _ e)
  generalize ({ s3 with heap := pushCells (s3.heap.push { cls := .type "dict", data := .dict #[] }) sc.names } : Shared) = s4 at I4 laid4 ⊢
  -- the iterator's own objects stay
  have keep : ∀ {σ1 : L2.St} {G : Hp} {t : Shared}, Inv (X.blk s3 H3 sc en fp) [] σ1 G t → (∀ b ∈ fp, G b = none) → ∀ b ∈ fp, FpOk (X.blk s3 H3 sc en fp) [] G b := fun {σ1 G t} J1 no b hb => by
    have x1 := J1.ok.exf b hb
    exact ⟨no b hb, x1.1, J1.ok.exfs b hb, .inl hb, fun y c e => x1.2 y c e, fun p hp => nomatch (show p ∈ ([] : List (Addr × Obj)) from hp)⟩
  refine codeAny_compStart_dict ?body (T.self X.A 0 _ _ _ laid4 ?body)
  refine compLoop_anyD (fun n t => ∃ i G, Inv (X.blk s3 H3 sc en fp) [] (wipe σ (own.map (·.2))) G t ∧ tn i t.heap ∧ (∀ b ∈ fp, G b = none) ∧ W i n G) (fun n t5 hn => ?_) n0 ⟨0, H3, I4, laid4, none3, w0⟩
  obtain ⟨i, G5, J5, l5, no5, w5⟩ := hn
  rcases turn i n G5 w5 with ⟨halt, fin⟩ | ⟨goes, Nx, less, body⟩
  · -- no more keys: back in the def
    refine thnF (T.done (X.blk s3 H3 sc en fp) rfl rfl rfl calm i [] t5 _ G5 (fun _ _ => False) J5 (keep J5 no5) l5 halt) fun r t6 z => ?_
    obtain ⟨rfl, J6⟩ := z
    have back : Inv X pins σ G5 t6 := I3.call' (ch := fp) J6.os J6.base J6.hok J6.bare fun b hb => by
      have x1 := (fp3 b hb).1.2
      exact ⟨x1.2.2.1, x1.1, x1.2.2.2.1, x1.2.2.2.2⟩
    have gone : G5 s3.heap.objs.size = none := eloc ▸ (show G5 en.locals = none from J6.free)
    obtain ⟨m, ns, _⟩ := J6.loc
    have ns : t6.heap.Ns s3.heap.objs.size m := eloc ▸ (show t6.heap.Ns en.locals m from ns)
    obtain ⟨p0, p1, p2, p3, p4, p5⟩ := I3.fpOk (Nat.le_refl _) gone
    refine ⟨m, ns, fun g2 sb => ?_⟩
    exact ⟨.ref D, G5, back.turned (t' := t6.toks) (fun c o hc e => (sb.2 c hc).trans e) p0 p1 p3 p4 p5, rfl, fin⟩
  · -- one key
    refine thnF (T.item (X.blk s3 H3 sc en fp) rfl rfl rfl calm i [] t5 _ G5 (fun _ _ => False) J5 (keep J5 no5) l5 goes) fun r t6 z => ?_
    obtain ⟨u, rfl, z⟩ := z
    refine thnF z fun _ t7 z7 => ?_
    obtain ⟨x, G7, J7, rx, yx, l7, no7⟩ := z7
    have pins7 := T.obj _ _ l7
    refine thnF (qg.run _ t7 _ G7 x u _ (J7.pinned (keep J7 no7) pins7) rx (body x G7 yx)) fun _ t8 z8 => ?_
    obtain ⟨σ8, G8, J8, wp8, q8⟩ := z8
    have turned : ∀ {t : Shared} {G : Hp}, Inv (X.blk s3 H3 sc en fp) ([] ++ pinsAt fp t7.heap) σ8 G t → Nx G → ∃ m, m < n ∧ ∃ j G, Inv (X.blk s3 H3 sc en fp) [] (wipe σ (own.map (·.2))) G t ∧ tn j t.heap ∧ (∀ b ∈ fp, G b = none) ∧ W j m G := fun {t G} Jt nx => by
      obtain ⟨m, lt, wm⟩ := less G nx
      have pin : ∀ b ∈ fp, ∀ o, t7.heap.get? b = some o → t.heap.get? b = some o ∧ G b = none := fun b hb o e => by
        have x1 := Jt.pin (b, o) (List.mem_append_right _ (List.mem_append_right _ (mem_pinsAt hb e)))
        exact ⟨x1.1, x1.2.1⟩
      have same_len : (wipe σ (own.map (·.2))).length = σ8.length := (congrArg List.length wp8).symm.trans (wipe_length _ _)
      refine ⟨m, lt, i + 1, G, (Jt.unpinned (pins := [])).weak same_len (fun k v e => (wipe_some (wp8 ▸ e)).1), T.keep _ _ _ l7 fun b hb o e => (pin b hb o e).1, fun b hb => ?_, wm⟩
      obtain ⟨o, e, _⟩ := pins7 b hb
      exact (pin b hb o e).2
    refine thnF (qt.run _ t8 σ8 G8 _ J8 q8) fun c t9 z9 => ?_
    obtain ⟨G9, J9, q9⟩ := z9
    cases c with
    | false => exact turned J9 q9
    | true =>
      refine thnF (qk.run _ t9 σ8 G9 _ J9 q9) fun _ ta za => ?_
      obtain ⟨y, Ga, Ja, ry, qa⟩ := za
      refine thnF (qv.run _ ta σ8 Ga _ Ja qa) fun _ tb zb => ?_
      obtain ⟨v, Gb, Jb, rv, ws, ks, b, rfl, hb, hd, few, nx⟩ := zb
      cases ry
      exact put_tup (X := X.blk s3 H3 sc en fp) hu Jb hd hb few rv fun te Je => turned Je nx
end
/-! ### a dict comprehension over a dict's keys -/
section
variable {td te : TE} {v : Nat} {vs : List Nat} {σ : L2.St} {H : Hp} {Q : VK} {d : Addr}
theorem upd_two {H : Hp} {a b : Addr} {o u : HO} (h : a ≠ b) : upd (upd H a o) b u = upd (upd H b u) a o := by
  funext c
  by_cases c1 : c = a
  · subst c1; rw [upd_same, upd_ne h, upd_same]
  · by_cases c2 : c = b
    · subst c2; rw [upd_same, upd_ne c1, upd_same]
    · rw [upd_ne c2, upd_ne c1, upd_ne c1, upd_ne c2]
theorem upd_id {H : Hp} {a : Addr} {o : HO} (h : H a = some o) : upd H a o = H := by
  funext c
  by_cases c1 : c = a
  · subst c1; rw [upd_same, h]
  · rw [upd_ne c1]
theorem x_dcKeys {kvs : List (Key × V)} (hd : H d = some (.dK kvs)) (hw : ∀ x, wipe ((wipe σ vs).set v (some x)) vs = wipe σ vs) (hv : ∀ x, ((wipe σ vs).set v (some x))[v]? = some (some x))
    (ht : ∀ od (R : VK), R (.ref d) (upd H d (.frz od (.dK kvs))) → td σ (upd H d (.frz od (.dK kvs))) R) (Pv : Addr → Nat → Hp → Prop)
    (h0 : ∀ D, H D = none → Pv D 0 (upd H D (.dK []))) (hl : ∀ D i H', Pv D i H' → H' d = some (.dK kvs))
    (hs : ∀ D od i k x H' (N : V → Hp → Prop), kvs[i]? = some (k, x) → H D = none → Pv D i H' → (∀ z H6 ws, H6 D = some (.dK ws) → ws.length < sizeLine → Pv D (i + 1) (upd H6 D (.dK (putK ws k z))) → N z (upd H6 d (.frz od (.dK kvs)))) →
      te ((wipe σ vs).set v (some (kV k))) (upd H' d (.frz od (.dK kvs))) N)
    (he : ∀ D H', H D = none → Pv D kvs.length H' → Q (.ref D) H') : tLockE (tDc (iKeys td) (gName v) tYes (tVar v) te vs) σ H Q := by
  refine ⟨d, _, hd, True.intro, fun od => ?_⟩
  refine ht od _ ⟨d, od, rfl, .inl ⟨kvs, upd_same, fun D hD => ?_⟩⟩
  have nD : D ≠ d := fun e => by rw [e, upd_same] at hD; cases hD
  have hD0 : H D = none := by rw [← hD, upd_ne nD]
  refine ⟨fun i m G => m = kvs.length - i ∧ i ≤ kvs.length ∧ ∃ G', G = upd G' d (.frz od (.dK kvs)) ∧ Pv D i G', ⟨_, rfl, Nat.zero_le _, _, upd_two (fun e => nD e.symm), h0 D hD0⟩, ?_⟩
  rintro i m G ⟨rfl, hi, G', rfl, p⟩
  by_cases hlt : i < kvs.length
  · refine .inr ⟨⟨upd_same, hlt⟩, fun G => ∃ G', G = upd G' d (.frz od (.dK kvs)) ∧ Pv D (i + 1) G', fun G q => ⟨kvs.length - (i + 1), by omega, rfl, hlt, q⟩, ?_⟩
    rintro x G1 ⟨rfl, k, u, hk, rfl⟩
    refine x_name ⟨hw _, x_yes (iteT (x_var (hv _) ?_))⟩
    refine hs D od i k u G' _ hk hD0 p fun z H6 ws h7 few q => ?_
    exact ⟨ws, k, rfl, (upd_ne nD).trans h7, few, _, upd_two (fun e => nD e.symm), q⟩
  · have e : i = kvs.length := by omega
    subst e
    exact .inl ⟨⟨upd_same, Nat.le_refl _⟩, upd_same, by rw [upd_upd, upd_id (hl _ _ _ p)]; exact he D G' hD0 p⟩
theorem x_dcKeysT {kvs : List (List Key × V)} (hd : H d = some (.dT kvs)) (hw : ∀ x, wipe ((wipe σ vs).set v (some x)) vs = wipe σ vs) (hv : ∀ x, ((wipe σ vs).set v (some x))[v]? = some (some x)) (few : kvs.length ≤ 99999)
    (ht : ∀ od (R : VK), R (.ref d) (upd H d (.frz od (.dT kvs))) → td σ (upd H d (.frz od (.dT kvs))) R) (c : V) (hdup : ∀ i k x, kvs[i]? = some (k, x) → valV ((kvs.take i).map fun p => (p.1, c)) k = none)
    (he : ∀ D, H D = none → Q (.ref D) (upd H D (.dT (kvs.map fun p => (p.1, c))))) : tLockE (tDcT (iKeys td) (gName v) tYes (tVar v) (tC c) vs) σ H Q := by
  refine ⟨d, _, hd, True.intro, fun od => ?_⟩
  refine ht od _ ⟨d, od, rfl, .inr ⟨kvs, upd_same, fun D hD => ?_⟩⟩
  have nD : D ≠ d := fun e => by rw [e, upd_same] at hD; cases hD
  have hD0 : H D = none := by rw [← hD, upd_ne nD]
  refine ⟨fun i m G => m = kvs.length - i ∧ i ≤ kvs.length ∧ G = upd (upd H D (.dT ((kvs.take i).map fun p => (p.1, c)))) d (.frz od (.dT kvs)), ⟨_, rfl, Nat.zero_le _, upd_two (fun e => nD e.symm)⟩, ?_⟩
  rintro i m G ⟨rfl, hi, rfl⟩
  by_cases hlt : i < kvs.length
  · refine .inr ⟨⟨upd_same, hlt⟩, fun G => G = upd (upd H D (.dT ((kvs.take (i + 1)).map fun p => (p.1, c)))) d (.frz od (.dT kvs)), fun G q => ⟨kvs.length - (i + 1), by omega, rfl, hlt, q⟩, ?_⟩
    rintro x G1 ⟨rfl, k, u, q, hk, rfl, hq⟩
    refine x_name ⟨hw _, x_yes (iteT (x_var (hv _) (x_c ?_)))⟩
    refine ⟨_, k, q, rfl, hq, (upd_ne nD).trans upd_same, ?_, ?_⟩
    · rw [List.length_map, List.length_take]; exact small_ (by omega)
    · rw [putK_new _ (hdup i k u hk), take_more hk, List.map_append]
      show upd (upd (upd H D _) d _) D _ = _
      rw [upd_two (H := upd H D _) (fun e => nD e.symm), upd_upd]
      rfl
  · have e : i = kvs.length := by omega
    subst e
    refine .inl ⟨⟨upd_same, Nat.le_refl _⟩, upd_same, ?_⟩
    rw [upd_upd, upd_id ((upd_ne (fun e => nD e.symm)).trans hd), List.take_length]
    exact he D hD0
end
end K38
/-! Plain mathematics, part 1: the grammar, what is seen from left to right (It), what ends where (En). -/
namespace K38
abbrev Tx := List Nat
inductive NT where
  | p | line | list | item | word
  deriving DecidableEq
inductive Sym where
  | lit (c : Nat) | run (b : Bool) | nt (x : NT)
  deriving DecidableEq
def isC (b : Bool) (c : Nat) : Bool := if b then (c == 97 || c == 98 || c == 99) else (48 ≤ c && c ≤ 57)
def runE (b : Bool) (t : Tx) (i : Nat) : Nat := i + ((t.drop i).takeWhile (isC b)).length
def syms (l : Bool) : Nat → List Sym
  | 0 => [.nt .line, .nt .p]
  | 1 => []
  | 2 => [.nt .word, .lit 61, .nt .list, .lit 59]
  | 3 => [.nt (if l then .list else .item), .lit 44, .nt .list]
  | 4 => [.nt .item]
  | 5 => [.nt .word]
  | 6 => [.run false]
  | 7 => [.lit 40, .nt .list, .lit 41]
  | 8 => [.run true]
  | _ => []
def left : Nat → NT
  | 0 => .p
  | 1 => .p
  | 2 => .line
  | 3 => .list
  | 4 => .list
  | 5 => .item
  | 6 => .item
  | 7 => .item
  | _ => .word
def byN : NT → List Nat
  | .p => [0, 1]
  | .line => [2]
  | .list => [3, 4]
  | .item => [5, 6, 7]
  | .word => [8]
theorem byN_left {x : NT} {r : Nat} (h : r ∈ byN x) : left r = x ∧ r < 9 := by
  cases x <;> simp [byN] at h <;> rcases h with h | h <;> (try rcases h with h | h) <;> (try subst h) <;> simp_all [left]
theorem left_byN {r : Nat} (h : r < 9) : r ∈ byN (left r) := by
  have : r = 0 ∨ r = 1 ∨ r = 2 ∨ r = 3 ∨ r = 4 ∨ r = 5 ∨ r = 6 ∨ r = 7 ∨ r = 8 := by omega
  rcases this with h | h | h | h | h | h | h | h | h <;> subst h <;> simp [left, byN]
theorem syms_len (l : Bool) (r : Nat) : (syms l r).length ≤ 4 := by
  unfold syms; split <;> simp

/-- the ends of a symbol that is no name -/
def tE (t : Tx) (y : Sym) (i : Nat) : List Nat := match y with
  | .lit c => if t[i]? = some c then [i + 1] else []
  | .run b => if runE b t i > i then [runE b t i] else []
  | .nt _ => []
theorem runE_ge (b : Bool) (t : Tx) (i : Nat) : i ≤ runE b t i := Nat.le_add_right _ _
theorem runE_le {b : Bool} {t : Tx} {i : Nat} (h : i ≤ t.length) : runE b t i ≤ t.length := by
  unfold runE
  have h1 := (List.takeWhile_sublist (l := t.drop i) (isC b)).length_le
  rw [List.length_drop] at h1
  omega
theorem tE_gt {t : Tx} {y : Sym} {i e : Nat} (h : e ∈ tE t y i) : i < e ∧ e ≤ t.length := by
  cases y with
  | lit c =>
    simp only [tE] at h
    split at h
    · rename_i q
      have := (List.getElem?_eq_some_iff.mp q).1
      simp at h; omega
    · simp at h
  | run b =>
    simp only [tE] at h
    split at h
    · rename_i q
      simp at h
      subst h
      refine ⟨q, ?_⟩
      by_cases hi : i ≤ t.length
      · exact runE_le hi
      · unfold runE at q
        rw [List.drop_eq_nil_of_le (by omega)] at q
        simp at q
    · simp at h
  | nt x => simp [tE] at h
theorem tE_one {t : Tx} {y : Sym} {i e e' : Nat} (h : e ∈ tE t y i) (h' : e' ∈ tE t y i) : e = e' := by
  cases y with
  | lit c => simp only [tE] at h h'; split at h <;> simp_all
  | run b => simp only [tE] at h h'; split at h <;> simp_all
  | nt x => simp [tE] at h

/-- what is seen from left to right: the first j symbols of rule r from s to m -/
inductive It (l : Bool) (t : Tx) : Nat → Nat → Nat → Nat → Prop
  | init {r} : r ∈ byN .p → It l t r 0 0 0
  | pred {r j s m x r'} : It l t r j s m → (syms l r)[j]? = some (.nt x) → r' ∈ byN x → It l t r' 0 m m
  | scan {r j s m y e} : It l t r j s m → (syms l r)[j]? = some y → e ∈ tE t y m → It l t r (j + 1) s e
  | comp {r j s m x r' e} : It l t r j s m → (syms l r)[j]? = some (.nt x) → It l t r' (syms l r').length m e → left r' = x → It l t r (j + 1) s e

theorem It.bd {l t r j s m} (h : It l t r j s m) : r < 9 ∧ j ≤ (syms l r).length ∧ s ≤ m ∧ m ≤ t.length := by
  induction h with
  | init h => exact ⟨(byN_left h).2, Nat.zero_le _, Nat.le_refl _, Nat.zero_le _⟩
  | pred h1 h2 h3 ih => exact ⟨(byN_left h3).2, Nat.zero_le _, Nat.le_refl _, ih.2.2.2⟩
  | scan h1 h2 h3 ih =>
    have := tE_gt h3
    have h4 := (List.getElem?_eq_some_iff.mp h2).1
    exact ⟨ih.1, h4, by omega, by omega⟩
  | comp h1 h2 h3 h4 ih1 ih2 =>
    have h5 := (List.getElem?_eq_some_iff.mp h2).1
    exact ⟨ih1.1, h5, by omega, ih2.2.2.2⟩
theorem nt0 {l : Bool} {r : Nat} {x : NT} (h : (syms l r)[0]? = some (.nt x)) (hr : r < 9) : left r ≠ .word ∧ x ≠ .p := by
  have : r = 0 ∨ r = 1 ∨ r = 2 ∨ r = 3 ∨ r = 4 ∨ r = 5 ∨ r = 6 ∨ r = 7 ∨ r = 8 := by omega
  rcases this with h' | h' | h' | h' | h' | h' | h' | h' | h' <;> subst h' <;> simp [syms, left] at h ⊢ <;> (try subst h) <;> (try cases l) <;> simp_all
theorem It.lt {l t r j s m} (h : It l t r j s m) : 0 < j → s < m := by
  induction h with
  | init h => intro q; omega
  | pred h1 h2 h3 ih => intro q; omega
  | scan h1 h2 h3 ih =>
    intro _
    have := tE_gt h3
    have := h1.bd
    omega
  | @comp r j s m x r' e h1 h2 h3 h4 ih1 ih2 =>
    intro _
    have b1 := h1.bd
    have b2 := h3.bd
    by_cases hj : 0 < j
    · have := ih1 hj; omega
    · have e : j = 0 := by omega
      subst e
      have hx := (nt0 h2 b1.1).2
      have : 0 < (syms l r').length := by
        rw [← h4] at hx
        have : r' = 0 ∨ r' = 1 ∨ r' = 2 ∨ r' = 3 ∨ r' = 4 ∨ r' = 5 ∨ r' = 6 ∨ r' = 7 ∨ r' = 8 := by omega
        rcases this with h' | h' | h' | h' | h' | h' | h' | h' | h' <;> subst h' <;> simp [syms, left] at hx ⊢
      have := ih2 this
      omega
theorem It.full0 {l t r s} (h : It l t r (syms l r).length s s) : left r = .p := by
  have b := h.bd
  by_cases q : 0 < (syms l r).length
  · have := h.lt q; omega
  · have : r = 0 ∨ r = 1 ∨ r = 2 ∨ r = 3 ∨ r = 4 ∨ r = 5 ∨ r = 6 ∨ r = 7 ∨ r = 8 := by omega
    rcases this with h' | h' | h' | h' | h' | h' | h' | h' | h' <;> subst h' <;> simp [syms, left] at q ⊢

/-- x derives the stretch from i to e (where x was asked for at i) -/
def Dn (l : Bool) (t : Tx) (x : NT) (i e : Nat) : Prop := ∃ r, left r = x ∧ It l t r (syms l r).length i e
open Classical in
/-- the ends of a symbol, ascending -/
noncomputable def En (l : Bool) (t : Tx) (y : Sym) (i : Nat) : List Nat := match y with
  | .nt x => (List.range (t.length + 1)).filter fun e => decide (Dn l t x i e)
  | y => tE t y i
theorem mem_En_nt {l t x i e} : e ∈ En l t (.nt x) i ↔ Dn l t x i e := by
  simp only [En, List.mem_filter, List.mem_range, decide_eq_true_eq]
  constructor
  · exact fun h => h.2
  · intro h
    obtain ⟨r, h1, h2⟩ := id h
    exact ⟨by have := h2.bd; omega, h⟩
theorem En_t {l t y i} (h : ∀ x, y ≠ .nt x) : En l t y i = tE t y i := by
  cases y with
  | nt x => exact absurd rfl (h x)
  | lit c => rfl
  | run b => rfl
theorem En_nd {l t y i} : (En l t y i).Nodup := by
  cases y with
  | nt x => exact List.Pairwise.sublist List.filter_sublist List.nodup_range
  | lit c => simp only [En, tE]; split <;> simp
  | run c => simp only [En, tE]; split <;> simp
theorem En_ge {l t y i e} (h : e ∈ En l t y i) : i ≤ e ∧ e ≤ t.length := by
  cases y with
  | nt x =>
    obtain ⟨r, _, h2⟩ := mem_En_nt.mp h
    have := h2.bd; omega
  | lit c => have := tE_gt (y := .lit c) h; omega
  | run c => have := tE_gt (y := .run c) h; omega
theorem En_gt {l t y i e} (h : e ∈ En l t y i) (hp : y ≠ .nt .p) : i < e := by
  cases y with
  | nt x =>
    obtain ⟨r, h1, h2⟩ := mem_En_nt.mp h
    have b := h2.bd
    by_cases q : 0 < (syms l r).length
    · exact h2.lt q
    · exfalso
      have : r = 0 ∨ r = 1 ∨ r = 2 ∨ r = 3 ∨ r = 4 ∨ r = 5 ∨ r = 6 ∨ r = 7 ∨ r = 8 := by omega
      rcases this with h' | h' | h' | h' | h' | h' | h' | h' | h' <;> subst h' <;> simp [syms, left] at q h1
      subst h1; exact hp rfl
  | lit c => exact (tE_gt (y := .lit c) h).1
  | run c => exact (tE_gt (y := .run c) h).1
theorem It.step {l t r j s m y e} (h : It l t r j s m) (hy : (syms l r)[j]? = some y) (he : e ∈ En l t y m) : It l t r (j + 1) s e := by
  cases y with
  | nt x =>
    obtain ⟨r', h1, h2⟩ := mem_En_nt.mp he
    exact .comp h hy h2 h1
  | lit c => exact .scan h hy he
  | run c => exact .scan h hy he
/-- a state one symbol on comes from one that is one symbol back -/
theorem It.back {l t r j s e} (h : It l t r (j + 1) s e) : ∃ m y, It l t r j s m ∧ (syms l r)[j]? = some y ∧ e ∈ En l t y m := by
  generalize hk : j + 1 = k at h
  cases h with
  | init _ => omega
  | pred _ _ _ => omega
  | @scan _ j' _ m y _ h1 h2 h3 =>
    have : j' = j := by omega
    subst this
    refine ⟨m, y, h1, h2, ?_⟩
    cases y with
    | nt x => simp [tE] at h3
    | lit c => exact h3
    | run c => exact h3
  | @comp _ j' _ m x r' _ h1 h2 h3 h4 =>
    have : j' = j := by omega
    subst this
    exact ⟨m, .nt x, h1, h2, mem_En_nt.mpr ⟨r', h4, h3⟩⟩
theorem It.start {l t r j s m} (h : It l t r j s m) : It l t r 0 s s := by
  induction h with
  | init h => exact .init h
  | pred h1 h2 h3 _ => exact .pred h1 h2 h3
  | scan _ _ _ ih => exact ih
  | comp _ _ _ _ ih _ => exact ih
end K38
/-! Plain mathematics, part 2: the rows that are filled from left to right are just It. -/
namespace K38
abbrev I3 := Nat × Nat × Nat
structure SS where
  st : Nat → List I3
  wt : Nat → NT → Option (List I3)
  rw : Nat → NT → Option (List Nat)
  md : Nat
def setA {α : Type} (f : Nat → α) (i : Nat) (v : α) : Nat → α := fun j => if j = i then v else f j
def setB {α : Type} (f : Nat → NT → α) (i : Nat) (x : NT) (v : α) : Nat → NT → α := fun j y => if j = i ∧ y = x then v else f j y
theorem setA_same {α} {f : Nat → α} {i v} : setA f i v i = v := by simp [setA]
theorem setA_ne {α} {f : Nat → α} {i j v} (h : j ≠ i) : setA f i v j = f j := by simp [setA, h]
theorem setB_same {α} {f : Nat → NT → α} {i x v} : setB f i x v i x = v := by simp [setB]
theorem setB_ne {α} {f : Nat → NT → α} {i j x y v} (h : ¬ (j = i ∧ y = x)) : setB f i x v j y = f j y := by simp [setB, h]
def addI (S : SS) (at_ : Nat) (x : I3) : SS := if x ∈ S.st at_ then S else { S with st := setA S.st at_ (S.st at_ ++ [x]) }
def predI (S : SS) (at_ : Nat) (rs : List Nat) : SS := rs.foldl (fun S r => addI S at_ (r, 0, at_)) S
def scanI (S : SS) (x : I3) (es : List Nat) : SS := es.foldl (fun S e => addI S e (x.1, x.2.1 + 1, x.2.2)) S
def advI (S : SS) (at_ : Nat) (ys : List I3) : SS := ys.foldl (fun S y => addI S at_ (y.1, y.2.1 + 1, y.2.2)) S
def compI (S : SS) (at_ : Nat) (x : NT) (s : Nat) : SS :=
  let es := (S.rw s x).getD []
  if at_ ∈ es then { S with rw := setB S.rw s x (some es) }
  else advI { S with rw := setB S.rw s x (some (es ++ [at_])) } at_ ((S.wt s x).getD [])
def wait1 (S : SS) (at_ : Nat) (x : NT) : SS := if (S.wt at_ x).isSome then S else predI { S with wt := setB S.wt at_ x (some []) } at_ (byN x)
def wait2 (S : SS) (at_ : Nat) (i : I3) (x : NT) : SS := { S with wt := setB S.wt at_ x (some ((S.wt at_ x).getD [] ++ [i])) }
def waitI (S : SS) (at_ : Nat) (i : I3) (x : NT) : SS :=
  let S2 := wait2 (wait1 S at_ x) at_ i x
  if x = .p then addI S2 at_ (i.1, i.2.1 + 1, i.2.2) else S2
def stepI (l : Bool) (t : Tx) (S : SS) (at_ : Nat) (i : I3) : SS := match (syms l i.1)[i.2.1]? with
  | none => compI S at_ (left i.1) i.2.2
  | some (.nt x) => waitI S at_ i x
  | some y => scanI S i (tE t y at_)

/-- only the lists of items have grown -/
structure Grow (S S' : SS) : Prop where
  st : ∀ m x, x ∈ S.st m → x ∈ S'.st m
  wt : S'.wt = S.wt
  rw : S'.rw = S.rw
  md : S'.md = S.md
  pre : ∀ m, ∃ zs, S'.st m = S.st m ++ zs
theorem Grow.refl (S : SS) : Grow S S := ⟨fun _ _ h => h, rfl, rfl, rfl, fun m => ⟨[], by simp⟩⟩
theorem Grow.trans {S S1 S2 : SS} (a : Grow S S1) (b : Grow S1 S2) : Grow S S2 := ⟨fun m x h => b.st m x (a.st m x h), b.wt.trans a.wt, b.rw.trans a.rw, b.md.trans a.md, fun m => by
  obtain ⟨z1, h1⟩ := a.pre m
  obtain ⟨z2, h2⟩ := b.pre m
  exact ⟨z1 ++ z2, by rw [h2, h1, List.append_assoc]⟩⟩
theorem addI_grow (S : SS) (m : Nat) (x : I3) : Grow S (addI S m x) := by
  unfold addI
  split
  · exact .refl S
  · refine ⟨fun k y h => ?_, rfl, rfl, rfl, fun k => ?_⟩
    · show y ∈ setA S.st m (S.st m ++ [x]) k
      by_cases e : k = m
      · subst e; rw [setA_same]; exact List.mem_append_left _ h
      · rw [setA_ne e]; exact h
    · show ∃ zs, setA S.st m (S.st m ++ [x]) k = _
      by_cases e : k = m
      · subst e; rw [setA_same]; exact ⟨_, rfl⟩
      · rw [setA_ne e]; exact ⟨[], by simp⟩
theorem addI_mem (S : SS) (m : Nat) (x : I3) : x ∈ (addI S m x).st m := by
  unfold addI
  split
  · assumption
  · show x ∈ setA S.st m (S.st m ++ [x]) m
    rw [setA_same]; simp
theorem addI_from {S : SS} {m k : Nat} {x y : I3} (h : y ∈ (addI S m x).st k) : y ∈ S.st k ∨ (k = m ∧ y = x) := by
  unfold addI at h
  split at h
  · exact .inl h
  · have h : y ∈ setA S.st m (S.st m ++ [x]) k := h
    by_cases e : k = m
    · subst e; rw [setA_same] at h
      rcases List.mem_append.mp h with q | q
      · exact .inl q
      · exact .inr ⟨rfl, by simpa using q⟩
    · rw [setA_ne e] at h; exact .inl h
theorem addI_nd {S : SS} {m : Nat} {x : I3} (h : ∀ k, (S.st k).Nodup) (k : Nat) : ((addI S m x).st k).Nodup := by
  unfold addI
  split
  · exact h k
  · rename_i hn
    show (setA S.st m (S.st m ++ [x]) k).Nodup
    by_cases e : k = m
    · subst e; rw [setA_same]
      refine List.nodup_append.mpr ⟨h k, by simp, ?_⟩
      intro a ha b hb q
      have : b = x := by simpa using hb
      subst this; subst q; exact hn ha
    · rw [setA_ne e]; exact h k
theorem foldG {α : Type} (f : SS → α → SS) (hf : ∀ S a, Grow S (f S a)) : ∀ (as : List α) (S : SS), Grow S (as.foldl f S)
  | [], S => .refl S
  | a :: as, S => (hf S a).trans (foldG f hf as (f S a))
/-- what a row of additions gives -/
theorem fold_add {α : Type} (g : α → Nat × I3) : ∀ (as : List α) (S : SS), (∀ k, (S.st k).Nodup) →
    let S' := as.foldl (fun S a => addI S (g a).1 (g a).2) S
    Grow S S' ∧ (∀ a ∈ as, (g a).2 ∈ S'.st (g a).1) ∧ (∀ k, (S'.st k).Nodup) ∧ ∀ k y, y ∈ S'.st k → y ∈ S.st k ∨ ∃ a ∈ as, k = (g a).1 ∧ y = (g a).2
  | [], S, hn => ⟨.refl S, by simp, hn, fun k y h => .inl h⟩
  | a :: as, S, hn => by
    obtain ⟨h1, h2, h3, h4⟩ := fold_add g as (addI S (g a).1 (g a).2) (addI_nd hn)
    refine ⟨(addI_grow S _ _).trans h1, fun b hb => ?_, h3, fun k y h => ?_⟩
    · rcases List.mem_cons.mp hb with e | hb
      · subst e; exact h1.st _ _ (addI_mem S _ _)
      · exact h2 b hb
    · rcases h4 k y h with q | ⟨b, hb, e1, e2⟩
      · rcases addI_from q with q | ⟨e1, e2⟩
        · exact .inl q
        · exact .inr ⟨a, by simp, e1, e2⟩
      · exact .inr ⟨b, List.mem_cons_of_mem _ hb, e1, e2⟩

/-- what is due of an item that was treated -/
structure Done (l : Bool) (t : Tx) (S : SS) (m : Nat) (i : I3) : Prop where
  full : (syms l i.1)[i.2.1]? = none → ∃ es, S.rw i.2.2 (left i.1) = some es ∧ m ∈ es
  nt : ∀ x, (syms l i.1)[i.2.1]? = some (.nt x) → (∃ ys, S.wt m x = some ys ∧ i ∈ ys) ∧ (x = .p → (i.1, i.2.1 + 1, i.2.2) ∈ S.st m)
  tm : ∀ y, (syms l i.1)[i.2.1]? = some y → ∀ e ∈ tE t y m, (i.1, i.2.1 + 1, i.2.2) ∈ S.st e
/-- the positions below k are treated, and d items at k -/
structure Good (l : Bool) (t : Tx) (k d : Nat) (S : SS) : Prop where
  sound : ∀ m i, i ∈ S.st m → It l t i.1 i.2.1 i.2.2 m
  nd : ∀ m, (S.st m).Nodup
  init : ∀ r ∈ byN .p, (r, 0, 0) ∈ S.st 0
  done : ∀ m i, i ∈ S.st m → m < k → Done l t S m i
  doneK : ∀ j i, j < d → (S.st k)[j]? = some i → Done l t S k i
  wts : ∀ m x ys i, S.wt m x = some ys → i ∈ ys → i ∈ S.st m ∧ (syms l i.1)[i.2.1]? = some (.nt x)
  pw : ∀ m x ys, S.wt m x = some ys → ∀ r ∈ byN x, (r, 0, m) ∈ S.st m
  wk : ∀ m x ys, S.wt m x = some ys → m ≤ k
  rws : ∀ m x es e, S.rw m x = some es → e ∈ es → e ≤ k ∧ Dn l t x m e
  rnd : ∀ m x es, S.rw m x = some es → es.Nodup
  adv : ∀ m e x es ys i, S.rw m x = some es → e ∈ es → m < e → S.wt m x = some ys → i ∈ ys → (i.1, i.2.1 + 1, i.2.2) ∈ S.st e
theorem Done.grow {l t S S' m i} (h : Done l t S m i) (hs : ∀ m x, x ∈ S.st m → x ∈ S'.st m) (hw : ∀ x ys, S.wt m x = some ys → ∃ ys', S'.wt m x = some ys' ∧ ∀ y ∈ ys, y ∈ ys')
    (hr : ∀ x es, S.rw i.2.2 x = some es → ∃ es', S'.rw i.2.2 x = some es' ∧ ∀ y ∈ es, y ∈ es') : Done l t S' m i where
  full := fun q => by
    obtain ⟨es, h1, h2⟩ := h.full q
    obtain ⟨es', h3, h4⟩ := hr _ _ h1
    exact ⟨es', h3, h4 _ h2⟩
  nt := fun x q => by
    obtain ⟨⟨ys, h1, h2⟩, h3⟩ := h.nt x q
    obtain ⟨ys', h4, h5⟩ := hw _ _ h1
    exact ⟨⟨ys', h4, h5 _ h2⟩, fun e => hs _ _ (h3 e)⟩
  tm := fun y q e he => hs _ _ (h.tm y q e he)
/-- sound additions at positions from k on -/
theorem Good.adds {l t k d S} {α : Type} {g : α → Nat × I3} {as : List α} (G : Good l t k d S) (hs : ∀ a ∈ as, It l t (g a).2.1 (g a).2.2.1 (g a).2.2.2 (g a).1 ∧ k ≤ (g a).1) (hd : d ≤ (S.st k).length) :
    let S' := as.foldl (fun S a => addI S (g a).1 (g a).2) S
    Good l t k d S' ∧ (∀ a ∈ as, (g a).2 ∈ S'.st (g a).1) ∧ Grow S S' := by
  obtain ⟨h1, h2, h3, h4⟩ := fold_add g as S G.nd
  refine ⟨?_, h2, h1⟩
  generalize as.foldl (fun S a => addI S (g a).1 (g a).2) S = S' at *
  have dg : ∀ m i, Done l t S m i → Done l t S' m i := fun m i h => h.grow h1.st (fun x ys q => ⟨ys, by rw [h1.wt]; exact q, fun _ z => z⟩) (fun x es q => ⟨es, by rw [h1.rw]; exact q, fun _ z => z⟩)
  refine ⟨fun m i h => ?_, h3, fun r hr => h1.st _ _ (G.init r hr), fun m i h hm => ?_, fun j i hj h => ?_, fun m x ys i q hi => ?_, fun m x ys q r hr => ?_, fun m x ys q => ?_, fun m x es e q he => ?_, fun m x es q => ?_, fun m e x es ys i q he hm qw hi => ?_⟩
  · rcases h4 m i h with q | ⟨a, ha, e1, e2⟩
    · exact G.sound m i q
    · subst e1 e2; exact (hs a ha).1
  · rcases h4 m i h with q | ⟨a, ha, e1, e2⟩
    · exact dg _ _ (G.done m i q hm)
    · have := (hs a ha).2; omega
  · obtain ⟨zs, e⟩ := h1.pre k
    rw [e, List.getElem?_append_left (by omega)] at h
    exact dg _ _ (G.doneK j i hj h)
  · rw [h1.wt] at q
    obtain ⟨z1, z2⟩ := G.wts m x ys i q hi
    exact ⟨h1.st _ _ z1, z2⟩
  · rw [h1.wt] at q; exact h1.st _ _ (G.pw m x ys q r hr)
  · rw [h1.wt] at q; exact G.wk m x ys q
  · rw [h1.rw] at q; exact G.rws m x es e q he
  · rw [h1.rw] at q; exact G.rnd m x es q
  · rw [h1.rw] at q; rw [h1.wt] at qw; exact h1.st _ _ (G.adv m e x es ys i q he hm qw hi)
/-- one more item of position k, whose dues are there -/
theorem Good.next {l t k d S i} (G : Good l t k d S) (hi : (S.st k)[d]? = some i) (hd : Done l t S k i) : Good l t k (d + 1) S := by
  refine { G with doneK := fun j i' hj h => ?_ }
  by_cases e : j = d
  · subst e
    rw [hi] at h
    cases h
    exact hd
  · exact G.doneK j i' (by omega) h
theorem keep_len {k d : Nat} {S S' : SS} {i : I3} (G : Grow S S') (h : (S.st k)[d]? = some i) : (S'.st k)[d]? = some i ∧ d ≤ (S'.st k).length := by
  obtain ⟨zs, e⟩ := G.pre k
  have hl := (List.getElem?_eq_some_iff.mp h).1
  rw [e, List.getElem?_append_left hl]
  exact ⟨h, by rw [List.length_append]; omega⟩
theorem Good.scan {l t k d S i y} (G : Good l t k d S) (hi : (S.st k)[d]? = some i) (hy : (syms l i.1)[i.2.1]? = some y) (hn : ∀ x, y ≠ .nt x) :
    Good l t k (d + 1) (scanI S i (tE t y k)) ∧ Grow S (scanI S i (tE t y k)) := by
  have hl := (List.getElem?_eq_some_iff.mp hi).1
  have hs := G.sound k i (List.mem_of_getElem? hi)
  obtain ⟨G', hm, hg⟩ := G.adds (g := fun e => (e, (i.1, i.2.1 + 1, i.2.2))) (as := tE t y k) (fun e he => ⟨.scan hs hy he, Nat.le_of_lt (tE_gt he).1⟩) (by omega)
  refine ⟨?_, hg⟩
  obtain ⟨h1, h2⟩ := keep_len (d := d) hg hi
  refine Good.next (i := i) G' h1 ⟨fun q => ?_, fun x q => ?_, fun y' q e he => ?_⟩
  · rw [hy] at q; cases q
  · rw [hy] at q; cases q; exact absurd rfl (hn x)
  · rw [hy] at q; cases q; exact hm e he
theorem compI_eq {S : SS} {m : Nat} {x : NT} {s : Nat} : compI S m x s = (if m ∈ (S.rw s x).getD [] then { S with rw := setB S.rw s x (some ((S.rw s x).getD [])) } else advI { S with rw := setB S.rw s x (some ((S.rw s x).getD [] ++ [m])) } m ((S.wt s x).getD [])) := rfl
theorem Good.comp {l t k d S i} (G : Good l t k d S) (hi : (S.st k)[d]? = some i) (hy : (syms l i.1)[i.2.1]? = none) :
    Good l t k (d + 1) (compI S k (left i.1) i.2.2) ∧ Grow { S with rw := (compI S k (left i.1) i.2.2).rw } (compI S k (left i.1) i.2.2) := by
  have hl := (List.getElem?_eq_some_iff.mp hi).1
  have hs := G.sound k i (List.mem_of_getElem? hi)
  have hb := hs.bd
  have hj : i.2.1 = (syms l i.1).length := by
    have := List.getElem?_eq_none_iff.mp hy
    omega
  have hdn : Dn l t (left i.1) i.2.2 k := ⟨i.1, rfl, by rw [← hj]; exact hs⟩
  rw [compI_eq]
  by_cases hm : k ∈ (S.rw i.2.2 (left i.1)).getD []
  · rw [if_pos hm]
    obtain ⟨es, hes⟩ : ∃ es, S.rw i.2.2 (left i.1) = some es := by
      cases q : S.rw i.2.2 (left i.1) with
      | none => rw [q] at hm; simp at hm
      | some es => exact ⟨es, rfl⟩
    rw [hes, Option.getD_some] at hm ⊢
    have e : setB S.rw i.2.2 (left i.1) (some es) = S.rw := by
      funext m x
      unfold setB
      by_cases q : m = i.2.2 ∧ x = left i.1
      · rw [if_pos q, q.1, q.2, hes]
      · rw [if_neg q]
    rw [e]
    exact ⟨G.next hi ⟨fun _ => ⟨es, hes, hm⟩, fun x q => (by rw [hy] at q; cases q), fun y q => (by rw [hy] at q; cases q)⟩, Grow.refl _⟩
  · rw [if_neg hm]
    -- the state with the new end
    generalize he0 : (S.rw i.2.2 (left i.1)).getD [] = es0 at hm ⊢
    have h0 : ∀ es, S.rw i.2.2 (left i.1) = some es → es = es0 := fun es q => by rw [q] at he0; exact he0
    have hwk : ∀ y ∈ (S.wt i.2.2 (left i.1)).getD [], ∃ ys, S.wt i.2.2 (left i.1) = some ys ∧ y ∈ ys := fun y hy => by
      cases q : S.wt i.2.2 (left i.1) with
      | none => rw [q] at hy; simp at hy
      | some ys => rw [q] at hy; exact ⟨ys, rfl, hy⟩
    obtain ⟨h1, h2, h3, h4⟩ := fold_add (fun y : I3 => (k, (y.1, y.2.1 + 1, y.2.2))) ((S.wt i.2.2 (left i.1)).getD []) { S with rw := setB S.rw i.2.2 (left i.1) (some (es0 ++ [k])) } G.nd
    have hadv : advI { S with rw := setB S.rw i.2.2 (left i.1) (some (es0 ++ [k])) } k ((S.wt i.2.2 (left i.1)).getD []) = ((S.wt i.2.2 (left i.1)).getD []).foldl (fun S a => addI S k (a.1, a.2.1 + 1, a.2.2)) { S with rw := setB S.rw i.2.2 (left i.1) (some (es0 ++ [k])) } := rfl
    rw [hadv]
    generalize ((S.wt i.2.2 (left i.1)).getD []).foldl (fun S a => addI S k (a.1, a.2.1 + 1, a.2.2)) { S with rw := setB S.rw i.2.2 (left i.1) (some (es0 ++ [k])) } = S' at *
    have er : S'.rw = setB S.rw i.2.2 (left i.1) (some (es0 ++ [k])) := h1.rw
    have ew : S'.wt = S.wt := h1.wt
    have hst : ∀ m x, x ∈ S.st m → x ∈ S'.st m := h1.st
    have rwn : ∀ m x es, S'.rw m x = some es → (m = i.2.2 ∧ x = left i.1 ∧ es = es0 ++ [k]) ∨ S.rw m x = some es := fun m x es q => by
      rw [er] at q
      by_cases c : m = i.2.2 ∧ x = left i.1
      · rw [c.1, c.2, setB_same] at q; cases q; exact .inl ⟨c.1, c.2, rfl⟩
      · rw [setB_ne c] at q; exact .inr q
    have e0sub : ∀ e ∈ es0, ∃ es, S.rw i.2.2 (left i.1) = some es ∧ e ∈ es := fun e he => by
      cases q : S.rw i.2.2 (left i.1) with
      | none => rw [q] at he0; simp at he0; subst he0; simp at he
      | some es => exact ⟨es, rfl, by rw [h0 es q]; exact he⟩
    have dg : ∀ m j, Done l t S m j → Done l t S' m j := fun m j h => h.grow hst (fun x ys q => ⟨ys, by rw [ew]; exact q, fun _ z => z⟩) (fun x es q => by
      by_cases c : j.2.2 = i.2.2 ∧ x = left i.1
      · rw [c.1, c.2] at q
        exact ⟨es0 ++ [k], by rw [er, c.1, c.2, setB_same], fun y hy => by rw [← h0 es q]; exact List.mem_append_left _ hy⟩
      · exact ⟨es, by rw [er, setB_ne c]; exact q, fun _ z => z⟩)
    have hin : ∀ m j, j ∈ S'.st m → j ∈ S.st m ∨ (m = k ∧ It l t j.1 j.2.1 j.2.2 k) := fun m j h => by
      rcases h4 m j h with q | ⟨a, ha, e1, e2⟩
      · exact .inl q
      · have e1 : m = k := e1
        subst e1 e2
        obtain ⟨ys, hys, hay⟩ := hwk a ha
        obtain ⟨z1, z2⟩ := G.wts _ _ _ _ hys hay
        exact .inr ⟨rfl, (G.sound _ _ z1).step z2 (mem_En_nt.mpr hdn)⟩
    have gr : Grow { S with rw := S'.rw } S' := ⟨hst, ew, rfl, h1.md, h1.pre⟩
    refine ⟨?_, gr⟩
    obtain ⟨z1, z2⟩ := keep_len (S := { S with rw := S'.rw }) (d := d) gr hi
    have G' : Good l t k d S' := by
      refine ⟨fun m j h => ?_, h3, fun r hr => hst _ _ (G.init r hr), fun m j h hm => ?_, fun j i' hj h => ?_, fun m x ys j q hj => ?_, fun m x ys q r hr => ?_, fun m x ys q => ?_, fun m x es e q he => ?_, fun m x es q => ?_, fun m e x es ys j q he hm' qw hj => ?_⟩
      · rcases hin m j h with q | ⟨e, q⟩
        · exact G.sound m j q
        · subst e; exact q
      · rcases hin m j h with q | ⟨e, q⟩
        · exact dg _ _ (G.done m j q hm)
        · omega
      · obtain ⟨zs, e⟩ := gr.pre k
        have e : S'.st k = S.st k ++ zs := e
        rw [e, List.getElem?_append_left (by omega)] at h
        exact dg _ _ (G.doneK j i' hj h)
      · rw [ew] at q
        obtain ⟨y1, y2⟩ := G.wts m x ys j q hj
        exact ⟨hst _ _ y1, y2⟩
      · rw [ew] at q; exact hst _ _ (G.pw m x ys q r hr)
      · rw [ew] at q; exact G.wk m x ys q
      · rcases rwn m x es q with ⟨e1, e2, e3⟩ | q
        · subst e1 e2 e3
          rcases List.mem_append.mp he with he | he
          · obtain ⟨es, q1, q2⟩ := e0sub e he
            exact G.rws _ _ es e q1 q2
          · have : e = k := by simpa using he
            subst this; exact ⟨Nat.le_refl _, hdn⟩
        · exact G.rws m x es e q he
      · rcases rwn m x es q with ⟨e1, e2, e3⟩ | q
        · subst e1 e2 e3
          refine List.nodup_append.mpr ⟨?_, by simp, ?_⟩
          · cases q' : S.rw i.2.2 (left i.1) with
            | none => rw [q'] at he0; simp at he0; subst he0; simp
            | some es => rw [← h0 es q']; exact G.rnd _ _ es q'
          · intro a ha b hb e
            have : b = k := by simpa using hb
            subst this; subst e; exact hm ha
        · exact G.rnd m x es q
      · rw [ew] at qw
        rcases rwn m x es q with ⟨e1, e2, e3⟩ | q
        · subst e1 e2 e3
          rcases List.mem_append.mp he with he | he
          · obtain ⟨es, q1, q2⟩ := e0sub e he
            exact hst _ _ (G.adv _ e _ es ys j q1 q2 hm' qw hj)
          · have : e = k := by simpa using he
            subst this
            exact h2 j (by rw [qw]; exact hj)
        · exact hst _ _ (G.adv m e x es ys j q he hm' qw hj)
    refine Good.next (i := i) G' z1 ⟨fun _ => ⟨es0 ++ [k], by rw [er, setB_same], by simp⟩, fun x q => (by rw [hy] at q; cases q), fun y q => (by rw [hy] at q; cases q)⟩
theorem addI_wt (S : SS) (m : Nat) (x : I3) (w : Nat → NT → Option (List I3)) : addI { S with wt := w } m x = { addI S m x with wt := w } := by
  unfold addI
  by_cases h : x ∈ S.st m
  · rw [if_pos h, if_pos (show x ∈ ({ S with wt := w } : SS).st m from h)]
  · rw [if_neg h, if_neg (show ¬ x ∈ ({ S with wt := w } : SS).st m from h)]
theorem fold_wt {α : Type} (g : α → Nat × I3) (w : Nat → NT → Option (List I3)) : ∀ (as : List α) (S : SS), as.foldl (fun S a => addI S (g a).1 (g a).2) { S with wt := w } = { as.foldl (fun S a => addI S (g a).1 (g a).2) S with wt := w }
  | [], _ => rfl
  | a :: as, S => by
    rw [List.foldl_cons, List.foldl_cons, addI_wt]
    exact fold_wt g w as _
theorem Good.wait {l t k d S i x} (G : Good l t k d S) (hi : (S.st k)[d]? = some i) (hy : (syms l i.1)[i.2.1]? = some (.nt x)) :
    Good l t k (d + 1) (waitI S k i x) ∧ (waitI S k i x).rw = S.rw ∧ (waitI S k i x).md = S.md ∧ ∀ m, ∃ zs, (waitI S k i x).st m = S.st m ++ zs := by
  have hl := (List.getElem?_eq_some_iff.mp hi).1
  have hs := G.sound k i (List.mem_of_getElem? hi)
  rw [show waitI S k i x = (if x = .p then addI (wait2 (wait1 S k x) k i x) k (i.1, i.2.1 + 1, i.2.2) else wait2 (wait1 S k x) k i x) from rfl]
  -- the name is waited for
  obtain ⟨G1, hw1, hi1, hr1, hm1, hp1⟩ : Good l t k d (wait1 S k x) ∧ (∃ ys, (wait1 S k x).wt k x = some ys) ∧ ((wait1 S k x).st k)[d]? = some i ∧ (wait1 S k x).rw = S.rw ∧ (wait1 S k x).md = S.md ∧ ∀ m, ∃ zs, (wait1 S k x).st m = S.st m ++ zs := by
    unfold wait1
    by_cases c : (S.wt k x).isSome = true
    · rw [if_pos c]
      exact ⟨G, Option.isSome_iff_exists.mp c, hi, rfl, rfl, fun m => ⟨[], by simp⟩⟩
    · rw [if_neg c]
      have hn : S.wt k x = none := by
        cases q : S.wt k x with
        | none => rfl
        | some _ => rw [q] at c; simp at c
      obtain ⟨Gx, hm, hg⟩ := G.adds (g := fun r => (k, (r, 0, k))) (as := byN x) (fun r hr => ⟨.pred hs hy hr, Nat.le_refl _⟩) (by omega)
      have ep : predI { S with wt := setB S.wt k x (some []) } k (byN x) = { (byN x).foldl (fun S r => addI S k (r, 0, k)) S with wt := setB S.wt k x (some []) } := fold_wt (fun r => (k, (r, 0, k))) _ _ _
      rw [ep]
      generalize (byN x).foldl (fun S r => addI S k (r, 0, k)) S = Sx at *
      obtain ⟨z1, _⟩ := keep_len (d := d) hg hi
      have ew : Sx.wt = S.wt := hg.wt
      have wn : ∀ m y ys, setB S.wt k x (some []) m y = some ys → (m = k ∧ y = x ∧ ys = []) ∨ Sx.wt m y = some ys := fun m y ys q => by
        by_cases c : m = k ∧ y = x
        · rw [c.1, c.2, setB_same] at q; cases q; exact .inl ⟨c.1, c.2, rfl⟩
        · rw [setB_ne c] at q; rw [ew]; exact .inr q
      have dg : ∀ m j, Done l t Sx m j → Done l t { Sx with wt := setB S.wt k x (some []) } m j := fun m j h => h.grow (fun _ _ z => z) (fun y ys q => by
        rw [ew] at q
        by_cases c : m = k ∧ y = x
        · rw [c.1, c.2, hn] at q; cases q
        · exact ⟨ys, by show setB S.wt k x (some []) m y = _; rw [setB_ne c]; exact q, fun _ z => z⟩) (fun y es q => ⟨es, q, fun _ z => z⟩)
      refine ⟨⟨Gx.sound, Gx.nd, Gx.init, fun m j h hm => dg _ _ (Gx.done m j h hm), fun j i' hj h => dg _ _ (Gx.doneK j i' hj h), fun m y ys j q hj => ?_, fun m y ys q r hr => ?_, fun m y ys q => ?_, Gx.rws, Gx.rnd, fun m e y es ys j q he hm' qw hj => ?_⟩, ⟨[], setB_same⟩, z1, hg.rw, hg.md, hg.pre⟩
      · rcases wn m y ys q with ⟨_, _, e⟩ | q
        · subst e; simp at hj
        · exact Gx.wts m y ys j q hj
      · rcases wn m y ys q with ⟨e1, e2, e⟩ | q
        · subst e1 e2; exact hm r hr
        · exact Gx.pw m y ys q r hr
      · rcases wn m y ys q with ⟨e1, e2, e⟩ | q
        · omega
        · exact Gx.wk m y ys q
      · rcases wn m y ys qw with ⟨_, _, e⟩ | qw
        · subst e; simp at hj
        · exact Gx.adv m e y es ys j q he hm' qw hj
  generalize wait1 S k x = S1 at *
  obtain ⟨ys0, hys0⟩ := hw1
  -- the item waits
  have G2 : Good l t k d (wait2 S1 k i x) ∧ (∃ ys, (wait2 S1 k i x).wt k x = some ys ∧ i ∈ ys) := by
    unfold wait2
    rw [hys0, Option.getD_some]
    have wn : ∀ m y ys, setB S1.wt k x (some (ys0 ++ [i])) m y = some ys → (m = k ∧ y = x ∧ ys = ys0 ++ [i]) ∨ S1.wt m y = some ys := fun m y ys q => by
      by_cases c : m = k ∧ y = x
      · rw [c.1, c.2, setB_same] at q; cases q; exact .inl ⟨c.1, c.2, rfl⟩
      · rw [setB_ne c] at q; exact .inr q
    have dg : ∀ m j, Done l t S1 m j → Done l t { S1 with wt := setB S1.wt k x (some (ys0 ++ [i])) } m j := fun m j h => h.grow (fun _ _ z => z) (fun y ys q => by
      by_cases c : m = k ∧ y = x
      · rw [c.1, c.2, hys0] at q; cases q
        exact ⟨ys0 ++ [i], by show setB S1.wt k x _ m y = _; rw [c.1, c.2, setB_same], fun z hz => List.mem_append_left _ hz⟩
      · exact ⟨ys, by show setB S1.wt k x _ m y = _; rw [setB_ne c]; exact q, fun _ z => z⟩) (fun y es q => ⟨es, q, fun _ z => z⟩)
    refine ⟨⟨G1.sound, G1.nd, G1.init, fun m j h hm => dg _ _ (G1.done m j h hm), fun j i' hj h => dg _ _ (G1.doneK j i' hj h), fun m y ys j q hj => ?_, fun m y ys q r hr => ?_, fun m y ys q => ?_, G1.rws, G1.rnd, fun m e y es ys j q he hm' qw hj => ?_⟩, ys0 ++ [i], setB_same, by simp⟩
    · rcases wn m y ys q with ⟨e1, e2, e⟩ | q
      · subst e1 e2 e
        rcases List.mem_append.mp hj with h | h
        · exact G1.wts _ _ _ _ hys0 h
        · have : j = i := by simpa using h
          subst this
          exact ⟨List.mem_of_getElem? hi1, hy⟩
      · exact G1.wts m y ys j q hj
    · rcases wn m y ys q with ⟨e1, e2, e⟩ | q
      · subst e1 e2; exact G1.pw _ _ _ hys0 r hr
      · exact G1.pw m y ys q r hr
    · rcases wn m y ys q with ⟨e1, e2, e⟩ | q
      · omega
      · exact G1.wk m y ys q
    · rcases wn m y ys qw with ⟨e1, e2, e3⟩ | qw
      · have := (G1.rws m y es e q he).1
        omega
      · exact G1.adv m e y es ys j q he hm' qw hj
  have hi2 : ((wait2 S1 k i x).st k)[d]? = some i := hi1
  have hr2 : (wait2 S1 k i x).rw = S.rw := hr1
  have hm2 : (wait2 S1 k i x).md = S.md := hm1
  have hp2 : ∀ m, ∃ zs, (wait2 S1 k i x).st m = S.st m ++ zs := hp1
  obtain ⟨G2, ys, hys, hin⟩ := G2
  generalize wait2 S1 k i x = S2 at *
  by_cases c : x = .p
  · subst c
    have hnull : Dn l t .p k k := ⟨1, rfl, .pred hs hy (by simp [byN])⟩
    obtain ⟨G3, hm3, hg3⟩ := G2.adds (g := fun _ : Unit => (k, (i.1, i.2.1 + 1, i.2.2))) (as := [()]) (fun _ _ => ⟨hs.step hy (mem_En_nt.mpr hnull), Nat.le_refl _⟩) (by have := (List.getElem?_eq_some_iff.mp hi2).1; omega)
    obtain ⟨z1, _⟩ := keep_len (d := d) hg3 hi2
    rw [if_pos rfl]
    have e3 : addI S2 k (i.1, i.2.1 + 1, i.2.2) = [()].foldl (fun S (_ : Unit) => addI S k (i.1, i.2.1 + 1, i.2.2)) S2 := rfl
    rw [e3]
    generalize [()].foldl (fun S (_ : Unit) => addI S k (i.1, i.2.1 + 1, i.2.2)) S2 = S3 at *
    refine ⟨G3.next z1 ⟨fun q => (by rw [hy] at q; cases q), fun y q => ?_, fun y q e he => ?_⟩, hg3.rw.trans hr2, hg3.md.trans hm2, fun m => ?_⟩
    · rw [hy] at q; cases q
      exact ⟨⟨ys, by rw [hg3.wt]; exact hys, hin⟩, fun _ => hm3 () (by simp)⟩
    · rw [hy] at q; cases q; simp [tE] at he
    · obtain ⟨z1, h1⟩ := hp2 m
      obtain ⟨z2, h2⟩ := hg3.pre m
      exact ⟨z1 ++ z2, by rw [h2, h1, List.append_assoc]⟩
  · rw [if_neg c]
    refine ⟨G2.next hi2 ⟨fun q => (by rw [hy] at q; cases q), fun y q => ?_, fun y q e he => ?_⟩, hr2, hm2, hp2⟩
    · rw [hy] at q; cases q
      exact ⟨⟨ys, hys, hin⟩, fun e => absurd e c⟩
    · rw [hy] at q; cases q; simp [tE] at he
theorem Good.step {l t k d S i} (G : Good l t k d S) (hi : (S.st k)[d]? = some i) :
    Good l t k (d + 1) (stepI l t S k i) ∧ (stepI l t S k i).md = S.md ∧ ∀ m, ∃ zs, (stepI l t S k i).st m = S.st m ++ zs := by
  unfold stepI
  cases hy : (syms l i.1)[i.2.1]? with
  | none =>
    obtain ⟨h1, h2⟩ := G.comp hi hy
    exact ⟨h1, h2.md, h2.pre⟩
  | some y =>
    cases y with
    | nt x =>
      obtain ⟨h1, _, h2, h3⟩ := G.wait hi hy
      exact ⟨h1, h2, h3⟩
    | lit c =>
      obtain ⟨h1, h2⟩ := G.scan hi hy (fun x q => nomatch q)
      exact ⟨h1, h2.md, h2.pre⟩
    | run c =>
      obtain ⟨h1, h2⟩ := G.scan hi hy (fun x q => nomatch q)
      exact ⟨h1, h2.md, h2.pre⟩
/-- a position is through -/
theorem Good.up {l t k S} (G : Good l t k (S.st k).length S) : Good l t (k + 1) 0 S where
  sound := G.sound
  nd := G.nd
  init := G.init
  done := fun m i h hm => by
    by_cases e : m = k
    · subst e
      obtain ⟨j, hj, e⟩ := List.getElem_of_mem h
      exact G.doneK j i hj (by rw [List.getElem?_eq_getElem hj, e])
    · exact G.done m i h (by omega)
  doneK := fun j i hj _ => absurd hj (by omega)
  wts := G.wts
  pw := G.pw
  wk := fun m x ys q => Nat.le_succ_of_le (G.wk m x ys q)
  rws := fun m x es e q he => ⟨Nat.le_succ_of_le (G.rws m x es e q he).1, (G.rws m x es e q he).2⟩
  rnd := G.rnd
  adv := G.adv
theorem Good.made {l t k d S} (G : Good l t k d S) (n : Nat) : Good l t k d { S with md := n } :=
  ⟨G.sound, G.nd, G.init, fun m i h hm => (G.done m i h hm).grow (fun _ _ z => z) (fun _ ys q => ⟨ys, q, fun _ z => z⟩) (fun _ ys q => ⟨ys, q, fun _ z => z⟩),
    fun j i hj h => (G.doneK j i hj h).grow (fun _ _ z => z) (fun _ ys q => ⟨ys, q, fun _ z => z⟩) (fun _ ys q => ⟨ys, q, fun _ z => z⟩), G.wts, G.pw, G.wk, G.rws, G.rnd, G.adv⟩
/-- no item is missing -/
theorem Good.all {l t S} (G : Good l t (t.length + 1) 0 S) {r j s m} (h : It l t r j s m) : (r, j, s) ∈ S.st m := by
  induction h with
  | init h => exact G.init _ h
  | @pred r j s m x r' h1 h2 h3 ih =>
    obtain ⟨⟨ys, h4, _⟩, _⟩ := (G.done m _ ih (by have := h1.bd; omega)).nt x h2
    exact G.pw m x ys h4 r' h3
  | @scan r j s m y e h1 h2 h3 ih => exact (G.done m _ ih (by have := h1.bd; omega)).tm y h2 e h3
  | @comp r j s m x r' e h1 h2 h3 h4 ih1 ih2 =>
    obtain ⟨⟨ys, h5, h6⟩, h7⟩ := (G.done m _ ih1 (by have := h1.bd; omega)).nt x h2
    by_cases c : m = e
    · subst c
      exact h7 (by rw [← h4]; exact h3.full0)
    · obtain ⟨es, h8, h9⟩ := (G.done e _ ih2 (by have := h3.bd; omega)).full (List.getElem?_eq_none_iff.mpr (Nat.le_refl _))
      rw [h4] at h8
      exact G.adv m e x es ys _ h8 h9 (by have := h3.bd; omega) h5 h6
theorem Good.ends {l t S} (G : Good l t (t.length + 1) 0 S) (m : Nat) (x : NT) (e : Nat) : e ∈ (S.rw m x).getD [] ↔ Dn l t x m e := by
  constructor
  · intro h
    cases q : S.rw m x with
    | none => rw [q] at h; simp at h
    | some es => rw [q] at h; exact (G.rws m x es e q h).2
  · rintro ⟨r, h1, h2⟩
    obtain ⟨es, h8, h9⟩ := (G.done e _ (G.all h2) (by have := h2.bd; omega)).full (List.getElem?_eq_none_iff.mpr (Nat.le_refl _))
    rw [h1] at h8
    rw [show S.rw m x = some es from h8]
    exact h9
/-- the empty state, then the rules of p at 0 -/
def SS0 : SS := ⟨fun _ => [], fun _ _ => none, fun _ _ => none, 0⟩
def SS1 : SS := { predI SS0 0 (byN .p) with wt := setB SS0.wt 0 .p (some []) }
theorem SS1_good (l : Bool) (t : Tx) : Good l t 0 0 SS1 := by
  have e : SS1.st = fun m => if m = 0 then [(0, 0, 0), (1, 0, 0)] else [] := by
    funext m
    show setA (setA (fun _ => []) 0 [(0, 0, 0)]) 0 ([(0, 0, 0)] ++ [(1, 0, 0)]) m = _
    unfold setA
    by_cases h : m = 0 <;> simp [h]
  have em : ∀ m i, i ∈ SS1.st m → m = 0 ∧ (i = (0, 0, 0) ∨ i = (1, 0, 0)) := fun m i h => by
    rw [e] at h
    by_cases q : m = 0
    · simp [q] at h; exact ⟨q, h⟩
    · simp [q] at h
  have ew : ∀ m x ys, SS1.wt m x = some ys → m = 0 ∧ x = .p ∧ ys = [] := fun m x ys q => by
    have q : setB (fun _ _ => none) 0 NT.p (some []) m x = some ys := q
    unfold setB at q
    by_cases c : m = 0 ∧ x = .p
    · rw [if_pos c] at q; cases q; exact ⟨c.1, c.2, rfl⟩
    · rw [if_neg c] at q; cases q
  refine ⟨fun m i h => ?_, fun m => ?_, fun r hr => ?_, fun m i _ hm => absurd hm (by omega), fun j i hj _ => absurd hj (by omega), fun m x ys i q hi => ?_, fun m x ys q r hr => ?_, fun m x ys q => ?_, fun m x es e q => (by cases q), fun m x es q => (by cases q), fun m e x es ys i q => (by cases q)⟩
  · obtain ⟨rfl, rfl | rfl⟩ := em m i h
    · exact .init (by simp [byN])
    · exact .init (by simp [byN])
  · rw [e]; by_cases q : m = 0 <;> simp [q]
  · rw [e]; simp [byN] at hr; rcases hr with rfl | rfl <;> simp
  · obtain ⟨_, _, rfl⟩ := ew m x ys q; simp at hi
  · obtain ⟨rfl, rfl, rfl⟩ := ew m x ys q
    rw [e]; simp [byN] at hr; rcases hr with rfl | rfl <;> simp
  · obtain ⟨rfl, rfl, rfl⟩ := ew m x ys q; exact Nat.le_refl _
/-- how many items may stand at a position -/
theorem nodup_len {α : Type} [DecidableEq α] : ∀ {l m : List α}, l.Nodup → (∀ x ∈ l, x ∈ m) → l.length ≤ m.length
  | [], _, _, _ => Nat.zero_le _
  | a :: l, m, hn, h => by
    obtain ⟨h1, h2⟩ := List.nodup_cons.mp hn
    have ha := h a (by simp)
    have := nodup_len (l := l) (m := m.erase a) h2 (fun x hx => (List.mem_erase_of_ne (fun e => h1 (by subst e; exact hx))).mpr (h x (List.mem_cons_of_mem _ hx)))
    have h3 := List.length_erase_of_mem ha
    have h4 := List.length_pos_of_mem ha
    rw [List.length_cons]; omega
theorem Good.few {l t k d S} (G : Good l t k d S) (m : Nat) : (S.st m).length ≤ 45 * (t.length + 1) := by
  have h := nodup_len (l := S.st m) (m := (List.range 9).flatMap fun r => (List.range 5).flatMap fun j => (List.range (t.length + 1)).map fun s => (r, j, s)) (G.nd m) (fun x hx => by
    have b := (G.sound m x hx).bd
    have := syms_len l x.1
    refine List.mem_flatMap.mpr ⟨x.1, List.mem_range.mpr b.1, List.mem_flatMap.mpr ⟨x.2.1, List.mem_range.mpr (by omega), List.mem_map.mpr ⟨x.2.2, List.mem_range.mpr (by omega), rfl⟩⟩⟩)
  refine Nat.le_trans h (Nat.le_of_eq ?_)
  simp [List.length_flatMap, List.range_succ]
  omega
end K38
/-! Plain mathematics, part 3: what is taken over behind an edit. -/
namespace K38
theorem runE_spec (b : Bool) (t : Tx) (m : Nat) : (∀ i, m ≤ i → i < runE b t m → ∃ c, t[i]? = some c ∧ isC b c = true) ∧ ∀ c, t[runE b t m]? = some c → isC b c = false := by
  have key : ∀ (u : List Nat), (∀ i, i < (u.takeWhile (isC b)).length → ∃ c, u[i]? = some c ∧ isC b c = true) ∧ ∀ c, u[(u.takeWhile (isC b)).length]? = some c → isC b c = false := by
    intro u
    induction u with
    | nil => simp
    | cons a u ih =>
      by_cases h : isC b a = true
      · rw [List.takeWhile_cons_of_pos h]
        refine ⟨fun i hi => ?_, fun c hc => ih.2 c (by simpa using hc)⟩
        cases i with
        | zero => exact ⟨a, rfl, h⟩
        | succ i => simpa using ih.1 i (by simpa using hi)
      · rw [List.takeWhile_cons_of_neg h]
        refine ⟨fun i hi => absurd hi (by simp), fun c hc => ?_⟩
        have : a = c := by simpa using hc
        subst this
        simpa using h
  obtain ⟨h1, h2⟩ := key (t.drop m)
  refine ⟨fun i hi hl => ?_, fun c hc => ?_⟩
  · obtain ⟨c, hc, q⟩ := h1 (i - m) (by unfold runE at hl; omega)
    rw [List.getElem?_drop] at hc
    exact ⟨c, by rw [← hc]; congr 1; omega, q⟩
  · refine h2 c ?_
    rw [List.getElem?_drop]
    exact hc
theorem runE_of {b : Bool} {t : Tx} {m e : Nat} (h0 : m ≤ e) (h1 : ∀ i, m ≤ i → i < e → ∃ c, t[i]? = some c ∧ isC b c = true) (h2 : ∀ c, t[e]? = some c → isC b c = false) : runE b t m = e := by
  obtain ⟨q1, q2⟩ := runE_spec b t m
  have := runE_ge b t m
  rcases Nat.lt_trichotomy (runE b t m) e with h | h | h
  · obtain ⟨c, hc, q⟩ := h1 _ this h
    rw [q2 c hc] at q; cases q
  · exact h
  · obtain ⟨c, hc, q⟩ := q1 e h0 h
    rw [h2 c hc] at q; cases q
theorem tE_agree {t0 t : Tx} {k : Nat} (hk : ∀ i, i < k → t0[i]? = t[i]?) {y : Sym} {m e : Nat} (he : e < k) (h : e ∈ tE t0 y m) : e ∈ tE t y m := by
  have hlt := tE_gt h
  cases y with
  | nt x => simp [tE] at h
  | lit c =>
    simp only [tE] at h ⊢
    by_cases q : t0[m]? = some c
    · rw [if_pos q] at h
      rw [← hk m (by omega), if_pos q]
      exact h
    · rw [if_neg q] at h; simp at h
  | run b =>
    simp only [tE] at h
    by_cases q : runE b t0 m > m
    · rw [if_pos q] at h
      have ee : e = runE b t0 m := by simpa using h
      obtain ⟨h1, h2⟩ := runE_spec b t0 m
      have er : runE b t m = e := by
        refine runE_of (by omega) (fun i hi hl => ?_) fun c hc => ?_
        · obtain ⟨c, hc, q⟩ := h1 i hi (by omega)
          exact ⟨c, by rw [← hk i (by omega)]; exact hc, q⟩
        · rw [← hk e he, ee] at hc
          exact h2 c hc
      simp only [tE, er]
      rw [if_pos (by omega)]
      simp
    · rw [if_neg q] at h; simp at h
theorem It_agree {l : Bool} {t0 t : Tx} {k : Nat} (hk : ∀ i, i < k → t0[i]? = t[i]?) {r j s m} (h : It l t0 r j s m) : m < k → It l t r j s m := by
  induction h with
  | init h => exact fun _ => .init h
  | pred h1 h2 h3 ih => exact fun q => .pred (ih q) h2 h3
  | scan h1 h2 h3 ih =>
    intro q
    exact .scan (ih (by have := tE_gt h3; omega)) h2 (tE_agree hk q h3)
  | comp h1 h2 h3 h4 ih1 ih2 =>
    intro q
    have := h3.bd
    exact .comp (ih1 (by omega)) h2 (ih2 q) h4
def takeO (O : SS) (k : Nat) : SS :=
  ⟨fun m => if m < k then O.st m else [], fun m x => if m < k then O.wt m x else none, fun m x => if m < k then (O.rw m x).map (fun es => es.filter fun e => decide (e < k)) else none, 0⟩
/-- what an item of position m, read anew, adds behind k -/
def rsl (l : Bool) (t : Tx) (k m : Nat) (i : I3) : List (Nat × I3) := match (syms l i.1)[i.2.1]? with
  | some y => if (tE t y m).any (fun e => decide (k ≤ e)) then (tE t y m).map fun e => (e, (i.1, i.2.1 + 1, i.2.2)) else []
  | none => []
def adds (S : SS) (as : List (Nat × I3)) : SS := as.foldl (fun S a => addI S a.1 a.2) S
def rsAll (l : Bool) (t : Tx) (k : Nat) (O : SS) (n : Nat) : List (Nat × I3) := (List.range n).flatMap fun m => (O.st m).flatMap (rsl l t k m)
theorem rsl_mem {l t k m i a} (h : a ∈ rsl l t k m i) : ∃ y e, (syms l i.1)[i.2.1]? = some y ∧ e ∈ tE t y m ∧ k ≤ e ∧ a = (e, (i.1, i.2.1 + 1, i.2.2)) := by
  unfold rsl at h
  cases hy : (syms l i.1)[i.2.1]? with
  | none => rw [hy] at h; simp at h
  | some y =>
    rw [hy] at h
    by_cases c : ((tE t y m).any fun e => decide (k ≤ e)) = true
    · simp only [c, if_true] at h
      obtain ⟨e, he, q⟩ := List.mem_map.mp h
      obtain ⟨e', he', q'⟩ := List.any_eq_true.mp c
      have := tE_one he he'
      subst this
      exact ⟨y, e, rfl, he, by simpa using q', q.symm⟩
    · simp only [c] at h
      simp at h
theorem rsl_in {l t k m i y e} (hy : (syms l i.1)[i.2.1]? = some y) (he : e ∈ tE t y m) (hk : k ≤ e) : (e, (i.1, i.2.1 + 1, i.2.2)) ∈ rsl l t k m i := by
  unfold rsl
  rw [hy]
  have c : ((tE t y m).any fun e => decide (k ≤ e)) = true := List.any_eq_true.mpr ⟨e, he, by simpa using hk⟩
  simp only [c, if_true]
  exact List.mem_map.mpr ⟨e, he, rfl⟩
/-- the reading behind an edit, ahead of the first position that is treated -/
theorem take_good {l : Bool} {t0 t : Tx} {k : Nat} {O : SS} (G : Good l t0 (t0.length + 1) 0 O) (hk : ∀ i, i < k → t0[i]? = t[i]?) (h0 : 0 < k) (h1 : k ≤ t0.length) :
    Good l t k 0 (adds (takeO O k) (rsAll l t k O k)) := by
  have hk' : ∀ i, i < k → t[i]? = t0[i]? := fun i h => (hk i h).symm
  have nd0 : ∀ m, ((takeO O k).st m).Nodup := fun m => by
    show (if m < k then O.st m else []).Nodup
    by_cases c : m < k
    · rw [if_pos c]; exact G.nd m
    · rw [if_neg c]; simp
  obtain ⟨g1, g2, g3, g4⟩ := fold_add (fun a : Nat × I3 => a) (rsAll l t k O k) (takeO O k) nd0
  have ed : adds (takeO O k) (rsAll l t k O k) = (rsAll l t k O k).foldl (fun S a => addI S a.1 a.2) (takeO O k) := rfl
  rw [ed]
  generalize (rsAll l t k O k).foldl (fun S a => addI S a.1 a.2) (takeO O k) = S at *
  have mem : ∀ a, a ∈ rsAll l t k O k → ∃ m i y e, m < k ∧ i ∈ O.st m ∧ (syms l i.1)[i.2.1]? = some y ∧ e ∈ tE t y m ∧ k ≤ e ∧ a = (e, (i.1, i.2.1 + 1, i.2.2)) := fun a ha => by
    obtain ⟨m, hm, ha⟩ := List.mem_flatMap.mp ha
    obtain ⟨i, hi, ha⟩ := List.mem_flatMap.mp ha
    obtain ⟨y, e, q1, q2, q3, q4⟩ := rsl_mem ha
    exact ⟨m, i, y, e, List.mem_range.mp hm, hi, q1, q2, q3, q4⟩
  have st0 : ∀ m i, m < k → i ∈ O.st m → i ∈ S.st m := fun m i hm hi => g1.st m i (by show i ∈ (if m < k then O.st m else []); rw [if_pos hm]; exact hi)
  have lo : ∀ m i, m < k → i ∈ S.st m → i ∈ O.st m := fun m i hm hi => by
    rcases g4 m i hi with q | ⟨a, ha, e1, e2⟩
    · have q : i ∈ (if m < k then O.st m else []) := q
      rw [if_pos hm] at q; exact q
    · obtain ⟨m', i', y, e, _, _, _, _, q5, q6⟩ := mem a ha
      subst q6
      have e1 : m = e := e1
      omega
  have sO : ∀ m i, m < k → i ∈ O.st m → It l t i.1 i.2.1 i.2.2 m := fun m i hm hi => It_agree hk (G.sound m i hi) hm
  have ew : S.wt = (takeO O k).wt := g1.wt
  have er : S.rw = (takeO O k).rw := g1.rw
  have hw : ∀ m x ys, S.wt m x = some ys → m < k ∧ O.wt m x = some ys := fun m x ys q => by
    rw [ew] at q
    have q : (if m < k then O.wt m x else none) = some ys := q
    by_cases c : m < k
    · rw [if_pos c] at q; exact ⟨c, q⟩
    · rw [if_neg c] at q; cases q
  have hr : ∀ m x es, S.rw m x = some es → m < k ∧ ∃ es0, O.rw m x = some es0 ∧ es = es0.filter fun e => decide (e < k) := fun m x es q => by
    rw [er] at q
    have q : (if m < k then (O.rw m x).map (fun es => es.filter fun e => decide (e < k)) else none) = some es := q
    by_cases c : m < k
    · rw [if_pos c] at q
      obtain ⟨es0, q1, q2⟩ := Option.map_eq_some_iff.mp q
      exact ⟨c, es0, q1, q2.symm⟩
    · rw [if_neg c] at q; cases q
  refine ⟨fun m i h => ?_, g3, fun r hr' => st0 0 _ h0 (G.init r hr'), fun m i h hm => ?_, fun j i hj _ => absurd hj (by omega), fun m x ys i q hi => ?_, fun m x ys q r hr' => ?_, fun m x ys q => Nat.le_of_lt (hw m x ys q).1, fun m x es e q he => ?_, fun m x es q => ?_, fun m e x es ys i q he hm qw hi => ?_⟩
  · by_cases c : m < k
    · exact sO m i c (lo m i c h)
    · rcases g4 m i h with q | ⟨a, ha, e1, e2⟩
      · have q : i ∈ (if m < k then O.st m else []) := q
        rw [if_neg c] at q; simp at q
      · obtain ⟨m', i', y, e, q1, q2, q3, q4, q5, q6⟩ := mem a ha
        subst q6
        have e1 : m = e := e1
        have e2 : i = (i'.1, i'.2.1 + 1, i'.2.2) := e2
        subst e1 e2
        exact .scan (sO m' i' q1 q2) q3 q4
  · have hi := lo m i hm h
    have D := G.done m i hi (by omega)
    refine ⟨fun q => ?_, fun x q => ?_, fun y q e he => ?_⟩
    · obtain ⟨es, h3, h4⟩ := D.full q
      have hs : i.2.2 < k := by have := (G.sound m i hi).bd; omega
      refine ⟨es.filter fun e => decide (e < k), ?_, List.mem_filter.mpr ⟨h4, by simpa using hm⟩⟩
      rw [er]
      show (if i.2.2 < k then (O.rw i.2.2 (left i.1)).map (fun es => es.filter fun e => decide (e < k)) else none) = _
      rw [if_pos hs, h3]
      rfl
    · obtain ⟨⟨ys, h3, h4⟩, h5⟩ := D.nt x q
      refine ⟨⟨ys, ?_, h4⟩, fun e => st0 m _ hm (h5 e)⟩
      rw [ew]
      show (if m < k then O.wt m x else none) = _
      rw [if_pos hm]; exact h3
    · by_cases c : e < k
      · exact st0 e _ c (D.tm y q e (tE_agree hk' c he))
      · exact g2 _ (List.mem_flatMap.mpr ⟨m, List.mem_range.mpr hm, List.mem_flatMap.mpr ⟨i, hi, rsl_in q he (by omega)⟩⟩)
  · obtain ⟨c, q⟩ := hw m x ys q
    obtain ⟨h2, h3⟩ := G.wts m x ys i q hi
    exact ⟨st0 m i c h2, h3⟩
  · obtain ⟨c, q⟩ := hw m x ys q
    exact st0 m _ c (G.pw m x ys q r hr')
  · obtain ⟨c, es0, q1, rfl⟩ := hr m x es q
    obtain ⟨h2, h3⟩ := List.mem_filter.mp he
    have h3 : e < k := by simpa using h3
    obtain ⟨_, r, h4, h5⟩ := G.rws m x es0 e q1 h2
    exact ⟨by omega, r, h4, It_agree hk h5 h3⟩
  · obtain ⟨c, es0, q1, rfl⟩ := hr m x es q
    exact List.Pairwise.sublist List.filter_sublist (G.rnd m x es0 q1)
  · obtain ⟨c, es0, q1, rfl⟩ := hr m x es q
    obtain ⟨h2, h3⟩ := List.mem_filter.mp he
    have h3 : e < k := by simpa using h3
    obtain ⟨_, qw⟩ := hw m x ys qw
    exact st0 e _ h3 (G.adv m e x es0 ys i q1 h2 hm qw hi)
/-- how long the rows of waiting items are -/
def WB (k d : Nat) (S : SS) : Prop := ∀ m x ys, S.wt m x = some ys → m ≤ k ∧ (m < k → ys.length ≤ (S.st m).length) ∧ (m = k → ys.length ≤ d)
theorem WB.grow {k d : Nat} {S S' : SS} (h : WB k d S) (hw : S'.wt = S.wt) (hs : ∀ m, ∃ zs, S'.st m = S.st m ++ zs) : WB k (d + 1) S' := fun m x ys q => by
  rw [hw] at q
  obtain ⟨h1, h2, h3⟩ := h m x ys q
  obtain ⟨zs, e⟩ := hs m
  refine ⟨h1, fun c => ?_, fun c => Nat.le_succ_of_le (h3 c)⟩
  rw [e, List.length_append]
  have := h2 c
  omega
theorem predI_wt' (m : Nat) : ∀ (rs : List Nat) (S : SS), (predI S m rs).wt = S.wt
  | [], _ => rfl
  | r :: rs, S => (predI_wt' m rs _).trans (addI_grow S m _).wt
theorem WB.step {l : Bool} {t : Tx} {k d : Nat} {S : SS} {i : I3} (h : WB k d S) (G : Good l t k d S) (hi : (S.st k)[d]? = some i) : WB k (d + 1) (stepI l t S k i) := by
  obtain ⟨_, _, hp⟩ := G.step hi
  unfold stepI at hp ⊢
  cases hy : (syms l i.1)[i.2.1]? with
  | none =>
    rw [hy] at hp
    exact h.grow (G.comp hi hy).2.wt hp
  | some y =>
    rw [hy] at hp
    cases y with
    | lit c => exact h.grow (G.scan hi hy (fun x q => nomatch q)).2.wt hp
    | run c => exact h.grow (G.scan hi hy (fun x q => nomatch q)).2.wt hp
    | nt x =>
      simp only at hp ⊢
      have e1 : (waitI S k i x).wt = (wait2 (wait1 S k x) k i x).wt := by
        show (if x = .p then addI (wait2 (wait1 S k x) k i x) k (i.1, i.2.1 + 1, i.2.2) else wait2 (wait1 S k x) k i x).wt = _
        by_cases c : x = .p
        · rw [if_pos c]; exact (addI_grow _ _ _).wt
        · rw [if_neg c]
      have e2 : ∀ m y ys, (wait1 S k x).wt m y = some ys → S.wt m y = some ys ∨ (m = k ∧ y = x ∧ ys = []) := fun m y ys q => by
        unfold wait1 at q
        by_cases c : (S.wt k x).isSome = true
        · rw [if_pos c] at q; exact .inl q
        · rw [if_neg c, predI_wt'] at q
          have q : setB S.wt k x (some []) m y = some ys := q
          by_cases e : m = k ∧ y = x
          · rw [e.1, e.2, setB_same] at q; cases q; exact .inr ⟨e.1, e.2, rfl⟩
          · rw [setB_ne e] at q; exact .inl q
      intro m y ys q
      rw [e1] at q
      have q : setB (wait1 S k x).wt k x (some (((wait1 S k x).wt k x).getD [] ++ [i])) m y = some ys := q
      by_cases e : m = k ∧ y = x
      · rw [e.1, e.2, setB_same] at q
        cases q
        refine ⟨by omega, fun c => by omega, fun _ => ?_⟩
        rw [List.length_append]
        cases q2 : (wait1 S k x).wt k x with
        | none => simp
        | some ys2 =>
          rcases e2 _ _ _ q2 with q3 | ⟨_, _, q3⟩
          · have := (h _ _ _ q3).2.2 rfl
            simp; omega
          · subst q3; simp
      · rw [setB_ne e] at q
        rcases e2 _ _ _ q with q3 | ⟨h1, h2, _⟩
        · obtain ⟨h1, h2, h3⟩ := h _ _ _ q3
          obtain ⟨zs, ez⟩ := hp m
          refine ⟨h1, fun c => ?_, fun c => Nat.le_succ_of_le (h3 c)⟩
          rw [ez, List.length_append]
          have := h2 c
          omega
        · exact absurd ⟨h1, h2⟩ e
theorem WB.up {k : Nat} {S : SS} (h : WB k (S.st k).length S) : WB (k + 1) 0 S := fun m x ys q => by
  obtain ⟨h1, h2, h3⟩ := h m x ys q
  refine ⟨by omega, fun c => ?_, fun c => by omega⟩
  by_cases e : m = k
  · subst e; exact h3 rfl
  · exact h2 (by omega)
theorem SS1_WB : WB 0 0 SS1 := fun m x ys q => by
  have q : setB (fun _ _ => none) 0 NT.p (some []) m x = some ys := q
  by_cases c : m = 0 ∧ x = .p
  · rw [c.1, c.2, setB_same] at q; cases q
    exact ⟨by omega, fun h => by omega, fun _ => Nat.le_refl _⟩
  · rw [setB_ne c] at q; cases q
theorem take_WB {l : Bool} {t : Tx} {k : Nat} {O : SS} {n : Nat} (h : WB n 0 O) (hk : k ≤ n) : WB k 0 (adds (takeO O k) (rsAll l t k O k)) := fun m x ys q => by
  have ga : ∀ (as : List (Nat × I3)) (S : SS), Grow S (adds S as) := fun as => by
    induction as with
    | nil => intro S; exact .refl S
    | cons a as ih => intro S; exact (addI_grow S a.1 a.2).trans (ih _)
  have g := ga (rsAll l t k O k) (takeO O k)
  rw [g.wt] at q
  have q : (if m < k then O.wt m x else none) = some ys := q
  by_cases c : m < k
  · rw [if_pos c] at q
    obtain ⟨zs, e⟩ := g.pre m
    have e0 : (takeO O k).st m = O.st m := by show (if m < k then O.st m else []) = _; rw [if_pos c]
    refine ⟨by omega, fun _ => ?_, fun h => by omega⟩
    rw [e, e0, List.length_append]
    have := (h m x ys q).2.1 (by omega)
    omega
  · rw [if_neg c] at q; cases q
theorem WB.few {l : Bool} {t : Tx} {k d : Nat} {S : SS} (h : WB k d S) (G : Good l t k d S) (hd : d ≤ (S.st k).length) {m : Nat} {x : NT} {ys : List I3} (q : S.wt m x = some ys) : ys.length ≤ 45 * (t.length + 1) := by
  obtain ⟨h1, h2, h3⟩ := h m x ys q
  by_cases c : m < k
  · exact Nat.le_trans (h2 c) (G.few m)
  · have e : m = k := by omega
    subst e
    exact Nat.le_trans (h3 rfl) (Nat.le_trans hd (G.few m))
theorem Good.rwfew {l : Bool} {t : Tx} {k d : Nat} {S : SS} (G : Good l t k d S) {m : Nat} {x : NT} {es : List Nat} (q : S.rw m x = some es) : es.length ≤ k + 1 := by
  have := nodup_len (m := List.range (k + 1)) (G.rnd m x es q) (fun e he => List.mem_range.mpr (by have := (G.rws m x es e q he).1; omega))
  rw [List.length_range] at this
  exact this
end K38
/-! Plain mathematics, part 4: cuts, alternatives, their number, the trees. -/
namespace K38
noncomputable section
section
variable (l : Bool) (t : Tx)
def cuts : List Sym → Nat → Nat → List (List Nat)
  | [], s, e => if s = e then [[s]] else []
  | y :: ys, s, e => (En l t y s).flatMap fun m => if m ≤ e then (cuts ys m e).map (s :: ·) else []
def alts (x : NT) (s e : Nat) : List (Nat × List Nat) := (byN x).flatMap fun k => (cuts l t (syms l k) s e).map fun c => (k, c)
def kidO (y : Sym) (a b : Nat) : Option (NT × Nat × Nat) := match y with
  | .nt x => some (x, a, b)
  | _ => none
def kidL : List Sym → List Nat → List (Option (NT × Nat × Nat))
  | y :: ys, a :: b :: r => kidO y a b :: kidL ys (b :: r)
  | _, _ => []
def mu (x : NT) (s e : Nat) : Nat := (e - s) + match x with
  | .word => 0
  | .item => 1
  | .list => 2
  | .line => 0
  | .p => 1
variable {l t}
theorem mem_cuts_nil {s e c} : c ∈ cuts l t [] s e ↔ s = e ∧ c = [s] := by
  unfold cuts
  by_cases h : s = e <;> simp [h]
theorem mem_cuts_cons {y ys s e c} : c ∈ cuts l t (y :: ys) s e ↔ ∃ m c', m ∈ En l t y s ∧ m ≤ e ∧ c' ∈ cuts l t ys m e ∧ c = s :: c' := by
  rw [show cuts l t (y :: ys) s e = (En l t y s).flatMap (fun m => if m ≤ e then (cuts l t ys m e).map (s :: ·) else []) from rfl]
  simp only [List.mem_flatMap]
  constructor
  · rintro ⟨m, hm, h⟩
    by_cases q : m ≤ e
    · rw [if_pos q] at h
      obtain ⟨c', h1, h2⟩ := List.mem_map.mp h
      exact ⟨m, c', hm, q, h1, h2.symm⟩
    · rw [if_neg q] at h; simp at h
  · rintro ⟨m, c', hm, q, h1, h2⟩
    exact ⟨m, hm, by rw [if_pos q]; exact List.mem_map.mpr ⟨c', h1, h2.symm⟩⟩
theorem mem_alts {x s e k c} : (k, c) ∈ alts l t x s e ↔ k ∈ byN x ∧ c ∈ cuts l t (syms l k) s e := by
  unfold alts
  simp only [List.mem_flatMap, List.mem_map]
  constructor
  · rintro ⟨k', hk, c', hc, e⟩
    cases e
    exact ⟨hk, hc⟩
  · rintro ⟨hk, hc⟩
    exact ⟨k, hk, c, hc, rfl⟩
theorem cuts_le {ys s e c} (h : c ∈ cuts l t ys s e) : s ≤ e := by
  cases ys with
  | nil => exact Nat.le_of_eq (mem_cuts_nil.mp h).1
  | cons y ys =>
    obtain ⟨m, c', hm, q, _⟩ := mem_cuts_cons.mp h
    have := En_ge hm
    omega
theorem cuts_head : ∀ {ys s e c}, c ∈ cuts l t ys s e → ∃ r, c = s :: r := by
  intro ys s e c h
  cases ys with
  | nil => exact ⟨[], (mem_cuts_nil.mp h).2⟩
  | cons y ys =>
    obtain ⟨m, c', _, _, _, q⟩ := mem_cuts_cons.mp h
    exact ⟨c', q⟩
/-- what a list of cuts is -/
theorem cuts_spec : ∀ {ys s e c}, c ∈ cuts l t ys s e → c.length = ys.length + 1 ∧ c[0]? = some s ∧ c[ys.length]? = some e ∧
    ∀ j y, ys[j]? = some y → ∃ a b, c[j]? = some a ∧ c[j + 1]? = some b ∧ b ∈ En l t y a ∧ s ≤ a ∧ b ≤ e ∧ (kidL ys c)[j]? = some (kidO y a b)
  | [], s, e, c, h => by
    obtain ⟨h1, h2⟩ := mem_cuts_nil.mp h
    subst h1 h2
    simp
  | y :: ys, s, e, c, h => by
    obtain ⟨m, c', hm, q, h1, h2⟩ := mem_cuts_cons.mp h
    obtain ⟨i1, i2, i3, i4⟩ := cuts_spec h1
    subst h2
    obtain ⟨r, hr⟩ := cuts_head h1
    refine ⟨by simp [i1], rfl, by simpa using i3, fun j y' hj => ?_⟩
    have hs := En_ge hm
    cases j with
    | zero =>
      simp only [List.getElem?_cons_zero, Option.some.injEq] at hj
      subst hj
      refine ⟨s, m, rfl, by simpa using i2, hm, Nat.le_refl _, q, ?_⟩
      rw [hr]
      rfl
    | succ j =>
      obtain ⟨a, b, h1, h2, h3, h4, h5, h6⟩ := i4 j y' (by simpa using hj)
      refine ⟨a, b, by simpa using h1, by simpa using h2, h3, by omega, h5, ?_⟩
      rw [hr] at h6 ⊢
      exact h6
theorem kidL_len : ∀ {ys : List Sym} {c : List Nat}, c.length = ys.length + 1 → (kidL ys c).length = ys.length
  | [], [], h => by simp at h
  | [], [_], _ => rfl
  | [], _ :: _ :: _, h => by simp at h
  | y :: ys, [], h => by simp at h
  | y :: ys, [_], h => by simp at h
  | y :: ys, a :: b :: r, h => by
    have := kidL_len (ys := ys) (c := b :: r) (by simpa using h)
    simp [kidL, this]
/-- a kid: its stretch, its end, that it is smaller -/
theorem kid_of {x s e k c x' a b} (h : (k, c) ∈ alts l t x s e) (hk : some (x', a, b) ∈ kidL (syms l k) c) : b ∈ En l t (.nt x') a ∧ s ≤ a ∧ b ≤ e ∧ a ≤ b ∧ mu x' a b < mu x s e := by
  obtain ⟨h1, h2⟩ := mem_alts.mp h
  obtain ⟨hl, _, _, hsp⟩ := cuts_spec h2
  obtain ⟨j, hj, ej⟩ := List.getElem_of_mem hk
  have hj' : j < (syms l k).length := by rw [← kidL_len hl]; exact hj
  obtain ⟨a', b', _, _, q1, q2, q3, q4⟩ := hsp j _ (List.getElem?_eq_getElem hj')
  have ek : kidO (syms l k)[j] a' b' = some (x', a, b) := by
    rw [List.getElem?_eq_getElem hj, ej] at q4
    exact (Option.some.inj q4).symm
  have ey : (syms l k)[j] = .nt x' ∧ a' = a ∧ b' = b := by
    cases hy : (syms l k)[j] with
    | nt z => rw [hy] at ek; simp only [kidO] at ek; cases ek; exact ⟨rfl, rfl, rfl⟩
    | lit _ => rw [hy] at ek; cases ek
    | run _ => rw [hy] at ek; cases ek
  obtain ⟨ey, rfl, rfl⟩ := ey
  rw [ey] at q1
  have hge := En_ge q1
  refine ⟨q1, q2, q3, hge.1, ?_⟩
  obtain ⟨hx, hk9⟩ := byN_left h1
  subst hx
  have hy9 : (syms l k)[j]? = some (.nt x') := by rw [List.getElem?_eq_getElem hj', ey]
  clear ek q4 ey
  have : k = 0 ∨ k = 1 ∨ k = 2 ∨ k = 3 ∨ k = 4 ∨ k = 5 ∨ k = 6 ∨ k = 7 ∨ k = 8 := by omega
  rcases this with h' | h' | h' | h' | h' | h' | h' | h' | h' <;> subst h'
  · -- p
    simp only [syms] at h2 hy9
    obtain ⟨m, c1, e1, l1, k1, rfl⟩ := mem_cuts_cons.mp h2
    obtain ⟨m2, c2, e2, l2, k2, rfl⟩ := mem_cuts_cons.mp k1
    obtain ⟨kk, rfl⟩ := mem_cuts_nil.mp k2
    have g1 := En_gt e1 (by simp)
    have g2 := En_ge e2
    match j, hy9 with
    | 0, hy9 =>
      simp at hy9; subst hy9
      simp only [left, mu]
      omega
    | 1, hy9 =>
      simp at hy9; subst hy9
      obtain ⟨a2, b2, z1, z2, _⟩ := hsp 1 (.nt .p) rfl
      have zz : some (NT.p, a', b') ∈ kidL (syms l 0) (s :: m :: [m2]) := hk
      simp [kidL, kidO, syms] at zz
      simp only [left, mu]
      omega
  · simp [syms] at hy9
  · simp only [syms] at h2 hy9
    obtain ⟨m, c1, e1, l1, k1, rfl⟩ := mem_cuts_cons.mp h2
    obtain ⟨m2, c2, e2, l2, k2, rfl⟩ := mem_cuts_cons.mp k1
    obtain ⟨m3, c3, e3, l3, k3, rfl⟩ := mem_cuts_cons.mp k2
    obtain ⟨m4, c4, e4, l4, k4, rfl⟩ := mem_cuts_cons.mp k3
    obtain ⟨kk, rfl⟩ := mem_cuts_nil.mp k4
    have g1 := En_gt e1 (by simp)
    have g2 := En_gt e2 (by simp)
    have g3 := En_gt e3 (by simp)
    have g4 := En_gt e4 (by simp)
    have zz : some (x', a', b') ∈ kidL (syms l 2) (s :: m :: m2 :: m3 :: [m4]) := hk
    simp [kidL, kidO, syms] at zz
    rcases zz with ⟨zx, z1, z2⟩ | ⟨zx, z1, z2⟩ <;> subst zx z1 z2 <;> simp only [left, mu] <;> omega
  · simp only [syms] at h2 hy9
    obtain ⟨m, c1, e1, l1, k1, rfl⟩ := mem_cuts_cons.mp h2
    obtain ⟨m2, c2, e2, l2, k2, rfl⟩ := mem_cuts_cons.mp k1
    obtain ⟨m3, c3, e3, l3, k3, rfl⟩ := mem_cuts_cons.mp k2
    obtain ⟨kk, rfl⟩ := mem_cuts_nil.mp k3
    have g1 := En_gt e1 (by cases l <;> simp)
    have g2 := En_gt e2 (by simp)
    have g3 := En_gt e3 (by simp)
    have zz : some (x', a', b') ∈ kidL (syms l 3) (s :: m :: m2 :: [m3]) := hk
    simp [kidL, kidO, syms] at zz
    rcases zz with ⟨zx, z1, z2⟩ | ⟨zx, z1, z2⟩
    · subst z1 z2
      cases l <;> simp at zx <;> subst zx <;> simp only [left, mu] <;> omega
    · subst zx z1 z2; simp only [left, mu]; omega
  · simp only [syms] at h2 hy9
    match j, hy9 with
    | 0, hy9 => simp at hy9; subst hy9; simp only [left, mu]; omega
  · simp only [syms] at h2 hy9
    match j, hy9 with
    | 0, hy9 => simp at hy9; subst hy9; simp only [left, mu]; omega
  · match j, hy9 with
    | 0, hy9 => simp [syms] at hy9
  · simp only [syms] at h2 hy9
    obtain ⟨m, c1, e1, l1, k1, rfl⟩ := mem_cuts_cons.mp h2
    obtain ⟨m2, c2, e2, l2, k2, rfl⟩ := mem_cuts_cons.mp k1
    obtain ⟨m3, c3, e3, l3, k3, rfl⟩ := mem_cuts_cons.mp k2
    obtain ⟨kk, rfl⟩ := mem_cuts_nil.mp k3
    have g1 := En_gt e1 (by simp)
    have g2 := En_gt e2 (by simp)
    have g3 := En_gt e3 (by simp)
    have zz : some (x', a', b') ∈ kidL (syms l 7) (s :: m :: m2 :: [m3]) := hk
    simp [kidL, kidO, syms] at zz
    obtain ⟨zx, z1, z2⟩ := zz
    subst zx z1 z2; simp only [left, mu]; omega
  · match j, hy9 with
    | 0, hy9 => simp [syms] at hy9
theorem It.zero {r s m} (h : It l t r 0 s m) : s = m := by
  generalize hj : 0 = j at h
  cases h with
  | init _ => rfl
  | pred _ _ _ => rfl
  | scan _ _ _ => omega
  | comp _ _ _ _ => omega
theorem cuts_of_It {r e : Nat} : ∀ {j s m : Nat} {c : List Nat}, It l t r j s m → c ∈ cuts l t ((syms l r).drop j) m e → ∃ c', c' ∈ cuts l t (syms l r) s e
  | 0, s, m, c, h, hc => by
    have := h.zero
    subst this
    exact ⟨c, hc⟩
  | j + 1, s, m, c, h, hc => by
    obtain ⟨m0, y, h1, h2, h3⟩ := h.back
    obtain ⟨hj, ej⟩ := List.getElem?_eq_some_iff.mp h2
    have ed : (syms l r).drop j = y :: (syms l r).drop (j + 1) := by rw [List.drop_eq_getElem_cons hj, ej]
    exact cuts_of_It h1 (c := m0 :: c) (by rw [ed]; exact mem_cuts_cons.mpr ⟨m, c, h3, cuts_le hc, hc, rfl⟩)
theorem alts_ne {x s e} (h : e ∈ En l t (.nt x) s) : alts l t x s e ≠ [] := by
  obtain ⟨r, h1, h2⟩ := mem_En_nt.mp h
  obtain ⟨c', hc⟩ := cuts_of_It (e := e) (c := [e]) h2 (by rw [List.drop_length]; exact mem_cuts_nil.mpr ⟨rfl, rfl⟩)
  intro q
  have : (r, c') ∈ alts l t x s e := mem_alts.mpr ⟨by rw [← h1]; exact left_byN h2.bd.1, hc⟩
  rw [q] at this
  simp at this
end
section
variable (l : Bool) (t : Tx)
/-- the number of trees, by fuel -/
def szO (f : NT → Nat → Nat → Nat) (o : Option (NT × Nat × Nat)) : Nat := match o with
  | none => 1
  | some (x, a, b) => f x a b
def prd (ns : List Nat) : Nat := ns.foldl (· * ·) 1
def cnt : Nat → NT → Nat → Nat → Nat
  | 0, _, _, _ => 0
  | f + 1, x, s, e => ((alts l t x s e).map fun kc => prd ((kidL (syms l kc.1) kc.2).map (szO (cnt f)))).sum
def cntT (x : NT) (s e : Nat) : Nat := cnt l t (mu x s e + 1) x s e
variable {l t}
theorem cnt_fuel : ∀ (f : Nat) (x : NT) (s e : Nat), mu x s e < f → cnt l t f x s e = cntT l t x s e := by
  have key : ∀ (f g : Nat) (x : NT) (s e : Nat), mu x s e < f → mu x s e < g → cnt l t f x s e = cnt l t g x s e := by
    intro f
    induction f with
    | zero => intro g x s e h; omega
    | succ f ih =>
      intro g x s e hf hg
      cases g with
      | zero => omega
      | succ g =>
        unfold cnt
        congr 1
        refine List.map_congr_left fun kc hkc => ?_
        congr 1
        refine List.map_congr_left fun o ho => ?_
        cases o with
        | none => rfl
        | some o =>
          obtain ⟨x', a, b⟩ := o
          have := (kid_of (k := kc.1) (c := kc.2) hkc ho).2.2.2.2
          exact ih g x' a b (by omega) (by omega)
  intro f x s e h
  exact key f _ x s e h (Nat.lt_succ_self _)
theorem cntT_eq (x : NT) (s e : Nat) : cntT l t x s e = ((alts l t x s e).map fun kc => prd ((kidL (syms l kc.1) kc.2).map (szO (cntT l t)))).sum := by
  show cnt l t (mu x s e + 1) x s e = _
  unfold cnt
  congr 1
  refine List.map_congr_left fun kc hkc => ?_
  congr 1
  refine List.map_congr_left fun o ho => ?_
  cases o with
  | none => rfl
  | some o =>
    obtain ⟨x', a, b⟩ := o
    exact cnt_fuel _ _ _ _ (kid_of (k := kc.1) (c := kc.2) hkc ho).2.2.2.2
end
/-- trees -/
inductive T where
  | leaf (u : Tx)
  | node (r : Nat) (ks : List T)
def sl (t : Tx) (a b : Nat) : Tx := (t.drop a).take (b - a)
section
variable (l : Bool) (t : Tx)
/-- the kids of one alternative, the number told apart -/
def trK (f : NT → Nat → Nat → Nat → Option T) : List (Option (NT × Nat × Nat)) → List Nat → Nat → Nat → Option (List T)
  | o :: os, a :: b :: r, many, n =>
    let m := many / szO (cntT l t) o
    match (match o with
      | none => some (T.leaf (sl t a b))
      | some (x, a', b') => f x a' b' (n / m)) with
    | none => none
    | some k => (trK f os (b :: r) m (n % m)).map (k :: ·)
  | _, _, _, _ => some []
def trA (f : NT → Nat → Nat → Nat → Option T) : List (Nat × List Nat) → Nat → Option T
  | [], _ => none
  | (k, c) :: r, n =>
    let many := prd ((kidL (syms l k) c).map (szO (cntT l t)))
    if n < many then (trK l t f (kidL (syms l k) c) c many n).map (T.node k) else trA f r (n - many)
def tr : Nat → NT → Nat → Nat → Nat → Option T
  | 0, _, _, _, _ => none
  | f + 1, x, s, e, n => trA l t (tr f) (alts l t x s e) n
end
end
end K38
/-! Plain mathematics, part 5: how many cuts, the ends as the program lists them. -/
namespace K38
def ntc : List Sym → Nat
  | [] => 0
  | .nt _ :: ys => ntc ys + 1
  | _ :: ys => ntc ys
theorem ntc_le (l : Bool) (k : Nat) : ntc (syms l k) ≤ 2 := by
  match k with
  | 0 | 1 | 2 | 3 | 4 | 5 | 6 | 7 | 8 => cases l <;> decide
  | k + 9 => show ntc [] ≤ 2; decide
theorem tE_len (t : Tx) (y : Sym) (i : Nat) : (tE t y i).length ≤ 1 := by
  cases y with
  | nt u => exact Nat.zero_le _
  | lit c => simp only [tE]; split <;> simp
  | run c => simp only [tE]; split <;> simp
theorem En_len (l : Bool) (t : Tx) (x : NT) (i : Nat) : (En l t (.nt x) i).length ≤ t.length + 1 := by
  have := nodup_len (l := En l t (.nt x) i) (m := List.range (t.length + 1)) En_nd fun e he => List.mem_range.mpr (by have := En_ge he; omega)
  rwa [List.length_range] at this
theorem flat_len {α β : Type} (F : α → List β) (B : Nat) : ∀ (xs : List α), (∀ x ∈ xs, (F x).length ≤ B) → (xs.flatMap F).length ≤ xs.length * B
  | [], _ => by simp
  | x :: xs, h => by
    have h1 := flat_len F B xs fun y hy => h y (List.mem_cons_of_mem _ hy)
    have h2 := h x (List.mem_cons_self ..)
    rw [List.flatMap_cons, List.length_append, List.length_cons, Nat.succ_mul]
    omega
theorem cuts_len (l : Bool) (t : Tx) : ∀ (ys : List Sym) (s e : Nat), (cuts l t ys s e).length ≤ (t.length + 1) ^ ntc ys
  | [], s, e => by
    unfold cuts
    split <;> simp [ntc]
  | y :: ys, s, e => by
    have h : (cuts l t (y :: ys) s e).length ≤ (En l t y s).length * (t.length + 1) ^ ntc ys := by
      refine flat_len _ _ _ fun m _ => ?_
      split
      · rw [List.length_map]; exact cuts_len l t ys m e
      · exact Nat.zero_le _
    have pos : 1 ≤ (t.length + 1) ^ ntc ys := Nat.one_le_pow _ _ (by omega)
    cases y with
    | nt x =>
      refine Nat.le_trans h ?_
      show _ ≤ (t.length + 1) ^ (ntc ys + 1)
      rw [Nat.pow_succ, Nat.mul_comm]
      exact Nat.mul_le_mul_left _ (En_len l t x s)
    | lit c =>
      have h1 : (En l t (.lit c) s).length ≤ 1 := tE_len t (.lit c) s
      refine Nat.le_trans h (Nat.le_trans (Nat.mul_le_mul_right _ h1) ?_)
      rw [Nat.one_mul]; exact Nat.le_refl _
    | run c =>
      have h1 : (En l t (.run c) s).length ≤ 1 := tE_len t (.run c) s
      refine Nat.le_trans h (Nat.le_trans (Nat.mul_le_mul_right _ h1) ?_)
      rw [Nat.one_mul]; exact Nat.le_refl _
theorem En_sorted (l : Bool) (t : Tx) (x : NT) (i : Nat) : (En l t (.nt x) i).Pairwise (· ≤ ·) := by
  refine List.Pairwise.sublist (l₂ := List.range (t.length + 1)) List.filter_sublist ?_
  exact (List.pairwise_lt_range).imp fun h => Nat.le_of_lt h
theorem eq_of_lt : ∀ {xs ys : List Nat}, xs.Pairwise (· < ·) → ys.Pairwise (· < ·) → (∀ e, e ∈ xs ↔ e ∈ ys) → xs = ys
  | [], [], _, _, _ => rfl
  | [], y :: ys, _, _, h => absurd ((h y).mpr (List.mem_cons_self ..)) (by simp)
  | x :: xs, [], _, _, h => absurd ((h x).mp (List.mem_cons_self ..)) (by simp)
  | x :: xs, y :: ys, hx, hy, h => by
    rw [List.pairwise_cons] at hx hy
    have e : x = y := by
      rcases Nat.lt_trichotomy x y with c | c | c
      · rcases List.mem_cons.mp ((h x).mp (List.mem_cons_self ..)) with q | q
        · exact q
        · have := hy.1 x q; omega
      · exact c
      · rcases List.mem_cons.mp ((h y).mpr (List.mem_cons_self ..)) with q | q
        · exact q.symm
        · have := hx.1 y q; omega
    subst e
    rw [eq_of_lt hx.2 hy.2 fun e => ?_]
    constructor
    · intro he
      rcases List.mem_cons.mp ((h e).mp (List.mem_cons_of_mem _ he)) with q | q
      · subst q; have := hx.1 e he; omega
      · exact q
    · intro he
      rcases List.mem_cons.mp ((h e).mpr (List.mem_cons_of_mem _ he)) with q | q
      · subst q; have := hy.1 e he; omega
      · exact q
theorem lt_of_nd {xs : List Nat} (h : xs.Pairwise (· ≤ ·)) (nd : xs.Nodup) : xs.Pairwise (· < ·) :=
  (h.and (List.nodup_iff_pairwise_ne.mp nd)).imp fun ⟨a, b⟩ => Nat.lt_of_le_of_ne a b
/-- the sorted ends are the ends -/
theorem ends_En {l t S x m} {L : List Nat} (G : Good l t (t.length + 1) 0 S) (h1 : L.Perm ((S.rw m x).getD [])) (h2 : L.Pairwise (· ≤ ·)) : L = En l t (.nt x) m := by
  have nd : L.Nodup := by
    refine h1.nodup_iff.mpr ?_
    cases q : S.rw m x with
    | none => exact List.nodup_nil
    | some es => exact List.nodup_iff_pairwise_ne.mpr ((G.rnd m x es q).imp fun h => h)
  refine eq_of_lt (lt_of_nd h2 nd) (lt_of_nd (En_sorted l t x m) En_nd) fun e => ?_
  rw [h1.mem_iff, G.ends, mem_En_nt]
theorem cuts_cons (l : Bool) (t : Tx) (y : Sym) (ys : List Sym) (s e : Nat) : cuts l t (y :: ys) s e = (En l t y s).flatMap fun m => if m ≤ e then (cuts l t ys m e).map (s :: ·) else [] := rfl
theorem alts_len (l : Bool) (t : Tx) (ht : t.length ≤ 192) (x : NT) (s e : Nat) : (alts l t x s e).length ≤ 40000 := by
  have c := fun k => cuts_len l t (syms l k) s e
  have p1 : (t.length + 1) ^ 1 ≤ 193 := by rw [Nat.pow_one]; omega
  have p0 : (t.length + 1) ^ 0 ≤ 1 := by rw [Nat.pow_zero]; exact Nat.le_refl _
  have p2 : (t.length + 1) ^ 2 ≤ 37249 := Nat.le_trans (Nat.pow_le_pow_left (show t.length + 1 ≤ 193 by omega) 2) (by decide)
  have c0 : (cuts l t (syms l 0) s e).length ≤ (t.length + 1) ^ 2 := by have := c 0; cases l <;> exact this
  have c1 : (cuts l t (syms l 1) s e).length ≤ (t.length + 1) ^ 0 := by have := c 1; cases l <;> exact this
  have c2 : (cuts l t (syms l 2) s e).length ≤ (t.length + 1) ^ 2 := by have := c 2; cases l <;> exact this
  have c3 : (cuts l t (syms l 3) s e).length ≤ (t.length + 1) ^ 2 := by have := c 3; cases l <;> exact this
  have c4 : (cuts l t (syms l 4) s e).length ≤ (t.length + 1) ^ 1 := by have := c 4; cases l <;> exact this
  have c5 : (cuts l t (syms l 5) s e).length ≤ (t.length + 1) ^ 1 := by have := c 5; cases l <;> exact this
  have c6 : (cuts l t (syms l 6) s e).length ≤ (t.length + 1) ^ 0 := by have := c 6; cases l <;> exact this
  have c7 : (cuts l t (syms l 7) s e).length ≤ (t.length + 1) ^ 1 := by have := c 7; cases l <;> exact this
  have c8 : (cuts l t (syms l 8) s e).length ≤ (t.length + 1) ^ 0 := by have := c 8; cases l <;> exact this
  unfold alts
  cases x <;> simp only [byN, List.flatMap_cons, List.flatMap_nil, List.length_append, List.length_map, List.length_nil] <;> omega
end K38
/-! Plain mathematics, part 6: few alternatives, how great the number of trees is. -/
namespace K38
def isLit : Sym → Bool
  | .lit _ => true
  | _ => false
theorem cuts_lits (l : Bool) (t : Tx) : ∀ (ys : List Sym) (m e : Nat), ys.all isLit = true → (cuts l t ys m e).length ≤ if m + ys.length = e then 1 else 0
  | [], m, e, _ => by
    unfold cuts
    by_cases c : m = e
    · simp [c]
    · simp [c]
  | y :: ys, m, e, h => by
    simp only [List.all_cons, Bool.and_eq_true] at h
    cases y with
    | lit c =>
      have ih := cuts_lits l t ys (m + 1) e h.2
      rw [cuts_cons, show En l t (.lit c) m = tE t (.lit c) m from rfl]
      simp only [tE]
      split
      · simp only [List.flatMap_cons, List.flatMap_nil, List.append_nil]
        split
        · rw [List.length_map, List.length_cons]
          refine Nat.le_trans ih ?_
          by_cases q : m + 1 + ys.length = e
          · rw [if_pos q, if_pos (by omega)]; exact Nat.le_refl _
          · rw [if_neg q]; exact Nat.zero_le _
        · exact Nat.zero_le _
      · exact Nat.zero_le _
    | nt x => exact absurd h.1 (by simp [isLit])
    | run b => exact absurd h.1 (by simp [isLit])
theorem sum_one : ∀ (xs : List Nat) (f : Nat → Nat) (k e : Nat), xs.Nodup → (∀ m ∈ xs, f m ≤ if m + k = e then 1 else 0) → (xs.map f).sum ≤ 1
  | [], _, _, _, _, _ => by simp
  | x :: xs, f, k, e, nd, h => by
    rw [List.nodup_cons] at nd
    rw [List.map_cons, List.sum_cons]
    have hx := h x (List.mem_cons_self ..)
    by_cases c : x + k = e
    · rw [if_pos c] at hx
      have z : (xs.map f).sum = 0 := by
        have : ∀ m ∈ xs, f m = 0 := fun m hm => by
          have := h m (List.mem_cons_of_mem _ hm)
          rw [if_neg (fun q => nd.1 (by have : m = x := by omega
                                        rw [← this]; exact hm))] at this
          omega
        clear h hx nd
        induction xs with
        | nil => rfl
        | cons a xs ih => rw [List.map_cons, List.sum_cons, this a (List.mem_cons_self ..), ih fun m hm => this m (List.mem_cons_of_mem _ hm)]
      omega
    · rw [if_neg c] at hx
      have := sum_one xs f k e nd.2 fun m hm => h m (List.mem_cons_of_mem _ hm)
      omega
theorem flat_sum {α β : Type} (F : α → List β) : ∀ xs : List α, (xs.flatMap F).length = (xs.map fun x => (F x).length).sum
  | [] => rfl
  | x :: xs => by rw [List.flatMap_cons, List.length_append, flat_sum F xs, List.map_cons, List.sum_cons]
/-- one name with signs behind it: its end is told from behind -/
theorem cuts_one (l : Bool) (t : Tx) (y : Sym) (ys : List Sym) (s e : Nat) (h : ys.all isLit = true) : (cuts l t (y :: ys) s e).length ≤ 1 := by
  rw [cuts_cons, flat_sum]
  refine sum_one _ _ ys.length e En_nd fun m hm => ?_
  show (if m ≤ e then (cuts l t ys m e).map (s :: ·) else []).length ≤ _
  split
  · rw [List.length_map]; exact cuts_lits l t ys m e h
  · exact Nat.zero_le _
theorem cuts_lit (l : Bool) (t : Tx) (c : Nat) (ys : List Sym) (s e : Nat) : (cuts l t (.lit c :: ys) s e).length ≤ (cuts l t ys (s + 1) e).length := by
  rw [cuts_cons, show En l t (.lit c) s = tE t (.lit c) s from rfl]
  simp only [tE]
  split
  · simp only [List.flatMap_cons, List.flatMap_nil, List.append_nil]
    split
    · rw [List.length_map]; exact Nat.le_refl _
    · exact Nat.zero_le _
  · exact Nat.zero_le _
theorem cuts_nt (l : Bool) (t : Tx) (x : NT) (ys : List Sym) (s e B : Nat) (h : ∀ m, (cuts l t ys m e).length ≤ B) : (cuts l t (.nt x :: ys) s e).length ≤ (t.length + 1) * B := by
  rw [cuts_cons]
  refine Nat.le_trans (flat_len _ B _ fun m _ => ?_) (Nat.mul_le_mul_right _ (En_len l t x s))
  split
  · rw [List.length_map]; exact h m
  · exact Nat.zero_le _
theorem cuts_few (l : Bool) (t : Tx) (k s e : Nat) (hk : k < 9) : (cuts l t (syms l k) s e).length ≤ if k = 0 ∨ k = 2 ∨ k = 3 then t.length + 1 else 1 := by
  have : k = 0 ∨ k = 1 ∨ k = 2 ∨ k = 3 ∨ k = 4 ∨ k = 5 ∨ k = 6 ∨ k = 7 ∨ k = 8 := by omega
  rcases this with h | h | h | h | h | h | h | h | h <;> subst h
  · simpa [syms] using cuts_nt l t .line [.nt .p] s e 1 fun m => cuts_one l t (.nt .p) [] m e rfl
  · simp only [syms, cuts]; split <;> simp
  · simpa [syms] using cuts_nt l t .word _ s e 1 fun m => Nat.le_trans (cuts_lit l t _ _ m e) (cuts_one l t (.nt .list) _ (m + 1) e rfl)
  · cases l
    · simpa [syms] using cuts_nt false t .item _ s e 1 fun m => Nat.le_trans (cuts_lit false t _ _ m e) (cuts_one false t (.nt .list) [] (m + 1) e rfl)
    · simpa [syms] using cuts_nt true t .list _ s e 1 fun m => Nat.le_trans (cuts_lit true t _ _ m e) (cuts_one true t (.nt .list) [] (m + 1) e rfl)
  · simpa [syms] using cuts_one l t _ [] s e rfl
  · simpa [syms] using cuts_one l t _ [] s e rfl
  · simpa [syms] using cuts_one l t _ [] s e rfl
  · simpa [syms] using Nat.le_trans (cuts_lit l t _ _ s e) (cuts_one l t (.nt .list) _ (s + 1) e rfl)
  · simpa [syms] using cuts_one l t _ [] s e rfl
theorem alts_few (l : Bool) (t : Tx) (ht : t.length ≤ 192) (x : NT) (s e : Nat) : (alts l t x s e).length ≤ 256 := by
  have c := fun k hk => cuts_few l t k s e hk
  have c0 := c 0 (by omega)
  have c1 := c 1 (by omega)
  have c2 := c 2 (by omega)
  have c3 := c 3 (by omega)
  have c4 := c 4 (by omega)
  have c5 := c 5 (by omega)
  have c6 := c 6 (by omega)
  have c7 := c 7 (by omega)
  have c8 := c 8 (by omega)
  simp only [Nat.reduceEqDiff, or_self, or_true, true_or, if_true, if_false, or_false, false_or, Nat.zero_ne_one, Nat.one_ne_zero] at c0 c1 c2 c3 c4 c5 c6 c7 c8
  unfold alts
  cases x <;> simp only [byN, List.flatMap_cons, List.flatMap_nil, List.length_append, List.length_map, List.length_nil] <;> omega
/-- the weight of a stretch: the number of its trees is at most 2 ^ (8 * weight) -/
def wt8 (x : NT) (s e : Nat) : Nat := match x with
  | .word => 4 * (e - s)
  | .item => 4 * (e - s) + 1
  | .list => 4 * (e - s) + 2
  | .line => 4 * (e - s) - 1
  | .p => 4 * (e - s) + 1
def wtO : Option (NT × Nat × Nat) → Nat
  | none => 0
  | some (x, a, b) => wt8 x a b
theorem wt_kids {l : Bool} {t : Tx} {x : NT} {s e k : Nat} {c : List Nat} (h : (k, c) ∈ alts l t x s e) : ((kidL (syms l k) c).map wtO).sum + 1 ≤ wt8 x s e := by
  obtain ⟨h1, h2⟩ := mem_alts.mp h
  obtain ⟨hx, hk9⟩ := byN_left h1
  subst hx
  have : k = 0 ∨ k = 1 ∨ k = 2 ∨ k = 3 ∨ k = 4 ∨ k = 5 ∨ k = 6 ∨ k = 7 ∨ k = 8 := by omega
  rcases this with h' | h' | h' | h' | h' | h' | h' | h' | h' <;> subst h'
  · simp only [syms] at h2 ⊢
    obtain ⟨m, c1, e1, l1, k1, rfl⟩ := mem_cuts_cons.mp h2
    obtain ⟨m2, c2, e2, l2, k2, rfl⟩ := mem_cuts_cons.mp k1
    obtain ⟨kk, rfl⟩ := mem_cuts_nil.mp k2
    have g1 := En_gt e1 (by simp)
    have g2 := En_ge e2
    simp only [kidL, kidO, List.map_cons, List.map_nil, List.sum_cons, List.sum_nil, wtO, wt8, left]
    omega
  · simp only [syms] at h2 ⊢
    obtain ⟨kk, rfl⟩ := mem_cuts_nil.mp h2
    simp only [kidL, List.map_nil, List.sum_nil, wt8, left]
    omega
  · simp only [syms] at h2 ⊢
    obtain ⟨m, c1, e1, l1, k1, rfl⟩ := mem_cuts_cons.mp h2
    obtain ⟨m2, c2, e2, l2, k2, rfl⟩ := mem_cuts_cons.mp k1
    obtain ⟨m3, c3, e3, l3, k3, rfl⟩ := mem_cuts_cons.mp k2
    obtain ⟨m4, c4, e4, l4, k4, rfl⟩ := mem_cuts_cons.mp k3
    obtain ⟨kk, rfl⟩ := mem_cuts_nil.mp k4
    have g1 := En_gt e1 (by simp)
    have g2 := En_gt e2 (by simp)
    have g3 := En_gt e3 (by simp)
    have g4 := En_gt e4 (by simp)
    simp only [kidL, kidO, List.map_cons, List.map_nil, List.sum_cons, List.sum_nil, wtO, wt8, left]
    omega
  · simp only [syms] at h2 ⊢
    obtain ⟨m, c1, e1, l1, k1, rfl⟩ := mem_cuts_cons.mp h2
    obtain ⟨m2, c2, e2, l2, k2, rfl⟩ := mem_cuts_cons.mp k1
    obtain ⟨m3, c3, e3, l3, k3, rfl⟩ := mem_cuts_cons.mp k2
    obtain ⟨kk, rfl⟩ := mem_cuts_nil.mp k3
    have g1 := En_gt e1 (by cases l <;> simp)
    have g2 := En_gt e2 (by simp)
    have g3 := En_gt e3 (by simp)
    cases l
    · simp only [kidL, kidO, List.map_cons, List.map_nil, List.sum_cons, List.sum_nil, wtO, wt8, left, Bool.false_eq_true, if_false]
      omega
    · simp only [kidL, kidO, List.map_cons, List.map_nil, List.sum_cons, List.sum_nil, wtO, wt8, left, if_true]
      omega
  · simp only [syms] at h2 ⊢
    obtain ⟨m, c1, e1, l1, k1, rfl⟩ := mem_cuts_cons.mp h2
    obtain ⟨kk, rfl⟩ := mem_cuts_nil.mp k1
    have g1 := En_gt e1 (by simp)
    simp only [kidL, kidO, List.map_cons, List.map_nil, List.sum_cons, List.sum_nil, wtO, wt8, left]
    omega
  · simp only [syms] at h2 ⊢
    obtain ⟨m, c1, e1, l1, k1, rfl⟩ := mem_cuts_cons.mp h2
    obtain ⟨kk, rfl⟩ := mem_cuts_nil.mp k1
    have g1 := En_gt e1 (by simp)
    simp only [kidL, kidO, List.map_cons, List.map_nil, List.sum_cons, List.sum_nil, wtO, wt8, left]
    omega
  · simp only [syms] at h2 ⊢
    obtain ⟨m, c1, e1, l1, k1, rfl⟩ := mem_cuts_cons.mp h2
    obtain ⟨kk, rfl⟩ := mem_cuts_nil.mp k1
    have g1 := En_gt e1 (by simp)
    simp only [kidL, kidO, List.map_cons, List.map_nil, List.sum_cons, List.sum_nil, wtO, wt8, left]
    omega
  · simp only [syms] at h2 ⊢
    obtain ⟨m, c1, e1, l1, k1, rfl⟩ := mem_cuts_cons.mp h2
    obtain ⟨m2, c2, e2, l2, k2, rfl⟩ := mem_cuts_cons.mp k1
    obtain ⟨m3, c3, e3, l3, k3, rfl⟩ := mem_cuts_cons.mp k2
    obtain ⟨kk, rfl⟩ := mem_cuts_nil.mp k3
    have g1 := En_gt e1 (by simp)
    have g2 := En_gt e2 (by simp)
    have g3 := En_gt e3 (by simp)
    simp only [kidL, kidO, List.map_cons, List.map_nil, List.sum_cons, List.sum_nil, wtO, wt8, left]
    omega
  · simp only [syms] at h2 ⊢
    obtain ⟨m, c1, e1, l1, k1, rfl⟩ := mem_cuts_cons.mp h2
    obtain ⟨kk, rfl⟩ := mem_cuts_nil.mp k1
    have g1 := En_gt e1 (by simp)
    simp only [kidL, kidO, List.map_cons, List.map_nil, List.sum_cons, List.sum_nil, wtO, wt8, left]
    omega
theorem prd_cons (n : Nat) (ns : List Nat) : prd (n :: ns) = n * prd ns := by
  have gen : ∀ (ns : List Nat) (a : Nat), ns.foldl (· * ·) a = a * ns.foldl (· * ·) 1 := fun ns => by
    induction ns with
    | nil => intro a; simp
    | cons m ns ih => intro a; rw [List.foldl_cons, ih, List.foldl_cons, ih (1 * m), Nat.one_mul, Nat.mul_assoc]
  unfold prd
  rw [List.foldl_cons, gen, Nat.one_mul]
theorem prd_le : ∀ (os : List (Option (NT × Nat × Nat))) (f : Option (NT × Nat × Nat) → Nat), (∀ o ∈ os, f o ≤ 2 ^ (8 * wtO o)) → prd (os.map f) ≤ 2 ^ (8 * (os.map wtO).sum)
  | [], _, _ => by simp [prd]
  | o :: os, f, h => by
    rw [List.map_cons, prd_cons, List.map_cons, List.sum_cons, Nat.mul_add, Nat.pow_add]
    exact Nat.mul_le_mul (h o (List.mem_cons_self ..)) (prd_le os f fun q hq => h q (List.mem_cons_of_mem _ hq))
theorem sum_le {α : Type} (f : α → Nat) (B : Nat) : ∀ xs : List α, (∀ x ∈ xs, f x ≤ B) → (xs.map f).sum ≤ xs.length * B
  | [], _ => by simp
  | x :: xs, h => by
    rw [List.map_cons, List.sum_cons, List.length_cons, Nat.succ_mul]
    have h1 := sum_le f B xs fun y hy => h y (List.mem_cons_of_mem _ hy)
    have h2 := h x (List.mem_cons_self ..)
    omega
theorem szO_le (l : Bool) (t : Tx) (f : NT → Nat → Nat → Nat) (o : Option (NT × Nat × Nat)) (h : ∀ x a b, o = some (x, a, b) → f x a b ≤ 2 ^ (8 * wt8 x a b)) : szO f o ≤ 2 ^ (8 * wtO o) := by
  cases o with
  | none => exact Nat.le_refl _
  | some o => obtain ⟨x, a, b⟩ := o; exact h x a b rfl
theorem cnt_le (l : Bool) (t : Tx) (ht : t.length ≤ 192) : ∀ (f : Nat) (x : NT) (s e : Nat), cnt l t f x s e ≤ 2 ^ (8 * wt8 x s e)
  | 0, _, _, _ => Nat.zero_le _
  | f + 1, x, s, e => by
    unfold cnt
    by_cases hn : alts l t x s e = []
    · rw [hn]; exact Nat.zero_le _
    obtain ⟨kc0, h0⟩ := List.exists_mem_of_ne_nil _ hn
    have w0 := wt_kids (k := kc0.1) (c := kc0.2) h0
    refine Nat.le_trans (sum_le _ (2 ^ (8 * (wt8 x s e - 1))) _ fun kc hkc => ?_) ?_
    · have wk := wt_kids (k := kc.1) (c := kc.2) hkc
      refine Nat.le_trans (prd_le _ _ fun o ho => szO_le l t _ o fun x' a b _ => cnt_le l t ht f x' a b) ?_
      exact Nat.pow_le_pow_right (by decide) (by omega)
    · refine Nat.le_trans (Nat.mul_le_mul_right _ (alts_few l t ht x s e)) ?_
      rw [show (256 : Nat) = 2 ^ 8 by decide, ← Nat.pow_add]
      exact Nat.pow_le_pow_right (by decide) (by omega)
theorem cntT_le (l : Bool) (t : Tx) (ht : t.length ≤ 192) (x : NT) {s e : Nat} (he : e ≤ t.length) : cntT l t x s e < 2 ^ 6200 := by
  refine Nat.lt_of_le_of_lt (cnt_le l t ht _ x s e) (Nat.pow_lt_pow_right (by decide) ?_)
  cases x <;> simp only [wt8] <;> omega
theorem prd_pos : ∀ ns : List Nat, (∀ n ∈ ns, 0 < n) → 0 < prd ns
  | [], _ => by decide
  | n :: ns, h => by
    rw [prd_cons]
    exact Nat.mul_pos (h n (List.mem_cons_self ..)) (prd_pos ns fun m hm => h m (List.mem_cons_of_mem _ hm))
theorem cnt_pos (l : Bool) (t : Tx) : ∀ (f : Nat) (x : NT) (s e : Nat), mu x s e < f → e ∈ En l t (.nt x) s → 0 < cnt l t f x s e
  | 0, _, _, _, h, _ => absurd h (by omega)
  | f + 1, x, s, e, h, he => by
    unfold cnt
    obtain ⟨kc, hkc⟩ := List.exists_mem_of_ne_nil _ (alts_ne he)
    have : 0 < prd ((kidL (syms l kc.1) kc.2).map (szO (cnt l t f))) := prd_pos _ fun n hn => by
      obtain ⟨o, ho, rfl⟩ := List.mem_map.mp hn
      cases o with
      | none => exact Nat.one_pos
      | some o =>
        obtain ⟨x', a, b⟩ := o
        have k := kid_of (k := kc.1) (c := kc.2) hkc ho
        exact cnt_pos l t f x' a b (by omega) k.1
    obtain ⟨as, bs, e⟩ := List.append_of_mem hkc
    rw [e, List.map_append, List.sum_append, List.map_cons, List.sum_cons]
    omega
theorem cntT_pos {l : Bool} {t : Tx} {x : NT} {s e : Nat} (h : e ∈ En l t (.nt x) s) : 0 < cntT l t x s e := cnt_pos l t _ x s e (Nat.lt_succ_self _) h
end K38
/-! Plain mathematics, part 7: the trees by number, without fuel. -/
namespace K38
noncomputable section
def trT (l : Bool) (t : Tx) (x : NT) (s e n : Nat) : Option T := tr l t (mu x s e + 1) x s e n
theorem trK_congr (l : Bool) (t : Tx) (f g : NT → Nat → Nat → Nat → Option T) : ∀ (os : List (Option (NT × Nat × Nat))) (c : List Nat) (many n : Nat), (∀ x a b, some (x, a, b) ∈ os → ∀ n, f x a b n = g x a b n) → trK l t f os c many n = trK l t g os c many n
  | [], _, _, _, _ => by unfold trK; rfl
  | _ :: _, [], _, _, _ => by unfold trK; rfl
  | _ :: _, [_], _, _, _ => by unfold trK; rfl
  | o :: os, a :: b :: r, many, n, h => by
    have ih := trK_congr l t f g os (b :: r) (many / szO (cntT l t) o) (n % (many / szO (cntT l t) o)) fun x a b hm => h x a b (List.mem_cons_of_mem _ hm)
    unfold trK
    cases o with
    | none => simp only [ih]
    | some o =>
      obtain ⟨x, a', b'⟩ := o
      simp only [ih, h x a' b' (List.mem_cons_self ..)]
theorem trA_congr (l : Bool) (t : Tx) (f g : NT → Nat → Nat → Nat → Option T) : ∀ (as : List (Nat × List Nat)) (n : Nat), (∀ kc ∈ as, ∀ x a b, some (x, a, b) ∈ kidL (syms l kc.1) kc.2 → ∀ n, f x a b n = g x a b n) → trA l t f as n = trA l t g as n
  | [], _, _ => rfl
  | (k, c) :: as, n, h => by
    unfold trA
    simp only [trK_congr l t f g _ c _ n fun x a b hm => h (k, c) (List.mem_cons_self ..) x a b hm, trA_congr l t f g as _ fun kc hk => h kc (List.mem_cons_of_mem _ hk)]
theorem tr_fuel (l : Bool) (t : Tx) : ∀ (f g : Nat) (x : NT) (s e n : Nat), mu x s e < f → mu x s e < g → tr l t f x s e n = tr l t g x s e n
  | 0, _, _, _, _, _, h, _ => absurd h (by omega)
  | _ + 1, 0, _, _, _, _, _, h => absurd h (by omega)
  | f + 1, g + 1, x, s, e, n, hf, hg => by
    unfold tr
    refine trA_congr l t _ _ _ n fun kc hk x' a b ho n' => ?_
    have k := kid_of (k := kc.1) (c := kc.2) hk ho
    exact tr_fuel l t f g x' a b n' (by omega) (by omega)
theorem trT_eq (l : Bool) (t : Tx) (x : NT) (s e n : Nat) : trT l t x s e n = trA l t (trT l t) (alts l t x s e) n := by
  show tr l t (mu x s e + 1) x s e n = _
  unfold tr
  refine trA_congr l t _ _ _ n fun kc hk x' a b ho n' => ?_
  have k := kid_of (k := kc.1) (c := kc.2) hk ho
  exact tr_fuel l t _ _ x' a b n' k.2.2.2.2 (Nat.lt_succ_self _)
theorem trK_cons (l : Bool) (t : Tx) (f : NT → Nat → Nat → Nat → Option T) (o : Option (NT × Nat × Nat)) (os : List (Option (NT × Nat × Nat))) (a b : Nat) (r : List Nat) (many n : Nat) (k : T)
    (h : (match o with | none => some (T.leaf (sl t a b)) | some (x, a', b') => f x a' b' (n / (many / szO (cntT l t) o))) = some k) :
    trK l t f (o :: os) (a :: b :: r) many n = (trK l t f os (b :: r) (many / szO (cntT l t) o) (n % (many / szO (cntT l t) o))).map (k :: ·) := by
  conv => lhs; unfold trK
  simp only []
  cases o with
  | none => simp only at h ⊢; cases h; rfl
  | some o =>
    obtain ⟨x, a', b'⟩ := o
    simp only at h ⊢
    rw [h]
theorem trA_skip (l : Bool) (t : Tx) (f : NT → Nat → Nat → Nat → Option T) (k : Nat) (c : List Nat) (as : List (Nat × List Nat)) (n : Nat) (h : ¬ n < prd ((kidL (syms l k) c).map (szO (cntT l t)))) :
    trA l t f ((k, c) :: as) n = trA l t f as (n - prd ((kidL (syms l k) c).map (szO (cntT l t)))) := by
  conv => lhs; unfold trA
  simp only [if_neg h]
theorem trA_take (l : Bool) (t : Tx) (f : NT → Nat → Nat → Nat → Option T) (k : Nat) (c : List Nat) (as : List (Nat × List Nat)) (n : Nat) (h : n < prd ((kidL (syms l k) c).map (szO (cntT l t)))) :
    trA l t f ((k, c) :: as) n = (trK l t f (kidL (syms l k) c) c (prd ((kidL (syms l k) c).map (szO (cntT l t)))) n).map (T.node k) := by
  conv => lhs; unfold trA
  simp only [if_pos h]
end
end K38
/-! Plain mathematics, part 8: sizes and depths of trees. -/
namespace K38
mutual
def szT : T → Nat
  | .leaf u => u.length
  | .node _ ks => szTs ks
def szTs : List T → Nat
  | [] => 0
  | k :: ks => szT k + szTs ks
end
mutual
def dpT : T → Nat
  | .leaf _ => 0
  | .node _ ks => dpTs ks + 1
def dpTs : List T → Nat
  | [] => 0
  | k :: ks => max (dpT k) (dpTs ks)
end
mutual
/-- every node has few kids -/
def wfT : T → Prop
  | .leaf _ => True
  | .node _ ks => ks.length ≤ 10 ∧ wfTs ks
def wfTs : List T → Prop
  | [] => True
  | k :: ks => wfT k ∧ wfTs ks
end
theorem wfTs_mem : ∀ {ks : List T} {k : T}, wfTs ks → k ∈ ks → wfT k
  | k' :: ks, k, h, hm => by
    have h : wfT k' ∧ wfTs ks := h
    rcases List.mem_cons.mp hm with q | q
    · subst q; exact h.1
    · exact wfTs_mem h.2 q
theorem szTs_mem : ∀ {ks : List T} {k : T}, k ∈ ks → szT k ≤ szTs ks
  | k' :: ks, k, h => by
    show _ ≤ szT k' + szTs ks
    rcases List.mem_cons.mp h with q | q
    · subst q; omega
    · have := szTs_mem q; omega
theorem szTs_sum : ∀ ks : List T, szTs ks = (ks.map szT).sum
  | [] => rfl
  | k :: ks => by show szT k + szTs ks = _; rw [szTs_sum ks, List.map_cons, List.sum_cons]
theorem dpTs_le : ∀ {ks : List T} {k : T}, k ∈ ks → dpT k ≤ dpTs ks
  | k' :: ks, k, h => by
    show _ ≤ max (dpT k') (dpTs ks)
    rcases List.mem_cons.mp h with q | q
    · subst q; omega
    · have := dpTs_le q; omega
/-- the rows of a tree: path, rule, start, end, from above -/
abbrev Row := List Nat × Nat × Nat × Nat
mutual
def nodesT : T → List Nat → Nat → List Row
  | .leaf _, _, _ => []
  | .node r ks, path, s => (path, r, s, s + szTs ks) :: nodesTs ks path 0 s
def nodesTs : List T → List Nat → Nat → Nat → List Row
  | [], _, _, _ => []
  | k :: ks, path, i, s => nodesT k (path ++ [i]) s ++ nodesTs ks path (i + 1) (s + szT k)
end
theorem nodesTs_app : ∀ (ks : List T) (k : T) (path : List Nat) (i s : Nat), nodesTs (ks ++ [k]) path i s = nodesTs ks path i s ++ nodesT k (path ++ [i + ks.length]) (s + szTs ks)
  | [], k, path, i, s => by simp [nodesTs, szTs]
  | k' :: ks, k, path, i, s => by
    show nodesT k' (path ++ [i]) s ++ nodesTs (ks ++ [k]) path (i + 1) (s + szT k') = (nodesT k' (path ++ [i]) s ++ nodesTs ks path (i + 1) (s + szT k')) ++ _
    rw [nodesTs_app ks k path (i + 1), List.append_assoc]
    congr 3
    · rw [List.length_cons]; congr 2; omega
    · show s + szT k' + szTs ks = s + (szT k' + szTs ks); omega
theorem szTs_app : ∀ (ks : List T) (k : T), szTs (ks ++ [k]) = szTs ks + szT k
  | [], k => by simp [szTs]
  | k' :: ks, k => by show szT k' + szTs (ks ++ [k]) = szT k' + szTs ks + szT k; rw [szTs_app ks k]; omega
mutual
def nnT : T → Nat
  | .leaf _ => 0
  | .node _ ks => nnTs ks + 1
def nnTs : List T → Nat
  | [] => 0
  | k :: ks => nnT k + nnTs ks
end
mutual
theorem nodesT_len : ∀ (t : T) (path : List Nat) (s : Nat), (nodesT t path s).length = nnT t
  | .leaf _, _, _ => rfl
  | .node r ks, path, s => by show (nodesTs ks path 0 s).length + 1 = nnTs ks + 1; rw [nodesTs_len]
theorem nodesTs_len : ∀ (ks : List T) (path : List Nat) (i s : Nat), (nodesTs ks path i s).length = nnTs ks
  | [], _, _, _ => rfl
  | k :: ks, path, i, s => by show (nodesT k _ s ++ nodesTs ks _ _ _).length = nnT k + nnTs ks; rw [List.length_append, nodesT_len, nodesTs_len]
end
theorem nnTs_mem : ∀ {ks : List T} {k : T}, k ∈ ks → nnT k ≤ nnTs ks
  | k' :: ks, k, h => by
    show _ ≤ nnT k' + nnTs ks
    rcases List.mem_cons.mp h with q | q
    · subst q; omega
    · have := nnTs_mem q; omega
end K38
/-! Plain mathematics, part 9: what is asked for where; the ends, rule by rule. -/
namespace K38
section
variable {l : Bool} {t : Tx}
/-- x is asked for at i -/
def Pr (l : Bool) (t : Tx) (x : NT) (i : Nat) : Prop := ∀ r ∈ byN x, It l t r 0 i i
theorem pr_top : Pr l t .p 0 := fun _ h => .init h
theorem Pr.of {r j s i x} (h : It l t r j s i) (hx : (syms l r)[j]? = some (.nt x)) : Pr l t x i := fun _ h' => .pred h hx h'
/-- the ends of a name by its rules -/
theorem En_iff {x i e} (hp : Pr l t x i) : e ∈ En l t (.nt x) i ↔ ∃ k ∈ byN x, ∃ c, c ∈ cuts l t (syms l k) i e := by
  constructor
  · intro h
    obtain ⟨kc, hkc⟩ := List.exists_mem_of_ne_nil _ (alts_ne h)
    obtain ⟨h1, h2⟩ := mem_alts.mp (show (kc.1, kc.2) ∈ _ from hkc)
    exact ⟨kc.1, h1, kc.2, h2⟩
  · rintro ⟨k, hk, c, hc⟩
    have key : ∀ (j m : Nat) (c : List Nat), It l t k j i m → c ∈ cuts l t ((syms l k).drop j) m e → It l t k (syms l k).length i e := by
      intro j
      induction hd : (syms l k).length - j generalizing j with
      | zero =>
        intro m c h hc
        have b := h.bd
        have : j = (syms l k).length := by omega
        subst this
        rw [List.drop_length] at hc
        obtain ⟨e1, _⟩ := mem_cuts_nil.mp hc
        subst e1; exact h
      | succ d ih =>
        intro m c h hc
        have hj : j < (syms l k).length := by omega
        rw [List.drop_eq_getElem_cons hj] at hc
        obtain ⟨m', c', h1, h2, h3, _⟩ := mem_cuts_cons.mp hc
        exact ih (j + 1) (by omega) m' c' (h.step (List.getElem?_eq_getElem hj) h1) h3
    exact mem_En_nt.mpr ⟨k, (byN_left hk).1, key 0 i c (hp k hk) hc⟩
theorem cuts1 {y s e c} : c ∈ cuts l t [y] s e ↔ e ∈ En l t y s ∧ c = [s, e] := by
  rw [mem_cuts_cons]
  constructor
  · rintro ⟨m, c', h1, h2, h3, h4⟩
    obtain ⟨e1, e2⟩ := mem_cuts_nil.mp h3
    subst e1 e2; exact ⟨h1, h4⟩
  · rintro ⟨h1, h2⟩
    exact ⟨e, [e], h1, Nat.le_refl _, mem_cuts_nil.mpr ⟨rfl, rfl⟩, h2⟩
theorem En_lit {c i e} : e ∈ En l t (.lit c) i ↔ t[i]? = some c ∧ e = i + 1 := by
  show e ∈ tE t (.lit c) i ↔ _
  simp only [tE]
  split <;> simp_all
theorem En_run {b i e} : e ∈ En l t (.run b) i ↔ i < runE b t i ∧ e = runE b t i := by
  show e ∈ tE t (.run b) i ↔ _
  simp only [tE]
  split
  · simp; omega
  · simp; omega
theorem cuts_lit_nt {a x s e c} : c ∈ cuts l t [.lit a, .nt x] s e ↔ t[s]? = some a ∧ e ∈ En l t (.nt x) (s + 1) ∧ c = [s, s + 1, e] := by
  rw [mem_cuts_cons]
  constructor
  · rintro ⟨m, c', h1, h2, h3, h4⟩
    obtain ⟨q1, rfl⟩ := En_lit.mp h1
    obtain ⟨q2, rfl⟩ := cuts1.mp h3
    exact ⟨q1, q2, h4⟩
  · rintro ⟨h1, h2, h3⟩
    have := En_ge h2
    exact ⟨s + 1, [s + 1, e], En_lit.mpr ⟨h1, rfl⟩, by omega, cuts1.mpr ⟨h2, rfl⟩, h3⟩
theorem cuts_nt_lit_nt {y a x s e c} : c ∈ cuts l t [.nt y, .lit a, .nt x] s e ↔ ∃ m, m ∈ En l t (.nt y) s ∧ t[m]? = some a ∧ e ∈ En l t (.nt x) (m + 1) ∧ c = [s, m, m + 1, e] := by
  rw [mem_cuts_cons]
  constructor
  · rintro ⟨m, c', h1, h2, h3, h4⟩
    obtain ⟨q1, q2, rfl⟩ := cuts_lit_nt.mp h3
    exact ⟨m, h1, q1, q2, h4⟩
  · rintro ⟨m, h1, h2, h3, h4⟩
    have := En_ge h3
    exact ⟨m, _, h1, by omega, cuts_lit_nt.mpr ⟨h2, h3, rfl⟩, h4⟩
theorem cuts_nt_lit {x a s e c} : c ∈ cuts l t [.nt x, .lit a] s e ↔ ∃ m, m ∈ En l t (.nt x) s ∧ t[m]? = some a ∧ e = m + 1 ∧ c = [s, m, m + 1] := by
  rw [mem_cuts_cons]
  constructor
  · rintro ⟨m, c', h1, h2, h3, h4⟩
    obtain ⟨q1, rfl⟩ := cuts1.mp h3
    obtain ⟨q2, rfl⟩ := En_lit.mp q1
    exact ⟨m, h1, q2, rfl, h4⟩
  · rintro ⟨m, h1, h2, rfl, h4⟩
    exact ⟨m, _, h1, by omega, cuts1.mpr ⟨En_lit.mpr ⟨h2, rfl⟩, rfl⟩, h4⟩
theorem cuts_par {x s e c} : c ∈ cuts l t [.lit 40, .nt x, .lit 41] s e ↔ t[s]? = some 40 ∧ ∃ m, m ∈ En l t (.nt x) (s + 1) ∧ t[m]? = some 41 ∧ e = m + 1 ∧ c = [s, s + 1, m, m + 1] := by
  rw [mem_cuts_cons]
  constructor
  · rintro ⟨m, c', h1, h2, h3, h4⟩
    obtain ⟨q1, rfl⟩ := En_lit.mp h1
    obtain ⟨m, q2, q3, rfl, rfl⟩ := cuts_nt_lit.mp h3
    exact ⟨q1, m, q2, q3, rfl, h4⟩
  · rintro ⟨h1, m, h2, h3, rfl, h4⟩
    have := En_ge h2
    exact ⟨s + 1, _, En_lit.mpr ⟨h1, rfl⟩, by omega, cuts_nt_lit.mpr ⟨m, h2, h3, rfl, rfl⟩, h4⟩
theorem cuts_line {s e c} : c ∈ cuts l t (syms l 2) s e ↔ ∃ m m2, m ∈ En l t (.nt .word) s ∧ t[m]? = some 61 ∧ m2 ∈ En l t (.nt .list) (m + 1) ∧ t[m2]? = some 59 ∧ e = m2 + 1 ∧ c = [s, m, m + 1, m2, m2 + 1] := by
  show c ∈ cuts l t [.nt .word, .lit 61, .nt .list, .lit 59] s e ↔ _
  rw [mem_cuts_cons]
  constructor
  · rintro ⟨m, c', h1, h2, h3, h4⟩
    obtain ⟨m', c'', q1, q2, q3, rfl⟩ := mem_cuts_cons.mp h3
    obtain ⟨q4, rfl⟩ := En_lit.mp q1
    obtain ⟨m2, q5, q6, rfl, rfl⟩ := cuts_nt_lit.mp q3
    exact ⟨m, m2, h1, q4, q5, q6, rfl, h4⟩
  · rintro ⟨m, m2, h1, h2, h3, h4, rfl, h5⟩
    have := En_ge h3
    exact ⟨m, _, h1, by omega, mem_cuts_cons.mpr ⟨m + 1, _, En_lit.mpr ⟨h2, rfl⟩, by omega, cuts_nt_lit.mpr ⟨m2, h3, h4, rfl, rfl⟩, rfl⟩, h5⟩
theorem cuts_p0 {s e c} : c ∈ cuts l t (syms l 0) s e ↔ ∃ m, m ∈ En l t (.nt .line) s ∧ e ∈ En l t (.nt .p) m ∧ c = [s, m, e] := by
  show c ∈ cuts l t [.nt .line, .nt .p] s e ↔ _
  rw [mem_cuts_cons]
  constructor
  · rintro ⟨m, c', h1, h2, h3, h4⟩
    obtain ⟨q1, rfl⟩ := cuts1.mp h3
    exact ⟨m, h1, q1, h4⟩
  · rintro ⟨m, h1, h2, h4⟩
    have := En_ge h2
    exact ⟨m, _, h1, by omega, cuts1.mpr ⟨h2, rfl⟩, h4⟩
/-- the ends, name by name -/
theorem En_word {i e} (hp : Pr l t .word i) : e ∈ En l t (.nt .word) i ↔ i < runE true t i ∧ e = runE true t i := by
  rw [En_iff hp]
  constructor
  · rintro ⟨k, hk, c, hc⟩
    have : k = 8 := by simpa [byN] using hk
    subst this
    exact En_run.mp (cuts1.mp hc).1
  · intro h
    exact ⟨8, by simp [byN], _, cuts1.mpr ⟨En_run.mpr h, rfl⟩⟩
theorem pr_word {i} (hp : Pr l t .item i) : Pr l t .word i := Pr.of (hp 5 (by simp [byN])) rfl
theorem pr_word' {i} (hp : Pr l t .line i) : Pr l t .word i := Pr.of (hp 2 (by simp [byN])) rfl
theorem pr_par {i} (hp : Pr l t .item i) (h : t[i]? = some 40) : Pr l t .list (i + 1) := Pr.of ((hp 7 (by simp [byN])).step (y := .lit 40) rfl (En_lit.mpr ⟨h, rfl⟩)) rfl
theorem pr_item {i} (hp : Pr l t .list i) : Pr l t .item i := Pr.of (hp 4 (by simp [byN])) rfl
theorem pr_next {i m} (hp : Pr l t .list i) (hm : m ∈ En l t (.nt (if l then .list else .item)) i) (h : t[m]? = some 44) : Pr l t .list (m + 1) :=
  Pr.of (((hp 3 (by simp [byN])).step (y := .nt (if l then .list else .item)) rfl hm).step (y := .lit 44) rfl (En_lit.mpr ⟨h, rfl⟩)) rfl
theorem pr_line {i} (hp : Pr l t .p i) : Pr l t .line i := Pr.of (hp 0 (by simp [byN])) rfl
theorem pr_p {i m} (hp : Pr l t .p i) (hm : m ∈ En l t (.nt .line) i) : Pr l t .p m := Pr.of ((hp 0 (by simp [byN])).step (y := .nt .line) rfl hm) rfl
theorem pr_eq {i m} (hp : Pr l t .line i) (hm : m ∈ En l t (.nt .word) i) (h : t[m]? = some 61) : Pr l t .list (m + 1) :=
  Pr.of (((hp 2 (by simp [byN])).step (y := .nt .word) rfl hm).step (y := .lit 61) rfl (En_lit.mpr ⟨h, rfl⟩)) rfl
theorem En_item {i e} (hp : Pr l t .item i) : e ∈ En l t (.nt .item) i ↔ (i < runE true t i ∧ e = runE true t i) ∨ (i < runE false t i ∧ e = runE false t i) ∨ (t[i]? = some 40 ∧ ∃ m, m ∈ En l t (.nt .list) (i + 1) ∧ t[m]? = some 41 ∧ e = m + 1) := by
  rw [En_iff hp]
  constructor
  · rintro ⟨k, hk, c, hc⟩
    have : k = 5 ∨ k = 6 ∨ k = 7 := by simpa [byN] using hk
    rcases this with rfl | rfl | rfl
    · exact .inl ((En_word (pr_word hp)).mp (cuts1.mp hc).1)
    · exact .inr (.inl (En_run.mp (cuts1.mp hc).1))
    · obtain ⟨h1, m, h2, h3, h4, _⟩ := cuts_par.mp hc
      exact .inr (.inr ⟨h1, m, h2, h3, h4⟩)
  · rintro (h | h | ⟨h1, m, h2, h3, h4⟩)
    · exact ⟨5, by simp [byN], _, cuts1.mpr ⟨(En_word (pr_word hp)).mpr h, rfl⟩⟩
    · exact ⟨6, by simp [byN], _, cuts1.mpr ⟨En_run.mpr h, rfl⟩⟩
    · exact ⟨7, by simp [byN], _, cuts_par.mpr ⟨h1, m, h2, h3, h4, rfl⟩⟩
theorem En_list {i e} (hp : Pr l t .list i) : e ∈ En l t (.nt .list) i ↔ (∃ m, m ∈ En l t (.nt (if l then .list else .item)) i ∧ t[m]? = some 44 ∧ e ∈ En l t (.nt .list) (m + 1)) ∨ e ∈ En l t (.nt .item) i := by
  rw [En_iff hp]
  constructor
  · rintro ⟨k, hk, c, hc⟩
    have : k = 3 ∨ k = 4 := by simpa [byN] using hk
    rcases this with rfl | rfl
    · obtain ⟨m, h1, h2, h3, _⟩ := cuts_nt_lit_nt.mp hc
      exact .inl ⟨m, h1, h2, h3⟩
    · exact .inr (cuts1.mp hc).1
  · rintro (⟨m, h1, h2, h3⟩ | h)
    · exact ⟨3, by simp [byN], _, cuts_nt_lit_nt.mpr ⟨m, h1, h2, h3, rfl⟩⟩
    · exact ⟨4, by simp [byN], _, cuts1.mpr ⟨h, rfl⟩⟩
theorem En_line {i e} (hp : Pr l t .line i) : e ∈ En l t (.nt .line) i ↔ ∃ m m2, m ∈ En l t (.nt .word) i ∧ t[m]? = some 61 ∧ m2 ∈ En l t (.nt .list) (m + 1) ∧ t[m2]? = some 59 ∧ e = m2 + 1 := by
  rw [En_iff hp]
  constructor
  · rintro ⟨k, hk, c, hc⟩
    have : k = 2 := by simpa [byN] using hk
    subst this
    obtain ⟨m, m2, h1, h2, h3, h4, h5, _⟩ := cuts_line.mp hc
    exact ⟨m, m2, h1, h2, h3, h4, h5⟩
  · rintro ⟨m, m2, h1, h2, h3, h4, h5⟩
    exact ⟨2, by simp [byN], _, cuts_line.mpr ⟨m, m2, h1, h2, h3, h4, h5, rfl⟩⟩
theorem En_p {i e} (hp : Pr l t .p i) : e ∈ En l t (.nt .p) i ↔ (∃ m, m ∈ En l t (.nt .line) i ∧ e ∈ En l t (.nt .p) m) ∨ i = e := by
  rw [En_iff hp]
  constructor
  · rintro ⟨k, hk, c, hc⟩
    have : k = 0 ∨ k = 1 := by simpa [byN] using hk
    rcases this with rfl | rfl
    · obtain ⟨m, h1, h2, _⟩ := cuts_p0.mp hc
      exact .inl ⟨m, h1, h2⟩
    · exact .inr (mem_cuts_nil.mp hc).1
  · rintro (⟨m, h1, h2⟩ | h)
    · exact ⟨0, by simp [byN], _, cuts_p0.mpr ⟨m, h1, h2, rfl⟩⟩
    · exact ⟨1, by simp [byN], _, mem_cuts_nil.mpr ⟨h, rfl⟩⟩
end
end K38
/-! Plain mathematics, part 10: what the law reads from left to right. -/
namespace K38
/-- an item, a list at i: tree and end; by fuel -/
def lRd (t : Tx) : Nat → Bool → Nat → Option (T × Nat)
  | 0, _, _ => none
  | f + 1, true, i =>
    if i < runE true t i then some (.node 5 [.node 8 [.leaf (sl t i (runE true t i))]], runE true t i)
    else if i < runE false t i then some (.node 6 [.leaf (sl t i (runE false t i))], runE false t i)
    else if t[i]? = some 40 then
      match lRd t f false (i + 1) with
      | none => none
      | some (k, e) => if t[e]? = some 41 then some (.node 7 [.leaf [40], k, .leaf [41]], e + 1) else none
    else none
  | f + 1, false, i =>
    match lRd t f true i with
    | none => none
    | some (k, e) => if t[e]? = some 44 then
        match lRd t f false (e + 1) with
        | none => none
        | some (r, e') => some (.node 3 [k, .leaf [44], r], e')
      else some (.node 4 [k], e)
/-- the fuel wanted -/
def nd (t : Tx) (b : Bool) (i : Nat) : Nat := 2 * (t.length - i) + if b then 1 else 2
theorem runE_gt {b : Bool} {t : Tx} {i : Nat} (h : i < runE b t i) : i < t.length := by
  by_cases hi : i < t.length
  · exact hi
  · unfold runE at h
    rw [List.drop_eq_nil_of_le (by omega)] at h
    simp at h
theorem lRd_bd (t : Tx) : ∀ (f : Nat) (b : Bool) (i : Nat) (k : T) (e : Nat), lRd t f b i = some (k, e) → i < e ∧ e ≤ t.length
  | 0, _, _, _, _, h => by simp [lRd] at h
  | f + 1, true, i, k, e, h => by
    unfold lRd at h
    split at h
    · rename_i c
      simp only [Option.some.injEq, Prod.mk.injEq] at h
      obtain ⟨_, rfl⟩ := h
      exact ⟨c, runE_le (Nat.le_of_lt (runE_gt c))⟩
    · split at h
      · rename_i c
        simp only [Option.some.injEq, Prod.mk.injEq] at h
        obtain ⟨_, rfl⟩ := h
        exact ⟨c, runE_le (Nat.le_of_lt (runE_gt c))⟩
      · split at h
        · rename_i c
          split at h
          · simp at h
          · rename_i k' e' q
            split at h
            · rename_i c2
              simp only [Option.some.injEq, Prod.mk.injEq] at h
              obtain ⟨_, rfl⟩ := h
              have := lRd_bd t f false (i + 1) k' e' q
              have := (List.getElem?_eq_some_iff.mp c2).1
              omega
            · simp at h
        · simp at h
  | f + 1, false, i, k, e, h => by
    unfold lRd at h
    split at h
    · simp at h
    · rename_i k' e' q
      have := lRd_bd t f true i k' e' q
      split at h
      · split at h
        · simp at h
        · rename_i r e2 q2
          simp only [Option.some.injEq, Prod.mk.injEq] at h
          obtain ⟨_, rfl⟩ := h
          have := lRd_bd t f false (e' + 1) r e2 q2
          omega
      · simp only [Option.some.injEq, Prod.mk.injEq] at h
        obtain ⟨_, rfl⟩ := h
        omega
theorem lRd_fuel (t : Tx) : ∀ (f g : Nat) (b : Bool) (i : Nat), nd t b i ≤ f → nd t b i ≤ g → lRd t f b i = lRd t g b i
  | 0, _, b, i, h, _ => by exfalso; unfold nd at h; cases b <;> simp at h
  | _ + 1, 0, b, i, _, h => by exfalso; unfold nd at h; cases b <;> simp at h
  | f + 1, g + 1, true, i, hf, hg => by
    unfold lRd
    unfold nd at hf hg
    simp only [if_true] at hf hg
    by_cases c : t[i]? = some 40
    · have hi := (List.getElem?_eq_some_iff.mp c).1
      rw [lRd_fuel t f g false (i + 1) (by unfold nd; simp; omega) (by unfold nd; simp; omega)]
    · simp only [if_neg c]
  | f + 1, g + 1, false, i, hf, hg => by
    unfold lRd
    unfold nd at hf hg
    simp only [Bool.false_eq_true, if_false] at hf hg
    have e1 := lRd_fuel t f g true i (by unfold nd; simp; omega) (by unfold nd; simp; omega)
    rw [e1]
    cases q : lRd t g true i with
    | none => rfl
    | some ke =>
      obtain ⟨k, e⟩ := ke
      simp only
      have b := lRd_bd t g true i k e q
      rw [lRd_fuel t f g false (e + 1) (by unfold nd; simp; omega) (by unfold nd; simp; omega)]
def rdT (t : Tx) (b : Bool) (i : Nat) : Option (T × Nat) := lRd t (nd t b i) b i
theorem rdT_item (t : Tx) (i : Nat) : rdT t true i =
    if i < runE true t i then some (.node 5 [.node 8 [.leaf (sl t i (runE true t i))]], runE true t i)
    else if i < runE false t i then some (.node 6 [.leaf (sl t i (runE false t i))], runE false t i)
    else if t[i]? = some 40 then
      match rdT t false (i + 1) with
      | none => none
      | some (k, e) => if t[e]? = some 41 then some (.node 7 [.leaf [40], k, .leaf [41]], e + 1) else none
    else none := by
  conv => lhs; unfold rdT nd
  simp only [if_true]
  conv => lhs; unfold lRd
  by_cases c : t[i]? = some 40
  · have hi := (List.getElem?_eq_some_iff.mp c).1
    rw [show lRd t (2 * (t.length - i)) false (i + 1) = rdT t false (i + 1) from lRd_fuel t _ _ false (i + 1) (by unfold nd; simp; omega) (Nat.le_refl _)]
  · simp only [if_neg c]
theorem rdT_list (t : Tx) (i : Nat) : rdT t false i =
    match rdT t true i with
    | none => none
    | some (k, e) => if t[e]? = some 44 then
        match rdT t false (e + 1) with
        | none => none
        | some (r, e') => some (.node 3 [k, .leaf [44], r], e')
      else some (.node 4 [k], e) := by
  conv => lhs; unfold rdT nd
  simp only [Bool.false_eq_true, if_false]
  conv => lhs; unfold lRd
  have e1 : lRd t (2 * (t.length - i) + 1) true i = rdT t true i := lRd_fuel t _ _ true i (by unfold nd; simp) (Nat.le_refl _)
  rw [e1]
  cases q : rdT t true i with
  | none => rfl
  | some ke =>
    obtain ⟨k, e⟩ := ke
    simp only
    have b := lRd_bd t _ true i k e q
    rw [show lRd t (2 * (t.length - i) + 1) false (e + 1) = rdT t false (e + 1) from lRd_fuel t _ _ false (e + 1) (by unfold nd; simp; omega) (Nat.le_refl _)]
theorem rdT_bd {t : Tx} {b : Bool} {i : Nat} {k : T} {e : Nat} (h : rdT t b i = some (k, e)) : i < e ∧ e ≤ t.length := lRd_bd t _ b i k e h
/-- a chain of items with commas between: their trees and ends -/
inductive Ch (t : Tx) : Nat → Nat → List (T × Nat) → Prop
  | one {i k e} : rdT t true i = some (k, e) → Ch t i e [(k, e)]
  | more {i k m e xs} : rdT t true i = some (k, m) → t[m]? = some 44 → Ch t (m + 1) e xs → Ch t i e ((k, m) :: xs)
def lsT : List (T × Nat) → T
  | [] => .node 4 []
  | [(k, _)] => .node 4 [k]
  | (k, _) :: x :: xs => .node 3 [k, .leaf [44], lsT (x :: xs)]
theorem Ch.ne {t i e xs} (h : Ch t i e xs) : xs ≠ [] := by cases h <;> simp
theorem Ch.bd {t i e xs} (h : Ch t i e xs) : i < e ∧ e ≤ t.length := by
  induction h with
  | one h => exact rdT_bd h
  | more h1 h2 h3 ih => have := rdT_bd h1; omega
theorem lsT_cons {k m} {xs : List (T × Nat)} (h : xs ≠ []) : lsT ((k, m) :: xs) = .node 3 [k, .leaf [44], lsT xs] := by
  cases xs with
  | nil => exact absurd rfl h
  | cons x xs => rfl
/-- the greedy list is the chain that no comma follows -/
theorem rdT_chain {t : Tx} {i e : Nat} {xs : List (T × Nat)} (h : Ch t i e xs) (he : t[e]? ≠ some 44) : rdT t false i = some (lsT xs, e) := by
  induction h with
  | one h =>
    rw [rdT_list, h]
    simp only [if_neg he]
    rfl
  | more h1 h2 h3 ih =>
    rw [rdT_list, h1]
    simp only [if_pos h2, ih he]
    rw [lsT_cons h3.ne]
theorem chain_rdT {t : Tx} : ∀ (d i : Nat) (k : T) (e : Nat), t.length - i ≤ d → rdT t false i = some (k, e) → t[e]? ≠ some 44 ∧ ∃ xs, Ch t i e xs ∧ k = lsT xs
  | d, i, k, e, hd, h => by
    rw [rdT_list] at h
    split at h
    · simp at h
    · rename_i k1 e1 q
      have b := rdT_bd q
      split at h
      · rename_i c
        split at h
        · simp at h
        · rename_i r e2 q2
          simp only [Option.some.injEq, Prod.mk.injEq] at h
          obtain ⟨rfl, rfl⟩ := h
          obtain ⟨n1, xs, h1, h2⟩ := chain_rdT (d - 1) (e1 + 1) r e2 (by omega) q2
          exact ⟨n1, (k1, e1) :: xs, .more q c h1, by rw [lsT_cons h1.ne, h2]⟩
      · rename_i c
        simp only [Option.some.injEq, Prod.mk.injEq] at h
        obtain ⟨rfl, rfl⟩ := h
        exact ⟨c, [(k1, e1)], .one q, rfl⟩
  termination_by d i => t.length - i
  decreasing_by omega
theorem Ch.app {t i m e xs ys} (h : Ch t i m xs) (c : t[m]? = some 44) (h' : Ch t (m + 1) e ys) : Ch t i e (xs ++ ys) := by
  induction h with
  | one q => exact .more q c h'
  | more q1 q2 q3 ih => exact .more q1 q2 (ih c h')
/-- a chain is told by its ends -/
theorem Ch.uniq {t i e xs ys} (h : Ch t i e xs) (h' : Ch t i e ys) : xs = ys := by
  induction h generalizing ys with
  | one q =>
    cases h' with
    | one q' => rw [q] at q'; cases q'; rfl
    | more q1 q2 q3 =>
      rw [q] at q1; cases q1
      have := q3.bd; omega
  | more q1 q2 q3 ih =>
    cases h' with
    | one q' =>
      rw [q1] at q'; cases q'
      have := q3.bd; omega
    | more p1 p2 p3 =>
      rw [q1] at p1; cases p1
      rw [ih p3]
end K38
/-! Plain mathematics, part 11: the ends are those of the law's reading; few ways. -/
namespace K38
section
variable {l : Bool} {t : Tx}
theorem runE_pos {b : Bool} {t : Tx} {i : Nat} : i < runE b t i ↔ ∃ c, t[i]? = some c ∧ isC b c = true := by
  unfold runE
  cases h : t.drop i with
  | nil =>
    have h : t.length ≤ i := List.drop_eq_nil_iff.mp h
    simp only [List.takeWhile_nil, List.length_nil, Nat.add_zero, Nat.lt_irrefl, false_iff]
    rintro ⟨c, h1, _⟩
    have := (List.getElem?_eq_some_iff.mp h1).1
    omega
  | cons c r =>
    have hi : t[i]? = some c := by
      have := List.getElem?_drop (xs := t) (i := i) (j := 0)
      rw [h] at this
      simpa using this.symm
    rw [hi]
    cases hc : isC b c with
    | true =>
      rw [List.takeWhile_cons, if_pos hc, List.length_cons]
      exact ⟨fun _ => ⟨c, rfl, hc⟩, fun _ => by omega⟩
    | false =>
      rw [List.takeWhile_cons, if_neg (by rw [hc]; simp)]
      constructor
      · intro h; simp at h
      · rintro ⟨c', h1, h2⟩
        cases h1; rw [hc] at h2; cases h2
theorem isC_excl {c : Nat} (h1 : isC true c = true) (h2 : isC false c = true) : False := by
  simp [isC] at h1 h2
  omega
theorem run_excl {i : Nat} (h1 : i < runE true t i) (h2 : i < runE false t i) : False := by
  obtain ⟨c, a1, a2⟩ := runE_pos.mp h1
  obtain ⟨c', b1, b2⟩ := runE_pos.mp h2
  rw [a1] at b1; cases b1
  exact isC_excl a2 b2
theorem run_par {b : Bool} {i : Nat} (h1 : i < runE b t i) (h2 : t[i]? = some 40) : False := by
  obtain ⟨c, a1, a2⟩ := runE_pos.mp h1
  rw [h2] at a1; cases a1
  cases b <;> simp [isC] at a2
def IC (l : Bool) (t : Tx) (i : Nat) : Prop := Pr l t .item i → ∀ e, e ∈ En l t (.nt .item) i ↔ ∃ k, rdT t true i = some (k, e)
theorem list_En (i : Nat) (hI : ∀ i', i ≤ i' → IC l t i') : ∀ (d i0 e : Nat), i ≤ i0 → e - i0 ≤ d → Pr l t .list i0 → (e ∈ En l t (.nt .list) i0 ↔ ∃ xs, Ch t i0 e xs) := by
  intro d
  induction d with
  | zero =>
    intro i0 e _ hd _
    constructor
    · intro h
      have := En_gt h (by simp)
      omega
    · rintro ⟨xs, h⟩
      have := h.bd; omega
  | succ d ih =>
    intro i0 e hi hd hp
    rw [En_list hp]
    constructor
    · rintro (⟨m, h1, h2, h3⟩ | h)
      · have pn := pr_next hp h1 h2
        have g1 := En_gt h1 (by cases l <;> simp)
        have g2 := En_gt h3 (by simp)
        obtain ⟨ys, hy⟩ := (ih (m + 1) e (by omega) (by omega) pn).mp h3
        cases l with
        | true =>
          obtain ⟨xs, hx⟩ := (ih i0 m hi (by omega) hp).mp h1
          exact ⟨_, hx.app h2 hy⟩
        | false =>
          obtain ⟨k, hk⟩ := (hI i0 hi (pr_item hp) m).mp h1
          exact ⟨_, .more hk h2 hy⟩
      · obtain ⟨k, hk⟩ := (hI i0 hi (pr_item hp) e).mp h
        exact ⟨_, .one hk⟩
    · rintro ⟨xs, h⟩
      cases h with
      | one h => exact .inr ((hI i0 hi (pr_item hp) e).mpr ⟨_, h⟩)
      | more h1 h2 h3 =>
        rename_i m xs
        have hm := (hI i0 hi (pr_item hp) _).mpr ⟨_, h1⟩
        have hm' : m ∈ En l t (.nt (if l then .list else .item)) i0 := by
          cases l with
          | true => exact (En_list hp).mpr (.inr hm)
          | false => exact hm
        have b1 := rdT_bd h1
        have b2 := h3.bd
        exact .inl ⟨m, hm', h2, (ih (m + 1) e (by omega) (by omega) (pr_next hp hm' h2)).mpr ⟨_, h3⟩⟩
theorem item_En : ∀ (d i : Nat), t.length - i ≤ d → IC l t i := by
  intro d
  induction d with
  | zero =>
    intro i hi hp e
    constructor
    · intro h
      have := En_gt h (by simp)
      have := En_ge h
      omega
    · rintro ⟨k, h⟩
      have := rdT_bd h
      omega
  | succ d ih =>
    intro i hi hp e
    rw [En_item hp, rdT_item]
    by_cases c1 : i < runE true t i
    · rw [if_pos c1]
      constructor
      · rintro (⟨_, rfl⟩ | ⟨h, _⟩ | ⟨h, _⟩)
        · exact ⟨_, rfl⟩
        · exact (run_excl c1 h).elim
        · exact (run_par c1 h).elim
      · rintro ⟨k, h⟩
        cases h
        exact .inl ⟨c1, rfl⟩
    · rw [if_neg c1]
      by_cases c2 : i < runE false t i
      · rw [if_pos c2]
        constructor
        · rintro (⟨h, _⟩ | ⟨_, rfl⟩ | ⟨h, _⟩)
          · exact (c1 h).elim
          · exact ⟨_, rfl⟩
          · exact (run_par c2 h).elim
        · rintro ⟨k, h⟩
          cases h
          exact .inr (.inl ⟨c2, rfl⟩)
      · rw [if_neg c2]
        by_cases c3 : t[i]? = some 40
        · rw [if_pos c3]
          have pl := pr_par hp c3
          have hil := (List.getElem?_eq_some_iff.mp c3).1
          have L := fun e => list_En (l := l) (t := t) (i + 1) (fun i' hi' => ih i' (by omega)) (e - (i + 1)) (i + 1) e (Nat.le_refl _) (Nat.le_refl _) pl
          constructor
          · rintro (⟨h, _⟩ | ⟨h, _⟩ | ⟨_, m, h2, h3, rfl⟩)
            · exact (c1 h).elim
            · exact (c2 h).elim
            · obtain ⟨xs, hx⟩ := (L m).mp h2
              rw [rdT_chain hx (by rw [h3]; simp)]
              simp only [if_pos h3]
              exact ⟨_, rfl⟩
          · rintro ⟨k, h⟩
            split at h
            · simp at h
            · rename_i k' m q
              split at h
              · rename_i c4
                cases h
                obtain ⟨_, xs, hx, _⟩ := chain_rdT _ (i + 1) k' m (Nat.le_refl _) q
                exact .inr (.inr ⟨c3, m, (L m).mpr ⟨xs, hx⟩, c4, rfl⟩)
              · simp at h
        · rw [if_neg c3]
          constructor
          · rintro (⟨h, _⟩ | ⟨h, _⟩ | ⟨h, _⟩)
            · exact (c1 h).elim
            · exact (c2 h).elim
            · exact (c3 h).elim
          · rintro ⟨k, h⟩
            simp at h
theorem iEn {i e} (hp : Pr l t .item i) : e ∈ En l t (.nt .item) i ↔ ∃ k, rdT t true i = some (k, e) := item_En _ i (Nat.le_refl _) hp e
theorem lEn {i e} (hp : Pr l t .list i) : e ∈ En l t (.nt .list) i ↔ ∃ xs, Ch t i e xs := list_En i (fun i' _ => item_En _ i' (Nat.le_refl _)) (e - i) i e (Nat.le_refl _) (Nat.le_refl _) hp
/-- a line -/
def lnT (t : Tx) (i : Nat) : Option (T × Nat) :=
  if i < runE true t i ∧ t[runE true t i]? = some 61 then
    match rdT t false (runE true t i + 1) with
    | none => none
    | some (k, e) => if t[e]? = some 59 then some (.node 2 [.node 8 [.leaf (sl t i (runE true t i))], .leaf [61], k, .leaf [59]], e + 1) else none
  else none
theorem lnT_bd {i : Nat} {k : T} {e : Nat} (h : lnT t i = some (k, e)) : i + 1 < e ∧ e ≤ t.length := by
  unfold lnT at h
  split at h
  · rename_i c
    split at h
    · simp at h
    · rename_i k' m q
      split at h
      · rename_i c2
        cases h
        have := rdT_bd q
        have := (List.getElem?_eq_some_iff.mp c2).1
        omega
      · simp at h
  · simp at h
theorem nEn {i e} (hp : Pr l t .line i) : e ∈ En l t (.nt .line) i ↔ ∃ k, lnT t i = some (k, e) := by
  rw [En_line hp]
  constructor
  · rintro ⟨m, m2, h1, h2, h3, h4, rfl⟩
    have pl := pr_eq hp h1 h2
    obtain ⟨c, rfl⟩ := (En_word (pr_word' hp)).mp h1
    obtain ⟨xs, hx⟩ := (lEn pl).mp h3
    have q := rdT_chain hx (by rw [h4]; simp)
    unfold lnT
    rw [if_pos ⟨c, h2⟩, q]
    simp only [if_pos h4]
    exact ⟨_, rfl⟩
  · rintro ⟨k, h⟩
    unfold lnT at h
    split at h
    · rename_i c
      have hw := (En_word (l := l) (pr_word' hp)).mpr ⟨c.1, rfl⟩
      split at h
      · simp at h
      · rename_i k' m q
        split at h
        · rename_i c2
          cases h
          obtain ⟨_, xs, hx, _⟩ := chain_rdT _ _ k' m (Nat.le_refl _) q
          exact ⟨_, m, hw, c.2, (lEn (pr_eq hp hw c.2)).mpr ⟨xs, hx⟩, c2, rfl⟩
        · simp at h
    · simp at h
/-- the whole, from i on -/
def pRd (t : Tx) : Nat → Nat → Option T
  | 0, _ => none
  | f + 1, i => if t.length ≤ i then some (.node 1 []) else match lnT t i with
    | none => none
    | some (k, m) => (pRd t f m).map fun p => .node 0 [k, p]
theorem pRd_fuel : ∀ (f g i : Nat), t.length - i < f → t.length - i < g → pRd t f i = pRd t g i
  | 0, _, _, h, _ => by omega
  | _ + 1, 0, _, _, h => by omega
  | f + 1, g + 1, i, hf, hg => by
    unfold pRd
    by_cases c : t.length ≤ i
    · simp only [if_pos c]
    · simp only [if_neg c]
      cases q : lnT t i with
      | none => rfl
      | some km =>
        obtain ⟨k, m⟩ := km
        have := lnT_bd q
        simp only
        rw [pRd_fuel f g m (by omega) (by omega)]
def pT (t : Tx) (i : Nat) : Option T := pRd t (t.length - i + 1) i
theorem pT_eq (t : Tx) (i : Nat) : pT t i = if t.length ≤ i then some (.node 1 []) else match lnT t i with
    | none => none
    | some (k, m) => (pT t m).map fun p => .node 0 [k, p] := by
  conv => lhs; unfold pT pRd
  by_cases c : t.length ≤ i
  · simp only [if_pos c]
  · simp only [if_neg c]
    cases q : lnT t i with
    | none => rfl
    | some km =>
      obtain ⟨k, m⟩ := km
      have := lnT_bd q
      simp only
      rw [show pRd t (t.length - i) m = pT t m from pRd_fuel _ _ m (by omega) (by omega)]
theorem pEn : ∀ (d i : Nat), t.length - i ≤ d → i ≤ t.length → Pr l t .p i → (t.length ∈ En l t (.nt .p) i ↔ ∃ k, pT t i = some k) := by
  intro d
  induction d with
  | zero =>
    intro i hd hi hp
    have : i = t.length := by omega
    rw [En_p hp, pT_eq, if_pos (by omega)]
    exact ⟨fun _ => ⟨_, rfl⟩, fun _ => .inr this⟩
  | succ d ih =>
    intro i hd hi hp
    rw [En_p hp, pT_eq]
    by_cases c : t.length ≤ i
    · rw [if_pos c]
      exact ⟨fun _ => ⟨_, rfl⟩, fun _ => .inr (by omega)⟩
    · rw [if_neg c]
      constructor
      · rintro (⟨m, h1, h2⟩ | h)
        · obtain ⟨k, hk⟩ := (nEn (pr_line hp)).mp h1
          have b := lnT_bd hk
          obtain ⟨p, hpp⟩ := (ih m (by omega) b.2 (pr_p hp h1)).mp h2
          rw [hk]
          simp only [hpp]
          exact ⟨_, rfl⟩
        · omega
      · rintro ⟨k, h⟩
        split at h
        · simp at h
        · rename_i k' m q
          have b := lnT_bd q
          obtain ⟨p, hpp, _⟩ := Option.map_eq_some_iff.mp h
          have hm := (nEn (l := l) (pr_line hp)).mpr ⟨_, q⟩
          exact .inl ⟨m, hm, (ih m (by omega) b.2 (pr_p hp hm)).mpr ⟨p, hpp⟩⟩
/-- the law's reading of the whole -/
def due (t : Tx) : Option T := pT t 0
theorem due_none : due t = none ↔ alts l t .p 0 t.length = [] := by
  have P := pEn (l := l) (t := t) _ 0 (Nat.le_refl _) (Nat.zero_le _) pr_top
  constructor
  · intro h
    refine Classical.byContradiction fun q => ?_
    obtain ⟨kc, hkc⟩ := List.exists_mem_of_ne_nil _ q
    obtain ⟨h1, h2⟩ := mem_alts.mp (show (kc.1, kc.2) ∈ _ from hkc)
    obtain ⟨k, hk⟩ := P.mp ((En_iff pr_top).mpr ⟨kc.1, h1, kc.2, h2⟩)
    unfold due at h
    rw [h] at hk; cases hk
  · intro h
    cases q : due t with
    | none => rfl
    | some k => exact absurd h (alts_ne (P.mpr ⟨k, q⟩))
end
end K38
/-! Plain mathematics, part 12: how many trees, and the first one. -/
namespace K38
def catL : Nat → List Nat
  | 0 => [1]
  | k + 1 => catL k ++ [((List.range (k + 1)).map fun j => (catL k).getD j 0 * (catL k).getD (k - j) 0).sum]
def cat (k : Nat) : Nat := (catL k).getD k 0
theorem catL_len : ∀ k, (catL k).length = k + 1
  | 0 => rfl
  | k + 1 => by unfold catL; rw [List.length_append, catL_len k]; rfl
theorem catL_get : ∀ (k j : Nat), j ≤ k → (catL k).getD j 0 = cat j
  | 0, j, h => by have : j = 0 := by omega
                  subst this; rfl
  | k + 1, j, h => by
    by_cases e : j = k + 1
    · subst e; rfl
    · rw [← catL_get k j (by omega)]
      conv => lhs; unfold catL
      rw [List.getD_eq_getElem?_getD, List.getD_eq_getElem?_getD, List.getElem?_append_left (by rw [catL_len]; omega)]
theorem cat_zero : cat 0 = 1 := rfl
theorem cat_succ (k : Nat) : cat (k + 1) = ((List.range (k + 1)).map fun j => cat j * cat (k - j)).sum := by
  have e : cat (k + 1) = ((List.range (k + 1)).map fun j => (catL k).getD j 0 * (catL k).getD (k - j) 0).sum := by
    unfold cat
    conv => lhs; unfold catL
    rw [List.getD_eq_getElem?_getD, List.getElem?_append_right (by rw [catL_len]; exact Nat.le_refl _), catL_len]
    simp
  rw [e]
  congr 1
  refine List.map_congr_left fun j hj => ?_
  have := List.mem_range.mp hj
  rw [catL_get k j (by omega), catL_get k (k - j) (by omega)]
mutual
/-- the ways of a tree: of its items, and how many items -/
def wp : T → Nat × Nat
  | .leaf _ => (1, 1)
  | .node 3 [a, _, b] => ((wp a).1 * cat ((wp a).2 - 1) * (wp b).1, (wp b).2 + 1)
  | .node _ ks => (wps ks, 1)
def wps : List T → Nat
  | [] => 1
  | k :: ks => (wp k).1 * cat ((wp k).2 - 1) * wps ks
end
def W (k : T) : Nat := (wp k).1 * cat ((wp k).2 - 1)
theorem W_leaf (u : Tx) : W (.leaf u) = 1 := by simp [W, wp, cat_zero]
theorem W_node {r : Nat} {ks : List T} (h : r ≠ 3) : W (.node r ks) = wps ks := by
  have : wp (.node r ks) = (wps ks, 1) := by
    unfold wp
    split
    · rename_i q; cases q
    · rename_i q; cases q; exact absurd rfl h
    · rename_i q; cases q; rfl
  rw [W, this]; simp [cat_zero]
theorem wps_cons (k : T) (ks : List T) : wps (k :: ks) = W k * wps ks := by rw [wps]; rfl
theorem wps_nil : wps [] = 1 := by rw [wps]
def pw : List (T × Nat) → Nat
  | [] => 1
  | x :: xs => W x.1 * pw xs
theorem pw_app : ∀ xs ys : List (T × Nat), pw (xs ++ ys) = pw xs * pw ys
  | [], ys => by simp [pw]
  | x :: xs, ys => by show W x.1 * pw (xs ++ ys) = W x.1 * pw xs * pw ys; rw [pw_app xs ys, Nat.mul_assoc]
theorem wp_lsT : ∀ xs : List (T × Nat), xs ≠ [] → wp (lsT xs) = (pw xs, xs.length)
  | [], h => absurd rfl h
  | [(k, m)], _ => by
    show wp (.node 4 [k]) = _
    have : wp (.node 4 [k]) = (wps [k], 1) := by simp [wp]
    rw [this, wps_cons, wps_nil]; rfl
  | (k, m) :: x :: xs, _ => by
    have ih := wp_lsT (x :: xs) (by simp)
    show wp (.node 3 [k, .leaf [44], lsT (x :: xs)]) = _
    rw [wp, ih]; rfl
theorem W_lsT {xs : List (T × Nat)} (h : xs ≠ []) : W (lsT xs) = pw xs * cat (xs.length - 1) := by rw [W, wp_lsT xs h]
section
variable {l : Bool} {t : Tx}
theorem cuts_nd : ∀ (ys : List Sym) (s e : Nat), (cuts l t ys s e).Nodup
  | [], s, e => by unfold cuts; split <;> simp
  | y :: ys, s, e => by
    rw [cuts_cons]
    unfold List.Nodup
    rw [List.pairwise_flatMap]
    constructor
    · intro m _
      split
      · exact (List.pairwise_map).mpr ((cuts_nd ys m e).imp fun h q => h (by simpa using q))
      · exact List.Pairwise.nil
    · refine (List.nodup_iff_pairwise_ne.mp En_nd).imp fun {a b} hab x hx y hy q => ?_
      split at hx
      · split at hy
        · obtain ⟨c, hc, rfl⟩ := List.mem_map.mp hx
          obtain ⟨d, hd, rfl⟩ := List.mem_map.mp hy
          obtain ⟨r, rfl⟩ := cuts_head hc
          obtain ⟨r', rfl⟩ := cuts_head hd
          simp at q
          exact hab q.1
        · simp at hy
      · simp at hx
theorem byN_nd (x : NT) : (byN x).Nodup := by cases x <;> decide
theorem alts_nd {x s e} : (alts l t x s e).Nodup := by
  unfold alts List.Nodup
  rw [List.pairwise_flatMap]
  constructor
  · intro k _
    exact (List.pairwise_map).mpr ((cuts_nd _ s e).imp fun h q => h (by simpa using q))
  · refine (byN_nd x).imp fun {a b} hab x hx y hy q => ?_
    obtain ⟨c, hc, rfl⟩ := List.mem_map.mp hx
    obtain ⟨d, hd, rfl⟩ := List.mem_map.mp hy
    simp at q
    exact hab q.1
theorem single {α : Type} {xs : List α} {x : α} (hn : xs.Nodup) (h : ∀ y, y ∈ xs ↔ y = x) : xs = [x] := by
  have : xs.Perm [x] := (List.perm_ext_iff_of_nodup hn (by simp)).mpr fun y => by rw [h y]; simp
  exact List.perm_singleton.mp this
theorem sl_one {i c : Nat} (h : t[i]? = some c) : sl t i (i + 1) = [c] := by
  unfold sl
  obtain ⟨hi, hc⟩ := List.getElem?_eq_some_iff.mp h
  rw [List.drop_eq_getElem_cons hi, hc]
  simp
/-- the number of trees and the first one are those of the law's tree -/
structure OKk (l : Bool) (t : Tx) (x : NT) (s e : Nat) (k : T) : Prop where
  c : cntT l t x s e = if l then W k else 1
  t : l = false → trT l t x s e 0 = some k
inductive KO (l : Bool) (t : Tx) : List (Option (NT × Nat × Nat)) → List Nat → List T → Prop
  | nil {a} : KO l t [] [a] []
  | leaf {os a b r ks u} : u = sl t a b → KO l t os (b :: r) ks → KO l t (none :: os) (a :: b :: r) (.leaf u :: ks)
  | nt {os x a b r k ks} : OKk l t x a b k → KO l t os (b :: r) ks → KO l t (some (x, a, b) :: os) (a :: b :: r) (k :: ks)
theorem KO.cnt {os c ks} (h : KO l t os c ks) : prd (os.map (szO (cntT l t))) = if l then wps ks else 1 := by
  induction h with
  | nil => cases l <;> simp [prd, wps_nil]
  | leaf _ _ ih =>
    rw [List.map_cons, prd_cons, ih, wps_cons, W_leaf]
    simp [szO]
  | nt o _ ih =>
    rw [List.map_cons, prd_cons, ih, wps_cons]
    show cntT l t _ _ _ * _ = _
    rw [o.c]
    cases l <;> simp
theorem KO.tr {os c ks} (h : KO l t os c ks) (hl : l = false) : ∀ many, trK l t (trT l t) os c many 0 = some ks := by
  induction h with
  | nil => intro many; unfold trK; rfl
  | leaf hu _ ih =>
    intro many
    rw [trK_cons l t _ none _ _ _ _ many 0 _ rfl, Nat.zero_mod, ih, ← hu]
    rfl
  | nt o _ ih =>
    intro many
    rw [trK_cons l t _ _ _ _ _ _ many 0 _ (by simp only [Nat.zero_div]; exact o.t hl), Nat.zero_mod, ih]
    rfl
theorem one_alt {x s e r c ks} (h : ∀ kc, kc ∈ alts l t x s e ↔ kc = (r, c)) (hk : KO l t (kidL (syms l r) c) c ks) (hr : l = true → r ≠ 3) : OKk l t x s e (.node r ks) := by
  have ha := single alts_nd h
  have hc := hk.cnt
  refine ⟨?_, fun hl => ?_⟩
  · rw [cntT_eq, ha]
    simp only [List.map_cons, List.map_nil, List.sum_cons, List.sum_nil, Nat.add_zero, hc]
    cases l with
    | false => rfl
    | true => simp only [if_true]; rw [W_node (hr rfl)]
  · rw [trT_eq, ha, trA_take _ _ _ _ _ _ _ (by rw [hc, if_neg (by rw [hl]; simp)]; exact Nat.one_pos), hk.tr hl]
    rfl
theorem word_ok {i} (hi : i < runE true t i) : OKk l t .word i (runE true t i) (.node 8 [.leaf (sl t i (runE true t i))]) := by
  refine one_alt (r := 8) (c := [i, runE true t i]) (fun ⟨k, c⟩ => ?_) (.leaf rfl .nil) (fun _ => by decide)
  rw [mem_alts]
  constructor
  · rintro ⟨h1, h2⟩
    have : k = 8 := by simpa [byN] using h1
    subst this
    rw [(cuts1.mp h2).2]
  · intro h
    cases h
    exact ⟨by simp [byN], cuts1.mpr ⟨En_run.mpr ⟨hi, rfl⟩, rfl⟩⟩
def IOk (l : Bool) (t : Tx) (i : Nat) : Prop := Pr l t .item i → ∀ k e, rdT t true i = some (k, e) → OKk l t .item i e k
theorem list_ok_strict {i e xs} (h : Ch t i e xs) (hI : ∀ i', i ≤ i' → IOk false t i') (hp : Pr false t .list i) : OKk false t .list i e (lsT xs) := by
  induction h with
  | @one i k e h =>
    have hi := hI i (Nat.le_refl _) (pr_item hp) k e h
    have he := (iEn (pr_item hp)).mpr ⟨_, h⟩
    refine one_alt (r := 4) (c := [i, e]) (fun ⟨k', c⟩ => ?_) (.nt hi .nil) (fun _ => by decide)
    rw [mem_alts]
    constructor
    · rintro ⟨h1, h2⟩
      have : k' = 3 ∨ k' = 4 := by simpa [byN] using h1
      rcases this with rfl | rfl
      · obtain ⟨m, q1, q2, q3, _⟩ := cuts_nt_lit_nt.mp h2
        obtain ⟨k2, hk2⟩ := (iEn (pr_item hp)).mp q1
        rw [h] at hk2; cases hk2
        have := En_ge q3; omega
      · rw [(cuts1.mp h2).2]
    · intro q
      cases q
      exact ⟨by simp [byN], cuts1.mpr ⟨he, rfl⟩⟩
  | @more i k m e xs h1 h2 h3 ih =>
    have hm := (iEn (pr_item hp)).mpr ⟨_, h1⟩
    have pn := pr_next (l := false) hp hm h2
    have b1 := rdT_bd h1
    have b3 := h3.bd
    have hi := hI i (Nat.le_refl _) (pr_item hp) k m h1
    have hr := ih (fun i' hi' => hI i' (by omega)) pn
    have he := (lEn pn).mpr ⟨_, h3⟩
    rw [lsT_cons h3.ne]
    refine one_alt (r := 3) (c := [i, m, m + 1, e]) (fun ⟨k', c⟩ => ?_) (.nt hi (.leaf (sl_one h2).symm (.nt hr .nil))) (fun q => by cases q)
    rw [mem_alts]
    constructor
    · rintro ⟨h1', h2'⟩
      have : k' = 3 ∨ k' = 4 := by simpa [byN] using h1'
      rcases this with rfl | rfl
      · obtain ⟨m', q1, q2, q3, q4⟩ := cuts_nt_lit_nt.mp h2'
        obtain ⟨k2, hk2⟩ := (iEn (pr_item hp)).mp q1
        rw [h1] at hk2; cases hk2
        rw [q4]
      · obtain ⟨q1, q2⟩ := cuts1.mp h2'
        obtain ⟨k2, hk2⟩ := (iEn (pr_item hp)).mp q1
        rw [h1] at hk2; cases hk2
        omega
    · intro q
      cases q
      exact ⟨by simp [byN], cuts_nt_lit_nt.mpr ⟨m, hm, h2, he, rfl⟩⟩
/-- the ends of a chain -/
def en (xs : List (T × Nat)) (j : Nat) : Nat := (xs.map (·.2)).getD j 0
theorem en_zero (x : T × Nat) (xs : List (T × Nat)) : en (x :: xs) 0 = x.2 := rfl
theorem en_succ (x : T × Nat) (xs : List (T × Nat)) (j : Nat) : en (x :: xs) (j + 1) = en xs j := by simp [en]
theorem Ch.split {i e xs} (h : Ch t i e xs) : ∀ j, j + 1 < xs.length → Ch t i (en xs j) (xs.take (j + 1)) ∧ t[en xs j]? = some 44 ∧ Ch t (en xs j + 1) e (xs.drop (j + 1)) := by
  induction h with
  | one h => intro j hj; simp at hj
  | more h1 h2 h3 ih =>
    intro j hj
    cases j with
    | zero => exact ⟨.one h1, h2, h3⟩
    | succ j =>
      rw [en_succ]
      obtain ⟨a, b, c⟩ := ih j (by simpa using hj)
      exact ⟨.more h1 h2 a, b, c⟩
theorem Ch.last {i e xs} (h : Ch t i e xs) : en xs (xs.length - 1) = e := by
  induction h with
  | one h => rfl
  | @more i k m e xs h1 h2 h3 ih =>
    have := h3.ne
    cases xs with
    | nil => exact absurd rfl this
    | cons x xs => exact (en_succ _ _ _).trans ih
theorem Ch.gt {i e xs} (h : Ch t i e xs) : ∀ j, j < xs.length → i < en xs j := by
  induction h with
  | one h => intro j hj; have : j = 0 := by simpa using hj
             subst this; exact (rdT_bd h).1
  | more h1 h2 h3 ih =>
    intro j hj
    have b := rdT_bd h1
    cases j with
    | zero => exact b.1
    | succ j => rw [en_succ]; have := ih j (by simpa using hj); omega
theorem en_app {xs ys : List (T × Nat)} {j : Nat} (h : j < xs.length) : en (xs ++ ys) j = en xs j := by
  unfold en
  rw [List.map_append, List.getD_eq_getElem?_getD, List.getD_eq_getElem?_getD, List.getElem?_append_left (by simpa using h)]
theorem en_drop {xs : List (T × Nat)} {a j : Nat} : en (xs.drop a) j = en xs (a + j) := by
  unfold en
  rw [List.map_drop, List.getD_eq_getElem?_getD, List.getD_eq_getElem?_getD, List.getElem?_drop]
theorem list_ok_loose : ∀ (d i e : Nat) (xs : List (T × Nat)), e - i ≤ d → Ch t i e xs → (∀ i', i ≤ i' → IOk true t i') → Pr true t .list i → cntT true t .list i e = W (lsT xs) := by
  intro d
  induction d with
  | zero => intro i e xs hd h; have := h.bd; omega
  | succ d ih =>
    intro i e xs hd h hI hp
    have nx : 0 < xs.length := List.length_pos_iff.mpr h.ne
    -- the alternatives
    have hperm : (alts true t .list i e).Perm (((List.range (xs.length - 1)).map fun j => (3, [i, en xs j, en xs j + 1, e])) ++ (if xs.length = 1 then [(4, [i, e])] else [])) := by
      refine (List.perm_ext_iff_of_nodup alts_nd ?_).mpr fun ⟨k, c⟩ => ?_
      · refine List.nodup_append.mpr ⟨?_, by split <;> simp, ?_⟩
        · refine (List.pairwise_map).mpr ?_
          refine List.Pairwise.imp_of_mem (R := (· < ·)) (fun {a b} ha hb hab q => ?_) List.pairwise_lt_range
          have hb' := List.mem_range.mp hb
          have ha' := List.mem_range.mp ha
          obtain ⟨_, _, c3⟩ := h.split a (by omega)
          have := c3.gt (b - a - 1) (by rw [List.length_drop]; omega)
          rw [en_drop, show a + 1 + (b - a - 1) = b by omega] at this
          have e' : en xs a = en xs b := by simp at q; exact q
          omega
        · intro a ha b hb q
          obtain ⟨j, _, rfl⟩ := List.mem_map.mp ha
          split at hb
          · have : b = (4, [i, e]) := by simpa using hb
            rw [this] at q; cases q
          · simp at hb
      · rw [mem_alts, List.mem_append]
        constructor
        · rintro ⟨h1, h2⟩
          have : k = 3 ∨ k = 4 := by simpa [byN] using h1
          rcases this with rfl | rfl
          · obtain ⟨m, q1, q2, q3, rfl⟩ := cuts_nt_lit_nt.mp h2
            have pn := pr_next (l := true) hp q1 q2
            obtain ⟨ys, hy⟩ := (lEn hp).mp q1
            obtain ⟨zs, hz⟩ := (lEn pn).mp q3
            have e1 := h.uniq (hy.app q2 hz)
            have ny := List.length_pos_iff.mpr hy.ne
            have nz := List.length_pos_iff.mpr hz.ne
            have el : en xs (ys.length - 1) = m := by rw [e1, en_app (by omega), hy.last]
            refine .inl (List.mem_map.mpr ⟨ys.length - 1, List.mem_range.mpr ?_, ?_⟩)
            · rw [e1, List.length_append]; omega
            · rw [el]
          · obtain ⟨q1, rfl⟩ := cuts1.mp h2
            obtain ⟨k2, hk2⟩ := (iEn (pr_item hp)).mp q1
            have e1 := h.uniq (.one hk2)
            right
            rw [e1]; simp
        · rintro (q | q)
          · obtain ⟨j, hj, q⟩ := List.mem_map.mp q
            cases q
            have hj' := List.mem_range.mp hj
            obtain ⟨c1, c2, c3⟩ := h.split j (by omega)
            have hm := (lEn hp).mpr ⟨_, c1⟩
            exact ⟨by simp [byN], cuts_nt_lit_nt.mpr ⟨_, hm, c2, (lEn (pr_next (l := true) hp hm c2)).mpr ⟨_, c3⟩, rfl⟩⟩
          · split at q
            · rename_i hx
              have : (k, c) = (4, [i, e]) := by simpa using q
              cases this
              refine ⟨by simp [byN], cuts1.mpr ⟨?_, rfl⟩⟩
              cases h with
              | one h => exact (iEn (pr_item hp)).mpr ⟨_, h⟩
              | more h1 h2 h3 => have := h3.ne; simp at hx; exact absurd hx this
            · simp at q
    rw [cntT_eq, (hperm.map _).sum_nat, List.map_append, List.sum_append, W_lsT h.ne]
    by_cases c1 : xs.length = 1
    · rw [c1]
      simp only [if_true]
      cases h with
      | more h1 h2 h3 => have := h3.ne; simp at c1; exact absurd c1 this
      | @one _ k _ h =>
        have hi := hI i (Nat.le_refl _) (pr_item hp) k e h
        show _ + (prd [cntT true t .item i e] + 0) = _
        rw [hi.c]
        simp [prd, pw, cat_zero]
    · rw [if_neg c1]
      simp only [List.map_nil, List.sum_nil, Nat.add_zero, List.map_map]
      obtain ⟨k, hk⟩ : ∃ k, xs.length = k + 2 := ⟨xs.length - 2, by omega⟩
      rw [hk, show k + 2 - 1 = k + 1 by omega, cat_succ]
      have gen : ∀ (L : List Nat) (a : Nat) (f g : Nat → Nat), (∀ j ∈ L, f j = a * g j) → (L.map f).sum = a * (L.map g).sum := fun L a f g hh => by
        induction L with
        | nil => simp
        | cons b L ihL => rw [List.map_cons, List.sum_cons, List.map_cons, List.sum_cons, hh b (List.mem_cons_self ..), ihL fun j hj => hh j (List.mem_cons_of_mem _ hj), Nat.mul_add]
      refine gen _ _ _ _ fun j hj => ?_
      have hj' := List.mem_range.mp hj
      obtain ⟨c1, c2, c3⟩ := h.split j (by omega)
      have hm := (lEn hp).mpr ⟨_, c1⟩
      have pn := pr_next (l := true) hp hm c2
      have b1 := c1.bd
      have b3 := c3.bd
      have i1 := ih i (en xs j) _ (by omega) c1 hI hp
      have i2 := ih (en xs j + 1) e _ (by omega) c3 (fun i' hi' => hI i' (by omega)) pn
      show prd [cntT true t .list i (en xs j), 1, cntT true t .list (en xs j + 1) e] = _
      rw [i1, i2, W_lsT c1.ne, W_lsT c3.ne]
      have ep : pw xs = pw (xs.take (j + 1)) * pw (xs.drop (j + 1)) := by rw [← pw_app, List.take_append_drop]
      rw [ep, List.length_take, List.length_drop, hk, show min (j + 1) (k + 2) - 1 = j by omega, show k + 2 - (j + 1) - 1 = k - j by omega]
      simp only [prd, List.foldl_cons, List.foldl_nil, Nat.one_mul, Nat.mul_one]
      simp only [Nat.mul_assoc, Nat.mul_left_comm, Nat.mul_comm]
theorem list_ok {i e xs} (h : Ch t i e xs) (hI : ∀ i', i ≤ i' → IOk l t i') (hp : Pr l t .list i) : OKk l t .list i e (lsT xs) := by
  cases l with
  | false => exact list_ok_strict h hI hp
  | true => exact ⟨list_ok_loose _ i e xs (Nat.le_refl _) h hI hp, fun q => by cases q⟩
theorem item_ok : ∀ (d i : Nat), t.length - i ≤ d → IOk l t i := by
  intro d
  induction d with
  | zero =>
    intro i hi hp k e h
    have := rdT_bd h
    omega
  | succ d ih =>
    intro i hi hp k e h
    have he := (iEn hp).mpr ⟨_, h⟩
    rw [rdT_item] at h
    by_cases c1 : i < runE true t i
    · rw [if_pos c1] at h
      cases h
      refine one_alt (r := 5) (c := [i, runE true t i]) (fun ⟨k', c⟩ => ?_) (.nt (word_ok c1) .nil) (fun _ => by decide)
      rw [mem_alts]
      constructor
      · rintro ⟨h1, h2⟩
        have : k' = 5 ∨ k' = 6 ∨ k' = 7 := by simpa [byN] using h1
        rcases this with rfl | rfl | rfl
        · rw [(cuts1.mp h2).2]
        · exact (run_excl c1 (En_run.mp (cuts1.mp h2).1).1).elim
        · exact (run_par c1 (cuts_par.mp h2).1).elim
      · intro q
        cases q
        exact ⟨by simp [byN], cuts1.mpr ⟨(En_word (pr_word hp)).mpr ⟨c1, rfl⟩, rfl⟩⟩
    · rw [if_neg c1] at h
      by_cases c2 : i < runE false t i
      · rw [if_pos c2] at h
        cases h
        refine one_alt (r := 6) (c := [i, runE false t i]) (fun ⟨k', c⟩ => ?_) (.leaf rfl .nil) (fun _ => by decide)
        rw [mem_alts]
        constructor
        · rintro ⟨h1, h2⟩
          have : k' = 5 ∨ k' = 6 ∨ k' = 7 := by simpa [byN] using h1
          rcases this with rfl | rfl | rfl
          · exact (c1 ((En_word (pr_word hp)).mp (cuts1.mp h2).1).1).elim
          · rw [(cuts1.mp h2).2]
          · exact (run_par c2 (cuts_par.mp h2).1).elim
        · intro q
          cases q
          exact ⟨by simp [byN], cuts1.mpr ⟨En_run.mpr ⟨c2, rfl⟩, rfl⟩⟩
      · rw [if_neg c2] at h
        by_cases c3 : t[i]? = some 40
        · rw [if_pos c3] at h
          have hil := (List.getElem?_eq_some_iff.mp c3).1
          split at h
          · simp at h
          · rename_i k1 m q
            split at h
            · rename_i c4
              cases h
              obtain ⟨_, xs, hx, rfl⟩ := chain_rdT _ _ k1 m (Nat.le_refl _) q
              have pl := pr_par hp c3
              have L := list_ok hx (fun i' hi' => ih i' (by omega)) pl
              refine one_alt (r := 7) (c := [i, i + 1, m, m + 1]) (fun ⟨k', c⟩ => ?_) (.leaf (sl_one c3).symm (.nt L (.leaf (sl_one c4).symm .nil))) (fun _ => by decide)
              rw [mem_alts]
              constructor
              · rintro ⟨h1, h2⟩
                have : k' = 5 ∨ k' = 6 ∨ k' = 7 := by simpa [byN] using h1
                rcases this with rfl | rfl | rfl
                · exact (c1 ((En_word (pr_word hp)).mp (cuts1.mp h2).1).1).elim
                · exact (c2 (En_run.mp (cuts1.mp h2).1).1).elim
                · obtain ⟨_, m', q1, q2, q3, q4⟩ := cuts_par.mp h2
                  have : m' = m := by omega
                  subst this
                  rw [q4]
              · intro q'
                cases q'
                exact ⟨by simp [byN], cuts_par.mpr ⟨c3, m, (lEn pl).mpr ⟨_, hx⟩, c4, rfl, rfl⟩⟩
            · simp at h
        · rw [if_neg c3] at h
          simp at h
theorem line_ok {i k e} (hp : Pr l t .line i) (h : lnT t i = some (k, e)) : OKk l t .line i e k := by
  have he := (nEn hp).mpr ⟨_, h⟩
  unfold lnT at h
  split at h
  · rename_i c
    split at h
    · simp at h
    · rename_i k1 m q
      split at h
      · rename_i c4
        cases h
        obtain ⟨_, xs, hx, rfl⟩ := chain_rdT _ _ k1 m (Nat.le_refl _) q
        have hw := (En_word (l := l) (pr_word' hp)).mpr ⟨c.1, rfl⟩
        have pl := pr_eq hp hw c.2
        have L := list_ok hx (fun i' _ => item_ok _ i' (Nat.le_refl _)) pl
        refine one_alt (r := 2) (c := [i, runE true t i, runE true t i + 1, m, m + 1]) (fun ⟨k', c'⟩ => ?_) (.nt (word_ok c.1) (.leaf (sl_one c.2).symm (.nt L (.leaf (sl_one c4).symm .nil)))) (fun _ => by decide)
        rw [mem_alts]
        constructor
        · rintro ⟨h1, h2⟩
          have : k' = 2 := by simpa [byN] using h1
          subst this
          obtain ⟨m1, m2, q1, q2, q3, q4, q5, q6⟩ := cuts_line.mp h2
          obtain ⟨_, rfl⟩ := (En_word (pr_word' hp)).mp q1
          have : m2 = m := by omega
          subst this
          rw [q6]
        · intro q'
          cases q'
          exact ⟨by simp [byN], cuts_line.mpr ⟨_, m, hw, c.2, (lEn pl).mpr ⟨_, hx⟩, c4, rfl, rfl⟩⟩
      · simp at h
  · simp at h
theorem p_ok : ∀ (d i : Nat) (k : T), t.length - i ≤ d → i ≤ t.length → Pr l t .p i → pT t i = some k → OKk l t .p i t.length k := by
  intro d
  induction d with
  | zero =>
    intro i k hd hi hp h
    have e : i = t.length := by omega
    rw [pT_eq, if_pos (by omega)] at h
    cases h
    refine one_alt (r := 1) (c := [i]) (fun ⟨k', c'⟩ => ?_) .nil (fun _ => by decide)
    rw [mem_alts]
    constructor
    · rintro ⟨h1, h2⟩
      have : k' = 0 ∨ k' = 1 := by simpa [byN] using h1
      rcases this with rfl | rfl
      · obtain ⟨m, q1, q2, _⟩ := cuts_p0.mp h2
        have := En_gt q1 (by simp)
        have := En_ge q1
        omega
      · rw [(mem_cuts_nil.mp h2).2]
    · intro q
      cases q
      exact ⟨by simp [byN], mem_cuts_nil.mpr ⟨e, rfl⟩⟩
  | succ d ih =>
    intro i k hd hi hp h
    by_cases c : t.length ≤ i
    · rw [pT_eq, if_pos c] at h
      have e : i = t.length := by omega
      cases h
      refine one_alt (r := 1) (c := [i]) (fun ⟨k', c'⟩ => ?_) .nil (fun _ => by decide)
      rw [mem_alts]
      constructor
      · rintro ⟨h1, h2⟩
        have : k' = 0 ∨ k' = 1 := by simpa [byN] using h1
        rcases this with rfl | rfl
        · obtain ⟨m, q1, q2, _⟩ := cuts_p0.mp h2
          have := En_gt q1 (by simp)
          have := En_ge q1
          omega
        · rw [(mem_cuts_nil.mp h2).2]
      · intro q
        cases q
        exact ⟨by simp [byN], mem_cuts_nil.mpr ⟨e, rfl⟩⟩
    · rw [pT_eq, if_neg c] at h
      split at h
      · simp at h
      · rename_i k1 m q
        obtain ⟨p, hpp, rfl⟩ := Option.map_eq_some_iff.mp h
        have b := lnT_bd q
        have hm := (nEn (l := l) (pr_line hp)).mpr ⟨_, q⟩
        have pm := pr_p hp hm
        have o1 := line_ok (pr_line hp) q
        have o2 := ih m p (by omega) b.2 pm hpp
        refine one_alt (r := 0) (c := [i, m, t.length]) (fun ⟨k', c'⟩ => ?_) (.nt o1 (.nt o2 .nil)) (fun _ => by decide)
        rw [mem_alts]
        constructor
        · rintro ⟨h1, h2⟩
          have : k' = 0 ∨ k' = 1 := by simpa [byN] using h1
          rcases this with rfl | rfl
          · obtain ⟨m', q1, q2, q3⟩ := cuts_p0.mp h2
            obtain ⟨k2, hk2⟩ := (nEn (pr_line hp)).mp q1
            rw [q] at hk2; cases hk2
            rw [q3]
          · have := (mem_cuts_nil.mp h2).1
            omega
        · intro q'
          cases q'
          exact ⟨by simp [byN], cuts_p0.mpr ⟨m, hm, (pEn _ m (Nat.le_refl _) b.2 pm).mpr ⟨_, hpp⟩, rfl⟩⟩
/-- THE PLAIN LAW: the number and the first tree -/
theorem due_ok {k : T} (h : due t = some k) : OKk l t .p 0 t.length k := p_ok _ 0 k (Nat.le_refl _) (Nat.zero_le _) pr_top h
theorem due_cnt0 (h : due t = none) : cntT l t .p 0 t.length = 0 := by rw [cntT_eq, (due_none (l := l)).mp h]; rfl
end
end K38
/-! Plain mathematics, part 13: how great the trees are. -/
namespace K38
mutual
/-- every node of rule 3 has three kids -/
def w3 : T → Prop
  | .leaf _ => True
  | .node r ks => (r = 3 → ks.length = 3 ∧ ∃ r' ks', ks[2]? = some (.node r' ks')) ∧ w3s ks
def w3s : List T → Prop
  | [] => True
  | k :: ks => w3 k ∧ w3s ks
end
theorem w3s_mem : ∀ {ks : List T} {k : T}, w3s ks → k ∈ ks → w3 k
  | k' :: ks, k, h, hm => by
    have h : w3 k' ∧ w3s ks := h
    rcases List.mem_cons.mp hm with q | q
    · subst q; exact h.1
    · exact w3s_mem h.2 q
section
variable {l : Bool} {t : Tx}
theorem sl_len (a b : Nat) : (sl t a b).length ≤ b - a := by unfold sl; rw [List.length_take]; omega
/-- the kids of an alternative -/
theorem trK_facts (f : NT → Nat → Nat → Nat → Option T) (D : Nat)
    (hf : ∀ x a b n k, a ≤ b → f x a b n = some k → (mu x a b < D → dpT k ≤ mu x a b + 1) ∧ szT k ≤ b - a ∧ wfT k ∧ w3 k ∧ nnT k ≤ wt8 x a b ∧ ∃ r ks, k = .node r ks) :
    ∀ (ys : List Sym) (s e : Nat) (c : List Nat) (many n : Nat) (ks : List T), c ∈ cuts l t ys s e → (∀ x a b, some (x, a, b) ∈ kidL ys c → mu x a b < D) → trK l t f (kidL ys c) c many n = some ks →
      dpTs ks ≤ D ∧ szTs ks ≤ e - s ∧ wfTs ks ∧ w3s ks ∧ nnTs ks ≤ ((kidL ys c).map wtO).sum ∧ ks.length = ys.length ∧ ∀ (j : Nat) (x : NT), ys[j]? = some (.nt x) → ∃ r' ks', ks[j]? = some (.node r' ks')
  | [], s, e, c, many, n, ks, hc, _, h => by
    obtain ⟨rfl, rfl⟩ := mem_cuts_nil.mp hc
    simp [kidL, trK] at h
    subst h
    exact ⟨Nat.zero_le _, Nat.zero_le _, trivial, trivial, Nat.zero_le _, rfl, fun j x h => by simp at h⟩
  | y :: ys, s, e, c, many, n, ks, hc, hm, h => by
    obtain ⟨m, c', h1, h2, h3, rfl⟩ := mem_cuts_cons.mp hc
    obtain ⟨r, rfl⟩ := cuts_head h3
    have hge := En_ge h1
    have hle := cuts_le h3
    have ih := fun many n ks => trK_facts f D hf ys m e (m :: r) many n ks h3 fun x a b q => hm x a b (by show _ ∈ kidO y s m :: kidL ys (m :: r); exact List.mem_cons_of_mem _ q)
    have ek : kidL (y :: ys) (s :: m :: r) = kidO y s m :: kidL ys (m :: r) := rfl
    rw [ek] at h ⊢
    rw [List.map_cons, List.sum_cons]
    cases ho : kidO y s m with
    | none =>
      rw [ho] at h
      rw [trK_cons l t f none _ _ _ _ many n (.leaf (sl t s m)) rfl] at h
      obtain ⟨ks', q, rfl⟩ := Option.map_eq_some_iff.mp h
      obtain ⟨a1, a2, a3, a4, a5, a6, a7⟩ := ih _ _ ks' q
      have := sl_len (t := t) s m
      refine ⟨?_, ?_, ⟨trivial, a3⟩, ⟨trivial, a4⟩, ?_, by simp [a6], fun j x hj => ?_⟩
      · show max (dpT (.leaf _)) (dpTs ks') ≤ D
        simp only [dpT]; omega
      · show (sl t s m).length + szTs ks' ≤ _
        omega
      · show 0 + nnTs ks' ≤ 0 + _
        omega
      · cases j with
        | zero =>
          simp only [List.getElem?_cons_zero, Option.some.injEq] at hj
          subst hj
          cases ho
        | succ j => exact a7 j x (by simpa using hj)
    | some o =>
      obtain ⟨x, a, b⟩ := o
      have eo : a = s ∧ b = m := by
        cases y with
        | nt z => simp only [kidO] at ho; cases ho; exact ⟨rfl, rfl⟩
        | lit _ => cases ho
        | run _ => cases ho
      obtain ⟨rfl, rfl⟩ := eo
      rw [ho] at h
      have hmu := hm x a b (by show _ ∈ kidO y a b :: kidL ys (b :: r); rw [ho]; exact List.mem_cons_self ..)
      cases hk : f x a b (n / (many / szO (cntT l t) (some (x, a, b)))) with
      | none =>
        exfalso
        unfold trK at h
        simp only [hk] at h
        cases h
      | some k =>
        rw [trK_cons l t f (some (x, a, b)) _ _ _ _ many n k hk] at h
        obtain ⟨ks', q, rfl⟩ := Option.map_eq_some_iff.mp h
        obtain ⟨a1, a2, a3, a4, a5, a6, a7⟩ := ih _ _ ks' q
        obtain ⟨b1, b2, b3, b4, b5, rr, kk, b6⟩ := hf x a b _ k hge.1 hk
        have b1 := b1 hmu
        refine ⟨?_, ?_, ⟨b3, a3⟩, ⟨b4, a4⟩, ?_, by simp [a6], fun j x hj => ?_⟩
        · show max (dpT k) (dpTs ks') ≤ D
          omega
        · show szT k + szTs ks' ≤ _
          omega
        · show nnT k + nnTs ks' ≤ wt8 x a b + _
          omega
        · cases j with
          | zero => exact ⟨rr, kk, by rw [← b6]; rfl⟩
          | succ j => exact a7 j x (by simpa using hj)
theorem tr_facts : ∀ (f : Nat) (x : NT) (s e n : Nat) (k : T), s ≤ e → tr l t f x s e n = some k → dpT k ≤ mu x s e + 1 ∧ szT k ≤ e - s ∧ wfT k ∧ w3 k ∧ nnT k ≤ wt8 x s e ∧ ∃ r ks, k = .node r ks
  | 0, _, _, _, _, _, _, h => by simp [tr] at h
  | f + 1, x, s, e, n, k, hse, h => by
    unfold tr at h
    have gen : ∀ (as : List (Nat × List Nat)) (n : Nat), (∀ kc ∈ as, kc ∈ alts l t x s e) → trA l t (tr l t f) as n = some k → dpT k ≤ mu x s e + 1 ∧ szT k ≤ e - s ∧ wfT k ∧ w3 k ∧ nnT k ≤ wt8 x s e ∧ ∃ r ks, k = .node r ks := fun as => by
      induction as with
      | nil => intro n _ h; simp [trA] at h
      | cons kc as ih =>
        intro n hm h
        obtain ⟨r, c⟩ := kc
        by_cases q : n < prd ((kidL (syms l r) c).map (szO (cntT l t)))
        · rw [trA_take _ _ _ _ _ _ _ q] at h
          obtain ⟨ks, hks, rfl⟩ := Option.map_eq_some_iff.mp h
          have ha := hm (r, c) (List.mem_cons_self ..)
          have hc := (mem_alts.mp ha).2
          obtain ⟨a1, a2, a3, a4, a5, a6, a7⟩ := trK_facts (l := l) (t := t) (tr l t f) (mu x s e) (fun x' a b n k hab hk => by
            obtain ⟨q1, q2⟩ := tr_facts f x' a b n k hab hk
            exact ⟨fun _ => q1, q2⟩) (syms l r) s e c _ n ks hc (fun x' a b ho => (kid_of ha ho).2.2.2.2) hks
          have wk := wt_kids ha
          have sl4 := syms_len l r
          refine ⟨?_, a2, ⟨by omega, a3⟩, ⟨fun e3 => by subst e3; exact ⟨by rw [a6]; cases l <;> rfl, a7 2 .list (by cases l <;> rfl)⟩, a4⟩, ?_, _, _, rfl⟩
          · show dpTs ks + 1 ≤ _
            omega
          · show nnTs ks + 1 ≤ _
            omega
        · rw [trA_skip _ _ _ _ _ _ _ q] at h
          exact ih _ (fun kc hk => hm kc (List.mem_cons_of_mem _ hk)) h
    exact gen _ n (fun _ h => h) h
structure Fit (N : Nat) (k : T) : Prop where
  dp : dpT k ≤ N + 2
  sz : szT k ≤ N
  wf : wfT k
  w3 : w3 k
  nn : nnT k ≤ 4 * N + 1
theorem trT_fit {n : Nat} {k : T} (h : trT l t .p 0 t.length n = some k) : Fit t.length k := by
  obtain ⟨a1, a2, a3, a4, a5, _⟩ := tr_facts _ .p 0 t.length n k (Nat.zero_le _) h
  exact ⟨by simpa [mu] using a1, by simpa using a2, a3, a4, by simpa [wt8] using a5⟩
theorem due_fit {k : T} (h : due t = some k) : Fit t.length k := trT_fit ((due_ok (l := false) h).t rfl)
theorem trT_isnode {x s e n k} (h : trT l t x s e n = some k) : ∃ r ks, k = .node r ks := by
  rw [trT_eq] at h
  generalize alts l t x s e = as at h
  induction as generalizing n with
  | nil => simp [trA] at h
  | cons kc as ih =>
    obtain ⟨r, c⟩ := kc
    by_cases q : n < prd ((kidL (syms l r) c).map (szO (cntT l t)))
    · rw [trA_take _ _ _ _ _ _ _ q] at h
      obtain ⟨ks, hks, rfl⟩ := Option.map_eq_some_iff.mp h
      exact ⟨_, _, rfl⟩
    · rw [trA_skip _ _ _ _ _ _ _ q] at h
      exact ih h
theorem due_isnode {k : T} (h : due t = some k) : ∃ r ks, k = .node r ks := trT_isnode ((due_ok (l := false) h).t rfl)
end
/-! how great the ways are -/
theorem cat_le : ∀ (k : Nat), k ≤ 256 → cat k ≤ 2 ^ (8 * k)
  | 0, _ => by decide
  | k + 1, h => by
    rw [cat_succ]
    have : ((List.range (k + 1)).map fun j => cat j * cat (k - j)).sum ≤ (List.range (k + 1)).length * 2 ^ (8 * k) := sum_le _ _ _ fun j hj => by
      have hj' := List.mem_range.mp hj
      refine Nat.le_trans (Nat.mul_le_mul (cat_le j (by omega)) (cat_le (k - j) (by omega))) ?_
      rw [← Nat.pow_add]
      exact Nat.pow_le_pow_right (by decide) (by omega)
    refine Nat.le_trans this ?_
    rw [List.length_range, show 8 * (k + 1) = 8 + 8 * k by omega, Nat.pow_add]
    exact Nat.mul_le_mul_right _ (by omega)
  decreasing_by all_goals omega
theorem cat_pos : ∀ k, 0 < cat k
  | 0 => by decide
  | k + 1 => by
    rw [cat_succ, List.range_succ_eq_map, List.map_cons, List.sum_cons]
    have h0 := cat_pos 0
    have hk := cat_pos k
    have : 0 < cat 0 * cat (k - 0) := Nat.mul_pos h0 (by simpa using hk)
    omega
mutual
theorem wp_b : ∀ (k : T), 0 < (wp k).1 ∧ 1 ≤ (wp k).2 ∧ (wp k).2 ≤ dpT k + 1 ∧ (wp k).2 ≤ nnT k + 1 ∧ (dpT k ≤ 250 → (wp k).1 * 2 ^ (8 * ((wp k).2 - 1)) ≤ 2 ^ (8 * nnT k))
  | .leaf u => by simp [wp, dpT, nnT]
  | .node r ks => by
    by_cases h : ∃ a c b, r = 3 ∧ ks = [a, c, b]
    · obtain ⟨a, c, b, rfl, rfl⟩ := h
      obtain ⟨a1, a2, a3, a4, a5⟩ := wp_b a
      obtain ⟨b1, b2, b3, b4, b5⟩ := wp_b b
      have ed : dpT (.node 3 [a, c, b]) = max (dpT a) (max (dpT c) (max (dpT b) 0)) + 1 := rfl
      have en : nnT (.node 3 [a, c, b]) = nnT a + (nnT c + (nnT b + 0)) + 1 := rfl
      have ew : wp (.node 3 [a, c, b]) = ((wp a).1 * cat ((wp a).2 - 1) * (wp b).1, (wp b).2 + 1) := by rw [wp]
      rw [ed, en, ew]
      refine ⟨Nat.mul_pos (Nat.mul_pos a1 (cat_pos _)) b1, by simp, by simp only; omega, by simp only; omega, fun hd => ?_⟩
      have a5 := a5 (by omega)
      have b5 := b5 (by omega)
      have hc : cat ((wp a).2 - 1) ≤ 2 ^ (8 * ((wp a).2 - 1)) := cat_le _ (by omega)
      show (wp a).1 * cat ((wp a).2 - 1) * (wp b).1 * 2 ^ (8 * ((wp b).2 + 1 - 1)) ≤ _
      have e1 : 2 ^ (8 * ((wp b).2 + 1 - 1)) = 2 ^ 8 * 2 ^ (8 * ((wp b).2 - 1)) := by rw [← Nat.pow_add]; congr 1; omega
      rw [e1]
      have m1 : (wp a).1 * cat ((wp a).2 - 1) ≤ 2 ^ (8 * nnT a) := Nat.le_trans (Nat.mul_le_mul_left _ hc) a5
      have : (wp a).1 * cat ((wp a).2 - 1) * (wp b).1 * (2 ^ 8 * 2 ^ (8 * ((wp b).2 - 1))) = (wp a).1 * cat ((wp a).2 - 1) * 2 ^ 8 * ((wp b).1 * 2 ^ (8 * ((wp b).2 - 1))) := by simp only [Nat.mul_assoc, Nat.mul_left_comm, Nat.mul_comm]
      rw [this]
      refine Nat.le_trans (Nat.mul_le_mul (Nat.mul_le_mul_right _ m1) b5) ?_
      rw [← Nat.pow_add, ← Nat.pow_add]
      exact Nat.pow_le_pow_right (by decide) (by omega)
    · have ew : wp (.node r ks) = (wps ks, 1) := by
        unfold wp
        split
        · rename_i q; cases q
        · rename_i q; cases q; exact absurd ⟨_, _, _, rfl, rfl⟩ h
        · rename_i q; cases q; rfl
      obtain ⟨s1, s2⟩ := wps_b ks
      rw [ew]
      refine ⟨s1, by simp, by simp, by simp, fun hd => ?_⟩
      have hd : dpTs ks + 1 ≤ 250 := hd
      have := s2 (by omega)
      show wps ks * 2 ^ (8 * 0) ≤ 2 ^ (8 * (nnTs ks + 1))
      rw [Nat.mul_zero, Nat.pow_zero, Nat.mul_one]
      exact Nat.le_trans this (Nat.pow_le_pow_right (by decide) (by omega))
  termination_by k => sizeOf k
  decreasing_by all_goals (simp_wf; first | done | omega | (subst_vars; simp_wf; omega))
theorem wps_b : ∀ (ks : List T), 0 < wps ks ∧ (dpTs ks ≤ 250 → wps ks ≤ 2 ^ (8 * nnTs ks))
  | [] => by simp [wps, nnTs]
  | k :: ks => by
    obtain ⟨a1, a2, a3, a4, a5⟩ := wp_b k
    obtain ⟨s1, s2⟩ := wps_b ks
    rw [wps]
    refine ⟨Nat.mul_pos (Nat.mul_pos a1 (cat_pos _)) s1, fun hd => ?_⟩
    have hd : max (dpT k) (dpTs ks) ≤ 250 := hd
    have a5 := a5 (by omega)
    have s2 := s2 (by omega)
    have hc : cat ((wp k).2 - 1) ≤ 2 ^ (8 * ((wp k).2 - 1)) := cat_le _ (by omega)
    have m1 : (wp k).1 * cat ((wp k).2 - 1) ≤ 2 ^ (8 * nnT k) := Nat.le_trans (Nat.mul_le_mul_left _ hc) a5
    show _ ≤ 2 ^ (8 * (nnT k + nnTs ks))
    rw [Nat.mul_add, Nat.pow_add]
    exact Nat.mul_le_mul m1 s2
  termination_by ks => sizeOf ks
  decreasing_by all_goals (simp_wf; first | done | omega | (subst_vars; simp_wf; omega))
end
theorem wp_3 (a c b : T) : wp (.node 3 [a, c, b]) = (W a * (wp b).1, (wp b).2 + 1) := by rw [wp]; rfl
theorem wp_n {r : Nat} {ks : List T} (h : r ≠ 3) : wp (.node r ks) = (wps ks, 1) := by
  unfold wp
  split
  · rename_i q; cases q
  · rename_i q; cases q; exact absurd rfl h
  · rename_i q; cases q; rfl
theorem wps_app : ∀ (ks : List T) (k : T), wps (ks ++ [k]) = wps ks * W k
  | [], k => by rw [List.nil_append, wps_cons, wps_nil]; simp
  | k' :: ks, k => by rw [List.cons_append, wps_cons, wps_cons, wps_app ks k, Nat.mul_assoc]
theorem wps_pos (ks : List T) : 0 < wps ks := (wps_b ks).1
theorem w3_3 {ks : List T} (h : w3 (.node 3 ks)) : ∃ a c r ks', ks = [a, c, .node r ks'] := by
  have h : (3 = 3 → ks.length = 3 ∧ ∃ r' ks', ks[2]? = some (.node r' ks')) ∧ w3s ks := h
  obtain ⟨h1, r', ks', h2⟩ := h.1 rfl
  match ks, h1, h2 with
  | [a, c, b], _, h2 => exact ⟨a, c, r', ks', by simp at h2; rw [h2]⟩
theorem W_pos (k : T) : 0 < W k := Nat.mul_pos (wp_b k).1 (cat_pos _)
theorem W_le {k : T} (h : dpT k ≤ 250) : W k ≤ 2 ^ (8 * nnT k) := by
  obtain ⟨a1, a2, a3, a4, a5⟩ := wp_b k
  exact Nat.le_trans (Nat.mul_le_mul_left _ (cat_le _ (by omega))) (a5 h)
end K38
/-! Plain mathematics, part 14: the nodes of a tree, what is kept. -/
namespace K38
def subT : T → List Nat → Option T
  | t, [] => some t
  | .leaf _, _ :: _ => none
  | .node _ ks, i :: p => (ks[i]?).bind fun k => subT k p
def ruleT : T → Nat
  | .leaf _ => 0
  | .node r _ => r
abbrev LRow := List Nat × T × Nat × Nat
mutual
def lnod : T → List Nat → Nat → List LRow
  | .leaf _, _, _ => []
  | .node r ks, path, s => (path, .node r ks, s, s + szTs ks) :: lnods ks path 0 s
def lnods : List T → List Nat → Nat → Nat → List LRow
  | [], _, _, _ => []
  | k :: ks, path, i, s => lnod k (path ++ [i]) s ++ lnods ks path (i + 1) (s + szT k)
end
theorem lnods_app : ∀ (ks : List T) (k : T) (path : List Nat) (i s : Nat), lnods (ks ++ [k]) path i s = lnods ks path i s ++ lnod k (path ++ [i + ks.length]) (s + szTs ks)
  | [], k, path, i, s => by simp [lnods, szTs]
  | k' :: ks, k, path, i, s => by
    show lnod k' (path ++ [i]) s ++ lnods (ks ++ [k]) path (i + 1) (s + szT k') = (lnod k' (path ++ [i]) s ++ lnods ks path (i + 1) (s + szT k')) ++ _
    rw [lnods_app ks k path (i + 1), List.append_assoc]
    congr 3
    · rw [List.length_cons]; congr 2; omega
    · show s + szT k' + szTs ks = s + (szT k' + szTs ks); omega
def rowOf (x : LRow) : Row := (x.1, ruleT x.2.1, x.2.2.1, x.2.2.2)
mutual
theorem nodesT_ln : ∀ (t : T) (path : List Nat) (s : Nat), nodesT t path s = (lnod t path s).map rowOf
  | .leaf _, _, _ => rfl
  | .node r ks, path, s => by
    show (path, r, s, s + szTs ks) :: nodesTs ks path 0 s = (_ :: lnods ks path 0 s).map rowOf
    rw [List.map_cons, nodesTs_ln]; rfl
theorem nodesTs_ln : ∀ (ks : List T) (path : List Nat) (i s : Nat), nodesTs ks path i s = (lnods ks path i s).map rowOf
  | [], _, _, _ => rfl
  | k :: ks, path, i, s => by
    show nodesT k _ s ++ nodesTs ks path (i + 1) _ = (lnod k (path ++ [i]) s ++ lnods ks path (i + 1) (s + szT k)).map rowOf
    rw [List.map_append, nodesT_ln, nodesTs_ln]
end
theorem lnod_len (t : T) (path : List Nat) (s : Nat) : (lnod t path s).length = nnT t := by
  have := nodesT_len t path s
  rw [nodesT_ln, List.length_map] at this
  exact this
theorem lnods_len (ks : List T) (path : List Nat) (i s : Nat) : (lnods ks path i s).length = nnTs ks := by
  have := nodesTs_len ks path i s
  rw [nodesTs_ln, List.length_map] at this
  exact this
mutual
theorem lnod_sub : ∀ (t : T) (path : List Nat) (s : Nat) (x : LRow), x ∈ lnod t path s → ∃ p', x.1 = path ++ p' ∧ subT t p' = some x.2.1 ∧ s ≤ x.2.2.1 ∧ x.2.2.1 ≤ x.2.2.2 ∧ x.2.2.2 ≤ s + szT t ∧ p'.length + 1 ≤ dpT t ∧ dpT x.2.1 ≤ dpT t ∧ (∃ r ks, x.2.1 = .node r ks)
  | .leaf _, _, _, x, h => by simp [lnod] at h
  | .node r ks, path, s, x, h => by
    have h : x ∈ (path, .node r ks, s, s + szTs ks) :: lnods ks path 0 s := h
    rcases List.mem_cons.mp h with h | h
    · subst h
      exact ⟨[], by simp, rfl, Nat.le_refl _, Nat.le_add_right _ _, Nat.le_refl _, by show 0 + 1 ≤ dpTs ks + 1; omega, Nat.le_refl _, _, _, rfl⟩
    · obtain ⟨j, p', k, h1, h2, h3, h4, h5, h6, h7, h8, h9⟩ := lnods_sub ks path 0 s x h
      refine ⟨j :: p', by rw [h2, Nat.zero_add], ?_, h4, h5, h6, ?_, ?_, h9⟩
      · show (ks[j]?).bind _ = _
        rw [h1]; exact h3
      · show p'.length + 1 + 1 ≤ dpTs ks + 1; omega
      · show _ ≤ dpTs ks + 1; omega
theorem lnods_sub : ∀ (ks : List T) (path : List Nat) (i s : Nat) (x : LRow), x ∈ lnods ks path i s → ∃ j p' k, ks[j]? = some k ∧ x.1 = path ++ ((i + j) :: p') ∧ subT k p' = some x.2.1 ∧ s ≤ x.2.2.1 ∧ x.2.2.1 ≤ x.2.2.2 ∧ x.2.2.2 ≤ s + szTs ks ∧ p'.length + 1 ≤ dpTs ks ∧ dpT x.2.1 ≤ dpTs ks ∧ (∃ r ks, x.2.1 = .node r ks)
  | [], _, _, _, x, h => by simp [lnods] at h
  | k :: ks, path, i, s, x, h => by
    have h : x ∈ lnod k (path ++ [i]) s ++ lnods ks path (i + 1) (s + szT k) := h
    have ed : dpTs (k :: ks) = max (dpT k) (dpTs ks) := rfl
    have es : szTs (k :: ks) = szT k + szTs ks := rfl
    rcases List.mem_append.mp h with h | h
    · obtain ⟨p', h2, h3, h4, h5, h6, h7, h8, h9⟩ := lnod_sub k _ s x h
      exact ⟨0, p', k, by simp, by rw [h2]; simp, h3, h4, h5, by omega, by omega, by omega, h9⟩
    · obtain ⟨j, p', k', h1, h2, h3, h4, h5, h6, h7, h8, h9⟩ := lnods_sub ks path (i + 1) (s + szT k) x h
      exact ⟨j + 1, p', k', by simpa using h1, by rw [h2, Nat.add_right_comm]; rfl, h3, by omega, h5, by omega, by omega, by omega, h9⟩
end
theorem lnod_top {t : T} {x : LRow} (h : x ∈ lnod t [] 0) : subT t x.1 = some x.2.1 ∧ x.2.2.1 ≤ x.2.2.2 ∧ x.2.2.2 ≤ szT t ∧ x.1.length + 1 ≤ dpT t ∧ dpT x.2.1 ≤ dpT t ∧ (∃ r ks, x.2.1 = .node r ks) := by
  obtain ⟨p', h1, h2, h3, h4, h5, h6, h7, h8⟩ := lnod_sub t [] 0 x h
  rw [List.nil_append] at h1
  subst h1
  exact ⟨h2, h4, by omega, h6, h7, h8⟩
/-- where a stretch goes -/
def mv (a r y s e : Nat) : Option (Nat × Nat) := if e ≤ a then some (s, e) else if a + r ≤ s then some (s + y - r, e + y - r) else none
open Classical in
/-- the old nodes that are candidates for a new one -/
noncomputable def cands (a r y : Nat) (rows : List LRow) (x : LRow) : List (List Nat) := (rows.filter fun o => decide (mv a r y o.2.2.1 o.2.2.2 = some (x.2.2.1, x.2.2.2) ∧ o.2.1 = x.2.1)).map (·.1)
def sRow (a r y : Nat) (o : LRow) : Option LRow := (mv a r y o.2.2.1 o.2.2.2).map fun se => (o.1, o.2.1, se.1, se.2)
open Classical in
noncomputable def hit (x o : LRow) : Bool := decide (o.2.2.1 = x.2.2.1 ∧ o.2.2.2 = x.2.2.2 ∧ o.2.1 = x.2.1)
noncomputable def candL (x : LRow) (rows : List LRow) : List (List Nat) := (rows.filter (hit x)).map (·.1)
theorem cands_eq (a r y : Nat) (x : LRow) : ∀ rows : List LRow, cands a r y rows x = candL x (rows.filterMap (sRow a r y))
  | [] => rfl
  | o :: rows => by
    have ih := cands_eq a r y x rows
    unfold cands at ih ⊢
    rw [List.filter_cons, List.filterMap_cons]
    unfold sRow
    cases h : mv a r y o.2.2.1 o.2.2.2 with
    | none =>
      simp only [Option.map_none]
      rw [if_neg (by simp)]
      exact ih
    | some se =>
      obtain ⟨s, e⟩ := se
      simp only [Option.map_some]
      unfold candL
      rw [List.filter_cons]
      by_cases c : s = x.2.2.1 ∧ e = x.2.2.2 ∧ o.2.1 = x.2.1
      · rw [if_pos (by simp [c]), if_pos (by unfold hit; simp [c])]
        simp only [List.map_cons]
        rw [ih]; rfl
      · rw [if_neg (by simp only [decide_eq_true_eq, Option.some.injEq, Prod.mk.injEq]; exact fun q => c ⟨q.1.1, q.1.2, q.2⟩), if_neg (by unfold hit; simpa using c)]
        exact ih
/-- by the key of rule and stretch -/
def keyR (a r y : Nat) (o : LRow) : Option (Nat × Nat × Nat) := (mv a r y o.2.2.1 o.2.2.2).map fun se => (ruleT o.2.1, se.1, se.2)
def byKey (a r y : Nat) (rows : List LRow) (k : Nat × Nat × Nat) : List LRow := rows.filter fun o => decide (keyR a r y o = some k)
open Classical in
theorem cands_key (a r y : Nat) (rows : List LRow) (x : LRow) : cands a r y rows x = ((byKey a r y rows (ruleT x.2.1, x.2.2.1, x.2.2.2)).filter fun o => decide (o.2.1 = x.2.1)).map (·.1) := by
  unfold cands byKey
  rw [List.filter_filter]
  congr 1
  refine List.filter_congr fun o _ => ?_
  unfold keyR
  cases h : mv a r y o.2.2.1 o.2.2.2 with
  | none => simp
  | some se =>
    obtain ⟨s, e⟩ := se
    by_cases c : o.2.1 = x.2.1
    · simp [c]
    · simp [c]
def under (st : List (List Nat × List Nat)) (p : List Nat) : Bool := st.any fun q => decide (p.take q.2.length = q.2)
noncomputable def kStep (a r y : Nat) (old : List LRow) (st : List (List Nat × List Nat)) (x : LRow) : List (List Nat × List Nat) :=
  if under st x.1 then st else st ++ ((cands a r y old x).take 1).map fun p => (p, x.1)
noncomputable def keptM (a r y : Nat) (old new : List LRow) : List (List Nat × List Nat) := new.foldl (kStep a r y old) []
theorem kStep_len (a r y : Nat) (old : List LRow) (st : List (List Nat × List Nat)) (x : LRow) : (kStep a r y old st x).length ≤ st.length + 1 := by
  unfold kStep
  split
  · omega
  · rw [List.length_append, List.length_map, List.length_take]; omega
theorem kfold_len (a r y : Nat) (old : List LRow) : ∀ (new : List LRow) (st : List (List Nat × List Nat)), (new.foldl (kStep a r y old) st).length ≤ st.length + new.length
  | [], st => by simp
  | x :: new, st => by
    have := kfold_len a r y old new (kStep a r y old st x)
    have := kStep_len a r y old st x
    rw [List.foldl_cons, List.length_cons]; omega
end K38
namespace K38
open PySem L2
/-! ### how the program's data stand in the heap -/
def nS : NT → Str
  | .p => "p"
  | .line => "line"
  | .list => "list"
  | .item => "item"
  | .word => "word"
theorem nS_inj {x y : NT} (h : nS x = nS y) : x = y := by
  cases x <;> cases y <;> first | rfl | exact absurd h (by decide +kernel)
def kdS : Sym → Str
  | .lit _ => "lit"
  | .run _ => "run"
  | .nt _ => "nt"
def vlS : Sym → Str
  | .lit c => ⟨#[c]⟩
  | .run true => "abc"
  | .run false => "0123456789"
  | .nt x => nS x
def SymAt (H : Hp) (a : Addr) (y : Sym) : Prop := H a = some (.tup [.str (kdS y), .str (vlS y)])
def SymsAt (H : Hp) (a : Addr) (ys : List Sym) : Prop := ∃ as : List Addr, H a = some (.lst (as.map V.ref)) ∧ Paired (SymAt H) as ys
def RuleAt (H : Hp) (l : Bool) (a : Addr) (r : Nat) : Prop := ∃ (sa : Addr) (lab : Str), H a = some (.tup [.str "rule", .str (nS (left r)), .str lab, .ref sa]) ∧ SymsAt H sa (syms l r)
def GramAt (H : Hp) (l : Bool) (g : Addr) : Prop := ∃ (rl : Addr) (ras : List Addr), H g = some (.tup [.str "grammar", .str "p", .ref rl]) ∧ H rl = some (.lst (ras.map V.ref)) ∧ Paired (RuleAt H l) ras (List.range 9)
theorem Paired.imp {α β : Type} {F G : α → β → Prop} (f : ∀ a b, F a b → G a b) : ∀ {l₁ : List α} {l₂ : List β}, Paired F l₁ l₂ → Paired G l₁ l₂
  | _, _, .nil => .nil
  | _, _, .cons r t => .cons (f _ _ r) (Paired.imp f t)
theorem Paired.at {α β : Type} {F : α → β → Prop} : ∀ {l₁ : List α} {l₂ : List β} {i : Nat} {b : β}, Paired F l₁ l₂ → l₂[i]? = some b → ∃ a, l₁[i]? = some a ∧ F a b
  | _, _, _, _, .nil, e => by simp at e
  | _, _, 0, _, .cons first _, e => by simp at e; subst e; exact ⟨_, rfl, first⟩
  | _, _, i + 1, b, .cons _ t, e => by
    obtain ⟨a, h1, h2⟩ := Paired.at (i := i) t (by simpa using e)
    exact ⟨a, by simpa using h1, h2⟩
theorem Paired.at' {α β : Type} {F : α → β → Prop} : ∀ {l₁ : List α} {l₂ : List β} {i : Nat} {a : α}, Paired F l₁ l₂ → l₁[i]? = some a → ∃ b, l₂[i]? = some b ∧ F a b
  | _, _, _, _, .nil, e => by simp at e
  | _, _, 0, _, .cons first _, e => by simp at e; subst e; exact ⟨_, rfl, first⟩
  | _, _, i + 1, b, .cons _ t, e => by
    obtain ⟨a, h1, h2⟩ := Paired.at' (i := i) t (by simpa using e)
    exact ⟨a, by simpa using h1, h2⟩
theorem Paired.snoc' {α β : Type} {F : α → β → Prop} {a : α} {b : β} (r : F a b) : ∀ {l₁ : List α} {l₂ : List β}, Paired F l₁ l₂ → Paired F (l₁ ++ [a]) (l₂ ++ [b])
  | _, _, .nil => .cons r .nil
  | _, _, .cons q t => .cons q (Paired.snoc' r t)
/-- the tuples stay -/
def TK (H H' : Hp) : Prop := ∀ a xs, H a = some (.tup xs) → H' a = some (.tup xs)
theorem TK.refl (H : Hp) : TK H H := fun _ _ h => h
theorem TK.trans {H H1 H2 : Hp} (a : TK H H1) (b : TK H1 H2) : TK H H2 := fun c o h => b c o (a c o h)
theorem same_tk {H H' : Hp} (s : Same H H') : TK H H' := fun a xs h => s a _ h
theorem GramAt.same {H H' : Hp} {l : Bool} {g : Addr} (s : Same H H') (h : GramAt H l g) : GramAt H' l g := by
  obtain ⟨rl, ras, h1, h2, h3⟩ := h
  exact ⟨rl, ras, s _ _ h1, s _ _ h2, Paired.imp (fun a r ⟨sa, lab, q1, as, q2, q3⟩ => ⟨sa, lab, s _ _ q1, as, s _ _ q2, Paired.imp (fun b y q => s _ _ q) q3⟩) h3⟩
theorem SymsAt.same {H H' : Hp} {a : Addr} {ys : List Sym} (s : Same H H') (h : SymsAt H a ys) : SymsAt H' a ys := by
  obtain ⟨as, q2, q3⟩ := h
  exact ⟨as, s _ _ q2, Paired.imp (fun b y q => s _ _ q) q3⟩
/-- the r-th rule of a grammar -/
theorem GramAt.rule {H : Hp} {l : Bool} {g : Addr} (h : GramAt H l g) {r : Nat} (hr : r < 9) : ∃ rl vs ra sa lab, H g = some (.tup [.str "grammar", .str "p", .ref rl]) ∧ H rl = some (.lst vs) ∧ atI vs (r : Int) = some (.ref ra) ∧
    H ra = some (.tup [.str "rule", .str (nS (left r)), .str lab, .ref sa]) ∧ SymsAt H sa (syms l r) := by
  obtain ⟨rl, ras, h1, h2, h3⟩ := h
  obtain ⟨ra, q1, sa, lab, q2, q3⟩ := Paired.at h3 (show (List.range 9)[r]? = some r by rw [List.getElem?_range hr])
  exact ⟨rl, _, ra, sa, lab, h1, h2, atI_nat (by rw [List.getElem?_map, q1] <;> rfl), q2, q3⟩
/-- an item of a row -/
def kI (x : I3) : List Key := [.inl (x.1 : Int), .inl (x.2.1 : Int), .inl (x.2.2 : Int)]
theorem kI_inj {x y : I3} (h : kI x = kI y) : x = y := by
  obtain ⟨a, b, c⟩ := x
  obtain ⟨d, e, f⟩ := y
  simp [kI] at h
  obtain ⟨h1, h2, h3⟩ := h
  have h1 : a = d := by exact_mod_cast h1
  have h2 : b = e := by exact_mod_cast h2
  have h3 : c = f := by exact_mod_cast h3
  subst h1 h2 h3; rfl
def tI (x : I3) : HO := .tup [.int (x.1 : Nat), .int (x.2.1 : Nat), .int (x.2.2 : Nat)]
theorem tI_k (x : I3) : tI x = .tup ((kI x).map kV) := rfl
def ItAt (H : Hp) (v : V) (x : I3) : Prop := ∃ a, v = .ref a ∧ H a = some (tI x)
abbrev Its (H : Hp) : List V → List I3 → Prop := Paired (ItAt H)
theorem Its.tk {H H' : Hp} {vs : List V} {xs : List I3} (s : TK H H') (h : Its H vs xs) : Its H' vs xs := Paired.imp (fun _ _ ⟨a, e, q⟩ => ⟨a, e, s a _ q⟩) h
/-- the fields of a Spans -/
def spFv (g : Addr) (z : Str) (em bn ro st th wa : Addr) (v : V) : List (Str × V) :=
  [("grammar", .ref g), ("text", .str z), ("empty", .ref em), ("by_name", .ref bn), ("rows", .ref ro), ("states", .ref st), ("there", .ref th), ("waiting", .ref wa), ("made", v)]
def spF (g : Addr) (z : Str) (em bn ro st th wa : Addr) (md : Nat) : List (Str × V) := spFv g z em bn ro st th wa (.int (md : Nat))
section
variable {g em bn ro st th wa : Addr} {z : Str} {md : Nat}
theorem spF_1 : (spF g z em bn ro st th wa md).lookup ("grammar" : Str) = some (.ref g) := by rfl
theorem spF_2 : (spF g z em bn ro st th wa md).lookup ("text" : Str) = some (.str z) := by rfl
theorem spF_3 : (spF g z em bn ro st th wa md).lookup ("empty" : Str) = some (.ref em) := by rfl
theorem spF_4 : (spF g z em bn ro st th wa md).lookup ("by_name" : Str) = some (.ref bn) := by rfl
theorem spF_5 : (spF g z em bn ro st th wa md).lookup ("rows" : Str) = some (.ref ro) := by rfl
theorem spF_6 : (spF g z em bn ro st th wa md).lookup ("states" : Str) = some (.ref st) := by rfl
theorem spF_7 : (spF g z em bn ro st th wa md).lookup ("there" : Str) = some (.ref th) := by rfl
theorem spF_8 : (spF g z em bn ro st th wa md).lookup ("waiting" : Str) = some (.ref wa) := by rfl
theorem spF_9 : (spF g z em bn ro st th wa md).lookup ("made" : Str) = some (.int md) := by rfl
end
/-! ### a Spans object: its own addresses by role -/
inductive Role where
  | sp | dx | em | bn | bl (x : NT) | ro | st | th | wa
  | roA (i : Nat) | stA (i : Nat) | thA (i : Nat) | waA (i : Nat) | roL (i : Nat) (x : NT) | waL (i : Nat) (x : NT)
  deriving DecidableEq
def allN : List NT := [.p, .line, .list, .item, .word]
theorem allN_all (x : NT) : x ∈ allN := by cases x <;> simp [allN]
theorem nt_few {ks : List NT} (h : ks.Nodup) : ks.length ≤ 5 := nodup_len (m := allN) h fun x _ => allN_all x
def isUsed (n : Nat) (S : SS) : Role → Prop
  | .roA i => i ≤ n
  | .stA i => i ≤ n
  | .thA i => i ≤ n
  | .waA i => i ≤ n
  | .roL i x => i ≤ n ∧ (S.rw i x).isSome = true
  | .waL i x => i ≤ n ∧ (S.wt i x).isSome = true
  | _ => True
structure Pm where
  C : Addr
  g : Addr
  z : Str
  ad : Role → Addr
def Pm.n (p : Pm) : Nat := p.z.length
def dkO (ks : List NT) (f : NT → Addr) : HO := .dK (ks.map fun x => ((.inr (nS x) : Key), V.ref (f x)))
def Cont (p : Pm) (S : SS) (th : Nat → List I3) (H : Hp) : Role → HO → Prop
  | .sp, o => o = .ins p.C (p.ad .dx) (spF p.g p.z (p.ad .em) (p.ad .bn) (p.ad .ro) (p.ad .st) (p.ad .th) (p.ad .wa) S.md)
  | .dx, o => o = .own (p.ad .sp)
  | .em, o => o = .lst [.str "p"]
  | .bn, o => o = dkO allN fun x => p.ad (.bl x)
  | .bl x, o => o = .lst ((byN x).map fun r => V.int (r : Nat))
  | .ro, o => o = .lst ((List.range (p.n + 1)).map fun i => V.ref (p.ad (.roA i)))
  | .st, o => o = .lst ((List.range (p.n + 1)).map fun i => V.ref (p.ad (.stA i)))
  | .th, o => o = .lst ((List.range (p.n + 1)).map fun i => V.ref (p.ad (.thA i)))
  | .wa, o => o = .lst ((List.range (p.n + 1)).map fun i => V.ref (p.ad (.waA i)))
  | .roA i, o => ∃ ks : List NT, ks.Nodup ∧ (∀ x, x ∈ ks ↔ (S.rw i x).isSome = true) ∧ o = dkO ks fun x => p.ad (.roL i x)
  | .waA i, o => ∃ ks : List NT, ks.Nodup ∧ (∀ x, x ∈ ks ↔ (S.wt i x).isSome = true) ∧ o = dkO ks fun x => p.ad (.waL i x)
  | .stA i, o => ∃ vs, Its H vs (S.st i) ∧ o = .lst vs
  | .thA i, o => o = .dT ((th i).map fun x => (kI x, V.bl true))
  | .roL i x, o => ∃ es, S.rw i x = some es ∧ o = .lst (es.map fun e => V.int (e : Nat))
  | .waL i x, o => ∃ ys vs, S.wt i x = some ys ∧ Its H vs ys ∧ o = .lst vs
structure Rep (p : Pm) (S : SS) (th : Nat → List I3) (H : Hp) : Prop where
  inj : ∀ a b, isUsed p.n S a → isUsed p.n S b → p.ad a = p.ad b → a = b
  at_ : ∀ r, isUsed p.n S r → ∃ o, H (p.ad r) = some o ∧ Cont p S th H r o
theorem Cont.tk {p S th H H' r o} (s : TK H H') (h : Cont p S th H r o) : Cont p S th H' r o := by
  cases r with
  | stA i => obtain ⟨vs, h1, h2⟩ := h; exact ⟨vs, h1.tk s, h2⟩
  | waL i x => obtain ⟨ys, vs, h0, h1, h2⟩ := h; exact ⟨ys, vs, h0, h1.tk s, h2⟩
  | _ => exact h
theorem Cont.notTup {p S th H r o} (h : Cont p S th H r o) : ∀ xs, o ≠ .tup xs := by
  intro xs e
  subst e
  cases r with
  | stA i => obtain ⟨vs, h1, h2⟩ := h; cases h2
  | waL i x => obtain ⟨ys, vs, h0, h1, h2⟩ := h; cases h2
  | roL i x => obtain ⟨ys, h0, h2⟩ := h; cases h2
  | roA i => obtain ⟨ks, _, _, h2⟩ := h; cases h2
  | waA i => obtain ⟨ks, _, _, h2⟩ := h; cases h2
  | sp => exact nomatch (show HO.tup xs = _ from h)
  | dx => exact nomatch (show HO.tup xs = _ from h)
  | em => exact nomatch (show HO.tup xs = _ from h)
  | bn => exact nomatch (show HO.tup xs = _ from h)
  | bl x => exact nomatch (show HO.tup xs = _ from h)
  | ro => exact nomatch (show HO.tup xs = _ from h)
  | st => exact nomatch (show HO.tup xs = _ from h)
  | th => exact nomatch (show HO.tup xs = _ from h)
  | wa => exact nomatch (show HO.tup xs = _ from h)
  | thA i => exact nomatch (show HO.tup xs = _ from h)
/-- an object that is no tuple is replaced: the tuples stay -/
theorem TK.upd {H : Hp} {a : Addr} {o u : HO} (h : H a = some o) (hn : ∀ xs, o ≠ .tup xs) : TK H (upd H a u) := fun b xs e => by
  rw [upd_ne (fun q => by subst q; rw [h] at e; exact hn xs (Option.some.inj e))]
  exact e
theorem TK.new {H : Hp} {a : Addr} {u : HO} (h : H a = none) : TK H (L2.upd H a u) := same_tk (Same.new h)
/-- one object changes, the addresses stay -/
theorem Rep.upd {p S th H} (R : Rep p S th H) {S' : SS} {th' : Nat → List I3} {r : Role} {o' : HO} (hr : isUsed p.n S r) (hu : ∀ q, isUsed p.n S' q ↔ isUsed p.n S q)
    (hc : ∀ q o, q ≠ r → isUsed p.n S q → Cont p S th H q o → Cont p S' th' H q o) (hn : ∀ H', TK H H' → Cont p S' th' H' r o') : Rep p S' th' (L2.upd H (p.ad r) o') := by
  obtain ⟨o, ho, hco⟩ := R.at_ r hr
  have tk : TK H (L2.upd H (p.ad r) o') := TK.upd ho hco.notTup
  refine ⟨fun a b ha hb e => R.inj a b ((hu a).mp ha) ((hu b).mp hb) e, fun q hq => ?_⟩
  by_cases e : q = r
  · subst e; exact ⟨o', upd_same, hn _ tk⟩
  · have hq' := (hu q).mp hq
    obtain ⟨u, h1, h2⟩ := R.at_ q hq'
    have ne : p.ad q ≠ p.ad r := fun z => e (R.inj q r hq' hr z)
    exact ⟨u, by rw [upd_ne ne]; exact h1, (hc q u e hq' h2).tk tk⟩
/-- nothing of it changes -/
theorem Rep.keep {p S th H H'} (R : Rep p S th H) (k : ∀ r, isUsed p.n S r → ∀ o, H (p.ad r) = some o → H' (p.ad r) = some o) (tk : TK H H') : Rep p S th H' :=
  ⟨R.inj, fun r hr => by obtain ⟨o, h1, h2⟩ := R.at_ r hr; exact ⟨o, k r hr o h1, h2.tk tk⟩⟩
theorem Rep.same {p S th H H'} (R : Rep p S th H) (s : Same H H') : Rep p S th H' := R.keep (fun _ _ o h => s _ o h) (same_tk s)
def setR (ad : Role → Addr) (r : Role) (a : Addr) : Role → Addr := fun q => if q = r then a else ad q
theorem setR_same {ad r a} : setR ad r a r = a := by simp [setR]
theorem setR_ne {ad r a q} (h : q ≠ r) : setR ad r a q = ad q := by simp [setR, h]
/-- one role gets a new address w (its object stands there already), and the object of another role r changes -/
theorem Rep.move {p S th H} (R : Rep p S th H) {S' : SS} {th' : Nat → List I3} {r q0 : Role} {w : Addr} {o' ow : HO} (hr : isUsed p.n S r) (hrq : r ≠ q0) (hu : ∀ q, q ≠ q0 → (isUsed p.n S' q ↔ isUsed p.n S q))
    (hw : ∀ q, isUsed p.n S q → p.ad q ≠ w) (how : H w = some ow)
    (hc : ∀ q o, q ≠ r → q ≠ q0 → isUsed p.n S q → Cont p S th H q o → Cont { p with ad := setR p.ad q0 w } S' th' H q o)
    (hn : ∀ H', TK H H' → Cont { p with ad := setR p.ad q0 w } S' th' H' r o') (hn0 : ∀ H', TK H H' → Cont { p with ad := setR p.ad q0 w } S' th' H' q0 ow) :
    Rep { p with ad := setR p.ad q0 w } S' th' (L2.upd H (p.ad r) o') := by
  obtain ⟨o, ho, hco⟩ := R.at_ r hr
  have tk : TK H (L2.upd H (p.ad r) o') := TK.upd ho hco.notTup
  refine ⟨fun a b ha hb e => ?_, fun q hq => ?_⟩
  · by_cases ea : a = q0
    · by_cases eb : b = q0
      · rw [ea, eb]
      · have e : setR p.ad q0 w a = setR p.ad q0 w b := e
        rw [ea, setR_same, setR_ne eb] at e
        exact absurd e.symm (hw b ((hu b eb).mp hb))
    · by_cases eb : b = q0
      · have e : setR p.ad q0 w a = setR p.ad q0 w b := e
        rw [eb, setR_same, setR_ne ea] at e
        exact absurd e (hw a ((hu a ea).mp ha))
      · have e : setR p.ad q0 w a = setR p.ad q0 w b := e
        rw [setR_ne ea, setR_ne eb] at e
        exact R.inj a b ((hu a ea).mp ha) ((hu b eb).mp hb) e
  · by_cases e0 : q = q0
    · subst e0
      refine ⟨ow, ?_, hn0 _ tk⟩
      show L2.upd H (p.ad r) o' (setR p.ad q w q) = _
      rw [setR_same, upd_ne (Ne.symm (hw r hr))]
      exact how
    · have ea : setR p.ad q0 w q = p.ad q := setR_ne e0
      show ∃ o, L2.upd H (p.ad r) o' (setR p.ad q0 w q) = some o ∧ _
      rw [ea]
      by_cases e : q = r
      · subst e; exact ⟨o', upd_same, hn _ tk⟩
      · have hq' := (hu q e0).mp hq
        obtain ⟨u, h1, h2⟩ := R.at_ q hq'
        have ne : p.ad q ≠ p.ad r := fun z => e (R.inj q r hq' hr z)
        exact ⟨u, by rw [upd_ne ne]; exact h1, (hc q u e e0 hq' h2).tk tk⟩
/-- a Spans at ad .sp over the frame H0: all else stands as in H0 -/
structure SpA (C g : Addr) (z : Str) (H0 H : Hp) (ad : Role → Addr) (S : SS) : Prop where
  same : Same H0 H
  own : ∀ r, isUsed z.length S r → H0 (ad r) = none
  rep : Rep ⟨C, g, z, ad⟩ S S.st H
def AdExt (n : Nat) (S : SS) (ad ad' : Role → Addr) : Prop := ∀ r, isUsed n S r → ad' r = ad r
theorem AdExt.refl {n S ad} : AdExt n S ad ad := fun _ _ => rfl
theorem AdExt.trans {n S S1 ad ad1 ad2} (a : AdExt n S ad ad1) (b : AdExt n S1 ad1 ad2) (u : ∀ r, isUsed n S r → isUsed n S1 r) : AdExt n S ad ad2 := fun r hr => (b r (u r hr)).trans (a r hr)
/-- the greatest frame -/
noncomputable def outF (n : Nat) (S : SS) (ad : Role → Addr) (H : Hp) : Hp := open Classical in fun a => if ∃ r, isUsed n S r ∧ ad r = a then none else H a
theorem outF_own {n S ad H r} (h : isUsed n S r) : outF n S ad H (ad r) = none := by
  unfold outF; rw [if_pos ⟨r, h, rfl⟩]
theorem outF_same {n S ad H} : Same (outF n S ad H) H := fun a o h => by
  unfold outF at h
  split at h
  · cases h
  · exact h
theorem outF_keep {n S ad H a o} (h : H a = some o) (hn : ∀ r, isUsed n S r → ad r ≠ a) : outF n S ad H a = some o := by
  unfold outF
  rw [if_neg (fun ⟨r, h1, h2⟩ => hn r h1 h2)]
  exact h
theorem outF_sub {n S ad H H0} (s : Same H0 H) (hn : ∀ r, isUsed n S r → H0 (ad r) = none) : Same H0 (outF n S ad H) := fun a o h => outF_keep (s a o h) fun r hr e => by rw [← e, hn r hr] at h; cases h
/-- over its greatest frame; what is a tuple stands in it -/
theorem SpA.max {C g z H0 H ad S} (A : SpA C g z H0 H ad S) : ∃ M, Same H0 M ∧ SpA C g z M H ad S ∧ TK H M := by
  obtain ⟨s, hn, R⟩ := A
  refine ⟨outF z.length S ad H, outF_sub s hn, ⟨outF_same, fun r hr => outF_own hr, R⟩, fun a xs h => outF_keep h fun r hr q => ?_⟩
  obtain ⟨o, h1, h2⟩ := R.at_ r hr
  have h1 : H (ad r) = some o := h1
  rw [q, h] at h1
  exact h2.notTup xs (Option.some.inj h1).symm
theorem SpA.down {C g z H0 H1 H ad S} (A : SpA C g z H1 H ad S) (s : Same H0 H1) : SpA C g z H0 H ad S :=
  ⟨s.trans A.same, fun r hr => s.free (A.own r hr), A.rep⟩
/-- a new object beside it -/
theorem SpA.new {C g z H0 H ad S} (A : SpA C g z H0 H ad S) {a : Addr} {o : HO} (ha : H a = none) : SpA C g z (upd H0 a o) (upd H a o) ad S := by
  obtain ⟨s, hn, R⟩ := A
  refine ⟨fun b u h => ?_, fun r hr => ?_, R.same (Same.new ha)⟩
  · by_cases q : b = a
    · subst q; rw [upd_same] at h ⊢; exact h
    · rw [upd_ne q] at h ⊢; exact s b u h
  · obtain ⟨u, h1, _⟩ := R.at_ r hr
    have ne : ad r ≠ a := ne_of_none h1 ha
    rw [upd_ne ne]; exact hn r hr
/-- new objects beside it -/
theorem SpA.more {C g z H0 H H' ad S} (A : SpA C g z H0 H ad S) (s : Same H H') : SpA C g z H0 H' ad S := ⟨A.same.trans s, A.own, A.rep.same s⟩
section
variable {p : Pm} {S : SS} {th : Nat → List I3} {H : Hp}
theorem Rep.gSp (R : Rep p S th H) : H (p.ad .sp) = some (.ins p.C (p.ad .dx) (spF p.g p.z (p.ad .em) (p.ad .bn) (p.ad .ro) (p.ad .st) (p.ad .th) (p.ad .wa) S.md)) := by obtain ⟨o, h1, h2⟩ := R.at_ .sp trivial; rw [h1, show o = _ from h2]
theorem Rep.gEm (R : Rep p S th H) : H (p.ad .em) = some (.lst [.str "p"]) := by obtain ⟨o, h1, h2⟩ := R.at_ .em trivial; rw [h1, show o = _ from h2]
theorem Rep.gBn (R : Rep p S th H) : H (p.ad .bn) = some (dkO allN fun x => p.ad (.bl x)) := by obtain ⟨o, h1, h2⟩ := R.at_ .bn trivial; rw [h1, show o = _ from h2]
theorem Rep.gBl (R : Rep p S th H) (x : NT) : H (p.ad (.bl x)) = some (.lst ((byN x).map fun r => V.int (r : Nat))) := by obtain ⟨o, h1, h2⟩ := R.at_ (.bl x) trivial; rw [h1, show o = _ from h2]
theorem Rep.gRo (R : Rep p S th H) : H (p.ad .ro) = some (.lst ((List.range (p.n + 1)).map fun i => V.ref (p.ad (.roA i)))) := by obtain ⟨o, h1, h2⟩ := R.at_ .ro trivial; rw [h1, show o = _ from h2]
theorem Rep.gSt (R : Rep p S th H) : H (p.ad .st) = some (.lst ((List.range (p.n + 1)).map fun i => V.ref (p.ad (.stA i)))) := by obtain ⟨o, h1, h2⟩ := R.at_ .st trivial; rw [h1, show o = _ from h2]
theorem Rep.gTh (R : Rep p S th H) : H (p.ad .th) = some (.lst ((List.range (p.n + 1)).map fun i => V.ref (p.ad (.thA i)))) := by obtain ⟨o, h1, h2⟩ := R.at_ .th trivial; rw [h1, show o = _ from h2]
theorem Rep.gWa (R : Rep p S th H) : H (p.ad .wa) = some (.lst ((List.range (p.n + 1)).map fun i => V.ref (p.ad (.waA i)))) := by obtain ⟨o, h1, h2⟩ := R.at_ .wa trivial; rw [h1, show o = _ from h2]
theorem Rep.gRoA (R : Rep p S th H) {i : Nat} (hi : i ≤ p.n) : ∃ ks : List NT, ks.Nodup ∧ (∀ x, x ∈ ks ↔ (S.rw i x).isSome = true) ∧ H (p.ad (.roA i)) = some (dkO ks fun x => p.ad (.roL i x)) := by
  obtain ⟨o, h1, ks, h2, h3, h4⟩ := R.at_ (.roA i) hi
  exact ⟨ks, h2, h3, by rw [h1, h4]⟩
theorem Rep.gWaA (R : Rep p S th H) {i : Nat} (hi : i ≤ p.n) : ∃ ks : List NT, ks.Nodup ∧ (∀ x, x ∈ ks ↔ (S.wt i x).isSome = true) ∧ H (p.ad (.waA i)) = some (dkO ks fun x => p.ad (.waL i x)) := by
  obtain ⟨o, h1, ks, h2, h3, h4⟩ := R.at_ (.waA i) hi
  exact ⟨ks, h2, h3, by rw [h1, h4]⟩
theorem Rep.gStA (R : Rep p S th H) {i : Nat} (hi : i ≤ p.n) : ∃ vs, Its H vs (S.st i) ∧ H (p.ad (.stA i)) = some (.lst vs) := by
  obtain ⟨o, h1, vs, h2, h3⟩ := R.at_ (.stA i) hi
  exact ⟨vs, h2, by rw [h1, h3]⟩
theorem Rep.gThA (R : Rep p S th H) {i : Nat} (hi : i ≤ p.n) : H (p.ad (.thA i)) = some (.dT ((th i).map fun x => (kI x, V.bl true))) := by
  obtain ⟨o, h1, h3⟩ := R.at_ (.thA i) hi
  rw [h1, show o = _ from h3]
theorem Rep.gRoL (R : Rep p S th H) {i : Nat} {x : NT} {es : List Nat} (hi : i ≤ p.n) (he : S.rw i x = some es) : H (p.ad (.roL i x)) = some (.lst (es.map fun e => V.int (e : Nat))) := by
  obtain ⟨o, h1, es', h2, h3⟩ := R.at_ (.roL i x) ⟨hi, by rw [he]; rfl⟩
  rw [he] at h2; cases h2
  rw [h1, h3]
theorem Rep.gWaL (R : Rep p S th H) {i : Nat} {x : NT} {ys : List I3} (hi : i ≤ p.n) (he : S.wt i x = some ys) : ∃ vs, Its H vs ys ∧ H (p.ad (.waL i x)) = some (.lst vs) := by
  obtain ⟨o, h1, es', vs, h2, h3, h4⟩ := R.at_ (.waL i x) ⟨hi, by rw [he]; rfl⟩
  rw [he] at h2; cases h2
  exact ⟨vs, h3, by rw [h1, h4]⟩
end
theorem valV_dk {ks : List NT} {f : NT → Addr} {x : NT} : valV (ks.map fun x => ((.inr (nS x) : Key), V.ref (f x))) (.inr (nS x)) = if x ∈ ks then some (.ref (f x)) else none := by
  induction ks with
  | nil => simp [valV_nil]
  | cons y ks ih =>
    rw [List.map_cons]
    by_cases e : y = x
    · subst e
      rw [valV_pos rfl, if_pos (by simp)]
    · rw [valV_neg (by intro q; exact e (nS_inj (Sum.inr.inj q))), ih]
      have : (x ∈ y :: ks) ↔ x ∈ ks := by simp [Ne.symm e]
      by_cases c : x ∈ ks
      · rw [if_pos c, if_pos (this.mpr c)]
      · rw [if_neg c, if_neg (fun q => c (this.mp q))]
theorem valV_th {xs : List I3} {x : I3} : valV (xs.map fun x => (kI x, V.bl true)) (kI x) = if x ∈ xs then some (.bl true) else none := by
  induction xs with
  | nil => simp [valV_nil]
  | cons y ks ih =>
    rw [List.map_cons]
    by_cases e : y = x
    · subst e
      rw [valV_pos rfl, if_pos (by simp)]
    · rw [valV_neg (by intro q; exact e (kI_inj q)), ih]
      have : (x ∈ y :: ks) ↔ x ∈ ks := by simp [Ne.symm e]
      by_cases c : x ∈ ks
      · rw [if_pos c, if_pos (this.mpr c)]
      · rw [if_neg c, if_neg (fun q => c (this.mp q))]
structure SpF (K : PySem.W.Frag) (C : Addr) : Prop where
  cl : Cls K C
  n1 : NoAttr K C "grammar"
  n2 : NoAttr K C "text"
  n3 : NoAttr K C "empty"
  n4 : NoAttr K C "by_name"
  n5 : NoAttr K C "rows"
  n6 : NoAttr K C "states"
  n7 : NoAttr K C "there"
  n8 : NoAttr K C "waiting"
  n9 : NoAttr K C "made"
theorem TX.spF {K : PySem.W.Frag} {mg : Str → Option Value} (T : TX K mg) : SpF K T.C_Spans := ⟨T.cl_Spans, T.n_Spans_grammar, T.n_Spans_text, T.n_Spans_empty, T.n_Spans_by_name, T.n_Spans_rows, T.n_Spans_states, T.n_Spans_there, T.n_Spans_waiting, T.n_Spans_made⟩
/-- behind new objects: the greatest frame holds them -/
theorem SpA.after {C g z H0 H H1 ad S} (A : SpA C g z H0 H ad S) (s : Same H H1) : ∃ M, Same H0 M ∧ SpA C g z M H1 ad S ∧ TK H1 M ∧ ∀ a o, H1 a = some o → H a = none → M a = some o := by
  have A1 := A.more s
  obtain ⟨s1, hn, R⟩ := A1
  refine ⟨outF z.length S ad H1, outF_sub s1 hn, ⟨outF_same, fun r hr => outF_own hr, R⟩, fun a xs h => outF_keep h fun r hr q => ?_, fun a o h hf => outF_keep h fun r hr q => ?_⟩
  · obtain ⟨o, h1, h2⟩ := R.at_ r hr
    have h1 : H1 (ad r) = some o := h1
    rw [q, h] at h1
    exact h2.notTup xs (Option.some.inj h1).symm
  · obtain ⟨o, h1, h2⟩ := A.rep.at_ r hr
    have h1 : H (ad r) = some o := h1
    rw [q, hf] at h1; cases h1
/-! ### a name's new, empty list in a dict of position i -/
theorem dk_snoc {ks : List NT} {x : NT} {ad : Role → Addr} {q : Addr} (f : NT → Role) (hf : ∀ a b, f a = f b → a = b) (hx : x ∉ ks) :
    HO.dK (putK (ks.map fun y => ((.inr (nS y) : Key), V.ref (ad (f y)))) (.inr (nS x)) (.ref q)) = dkO (ks ++ [x]) fun y => setR ad (f x) q (f y) := by
  rw [putK_new _ (by rw [valV_dk, if_neg hx])]
  unfold dkO
  rw [List.map_append]
  congr 2
  · refine List.map_congr_left fun y hy => ?_
    have : f y ≠ f x := fun e => hx (by rw [← hf _ _ e]; exact hy)
    show _ = ((.inr (nS y) : Key), V.ref (setR ad (f x) q (f y)))
    rw [setR_ne this]
  · simp [setR_same]
theorem SpA.fresh {C g z H0 H ad S q} (A : SpA C g z H0 H ad S) (hq : H q = none) : ∀ p, isUsed z.length S p → ad p ≠ q := fun p hp e => by
  obtain ⟨o, h1, _⟩ := A.rep.at_ p hp
  have h1 : H (ad p) = some o := h1
  rw [e, hq] at h1; cases h1
theorem nodup_snoc {ks : List NT} {x : NT} (h : ks.Nodup) (hx : x ∉ ks) : (ks ++ [x]).Nodup := by
  refine List.nodup_append.mpr ⟨h, by simp, fun a ha b hb e => ?_⟩
  have : b = x := by simpa using hb
  subst this; subst e; exact hx ha
theorem SpA.newRo {C g z H0 H ad S q i x} {ks : List NT} (A : SpA C g z H0 H ad S) (hq : H q = none) (hi : i ≤ z.length) (hn : S.rw i x = none) (k1 : ks.Nodup) (k2 : ∀ x, x ∈ ks ↔ (S.rw i x).isSome = true)
    (h : H (ad (.roA i)) = some (dkO ks fun x => ad (.roL i x))) :
    SpA C g z H0 (upd (upd H q (.lst [])) (ad (.roA i)) (.dK (putK (ks.map fun y => ((.inr (nS y) : Key), V.ref (ad (.roL i y)))) (.inr (nS x)) (.ref q)))) (setR ad (.roL i x) q) { S with rw := setB S.rw i x (some []) } ∧
    AdExt z.length S ad (setR ad (.roL i x) q) := by
  have hx : x ∉ ks := fun c => by have := (k2 x).mp c; rw [hn] at this; cases this
  have A1 := A.new (o := .lst []) hq
  have ne : ∀ p', p' ≠ .roL i x → setR ad (.roL i x) q p' = ad p' := fun p' h => setR_ne h
  rw [dk_snoc (.roL i) (fun a b e => by cases e; rfl) hx]
  have R1 := A1.rep.move (S' := { S with rw := setB S.rw i x (some []) }) (th' := S.st) (r := .roA i) (q0 := .roL i x) (w := q) (o' := dkO (ks ++ [x]) fun y => setR ad (.roL i x) q (.roL i y)) (ow := .lst []) hi (by intro e; cases e)
    (fun p hp => by
      cases p with
      | roL i' y =>
        have : ¬ (i' = i ∧ y = x) := fun e => hp (by rw [e.1, e.2])
        show (i' ≤ _ ∧ (setB S.rw i x (some []) i' y).isSome = true) ↔ _
        rw [setB_ne this]; exact Iff.rfl
      | _ => exact Iff.rfl) (A.fresh hq) upd_same
    (fun p o h1 h2 hu hc => by
      cases p with
      | roA i' =>
        have hi' : i' ≠ i := fun e => h1 (by rw [e])
        obtain ⟨ks', k1, k2, k3⟩ := hc
        refine ⟨ks', k1, fun y => ?_, ?_⟩
        · show _ ↔ (setB S.rw i x (some []) i' y).isSome = true
          rw [setB_ne (fun e => hi' e.1)]; exact k2 y
        · rw [k3]
          show dkO ks' (fun x => ad (.roL i' x)) = dkO ks' fun y => setR ad (.roL i x) q (.roL i' y)
          congr 1; funext y
          exact (ne _ (fun e => hi' (by cases e; rfl))).symm
      | roL i' y =>
        have : ¬ (i' = i ∧ y = x) := fun e => h2 (by rw [e.1, e.2])
        obtain ⟨es, k1, k2⟩ := hc
        refine ⟨es, ?_, k2⟩
        show setB S.rw i x (some []) i' y = _
        rw [setB_ne this]; exact k1
      | _ => exact hc)
    (fun H' _ => by
      refine ⟨ks ++ [x], nodup_snoc k1 hx, fun y => ?_, rfl⟩
      show _ ↔ (setB S.rw i x (some []) i y).isSome = true
      by_cases e : y = x
      · subst e; rw [setB_same]; simp
      · rw [setB_ne (fun z => e z.2), ← k2 y]; simp [e])
    (fun H' _ => ⟨[], setB_same, rfl⟩)
  refine ⟨⟨(A.same.trans (Same.new hq)).mut (A.own (.roA i) hi), fun p hp => ?_, R1⟩, fun p hp => ?_⟩
  · by_cases e : p = .roL i x
    · subst e; rw [setR_same]; exact A.same.free hq
    · rw [setR_ne e]
      refine A.own p ?_
      cases p with
      | roL i' y =>
        have : ¬ (i' = i ∧ y = x) := fun q => e (by rw [q.1, q.2])
        have hp : i' ≤ z.length ∧ (setB S.rw i x (some []) i' y).isSome = true := hp
        rw [setB_ne this] at hp; exact hp
      | _ => exact hp
  · refine setR_ne fun e => ?_
    subst e
    have hp : _ ∧ (S.rw i x).isSome = true := hp
    rw [hn] at hp; exact absurd hp.2 (by simp)
theorem SpA.newWa {C g z H0 H ad S q i x} {ks : List NT} (A : SpA C g z H0 H ad S) (hq : H q = none) (hi : i ≤ z.length) (hn : S.wt i x = none) (k1 : ks.Nodup) (k2 : ∀ x, x ∈ ks ↔ (S.wt i x).isSome = true)
    (h : H (ad (.waA i)) = some (dkO ks fun x => ad (.waL i x))) :
    SpA C g z H0 (upd (upd H q (.lst [])) (ad (.waA i)) (.dK (putK (ks.map fun y => ((.inr (nS y) : Key), V.ref (ad (.waL i y)))) (.inr (nS x)) (.ref q)))) (setR ad (.waL i x) q) { S with wt := setB S.wt i x (some []) } ∧
    AdExt z.length S ad (setR ad (.waL i x) q) := by
  have hx : x ∉ ks := fun c => by have := (k2 x).mp c; rw [hn] at this; cases this
  have A1 := A.new (o := .lst []) hq
  have ne : ∀ p', p' ≠ .waL i x → setR ad (.waL i x) q p' = ad p' := fun p' h => setR_ne h
  rw [dk_snoc (.waL i) (fun a b e => by cases e; rfl) hx]
  have R1 := A1.rep.move (S' := { S with wt := setB S.wt i x (some []) }) (th' := S.st) (r := .waA i) (q0 := .waL i x) (w := q) (o' := dkO (ks ++ [x]) fun y => setR ad (.waL i x) q (.waL i y)) (ow := .lst []) hi (by intro e; cases e)
    (fun p hp => by
      cases p with
      | waL i' y =>
        have : ¬ (i' = i ∧ y = x) := fun e => hp (by rw [e.1, e.2])
        show (i' ≤ _ ∧ (setB S.wt i x (some []) i' y).isSome = true) ↔ _
        rw [setB_ne this]; exact Iff.rfl
      | _ => exact Iff.rfl) (A.fresh hq) upd_same
    (fun p o h1 h2 hu hc => by
      cases p with
      | waA i' =>
        have hi' : i' ≠ i := fun e => h1 (by rw [e])
        obtain ⟨ks', k1, k2, k3⟩ := hc
        refine ⟨ks', k1, fun y => ?_, ?_⟩
        · show _ ↔ (setB S.wt i x (some []) i' y).isSome = true
          rw [setB_ne (fun e => hi' e.1)]; exact k2 y
        · rw [k3]
          show dkO ks' (fun x => ad (.waL i' x)) = dkO ks' fun y => setR ad (.waL i x) q (.waL i' y)
          congr 1; funext y
          exact (ne _ (fun e => hi' (by cases e; rfl))).symm
      | waL i' y =>
        have : ¬ (i' = i ∧ y = x) := fun e => h2 (by rw [e.1, e.2])
        obtain ⟨ys, vs, k1, k2, k3⟩ := hc
        refine ⟨ys, vs, ?_, k2, k3⟩
        show setB S.wt i x (some []) i' y = _
        rw [setB_ne this]; exact k1
      | _ => exact hc)
    (fun H' _ => by
      refine ⟨ks ++ [x], nodup_snoc k1 hx, fun y => ?_, rfl⟩
      show _ ↔ (setB S.wt i x (some []) i y).isSome = true
      by_cases e : y = x
      · subst e; rw [setB_same]; simp
      · rw [setB_ne (fun z => e z.2), ← k2 y]; simp [e])
    (fun H' _ => ⟨[], [], setB_same, .nil, rfl⟩)
  refine ⟨⟨(A.same.trans (Same.new hq)).mut (A.own (.waA i) hi), fun p hp => ?_, R1⟩, fun p hp => ?_⟩
  · by_cases e : p = .waL i x
    · subst e; rw [setR_same]; exact A.same.free hq
    · rw [setR_ne e]
      refine A.own p ?_
      cases p with
      | waL i' y =>
        have : ¬ (i' = i ∧ y = x) := fun q => e (by rw [q.1, q.2])
        have hp : i' ≤ z.length ∧ (setB S.wt i x (some []) i' y).isSome = true := hp
        rw [setB_ne this] at hp; exact hp
      | _ => exact hp
  · refine setR_ne fun e => ?_
    subst e
    have hp : _ ∧ (S.wt i x).isSome = true := hp
    rw [hn] at hp; exact absurd hp.2 (by simp)
/-- a row of ends, of waiting items, grows -/
theorem SpA.putRo {C g z H0 H ad S i x} {es es' : List Nat} (A : SpA C g z H0 H ad S) (hi : i ≤ z.length) (h : S.rw i x = some es) :
    SpA C g z H0 (upd H (ad (.roL i x)) (.lst (es'.map fun e : Nat => V.int (e : Nat)))) ad { S with rw := setB S.rw i x (some es') } := by
  have us : ∀ p, isUsed z.length { S with rw := setB S.rw i x (some es') } p ↔ isUsed z.length S p := fun p => by
    cases p with
    | roL i' y =>
      show (i' ≤ _ ∧ (setB S.rw i x (some es') i' y).isSome = true) ↔ _
      by_cases e : i' = i ∧ y = x
      · rw [e.1, e.2, setB_same]
        show _ ↔ (i ≤ z.length ∧ (S.rw i x).isSome = true)
        rw [h]; simp
      · rw [setB_ne e]; exact Iff.rfl
    | _ => exact Iff.rfl
  have hu : isUsed z.length S (.roL i x) := ⟨hi, by rw [h]; rfl⟩
  have R1 := A.rep.upd (S' := { S with rw := setB S.rw i x (some es') }) (th' := S.st) (r := .roL i x) (o' := .lst (es'.map fun e : Nat => V.int (e : Nat))) hu us
    (fun p o h1 hu' hc => by
      cases p with
      | roA i' =>
        obtain ⟨ks', k1, k2, k3⟩ := hc
        refine ⟨ks', k1, fun y => ?_, k3⟩
        rw [k2 y]
        show _ ↔ (setB S.rw i x (some es') i' y).isSome = true
        by_cases e : i' = i ∧ y = x
        · rw [e.1, e.2, setB_same, h]; simp
        · rw [setB_ne e]
      | roL i' y =>
        have : ¬ (i' = i ∧ y = x) := fun e => h1 (by rw [e.1, e.2])
        obtain ⟨es, k1, k2⟩ := hc
        refine ⟨es, ?_, k2⟩
        show setB S.rw i x (some es') i' y = _
        rw [setB_ne this]; exact k1
      | _ => exact hc)
    (fun H' _ => ⟨es', setB_same, rfl⟩)
  exact ⟨A.same.mut (A.own _ hu), fun p hp => A.own p ((us p).mp hp), R1⟩
theorem SpA.putWa {C g z H0 H ad S i x} {ys : List I3} {y0 : I3} {a : Addr} {vs : List V} (A : SpA C g z H0 H ad S) (hi : i ≤ z.length) (h : S.wt i x = some ys) (hv : H (ad (.waL i x)) = some (.lst vs)) (ha : H a = some (tI y0)) :
    SpA C g z H0 (upd H (ad (.waL i x)) (.lst (vs ++ [.ref a]))) ad { S with wt := setB S.wt i x (some (ys ++ [y0])) } := by
  have us : ∀ p, isUsed z.length { S with wt := setB S.wt i x (some (ys ++ [y0])) } p ↔ isUsed z.length S p := fun p => by
    cases p with
    | waL i' y =>
      show (i' ≤ _ ∧ (setB S.wt i x (some (ys ++ [y0])) i' y).isSome = true) ↔ _
      by_cases e : i' = i ∧ y = x
      · rw [e.1, e.2, setB_same]
        show _ ↔ (i ≤ z.length ∧ (S.wt i x).isSome = true)
        rw [h]; simp
      · rw [setB_ne e]; exact Iff.rfl
    | _ => exact Iff.rfl
  have hu : isUsed z.length S (.waL i x) := ⟨hi, by rw [h]; rfl⟩
  obtain ⟨vs', hv1, hv2⟩ := A.rep.gWaL hi h
  have hv2 : H (ad (.waL i x)) = some (.lst vs') := hv2
  rw [hv] at hv2
  cases hv2
  have R1 := A.rep.upd (S' := { S with wt := setB S.wt i x (some (ys ++ [y0])) }) (th' := S.st) (r := .waL i x) (o' := .lst (vs ++ [.ref a])) hu us
    (fun p o h1 hu' hc => by
      cases p with
      | waA i' =>
        obtain ⟨ks', k1, k2, k3⟩ := hc
        refine ⟨ks', k1, fun y => ?_, k3⟩
        rw [k2 y]
        show _ ↔ (setB S.wt i x (some (ys ++ [y0])) i' y).isSome = true
        by_cases e : i' = i ∧ y = x
        · rw [e.1, e.2, setB_same, h]; simp
        · rw [setB_ne e]
      | waL i' y =>
        have : ¬ (i' = i ∧ y = x) := fun e => h1 (by rw [e.1, e.2])
        obtain ⟨es, vs, k1, k2, k3⟩ := hc
        refine ⟨es, vs, ?_, k2, k3⟩
        show setB S.wt i x (some (ys ++ [y0])) i' y = _
        rw [setB_ne this]; exact k1
      | _ => exact hc)
    (fun H' tk => ⟨ys ++ [y0], vs ++ [.ref a], setB_same, Paired.snoc' ⟨a, rfl, tk a _ ha⟩ (hv1.tk tk), rfl⟩)
  exact ⟨A.same.mut (A.own _ hu), fun p hp => A.own p ((us p).mp hp), R1⟩
theorem spF_made {g em bn ro st th wa : Addr} {z : Str} {md : Nat} {v : V} : putF ("made" : Str) v (spF g z em bn ro st th wa md) = spFv g z em bn ro st th wa v := by rfl
theorem SpA.setMade {C g z H0 H ad S} (A : SpA C g z H0 H ad S) (n : Nat) : SpA C g z H0 (upd H (ad .sp) (.ins C (ad .dx) (spF g z (ad .em) (ad .bn) (ad .ro) (ad .st) (ad .th) (ad .wa) n))) ad { S with md := n } := by
  have R1 := A.rep.upd (S' := { S with md := n }) (th' := S.st) (r := .sp) (o' := .ins C (ad .dx) (spF g z (ad .em) (ad .bn) (ad .ro) (ad .st) (ad .th) (ad .wa) n)) trivial (fun p => by cases p <;> exact Iff.rfl)
    (fun p o h1 hu' hc => by
      cases p with
      | sp => exact absurd rfl h1
      | _ => exact hc) (fun H' _ => rfl)
  exact ⟨A.same.mut (A.own .sp trivial), fun p hp => A.own p (by cases p <;> exact hp), R1⟩
theorem SymsAt.len {H : Hp} {a : Addr} {ys : List Sym} (h : SymsAt H a ys) : ∃ vs : List V, H a = some (.lst vs) ∧ vs.length = ys.length ∧ ∀ (j : Nat) (y : Sym), ys[j]? = some y → ∃ b : Addr, vs[j]? = some (V.ref b) ∧ SymAt H b y := by
  obtain ⟨as, h1, h2⟩ := h
  refine ⟨_, h1, by rw [List.length_map]; exact Paired.length h2, fun j y hj => ?_⟩
  obtain ⟨b, q1, q2⟩ := Paired.at h2 hj
  exact ⟨b, by rw [List.getElem?_map, q1]; rfl, q2⟩
/-! ### addresses by the stage at which they were laid -/
def Dm (H H' : Hp) : Prop := ∀ a, H' a = none → H a = none
theorem Dm.refl (H : Hp) : Dm H H := fun _ h => h
theorem Dm.trans {H H1 H2 : Hp} (a : Dm H H1) (b : Dm H1 H2) : Dm H H2 := fun x h => a x (b x h)
theorem Dm.same {H H' : Hp} (s : Same H H') : Dm H H' := fun _ h => s.free h
theorem Dm.upd {H : Hp} {a : Addr} {o : HO} : Dm H (upd H a o) := fun x h => by
  by_cases e : x = a
  · subst e; rw [upd_same] at h; cases h
  · rw [upd_ne e] at h; exact h
theorem stage_le {F : Nat → Hp} (mono : ∀ k, Dm (F k) (F (k + 1))) {a : Addr} {i : Nat} : ∀ j, i ≤ j → F i a ≠ none → F j a ≠ none := by
  intro j
  induction j with
  | zero => intro h q; have : i = 0 := by omega
            subst this; exact q
  | succ j ih =>
    intro h q
    by_cases e : i = j + 1
    · subst e; exact q
    · exact fun z => ih (by omega) q (mono j a z)
theorem stage_inj {F : Nat → Hp} (mono : ∀ k, Dm (F k) (F (k + 1))) {st : Role → Nat} {ad : Role → Addr} {U : Role → Prop} (h1 : ∀ r, U r → F (st r) (ad r) = none) (h2 : ∀ r, U r → F (st r + 1) (ad r) ≠ none)
    (h3 : ∀ a b, U a → U b → st a = st b → ad a = ad b → a = b) : ∀ a b, U a → U b → ad a = ad b → a = b := by
  have key : ∀ a b, U a → U b → ad a = ad b → st a < st b → False := fun a b ha hb e hl => by
    have := stage_le mono (st b) (by omega) (h2 a ha)
    rw [e] at this
    exact this (h1 b hb)
  intro a b ha hb e
  rcases Nat.lt_trichotomy (st a) (st b) with h | h | h
  · exact (key a b ha hb e h).elim
  · exact h3 a b ha hb h e
  · exact (key b a hb ha e.symm h).elim
/-- all but one object stand -/
def SameX (sp : Addr) (H H' : Hp) : Prop := ∀ a o, a ≠ sp → H a = some o → H' a = some o
theorem SameX.of {sp : Addr} {H H' : Hp} (s : Same H H') : SameX sp H H' := fun a o _ h => s a o h
theorem SameX.trans {sp : Addr} {H H1 H2 : Hp} (a : SameX sp H H1) (b : SameX sp H1 H2) : SameX sp H H2 := fun x o n h => b x o n (a x o n h)
theorem SameX.upd {sp : Addr} {H : Hp} {o : HO} : SameX sp H (upd H sp o) := fun x u n h => by rw [upd_ne n]; exact h
/-- [new for _ in range(n)] -/
theorem x_lcNew {te : TE} {v n : Nat} {σ : L2.St} {H : Hp} {Q : VK} {o : HO} (ht : ∀ σ H Q, (∀ p, H p = none → Q (.ref p) (upd H p o)) → te σ H Q) (hw : ∀ x, wipe ((wipe σ [v]).set v (some x)) [v] = wipe σ [v]) (hn : n ≤ 99999)
    (hd : ∀ D H2 (f : Nat → Addr), Same H H2 → H D = none → H2 D = some (.lst ((List.range n).map fun i => V.ref (f i))) → (∀ i, i < n → H2 (f i) = some o ∧ H (f i) = none ∧ f i ≠ D) → (∀ i j, i < n → j < n → f i = f j → i = j) → Q (.ref D) H2) :
    rLcR (gName v) tYes te [v] σ Q [.int (n : Nat)] H := by
  refine ⟨n, rfl, by omega, by omega, fun D hD => ?_⟩
  have e : ((n : Nat) : Int).toNat = n := Int.toNat_natCast n
  rw [e]
  refine lc_range (lo := 0) (fun i H' => ∃ f : Nat → Addr, Same H H' ∧ H' D = some (.lst ((List.range i).map fun i => V.ref (f i))) ∧ (∀ j, j < i → H' (f j) = some o ∧ H (f j) = none ∧ f j ≠ D) ∧ ∀ j k, j < i → k < i → f j = f k → j = k)
    ⟨fun _ => D, Same.new hD, upd_same, fun j hj => absurd hj (by omega), fun j k hj => absurd hj (by omega)⟩ ?_ (fun H' ⟨f, p1, p2, p3, p4⟩ => hd D H' f p1 hD p2 p3 p4)
  rintro i H1 hi ⟨f, p1, p2, p3, p4⟩
  refine x_name ?_
  refine ⟨hw _, ?_⟩
  refine x_yes ?_
  refine iteT ?_
  refine ht _ _ _ fun p hp => ?_
  have hpD : p ≠ D := fun e => by rw [e, p2] at hp; cases hp
  refine ⟨_, look1 p2 hp, by rw [List.length_map, List.length_range]; exact small_ (by omega), fun j => if j = i then p else f j, ?_, ?_, fun j hj => ?_, fun j k hj hk e => ?_⟩
  · exact Same.mut (p1.trans (Same.new hp)) hD
  · rw [upd_same, List.range_succ, List.map_append]
    congr 2
    congr 1
    · refine List.map_congr_left fun j hj => ?_
      have : j ≠ i := by have := List.mem_range.mp hj; omega
      simp [this]
    · simp
  · by_cases e : j = i
    · subst e
      simp only [if_true]
      exact ⟨by rw [upd_ne hpD]; exact upd_same, p1.free hp, hpD⟩
    · simp only [if_neg e]
      obtain ⟨q1, q2, q3⟩ := p3 j (by omega)
      exact ⟨by rw [upd_ne q3]; exact look1 q1 hp, q2, q3⟩
  · have nf : ∀ j, j < i → f j ≠ p := fun j hj e => by have := (p3 j hj).1; rw [e, hp] at this; cases this
    by_cases ej : j = i
    · by_cases ek : k = i
      · rw [ej, ek]
      · simp only [if_pos ej, if_neg ek] at e
        exact absurd e.symm (nf k (by omega))
    · by_cases ek : k = i
      · simp only [if_neg ej, if_pos ek] at e
        exact absurd e (nf j (by omega))
      · simp only [if_neg ej, if_neg ek] at e
        exact p4 j k (by omega) (by omega) e
end K38
namespace K38
open PySem L2
/-! ### texts -/
abbrev tx (z : Str) : List Nat := z.cps.toList
theorem len_tx (z : Str) : z.length = (tx z).length := by simp [tx, Str.length]
theorem tx_ext {x y : Str} (h : tx x = tx y) : x = y := Str.ext' (Array.toList_inj.mp h)
theorem tx_of (u : List Nat) : tx ⟨u.toArray⟩ = u := by simp [tx]
theorem tx_one (c : Nat) : tx ⟨#[c]⟩ = [c] := rfl
theorem tx_app (x y : Str) : tx (x ++ y) = tx x ++ tx y := by
  show (x.cps ++ y.cps).toList = _
  simp [tx]
theorem len_app (x y : Str) : (x ++ y).length = x.length + y.length := by rw [len_tx, tx_app, List.length_append, len_tx, len_tx]
theorem sw_one (z : Str) (c m : Nat) (hm : m ≤ z.length) : Txt.startswith3 z ⟨#[c]⟩ (m : Int) = decide ((tx z)[m]? = some c) := by
  have h := PySem.StrLaws.subAt_one z c m
  unfold Txt.startswith3
  have e : PySem.fromIndex z.length (m : Int) = m := by
    unfold PySem.fromIndex
    split <;> omega
  rw [e]
  by_cases q : (tx z)[m]? = some c
  · obtain ⟨h1, h2⟩ := h.mpr q
    rw [decide_eq_true q, decide_eq_true h1, h2]; rfl
  · rw [decide_eq_false q]
    by_cases h1 : m + (⟨#[c]⟩ : Str).length ≤ z.length
    · rw [decide_eq_true h1]
      cases h2 : Builtin.Str.subAt z ⟨#[c]⟩ m with
      | false => rfl
      | true => exact absurd (h.mp ⟨h1, h2⟩) q
    · rw [decide_eq_false h1]; rfl
theorem sIx_nat' {n d k : Nat} (h : k ≤ n) : HT.sIx n d (some (k : Int)) = k := by rw [HT.sIx_nat]; omega
theorem sIx_big {n d k : Nat} (h : n ≤ k) : HT.sIx n d (some (k : Int)) = n := by rw [HT.sIx_nat]; omega
/-- slices of texts -/
theorem tx_cut {z : Str} {a b : Nat} : tx (cutS z (some (a : Int)) (some (b : Int))) = sl (tx z) a b := by
  unfold cutS
  have hl : z.length = (tx z).length := len_tx z
  rw [tx_of, HT.sIx_nat, HT.sIx_nat, hl, show z.cps.toList = tx z from rfl]
  generalize tx z = u
  unfold sl
  by_cases h1 : a ≤ u.length
  · rw [Nat.min_eq_left h1]
    by_cases h2 : b ≤ u.length
    · rw [Nat.min_eq_left h2]
    · rw [Nat.min_eq_right (by omega), List.take_of_length_le (by rw [List.length_drop]; omega), List.take_of_length_le (by rw [List.length_drop]; omega)]
  · rw [Nat.min_eq_right (show u.length ≤ a by omega), List.drop_eq_nil_of_le (by omega), List.drop_eq_nil_of_le (by omega)]; simp
theorem tx_cutTo {z : Str} {b : Nat} : tx (cutS z none (some (b : Int))) = (tx z).take b := by
  unfold cutS
  have hl : z.length = (tx z).length := len_tx z
  rw [tx_of, HT.sIx_nat, HT.sIx_none, hl, show z.cps.toList = tx z from rfl]
  generalize tx z = u
  by_cases h2 : b ≤ u.length
  · rw [Nat.min_eq_left h2]; simp
  · rw [Nat.min_eq_right (by omega), List.take_of_length_le (by simp), List.take_of_length_le (by omega)]; simp
theorem tx_cutFrom {z : Str} {a : Nat} : tx (cutS z (some (a : Int)) none) = (tx z).drop a := by
  unfold cutS
  have hl : z.length = (tx z).length := len_tx z
  rw [tx_of, HT.sIx_nat, HT.sIx_none, hl, show z.cps.toList = tx z from rfl]
  generalize tx z = u
  by_cases h1 : a ≤ u.length
  · rw [Nat.min_eq_left h1]
    exact List.take_of_length_le (by rw [List.length_drop]; omega)
  · rw [Nat.min_eq_right (by omega), List.drop_eq_nil_of_le (by omega), List.drop_eq_nil_of_le (by omega)]; simp
theorem str_eq_iff {x y : Str} : x = y ↔ tx x = tx y := ⟨fun e => by rw [e], tx_ext⟩
theorem dec_str' {x y : Str} : decide (x = y) = decide (tx x = tx y) := by
  by_cases h : x = y
  · rw [decide_eq_true h, decide_eq_true (str_eq_iff.mp h)]
  · rw [decide_eq_false h, decide_eq_false (fun q => h (tx_ext q))]
/-- a sign of a class -/
theorem isC_abc (c : Nat) : decide (c ∈ tx ("abc" : Str)) = isC true c := by
  have e : tx ("abc" : Str) = [97, 98, 99] := by decide +kernel
  rw [e]
  unfold isC
  by_cases h1 : c = 97 <;> by_cases h2 : c = 98 <;> by_cases h3 : c = 99 <;> simp [h1, h2, h3]
theorem isC_dig (c : Nat) : decide (c ∈ tx ("0123456789" : Str)) = isC false c := by
  have e : tx ("0123456789" : Str) = [48, 49, 50, 51, 52, 53, 54, 55, 56, 57] := by decide +kernel
  rw [e]
  unfold isC
  by_cases h : 48 ≤ c ∧ c ≤ 57
  · have : c = 48 ∨ c = 49 ∨ c = 50 ∨ c = 51 ∨ c = 52 ∨ c = 53 ∨ c = 54 ∨ c = 55 ∨ c = 56 ∨ c = 57 := by omega
    rcases this with h | h | h | h | h | h | h | h | h | h <;> subst h <;> rfl
  · have h' : ¬ (c = 48 ∨ c = 49 ∨ c = 50 ∨ c = 51 ∨ c = 52 ∨ c = 53 ∨ c = 54 ∨ c = 55 ∨ c = 56 ∨ c = 57) := by omega
    rw [decide_eq_false (by simpa using h')]
    simp
    omega
def clsS (b : Bool) : Str := if b then "abc" else "0123456789"
theorem isC_cls (b : Bool) (c : Nat) : decide (c ∈ tx (clsS b)) = isC b c := by
  cases b
  · exact isC_dig c
  · exact isC_abc c
theorem vlS_run (b : Bool) : vlS (.run b) = clsS b := by cases b <;> rfl
theorem atI_tx {z : Str} {m c : Nat} (h : (tx z)[m]? = some c) : atI z.cps.toList (m : Int) = some c := atI_nat h
end K38
namespace K38
open PySem L2
/-! ### a row of states, of waiting items, of ends taken over whole -/
theorem set_map {f : Nat → V} {n m : Nat} {v : V} : ((List.range n).map f).set m v = (List.range n).map fun i => if i = m then v else f i := by
  refine List.ext_getElem? fun i => ?_
  rw [List.getElem?_set]
  simp only [List.getElem?_map, List.length_map, List.length_range]
  by_cases e : m = i
  · subst e
    by_cases c : m < n
    · simp [List.getElem?_range c, c]
    · have : (List.range n)[m]? = none := by rw [List.getElem?_eq_none_iff, List.length_range]; omega
      simp [c, this]
  · rw [if_neg e]
    cases q : (List.range n)[i]? with
    | none => rfl
    | some j =>
      have : j = i := by
        have h := (List.getElem?_eq_some_iff.mp q)
        obtain ⟨h1, h2⟩ := h
        simpa using h2.symm
      subst this
      simp [Ne.symm e]
/-- a dict of names and its lists, laid between two heaps -/
structure NewD (H0 H1 : Hp) (p : Addr) (f : NT → Addr) (U : NT → Prop) : Prop where
  p0 : H0 p = none
  p1 : H1 p ≠ none
  f0 : ∀ x, U x → H0 (f x) = none ∧ H1 (f x) ≠ none ∧ f x ≠ p
  inj : ∀ x y, U x → U y → f x = f y → x = y
def takeA (ad : Role → Addr) (m : Nat) (p1 p2 p3 p4 : Addr) (f3 f4 : NT → Addr) : Role → Addr
  | .stA i => if i = m then p1 else ad (.stA i)
  | .thA i => if i = m then p2 else ad (.thA i)
  | .waA i => if i = m then p3 else ad (.waA i)
  | .roA i => if i = m then p4 else ad (.roA i)
  | .waL i x => if i = m then f3 x else ad (.waL i x)
  | .roL i x => if i = m then f4 x else ad (.roL i x)
  | r => ad r
def takeS (S : SS) (m : Nat) (st' : List I3) (w' : NT → Option (List I3)) (r' : NT → Option (List Nat)) : SS :=
  ⟨fun i => if i = m then st' else S.st i, fun i x => if i = m then w' x else S.wt i x, fun i x => if i = m then r' x else S.rw i x, S.md⟩
/-- the stage at which a role's address was laid -/
def takeT (m : Nat) : Role → Nat
  | .stA i => if i = m then 1 else 0
  | .thA i => if i = m then 2 else 0
  | .waA i => if i = m then 3 else 0
  | .waL i _ => if i = m then 3 else 0
  | .roA i => if i = m then 4 else 0
  | .roL i _ => if i = m then 4 else 0
  | _ => 0
/-- the role is not among the new ones -/
def oldR (m : Nat) : Role → Prop
  | .stA i => i ≠ m
  | .thA i => i ≠ m
  | .waA i => i ≠ m
  | .waL i _ => i ≠ m
  | .roA i => i ≠ m
  | .roL i _ => i ≠ m
  | _ => True
theorem oldR_ad {ad m p1 p2 p3 p4 f3 f4 r} (h : oldR m r) : takeA ad m p1 p2 p3 p4 f3 f4 r = ad r := by
  cases r with
  | stA i => exact if_neg h
  | thA i => exact if_neg h
  | waA i => exact if_neg h
  | roA i => exact if_neg h
  | waL i x => exact if_neg h
  | roL i x => exact if_neg h
  | _ => rfl
theorem oldR_T {m r} (h : oldR m r) : takeT m r = 0 := by
  cases r with
  | stA i => exact if_neg h
  | thA i => exact if_neg h
  | waA i => exact if_neg h
  | roA i => exact if_neg h
  | waL i x => exact if_neg h
  | roL i x => exact if_neg h
  | _ => rfl
theorem oldR_U {n S m st' w' r' r} (h : oldR m r) : isUsed n (takeS S m st' w' r') r ↔ isUsed n S r := by
  cases r with
  | waL i x => show _ ∧ (Option.isSome (if i = m then w' x else S.wt i x) = true) ↔ _; rw [if_neg h]; exact Iff.rfl
  | roL i x => show _ ∧ (Option.isSome (if i = m then r' x else S.rw i x) = true) ↔ _; rw [if_neg h]; exact Iff.rfl
  | _ => exact Iff.rfl
theorem newR_T {m r} (h : ¬ oldR m r) : takeT m r ≠ 0 := by
  cases r with
  | stA i => have e : i = m := Classical.not_not.mp h
             show (if i = m then 1 else 0) ≠ 0; rw [if_pos e]; decide
  | thA i => have e : i = m := Classical.not_not.mp h
             show (if i = m then 2 else 0) ≠ 0; rw [if_pos e]; decide
  | waA i => have e : i = m := Classical.not_not.mp h
             show (if i = m then 3 else 0) ≠ 0; rw [if_pos e]; decide
  | waL i x => have e : i = m := Classical.not_not.mp h
               show (if i = m then 3 else 0) ≠ 0; rw [if_pos e]; decide
  | roA i => have e : i = m := Classical.not_not.mp h
             show (if i = m then 4 else 0) ≠ 0; rw [if_pos e]; decide
  | roL i x => have e : i = m := Classical.not_not.mp h
               show (if i = m then 4 else 0) ≠ 0; rw [if_pos e]; decide
  | _ => exact absurd trivial h
/-- what holds of the new roles one by one -/
theorem new_cases {n S m st' w' r'} {G : Role → Prop} (h1 : G (.stA m)) (h2 : G (.thA m)) (h3 : G (.waA m)) (h4 : G (.roA m)) (h5 : ∀ x, (w' x).isSome = true → G (.waL m x)) (h6 : ∀ x, (r' x).isSome = true → G (.roL m x)) {r : Role} (hu : isUsed n (takeS S m st' w' r') r) (c : ¬ oldR m r) : G r := by
  cases r with
  | stA i => have e : i = m := Classical.not_not.mp c
             subst e; exact h1
  | thA i => have e : i = m := Classical.not_not.mp c
             subst e; exact h2
  | waA i => have e : i = m := Classical.not_not.mp c
             subst e; exact h3
  | roA i => have e : i = m := Classical.not_not.mp c
             subst e; exact h4
  | waL i x =>
    have e : i = m := Classical.not_not.mp c
    subst e
    have hu : i ≤ n ∧ Option.isSome (if i = i then w' x else S.wt i x) = true := hu
    rw [if_pos rfl] at hu
    exact h5 x hu.2
  | roL i x =>
    have e : i = m := Classical.not_not.mp c
    subst e
    have hu : i ≤ n ∧ Option.isSome (if i = i then r' x else S.rw i x) = true := hu
    rw [if_pos rfl] at hu
    exact h6 x hu.2
  | _ => exact absurd trivial c
theorem SpA.take {C g z M H ad S} (A : SpA C g z M H ad S) {m : Nat} (hm : m ≤ z.length) {st' : List I3} {w' : NT → Option (List I3)} {r' : NT → Option (List Nat)} {p1 p2 p3 p4 : Addr} {f3 f4 : NT → Addr} {H1 H2 H3 H4 : Hp} {vs : List V} {k3 k4 : List NT}
    (d1 : Dm H H1) (d2 : Dm H1 H2) (d3 : Dm H2 H3) (d4 : Dm H3 H4) (a1 : H p1 = none) (b1 : H1 p1 ≠ none) (a2 : H1 p2 = none) (b2 : H2 p2 ≠ none) (n3 : NewD H2 H3 p3 f3 fun x => (w' x).isSome = true) (n4 : NewD H3 H4 p4 f4 fun x => (r' x).isSome = true)
    (keep : ∀ a o, H a = some o → a ≠ ad .st → a ≠ ad .th → a ≠ ad .wa → a ≠ ad .ro → H4 a = some o)
    (c1 : H4 (ad .st) = some (.lst ((List.range (z.length + 1)).map fun i => if i = m then V.ref p1 else V.ref (ad (.stA i)))))
    (c2 : H4 (ad .th) = some (.lst ((List.range (z.length + 1)).map fun i => if i = m then V.ref p2 else V.ref (ad (.thA i)))))
    (c3 : H4 (ad .wa) = some (.lst ((List.range (z.length + 1)).map fun i => if i = m then V.ref p3 else V.ref (ad (.waA i)))))
    (c4 : H4 (ad .ro) = some (.lst ((List.range (z.length + 1)).map fun i => if i = m then V.ref p4 else V.ref (ad (.roA i)))))
    (e1 : H4 p1 = some (.lst vs)) (e1' : Its H4 vs st') (e2 : H4 p2 = some (.dT (st'.map fun x => (kI x, V.bl true)))) (nd3 : k3.Nodup) (me3 : ∀ x, x ∈ k3 ↔ (w' x).isSome = true) (e3 : H4 p3 = some (dkO k3 f3))
    (e3' : ∀ x ys, w' x = some ys → ∃ vs, Its H4 vs ys ∧ H4 (f3 x) = some (.lst vs)) (nd4 : k4.Nodup) (me4 : ∀ x, x ∈ k4 ↔ (r' x).isSome = true) (e4 : H4 p4 = some (dkO k4 f4)) (e4' : ∀ x es, r' x = some es → H4 (f4 x) = some (.lst (es.map fun e : Nat => V.int (e : Nat)))) :
    SpA C g z M H4 (takeA ad m p1 p2 p3 p4 f3 f4) (takeS S m st' w' r') := by
  have R := A.rep
  have dM : Dm M H := Dm.same A.same
  have own : ∀ r, isUsed z.length (takeS S m st' w' r') r → M (takeA ad m p1 p2 p3 p4 f3 f4 r) = none := fun r hu => by
    by_cases c : oldR m r
    · rw [oldR_ad c]; exact A.own r ((oldR_U c).mp hu)
    · refine new_cases (G := fun r => M (takeA ad m p1 p2 p3 p4 f3 f4 r) = none) ?_ ?_ ?_ ?_ (fun x hx => ?_) (fun x hx => ?_) hu c
      · show M (if m = m then p1 else _) = none; rw [if_pos rfl]; exact dM _ a1
      · show M (if m = m then p2 else _) = none; rw [if_pos rfl]; exact dM _ (d1 _ a2)
      · show M (if m = m then p3 else _) = none; rw [if_pos rfl]; exact dM _ (d1 _ (d2 _ n3.p0))
      · show M (if m = m then p4 else _) = none; rw [if_pos rfl]; exact dM _ (d1 _ (d2 _ (d3 _ n4.p0)))
      · show M (if m = m then f3 x else _) = none; rw [if_pos rfl]; exact dM _ (d1 _ (d2 _ (n3.f0 x hx).1))
      · show M (if m = m then f4 x else _) = none; rw [if_pos rfl]; exact dM _ (d1 _ (d2 _ (d3 _ (n4.f0 x hx).1)))
  have q1 : takeA ad m p1 p2 p3 p4 f3 f4 (.stA m) = p1 := if_pos rfl
  have q2 : takeA ad m p1 p2 p3 p4 f3 f4 (.thA m) = p2 := if_pos rfl
  have q3 : takeA ad m p1 p2 p3 p4 f3 f4 (.waA m) = p3 := if_pos rfl
  have q4 : takeA ad m p1 p2 p3 p4 f3 f4 (.roA m) = p4 := if_pos rfl
  have q5 : ∀ x, takeA ad m p1 p2 p3 p4 f3 f4 (.waL m x) = f3 x := fun x => if_pos rfl
  have q6 : ∀ x, takeA ad m p1 p2 p3 p4 f3 f4 (.roL m x) = f4 x := fun x => if_pos rfl
  have t1 : takeT m (.stA m) = 1 := if_pos rfl
  have t2 : takeT m (.thA m) = 2 := if_pos rfl
  have t3 : takeT m (.waA m) = 3 := if_pos rfl
  have t4 : takeT m (.roA m) = 4 := if_pos rfl
  have t5 : ∀ x, takeT m (.waL m x) = 3 := fun x => if_pos rfl
  have t6 : ∀ x, takeT m (.roL m x) = 4 := fun x => if_pos rfl
  have oo : ∀ r, isUsed z.length (takeS S m st' w' r') r → oldR m r → ∃ o, H (ad r) = some o ∧ Cont ⟨C, g, z, ad⟩ S S.st H r o := fun r hu c => R.at_ r ((oldR_U c).mp hu)
  have tk : TK H H4 := fun a xs h => keep a _ h (fun e => by rw [e, R.gSt] at h; cases h) (fun e => by rw [e, R.gTh] at h; cases h) (fun e => by rw [e, R.gWa] at h; cases h) (fun e => by rw [e, R.gRo] at h; cases h)
  refine ⟨fun a o h => keep a o (A.same a o h) (fun e => ?_) (fun e => ?_) (fun e => ?_) (fun e => ?_), own, ⟨?_, ?_⟩⟩
  · rw [e, A.own .st trivial] at h; cases h
  · rw [e, A.own .th trivial] at h; cases h
  · rw [e, A.own .wa trivial] at h; cases h
  · rw [e, A.own .ro trivial] at h; cases h
  · refine stage_inj (F := fun k => match k with | 0 => M | 1 => H | 2 => H1 | 3 => H2 | 4 => H3 | _ => H4) (st := takeT m) ?_ ?_ ?_ ?_
    · intro k
      match k with
      | 0 => exact dM
      | 1 => exact d1
      | 2 => exact d2
      | 3 => exact d3
      | 4 => exact d4
      | k + 5 => exact Dm.refl _
    · intro r hu
      by_cases c : oldR m r
      · have := own r hu
        rw [oldR_T c]; exact this
      · refine new_cases (G := fun r => (match takeT m r with | 0 => M | 1 => H | 2 => H1 | 3 => H2 | 4 => H3 | _ => H4) (takeA ad m p1 p2 p3 p4 f3 f4 r) = none) ?_ ?_ ?_ ?_ (fun x hx => ?_) (fun x hx => ?_) hu c
        · rw [t1, q1]; exact a1
        · rw [t2, q2]; exact a2
        · rw [t3, q3]; exact n3.p0
        · rw [t4, q4]; exact n4.p0
        · rw [t5, q5]; exact (n3.f0 x hx).1
        · rw [t6, q6]; exact (n4.f0 x hx).1
    · intro r hu
      by_cases c : oldR m r
      · obtain ⟨o, h1, _⟩ := oo r hu c
        rw [oldR_T c]
        show H (takeA ad m p1 p2 p3 p4 f3 f4 r) ≠ none
        rw [oldR_ad c, h1]; simp
      · refine new_cases (G := fun r => (match takeT m r + 1 with | 0 => M | 1 => H | 2 => H1 | 3 => H2 | 4 => H3 | _ => H4) (takeA ad m p1 p2 p3 p4 f3 f4 r) ≠ none) ?_ ?_ ?_ ?_ (fun x hx => ?_) (fun x hx => ?_) hu c
        · rw [t1, q1]; exact b1
        · rw [t2, q2]; exact b2
        · rw [t3, q3]; exact n3.p1
        · rw [t4, q4]; exact n4.p1
        · rw [t5, q5]; exact (n3.f0 x hx).2.1
        · rw [t6, q6]; exact (n4.f0 x hx).2.1
    · intro a b ha hb et ea
      have ea : takeA ad m p1 p2 p3 p4 f3 f4 a = takeA ad m p1 p2 p3 p4 f3 f4 b := ea
      by_cases ca : oldR m a
      · by_cases cb : oldR m b
        · rw [oldR_ad ca, oldR_ad cb] at ea
          exact R.inj a b ((oldR_U ca).mp ha) ((oldR_U cb).mp hb) ea
        · exact absurd (et.symm.trans (oldR_T ca)) (newR_T cb)
      · by_cases cb : oldR m b
        · exact absurd (et.trans (oldR_T cb)) (newR_T ca)
        · refine new_cases (G := fun b => takeT m a = takeT m b → takeA ad m p1 p2 p3 p4 f3 f4 a = takeA ad m p1 p2 p3 p4 f3 f4 b → a = b) ?_ ?_ ?_ ?_ (fun y hy => ?_) (fun y hy => ?_) hb cb et ea
          · rw [t1, q1]
            exact new_cases (G := fun a => takeT m a = 1 → takeA ad m p1 p2 p3 p4 f3 f4 a = p1 → a = .stA m) (fun _ _ => rfl) (fun t _ => by rw [t2] at t; cases t) (fun t _ => by rw [t3] at t; cases t) (fun t _ => by rw [t4] at t; cases t) (fun x _ t _ => by rw [t5] at t; cases t) (fun x _ t _ => by rw [t6] at t; cases t) ha ca
          · rw [t2, q2]
            exact new_cases (G := fun a => takeT m a = 2 → takeA ad m p1 p2 p3 p4 f3 f4 a = p2 → a = .thA m) (fun t _ => by rw [t1] at t; cases t) (fun _ _ => rfl) (fun t _ => by rw [t3] at t; cases t) (fun t _ => by rw [t4] at t; cases t) (fun x _ t _ => by rw [t5] at t; cases t) (fun x _ t _ => by rw [t6] at t; cases t) ha ca
          · rw [t3, q3]
            exact new_cases (G := fun a => takeT m a = 3 → takeA ad m p1 p2 p3 p4 f3 f4 a = p3 → a = .waA m) (fun t _ => by rw [t1] at t; cases t) (fun t _ => by rw [t2] at t; cases t) (fun _ _ => rfl) (fun t _ => by rw [t4] at t; cases t) (fun x hx _ e => absurd (by rw [← e, q5]) (n3.f0 x hx).2.2) (fun x _ t _ => by rw [t6] at t; cases t) ha ca
          · rw [t4, q4]
            exact new_cases (G := fun a => takeT m a = 4 → takeA ad m p1 p2 p3 p4 f3 f4 a = p4 → a = .roA m) (fun t _ => by rw [t1] at t; cases t) (fun t _ => by rw [t2] at t; cases t) (fun t _ => by rw [t3] at t; cases t) (fun _ _ => rfl) (fun x _ t _ => by rw [t5] at t; cases t) (fun x hx _ e => absurd (by rw [← e, q6]) (n4.f0 x hx).2.2) ha ca
          · rw [t5, q5]
            exact new_cases (G := fun a => takeT m a = 3 → takeA ad m p1 p2 p3 p4 f3 f4 a = f3 y → a = .waL m y) (fun t _ => by rw [t1] at t; cases t) (fun t _ => by rw [t2] at t; cases t) (fun _ e => absurd (by rw [← e, q3]) (n3.f0 y hy).2.2) (fun t _ => by rw [t4] at t; cases t) (fun x hx _ e => by rw [q5] at e; rw [n3.inj x y hx hy e]) (fun x _ t _ => by rw [t6] at t; cases t) ha ca
          · rw [t6, q6]
            exact new_cases (G := fun a => takeT m a = 4 → takeA ad m p1 p2 p3 p4 f3 f4 a = f4 y → a = .roL m y) (fun t _ => by rw [t1] at t; cases t) (fun t _ => by rw [t2] at t; cases t) (fun t _ => by rw [t3] at t; cases t) (fun _ e => absurd (by rw [← e, q4]) (n4.f0 y hy).2.2) (fun x _ t _ => by rw [t5] at t; cases t) (fun x hx _ e => by rw [q6] at e; rw [n4.inj x y hx hy e]) ha ca
  · intro r hu
    by_cases c : oldR m r
    · obtain ⟨o, h1, h2⟩ := oo r hu c
      have hu' := (oldR_U c).mp hu
      show ∃ o, H4 (takeA ad m p1 p2 p3 p4 f3 f4 r) = some o ∧ _
      rw [oldR_ad c]
      have kp : r ≠ .st → r ≠ .th → r ≠ .wa → r ≠ .ro → H4 (ad r) = some o := fun x1 x2 x3 x4 => keep _ _ h1 (fun e => x1 (R.inj _ _ hu' trivial e)) (fun e => x2 (R.inj _ _ hu' trivial e)) (fun e => x3 (R.inj _ _ hu' trivial e)) (fun e => x4 (R.inj _ _ hu' trivial e))
      cases r with
      | st => exact ⟨_, c1, by show HO.lst _ = HO.lst _; congr 2; funext i; show _ = V.ref (if i = m then p1 else _); split <;> rfl⟩
      | th => exact ⟨_, c2, by show HO.lst _ = HO.lst _; congr 2; funext i; show _ = V.ref (if i = m then p2 else _); split <;> rfl⟩
      | wa => exact ⟨_, c3, by show HO.lst _ = HO.lst _; congr 2; funext i; show _ = V.ref (if i = m then p3 else _); split <;> rfl⟩
      | ro => exact ⟨_, c4, by show HO.lst _ = HO.lst _; congr 2; funext i; show _ = V.ref (if i = m then p4 else _); split <;> rfl⟩
      | sp => exact ⟨o, kp (by simp) (by simp) (by simp) (by simp), h2⟩
      | dx => exact ⟨o, kp (by simp) (by simp) (by simp) (by simp), h2⟩
      | em => exact ⟨o, kp (by simp) (by simp) (by simp) (by simp), h2⟩
      | bn => exact ⟨o, kp (by simp) (by simp) (by simp) (by simp), h2⟩
      | bl x => exact ⟨o, kp (by simp) (by simp) (by simp) (by simp), h2⟩
      | roA i =>
        have ci : i ≠ m := c
        refine ⟨o, kp (by simp) (by simp) (by simp) (by simp), ?_⟩
        obtain ⟨ks, k1, k2, k3⟩ := h2
        refine ⟨ks, k1, fun x => ?_, ?_⟩
        · rw [k2 x]; show _ ↔ Option.isSome (if i = m then r' x else S.rw i x) = true; rw [if_neg ci]
        · rw [k3]; show dkO ks _ = dkO ks fun x => if i = m then f4 x else ad (.roL i x)
          congr 1; funext x; rw [if_neg ci]
      | waA i =>
        have ci : i ≠ m := c
        refine ⟨o, kp (by simp) (by simp) (by simp) (by simp), ?_⟩
        obtain ⟨ks, k1, k2, k3⟩ := h2
        refine ⟨ks, k1, fun x => ?_, ?_⟩
        · rw [k2 x]; show _ ↔ Option.isSome (if i = m then w' x else S.wt i x) = true; rw [if_neg ci]
        · rw [k3]; show dkO ks _ = dkO ks fun x => if i = m then f3 x else ad (.waL i x)
          congr 1; funext x; rw [if_neg ci]
      | stA i =>
        have ci : i ≠ m := c
        refine ⟨o, kp (by simp) (by simp) (by simp) (by simp), ?_⟩
        obtain ⟨vs, k1, k2⟩ := h2
        refine ⟨vs, ?_, k2⟩
        show Its H4 vs (if i = m then st' else S.st i)
        rw [if_neg ci]; exact k1.tk tk
      | thA i =>
        have ci : i ≠ m := c
        refine ⟨o, kp (by simp) (by simp) (by simp) (by simp), ?_⟩
        have h2 : o = .dT ((S.st i).map fun x => (kI x, V.bl true)) := h2
        show o = .dT ((if i = m then st' else S.st i).map fun x => (kI x, V.bl true))
        rw [if_neg ci]; exact h2
      | roL i x =>
        have ci : i ≠ m := c
        refine ⟨o, kp (by simp) (by simp) (by simp) (by simp), ?_⟩
        obtain ⟨es, k1, k2⟩ := h2
        refine ⟨es, ?_, k2⟩
        show (if i = m then r' x else S.rw i x) = some es
        rw [if_neg ci]; exact k1
      | waL i x =>
        have ci : i ≠ m := c
        refine ⟨o, kp (by simp) (by simp) (by simp) (by simp), ?_⟩
        obtain ⟨ys, vs, k1, k2, k3⟩ := h2
        refine ⟨ys, vs, ?_, k2.tk tk, k3⟩
        show (if i = m then w' x else S.wt i x) = some ys
        rw [if_neg ci]; exact k1
    · refine new_cases (G := fun r => ∃ o, H4 (takeA ad m p1 p2 p3 p4 f3 f4 r) = some o ∧ Cont ⟨C, g, z, takeA ad m p1 p2 p3 p4 f3 f4⟩ (takeS S m st' w' r') (takeS S m st' w' r').st H4 r o) ?_ ?_ ?_ ?_ (fun x hx => ?_) (fun x hx => ?_) hu c
      · rw [q1]; exact ⟨_, e1, vs, by show Its H4 vs (if m = m then st' else _); rw [if_pos rfl]; exact e1', rfl⟩
      · rw [q2]; exact ⟨_, e2, by show _ = HO.dT ((if m = m then st' else _).map _); rw [if_pos rfl]⟩
      · rw [q3]; exact ⟨_, e3, k3, nd3, fun x => by show _ ↔ Option.isSome (if m = m then w' x else _) = true; rw [if_pos rfl]; exact me3 x, by show _ = dkO k3 fun x => if m = m then f3 x else _; simp only [if_true]⟩
      · rw [q4]; exact ⟨_, e4, k4, nd4, fun x => by show _ ↔ Option.isSome (if m = m then r' x else _) = true; rw [if_pos rfl]; exact me4 x, by show _ = dkO k4 fun x => if m = m then f4 x else _; simp only [if_true]⟩
      · obtain ⟨ys, hy⟩ := Option.isSome_iff_exists.mp hx
        obtain ⟨us, x1, x2⟩ := e3' x ys hy
        rw [q5]; exact ⟨_, x2, ys, us, by show (if m = m then w' x else _) = some ys; rw [if_pos rfl]; exact hy, x1, rfl⟩
      · obtain ⟨es, hy⟩ := Option.isSome_iff_exists.mp hx
        rw [q6]; exact ⟨_, e4' x es hy, es, by show (if m = m then r' x else _) = some es; rw [if_pos rfl]; exact hy, rfl⟩
end K38
namespace K38
open PySem L2
section
variable {td te : TE} {v : Nat} {vs : List Nat} {σ : L2.St} {H : Hp} {Q : VK} {d : Addr}
/-- {name: new list for name in a dict of names} -/
theorem x_dcNames {ks : List NT} {fo : NT → Addr} (hd : H d = some (dkO ks fo)) (nd : ks.Nodup) (hw : ∀ x, wipe ((wipe σ vs).set v (some x)) vs = wipe σ vs) (hv : ∀ x, ((wipe σ vs).set v (some x))[v]? = some (some x))
    (ht : ∀ od (R : VK), R (.ref d) (upd H d (.frz od (dkO ks fo))) → td σ (upd H d (.frz od (dkO ks fo))) R) (ct : NT → List V)
    (hs : ∀ od x H' (N : V → Hp → Prop), x ∈ ks → Same H H' → (∀ p H2, Same (upd H' d (.frz od (dkO ks fo))) H2 → (upd H' d (.frz od (dkO ks fo))) p = none → H2 p = some (.lst (ct x)) → N (.ref p) H2) →
      te ((wipe σ vs).set v (some (.str (nS x)))) (upd H' d (.frz od (dkO ks fo))) N)
    (he : ∀ D H' (f : NT → Addr), Same H H' → H D = none → H' D = some (dkO ks f) → (∀ x, x ∈ ks → H' (f x) = some (.lst (ct x)) ∧ H (f x) = none ∧ f x ≠ D) → (∀ x y, x ∈ ks → y ∈ ks → f x = f y → x = y) → Q (.ref D) H') :
    tLockE (tDc (iKeys td) (gName v) tYes (tVar v) te vs) σ H Q := by
  have few := nt_few nd
  refine x_dcKeys (kvs := ks.map fun x => ((.inr (nS x) : Key), V.ref (fo x))) hd hw hv ht
    (fun D i H' => ∃ f : NT → Addr, Same H H' ∧ H D = none ∧ H' D = some (dkO (ks.take i) f) ∧ (∀ x, x ∈ ks.take i → H' (f x) = some (.lst (ct x)) ∧ H (f x) = none ∧ f x ≠ D) ∧ ∀ x y, x ∈ ks.take i → y ∈ ks.take i → f x = f y → x = y)
    (fun D hD => ⟨fun _ => D, Same.new hD, hD, upd_same, fun x hx => absurd hx (by simp), fun x y hx => absurd hx (by simp)⟩) (fun D i H' ⟨f, s, _⟩ => s _ _ hd) ?_ ?_
  · rintro D od i k u H' N hk hD ⟨f, s, _, hDv, hf, inj⟩ go
    obtain ⟨x, hx, ek⟩ : ∃ x, ks[i]? = some x ∧ (((.inr (nS x) : Key), V.ref (fo x)) : Key × V) = (k, u) := by
      rw [List.getElem?_map] at hk
      obtain ⟨x, h1, h2⟩ := Option.map_eq_some_iff.mp hk
      exact ⟨x, h1, h2⟩
    cases ek
    have xm : x ∈ ks := List.mem_of_getElem? hx
    have xn : x ∉ ks.take i := fun c => by
      obtain ⟨j, hj, e⟩ := List.mem_iff_getElem.mp c
      have hj2 : j < i := by rw [List.length_take] at hj; omega
      rw [List.getElem_take] at e
      obtain ⟨h1, h2⟩ := List.getElem?_eq_some_iff.mp hx
      have := (List.nodup_iff_pairwise_ne.mp nd)
      have q := List.pairwise_iff_getElem.mp this j i (by omega) h1 hj2
      rw [e, h2] at q
      exact q rfl
    have hd' := s _ _ hd
    have nDd : D ≠ d := fun e => by rw [e, hd] at hD; cases hD
    refine hs od x H' N xm s fun p H2 s2 hp hpv => ?_
    have hpd : p ≠ d := fun e => by rw [e, upd_same] at hp; cases hp
    have hp' : H' p = none := by rw [← hp, upd_ne hpd]
    have hpD : p ≠ D := fun e => by rw [e, hDv] at hp'; cases hp'
    have h2d : H2 d = some (.frz od (dkO ks fo)) := s2 _ _ upd_same
    have up : ∀ a o, a ≠ d → H' a = some o → H2 a = some o := fun a o n h => s2 _ _ ((upd_ne n).trans h)
    have e2 : H2 = upd (upd H2 d (dkO ks fo)) d (.frz od (dkO ks fo)) := by rw [upd_upd, upd_id h2d]
    rw [e2]
    have tl : (ks.take i).length ≤ 5 := by rw [List.length_take]; omega
    have nf : ∀ y, y ∈ ks.take i → f y ≠ d := fun y hy e => by have := (hf y hy).2.1; rw [e, hd] at this; cases this
    refine go _ _ ((ks.take i).map fun y => ((.inr (nS y) : Key), V.ref (f y))) ?_ ?_ ?_
    · rw [upd_ne nDd]; exact up _ _ nDd hDv
    · rw [List.length_map]; exact small_ (by omega)
    · refine ⟨fun y => if y = x then p else f y, fun a o h => ?_, hD, ?_, fun y hy => ?_, fun y y' hy hy' e => ?_⟩
      · have na : a ≠ D := fun e => by rw [e, hD] at h; cases h
        rw [upd_ne na]
        by_cases c : a = d
        · subst c; rw [hd] at h; cases h; exact upd_same
        · rw [upd_ne c]; exact up _ _ c (s _ _ h)
      · rw [upd_same, take_more hx, putK_new _ (by rw [valV_dk, if_neg xn])]
        unfold dkO
        rw [List.map_append]
        congr 3
        · refine List.map_congr_left fun y hy => ?_
          have : y ≠ x := fun e => xn (by rw [← e]; exact hy)
          simp only [if_neg this]
        · simp
      · rw [take_more hx] at hy
        by_cases ey : y = x
        · subst ey
          simp only [if_true]
          exact ⟨by rw [upd_ne hpD, upd_ne hpd]; exact hpv, s.free hp', hpD⟩
        · simp only [if_neg ey]
          have hy' : y ∈ ks.take i := by simpa [ey] using hy
          obtain ⟨q1, q2, q3⟩ := hf y hy'
          exact ⟨by rw [upd_ne q3, upd_ne (nf y hy')]; exact up _ _ (nf y hy') q1, q2, q3⟩
      · rw [take_more hx] at hy hy'
        have nfp : ∀ y, y ∈ ks.take i → f y ≠ p := fun y hy e => by have := (hf y hy).1; rw [e, hp'] at this; cases this
        by_cases ex : y = x
        · by_cases ey : y' = x
          · rw [ex, ey]
          · simp only [if_pos ex, if_neg ey] at e
            exact absurd e.symm (nfp y' (by simpa [ey] using hy'))
        · by_cases ey : y' = x
          · simp only [if_neg ex, if_pos ey] at e
            exact absurd e (nfp y (by simpa [ex] using hy))
          · simp only [if_neg ex, if_neg ey] at e
            exact inj y y' (by simpa [ex] using hy) (by simpa [ey] using hy') e
  · rintro D H' hD ⟨f, s, _, hDv, hf, inj⟩
    rw [List.length_map, List.take_length] at hDv hf inj
    exact he D H' f s hD hDv hf inj
theorem x_gsub {to ti : TE} {t : TSet} {v : V} {σ : L2.St} {H : Hp} {R : L2.St → Hp → Prop} (h : to σ H fun o H1 => ti σ H1 fun i H2 => t o i v H2 fun H3 => R σ H3) : gSub to ti t v σ H R := h
theorem x_setL {p : Addr} {xs : List V} {i : Nat} {v : V} {H : Hp} {R : Hp → Prop} (h : H p = some (.lst xs)) (hi : i < xs.length) (q : R (upd H p (.lst (xs.set i v)))) : rSetL (.ref p) (.int (i : Nat)) v H R :=
  ⟨p, xs, _, i, rfl, rfl, h, (by simp [ixN, hi]), q⟩
end
end K38
namespace K38
open PySem L2
theorem pt_never {X : Cx} {e : Expr} : PT X e (fun _ _ _ => False) := ⟨fun _ _ _ _ _ _ h => h.elim⟩
theorem kc_setT {X : Cx} (K : PySem.W.Frag) (P : Program) (w : World) (hc : X.calm = true) (hu : X.A.units + 64 < cLine) (e1 : X.K = K := by rfl) (e2 : X.prog = P := by rfl) (e3 : X.w = w := by rfl) : CallR X (.type "set") (rSetOfT K P w) := by
  subst e1 e2 e3; exact cr_setOfT hc hu
theorem kc_sortT {X : Cx} (K : PySem.W.Frag) (P : Program) (w : World) (hc : X.calm = true) (e1 : X.K = K := by rfl) (e2 : X.prog = P := by rfl) (e3 : X.w = w := by rfl) : CallR X (.builtin "sorted") (rSortedT K P w) := by
  subst e1 e2 e3; exact cr_sortedT hc
/-- set([]), sorted of it -/
theorem x_setT {K : PySem.W.Frag} {P : Program} {w : World} {H : Hp} {Q : VK} {p : Addr} (h : H p = some (.lst [])) (q : ∀ a, H a = none → Q (.ref a) (upd H a (SetTO P w a []))) : rSetOfT K P w [.ref p] H Q :=
  ⟨p, [], rfl, SqL.of h, (fun _ z => nomatch z), by decide, fun a L ha hL _ => by
    have : L = [] := List.eq_nil_iff_forall_not_mem.mpr fun x hx => nomatch hL x hx
    subst this
    exact q a ha⟩
theorem x_sortT {K : PySem.W.Frag} {P : Program} {w : World} {H : Hp} {Q : VK} {a : Addr} (h : H a = some (SetTO P w a [])) (q : ∀ p, H p = none → Q (.ref p) (upd H p (.lst []))) : rSortedT K P w [.ref a] H Q :=
  ⟨a, [], 1, 1, rfl, h, (fun _ z => nomatch z), by decide, (fun _ z => nomatch z), fun L p pm _ _ _ hp => by
    have : L = [] := List.perm_nil.mp pm
    subst this
    exact q p hp⟩
/-! ### a dict whose keys are (name, start, end, ()) -/
section
open PySem.Spec PyProof.Rows
abbrev K3 := NT × Nat × Nat
def nk (k : K3) : NestedKey := .tup [.text (nS k.1), .num (k.2.1 : Nat), .num (k.2.2 : Nat), .tup []]
theorem nk_inj {a b : K3} (h : nk a = nk b) : a = b := by
  obtain ⟨x, s, e⟩ := a
  obtain ⟨y, s', e'⟩ := b
  unfold nk at h
  simp only [NestedKey.tup.injEq, List.cons.injEq, NestedKey.text.injEq, NestedKey.num.injEq] at h
  obtain ⟨h1, h2, h3, _⟩ := h
  rw [nS_inj h1, show s = s' by exact_mod_cast h2, show e = e' by exact_mod_cast h3]
/-- the key's tuple -/
def NKAt (H : Hp) (b : Addr) (k : K3) : Prop := ∃ c, H b = some (.tup [.str (nS k.1), .int (k.2.1 : Nat), .int (k.2.2 : Nat), .ref c]) ∧ H c = some (.tup [])
theorem NKAt.tk {H H' : Hp} {b : Addr} {k : K3} (s : TK H H') (h : NKAt H b k) : NKAt H' b k := by
  obtain ⟨c, h1, h2⟩ := h
  exact ⟨c, s _ _ h1, s _ _ h2⟩
abbrev NW := List (K3 × Addr × V)
def ndV (ws : NW) (k : K3) : Option V := (ws.find? fun p => decide (p.1 = k)).map (·.2.2)
def NdO (P : Program) (w : World) (a : Addr) (ws : NW) : HO := .ext fun h => ws.length ≤ sizeLine ∧ (a == sysModules) = false ∧ ∃ xs : List (NestedKey × Addr × Value),
  Paired (fun (p : K3 × Addr × V) (q : NestedKey × Addr × Value) => q.1 = nk p.1 ∧ q.2.1 = p.2.1 ∧ RelV p.2.2 q.2.2) ws xs ∧ ∃ o es ep, h.get? a = some o ∧ o.ExactDict ∧ o.data = .dict es ep ∧ es.toList = xs.map (entryOfKey (nestedKind P w)) ∧ (xs.map (·.1)).Nodup
/-- it stands, its keys stand -/
structure NdAt (P : Program) (w : World) (H : Hp) (a : Addr) (ws : NW) : Prop where
  o : H a = some (NdO P w a ws)
  k : ∀ e ∈ ws, NKAt H e.2.1 e.1
theorem nd_key {X : Cx} {pins : List (Addr × Obj)} {σ : L2.St} {H : Hp} {s : Shared} {b : Addr} {k : K3} (I : Inv X pins σ H s) (h : NKAt H b k) : (nestedKind X.prog X.w).is s.heap (nk k) b := by
  obtain ⟨c, h1, h2⟩ := h
  obtain ⟨_, its, r, o, ho, hc, n, hd⟩ := (show ObjOk X.prog X.w H s.heap b (.tup _) from I.hok b _ h1)
  obtain ⟨_, its2, r2, o2, ho2, hc2, n2, hd2⟩ := (show ObjOk X.prog X.w H s.heap c (.tup _) from I.hok c _ h2)
  cases r2
  cases r with
  | cons ra r => cases r with
    | cons rb r => cases r with
      | cons rc r => cases r with
        | cons rd r =>
          cases r
          obtain ⟨ta, rfl⟩ := ra
          obtain ⟨tb, rfl⟩ := rb
          obtain ⟨tc, rfl⟩ := rc
          cases rd
          refine ⟨NestedIs.tup ho hc hd ?_, by show NestedKey.depth (nk k) ≤ 8; simp [nk, NestedKey.depth, NestedKey.depthAll]⟩
          exact .cons (.text _ _) (.cons (.int _ _) (.cons (.int _ _) (.cons (.tup ho2 hc2 hd2 .nil) .nil)))
theorem nd_dict {X : Cx} {pins : List (Addr × Obj)} {σ : L2.St} {H : Hp} {s : Shared} {a : Addr} {ws : NW} (I : Inv X pins σ H s) (h : NdAt X.prog X.w H a ws) : ws.length ≤ sizeLine ∧ (a == sysModules) = false ∧ ∃ xs : List (NestedKey × Addr × Value),
    Paired (fun (p : K3 × Addr × V) (q : NestedKey × Addr × Value) => q.1 = nk p.1 ∧ q.2.1 = p.2.1 ∧ RelV p.2.2 q.2.2) ws xs ∧ s.heap.DictOfH (nestedKind X.prog X.w) a xs := by
  obtain ⟨⟨z, m, xs, pr, o, es, ep, h1, h2, h3, h4, h5⟩, _⟩ := (show ObjOk X.prog X.w H s.heap a (.ext _) from I.hok a _ h.o)
  refine ⟨z, m, xs, pr, o, es, ep, h1, h2, h3, h4, ?_, h5⟩
  have key : ∀ (ws : NW) (xs : List (NestedKey × Addr × Value)), Paired (fun (p : K3 × Addr × V) (q : NestedKey × Addr × Value) => q.1 = nk p.1 ∧ q.2.1 = p.2.1 ∧ RelV p.2.2 q.2.2) ws xs → (∀ e ∈ ws, NKAt H e.2.1 e.1) → ∀ x ∈ xs, (nestedKind X.prog X.w).is s.heap x.1 x.2.1 := by
    intro ws
    induction ws with
    | nil => intro xs pr _ x hx; cases pr; cases hx
    | cons e ws ih =>
      intro xs pr hk x hx
      cases pr with
      | cons r pr =>
        rcases List.mem_cons.mp hx with q | q
        · subst q
          rw [r.1, r.2.1]
          exact nd_key I (hk e (List.mem_cons_self ..))
        · exact ih _ pr (fun e he => hk e (List.mem_cons_of_mem _ he)) x q
  exact key ws xs pr h.k
theorem nd_at {ws : NW} {xs : List (NestedKey × Addr × Value)} (k : K3) (pr : Paired (fun (p : K3 × Addr × V) (q : NestedKey × Addr × Value) => q.1 = nk p.1 ∧ q.2.1 = p.2.1 ∧ RelV p.2.2 q.2.2) ws xs) : RelO (ndV ws k) ((atKey xs (nk k)).map (·.2)) := by
  induction pr with
  | nil => exact True.intro
  | @cons p q ws xs r pr ih =>
    unfold ndV atKey at ih ⊢
    by_cases c : p.1 = k
    · rw [List.find?_cons_of_pos (by simpa using c), List.find?_cons_of_pos (by simp [r.1, c])]
      exact r.2.2
    · rw [List.find?_cons_of_neg (by simpa using c), List.find?_cons_of_neg (by simp [r.1]; exact fun e => c (nk_inj e))]
      exact ih
/-- {} -/
def tDNewN (P : Program) (w : World) : TE := fun _ H Q => ∀ p, H p = none → Q (.ref p) (upd H p (NdO P w p []))
theorem nd_new {X : Cx} {pins : List (Addr × Obj)} {σ : L2.St} {H : Hp} {s : Shared} (I : Inv X pins σ H s) (H' : Hp) : ObjOk X.prog X.w H' (s.heap.push { cls := .type "dict", data := .dict #[] }) s.heap.objs.size (NdO X.prog X.w s.heap.objs.size []) := by
  have e := Heap.get?_push_size s.heap (o := { cls := .type "dict", data := .dict #[] }) rfl
  refine ⟨⟨Nat.zero_le _, beq_eq_false_iff_ne.mpr (Ne.symm (Nat.ne_of_lt I.big)), [], .nil, _, #[], 0, e, ⟨rfl, rfl, rfl⟩, rfl, rfl, List.nodup_nil⟩, ⟨_, e⟩, ?_⟩
  rintro h1 h2 ⟨z, m, xs, pr, o, es, ep, q1, q⟩ k
  exact ⟨z, m, xs, pr, o, es, ep, k _ q1, q⟩
theorem pe_dnewN {X : Cx} {pos : Pos} : PE X (.Dict [] [] pos) (tDNewN X.prog X.w) := ⟨fun pins s σ H Q I h =>
  wpAny_Dict_empty ⟨.ref s.heap.objs.size, _, I.laid (a := s.heap.objs.size) (o := NdO X.prog X.w s.heap.objs.size []) (t' := s.toks) (fun _ _ => Heap.get?_push_of_some _) (Nat.le_refl _) (nd_new I _), rfl, h _ (I.hok.fresh (Nat.le_refl _))⟩⟩
/-- key in d -/
def rNIn (P : Program) (w : World) (x y : V) (H : Hp) (Q : VK) : Prop := ∃ a b ws k, x = .ref a ∧ y = .ref b ∧ NdAt P w H a ws ∧ NKAt H b k ∧ Q (.bl (ndV ws k).isSome) H
def tNIn (P : Program) (w : World) (ty td : TE) : TE := fun σ H Q => ty σ H fun y H1 => td σ H1 fun x H2 => rNIn P w x y H2 Q
theorem relO_some {o : Option V} {u : Option Value} (h : RelO o u) : o.isSome = u.isSome := by
  cases o <;> cases u <;> first | rfl | exact h.elim
theorem pc_nin {X : Cx} {i o : Expr} {td ty : TE} (hu : X.A.units + 12 < cLine) (hi : PE X i ty) (ho : PE X o td) : PC X .In i o (tNIn X.prog X.w ty td) := by
  refine ⟨fun pins s σ H Q I h => ?_⟩
  refine thn (hi.run pins s σ H _ I h) fun iv s1 ⟨y, H1, I1, ry, q1⟩ => thn (ho.run pins s1 σ H1 _ I1 q1) fun u s2 ⟨x, H2, I2, rx, a, b, ws, k, ex, ey, nd, ka, q2⟩ => ?_
  subst ex ey
  cases rx
  cases ry
  obtain ⟨z, m, xs, pr, dm⟩ := nd_dict I2 nd
  have e : (atKey xs (nk k)).isSome = (ndV ws k).isSome := by rw [relO_some (nd_at k pr), Option.isSome_map]
  refine wpAny_in_heap (show X.A.units + 1 + 8 < cLine by omega) (nd_key I2 ka) m dm ?_
  rw [e]
  exact ⟨.bl (ndV ws k).isSome, H2, I2.tok _, rfl, q2⟩
/-- d[key] -/
def rNGet (P : Program) (w : World) (x y : V) (H : Hp) (Q : VK) : Prop := ∃ a b ws k v, x = .ref a ∧ y = .ref b ∧ NdAt P w H a ws ∧ NKAt H b k ∧ ndV ws k = some v ∧ Q v H
def tNGet (P : Program) (w : World) (td ty : TE) : TE := fun σ H Q => td σ H fun x H1 => ty σ H1 fun y H2 => rNGet P w x y H2 Q
theorem pe_nget {X : Cx} {o i : Expr} {td ty : TE} {pos : Pos} (hu : X.A.units + 12 < cLine) (ho : PE X o td) (hi : PE X i ty) (hs : NoSl i) : PE X (.Subscript o i pos) (tNGet X.prog X.w td ty) := by
  refine ⟨fun pins s σ H Q I h => ?_⟩
  refine subD_of PySem.F.slot_dict_getitem.lookup hs (thn (ho.run pins s σ H _ I h) fun u s1 ⟨x, H1, I1, rx, q1⟩ => thn (hi.run pins s1 σ H1 _ I1 q1) fun iv s2 ⟨y, H2, I2, ry, a, b, ws, k, v, ex, ey, nd, ka, hv, q2⟩ => ?_)
  subst ex ey
  cases rx
  cases ry
  obtain ⟨z, m, xs, pr, dm⟩ := nd_dict I2 nd
  have r := nd_at k pr
  rw [hv] at r
  refine ⟨dm.typeIs, ?_⟩
  cases c : atKey xs (nk k) with
  | none => rw [c] at r; exact r.elim
  | some p =>
    rw [c] at r
    exact wpAny_getItem_heap (show X.A.units + 1 + 8 < cLine by omega) (nd_key I2 ka) dm c ⟨v, H2, I2.tok _, r, q2⟩
/-- d[key] = v, the key new -/
def rNPut (P : Program) (w : World) (D : Ends) (σ : L2.St) (v x y : V) (H : Hp) : Prop := ∃ a b ws k, x = .ref a ∧ y = .ref b ∧ NdAt P w H a ws ∧ NKAt H b k ∧ ndV ws k = none ∧ ws.length < sizeLine ∧ D.nx σ (upd H a (NdO P w a (ws ++ [(k, b, v)])))
def sNPut (P : Program) (w : World) (td ty tv : TE) : TS := fun D σ H => tv σ H fun v H1 => td σ H1 fun x H2 => ty σ H2 fun y H3 => rNPut P w D σ v x y H3
theorem Paired.snocN {α β : Type} {F : α → β → Prop} {a : α} {b : β} (r : F a b) : ∀ {xs : List α} {ys : List β}, Paired F xs ys → Paired F (xs ++ [a]) (ys ++ [b])
  | _, _, .nil => .cons r .nil
  | _, _, .cons q t => .cons q (Paired.snocN r t)
theorem ps_nput {X : Cx} {o i value : Expr} {td ty tv : TE} {pos pos' : Pos} (hu : X.A.units + 12 < cLine) (ho : PE X o td) (hi : PE X i ty) (hv : PE X value tv) (hs : swapsWith value (some (.Subscript o i pos')) pos.line X.env = pure false) :
    PS X (.Assign [.Subscript o i pos'] value pos) (sNPut X.prog X.w td ty tv) := by
  refine ⟨fun pins s σ H D I h => ?_⟩
  refine wpAny_Assign_Subscript (thn (hv.run pins s σ H _ I h) fun r s1 ⟨v, H1, I1, rv, q1⟩ => thn (ho.run pins s1 σ H1 _ I1 q1) fun u s2 ⟨x, H2, I2, rx, q2⟩ => thn (hi.run pins s2 σ H2 _ I2 q2) fun iv s3 ⟨y, H3, I3, ry, a, b, ws, k, ex, ey, nd, ka, hn, few, q3⟩ => ?_) hs
  subst ex ey
  cases rx
  cases ry
  obtain ⟨z, m, xs, pr, dm⟩ := nd_dict I3 nd
  have r0 := nd_at k pr
  rw [hn] at r0
  have c : atKey xs (nk k) = none := by
    cases c : atKey xs (nk k) with
    | none => rfl
    | some p => rw [c] at r0; exact r0.elim
  have le : xs.length ≤ sizeLine := by rw [← Paired.length pr]; exact z
  refine wpAny_setItem_heap (hsz := le) (show X.A.units + 1 + 8 < cLine by omega) (nd_key I3 ka) dm fun h' dm' sb => ?_
  rw [storedH_new c] at dm'
  obtain ⟨ob, es, ep, h1, h2, h3, h4, _, h5⟩ := dm'
  refine ⟨σ, _, d_write I3 (by rw [nd.o]; exact True.intro) sb ⟨ob, h1⟩ ?_, q3⟩
  refine ⟨⟨?_, m, _, Paired.snocN ⟨rfl, rfl, rv⟩ pr, ob, es, ep, h1, h2, h3, h4, h5⟩, ⟨ob, h1⟩, ?_⟩
  · rw [List.length_append]; exact few
  · rintro g1 g2 ⟨z, m, xs, pr, o, es, ep, q1, q⟩ kk
    exact ⟨z, m, xs, pr, o, es, ep, kk _ q1, q⟩
section
variable {X : Cx} (P : Program) (w : World)
theorem kdnewN {pos : Pos} (e1 : X.prog = P := by rfl) (e2 : X.w = w := by rfl) : PE X (.Dict [] [] pos) (tDNewN P w) := by subst e1 e2; exact pe_dnewN
theorem knin {i o : Expr} {td ty : TE} (hu : X.A.units + 12 < cLine) (hi : PE X i ty) (ho : PE X o td) (e1 : X.prog = P := by rfl) (e2 : X.w = w := by rfl) : PC X .In i o (tNIn P w ty td) := by subst e1 e2; exact pc_nin hu hi ho
theorem knget {o i : Expr} {td ty : TE} {pos : Pos} (hu : X.A.units + 12 < cLine) (ho : PE X o td) (hi : PE X i ty) (hs : NoSl i) (e1 : X.prog = P := by rfl) (e2 : X.w = w := by rfl) : PE X (.Subscript o i pos) (tNGet P w td ty) := by
  subst e1 e2; exact pe_nget hu ho hi hs
theorem knput {o i value : Expr} {td ty tv : TE} {pos pos' : Pos} (hu : X.A.units + 12 < cLine) (ho : PE X o td) (hi : PE X i ty) (hv : PE X value tv) (hs : swapsWith value (some (.Subscript o i pos')) pos.line X.env = pure false) (e1 : X.prog = P := by rfl) (e2 : X.w = w := by rfl) :
    PS X (.Assign [.Subscript o i pos'] value pos) (sNPut P w td ty tv) := by subst e1 e2; exact ps_nput hu ho hi hv hs
end
end
end K38
namespace K38
open PySem L2
section
variable {X : Cx} (K : PySem.W.Frag)
theorem kc_isi (e : X.K = K := by rfl) : CallR X (.builtin "isinstance") (rIsi K) := by subst e; exact call_isi
theorem kc_isiT (e : X.K = K := by rfl) : CallR X (.builtin "isinstance") (rIsiT K) := by subst e; exact call_isiT
variable {K} {H : Hp} {Q : VK}
/-- isinstance(x, str) -/
theorem x_isiStr {z : Str} {n : String} {b : Bool} (h : kitB "str" n = some b) (q : Q (.bl b) H) : rIsi K [.str z, .ty n] H Q := ⟨_, _, _, _, b, rfl, .ty n, .base (.str z), kit_ty h, q⟩
theorem x_isiTup {a : Addr} {xs : List V} {n : String} {b : Bool} (e : H a = some (.tup xs)) (h : kitB "tuple" n = some b) (q : Q (.bl b) H) : rIsi K [.ref a, .ty n] H Q := ⟨_, _, _, _, b, rfl, .ty n, .base (.tup e), kit_ty h, q⟩
end
end K38
namespace K38
open PySem L2
/-! ### setdefault in a dict whose keys are tuples -/
section
variable {X : Cx} {pins : List (Addr × Obj)} {σ : L2.St} {H : Hp} {s : Shared} {a b : Addr} {A : Around} {E : Value → Shared → Prop}
/-- there: the value; not there: the default, put in -/
theorem d_setdT {kvs : List (List Key × V)} {k : List Key} {d : V} {r : Value} {Q : Value → Shared → Prop} (room : A.units + 2 < cLine) (I : Inv X pins σ H s) (ea : H a = some (.dT kvs)) (eb : H b = some (.tup (k.map kV)))
    (rd : RelV d r) (small : kvs.length < sizeLine)
    (old : ∀ v, valV kvs k = some v → ∀ (u : Value) (t : Shared), Inv X pins σ H t → RelV v u → Q u t)
    (new : valV kvs k = none → ∀ (u : Value) (t : Shared), Inv X pins σ (upd H a (.dT (putK kvs k d))) t → RelV d u → Q u t) :
    wpAny (model X.prog X.w) A (call (.builtin "dict.setdefault") [.ref a, .ref b, r]) Q E s := by
  have laid := dt_of I.hok ea
  obtain ⟨_, notSys, ps, rp, D⟩ := laid
  have isDict : s.TypeIs (.ref a) "dict" := D.typeIs
  have big : ps.length ≤ sizeLine := by
    have := Paired.length rp
    omega
  have there := rp.val k
  refine call_meetsIn PySem.F.slot_dict_setdefault isDict PySem.F.entry_dict_setdefault (PySem.F.args_dict_setdefault_3 _ _ _)
    (meetsH_dict_setdefault _ a b notSys r) ⟨tupleKind_room_in1 (show A.units + 1 < cLine by omega), k, ps, key_of I.hok eb, D, big, ?_, ?_⟩
  · intro e he
    rw [he] at there
    obtain ⟨v, hv⟩ : ∃ v, valV kvs k = some v := by
      cases h : valV kvs k with
      | some v => exact ⟨v, rfl⟩
      | none => rw [h] at there; exact False.elim there
    rw [hv] at there
    exact old v hv e.2 _ (I.tok _) there
  · intro he h' D' same
    rw [he] at there
    have hv : valV kvs k = none := by
      cases h : valV kvs k with
      | none => rfl
      | some v => rw [h] at there; exact False.elim there
    have fits : (putK kvs k d).length ≤ sizeLine := Nat.le_trans (length_putK kvs k d) small
    obtain ⟨o, es, n, ho, g1, g2, g3, g4, g5⟩ := D'
    have mu : Mut (H a) := by rw [ea]; trivial
    refine new hv r _ (d_write I mu same ⟨o, ho⟩ ⟨fits, notSys, _, (rp.put k eb rd).keeps ?_, o, es, n, ho, g1, g2, g3, g5⟩) rd
    intro c ys hc
    have nca : c ≠ a := ne_of hc ea (fun q => nomatch q)
    rw [upd_ne nca]
    exact hc
end
def rDSTb (a : Addr) (Q : VK) (y z : V) (H3 : Hp) : Prop := ∃ (kvs : List (List Key × V)) (k : List Key) (b : Addr), H3 a = some (.dT kvs) ∧ y = .ref b ∧ H3 b = some (.tup (k.map kV)) ∧ kvs.length < sizeLine ∧ (∀ v, valV kvs k = some v → Q v H3) ∧ (valV kvs k = none → Q z (upd H3 a (.dT (putK kvs k z))))
def rDSTa (ty tx : TE) (σ : L2.St) (Q : VK) (x : V) (H1 : Hp) : Prop := ∃ a, x = .ref a ∧ IsD H1 a ∧ ty σ H1 fun y H2 => tx σ H2 fun z H3 => rDSTb a Q y z H3
def tDSetdT (td ty tx : TE) : TE := fun σ H Q => td σ H fun x H1 => rDSTa ty tx σ Q x H1
theorem pe_dsetdT {X : Cx} {o e f : Expr} {td ty tx : TE} {p1 p2 : Pos} (room : X.A.units + 2 < cLine) (ho : PE X o td) (he : PE X e ty) (hf : PE X f tx) (m : M2 X o "setdefault" p1 e f p2) :
    PE X (.Call (.Attribute o "setdefault" p1) [e, f] [] p2) (tDSetdT td ty tx) := by
  constructor
  intro pins t0 σ H Q I reading
  have first := ho.run pins t0 σ H _ I reading
  refine wpAny_Call_method m.base m.few m.line PySem.F.plainAttrs_dict PySem.F.slot_dict_setdefault PySem.F.type_dict_setdefault (thn first ?_)
  rintro u t1 ⟨x, H1, I1, rx, a, rfl, isD, reading1⟩
  cases (show u = Value.ref a from rx)
  have tys := isD_at I1 isD
  refine ⟨tys.1, tys.2.1, ?_⟩
  rw [m.trees]
  refine Calls.callWith_builtin rfl (Calls.evalArgs_plain (Calls.spliced_cons ?_))
  refine thn (he.run pins t1 σ H1 _ I1 reading1) ?_
  rintro v t2 ⟨y, H2, I2, ry, reading2⟩
  refine Calls.spliced_cons (thn (hf.run pins t2 σ H2 _ I2 reading2) ?_)
  rintro w t3 ⟨z, H3, I3, rz, kvs, k, b, ea, rfl, eb, small, old, new⟩
  refine Calls.spliced_nil ?_
  cases (show v = Value.ref b from ry)
  exact d_setdT room I3 ea eb rz small (fun g hg _ _ J rg => ⟨g, H3, J, rg, old g hg⟩) (fun hn _ _ J rg => ⟨z, _, J, rg, new hn⟩)
section
variable {σ : L2.St} {H H3 : Hp} {Q : VK} {td ty tx : TE} {y : V}
theorem x_dst (h : td σ H fun x H1 => rDSTa ty tx σ Q x H1) : tDSetdT td ty tx σ H Q := h
theorem x_dstT {a : Addr} {kvs : List (List Key × V)} (h : H a = some (.dT kvs)) (q : ty σ H fun y H2 => tx σ H2 fun z H3 => rDSTb a Q y z H3) : rDSTa ty tx σ Q (.ref a) H := ⟨a, rfl, .inr ⟨kvs, .inl h⟩, q⟩
theorem x_dstb {a b : Addr} {kvs : List (List Key × V)} {k : List Key} {z : V} (h : H3 a = some (.dT kvs)) (hb : H3 b = some (.tup (k.map kV))) (l : kvs.length < sizeLine) (q1 : ∀ v, valV kvs k = some v → Q v H3) (q2 : valV kvs k = none → Q z (upd H3 a (.dT (putK kvs k z)))) :
    rDSTb a Q (.ref b) z H3 := ⟨kvs, k, b, h, rfl, hb, l, q1, q2⟩
end
/-! ### == of data nested up to n -/
def rEqN (K : PySem.W.Frag) (n : Nat) : R2 := fun x y H Q => ∃ d e, Dp K H x d ∧ Dp K H y e ∧ d.canLay0 = true ∧ e.canLay0 = true ∧ d.depth ≤ n ∧ Q (.bl (PyData.eqv d e)) H
theorem op_eqN {X : Cx} (K : PySem.W.Frag) (n : Nat) (hu : X.A.units + n < cLine) (ek : X.K = K := by rfl) : OpR X (compareOp .Eq) (rEqN K n) := by
  cases ek
  rintro pins t σ H x y u v Q I ru rv ⟨d, e, dx, ey, cd, ce, shallow, q⟩
  obtain ⟨_, rd⟩ := Dp.reads I d x u dx ru
  obtain ⟨_, re⟩ := Dp.reads I e y v ey rv
  have least := Nat.min_le_left d.depth e.depth
  exact SeqAt.compareEq_reads rd re cd ce (by omega) ⟨V.bl (PyData.eqv d e), H, I, rfl, q⟩
end K38
namespace K38
open PySem L2
/-! ### promises by depth: one frame a call -/
section
open PySem.Spec PyProof.Rows
structure RmD (d : Nat) (A : Around) : Prop where
  hd : A.handled = none
  dp : A.depth + d + 60 < recursionLimit
  un : A.units + 4 * d + 800 < cLine
theorem RmD.mono {d e : Nat} {A : Around} (r : RmD e A) (h : d ≤ e) : RmD d A := ⟨r.hd, by have := r.dp; omega, by have := r.un; omega⟩
theorem RmD.next {d : Nat} {A : Around} (r : RmD (d + 1) A) (v : Env) : RmD d (A.deeper v) := by
  obtain ⟨h1, h2, h3⟩ := r
  refine ⟨h1, ?_, ?_⟩
  · show A.depth + 1 + d + 60 < recursionLimit
    omega
  · show A.units + 3 + 4 * d + 800 < cLine
    omega
theorem RmD.room {d k : Nat} {A : Around} (r : RmD d A) (h : k ≤ 18 := by decide) : Room k A := ⟨r.hd, by have := r.dp; omega, by have := r.un; omega⟩
theorem RmD.of {d k : Nat} {A : Around} (r : Room k A) (h : d + 60 ≤ 3 * k + 5) (h2 : 4 * d + 800 ≤ 16 * k + 200) : RmD d A := ⟨r.hd, by have := r.dp; omega, by have := r.un; omega⟩
/-- the def at f keeps sp wherever d frames are left -/
structure FnD (P : Program) (w : World) (K : PySem.W.Frag) (mg : Str → Option Value) (base : Heap) (CX : CXT) (d : Nat) (f : Addr) (fd : FuncData)
    (ps : List Str) (sp : Sp) : Prop where
  few : ∀ {vs : List V} {H : Hp} {Q : VK} {E : XK}, sp vs H Q E → vs.length = ps.length
  go : ∀ {A : Around} {fr : List Env} {t : Shared} {H : Hp} {as : Args} {us : List Value} {vs : List V} {Q : VK} {E : XK},
    RmD d A → Env0 P w K mg base A fr t H → BindsTo t fd as (ps.zip us) → Vals vs us → sp vs H Q E →
      codeAny (model P w) A (.call (.ref f) as) (CR CX fr P w H t Q E) t
theorem FnD.ok {P : Program} {w : World} {K : PySem.W.Frag} {mg : Str → Option Value} {base : Heap} {CX : CXT} {d k : Nat} {f : Addr} {fd : FuncData} {ps : List Str} {sp : Sp}
    (F : FnD P w K mg base CX d f fd ps sp) (h : d + 60 ≤ 3 * k + 5) (h2 : 4 * d + 800 ≤ 16 * k + 200) : FnOk P w K mg base CX k f fd ps sp :=
  ⟨fun _ _ _ _ => F.few, fun _ _ _ _ _ _ _ _ _ r e b v q => F.go (RmD.of r h h2) e b v q⟩
/-- what a body's end tells a caller -/
theorem ce_D {X : Cx} {H H' : Hp} {σ : L2.St} {t t' : Shared} {v : V} {u : Value} {Q : VK} {fr : List Env} (J : Inv X [] σ H' t') (os : t'.os = t.os) (un : Un (frs fr) [] H H' t.heap t'.heap)
    (rv : RelV v u) (q : Q v H') (hp : HOk X.prog X.w H' t'.heap) : CE fr X.prog X.w H t Q u t' := ⟨_, _, os, J.bare, un, hp, rv, q⟩
/-- a def by its body, d + 1 frames left at the call, d within -/
theorem _root_.L2.Fun.okD {P : Program} {w : World} {K : PySem.W.Frag} {mg : Str → Option Value} {base : Heap} {x qual : Str} {st : Stmt} {f : Addr} {fd : FuncData} {N ps : List Str} {k : Nat} {sp : Sp}
    (F : Fun K x qual st f fd) (S : FnScope N ps (defScope st)) (few : ∀ (vs : List V) (H : Hp) (Q : VK) (E : XK), sp vs H Q E → vs.length = ps.length)
    (body : ∀ (cd : Value) (A : Around) (fr : List Env) (t : Shared) (H : Hp) (vs : List V) (Q : VK) (E : XK),
      RmD k (A.deeper (envOfC qual (defScope st) t.heap.objs.size f cd)) → sp vs H Q E →
        ∃ r, PSs (cxOf CX0 P w K mg base N qual (defScope st) f cd A fr t H E).nox (defBody st) r ∧
          r { nx := fun _ G => Q .non G, rt := Q } (start N vs) H) :
    FnD P w K mg base CX0 (k + 1) f fd ps sp := by
  obtain ⟨c1, d1, k1, q1, m1, n1, cd, t1, z1, e1, inK, code⟩ := F.ex
  subst e1
  refine ⟨few _ _ _ _, ?_⟩
  intro A fr t H as us vs Q E rm E0 bnd rel promise
  have up : ∀ {b : Addr} {o : Obj}, base.get? b = some o → t.heap.get? b = some o := fun {b o} q => (E0.bs b o q).1
  have inT : K.In t.heap := E0.mod.kin.keeps (fun _ _ q => up q)
  have free : t.heap.NoLimit := E0.mod.nolimit.keeps (fun _ _ q => up q)
  have width := few _ _ _ _ promise
  have deep : A.depth < recursionLimit := by
    have := rm.dp
    omega
  refine codeAny_call_function deep (inT _ _ inK) rfl S.co S.gen rfl (PySem.W.codeRec_of inT code) (bnd _ _ _ _ ?_)
  have kinds : ∀ p ∈ ps.zip us, (defScope st).names.lookup p.1 = some NameKind.local ∨
      ((defScope st).names.lookup p.1 = some NameKind.cell ∧ ((cellsFrom (t.heap.objs.size + 1) (defScope st).names []).lookup p.1).isSome = true) := by
    rintro ⟨y, u⟩ hy
    have two := S.par y (List.of_mem_zip hy).1
    exact two.imp id (fun c => ⟨c, PySem.W.cellsFrom_some _ _ _ (Or.inl c)⟩)
  refine wpAny_newFunctionEnv_cells S.kind kinds (fun v ev t2 x2 => ?_)
  subst ev
  refine ⟨free.keeps x2.toInCall.keep, codeAny_func ?_⟩
  have J0 := inv_start (CX := CX0) (P := P) (K := K) (mg := mg) (base := base) (qual := qual) (E := E) S rm.hd E0 width rel x2
  obtain ⟨r, derivation, reading⟩ := body cd A fr t H vs Q E (rm.next _) promise
  have run := derivation.nox.run [] t2 (start N vs) H { nx := fun _ G => Q .non G, rt := Q } J0 reading
  refine wpAny_mono run (fun flow t3 h3 => ?_) (fun _ _ h3 => h3)
  cases flow with
  | ret u =>
    obtain ⟨_, _, _, J, rv, q⟩ := h3
    exact ce_D J J.os J.base rv q J.hok
  | next =>
    obtain ⟨_, _, J, q⟩ := h3
    exact ce_D (v := V.non) (u := Value.none) J J.os J.base rfl q J.hok
  | brk => exact h3.elim fun _ z => z.elim fun _ z => z.2.elim
  | cont => exact h3.elim fun _ z => z.elim fun _ z => z.2.elim
/-- f(e, ..) of such a def -/
theorem pe_callD {X : Cx} {CX : CXT} {d : Nat} {f : Addr} {fd : FuncData} {ps : List Str} {sp : Sp} {dvs : List V} {ds : List Value} {E : XK} {x : Str} {p pos : Pos} {e : Expr} {es : List Expr} {t : TA}
    (F : FnD X.prog X.w X.K X.mg X.base CX d f fd ps sp) (rm : RmD d X.A) (hg : Gl X x) (hm : X.mg x = some (.ref f))
    (kp : PySem.W.keepIn X.K (.ref f) = true) (bd : Binds X.K fd ps ds) (dv : Vals dvs ds) (out : Passes CX X E) (ha : PA X (e :: es) t)
    (hdb : (x == ("__debug__" : Str)) = false := by decide)
    (he : starEach (e :: es) X.env = (false, eval e X.env) :: starEach es X.env := by rfl)
    (hpl : (backTo pos (starEach es X.env)).any (·.1) = false := by rfl) : PE X (.Call (.Name x p) (e :: es) [] pos) (tCall sp dvs E t) := by
  constructor
  intro pins t0 σ H Q I reading
  refine wpAny_Call_Name_kw (ld_glob I hg hm (PySem.W.callWith_K (h₀ := X.base) I.ok.mod.kin kp ?_ he hpl) hdb)
  refine thn (ha.run pos pins t0 σ H _ I reading) ?_
  rintro us t1 ⟨vs, G, J, rel, promise⟩
  refine ⟨J.kIn, ?_⟩
  have both : Vals (vs ++ dvs) (us ++ ds) := rel.append dv
  have width : (us ++ ds).length = ps.length := both.length ▸ F.few promise
  refine wpAny_call (codeAny_mono (F.go rm J.env0 (bd t1 us J.kIn width) both promise) ?_)
  intro r t2 h2
  match r, h2 with
  | .error u, h2 => exact out pins σ G t1 u t2 J h2
  | .ok (.ret u), h2 => exact J.after h2
  | .ok .next, h2 => exact h2.elim
  | .ok .brk, h2 => exact h2.elim
  | .ok .cont, h2 => exact h2.elim
end
end K38
namespace K38
open PySem L2
local macro_rules | `(tactic| walk_at "h") => `(tactic| first | assumption | with_reducible exact upd_same | (refine look1 ?_ (by assumption); walk_at "h") | (refine look2 ?_ (by walk_at "h") (by intro z; cases z); walk_at "h"))
local macro_rules | `(tactic| walk_at "s") => `(tactic| first
  | with_reducible refine x_c ?_
  | ((with_reducible apply x_var); rfl)
  | with_reducible refine x_op ?_
  | with_reducible refine x_I0 ?_
  | with_reducible refine x_bl ?_
  | with_reducible refine x_test ?_
  | with_reducible refine x_if ?_
  | with_reducible refine x_seq ?_
  | with_reducible refine x_asg ?_
  | with_reducible refine x_name ?_
  | ((with_reducible apply x_ixT); walk_at "h"; first | rfl | fail)
  | ((with_reducible apply x_ixL); walk_at "h"; first | assumption | rfl)
  | with_reducible refine x_eqI ?_
  | with_reducible refine x_eqS ?_
  | with_reducible refine x_neI ?_
  | with_reducible refine x_neS ?_
  | with_reducible refine x_fld ?_
  | ((with_reducible apply x_fldR); walk_at "h"; assumption; assumption; first | assumption | rfl)
  | with_reducible refine x_B ?_
  | with_reducible refine x_and ?_
  | with_reducible refine x_or ?_
  | with_reducible refine x_not ?_
  | with_reducible refine x_ifE ?_
  | with_reducible refine x_next ?_
  | with_reducible refine x_ret ?_
  | with_reducible refine x_retN ?_
  | with_reducible refine x_cont ?_
  | with_reducible refine x_brk ?_
  | with_reducible refine x_drop ?_
  | with_reducible refine x_nil ?_
  | with_reducible refine x_cons ?_
  | with_reducible refine x_cb ?_
  | with_reducible refine x_call ?_
  | with_reducible refine x_meth ?_
  | with_reducible refine x_bm ?_
  | ((with_reducible apply x_bmL); walk_at "h")
  | with_reducible refine x_bmS ?_
  | with_reducible refine x_tup ?_
  | with_reducible refine x_lst ?_
  | with_reducible refine x_sl ?_
  | with_reducible refine x_part ?_
  | with_reducible refine x_partR ?_
  | with_reducible refine x_nopart ?_
  | with_reducible refine x_andV ?_
  | with_reducible refine x_orV ?_
  | with_reducible refine x_notV ?_
  | with_reducible refine x_blV ?_
  | with_reducible refine x_setF ?_
  | with_reducible refine x_inS ?_
  | with_reducible refine x_rev ?_
  | with_reducible refine x_lcL ?_
  | with_reducible refine x_lcR ?_
  | with_reducible refine x_yes ?_
  | ((with_reducible apply x_lenL); walk_at "h")
  | with_reducible refine x_isN ?_
  | with_reducible refine x_notN ?_
  | with_reducible refine x_int1 ?_
  | with_reducible refine x_min2 ?_
  | ((with_reducible refine x_addS ?_ ?_); first | assumption | exact small__ (by omega))
  | with_reducible refine x_sw ?_
  | ((with_reducible apply x_ixS); (first | assumption | exact small__ (by omega)); assumption)
  | with_reducible refine x_forL ?_
  | with_reducible refine x_forR1 ?_
  | with_reducible refine x_forR2 ?_
  | with_reducible refine x_forE ?_
  | with_reducible refine iteT ?_
  | with_reducible refine iteF ?_
  | with_reducible refine x_dn ?_
  | with_reducible refine x_di ?_
  | with_reducible refine x_dg ?_
  | with_reducible refine x_dp ?_
  | ((with_reducible apply x_dnT); walk_at "h"; walk_at "h")
  | ((with_reducible apply x_dnK); walk_at "h")
  | ((with_reducible apply x_diK); walk_at "h")
  | ((with_reducible apply x_dgK); walk_at "h"; assumption)
  | with_reducible refine x_d2 ?_
  | ((with_reducible apply x_d2K); walk_at "h")
  | ((with_reducible apply x_d2T); walk_at "h")
  | ((with_reducible apply x_d2bK); walk_at "h")
  | ((with_reducible apply x_d2bT); walk_at "h"; walk_at "h")
  | with_reducible refine x_ds ?_
  | ((with_reducible apply x_dsK); walk_at "h")
  | ((with_reducible apply x_gtup); walk_at "h"; rfl)
  | with_reducible refine x_gcons ?_
  | with_reducible refine x_gnil ?_
  | ((with_reducible refine x_lenS ?_ ?_); first | assumption | exact small__ (by omega) | exact (show (1 : Nat) ≤ sizeLine by decide)))
local macro_rules | `(tactic| walk_at "go") => `(tactic| (repeat walk_at "s"))
local macro_rules | `(tactic| walk_at "n") => `(tactic| (simp only [Option.isSome_some, Option.isSome_none, Bool.not_true, Bool.not_false, Option.getD_some, Option.getD_none, Bool.false_eq_true, if_false, if_true, reduceIte]))
section
variable {P : Program} {w : World} {K : PySem.W.Frag} {mg : Str → Option Value} {base : Heap}
def spAdd (C : Addr) : Sp := fun vs H Q _ => ∃ (g : Addr) (z : Str) (H0 : Hp) (ad : Role → Addr) (S : SS) (m : Nat) (a : Addr) (x : I3), vs = [.ref (ad .sp), .int (m : Nat), .ref a] ∧ SpA C g z H0 H ad S ∧ m ≤ z.length ∧ H a = some (tI x) ∧
  (S.st m).length ≤ 99999 ∧ ∀ H', SpA C g z H0 H' ad (addI S m x) → TK H H' → Q .non H'
theorem ok_add (T : TX K mg) : FnOk P w K mg base CX0 1 T.f_Spans_add_item T.d_Spans_add_item ["self", "at", "item"] (spAdd T.C_Spans) := by
  refine T.F_Spans_add_item.ok sc_Spans_add_item (fun vs H Q E h => ?_) (fun cdv A outer s H vs Q E hr h => ?_)
  · obtain ⟨g, z, H0, ad, S, m, a, x, rfl, _⟩ := h
    rfl
  obtain ⟨g, z, H0, ad, S, m, a, x, rfl, A0, hm, ha, hl, k⟩ := h
  refine ⟨_, (pss_one (ps_if (pt_cmp (pc_dnotin (hu_of hr) (pv 2) (pe_ix (kx_list K) (kfld K (pv 0) rfl) (pv 1) (fun _ _ => rfl))))
  (pss_cons (ps_dput (hu_of hr) (pe_ix (kx_list K) (kfld K (pv 0) rfl) (pv 1) (fun _ _ => rfl)) (pv 2) pe_bl rfl)
  (pss_one (ps_expr (kbm K (pe_bm PySem.F.plainAttrs_list PySem.F.slot_list_append PySem.F.type_list_append mt_append (pe_ix (kx_list K) (kfld K (pv 0) rfl) (pv 1) (fun _ _ => rfl)) (pa_cons (pv 2) pa_nil))))))
  pss_nil)), ?_⟩
  obtain ⟨M, sM, AM, tM⟩ := A0.max
  obtain ⟨cl, n1, n2, n3, n4, n5, n6, n7, n8, n9⟩ := T.spF
  obtain ⟨s0, hn, R⟩ := AM
  have hsp := R.gSp
  have hth := R.gTh
  have hst := R.gSt
  have e1 := atI_range (f := fun i => V.ref (ad (.thA i))) hm
  have e2 := atI_range (f := fun i => V.ref (ad (.stA i))) hm
  have hthA := R.gThA (i := m) hm
  obtain ⟨vs, hv, hstA⟩ := R.gStA (i := m) hm
  dsimp only at hsp hth hst hthA hstA
  rw [tI_k] at ha
  walk_at "go"
  rw [valV_th]
  by_cases c : x ∈ S.st m
  · rw [if_pos c]
    walk_at "n"
    walk_at "go"
    have e : addI S m x = S := by unfold addI; rw [if_pos c]
    refine k H (by rw [e]; exact A0) (TK.refl H)
  · rw [if_neg c]
    walk_at "n"
    walk_at "go"
    refine x_dpT hthA ha (by rw [List.length_map]; exact small_ (by omega)) ?_
    rw [putK_new _ (by rw [valV_th, if_neg c])]
    have ne : ad (.stA m) ≠ ad (.thA m) := fun q => by cases R.inj (.stA m) (.thA m) hm hm q
    have ne1 : ad .sp ≠ ad (.thA m) := fun q => by cases R.inj .sp (.thA m) trivial hm q
    have ne2 : ad .st ≠ ad (.thA m) := fun q => by cases R.inj .st (.thA m) trivial hm q
    have R1 := R.upd (S' := S) (th' := setA S.st m (S.st m ++ [x])) (r := .thA m) (o' := .dT ((S.st m ++ [x]).map fun x => (kI x, V.bl true))) hm (fun q => Iff.rfl) (fun q o hq hu hc => by
      cases q with
      | thA i =>
        have hi : i ≠ m := fun e => hq (by rw [e])
        show o = .dT ((setA S.st m (S.st m ++ [x]) i).map fun x => (kI x, V.bl true))
        rw [setA_ne hi]; exact hc
      | _ => exact hc) (fun H' _ => by
        show HO.dT _ = .dT ((setA S.st m (S.st m ++ [x]) m).map fun x => (kI x, V.bl true))
        rw [setA_same])
    have eA : addI S m x = { S with st := setA S.st m (S.st m ++ [x]) } := by unfold addI; rw [if_neg c]
    rw [show (S.st m).map (fun x => (kI x, V.bl true)) ++ [(kI x, V.bl true)] = (S.st m ++ [x]).map fun x => (kI x, V.bl true) by simp]
    have hsp1 := R1.gSp
    have hst1 := R1.gSt
    have hstA1 : L2.upd H (ad (.thA m)) (.dT ((S.st m ++ [x]).map fun x => (kI x, V.bl true))) (ad (.stA m)) = some (.lst vs) := by rw [upd_ne ne]; exact hstA
    have ha1 : L2.upd H (ad (.thA m)) (.dT ((S.st m ++ [x]).map fun x => (kI x, V.bl true))) a = some (.tup ((kI x).map kV)) := by rw [upd_ne (ne_of ha hthA (by intro q; cases q))]; exact ha
    have R2 := R1.upd (S' := addI S m x) (th' := setA S.st m (S.st m ++ [x])) (r := .stA m) (o' := .lst (vs ++ [.ref a])) hm (fun q => by rw [eA]; cases q <;> exact Iff.rfl) (fun q o hq hu hc => by
      rw [eA]
      cases q with
      | stA i =>
        have hi : i ≠ m := fun e => hq (by rw [e])
        obtain ⟨vs', h1, h2⟩ := hc
        refine ⟨vs', ?_, h2⟩
        show Its _ vs' (setA S.st m (S.st m ++ [x]) i)
        rw [setA_ne hi]; exact h1
      | _ => exact hc) (fun H' tk => by
        rw [eA]
        refine ⟨vs ++ [.ref a], ?_, rfl⟩
        show Its _ _ (setA S.st m (S.st m ++ [x]) m)
        rw [setA_same]
        exact Paired.snoc' ⟨a, rfl, tk _ _ ha1⟩ ((hv.tk (TK.upd hthA (fun _ q => by cases q))).tk tk))
    generalize hH1 : L2.upd H (ad (.thA m)) (.dT ((S.st m ++ [x]).map fun x => (kI x, V.bl true))) = H1 at *
    dsimp only at hsp1 hst1 R2
    walk_at "go"
    refine x_append hstA1 ?_ ?_
    · have := Paired.length hv
      rw [this]; exact small_ (by omega)
    have fin : SpA T.C_Spans g z M (L2.upd H1 (ad (.stA m)) (.lst (vs ++ [.ref a]))) ad (addI S m x) := by
      refine ⟨?_, fun r hr => hn r ?_, ?_⟩
      · refine Same.mut ?_ (hn (.stA m) hm)
        rw [← hH1]
        exact Same.mut s0 (hn (.thA m) hm)
      · rw [eA] at hr; cases r <;> exact hr
      · have : (addI S m x).st = setA S.st m (S.st m ++ [x]) := by rw [eA]
        rw [this]; exact R2
    exact k _ (fin.down sM) (tM.trans (same_tk fin.same))
end
section
variable {P : Program} {w : World} {K : PySem.W.Frag} {mg : Str → Option Value} {base : Heap}
def spPred (C : Addr) : Sp := fun vs H Q _ => ∃ (g : Addr) (z : Str) (H0 : Hp) (ad : Role → Addr) (S : SS) (m : Nat) (x : NT), vs = [.ref (ad .sp), .int (m : Nat), .str (nS x)] ∧ SpA C g z H0 H ad S ∧ m ≤ z.length ∧
  (S.st m).length ≤ 99990 ∧ ∀ H', SpA C g z H0 H' ad (predI S m (byN x)) → TK H H' → Q .non H'
theorem addI_len (S : SS) (m k : Nat) (x : I3) : ((addI S m x).st k).length ≤ (S.st k).length + 1 := by
  unfold addI
  split
  · omega
  · show (setA S.st m (S.st m ++ [x]) k).length ≤ _
    by_cases e : k = m
    · subst e; rw [setA_same, List.length_append]; simp
    · rw [setA_ne e]; omega
theorem predI_len (m : Nat) : ∀ (rs : List Nat) (S : SS), ((predI S m rs).st m).length ≤ (S.st m).length + rs.length
  | [], S => Nat.le_refl _
  | r :: rs, S => by
    have h1 := predI_len m rs (addI S m (r, 0, m))
    have h2 := addI_len S m m (r, 0, m)
    show ((predI (addI S m (r, 0, m)) m rs).st m).length ≤ _
    rw [List.length_cons]; omega
theorem byN_few (x : NT) : (byN x).length ≤ 3 := by cases x <;> simp [byN]
theorem ok_predict (T : TX K mg) (G_Spans_add_item : FnOk P w K mg base CX0 1 T.f_Spans_add_item T.d_Spans_add_item ["self", "at", "item"] (spAdd T.C_Spans)) :
    FnOk P w K mg base CX0 2 T.f_Spans_predict T.d_Spans_predict ["self", "at", "name"] (spPred T.C_Spans) := by
  refine T.F_Spans_predict.ok sc_Spans_predict (fun vs H Q E h => ?_) (fun cdv A outer s H vs Q E hr h => ?_)
  · obtain ⟨g, z, H0, ad, S, m, x, rfl, _⟩ := h
    rfl
  obtain ⟨g, z, H0, ad, S, m, x, rfl, A0, hm, hl, k⟩ := h
  refine ⟨_, (pss_one (ps_for PassesOwn.never rfl (kpi_list K (pe_dget2 (hu_of hr) (kfld K (pv 0) rfl) (pv 2) (pe_lst pa_nil) ⟨rfl, rfl, rfl, rfl⟩)) (pg_name (i := 3) sc_Spans_predict.nd rfl (Or.inl rfl))
  (pss_one (ps_expr (pe_meth (pv 0) T.cl_Spans T.me_Spans_add_item G_Spans_add_item (hr.mono (by decide)) T.b_Spans_add_item .nil pass0 (pa_cons (pv 1) (pa_cons (pe_tup (pa_cons (pv 3) (pa_cons pe_int (pa_cons (pv 1) pa_nil)))) pa_nil))))))), ?_⟩
  obtain ⟨M, sM, AM, tM⟩ := A0.max
  obtain ⟨cl, n1, n2, n3, n4, n5, n6, n7, n8, n9⟩ := T.spF
  have R := AM.rep
  have hsp := R.gSp
  have hbn := R.gBn
  have hbl := R.gBl x
  dsimp only at hsp hbn hbl
  walk_at "go"
  refine ⟨Nat.zero_le _, fun p hp => ?_⟩
  refine x_d2bK (look1 hbn hp) ?_
  rw [valV_dk, if_pos (allN_all x)]
  walk_at "n"
  refine x_forLR (xs := (byN x).map fun r => V.int (r : Nat)) (look1 hbl hp) (fun i σ H' => ∃ v, σ = [some (.ref (ad .sp)), some (.int (m : Nat)), some (.str (nS x)), v] ∧ SpA T.C_Spans g z (upd M p (.lst [])) H' ad (predI S m ((byN x).take i)))
    ⟨none, rfl, AM.new hp⟩ (fun i σ H' _ ⟨_, _, A⟩ => A.rep.gBl x) ?_ ?_
  · rintro i y σ H' hi ⟨v, rfl, A⟩
    obtain ⟨r, hr', rfl⟩ : ∃ r, (byN x)[i]? = some r ∧ y = V.int (r : Nat) := by
      rw [List.getElem?_map] at hi
      obtain ⟨r, h1, h2⟩ := Option.map_eq_some_iff.mp hi
      exact ⟨r, h1, h2.symm⟩
    have hsp' := A.rep.gSp
    dsimp only at hsp'
    have hlen : ((predI S m ((byN x).take i)).st m).length ≤ 99999 := by
      have h1 := predI_len m ((byN x).take i) S
      have h2 := byN_few x
      have h3 : ((byN x).take i).length ≤ (byN x).length := by rw [List.length_take]; omega
      omega
    walk_at "go"
    refine x_methR hsp' rfl ?_
    walk_at "go"
    refine ⟨by show 3 ≤ sizeLine; decide, fun q hq => ?_⟩
    walk_at "go"
    refine ⟨g, z, _, ad, _, m, q, (r, 0, m), rfl, A.new (o := tI (r, 0, m)) hq, hm, upd_same, hlen, fun H2 A2 _ => ?_⟩
    refine ⟨_, rfl, ?_⟩
    rw [take_more hr']
    have e : predI S m ((byN x).take i ++ [r]) = addI (predI S m ((byN x).take i)) m (r, 0, m) := by unfold predI; rw [List.foldl_append]; rfl
    rw [e]
    exact A2.down (Same.new (A.same.free hq))
  · rintro σ H' ⟨v, rfl, A⟩
    rw [List.length_map, List.take_length] at A
    have hpM : M p = none := AM.same.free hp
    exact k H' (A.down (sM.trans (Same.new hpM))) (tM.trans ((same_tk (Same.new hpM)).trans (same_tk A.same)))
end
/-- what ends(y, m) hands back -/
def EndsOk (t : Tx) (S : SS) (y : Sym) (m : Nat) (L : List Nat) : Prop := match y with
  | .nt x => L.Perm ((S.rw m x).getD []) ∧ L.Pairwise (· ≤ ·)
  | y => L = tE t y m
section
variable {P : Program} {w : World} {K : PySem.W.Frag} {mg : Str → Option Value} {base : Heap}
def spEnds (C : Addr) : Sp := fun vs H Q _ => ∃ (g : Addr) (z : Str) (H0 : Hp) (ad : Role → Addr) (S : SS) (a : Addr) (y : Sym) (m : Nat), vs = [.ref (ad .sp), .ref a, .int (m : Nat)] ∧ SpA C g z H0 H ad S ∧ SymAt H a y ∧ m ≤ z.length ∧ z.length ≤ 1000 ∧
  ∀ H' p L, Same H H' → H p = none → H' p = some (.lst (L.map fun e : Nat => V.int (e : Nat))) → EndsOk (tx z) S y m L → Q (.ref p) H'
theorem ok_ends (T : TX K mg) : FnOk P w K mg base CX0 1 T.f_Spans_ends T.d_Spans_ends ["self", "symbol", "at"] (spEnds T.C_Spans) := by
  refine T.F_Spans_ends.ok sc_Spans_ends (fun vs H Q E h => ?_) (fun cdv A outer s H vs Q E hr h => ?_)
  · obtain ⟨g, z, H0, ad, S, a, y, m, rfl, _⟩ := h
    rfl
  obtain ⟨g, z, H0, ad, S, a, y, m, rfl, A0, ha, hm, hz, k⟩ := h
  refine ⟨_, (pss_cons (ps_if (pt_cmpR op_eq (pe_ix (kx_tup K) (pv 1) pe_int (fun _ _ => rfl)) pe_str (nomark _))
  (pss_one (ps_ret (pe_ifExp (pt_val (kbm K (pe_bm PySem.F.plainAttrs_str PySem.F.slot_str_startswith PySem.F.type_str_startswith mr_sw (kfld K (pv 0) rfl) (pa_cons (pe_ix (kx_tup K) (pv 1) pe_int (fun _ _ => rfl)) (pa_cons (pv 2) pa_nil))))) (pe_lst (pa_cons (pe_op op_add (pv 2) (pe_callB cl_lenS (by rfl) T.z_len (by decide +kernel) (pa_cons (pe_ix (kx_tup K) (pv 1) pe_int (fun _ _ => rfl)) pa_nil))) pa_nil)) (pe_lst pa_nil))))
  pss_nil)
  (pss_cons (ps_if (pt_cmpR op_eq (pe_ix (kx_tup K) (pv 1) pe_int (fun _ _ => rfl)) pe_str (nomark _))
  (pss_one (ps_ret (pe_ifExp (PW.pt (pw_and (pt_cmpR op_lt (pv 2) (pe_callB cl_lenS (by rfl) T.z_len (by decide +kernel) (pa_cons (kfld K (pv 0) rfl) pa_nil)) (nomark _)) (pw_and1 (pt_cmpR or_inS (pe_ix ix_str (kfld K (pv 0) rfl) (pv 2) (fun _ _ => rfl)) (pe_ix (kx_tup K) (pv 1) pe_int (fun _ _ => rfl)) rfl)))) (pe_lst (pa_cons (pe_op op_add (pv 2) pe_int) pa_nil)) (pe_lst pa_nil))))
  pss_nil)
  (pss_cons (ps_if (pt_cmpR op_eq (pe_ix (kx_tup K) (pv 1) pe_int (fun _ _ => rfl)) pe_str (nomark _))
  (pss_cons (ps_set (i := 3) sc_Spans_ends.nd rfl (Or.inl rfl) (pv 2))
  (pss_cons (ps_while PassesOwn.never (PW.pt (pw_and (pt_cmpR op_lt (pv 3) (pe_callB cl_lenS (by rfl) T.z_len (by decide +kernel) (pa_cons (kfld K (pv 0) rfl) pa_nil)) (nomark _)) (pw_and1 (pt_cmpR or_inS (pe_ix ix_str (kfld K (pv 0) rfl) (pv 3) (fun _ _ => rfl)) (pe_ix (kx_tup K) (pv 1) pe_int (fun _ _ => rfl)) rfl))))
  (pss_one (ps_set (i := 3) sc_Spans_ends.nd rfl (Or.inl rfl) (pe_op op_add (pv 3) pe_int))))
  (pss_one (ps_ret (pe_ifExp (pt_cmpR op_gt (pv 3) (pv 2) (nomark _)) (pe_lst (pa_cons (pv 3) pa_nil)) (pe_lst pa_nil))))))
  pss_nil)
  (pss_one (ps_ret (pe_callB (kc_sortedI K) (by rfl) T.z_sorted (by decide +kernel) (pa_cons (pe_dget2 (hu_of hr) (pe_ix (kx_list K) (kfld K (pv 0) rfl) (pv 2) (fun _ _ => rfl)) (pe_ix (kx_tup K) (pv 1) pe_int (fun _ _ => rfl)) (pe_lst pa_nil) ⟨rfl, rfl, rfl, rfl⟩) pa_nil))))))), ?_⟩
  obtain ⟨cl, n1, n2, n3, n4, n5, n6, n7, n8, n9⟩ := T.spF
  have R := A0.rep
  have hsp := R.gSp
  have hro := R.gRo
  dsimp only at hsp hro
  have e1 := atI_range (f := fun i => V.ref (ad (.roA i))) hm
  have hl := len_tx z
  cases y with
  | lit c =>
    have ha : H a = some (.tup [.str "lit", .str ⟨#[c]⟩]) := ha
    walk_at "go"
    refine iteY (by decide +kernel) ?_
    walk_at "go"
    rw [sw_one z c m hm]
    have fin : ∀ (L : List Nat), L = tE (tx z) (.lit c) m → L.length ≤ 10 → ∀ p, H p = none → Q (.ref p) (upd H p (.lst (L.map fun e : Nat => V.int (e : Nat)))) := fun L e _ p hp => k _ p L (Same.new hp) hp upd_same e
    by_cases q : (tx z)[m]? = some c
    · refine iteY q ?_
      walk_at "go"
      refine ⟨by show 1 ≤ sizeLine; decide, fun p hp => ?_⟩
      have := fin [m + 1] (by show _ = (if (tx z)[m]? = some c then [m + 1] else []); rw [if_pos q]) (by simp) p hp
      exact this
    · refine iteN q ?_
      walk_at "go"
      refine ⟨Nat.zero_le _, fun p hp => ?_⟩
      have := fin [] (by show _ = (if (tx z)[m]? = some c then [m + 1] else []); rw [if_neg q]) (by simp) p hp
      exact this
  | run b =>
    have ha : H a = some (.tup [.str "run", .str (clsS b)]) := by rw [← vlS_run]; exact ha
    walk_at "go"
    refine iteN (by decide +kernel) ?_
    walk_at "go"
    refine iteN (by decide +kernel) ?_
    walk_at "go"
    refine iteY (by decide +kernel) ?_
    walk_at "go"
    refine x_while (fun σ H' => ∃ e : Nat, σ = [some (.ref (ad .sp)), some (.ref a), some (.int (m : Nat)), some (.int (e : Nat))] ∧ H' = H ∧ m ≤ e ∧ e ≤ z.length ∧ ∀ i, m ≤ i → i < e → ∃ c, (tx z)[i]? = some c ∧ isC b c = true)
      (fun σ _ => match σ with
        | [_, _, _, some (.int e)] => z.length - e.toNat
        | _ => 0) ⟨m, rfl, rfl, Nat.le_refl _, hm, fun i h1 h2 => absurd h2 (by omega)⟩ ?_
    rintro σ H' ⟨e, rfl, rfl, h1, h2, h3⟩
    walk_at "go"
    have fin : (∀ c, (tx z)[e]? = some c → isC b c = false) → tE (tx z) (.run b) m = if e > m then [e] else [] := fun hc => by
      show (if runE b (tx z) m > m then [runE b (tx z) m] else []) = _
      rw [runE_of h1 h3 hc]
    by_cases c1 : (e : Int) < (z.length : Int)
    · refine iteY c1 ?_
      obtain ⟨c, hc⟩ : ∃ c, (tx z)[e]? = some c := ⟨_, List.getElem?_eq_getElem (by omega)⟩
      have hat := atI_tx hc
      walk_at "go"
      rw [show (clsS b).cps.toList = tx (clsS b) from rfl, isC_cls]
      refine iteB (fun q => ?_) (fun q => ?_)
      · refine x_wh ?_
        walk_at "go"
        refine ⟨⟨e + 1, rfl, rfl, by omega, by omega, fun i i1 i2 => ?_⟩, ?_⟩
        · by_cases ei : i = e
          · subst ei; exact ⟨c, hc, q⟩
          · exact h3 i i1 (by omega)
        · show z.length - ((e : Int) + 1).toNat < z.length - (e : Int).toNat
          omega
      · walk_at "go"
        have ft := fin (fun c' hc' => by rw [hc] at hc'; cases hc'; exact q)
        by_cases cc : (m : Int) < (e : Int)
        · refine iteY cc ?_
          walk_at "go"
          refine ⟨by show 1 ≤ sizeLine; decide, fun p hp => k _ p [e] (Same.new hp) hp upd_same ?_⟩
          show [e] = tE (tx z) (.run b) m
          rw [ft, if_pos (by omega)]
        · refine iteN cc ?_
          walk_at "go"
          refine ⟨Nat.zero_le _, fun p hp => k _ p [] (Same.new hp) hp upd_same ?_⟩
          show [] = tE (tx z) (.run b) m
          rw [ft, if_neg (by omega)]
    · refine iteN c1 ?_
      walk_at "go"
      have ft := fin (fun c' hc' => by
        have := (List.getElem?_eq_some_iff.mp hc').1
        omega)
      by_cases cc : (m : Int) < (e : Int)
      · refine iteY cc ?_
        walk_at "go"
        refine ⟨by show 1 ≤ sizeLine; decide, fun p hp => k _ p [e] (Same.new hp) hp upd_same ?_⟩
        show [e] = tE (tx z) (.run b) m
        rw [ft, if_pos (by omega)]
      · refine iteN cc ?_
        walk_at "go"
        refine ⟨Nat.zero_le _, fun p hp => k _ p [] (Same.new hp) hp upd_same ?_⟩
        show [] = tE (tx z) (.run b) m
        rw [ft, if_neg (by omega)]
  | nt x =>
    have ha : H a = some (.tup [.str "nt", .str (nS x)]) := ha
    obtain ⟨ks, hk1, hk2, hroA⟩ := R.gRoA (i := m) hm
    walk_at "go"
    refine iteN (by decide +kernel) ?_
    walk_at "go"
    refine iteN (by decide +kernel) ?_
    walk_at "go"
    refine iteN (by decide +kernel) ?_
    walk_at "go"
    refine ⟨Nat.zero_le _, fun q hq => ?_⟩
    refine x_d2bK (look1 hroA hq) ?_
    rw [valV_dk]
    have hsrc : ∃ r, (if x ∈ ks then some (V.ref (ad (.roL m x))) else none).getD (.ref q) = .ref r ∧ upd H q (.lst []) r = some (.lst (((S.rw m x).getD []).map fun e : Nat => V.int (e : Nat))) := by
      by_cases c : x ∈ ks
      · rw [if_pos c]
        obtain ⟨es, hes⟩ := Option.isSome_iff_exists.mp ((hk2 x).mp c)
        exact ⟨_, rfl, by rw [hes]; exact look1 (R.gRoL hm hes) hq⟩
      · rw [if_neg c]
        have hn : S.rw m x = none := by
          cases e : S.rw m x with
          | none => rfl
          | some _ => exact absurd ((hk2 x).mpr (by rw [e]; rfl)) c
        exact ⟨q, rfl, by rw [hn]; exact upd_same⟩
    obtain ⟨r, er, hr'⟩ := hsrc
    rw [er]
    walk_at "go"
    refine x_sortI (ns := ((S.rw m x).getD []).map fun e : Nat => (e : Int)) (by rw [List.map_map]; exact hr') fun ns' p hp1 hp2 hp => ?_
    obtain ⟨L, rfl⟩ : ∃ L : List Nat, ns' = L.map fun e : Nat => (e : Int) := by
      refine ⟨ns'.map Int.toNat, ?_⟩
      rw [List.map_map]
      refine (List.map_id ns').symm.trans (List.map_congr_left fun a ha => ?_)
      obtain ⟨e, _, he⟩ := List.mem_map.mp (hp1.mem_iff.mp ha)
      show a = ((a.toNat : Nat) : Int)
      omega
    have hpq := free1 hp
    refine k _ p L ((Same.new hq).trans (Same.new hp)) hpq.1 (by rw [upd_same, List.map_map]; rfl) ⟨?_, ?_⟩
    · have := hp1.map Int.toNat
      rw [List.map_map, List.map_map] at this
      simpa [Function.comp_def] using this
    · rw [List.pairwise_map] at hp2
      exact hp2.imp (fun h => by omega)
end
section
variable {P : Program} {w : World} {K : PySem.W.Frag} {mg : Str → Option Value} {base : Heap}
theorem adds_len (m : Nat) (f : Nat → I3) : ∀ (es : List Nat) (S : SS), ((es.foldl (fun S e => addI S e (f e)) S).st m).length ≤ (S.st m).length + es.length
  | [], S => Nat.le_refl _
  | e :: es, S => by
    have h1 := adds_len m f es (addI S e (f e))
    have h2 := addI_len S e m (f e)
    rw [List.foldl_cons, List.length_cons]; omega
theorem tE_few (t : Tx) (y : Sym) (m : Nat) : (tE t y m).length ≤ 1 := by
  cases y with
  | nt x => simp [tE]
  | lit c => show (if t[m]? = some c then [m + 1] else []).length ≤ 1; split <;> simp
  | run b => show (if runE b t m > m then [runE b t m] else []).length ≤ 1; split <;> simp
def spScan (C : Addr) : Sp := fun vs H Q _ => ∃ (g : Addr) (z : Str) (H0 : Hp) (ad : Role → Addr) (S : SS) (m : Nat) (a b : Addr) (x : I3) (y : Sym), vs = [.ref (ad .sp), .int (m : Nat), .ref a, .ref b] ∧ SpA C g z H0 H ad S ∧ m ≤ z.length ∧ z.length ≤ 1000 ∧
  H a = some (tI x) ∧ SymAt H b y ∧ (∀ u, y ≠ .nt u) ∧ (∀ e, (S.st e).length ≤ 99990) ∧ ∀ H', SpA C g z H0 H' ad (scanI S x (tE (tx z) y m)) → TK H H' → Q .non H'
theorem ok_scan (T : TX K mg) (G_Spans_add_item : FnOk P w K mg base CX0 1 T.f_Spans_add_item T.d_Spans_add_item ["self", "at", "item"] (spAdd T.C_Spans))
    (G_Spans_ends : FnOk P w K mg base CX0 1 T.f_Spans_ends T.d_Spans_ends ["self", "symbol", "at"] (spEnds T.C_Spans)) :
    FnOk P w K mg base CX0 2 T.f_Spans_scan T.d_Spans_scan ["self", "at", "item", "symbol"] (spScan T.C_Spans) := by
  refine T.F_Spans_scan.ok sc_Spans_scan (fun vs H Q E h => ?_) (fun cdv A outer s H vs Q E hr h => ?_)
  · obtain ⟨g, z, H0, ad, S, m, a, b, x, y, rfl, _⟩ := h
    rfl
  obtain ⟨g, z, H0, ad, S, m, a, b, x, y, rfl, A0, hm, hz, ha, hb, hy, hl, k⟩ := h
  refine ⟨_, (pss_cons (ps_asg (pv 2) (kpg_tup K 3 rfl (pgs_cons (pg_name (i := 4) sc_Spans_scan.nd rfl (Or.inl rfl)) (pgs_cons (pg_name (i := 5) sc_Spans_scan.nd rfl (Or.inl rfl)) (pgs_cons (pg_name (i := 6) sc_Spans_scan.nd rfl (Or.inl rfl)) pgs_nil)))))
  (pss_one (ps_for PassesOwn.never rfl (kpi_list K (pe_meth (pv 0) T.cl_Spans T.me_Spans_ends G_Spans_ends (hr.mono (by decide)) T.b_Spans_ends .nil pass0 (pa_cons (pv 3) (pa_cons (pv 1) pa_nil)))) (pg_name (i := 7) sc_Spans_scan.nd rfl (Or.inl rfl))
  (pss_one (ps_expr (pe_meth (pv 0) T.cl_Spans T.me_Spans_add_item G_Spans_add_item (hr.mono (by decide)) T.b_Spans_add_item .nil pass0 (pa_cons (pv 7) (pa_cons (pe_tup (pa_cons (pv 4) (pa_cons (pe_op op_add (pv 5) pe_int) (pa_cons (pv 6) pa_nil)))) pa_nil)))))))), ?_⟩
  obtain ⟨M, sM, AM, tM⟩ := A0.max
  have hsp := AM.rep.gSp
  dsimp only at hsp
  have ha' : H a = some (.tup [.int (x.1 : Nat), .int (x.2.1 : Nat), .int (x.2.2 : Nat)]) := ha
  walk_at "go"
  refine x_methR hsp rfl ?_
  walk_at "go"
  refine ⟨g, z, M, ad, S, b, y, m, rfl, AM, hb, hm, hz, fun H1 p L s1 hp hL hE => ?_⟩
  have hE : L = tE (tx z) y m := by
    cases y with
    | nt u => exact absurd rfl (hy u)
    | lit c => exact hE
    | run c => exact hE
  obtain ⟨M1, sM1, A1, t1, new1⟩ := AM.after s1
  refine x_forLR (xs := L.map fun e : Nat => V.int (e : Nat)) hL (fun i σ H' => ∃ v, σ = [some (.ref (ad .sp)), some (.int (m : Nat)), some (.ref a), some (.ref b), some (.int (x.1 : Nat)), some (.int (x.2.1 : Nat)), some (.int (x.2.2 : Nat)), v] ∧ SpA T.C_Spans g z M1 H' ad (scanI S x (L.take i)))
    ⟨none, rfl, A1⟩ (fun i σ H' _ ⟨_, _, A⟩ => A.same _ _ (new1 _ _ hL hp)) ?_ ?_
  · rintro i v σ H' hi ⟨v0, rfl, A⟩
    obtain ⟨e, he, rfl⟩ : ∃ e, L[i]? = some e ∧ v = V.int (e : Nat) := by
      rw [List.getElem?_map] at hi
      obtain ⟨r, h1, h2⟩ := Option.map_eq_some_iff.mp hi
      exact ⟨r, h1, h2.symm⟩
    have hle : e ≤ z.length := by
      have : e ∈ tE (tx z) y m := by rw [← hE]; exact List.mem_of_getElem? he
      rw [len_tx]; exact (tE_gt this).2
    have hsp' := A.rep.gSp
    dsimp only at hsp'
    have hlen : ((scanI S x (L.take i)).st e).length ≤ 99999 := by
      have h1 := adds_len e (fun _ => (x.1, x.2.1 + 1, x.2.2)) (L.take i) S
      have h2 := tE_few (tx z) y m
      rw [← hE] at h2
      have h3 : (L.take i).length ≤ L.length := by rw [List.length_take]; omega
      have := hl e
      unfold scanI
      omega
    walk_at "go"
    refine x_methR hsp' rfl ?_
    walk_at "go"
    refine ⟨by show 3 ≤ sizeLine; decide, fun q hq => ?_⟩
    walk_at "go"
    refine ⟨g, z, _, ad, _, e, q, (x.1, x.2.1 + 1, x.2.2), rfl, A.new (o := tI (x.1, x.2.1 + 1, x.2.2)) hq, hle, upd_same, hlen, fun H2 A2 _ => ?_⟩
    refine ⟨_, rfl, ?_⟩
    rw [take_more he]
    have e : scanI S x (L.take i ++ [e]) = addI (scanI S x (L.take i)) e (x.1, x.2.1 + 1, x.2.2) := by unfold scanI; rw [List.foldl_append]; rfl
    rw [e]
    exact A2.down (Same.new (A.same.free hq))
  · rintro σ H' ⟨v, rfl, A⟩
    rw [List.length_map, List.take_length, hE] at A
    exact k H' (A.down (sM.trans sM1)) ((same_tk s1).trans (t1.trans (same_tk A.same)))
end
section
variable {P : Program} {w : World} {K : PySem.W.Frag} {mg : Str → Option Value} {base : Heap}
def spComp (C : Addr) : Sp := fun vs H Q _ => ∃ (g : Addr) (z : Str) (H0 : Hp) (ad : Role → Addr) (S : SS) (m : Nat) (a : Addr) (x : I3) (l : Bool), vs = [.ref (ad .sp), .int (m : Nat), .ref a] ∧ SpA C g z H0 H ad S ∧ GramAt H0 l g ∧ m ≤ z.length ∧
  H a = some (tI x) ∧ x.1 < 9 ∧ x.2.2 ≤ z.length ∧ (∀ es, S.rw x.2.2 (left x.1) = some es → es.length ≤ 99999) ∧ (S.st m).length + ((S.wt x.2.2 (left x.1)).getD []).length ≤ 99990 ∧
  ∀ H' ad', AdExt z.length S ad ad' → SpA C g z H0 H' ad' (compI S m (left x.1) x.2.2) → TK H H' → Q .non H'
theorem advI_len (m : Nat) : ∀ (ys : List I3) (S : SS), ((advI S m ys).st m).length ≤ (S.st m).length + ys.length
  | [], S => Nat.le_refl _
  | y :: ys, S => by
    have h1 := advI_len m ys (addI S m (y.1, y.2.1 + 1, y.2.2))
    have h2 := addI_len S m m (y.1, y.2.1 + 1, y.2.2)
    show ((advI (addI S m (y.1, y.2.1 + 1, y.2.2)) m ys).st m).length ≤ _
    rw [List.length_cons]; omega
theorem inV_nats (m : Nat) : ∀ es : List Nat, inV (.int (m : Nat)) (es.map fun e : Nat => V.int (e : Nat)) = decide (m ∈ es)
  | [] => rfl
  | e :: es => by
    have ih := inV_nats m es
    unfold inV at ih ⊢
    rw [List.map_cons, List.any_cons, ih]
    have : eqV (.int (e : Nat)) (.int (m : Nat)) = decide (e = m) := by
      show ((e : Int) == (m : Int)) = _
      by_cases h : e = m
      · subst h; simp
      · rw [decide_eq_false h]
        exact beq_eq_false_iff_ne.mpr (by omega)
    rw [this]
    by_cases h : e = m
    · subst h; simp
    · by_cases h2 : m ∈ es
      · simp [h2]
      · simp [h, h2, Ne.symm h]
theorem flat_nats (es : List Nat) : (es.map fun e : Nat => V.int (e : Nat)).all flatV = true := by
  rw [List.all_map]; exact List.all_eq_true.mpr fun _ _ => rfl
theorem ok_complete (T : TX K mg) (G_Spans_add_item : FnOk P w K mg base CX0 1 T.f_Spans_add_item T.d_Spans_add_item ["self", "at", "item"] (spAdd T.C_Spans)) :
    FnOk P w K mg base CX0 2 T.f_Spans_complete T.d_Spans_complete ["self", "at", "item"] (spComp T.C_Spans) := by
  refine T.F_Spans_complete.ok sc_Spans_complete (fun vs H Q E h => ?_) (fun cdv A outer s H vs Q E hr h => ?_)
  · obtain ⟨g, z, H0, ad, S, m, a, x, l, rfl, _⟩ := h
    rfl
  obtain ⟨g, z, H0, ad, S, m, a, x, l, rfl, A0, hg, hm, ha, hx9, hxn, hes, hlen, k⟩ := h
  refine ⟨_, (pss_cons (ps_asg (pv 2) (kpg_tup K 3 rfl (pgs_cons (pg_name (i := 3) sc_Spans_complete.nd rfl (Or.inl rfl)) (pgs_cons (pg_name (i := 4) sc_Spans_complete.nd rfl (Or.inl rfl)) (pgs_cons (pg_name (i := 5) sc_Spans_complete.nd rfl (Or.inl rfl)) pgs_nil)))))
  (pss_cons (ps_set (i := 6) sc_Spans_complete.nd rfl (Or.inl rfl) (pe_ix (kx_tup K) (pe_ix (kx_list K) (pe_ix (kx_tup K) (kfld K (pv 0) rfl) pe_int (fun _ _ => rfl)) (pv 3) (fun _ _ => rfl)) pe_int (fun _ _ => rfl)))
  (pss_cons (ps_set (i := 7) sc_Spans_complete.nd rfl (Or.inl rfl) (pe_dsetd (pe_ix (kx_list K) (kfld K (pv 0) rfl) (pv 5) (fun _ _ => rfl)) (pv 6) (pe_lst pa_nil) ⟨rfl, rfl, rfl, rfl⟩))
  (pss_one (ps_if (pt_cmpR (knotin_seq K) (pv 1) (pv 7) rfl)
  (pss_cons (ps_expr (kbm K (pe_bm PySem.F.plainAttrs_list PySem.F.slot_list_append PySem.F.type_list_append mt_append (pv 7) (pa_cons (pv 1) pa_nil))))
  (pss_one (ps_for PassesOwn.never rfl (kpi_list K (pe_dget2 (hu_of hr) (pe_ix (kx_list K) (kfld K (pv 0) rfl) (pv 5) (fun _ _ => rfl)) (pv 6) (pe_lst pa_nil) ⟨rfl, rfl, rfl, rfl⟩)) (kpg_tup K 3 rfl (pgs_cons (pg_name (i := 8) sc_Spans_complete.nd rfl (Or.inl rfl)) (pgs_cons (pg_name (i := 9) sc_Spans_complete.nd rfl (Or.inl rfl)) (pgs_cons (pg_name (i := 10) sc_Spans_complete.nd rfl (Or.inl rfl)) pgs_nil))))
  (pss_one (ps_expr (pe_meth (pv 0) T.cl_Spans T.me_Spans_add_item G_Spans_add_item (hr.mono (by decide)) T.b_Spans_add_item .nil pass0 (pa_cons (pv 1) (pa_cons (pe_tup (pa_cons (pv 8) (pa_cons (pe_op op_add (pv 9) pe_int) (pa_cons (pv 10) pa_nil)))) pa_nil))))))))
  pss_nil))))), ?_⟩
  obtain ⟨M, sM, AM, tM⟩ := A0.max
  obtain ⟨cl, n1, n2, n3, n4, n5, n6, n7, n8, n9⟩ := T.spF
  have R := AM.rep
  have hsp := R.gSp
  have hro := R.gRo
  dsimp only at hsp hro
  obtain ⟨r, j, st⟩ := x
  simp only at ha hx9 hxn hes hlen k
  have ha' : H a = some (.tup [.int (r : Nat), .int (j : Nat), .int (st : Nat)]) := ha
  have e1 := atI_range (f := fun i => V.ref (ad (.roA i))) hxn
  obtain ⟨rl, rvs, ra, sa, lab, g1, g2, g3, g4, _⟩ := (hg.same A0.same).rule hx9
  obtain ⟨ks, hk1, hk2, hroA⟩ := R.gRoA (i := st) hxn
  dsimp only at hroA
  walk_at "go"
  refine ⟨Nat.zero_le _, fun q hq => ?_⟩
  have kl : (ks.map fun x => ((.inr (nS x) : Key), V.ref (ad (.roL st x)))).length < sizeLine := by
    rw [List.length_map]; have := nt_few hk1; exact small_ (by omega)
  have hqM : M q = none := AM.same.free hq
  -- what stands behind the look-up: a Spans with the row of ends there
  refine x_dsbJ (fun v H1 => ∃ ad1 es, v = .ref (ad1 (.roL st (left r))) ∧ SpA T.C_Spans g z M H1 ad1 { S with rw := setB S.rw st (left r) (some es) } ∧ AdExt z.length S ad ad1 ∧ es = (S.rw st (left r)).getD [])
    (look1 hroA hq) kl (fun v hv => ?_) (fun hv => ?_) ?_
  · rw [valV_dk] at hv
    by_cases c : left r ∈ ks
    · rw [if_pos c] at hv
      obtain ⟨es, he⟩ := Option.isSome_iff_exists.mp ((hk2 _).mp c)
      have e : setB S.rw st (left r) (some es) = S.rw := by
        funext m' y
        by_cases q : m' = st ∧ y = left r
        · rw [q.1, q.2, setB_same, he]
        · rw [setB_ne q]
      refine ⟨ad, es, (Option.some.inj hv).symm, ?_, AdExt.refl, by rw [he]; rfl⟩
      rw [e]
      exact (AM.new hq).down (Same.new hqM)
    · rw [if_neg c] at hv; cases hv
  · rw [valV_dk] at hv
    have c : left r ∉ ks := fun c => by rw [if_pos c] at hv; cases hv
    have hn : S.rw st (left r) = none := by
      cases e : S.rw st (left r) with
      | none => rfl
      | some _ => exact absurd ((hk2 _).mpr (by rw [e]; rfl)) c
    obtain ⟨A1, x1⟩ := AM.newRo hq hxn hn hk1 hk2 hroA
    exact ⟨_, [], by rw [setR_same], A1, x1, by rw [hn]; rfl⟩
  -- the rest, from there
  rintro v H1 ⟨ad1, es, rfl, A1, x1, ees⟩
  have esp : ad1 .sp = ad .sp := x1 .sp trivial
  have hsp1 := A1.rep.gSp
  have hroL : H1 (ad1 (.roL st (left r))) = some (.lst (es.map fun e : Nat => V.int (e : Nat))) := A1.rep.gRoL hxn setB_same
  have hesl : es.length ≤ 99999 := by
    cases e : S.rw st (left r) with
    | none => rw [e] at ees; rw [ees]; simp
    | some es' => rw [e] at ees; rw [ees]; exact hes es' e
  dsimp only at hsp1
  rw [esp] at hsp1
  walk_at "go"
  refine x_in hroL rfl (flat_nats es) ?_
  rw [inV_nats]
  walk_at "go"
  have eC : compI S m (left r) st = (if m ∈ es then { S with rw := setB S.rw st (left r) (some es) } else advI { S with rw := setB S.rw st (left r) (some (es ++ [m])) } m ((S.wt st (left r)).getD [])) := by rw [compI_eq, ← ees]
  by_cases c : m ∈ es
  · rw [if_pos rfl, decide_eq_true c]
    walk_at "n"
    walk_at "go"
    rw [if_pos c] at eC
    refine k H1 ad1 x1 (by rw [eC]; exact A1.down sM) (tM.trans (same_tk A1.same))
  · rw [if_pos rfl, decide_eq_false c]
    walk_at "n"
    walk_at "go"
    rw [if_neg c] at eC
    refine x_append hroL (by rw [List.length_map]; exact small_ (by omega)) ?_
    have A2 := A1.putRo (es' := es ++ [m]) hxn setB_same
    rw [List.map_append] at A2
    have e2 : setB (setB S.rw st (left r) (some es)) st (left r) (some (es ++ [m])) = setB S.rw st (left r) (some (es ++ [m])) := by
      funext m' y
      by_cases q : m' = st ∧ y = left r
      · rw [q.1, q.2, setB_same, setB_same]
      · rw [setB_ne q, setB_ne q, setB_ne q]
    simp only at A2
    rw [e2] at A2
    simp only [List.map_cons, List.map_nil] at A2
    generalize L2.upd H1 (ad1 (.roL st (left r))) (.lst ((es.map fun e : Nat => V.int (e : Nat)) ++ [V.int (m : Nat)])) = H2 at A2 ⊢
    have x2 : AdExt z.length { S with rw := setB S.rw st (left r) (some (es ++ [m])) } ad1 ad1 := AdExt.refl
    generalize hS2 : ({ S with rw := setB S.rw st (left r) (some (es ++ [m])) } : SS) = S2 at A2 eC
    have hw2 : S2.wt = S.wt := by rw [← hS2]
    have hst2 : S2.st = S.st := by rw [← hS2]
    have hsp2 := A2.rep.gSp
    have hwa2 := A2.rep.gWa
    dsimp only at hsp2 hwa2
    rw [esp] at hsp2
    have e3 := atI_range (f := fun i => V.ref (ad1 (.waA i))) hxn
    obtain ⟨kw, kw1, kw2, hwaA⟩ := A2.rep.gWaA (i := st) hxn
    dsimp only at hwaA
    walk_at "go"
    refine ⟨Nat.zero_le _, fun p hp => ?_⟩
    refine x_d2bK (look1 hwaA hp) ?_
    rw [valV_dk]
    have A3 := A2.new (o := .lst []) hp
    have hpM : M p = none := A2.same.free hp
    -- the list of the items that wait
    obtain ⟨src, esrc, hsrc⟩ : ∃ src, (if left r ∈ kw then some (V.ref (ad1 (.waL st (left r)))) else none).getD (.ref p) = .ref src ∧ ∀ (H' : Hp) (S' : SS), SpA T.C_Spans g z (upd M p (.lst [])) H' ad1 S' → S'.wt = S.wt → ∃ vs, Its H' vs ((S.wt st (left r)).getD []) ∧ H' src = some (.lst vs) := by
      by_cases c : left r ∈ kw
      · rw [if_pos c]
        obtain ⟨ys, hys⟩ := Option.isSome_iff_exists.mp ((kw2 _).mp c)
        rw [hw2] at hys
        refine ⟨_, rfl, fun H' S' A' ew => ?_⟩
        obtain ⟨vs, h1, h2⟩ := A'.rep.gWaL hxn (by rw [ew]; exact hys)
        exact ⟨vs, by rw [hys]; exact h1, h2⟩
      · rw [if_neg c]
        have hn : S.wt st (left r) = none := by
          cases e : S.wt st (left r) with
          | none => rfl
          | some _ => exact absurd ((kw2 _).mpr (by rw [hw2, e]; rfl)) c
        refine ⟨p, rfl, fun H' S' A' _ => ⟨[], by rw [hn]; exact .nil, A'.same _ _ upd_same⟩⟩
    rw [esrc]
    generalize hys : (S.wt st (left r)).getD [] = ys at hsrc eC hlen
    obtain ⟨vs0, hv0, hs0⟩ := hsrc _ _ A3 hw2
    have adw : ∀ (ys : List I3) (S' : SS), (advI S' m ys).wt = S'.wt := fun ys => by
      induction ys with
      | nil => intro S'; rfl
      | cons y ys ih => intro S'; exact (ih _).trans (addI_grow S' m _).wt
    refine x_forLn (n := ys.length) ⟨vs0, hs0⟩ (fun i σ H' => ∃ v1 v2 v3, σ = [some (.ref (ad .sp)), some (.int (m : Nat)), some (.ref a), some (.int (r : Nat)), some (.int (j : Nat)), some (.int (st : Nat)), some (.str (nS (left r))), some (.ref (ad1 (.roL st (left r)))), v1, v2, v3] ∧
        SpA T.C_Spans g z (upd M p (.lst [])) H' ad1 (advI S2 m (ys.take i)))
      ⟨none, none, none, rfl, A3⟩ (fun i σ H' _ ⟨_, _, _, _, A⟩ => ?_) ?_ ?_
    · obtain ⟨vs, h1, h2⟩ := hsrc _ _ A ((adw _ _).trans hw2)
      exact ⟨vs, h2, Paired.length h1⟩
    · rintro i x xs σ H' hi hx hxi ⟨v1, v2, v3, rfl, A⟩
      obtain ⟨vs, h1, h2⟩ := hsrc _ _ A ((adw _ _).trans hw2)
      rw [hx] at h2
      cases h2
      obtain ⟨y, hy, ay, rfl, hay⟩ := Paired.at' h1 hxi
      have hay : H' ay = some (.tup [.int (y.1 : Nat), .int (y.2.1 : Nat), .int (y.2.2 : Nat)]) := hay
      have hsp' := A.rep.gSp
      dsimp only at hsp'
      rw [esp] at hsp'
      have hlen2 : ((advI S2 m (ys.take i)).st m).length ≤ 99999 := by
        have h1 := advI_len m (ys.take i) S2
        have h3 : (ys.take i).length ≤ ys.length := by rw [List.length_take]; omega
        rw [hst2] at h1
        omega
      walk_at "go"
      refine x_methR hsp' rfl ?_
      walk_at "go"
      refine ⟨by show 3 ≤ sizeLine; decide, fun q hq => ?_⟩
      walk_at "go"
      refine ⟨g, z, _, ad1, _, m, q, (y.1, y.2.1 + 1, y.2.2), by rw [esp]; rfl, A.new (o := tI (y.1, y.2.1 + 1, y.2.2)) hq, hm, upd_same, hlen2, fun H4 A4 _ => ?_⟩
      refine ⟨_, _, _, rfl, ?_⟩
      rw [take_more hy]
      have e : advI S2 m (ys.take i ++ [y]) = addI (advI S2 m (ys.take i)) m (y.1, y.2.1 + 1, y.2.2) := by unfold advI; rw [List.foldl_append]; rfl
      rw [e]
      exact A4.down (Same.new (A.same.free hq))
    · rintro σ H' ⟨v1, v2, v3, rfl, A⟩
      rw [List.take_length] at A
      refine k H' ad1 x1 (by rw [eC]; exact A.down (sM.trans (Same.new hpM))) (tM.trans ((same_tk (Same.new hpM)).trans (same_tk A.same)))
end
section
variable {P : Program} {w : World} {K : PySem.W.Frag} {mg : Str → Option Value} {base : Heap}
theorem predI_wt (m : Nat) : ∀ (rs : List Nat) (S : SS), (predI S m rs).wt = S.wt
  | [], _ => rfl
  | r :: rs, S => (predI_wt m rs _).trans (addI_grow S m _).wt
theorem wait1_some (S : SS) (m : Nat) (x : NT) : ∃ ys, (wait1 S m x).wt m x = some ys ∧ (S.wt m x = some ys ∨ ys = []) := by
  unfold wait1
  by_cases c : (S.wt m x).isSome = true
  · rw [if_pos c]
    obtain ⟨ys, h⟩ := Option.isSome_iff_exists.mp c
    exact ⟨ys, h, .inl h⟩
  · rw [if_neg c, predI_wt]
    exact ⟨[], setB_same, .inr rfl⟩
theorem wait1_len (S : SS) (m : Nat) (x : NT) : ((wait1 S m x).st m).length ≤ (S.st m).length + 3 := by
  unfold wait1
  by_cases c : (S.wt m x).isSome = true
  · rw [if_pos c]; omega
  · rw [if_neg c]
    have h1 := predI_len m (byN x) { S with wt := setB S.wt m x (some []) }
    have h2 := byN_few x
    simp only at h1
    omega
def spWait (C : Addr) : Sp := fun vs H Q _ => ∃ (g : Addr) (z : Str) (H0 : Hp) (ad : Role → Addr) (S : SS) (m : Nat) (a : Addr) (i : I3) (x : NT), vs = [.ref (ad .sp), .int (m : Nat), .ref a, .str (nS x)] ∧ SpA C g z H0 H ad S ∧ m ≤ z.length ∧
  H a = some (tI i) ∧ (S.st m).length ≤ 99900 ∧ (∀ ys, S.wt m x = some ys → ys.length ≤ 99900) ∧
  ∀ H' ad', AdExt z.length S ad ad' → SpA C g z H0 H' ad' (waitI S m i x) → TK H H' → Q .non H'
theorem ok_wait (T : TX K mg) (G_Spans_add_item : FnOk P w K mg base CX0 1 T.f_Spans_add_item T.d_Spans_add_item ["self", "at", "item"] (spAdd T.C_Spans))
    (G_Spans_predict : FnOk P w K mg base CX0 2 T.f_Spans_predict T.d_Spans_predict ["self", "at", "name"] (spPred T.C_Spans)) :
    FnOk P w K mg base CX0 3 T.f_Spans_wait T.d_Spans_wait ["self", "at", "item", "name"] (spWait T.C_Spans) := by
  refine T.F_Spans_wait.ok sc_Spans_wait (fun vs H Q E h => ?_) (fun cdv A outer s H vs Q E hr h => ?_)
  · obtain ⟨g, z, H0, ad, S, m, a, i, x, rfl, _⟩ := h
    rfl
  obtain ⟨g, z, H0, ad, S, m, a, i, x, rfl, A0, hm, ha, hlen, hw, k⟩ := h
  refine ⟨_, (pss_cons (ps_if (pt_cmp (pc_dnotin (hu_of hr) (pv 3) (pe_ix (kx_list K) (kfld K (pv 0) rfl) (pv 1) (fun _ _ => rfl))))
  (pss_cons (ps_dput (hu_of hr) (pe_ix (kx_list K) (kfld K (pv 0) rfl) (pv 1) (fun _ _ => rfl)) (pv 3) (pe_lst pa_nil) rfl)
  (pss_one (ps_expr (pe_meth (pv 0) T.cl_Spans T.me_Spans_predict G_Spans_predict (hr.mono (by decide)) T.b_Spans_predict .nil pass0 (pa_cons (pv 1) (pa_cons (pv 3) pa_nil))))))
  pss_nil)
  (pss_cons (ps_expr (kbm K (pe_bm PySem.F.plainAttrs_list PySem.F.slot_list_append PySem.F.type_list_append mt_append (pe_dget (hu_of hr) (pe_ix (kx_list K) (kfld K (pv 0) rfl) (pv 1) (fun _ _ => rfl)) (pv 3) (fun _ _ => rfl)) (pa_cons (pv 2) pa_nil))))
  (pss_one (ps_if (pt_cmpR (kin_seq K) (pv 3) (kfld K (pv 0) rfl) rfl)
  (pss_one (ps_expr (pe_meth (pv 0) T.cl_Spans T.me_Spans_add_item G_Spans_add_item (hr.mono (by decide)) T.b_Spans_add_item .nil pass0 (pa_cons (pv 1) (pa_cons (pe_tup (pa_cons (pe_ix (kx_tup K) (pv 2) pe_int (fun _ _ => rfl)) (pa_cons (pe_op op_add (pe_ix (kx_tup K) (pv 2) pe_int (fun _ _ => rfl)) pe_int) (pa_cons (pe_ix (kx_tup K) (pv 2) pe_int (fun _ _ => rfl)) pa_nil)))) pa_nil)))))
  pss_nil)))), ?_⟩
  obtain ⟨M, sM, AM, tM⟩ := A0.max
  obtain ⟨cl, n1, n2, n3, n4, n5, n6, n7, n8, n9⟩ := T.spF
  have R := AM.rep
  have hsp := R.gSp
  have hwa := R.gWa
  dsimp only at hsp hwa
  have e1 := atI_range (f := fun i => V.ref (ad (.waA i))) hm
  obtain ⟨ks, hk1, hk2, hwaA⟩ := R.gWaA (i := m) hm
  dsimp only at hwaA
  have haM : M a = some (tI i) := tM _ _ ha
  refine x_cut (fun σ' H1 => σ' = [some (.ref (ad .sp)), some (.int (m : Nat)), some (.ref a), some (.str (nS x))] ∧ ∃ ad1, AdExt z.length S ad ad1 ∧ SpA T.C_Spans g z M H1 ad1 (wait1 S m x)) ?_ ?_
  · rintro σ' H1 ⟨rfl, ad1, x1, A1⟩
    have esp : ad1 .sp = ad .sp := x1 .sp trivial
    have hsp1 := A1.rep.gSp
    have hwa1 := A1.rep.gWa
    dsimp only at hsp1 hwa1
    rw [esp] at hsp1
    have e1 := atI_range (f := fun i => V.ref (ad1 (.waA i))) hm
    obtain ⟨ks, hk1, hk2, hwaA⟩ := A1.rep.gWaA (i := m) hm
    dsimp only at hwaA
    obtain ⟨ys, hys, hy0⟩ := wait1_some S m x
    have hyl : ys.length ≤ 99900 := by
      rcases hy0 with q | q
      · exact hw ys q
      · subst q; simp
    have hin : x ∈ ks := (hk2 x).mpr (by rw [hys]; rfl)
    obtain ⟨vs, hv, hwaL⟩ := A1.rep.gWaL hm hys
    dsimp only at hwaL
    have ev : valV (ks.map fun y => ((.inr (nS y) : Key), V.ref (ad1 (.waL m y)))) (.inr (nS x)) = some (.ref (ad1 (.waL m x))) := by rw [valV_dk, if_pos hin]
    have ha1 : H1 a = some (tI i) := A1.same _ _ haM
    have ha1' : H1 a = some (.tup [.int (i.1 : Nat), .int (i.2.1 : Nat), .int (i.2.2 : Nat)]) := ha1
    walk_at "go"
    refine x_append hwaL (by rw [Paired.length hv]; exact small_ (by omega)) ?_
    have A2 := A1.putWa hm hys hwaL ha1
    have e2 : ({ wait1 S m x with wt := setB (wait1 S m x).wt m x (some (ys ++ [i])) } : SS) = wait2 (wait1 S m x) m i x := by unfold wait2; rw [hys]; rfl
    rw [e2] at A2
    generalize L2.upd H1 (ad1 (.waL m x)) (.lst (vs ++ [.ref a])) = H2 at A2 ⊢
    have hsp2 := A2.rep.gSp
    have hem2 := A2.rep.gEm
    dsimp only at hsp2 hem2
    rw [esp] at hsp2
    have ha2' : H2 a = some (.tup [.int (i.1 : Nat), .int (i.2.1 : Nat), .int (i.2.2 : Nat)]) := A2.same _ _ haM
    walk_at "go"
    refine x_in hem2 rfl rfl ?_
    have ein : inV (.str (nS x)) [V.str "p"] = decide (x = .p) := by cases x <;> decide +kernel
    rw [if_neg Bool.false_ne_true, ein]
    walk_at "go"
    have eW : waitI S m i x = (if x = .p then addI (wait2 (wait1 S m x) m i x) m (i.1, i.2.1 + 1, i.2.2) else wait2 (wait1 S m x) m i x) := rfl
    by_cases c : x = .p
    · refine iteY c ?_
      rw [if_pos c] at eW
      walk_at "go"
      refine x_methR hsp2 rfl ?_
      walk_at "go"
      refine ⟨by show 3 ≤ sizeLine; decide, fun q hq => ?_⟩
      walk_at "go"
      have hl2 : ((wait2 (wait1 S m x) m i x).st m).length ≤ 99999 := by
        have := wait1_len S m x
        show ((wait1 S m x).st m).length ≤ _
        omega
      refine ⟨g, z, _, ad1, _, m, q, (i.1, i.2.1 + 1, i.2.2), by rw [esp]; rfl, A2.new (o := tI (i.1, i.2.1 + 1, i.2.2)) hq, hm, upd_same, hl2, fun H4 A4 _ => ?_⟩
      have A5 := A4.down (Same.new (A2.same.free hq))
      refine k H4 ad1 x1 (by rw [eW]; exact A5.down sM) (tM.trans (same_tk A5.same))
    · refine iteN c ?_
      rw [if_neg c] at eW
      walk_at "go"
      exact k H2 ad1 x1 (by rw [eW]; exact A2.down sM) (tM.trans (same_tk A2.same))
  · intro N hN
    walk_at "go"
    rw [valV_dk]
    by_cases c : x ∈ ks
    · rw [if_pos c]
      walk_at "n"
      walk_at "go"
      refine hN _ _ ⟨rfl, ad, AdExt.refl, ?_⟩
      have e : wait1 S m x = S := by unfold wait1; rw [if_pos ((hk2 x).mp c)]
      rw [e]; exact AM
    · rw [if_neg c]
      have hn : S.wt m x = none := by
        cases e : S.wt m x with
        | none => rfl
        | some _ => exact absurd ((hk2 _).mpr (by rw [e]; rfl)) c
      walk_at "n"
      walk_at "go"
      refine ⟨Nat.zero_le _, fun q hq => ?_⟩
      walk_at "go"
      refine x_dpK (look1 hwaA hq) (by rw [List.length_map]; have := nt_few hk1; exact small_ (by omega)) ?_
      obtain ⟨A1, x1⟩ := AM.newWa hq hm hn hk1 hk2 hwaA
      generalize upd (upd H q (.lst [])) (ad (.waA m)) (.dK (putK (ks.map fun y => ((.inr (nS y) : Key), V.ref (ad (.waL m y)))) (.inr (nS x)) (.ref q))) = H1 at A1 ⊢
      generalize hS1 : ({ S with wt := setB S.wt m x (some []) } : SS) = S1 at A1
      have esp : setR ad (.waL m x) q .sp = ad .sp := x1 .sp trivial
      generalize setR ad (.waL m x) q = ad1 at A1 x1 esp
      have hsp1 := A1.rep.gSp
      dsimp only at hsp1
      rw [esp] at hsp1
      walk_at "go"
      refine x_methR hsp1 rfl ?_
      walk_at "go"
      refine ⟨g, z, M, ad1, S1, m, x, by rw [esp]; rfl, A1, hm, by rw [← hS1]; show (S.st m).length ≤ _; omega, fun H2 A2 _ => ?_⟩
      refine hN _ _ ⟨rfl, ad1, x1, ?_⟩
      have e : wait1 S m x = predI S1 m (byN x) := by unfold wait1; rw [if_neg (by rw [hn]; simp), hS1]
      rw [e]; exact A2
end
section
variable {P : Program} {w : World} {K : PySem.W.Frag} {mg : Str → Option Value} {base : Heap}
def spFill (C : Addr) : Sp := fun vs H Q _ => ∃ (g : Addr) (z : Str) (H0 : Hp) (ad : Role → Addr) (S : SS) (m : Nat) (l : Bool), vs = [.ref (ad .sp), .int (m : Nat)] ∧ SpA C g z H0 H ad S ∧ GramAt H0 l g ∧ m ≤ z.length ∧ z.length ≤ 500 ∧
  Good l (tx z) m 0 S ∧ WB m 0 S ∧ ∀ H' ad' S', ad' .sp = ad .sp → SpA C g z H0 H' ad' S' → Good l (tx z) (m + 1) 0 S' → WB (m + 1) 0 S' → S'.md = S.md + 1 → TK H H' → Q .non H'
theorem ok_fill (T : TX K mg) (G_Spans_complete : FnOk P w K mg base CX0 2 T.f_Spans_complete T.d_Spans_complete ["self", "at", "item"] (spComp T.C_Spans))
    (G_Spans_wait : FnOk P w K mg base CX0 3 T.f_Spans_wait T.d_Spans_wait ["self", "at", "item", "name"] (spWait T.C_Spans))
    (G_Spans_scan : FnOk P w K mg base CX0 2 T.f_Spans_scan T.d_Spans_scan ["self", "at", "item", "symbol"] (spScan T.C_Spans)) :
    FnOk P w K mg base CX0 4 T.f_Spans_fill T.d_Spans_fill ["self", "at"] (spFill T.C_Spans) := by
  refine T.F_Spans_fill.ok sc_Spans_fill (fun vs H Q E h => ?_) (fun cdv A outer s H vs Q E hr h => ?_)
  · obtain ⟨g, z, H0, ad, S, m, l, rfl, _⟩ := h
    rfl
  obtain ⟨g, z, H0, ad, S, m, l, rfl, A0, hg, hm, hz, hG, hW, k⟩ := h
  refine ⟨_, (pss_cons (kfldS K (pv 0) (pe_op op_add (kfld K (pv 0) rfl) pe_int) rfl)
  (pss_cons (ps_set (i := 2) sc_Spans_fill.nd rfl (Or.inl rfl) pe_int)
  (pss_one (ps_while PassesOwn.never (pt_cmpR op_lt (pv 2) (pe_callB (kl_len K) (by rfl) T.z_len (by decide +kernel) (pa_cons (pe_ix (kx_list K) (kfld K (pv 0) rfl) (pv 1) (fun _ _ => rfl)) pa_nil)) (nomark _))
  (pss_cons (ps_set (i := 3) sc_Spans_fill.nd rfl (Or.inl rfl) (pe_ix (kx_list K) (pe_ix (kx_list K) (kfld K (pv 0) rfl) (pv 1) (fun _ _ => rfl)) (pv 2) (fun _ _ => rfl)))
  (pss_cons (ps_set (i := 2) sc_Spans_fill.nd rfl (Or.inl rfl) (pe_op op_add (pv 2) pe_int))
  (pss_cons (ps_set (i := 4) sc_Spans_fill.nd rfl (Or.inl rfl) (pe_ix (kx_tup K) (pe_ix (kx_list K) (pe_ix (kx_tup K) (kfld K (pv 0) rfl) pe_int (fun _ _ => rfl)) (pe_ix (kx_tup K) (pv 3) pe_int (fun _ _ => rfl)) (fun _ _ => rfl)) pe_int (fun _ _ => rfl)))
  (pss_one (ps_if (pt_cmpR op_eq (pe_ix (kx_tup K) (pv 3) pe_int (fun _ _ => rfl)) (pe_callB (kl_len K) (by rfl) T.z_len (by decide +kernel) (pa_cons (pv 4) pa_nil)) (nomark _))
  (pss_one (ps_expr (pe_meth (pv 0) T.cl_Spans T.me_Spans_complete G_Spans_complete (hr.mono (by decide)) T.b_Spans_complete .nil pass0 (pa_cons (pv 1) (pa_cons (pv 3) pa_nil)))))
  (pss_one (ps_if (pt_cmpR op_eq (pe_ix (kx_tup K) (pe_ix (kx_list K) (pv 4) (pe_ix (kx_tup K) (pv 3) pe_int (fun _ _ => rfl)) (fun _ _ => rfl)) pe_int (fun _ _ => rfl)) pe_str (nomark _))
  (pss_one (ps_expr (pe_meth (pv 0) T.cl_Spans T.me_Spans_wait G_Spans_wait (hr.mono (by decide)) T.b_Spans_wait .nil pass0 (pa_cons (pv 1) (pa_cons (pv 3) (pa_cons (pe_ix (kx_tup K) (pe_ix (kx_list K) (pv 4) (pe_ix (kx_tup K) (pv 3) pe_int (fun _ _ => rfl)) (fun _ _ => rfl)) pe_int (fun _ _ => rfl)) pa_nil))))))
  (pss_one (ps_expr (pe_meth (pv 0) T.cl_Spans T.me_Spans_scan G_Spans_scan (hr.mono (by decide)) T.b_Spans_scan .nil pass0 (pa_cons (pv 1) (pa_cons (pv 3) (pa_cons (pe_ix (kx_list K) (pv 4) (pe_ix (kx_tup K) (pv 3) pe_int (fun _ _ => rfl)) (fun _ _ => rfl)) pa_nil))))))))))))))))), ?_⟩
  obtain ⟨M, sM, AM, tM⟩ := A0.max
  obtain ⟨cl, n1, n2, n3, n4, n5, n6, n7, n8, n9⟩ := T.spF
  have hsp := AM.rep.gSp
  dsimp only at hsp
  have hlt : (tx z).length = z.length := (len_tx z).symm
  walk_at "go"
  refine x_setFR hsp cl n9 (by show 9 < 1000; decide) ?_
  rw [spF_made]
  have A1 := AM.setMade (S.md + 1)
  have hG1 := hG.made (S.md + 1)
  have hW1 : WB m 0 { S with md := S.md + 1 } := hW
  rw [show spFv g z (ad .em) (ad .bn) (ad .ro) (ad .st) (ad .th) (ad .wa) (V.int ((S.md : Nat) + 1)) = spF g z (ad .em) (ad .bn) (ad .ro) (ad .st) (ad .th) (ad .wa) (S.md + 1) from rfl]
  have tk1 : ∀ H', Same M H' → TK H H' := fun H' s => tM.trans (same_tk s)
  generalize hH1 : L2.upd H (ad .sp) _ = H1
  have A1 : SpA T.C_Spans g z M H1 ad { S with md := S.md + 1 } := by rw [← hH1]; exact A1
  generalize hS1 : ({ S with md := S.md + 1 } : SS) = S1 at A1 hG1 hW1
  have hmd1 : S1.md = S.md + 1 := by rw [← hS1]
  walk_at "go"
  refine x_while (fun σ H' => ∃ (d : Nat) (v3 v4 : Option V) (ad1 : Role → Addr) (S1 : SS), σ = [some (.ref (ad .sp)), some (.int (m : Nat)), some (.int (d : Nat)), v3, v4] ∧ ad1 .sp = ad .sp ∧ SpA T.C_Spans g z M H' ad1 S1 ∧ Good l (tx z) m d S1 ∧ WB m d S1 ∧ d ≤ (S1.st m).length ∧ S1.md = S.md + 1)
    (fun σ _ => match σ with
      | [_, _, some (.int d), _, _] => 45 * (z.length + 1) - d.toNat
      | _ => 0) ⟨0, none, none, ad, S1, rfl, rfl, A1, hG1, hW1, Nat.zero_le _, hmd1⟩ ?_
  rintro σ H2 ⟨d, v3, v4, ad1, S2, rfl, esp, A2, G2, W2, hd, hmd⟩
  have hsp2 := A2.rep.gSp
  have hst2 := A2.rep.gSt
  dsimp only at hsp2 hst2
  rw [esp] at hsp2
  have e1 := atI_range (f := fun i => V.ref (ad1 (.stA i))) hm
  obtain ⟨vs, hv, hstA⟩ := A2.rep.gStA (i := m) hm
  dsimp only at hstA
  have hvl := Paired.length hv
  walk_at "go"
  by_cases c : (d : Int) < (vs.length : Int)
  · refine iteY c ?_
    refine x_wh ?_
    have hdl : d < (S2.st m).length := by omega
    obtain ⟨x, hx⟩ : ∃ x, (S2.st m)[d]? = some x := ⟨_, List.getElem?_eq_getElem hdl⟩
    obtain ⟨v, hvd, a, rfl, ha⟩ := Paired.at hv hx
    have e2 : atI vs (d : Int) = some (.ref a) := atI_nat hvd
    have hxs := G2.sound m x (List.mem_of_getElem? hx)
    have hbd := hxs.bd
    have ha' : H2 a = some (.tup [.int (x.1 : Nat), .int (x.2.1 : Nat), .int (x.2.2 : Nat)]) := ha
    obtain ⟨rl, rvs, ra, sa, lab, g1, g2, g3, g4, g5⟩ := ((hg.same sM).same A2.same).rule hbd.1
    obtain ⟨svs, s1, s2, s3⟩ := g5.len
    have few : ∀ e, (S2.st e).length ≤ 22545 := fun e => by have := G2.few e; rw [hlt] at this; omega
    have hgM : GramAt M l g := hg.same sM
    walk_at "go"
    -- what is to be shown behind the item
    have fin : ∀ H3 ad3 S3, ad3 .sp = ad .sp → SpA T.C_Spans g z M H3 ad3 S3 → S3 = stepI l (tx z) S2 m x →
        WhN (fun σ H' => ∃ (d : Nat) (v3 v4 : Option V) (ad1 : Role → Addr) (S1 : SS), σ = [some (.ref (ad .sp)), some (.int (m : Nat)), some (.int (d : Nat)), v3, v4] ∧ ad1 .sp = ad .sp ∧ SpA T.C_Spans g z M H' ad1 S1 ∧ Good l (tx z) m d S1 ∧ WB m d S1 ∧ d ≤ (S1.st m).length ∧ S1.md = S.md + 1)
          (fun σ _ => match σ with
            | [_, _, some (.int d), _, _] => 45 * (z.length + 1) - d.toNat
            | _ => 0) [some (.ref (ad .sp)), some (.int (m : Nat)), some (.int (d : Nat)), v3, v4] H2 [some (.ref (ad .sp)), some (.int (m : Nat)), some (.int ((d : Nat) + 1)), some (.ref a), some (.ref sa)] H3 := by
      intro H3 ad3 S3 esp3 A3 e3
      subst e3
      obtain ⟨q1, q2, q3⟩ := G2.step hx
      obtain ⟨zs, q3⟩ := q3 m
      refine ⟨⟨d + 1, some (.ref a), some (.ref sa), ad3, _, rfl, esp3, A3, q1, W2.step G2 hx, ?_, q2.trans hmd⟩, ?_⟩
      · rw [q3, List.length_append]; omega
      · show 45 * (z.length + 1) - ((d : Int) + 1).toNat < 45 * (z.length + 1) - ((d : Nat) : Int).toNat
        have := G2.few m
        rw [hlt] at this
        omega
    by_cases cj : x.2.1 = (syms l x.1).length
    · -- a rule is through
      refine iteY (by rw [s2]; exact_mod_cast cj) ?_
      walk_at "go"
      refine x_methR hsp2 rfl ?_
      walk_at "go"
      refine ⟨g, z, M, ad1, S2, m, a, x, l, by rw [esp]; rfl, A2, hgM, hm, ha, hbd.1, by rw [hlt] at hbd; omega, fun es q => ?_, ?_, fun H3 ad3 x3 A3 _ => ?_⟩
      · have := G2.rwfew q; omega
      · have h1 := few m
        cases q : S2.wt x.2.2 (left x.1) with
        | none => simp; omega
        | some ys =>
          have := W2.few G2 hd q
          rw [hlt] at this
          simp; omega
      · refine fin H3 ad3 _ ((x3 .sp trivial).trans esp) A3 ?_
        unfold stepI
        rw [List.getElem?_eq_none (by omega)]
    · refine iteN (by rw [s2]; omega) ?_
      obtain ⟨y, hy⟩ : ∃ y, (syms l x.1)[x.2.1]? = some y := ⟨_, List.getElem?_eq_getElem (by omega)⟩
      obtain ⟨b, hb, hby⟩ := s3 _ _ hy
      have e4 : atI svs (x.2.1 : Int) = some (.ref b) := atI_nat hb
      have hby' : H2 b = some (.tup [.str (kdS y), .str (vlS y)]) := hby
      walk_at "go"
      cases y with
      | nt u =>
        have est : stepI l (tx z) S2 m x = waitI S2 m x u := by unfold stepI; rw [hy]
        refine iteY rfl ?_
        have hby' : H2 b = some (.tup [.str "nt", .str (nS u)]) := hby
        walk_at "go"
        refine x_methR hsp2 rfl ?_
        walk_at "go"
        refine ⟨g, z, M, ad1, S2, m, a, x, u, by rw [esp]; rfl, A2, hm, ha, by have := few m; omega, fun ys q => ?_, fun H3 ad3 x3 A3 _ => ?_⟩
        · have := W2.few G2 hd q
          rw [hlt] at this
          omega
        · exact fin H3 ad3 _ ((x3 .sp trivial).trans esp) A3 est.symm
      | lit u =>
        have est : stepI l (tx z) S2 m x = scanI S2 x (tE (tx z) (.lit u) m) := by unfold stepI; rw [hy]
        refine iteN (show ¬ ("lit" : Str) = "nt" by decide +kernel) ?_
        walk_at "go"
        refine x_methR hsp2 rfl ?_
        walk_at "go"
        refine ⟨g, z, M, ad1, S2, m, a, b, x, .lit u, by rw [esp]; rfl, A2, hm, by omega, ha, hby, (fun u q => nomatch q), fun e => by have := few e; omega, fun H3 A3 _ => ?_⟩
        exact fin H3 ad1 _ esp A3 est.symm
      | run u =>
        have est : stepI l (tx z) S2 m x = scanI S2 x (tE (tx z) (.run u) m) := by unfold stepI; rw [hy]
        refine iteN (show ¬ ("run" : Str) = "nt" by decide +kernel) ?_
        walk_at "go"
        refine x_methR hsp2 rfl ?_
        walk_at "go"
        refine ⟨g, z, M, ad1, S2, m, a, b, x, .run u, by rw [esp]; rfl, A2, hm, by omega, ha, hby, (fun u q => nomatch q), fun e => by have := few e; omega, fun H3 A3 _ => ?_⟩
        exact fin H3 ad1 _ esp A3 est.symm
  · refine iteN c ?_
    have ed : d = (S2.st m).length := by omega
    rw [ed] at G2 W2
    exact k H2 ad1 S2 esp (A2.down sM) G2.up W2.up hmd (tk1 H2 A2.same)
end
section
variable {P : Program} {w : World} {K : PySem.W.Frag} {mg : Str → Option Value} {base : Heap}
/-- one rule of the search for names that derive the empty text -/
def nbS (F : List NT) : Sym → Bool
  | .nt x => F.contains x
  | _ => false
def nlS (l : Bool) (s : List NT × Bool) (r : Nat) : List NT × Bool := if !s.1.contains (left r) && (syms l r).all (nbS s.1) then (s.1 ++ [left r], true) else s
def nlR (l : Bool) (s : List NT × Bool) (i : Nat) : List NT × Bool := ((List.range 9).take i).foldl (nlS l) s
def spNull : Sp := fun vs H Q _ => ∃ (g : Addr) (l : Bool), vs = [.ref g] ∧ GramAt H l g ∧ ∀ H' p, Same H H' → H p = none → H' p = some (.lst [.str "p"]) → Q (.ref p) H'
theorem inV_names (x : NT) : ∀ F : List NT, inV (.str (nS x)) (F.map fun y => V.str (nS y)) = F.contains x
  | [] => rfl
  | y :: F => by
    have ih := inV_names x F
    unfold inV at ih ⊢
    rw [List.map_cons, List.any_cons, ih, List.contains_cons]
    congr 1
    show (nS y == nS x) = (x == y)
    by_cases h : x = y
    · subst h; simp
    · have h2 : nS y ≠ nS x := fun q => h (nS_inj q).symm
      rw [beq_eq_false_iff_ne.mpr h2, beq_eq_false_iff_ne.mpr h]
theorem flat_names (F : List NT) : (F.map fun y => V.str (nS y)).all flatV = true := by
  rw [List.all_map]; exact List.all_eq_true.mpr fun _ _ => rfl
theorem ok_nullable (T : TX K mg) : FnOk P w K mg base CX0 1 T.f_nullable T.d_nullable ["grammar"] spNull := by
  refine T.F_nullable.ok sc_nullable (fun vs H Q E h => ?_) (fun cdv A outer s H vs Q E hr h => ?_)
  · obtain ⟨g, l, rfl, _⟩ := h
    rfl
  obtain ⟨g, l, rfl, hg, k⟩ := h
  refine ⟨_, (pss_cons (ps_set (i := 1) sc_nullable.nd rfl (Or.inr rfl) (pe_lst pa_nil))
  (pss_cons (ps_set (i := 2) sc_nullable.nd rfl (Or.inl rfl) pe_bl)
  (pss_cons (ps_while PassesOwn.never (pt_val (pv 2))
  (pss_cons (ps_set (i := 2) sc_nullable.nd rfl (Or.inl rfl) pe_bl)
  (pss_one (ps_for PassesOwn.never rfl (kpi_list K (pe_ix (kx_tup K) (pv 0) pe_int (fun _ _ => rfl))) (pg_name (i := 3) sc_nullable.nd rfl (Or.inl rfl))
  (pss_one (ps_if (PW.pt (pw_and (pt_cmpR (knotin_seq K) (pe_ix (kx_tup K) (pv 3) pe_int (fun _ _ => rfl)) (pv 1) rfl) (pw_and1 (pt_val (pe_callB (kc_all K rfl) (by rfl) T.z_all (by decide +kernel) (pa_cons (pe_lc (own := [("symbol", 4)]) (by rfl) sc_nullable.nd (kpi_list K (pe_ix (kx_tup K) (pv 3) pe_int (fun _ _ => rfl))) (blkOk_by (N := ["grammar", "found", "going", "rule", "symbol"]) (sc := (defScope s_nullable)) (by decide +kernel)) (fun _ _ _ _ _ => (pg_name (i := 4) sc_nullable.nd rfl (Or.inl rfl))) (fun _ _ _ _ _ => pts_nil) (fun _ _ _ _ _ => (pe_and (pe_cmpR op_eq (pe_ix (kx_tup K) (pv 4) pe_int (fun _ _ => rfl)) pe_str (nomark _)) (pe_one (pe_cmpR (kin_seq K) (pe_ix (kx_tup K) (pv 4) pe_int (fun _ _ => rfl)) (pv 1) rfl))))) pa_nil))))))
  (pss_cons (ps_expr (kbm K (pe_bm PySem.F.plainAttrs_list PySem.F.slot_list_append PySem.F.type_list_append mt_append (pv 1) (pa_cons (pe_ix (kx_tup K) (pv 3) pe_int (fun _ _ => rfl)) pa_nil))))
  (pss_one (ps_set (i := 2) sc_nullable.nd rfl (Or.inl rfl) pe_bl)))
  pss_nil))))))
  (pss_one (ps_ret (pe_callB (kc_sortedS K) (by rfl) T.z_sorted (by decide +kernel) (pa_cons (pv 1) pa_nil))))))), ?_⟩
  obtain ⟨rl, ras, hg1, hg2, hg3⟩ := id hg
  walk_at "go"
  refine ⟨Nat.zero_le _, fun f hf => ?_⟩
  walk_at "go"
  have hl9 : (ras.map V.ref).length = 9 := by rw [List.length_map, Paired.length hg3]; rfl
  refine x_while (fun σ H' => ∃ (F : List NT) (b : Bool) (v : Option V), σ = [some (.ref g), some (.ref f), some (.bl b), v, none] ∧ Same H H' ∧ H' f = some (.lst (F.map fun y => V.str (nS y))) ∧ (F = [] ∧ b = true ∨ F = [.p]))
    (fun σ H' => match σ with
      | [_, _, some (.bl b), _, _] => (if b then 1 else 0) + (open Classical in if H' f = some (.lst []) then 1 else 0)
      | _ => 0) ⟨[], true, none, rfl, Same.new hf, upd_same, .inl ⟨rfl, rfl⟩⟩ ?_
  rintro σ H1 ⟨F, b, v, rfl, s1, hF, hFb⟩
  have hg1' := s1 _ _ hg1
  walk_at "go"
  cases b with
  | false =>
    have hFp : F = [.p] := by
      rcases hFb with ⟨_, q⟩ | q
      · cases q
      · exact q
    subst hFp
    refine iteF ?_
    walk_at "go"
    refine ⟨f, [("p" : Str)], rfl, SqL.of hF, by decide, fun ys p h1 h2 h3 => ?_⟩
    have : ys = [("p" : Str)] := List.perm_singleton.mp h1
    subst this
    exact k _ p (s1.trans (Same.new h3)) (s1.free h3) upd_same
  | true =>
    refine iteT ?_
    refine x_wh ?_
    walk_at "go"
    have hFle : F.length ≤ 1 := by rcases hFb with ⟨q, _⟩ | q <;> subst q <;> simp
    refine x_forLR (xs := ras.map V.ref) (s1 _ _ hg2) (fun i σ H' => ∃ (v : Option V), σ = [some (.ref g), some (.ref f), some (.bl (nlR l (F, false) i).2), v, none] ∧ Same H H' ∧ H' f = some (.lst ((nlR l (F, false) i).1.map fun y => V.str (nS y)))) ⟨v, rfl, s1, hF⟩ (fun i σ H' _ ⟨_, _, s, _⟩ => s _ _ hg2) ?_ ?_
    · rintro i y σ H2 hi ⟨v2, rfl, s2, hF2⟩
      have hi9 : i < 9 := by
        have := (List.getElem?_eq_some_iff.mp hi).1
        omega
      obtain ⟨ra, hra, rfl⟩ : ∃ ra, ras[i]? = some ra ∧ y = V.ref ra := by
        rw [List.getElem?_map] at hi
        obtain ⟨r, h1, h2⟩ := Option.map_eq_some_iff.mp hi
        exact ⟨r, h1, h2.symm⟩
      obtain ⟨r, hr9, sa, lab, g4, g5⟩ := Paired.at' hg3 hra
      have er : r = i := by
        rw [List.getElem?_range hi9] at hr9
        exact (Option.some.inj hr9).symm
      subst er
      have g4' := s2 _ _ g4
      obtain ⟨svs, q1, q2, q3⟩ := (g5.same s2).len
      generalize hFb2 : nlR l (F, false) r = Fb at hF2 ⊢
      obtain ⟨F2, b2⟩ := Fb
      have step : nlR l (F, false) (r + 1) = nlS l (F2, b2) r := by
        unfold nlR at hFb2 ⊢
        rw [take_more (List.getElem?_range hi9), List.foldl_append, hFb2]
        rfl
      have hFlen : F2.length ≤ 10 := by
        have gen : ∀ (rs : List Nat) (s : List NT × Bool), (rs.foldl (nlS l) s).1.length ≤ s.1.length + rs.length := fun rs => by
          induction rs with
          | nil => intro s; exact Nat.le_refl _
          | cons r rs ih =>
            intro s
            have h1 := ih (nlS l s r)
            have h2 : (nlS l s r).1.length ≤ s.1.length + 1 := by unfold nlS; split <;> simp
            rw [List.foldl_cons, List.length_cons]; omega
        have := gen ((List.range 9).take r) (F, false)
        unfold nlR at hFb2
        rw [hFb2] at this
        have h3 : ((List.range 9).take r).length ≤ 9 := by rw [List.length_take]; simp; omega
        simp only at this
        omega
      rw [step]
      simp only at hF2 ⊢
      walk_at "go"
      refine x_in hF2 rfl (flat_names F2) ?_
      rw [inV_names, if_pos rfl]
      walk_at "go"
      have fin : ∀ H3, Same H H3 → H3 f = some (.lst (F2.map fun y => V.str (nS y))) → nlS l (F2, b2) r = (F2, b2) → ∃ v, [some (.ref g), some (.ref f), some (.bl b2), some (.ref ra), none] = [some (V.ref g), some (.ref f), some (.bl (nlS l (F2, b2) r).2), v, none] ∧ Same H H3 ∧ H3 f = some (.lst ((nlS l (F2, b2) r).1.map fun y => V.str (nS y))) := fun H3 s3 hF3 e => ⟨_, by rw [e], s3, by rw [e]; exact hF3⟩
      cases c : F2.contains (left r) with
      | true =>
        refine iteF ?_
        walk_at "go"
        exact fin H2 s2 hF2 (by unfold nlS; rw [c]; rfl)
      | false =>
        refine iteT ?_
        walk_at "go"
        refine x_lcP q1 (fun j => ((syms l r).take j).map fun y => V.bl (nbS F2 y)) rfl (fun j hj => by rw [List.length_map, List.length_take]; have := syms_len l r; omega) (fun j x H3 N N' hx s3 hN hN' => ?_) (fun D H3 s3 hD hDv => ?_)
        · obtain ⟨y, hy⟩ : ∃ y, (syms l r)[j]? = some y := ⟨_, List.getElem?_eq_getElem (by have := (List.getElem?_eq_some_iff.mp hx).1; omega)⟩
          obtain ⟨bb, h1, h2⟩ := q3 j y hy
          rw [hx] at h1
          cases h1
          have h2 : H3 bb = some (.tup [.str (kdS y), .str (vlS y)]) := s3 _ _ h2
          have hF3 := s3 _ _ hF2
          unfold LcTurn
          walk_at "go"
          refine ⟨rfl, ?_⟩
          walk_at "go"
          have e1 : ((syms l r).take (j + 1)).map (fun y => V.bl (nbS F2 y)) = ((syms l r).take j).map (fun y => V.bl (nbS F2 y)) ++ [V.bl (nbS F2 y)] := by rw [take_more hy, List.map_append]; rfl
          cases y with
          | nt u =>
            refine iteY rfl ?_
            have h2 : H3 bb = some (.tup [.str "nt", .str (nS u)]) := h2
            walk_at "go"
            refine x_in hF3 rfl (flat_names F2) ?_
            rw [inV_names, if_neg Bool.false_ne_true]
            exact hN _ _ (Same.refl _) e1
          | lit u =>
            refine iteN (show ¬ ("lit" : Str) = "nt" by decide +kernel) ?_
            exact hN _ _ (Same.refl _) e1
          | run u =>
            refine iteN (show ¬ ("run" : Str) = "nt" by decide +kernel) ?_
            exact hN _ _ (Same.refl _) e1
        · walk_at "go"
          rw [q2, List.take_length] at hDv
          refine x_all (bs := (syms l r).map (nbS F2)) (by rw [List.map_map]; exact hDv) ?_
          walk_at "go"
          rw [List.all_map]
          have hF3 := s3 _ _ hF2
          have g4'' := s3 _ _ g4'
          cases c2 : (syms l r).all (id ∘ nbS F2) with
          | false =>
            refine iteF ?_
            walk_at "go"
            exact fin H3 (s2.trans s3) hF3 (by unfold nlS; rw [c]; simp only [Bool.not_false, Bool.true_and]; rw [if_neg (by rw [show (syms l r).all (nbS F2) = (syms l r).all (id ∘ nbS F2) from rfl, c2]; simp)])
          | true =>
            have e2 : nlS l (F2, b2) r = (F2 ++ [left r], true) := by
              unfold nlS; rw [c]; simp only [Bool.not_false, Bool.true_and]; rw [if_pos (by rw [show (syms l r).all (nbS F2) = (syms l r).all (id ∘ nbS F2) from rfl, c2])]
            refine iteT ?_
            walk_at "go"
            refine x_append hF3 (by rw [List.length_map]; exact small_ (by omega)) ?_
            walk_at "go"
            refine ⟨_, by rw [e2]; rfl, Same.mut (s2.trans s3) hf, ?_⟩
            rw [upd_same, e2, List.map_append]
            rfl
    · rintro σ H2 ⟨v2, rfl, s2, hF2⟩
      rw [hl9] at hF2 ⊢
      have e9 : nlR l (F, false) 9 = (if F = [] then ([.p], true) else ([.p], false)) := by
        rcases hFb with ⟨q, _⟩ | q <;> subst q <;> cases l <;> rfl
      have hne : ¬ (some (HO.lst [V.str "p"]) = some (HO.lst [])) := by intro q; cases q
      by_cases c : F = []
      · rw [if_pos c] at e9
        rw [e9] at hF2 ⊢
        refine ⟨⟨[.p], true, v2, rfl, s2, hF2, .inr rfl⟩, ?_⟩
        subst c
        have hF : H1 f = some (.lst []) := hF
        have hF2 : H2 f = some (.lst [V.str "p"]) := hF2
        simp only [hF, hF2, hne, if_true, if_false]
        decide
      · rw [if_neg c] at e9
        rw [e9] at hF2 ⊢
        refine ⟨⟨[.p], false, v2, rfl, s2, hF2, .inr rfl⟩, ?_⟩
        have hF2 : H2 f = some (.lst [V.str "p"]) := hF2
        simp only [hF2, hne, if_true, if_false]
        simp
        omega
end
section
variable {P : Program} {w : World} {K : PySem.W.Frag} {mg : Str → Option Value} {base : Heap}
def bnK : Nat → List NT
  | 0 => []
  | i + 1 => if (bnK i).contains (left i) then bnK i else bnK i ++ [left i]
def bnl (i : Nat) (x : NT) : List Nat := (List.range i).filter fun r => left r == x
theorem bnK9 : bnK 9 = allN := by decide
theorem bnl9 (x : NT) : bnl 9 x = byN x := by cases x <;> decide
theorem bnK_nd : ∀ i, (bnK i).Nodup
  | 0 => List.nodup_nil
  | i + 1 => by
    unfold bnK
    by_cases c : (bnK i).contains (left i) = true
    · rw [if_pos c]; exact bnK_nd i
    · rw [if_neg c]
      exact nodup_snoc (bnK_nd i) (fun h => c (by simpa using h))
def spInit (C : Addr) : Sp := fun vs H Q _ => ∃ (H0 : Hp) (sp dx g : Addr) (z : Str) (l : Bool), vs = [.ref sp, .ref g, .str z] ∧ Same H0 H ∧ H0 sp = none ∧ H0 dx = none ∧ H sp = some (.ins C dx []) ∧ H dx = some (.own sp) ∧ GramAt H0 l g ∧ z.length ≤ 500 ∧
  ∀ H' ad, ad .sp = sp → SpA C g z H0 H' ad SS0 → Q .non H'
theorem bnl_s (i : Nat) (x : NT) : bnl (i + 1) x = bnl i x ++ (if left i == x then [i] else []) := by
  unfold bnl
  rw [List.range_succ, List.filter_append]
  congr 1
  rw [List.filter_cons, List.filter_nil]
theorem bnl_0 (i : Nat) (hi : i < 9) (h : (bnK i).contains (left i) = false) : bnl i (left i) = [] := by
  have : ∀ i : Fin 9, (bnK i).contains (left i) = false → bnl i (left i) = [] := by decide
  exact this ⟨i, hi⟩ h
theorem bnl_len (i : Nat) (x : NT) : (bnl i x).length ≤ i := by
  unfold bnl; have := List.length_filter_le (fun r => left r == x) (List.range i); rw [List.length_range] at this; exact this
/-- the dict of names while the rules are gone through -/
structure BnAt (Hb : Hp) (bn : Addr) (i : Nat) (b : NT → Addr) (H : Hp) : Prop where
  s : SameX bn Hb H
  m : Dm Hb H
  d : H bn = some (dkO (bnK i) b)
  l : ∀ x, x ∈ bnK i → H (b x) = some (.lst ((bnl i x).map fun r => V.int (r : Nat))) ∧ Hb (b x) = none
  inj : ∀ x y, x ∈ bnK i → y ∈ bnK i → b x = b y → x = y
theorem dk_snocN {ks : List NT} {x : NT} {b : NT → Addr} {q : Addr} (hx : x ∉ ks) :
    HO.dK (putK (ks.map fun y => ((.inr (nS y) : Key), V.ref (b y))) (.inr (nS x)) (.ref q)) = dkO (ks ++ [x]) fun y => if y = x then q else b y := by
  rw [putK_new _ (by rw [valV_dk, if_neg hx])]
  unfold dkO
  rw [List.map_append]
  congr 2
  · refine List.map_congr_left fun y hy => ?_
    have : y ≠ x := fun e => hx (by rw [← e]; exact hy)
    show _ = ((.inr (nS y) : Key), V.ref (if y = x then q else b y))
    rw [if_neg this]
  · simp
theorem ok_init (T : TX K mg) (G_nullable : FnOk P w K mg base CX0 1 T.f_nullable T.d_nullable ["grammar"] spNull) :
    FnOk P w K mg base CX0 2 T.f_Spans_init T.d_Spans_init ["self", "grammar", "text"] (spInit T.C_Spans) := by
  refine T.F_Spans_init.ok sc_Spans_init (fun vs H Q E h => ?_) (fun cdv A outer s H vs Q E hr h => ?_)
  · obtain ⟨H0, sp, dx, g, z, l, rfl, _⟩ := h
    rfl
  obtain ⟨H0, sp, dx, g, z, l, rfl, s0, p0, d0, hsp, hdx, hg, hz, k⟩ := h
  refine ⟨_, (pss_cons (kfldS K (pv 0) (pv 1) rfl)
  (pss_cons (kfldS K (pv 0) (pv 2) rfl)
  (pss_cons (kfldS K (pv 0) (pe_call G_nullable (hr.mono (by decide)) (by rfl) T.m_nullable T.F_nullable.kp T.b_nullable .nil pass0 (pa_cons (pv 1) pa_nil)) rfl)
  (pss_cons (kfldS K (pv 0) pe_dnewK rfl)
  (pss_cons (ps_for PassesOwn.never rfl (kpi_enum K (by rfl) T.z_enumerate (pa_cons (pe_ix (kx_tup K) (pv 1) pe_int (fun _ _ => rfl)) pa_nil)) (kpg_tup K 2 rfl (pgs_cons (pg_name (i := 3) sc_Spans_init.nd rfl (Or.inl rfl)) (pgs_cons (pg_name (i := 4) sc_Spans_init.nd rfl (Or.inl rfl)) pgs_nil)))
  (pss_one (ps_expr (kbm K (pe_bm PySem.F.plainAttrs_list PySem.F.slot_list_append PySem.F.type_list_append mt_append (pe_dsetd (kfld K (pv 0) rfl) (pe_ix (kx_tup K) (pv 4) pe_int (fun _ _ => rfl)) (pe_lst pa_nil) ⟨rfl, rfl, rfl, rfl⟩) (pa_cons (pv 3) pa_nil))))))
  (pss_cons (kfldS K (pv 0) (pe_lc (own := [("_", 5)]) (by rfl) sc_Spans_init.nd (pi_range1 (by rfl) T.z_range (pa_cons (pe_op op_add (pe_callB cl_lenS (by rfl) T.z_len (by decide +kernel) (pa_cons (pv 2) pa_nil)) pe_int) pa_nil)) (blkOk_by (N := ["self", "grammar", "text", "rule", "row", "_"]) (sc := (defScope s_Spans_init)) (by decide +kernel)) (fun _ _ _ _ _ => (pg_name (i := 5) sc_Spans_init.nd rfl (Or.inl rfl))) (fun _ _ _ _ _ => pts_nil) (fun _ _ _ _ _ => pe_dnewK)) rfl)
  (pss_cons (kfldS K (pv 0) (pe_lc (own := [("_", 5)]) (by rfl) sc_Spans_init.nd (pi_range1 (by rfl) T.z_range (pa_cons (pe_op op_add (pe_callB cl_lenS (by rfl) T.z_len (by decide +kernel) (pa_cons (pv 2) pa_nil)) pe_int) pa_nil)) (blkOk_by (N := ["self", "grammar", "text", "rule", "row", "_"]) (sc := (defScope s_Spans_init)) (by decide +kernel)) (fun _ _ _ _ _ => (pg_name (i := 5) sc_Spans_init.nd rfl (Or.inl rfl))) (fun _ _ _ _ _ => pts_nil) (fun _ _ _ _ _ => (pe_lst pa_nil))) rfl)
  (pss_cons (kfldS K (pv 0) (pe_lc (own := [("_", 5)]) (by rfl) sc_Spans_init.nd (pi_range1 (by rfl) T.z_range (pa_cons (pe_op op_add (pe_callB cl_lenS (by rfl) T.z_len (by decide +kernel) (pa_cons (pv 2) pa_nil)) pe_int) pa_nil)) (blkOk_by (N := ["self", "grammar", "text", "rule", "row", "_"]) (sc := (defScope s_Spans_init)) (by decide +kernel)) (fun _ _ _ _ _ => (pg_name (i := 5) sc_Spans_init.nd rfl (Or.inl rfl))) (fun _ _ _ _ _ => pts_nil) (fun _ _ _ _ _ => pe_dnewT)) rfl)
  (pss_cons (kfldS K (pv 0) (pe_lc (own := [("_", 5)]) (by rfl) sc_Spans_init.nd (pi_range1 (by rfl) T.z_range (pa_cons (pe_op op_add (pe_callB cl_lenS (by rfl) T.z_len (by decide +kernel) (pa_cons (pv 2) pa_nil)) pe_int) pa_nil)) (blkOk_by (N := ["self", "grammar", "text", "rule", "row", "_"]) (sc := (defScope s_Spans_init)) (by decide +kernel)) (fun _ _ _ _ _ => (pg_name (i := 5) sc_Spans_init.nd rfl (Or.inl rfl))) (fun _ _ _ _ _ => pts_nil) (fun _ _ _ _ _ => pe_dnewK)) rfl)
  (pss_one (kfldS K (pv 0) pe_int rfl))))))))))), ?_⟩
  obtain ⟨cl, n1, n2, n3, n4, n5, n6, n7, n8, n9⟩ := T.spF
  have hgH := hg.same s0
  obtain ⟨rl, ras, hg1, hg2, hg3⟩ := id hgH
  have nsp : ∀ a o, H a = some o → (∀ C dx fs, o ≠ .ins C dx fs) → a ≠ sp := fun a o h hn e => by rw [e, hsp] at h; exact hn _ _ _ (Option.some.inj h).symm
  walk_at "go"
  refine x_setFR hsp cl n1 (by show 0 < 1000; decide) ?_
  walk_at "go"
  refine x_setFR upd_same cl n2 (by show 1 < 1000; decide) ?_
  walk_at "go"
  rw [upd_upd]
  generalize hfs1 : putF ("text" : Str) (V.str z) (putF ("grammar" : Str) (V.ref g) []) = fs1
  have gX : ∀ fs, GramAt (L2.upd H sp (.ins T.C_Spans dx fs)) l g := fun fs => hg.same (s0.mut p0)
  refine ⟨g, l, rfl, gX _, fun H2 em s2 hem hemv => ?_⟩
  have hsp2 : H2 sp = some (.ins T.C_Spans dx fs1) := s2 _ _ upd_same
  walk_at "go"
  refine x_setFR hsp2 cl n3 (by rw [← hfs1]; show 2 < 1000; decide) ?_
  generalize hfs2 : putF ("empty" : Str) (V.ref em) fs1 = fs2
  have l2 : fs2.length = 3 := by rw [← hfs2, ← hfs1]; rfl
  generalize h3 : L2.upd H2 sp (.ins T.C_Spans dx fs2) = H3
  have hsp3 : H3 sp = some (.ins T.C_Spans dx fs2) := by rw [← h3]; exact upd_same
  have X01 : SameX sp H H2 := (SameX.upd).trans (SameX.of s2)
  have X13 : SameX sp H2 H3 := by rw [← h3]; exact SameX.upd
  have D13 : Dm H2 H3 := by rw [← h3]; exact Dm.upd
  walk_at "go"
  intro bn hbn
  walk_at "go"
  refine x_setFR (look1 hsp3 hbn) cl n4 (by rw [l2]; decide) ?_
  generalize hfs3 : putF ("by_name" : Str) (V.ref bn) fs2 = fs3
  have l3 : fs3.length = 4 := by rw [← hfs3, ← hfs2, ← hfs1]; rfl
  generalize h5 : L2.upd (L2.upd H3 bn (.dK [])) sp (.ins T.C_Spans dx fs3) = H5
  have hsp5 : H5 sp = some (.ins T.C_Spans dx fs3) := by rw [← h5]; exact upd_same
  have nbn : bn ≠ sp := fun e => by rw [e, hsp3] at hbn; cases hbn
  have hbn5 : H5 bn = some (.dK []) := by rw [← h5, upd_ne nbn]; exact upd_same
  have X35 : SameX sp H3 H5 := by rw [← h5]; exact (SameX.of (Same.new hbn)).trans SameX.upd
  have D35 : Dm H3 H5 := by rw [← h5]; exact (Dm.same (Same.new hbn)).trans Dm.upd
  have X05 := (X01.trans X13).trans X35
  have g5 : GramAt H5 l g := hg.same (fun a o h => X05 a o (fun e => by rw [e, p0] at h; cases h) (s0 a o h))
  obtain ⟨rl5, ras5, hg51, hg52, hg53⟩ := id g5
  walk_at "go"
  refine x_forER hg52 (fun i σ H' => ∃ v1 v2 b, σ = [some (.ref sp), some (.ref g), some (.str z), v1, v2, none] ∧ BnAt H5 bn i b H')
    ⟨none, none, fun _ => sp, rfl, ⟨fun a o _ h => h, Dm.refl _, hbn5, fun x hx => absurd hx (by simp [bnK]), fun x y hx => absurd hx (by simp [bnK])⟩⟩
    (fun i σ H' _ ⟨_, _, _, _, B⟩ => B.s _ _ (fun e => by rw [e, hbn5] at hg52; cases hg52) hg52) ?_ ?_
  · rintro i x σ H6 U hi ⟨v1, v2, b, rfl, B⟩ hU
    have hi9 : i < 9 := by
      have := (List.getElem?_eq_some_iff.mp hi).1
      have h2 : ras5.length = 9 := by rw [Paired.length hg53]; rfl
      rw [List.length_map] at this
      omega
    obtain ⟨ra, hra, rfl⟩ : ∃ ra, ras5[i]? = some ra ∧ x = V.ref ra := by
      rw [List.getElem?_map] at hi
      obtain ⟨r, h1, h2⟩ := Option.map_eq_some_iff.mp hi
      exact ⟨r, h1, h2.symm⟩
    obtain ⟨r, hr9, sa, lab, g4, _⟩ := Paired.at' hg53 hra
    have er : r = i := by
      rw [List.getElem?_range hi9] at hr9
      exact (Option.some.inj hr9).symm
    subst er
    have nbs : sp ≠ bn := fun e => nbn e.symm
    have g4' : H6 ra = _ := B.s _ _ (fun e => by rw [e, hbn5] at g4; cases g4) g4
    have hsp6 : H6 sp = _ := B.s _ _ nbs hsp5
    have hbn6 := B.d
    unfold dkO at hbn6
    have lk4 : fs3.lookup ("by_name" : Str) = some (V.ref bn) := by rw [← hfs3, ← hfs2, ← hfs1]; rfl
    walk_at "go"
    refine ⟨Nat.zero_le _, fun q hq => ?_⟩
    have hq6 : H6 q = none := (Same.new hU).free hq
    have kl : ((bnK r).map fun x => ((.inr (nS x) : Key), V.ref (b x))).length < sizeLine := by
      rw [List.length_map]; have := nt_few (bnK_nd r); exact small_ (by omega)
    have nUbn : U ≠ bn := fun e => by rw [e, hbn6] at hU; cases hU
    have nqbn : q ≠ bn := fun e => by rw [e] at hq6; rw [hbn6] at hq6; cases hq6
    generalize hT : (HO.tup [V.int (r : Nat), V.ref ra]) = tU at hq ⊢
    -- behind the look-up
    refine x_dsbJ (fun v H7 => ∃ b' a, v = .ref a ∧ b' (left r) = a ∧ H7 a = some (.lst ((bnl r (left r)).map fun r => V.int (r : Nat))) ∧ a ≠ bn ∧ H5 a = none ∧ SameX bn H5 H7 ∧ Dm H5 H7 ∧ H7 bn = some (dkO (bnK (r + 1)) b') ∧
        (∀ x, x ∈ bnK r → x ≠ left r → H7 (b' x) = some (.lst ((bnl r x).map fun r => V.int (r : Nat))) ∧ H5 (b' x) = none) ∧ (∀ x y, x ∈ bnK (r + 1) → y ∈ bnK (r + 1) → b' x = b' y → x = y))
      (look1 (look1 hbn6 hU) hq) kl (fun v hv => ?_) (fun hv => ?_) ?_
    · rw [valV_dk] at hv
      by_cases c : left r ∈ bnK r
      · rw [if_pos c] at hv
        have eK : bnK (r + 1) = bnK r := by show (if _ then _ else _) = _; rw [if_pos (by simpa using c)]
        obtain ⟨q1, q2⟩ := B.l _ c
        refine ⟨b, _, (Option.some.inj hv).symm, rfl, look1 (look1 q1 hU) hq, fun e => (by rw [e, hbn5] at q2; cases q2), q2, ?_, ?_, ?_, fun x hx _ => ?_, ?_⟩
        · exact (B.s.trans (SameX.of (Same.new hU))).trans (SameX.of (Same.new hq))
        · exact (B.m.trans (Dm.same (Same.new hU))).trans (Dm.same (Same.new hq))
        · rw [eK]; exact look1 (look1 B.d hU) hq
        · exact ⟨look1 (look1 (B.l x hx).1 hU) hq, (B.l x hx).2⟩
        · rw [eK]; exact B.inj
      · rw [if_neg c] at hv; cases hv
    · rw [valV_dk] at hv
      have c : left r ∉ bnK r := fun c => by rw [if_pos c] at hv; cases hv
      have eK : bnK (r + 1) = bnK r ++ [left r] := by show (if _ then _ else _) = _; rw [if_neg (by simpa using c)]
      have e0 := bnl_0 r hi9 (by simpa using c)
      have hq5 : H5 q = none := B.m _ hq6
      have nbq : ∀ x, x ∈ bnK r → b x ≠ q := fun x hx e => by have := (B.l x hx).1; rw [e, hq6] at this; cases this
      refine ⟨fun y => if y = left r then q else b y, q, rfl, if_pos rfl, ?_, nqbn, hq5, ?_, ?_, ?_, fun x hx hne => ?_, fun x y hx hy e => ?_⟩
      · rw [upd_ne nqbn, e0]; exact upd_same
      · exact ((B.s.trans (SameX.of (Same.new hU))).trans (SameX.of (Same.new hq))).trans SameX.upd
      · exact ((B.m.trans (Dm.same (Same.new hU))).trans (Dm.same (Same.new hq))).trans Dm.upd
      · rw [eK, dk_snocN c]; exact upd_same
      · simp only [if_neg hne]
        obtain ⟨q1, q2⟩ := B.l x hx
        exact ⟨by rw [upd_ne (fun e => by rw [e, hbn5] at q2; cases q2)]; exact look1 (look1 q1 hU) hq, q2⟩
      · rw [eK] at hx hy
        by_cases ex : x = left r
        · by_cases ey : y = left r
          · rw [ex, ey]
          · simp only [if_pos ex, if_neg ey] at e
            exact absurd e.symm (nbq y (by simpa [ey] using hy))
        · by_cases ey : y = left r
          · simp only [if_pos ey, if_neg ex] at e
            exact absurd e (nbq x (by simpa [ex] using hx))
          · simp only [if_neg ex, if_neg ey] at e
            exact B.inj x y (by simpa [ex] using hx) (by simpa [ey] using hy) e
    · rintro v H7 ⟨b', a, rfl, hb', ha, nab, ha5, s7, m7, d7, l7, i7⟩
      walk_at "go"
      refine x_append ha (by rw [List.length_map]; have := bnl_len r (left r); exact small_ (by omega)) ?_
      refine ⟨_, _, b', rfl, ?_⟩
      refine ⟨fun c o nc h => ?_, m7.trans Dm.upd, by rw [upd_ne (fun e => nab e.symm)]; exact d7, fun x hx => ?_, i7⟩
      · rw [upd_ne (fun e => by rw [e, ha5] at h; cases h)]; exact s7 _ _ nc h
      · by_cases ex : x = left r
        · subst ex
          rw [hb', bnl_s, if_pos (by simp), List.map_append]
          exact ⟨upd_same, ha5⟩
        · have hx' : x ∈ bnK r := by
            have hx : x ∈ (if (bnK r).contains (left r) = true then bnK r else bnK r ++ [left r]) := hx
            split at hx
            · exact hx
            · simpa [ex] using hx
          obtain ⟨q1, q2⟩ := l7 x hx' ex
          have lm : left r ∈ bnK (r + 1) := by
            show left r ∈ (if (bnK r).contains (left r) = true then bnK r else bnK r ++ [left r])
            split
            · rename_i c; simpa using c
            · simp
          have xm : x ∈ bnK (r + 1) := hx
          have ne : b' x ≠ a := fun e => ex (i7 x _ xm lm (by rw [e, hb']))
          rw [bnl_s, if_neg (by simpa using fun e => ex e.symm), List.append_nil, upd_ne ne]
          exact ⟨q1, q2⟩
  · rintro σ H6 ⟨v1, v2, b, rfl, B⟩
    have hl9 : (ras5.map V.ref).length = 9 := by rw [List.length_map, Paired.length hg53]; rfl
    rw [hl9] at B
    have hz1 : z.length + 1 ≤ 99999 := by omega
    have nbs : sp ≠ bn := fun e => nbn e.symm
    have hsp6 : H6 sp = _ := B.s _ _ nbs hsp5
    walk_at "go"
    rw [show ((z.length : Nat) : Int) + 1 = ((z.length + 1 : Nat) : Int) by omega]
    refine x_lcNew (o := .dK []) (fun σ H Q h => h) (fun _ => rfl) hz1 (fun ro H7 roA s7 hro0 hro hroA roI => ?_)
    walk_at "go"
    refine x_setFR (s7 _ _ hsp6) cl n5 (by rw [l3]; decide) ?_
    generalize hfs4 : putF ("rows" : Str) (V.ref ro) fs3 = fs4
    have l4 : fs4.length = 5 := by rw [← hfs4, ← hfs3, ← hfs2, ← hfs1]; rfl
    generalize h8 : L2.upd H7 sp (.ins T.C_Spans dx fs4) = H8
    have hsp8 : H8 sp = some (.ins T.C_Spans dx fs4) := by rw [← h8]; exact upd_same
    have X68 : SameX sp H6 H8 := by rw [← h8]; exact (SameX.of s7).trans SameX.upd
    have X78 : SameX sp H7 H8 := by rw [← h8]; exact SameX.upd
    have D78 : Dm H7 H8 := by rw [← h8]; exact Dm.upd
    have D68 : Dm H6 H8 := (Dm.same s7).trans D78
    walk_at "go"
    rw [show ((z.length : Nat) : Int) + 1 = ((z.length + 1 : Nat) : Int) by omega]
    refine x_lcNew (o := .lst []) (fun σ H Q h => x_lst (x_nil ⟨Nat.zero_le _, h⟩)) (fun _ => rfl) hz1 (fun st H9 stA s9 hst0 hst hstA stI => ?_)
    walk_at "go"
    refine x_setFR (s9 _ _ hsp8) cl n6 (by rw [l4]; decide) ?_
    generalize hfs5 : putF ("states" : Str) (V.ref st) fs4 = fs5
    have l5 : fs5.length = 6 := by rw [← hfs5, ← hfs4, ← hfs3, ← hfs2, ← hfs1]; rfl
    generalize h10 : L2.upd H9 sp (.ins T.C_Spans dx fs5) = H10
    have hsp10 : H10 sp = some (.ins T.C_Spans dx fs5) := by rw [← h10]; exact upd_same
    have X810 : SameX sp H8 H10 := by rw [← h10]; exact (SameX.of s9).trans SameX.upd
    have X910 : SameX sp H9 H10 := by rw [← h10]; exact SameX.upd
    have D910 : Dm H9 H10 := by rw [← h10]; exact Dm.upd
    have D810 : Dm H8 H10 := (Dm.same s9).trans D910
    walk_at "go"
    rw [show ((z.length : Nat) : Int) + 1 = ((z.length + 1 : Nat) : Int) by omega]
    refine x_lcNew (o := .dT []) (fun σ H Q h => h) (fun _ => rfl) hz1 (fun th H11 thA s11 hth0 hth hthA thI => ?_)
    walk_at "go"
    refine x_setFR (s11 _ _ hsp10) cl n7 (by rw [l5]; decide) ?_
    generalize hfs6 : putF ("there" : Str) (V.ref th) fs5 = fs6
    have l6 : fs6.length = 7 := by rw [← hfs6, ← hfs5, ← hfs4, ← hfs3, ← hfs2, ← hfs1]; rfl
    generalize h12 : L2.upd H11 sp (.ins T.C_Spans dx fs6) = H12
    have hsp12 : H12 sp = some (.ins T.C_Spans dx fs6) := by rw [← h12]; exact upd_same
    have X1012 : SameX sp H10 H12 := by rw [← h12]; exact (SameX.of s11).trans SameX.upd
    have X1112 : SameX sp H11 H12 := by rw [← h12]; exact SameX.upd
    have D1112 : Dm H11 H12 := by rw [← h12]; exact Dm.upd
    have D1012 : Dm H10 H12 := (Dm.same s11).trans D1112
    walk_at "go"
    rw [show ((z.length : Nat) : Int) + 1 = ((z.length + 1 : Nat) : Int) by omega]
    refine x_lcNew (o := .dK []) (fun σ H Q h => h) (fun _ => rfl) hz1 (fun wa H13 waA s13 hwa0 hwa hwaA waI => ?_)
    walk_at "go"
    refine x_setFR (s13 _ _ hsp12) cl n8 (by rw [l6]; decide) ?_
    generalize hfs7 : putF ("waiting" : Str) (V.ref wa) fs6 = fs7
    have l7 : fs7.length = 8 := by rw [← hfs7, ← hfs6, ← hfs5, ← hfs4, ← hfs3, ← hfs2, ← hfs1]; rfl
    walk_at "go"
    refine x_setFR upd_same cl n9 (by rw [l7]; decide) ?_
    rw [upd_upd]
    generalize hfs8 : putF ("made" : Str) (V.int 0) fs7 = fs8
    have efs : fs8 = spF g z em bn ro st th wa 0 := by rw [← hfs8, ← hfs7, ← hfs6, ← hfs5, ← hfs4, ← hfs3, ← hfs2, ← hfs1]; rfl
    generalize h14 : L2.upd H13 sp (.ins T.C_Spans dx fs8) = H14
    have hsp14 : H14 sp = some (.ins T.C_Spans dx fs8) := by rw [← h14]; exact upd_same
    have X1214 : SameX sp H12 H14 := by rw [← h14]; exact (SameX.of s13).trans SameX.upd
    have X1314 : SameX sp H13 H14 := by rw [← h14]; exact SameX.upd
    have D1314 : Dm H13 H14 := by rw [← h14]; exact Dm.upd
    have D1214 : Dm H12 H14 := (Dm.same s13).trans D1314
    rw [efs] at hsp14
    have Bd := B.d
    rw [bnK9] at Bd
    have Bl : ∀ x, H6 (b x) = some (.lst ((byN x).map fun r => V.int (r : Nat))) ∧ H5 (b x) = none := fun x => by
      have := B.l x (by rw [bnK9]; exact allN_all x)
      rw [bnl9] at this; exact this
    have esd : dx ≠ sp := fun e => by rw [e, hsp] at hdx; cases hdx
    have esm : em ≠ sp := fun e => by rw [e, upd_same] at hem; cases hem
    have ebl : ∀ x, b x ≠ sp := fun x e => by have := (Bl x).2; rw [e, hsp5] at this; cases this
    have ero : ro ≠ sp := fun e => by rw [e, hsp6] at hro0; cases hro0
    have est : st ≠ sp := fun e => by rw [e, hsp8] at hst0; cases hst0
    have eth : th ≠ sp := fun e => by rw [e, hsp10] at hth0; cases hth0
    have ewa : wa ≠ sp := fun e => by rw [e, hsp12] at hwa0; cases hwa0
    have eroA : ∀ i, i ≤ z.length → roA i ≠ sp := fun i hi e => by have := (hroA i (by omega)).2.1; rw [e, hsp6] at this; cases this
    have estA : ∀ i, i ≤ z.length → stA i ≠ sp := fun i hi e => by have := (hstA i (by omega)).2.1; rw [e, hsp8] at this; cases this
    have ethA : ∀ i, i ≤ z.length → thA i ≠ sp := fun i hi e => by have := (hthA i (by omega)).2.1; rw [e, hsp10] at this; cases this
    have ewaA : ∀ i, i ≤ z.length → waA i ≠ sp := fun i hi e => by have := (hwaA i (by omega)).2.1; rw [e, hsp12] at this; cases this
    generalize hHa : L2.upd H sp (.ins T.C_Spans dx fs1) = Ha at hem s2
    have DHa : Dm H Ha := by rw [← hHa]; exact Dm.upd
    have XHa : SameX sp H Ha := by rw [← hHa]; exact SameX.upd
    have hspa : Ha sp = some (.ins T.C_Spans dx fs1) := by rw [← hHa]; exact upd_same
    have Da3 : Dm Ha H3 := (Dm.same s2).trans D13
    have DH3 : Dm H H3 := DHa.trans Da3
    have D02 : Dm H0 Ha := (Dm.same s0).trans DHa
    have D03 : Dm H0 H3 := D02.trans Da3
    have D05 : Dm H0 H5 := D03.trans D35
    have D06 : Dm H0 H6 := D05.trans B.m
    have D08 : Dm H0 H8 := D06.trans D68
    have D010 : Dm H0 H10 := D08.trans D810
    have D012 : Dm H0 H12 := D010.trans D1012
    have X1014 : SameX sp H10 H14 := X1012.trans X1214
    have X814 : SameX sp H8 H14 := X810.trans X1014
    have X614 : SameX sp H6 H14 := X68.trans X814
    have X714 : SameX sp H7 H14 := X78.trans X814
    have X914 : SameX sp H9 H14 := X910.trans X1014
    have X1114 : SameX sp H11 H14 := X1112.trans X1214
    have emb : em ≠ bn := fun e => by rw [e] at hemv; have := D13 _ hbn; rw [hemv] at this; cases this
    have hem5 : H5 em = some (.lst [.str "p"]) := X35 _ _ esm (X13 _ _ esm hemv)
    have hem14 : H14 em = some (.lst [.str "p"]) := X614 _ _ esm (B.s _ _ emb hem5)
    have hdx14 : H14 dx = some (.own sp) := X614 _ _ esd (B.s _ _ (fun e => by rw [e] at hdx; have := DH3 _ hbn; rw [hdx] at this; cases this) (X05 _ _ esd hdx))
    have U0 : ∀ p, isUsed z.length SS0 p → (∀ i x, p ≠ .roL i x) ∧ (∀ i x, p ≠ .waL i x) := fun p hp => ⟨fun i x e => (by subst e; exact absurd hp.2 (by simp [SS0])), fun i x e => (by subst e; exact absurd hp.2 (by simp [SS0]))⟩
    -- the addresses by role, and the stages
    refine k H14 (fun p => match p with
      | .sp => sp | .dx => dx | .em => em | .bn => bn | .bl x => b x | .ro => ro | .st => st | .th => th | .wa => wa
      | .roA i => roA i | .stA i => stA i | .thA i => thA i | .waA i => waA i | .roL _ _ => sp | .waL _ _ => sp) rfl ?_
    refine ⟨?_, ?_, ⟨?_, ?_⟩⟩
    · intro a o h
      have n1 : a ≠ sp := fun e => by rw [e, p0] at h; cases h
      have n2 : a ≠ bn := fun e => by rw [e, D03 _ hbn] at h; cases h
      exact X614 _ _ n1 (B.s _ _ n2 (X05 _ _ n1 (s0 _ _ h)))
    · intro p hp
      cases p with
      | sp => exact p0
      | dx => exact d0
      | em => exact D02 _ hem
      | bn => exact D03 _ hbn
      | bl x => exact D05 _ (Bl x).2
      | ro => exact D06 _ hro0
      | st => exact D08 _ hst0
      | th => exact D010 _ hth0
      | wa => exact D012 _ hwa0
      | roA i => exact D06 _ (hroA i (Nat.lt_succ_of_le hp)).2.1
      | stA i => exact D08 _ (hstA i (Nat.lt_succ_of_le hp)).2.1
      | thA i => exact D010 _ (hthA i (Nat.lt_succ_of_le hp)).2.1
      | waA i => exact D012 _ (hwaA i (Nat.lt_succ_of_le hp)).2.1
      | roL i x => exact absurd rfl ((U0 _ hp).1 i x)
      | waL i x => exact absurd rfl ((U0 _ hp).2 i x)
    · refine stage_inj (F := fun k => match k with | 0 => H0 | 1 => Ha | 2 => H3 | 3 => H5 | 4 => H6 | 5 => H8 | 6 => H10 | 7 => H12 | _ => H14)
        (st := fun p => match p with | .sp => 0 | .dx => 0 | .em => 1 | .bn => 2 | .bl _ => 3 | .ro => 4 | .roA _ => 4 | .st => 5 | .stA _ => 5 | .th => 6 | .thA _ => 6 | .wa => 7 | .waA _ => 7 | .roL _ _ => 0 | .waL _ _ => 0) ?_ ?_ ?_ ?_
      · intro k
        match k with
        | 0 => exact D02
        | 1 => exact Da3
        | 2 => exact D35
        | 3 => exact B.m
        | 4 => exact D68
        | 5 => exact D810
        | 6 => exact D1012
        | 7 => exact D1214
        | k + 8 => exact Dm.refl _
      · intro p hp
        cases p with
        | sp => exact p0
        | dx => exact d0
        | em => exact hem
        | bn => exact hbn
        | bl x => exact (Bl x).2
        | ro => exact hro0
        | st => exact hst0
        | th => exact hth0
        | wa => exact hwa0
        | roA i => exact (hroA i (Nat.lt_succ_of_le hp)).2.1
        | stA i => exact (hstA i (Nat.lt_succ_of_le hp)).2.1
        | thA i => exact (hthA i (Nat.lt_succ_of_le hp)).2.1
        | waA i => exact (hwaA i (Nat.lt_succ_of_le hp)).2.1
        | roL i x => exact absurd rfl ((U0 _ hp).1 i x)
        | waL i x => exact absurd rfl ((U0 _ hp).2 i x)
      · intro p hp
        have sm : ∀ {o : HO} {H' : Hp} {a : Addr}, H' a = some o → H' a ≠ none := fun h e => by rw [h] at e; cases e
        cases p with
        | sp => exact sm hspa
        | dx => exact sm (XHa _ _ esd hdx)
        | em => exact sm (X13 _ _ esm hemv)
        | bn => exact sm hbn5
        | bl x => exact sm (Bl x).1
        | ro => exact sm (X78 _ _ ero hro)
        | st => exact sm (X910 _ _ est hst)
        | th => exact sm (X1112 _ _ eth hth)
        | wa => exact sm (X1314 _ _ ewa hwa)
        | roA i => exact sm (X78 _ _ (eroA i hp) (hroA i (Nat.lt_succ_of_le hp)).1)
        | stA i => exact sm (X910 _ _ (estA i hp) (hstA i (Nat.lt_succ_of_le hp)).1)
        | thA i => exact sm (X1112 _ _ (ethA i hp) (hthA i (Nat.lt_succ_of_le hp)).1)
        | waA i => exact sm (X1314 _ _ (ewaA i hp) (hwaA i (Nat.lt_succ_of_le hp)).1)
        | roL i x => exact absurd rfl ((U0 _ hp).1 i x)
        | waL i x => exact absurd rfl ((U0 _ hp).2 i x)
      · intro p q hp hq es ea
        have nr := U0 _ hp
        have nq := U0 _ hq
        cases p with
        | roL i x => exact absurd rfl (nr.1 i x)
        | waL i x => exact absurd rfl (nr.2 i x)
        | sp => cases q with
          | sp => rfl
          | dx => exact absurd ea.symm esd
          | roL i x => exact absurd rfl (nq.1 i x)
          | waL i x => exact absurd rfl (nq.2 i x)
          | _ => simp at es
        | dx => cases q with
          | dx => rfl
          | sp => exact absurd ea esd
          | roL i x => exact absurd rfl (nq.1 i x)
          | waL i x => exact absurd rfl (nq.2 i x)
          | _ => simp at es
        | em => cases q with
          | em => rfl
          | _ => simp at es
        | bn => cases q with
          | bn => rfl
          | _ => simp at es
        | bl x => cases q with
          | bl y => rw [B.inj x y (by rw [bnK9]; exact allN_all x) (by rw [bnK9]; exact allN_all y) ea]
          | _ => simp at es
        | ro => cases q with
          | ro => rfl
          | roA i => exact absurd ea.symm (hroA i (Nat.lt_succ_of_le hq)).2.2
          | _ => simp at es
        | roA i => cases q with
          | ro => exact absurd ea (hroA i (Nat.lt_succ_of_le hp)).2.2
          | roA j => rw [roI i j (Nat.lt_succ_of_le hp) (Nat.lt_succ_of_le hq) ea]
          | _ => simp at es
        | st => cases q with
          | st => rfl
          | stA i => exact absurd ea.symm (hstA i (Nat.lt_succ_of_le hq)).2.2
          | _ => simp at es
        | stA i => cases q with
          | st => exact absurd ea (hstA i (Nat.lt_succ_of_le hp)).2.2
          | stA j => rw [stI i j (Nat.lt_succ_of_le hp) (Nat.lt_succ_of_le hq) ea]
          | _ => simp at es
        | th => cases q with
          | th => rfl
          | thA i => exact absurd ea.symm (hthA i (Nat.lt_succ_of_le hq)).2.2
          | _ => simp at es
        | thA i => cases q with
          | th => exact absurd ea (hthA i (Nat.lt_succ_of_le hp)).2.2
          | thA j => rw [thI i j (Nat.lt_succ_of_le hp) (Nat.lt_succ_of_le hq) ea]
          | _ => simp at es
        | wa => cases q with
          | wa => rfl
          | waA i => exact absurd ea.symm (hwaA i (Nat.lt_succ_of_le hq)).2.2
          | _ => simp at es
        | waA i => cases q with
          | wa => exact absurd ea (hwaA i (Nat.lt_succ_of_le hp)).2.2
          | waA j => rw [waI i j (Nat.lt_succ_of_le hp) (Nat.lt_succ_of_le hq) ea]
          | _ => simp at es
    · intro p hp
      cases p with
      | sp => exact ⟨_, hsp14, rfl⟩
      | dx => exact ⟨_, hdx14, rfl⟩
      | em => exact ⟨_, hem14, rfl⟩
      | bn => exact ⟨_, X614 _ _ nbn Bd, rfl⟩
      | bl x => exact ⟨_, X614 _ _ (ebl x) (Bl x).1, rfl⟩
      | ro => exact ⟨_, X714 _ _ ero hro, rfl⟩
      | st => exact ⟨_, X914 _ _ est hst, rfl⟩
      | th => exact ⟨_, X1114 _ _ eth hth, rfl⟩
      | wa => exact ⟨_, X1314 _ _ ewa hwa, rfl⟩
      | roA i => exact ⟨_, X714 _ _ (eroA i hp) (hroA i (Nat.lt_succ_of_le hp)).1, [], List.nodup_nil, fun x => by simp [SS0], rfl⟩
      | stA i => exact ⟨_, X914 _ _ (estA i hp) (hstA i (Nat.lt_succ_of_le hp)).1, [], .nil, rfl⟩
      | thA i => exact ⟨_, X1114 _ _ (ethA i hp) (hthA i (Nat.lt_succ_of_le hp)).1, rfl⟩
      | waA i => exact ⟨_, X1314 _ _ (ewaA i hp) (hwaA i (Nat.lt_succ_of_le hp)).1, [], List.nodup_nil, fun x => by simp [SS0], rfl⟩
      | roL i x => exact absurd rfl ((U0 _ hp).1 i x)
      | waL i x => exact absurd rfl ((U0 _ hp).2 i x)
end
theorem x_make {C : Addr} {sp : Sp} {dvs : List V} {E : XK} {t : TA} {σ : L2.St} {H : Hp} {Q : VK} (h : t σ H fun vs H1 => ∀ x dx, H1 x = none → H1 dx = none → dx ≠ x → sp (.ref x :: (vs ++ dvs)) (upd (upd H1 dx (.own x)) x (.ins C dx [])) (fun v H2 => v = .non ∧ Q (.ref x) H2) E) :
    tMake C sp dvs E t σ H Q := h
section
variable {P : Program} {w : World} {K : PySem.W.Frag} {mg : Str → Option Value} {base : Heap}
def spSO (C : Addr) : Sp := fun vs H Q _ => ∃ (g : Addr) (z : Str) (l : Bool), vs = [.ref g, .str z] ∧ GramAt H l g ∧ z.length ≤ 500 ∧
  ∀ H' ad S, SpA C g z H H' ad S → Good l (tx z) (z.length + 1) 0 S → WB (z.length + 1) 0 S → S.md = z.length + 1 → Q (.ref (ad .sp)) H'
theorem ok_spans_of (T : TX K mg) (G_Spans_init : FnOk P w K mg base CX0 2 T.f_Spans_init T.d_Spans_init ["self", "grammar", "text"] (spInit T.C_Spans))
    (G_Spans_predict : FnOk P w K mg base CX0 2 T.f_Spans_predict T.d_Spans_predict ["self", "at", "name"] (spPred T.C_Spans))
    (G_Spans_fill : FnOk P w K mg base CX0 4 T.f_Spans_fill T.d_Spans_fill ["self", "at"] (spFill T.C_Spans)) :
    FnOk P w K mg base CX0 5 T.f_spans_of T.d_spans_of ["grammar", "text"] (spSO T.C_Spans) := by
  refine T.F_spans_of.ok sc_spans_of (fun vs H Q E h => ?_) (fun cdv A outer s H vs Q E hr h => ?_)
  · obtain ⟨g, z, l, rfl, _⟩ := h
    rfl
  obtain ⟨g, z, l, rfl, hg, hz, k⟩ := h
  refine ⟨_, (pss_cons (ps_set (i := 2) sc_spans_of.nd rfl (Or.inl rfl) (pe_make T.mk_Spans G_Spans_init (hr.mono (by decide)) (by rfl) T.mC_Spans T.b_Spans_init .nil pass0 (pa_cons (pv 0) (pa_cons (pv 1) pa_nil))))
  (pss_cons (ps_expr (pe_meth (pv 2) T.cl_Spans T.me_Spans_predict G_Spans_predict (hr.mono (by decide)) T.b_Spans_predict .nil pass0 (pa_cons pe_int (pa_cons (pe_ix (kx_tup K) (pv 0) pe_int (fun _ _ => rfl)) pa_nil))))
  (pss_cons (ps_dput (hu_of hr) (pe_ix (kx_list K) (kfld K (pv 2) rfl) pe_int (fun _ _ => rfl)) (pe_ix (kx_tup K) (pv 0) pe_int (fun _ _ => rfl)) (pe_lst pa_nil) rfl)
  (pss_cons (ps_for PassesOwn.never rfl (pi_range1 (by rfl) T.z_range (pa_cons (pe_op op_add (pe_callB cl_lenS (by rfl) T.z_len (by decide +kernel) (pa_cons (pv 1) pa_nil)) pe_int) pa_nil)) (pg_name (i := 3) sc_spans_of.nd rfl (Or.inl rfl))
  (pss_one (ps_expr (pe_meth (pv 2) T.cl_Spans T.me_Spans_fill G_Spans_fill (hr.mono (by decide)) T.b_Spans_fill .nil pass0 (pa_cons (pv 3) pa_nil)))))
  (pss_one (ps_ret (pv 2))))))), ?_⟩
  obtain ⟨rl, ras, hg1, hg2, hg3⟩ := id hg
  walk_at "go"
  refine x_make ?_
  walk_at "go"
  intro sp dx hsp0 hdx0 nds
  have s1 : Same H (upd (upd H dx (.own sp)) sp (.ins T.C_Spans dx [])) := (Same.new hdx0).trans (Same.new (by rw [upd_ne (fun e => nds e.symm)]; exact hsp0))
  refine ⟨H, sp, dx, g, z, l, rfl, s1, hsp0, hdx0, upd_same, by rw [upd_ne nds]; exact upd_same, hg, hz, fun H1 ad ead A => ⟨rfl, ?_⟩⟩
  subst ead
  have hsp1 := A.rep.gSp
  dsimp only at hsp1
  have hg1' := A.same _ _ hg1
  walk_at "go"
  refine x_methR hsp1 rfl ?_
  walk_at "go"
  refine ⟨g, z, H, ad, SS0, 0, .p, rfl, A, Nat.zero_le _, Nat.zero_le _, fun H2 A2 _ => ?_⟩
  obtain ⟨cl, n1, n2, n3, n4, n5, n6, n7, n8, n9⟩ := T.spF
  have hsp2 := A2.rep.gSp
  have hwa2 := A2.rep.gWa
  dsimp only at hsp2 hwa2
  have hg2' := A2.same _ _ hg1
  have e3 : atI ((List.range (z.length + 1)).map fun i => V.ref (ad (.waA i))) 0 = some (.ref (ad (.waA 0))) := atI_range (f := fun i => V.ref (ad (.waA i))) (Nat.zero_le _)
  obtain ⟨kw, kw1, kw2, hwaA⟩ := A2.rep.gWaA (i := 0) (Nat.zero_le _)
  dsimp only at hwaA
  have hn : (predI SS0 0 (byN .p)).wt 0 .p = none := rfl
  have kl : (kw.map fun x => ((.inr (nS x) : Key), V.ref (ad (.waL 0 x)))).length < sizeLine := by
    rw [List.length_map]; have := nt_few kw1; exact small_ (by omega)
  walk_at "go"
  refine ⟨Nat.zero_le _, fun q hq => ?_⟩
  walk_at "go"
  refine x_dpK (look1 hwaA hq) kl ?_
  obtain ⟨A3, x3⟩ := A2.newWa hq (Nat.zero_le _) hn kw1 kw2 hwaA
  generalize hadd : setR ad (.waL 0 .p) q = ad3 at A3 x3
  have A3 : SpA T.C_Spans g z H (L2.upd (L2.upd H2 q (.lst [])) (ad (.waA 0)) (.dK (putK (kw.map fun x => ((.inr (nS x) : Key), V.ref (ad (.waL 0 x)))) (.inr ("p" : Str)) (.ref q)))) ad3 SS1 := A3
  have esp : ad3 .sp = ad .sp := x3 .sp trivial
  walk_at "go"
  rw [show ((z.length : Nat) : Int) + 1 = ((z.length + 1 : Nat) : Int) by omega]
  refine x_forR1R (by omega) (fun i σ H' => ∃ v ad' S, σ = [some (.ref g), some (.str z), some (.ref (ad .sp)), v] ∧ ad' .sp = ad .sp ∧ SpA T.C_Spans g z H H' ad' S ∧ Good l (tx z) i 0 S ∧ WB i 0 S ∧ S.md = i)
    ⟨none, ad3, SS1, rfl, esp, A3, SS1_good l _, SS1_WB, rfl⟩ ?_ ?_
  · rintro i σ H4 hi ⟨v, ad4, S4, rfl, e4, A4, G4, W4, m4⟩
    have hsp4 := A4.rep.gSp
    dsimp only at hsp4
    walk_at "go"
    rw [← e4]
    refine x_methR hsp4 rfl ?_
    walk_at "go"
    refine ⟨g, z, H, ad4, S4, i, l, rfl, A4, hg, by omega, hz, G4, W4, fun H5 ad5 S5 e5 A5 G5 W5 m5 _ => ?_⟩
    exact ⟨_, ad5, S5, rfl, e5, A5, G5, W5, by omega⟩
  · rintro σ H4 ⟨v, ad4, S4, rfl, e4, A4, G4, W4, m4⟩
    walk_at "go"
    rw [← e4]
    exact k H4 ad4 S4 A4 G4 W4 m4
end
section
variable {P : Program} {w : World} {K : PySem.W.Frag} {mg : Str → Option Value} {base : Heap}
def takeP (O : SS) (k n : Nat) : SS :=
  ⟨fun m => if m < n then O.st m else [], fun m x => if m < n then O.wt m x else none, fun m x => if m < n then (O.rw m x).map (fun es => es.filter fun e => decide (e < k)) else none, 0⟩
theorem takeP_0 (O : SS) (k : Nat) : takeP O k 0 = SS0 := by
  unfold takeP SS0
  simp
theorem takeP_s (O : SS) (k n : Nat) : takeS (takeP O k n) n (O.st n) (O.wt n) (fun x => (O.rw n x).map (fun es => es.filter fun e => decide (e < k))) = takeP O k (n + 1) := by
  unfold takeS takeP
  congr 1
  · funext i
    by_cases e : i = n
    · subst e; simp
    · by_cases c : i < n
      · simp [e, c, Nat.lt_succ_of_lt c]
      · have : ¬ i < n + 1 := by omega
        simp [e, c, this]
  · funext i x
    by_cases e : i = n
    · subst e; simp
    · by_cases c : i < n
      · simp [e, c, Nat.lt_succ_of_lt c]
      · have : ¬ i < n + 1 := by omega
        simp [e, c, this]
  · funext i x
    by_cases e : i = n
    · subst e; simp
    · by_cases c : i < n
      · simp [e, c, Nat.lt_succ_of_lt c]
      · have : ¬ i < n + 1 := by omega
        simp [e, c, this]
theorem x_dgF {a : Addr} {od : Obj} {kvs : List (Key × V)} {s : Str} {v : V} {H : Hp} {Q : VK} (h : H a = some (.frz od (.dK kvs))) (e : valV kvs (.inr s) = some v) (q : Q v H) : rDG (.ref a) (.str s) H Q := ⟨a, v, rfl, .inl ⟨kvs, .inr s, .inr ⟨od, h⟩, rfl, e.symm⟩, q⟩
theorem rsAll_s (l : Bool) (t : Tx) (k : Nat) (O : SS) (n : Nat) : rsAll l t k O (n + 1) = rsAll l t k O n ++ (O.st n).flatMap (rsl l t k n) := by
  unfold rsAll
  rw [List.range_succ, List.flatMap_append]
  simp
theorem rsAll_pre (l : Bool) (t : Tx) (k : Nat) (O : SS) {i n : Nat} (h : i ≤ n) : rsAll l t k O i <+: rsAll l t k O n := by
  induction n with
  | zero => have : i = 0 := by omega
            subst this; exact List.prefix_refl _
  | succ n ih =>
    by_cases e : i = n + 1
    · subst e; exact List.prefix_refl _
    · rw [rsAll_s]; exact (ih (by omega)).trans (List.prefix_append _ _)
theorem adds_app (S : SS) (as bs : List (Nat × I3)) : adds S (as ++ bs) = adds (adds S as) bs := by unfold adds; rw [List.foldl_append]
theorem adds_mono (S : SS) (m : Nat) : ∀ bs, (S.st m).length ≤ ((adds S bs).st m).length
  | [] => Nat.le_refl _
  | b :: bs => by
    have h := adds_mono (addI S b.1 b.2) m bs
    have h2 : (S.st m).length ≤ ((addI S b.1 b.2).st m).length := by
      unfold addI
      split
      · exact Nat.le_refl _
      · show _ ≤ (setA S.st b.1 _ m).length
        by_cases e : m = b.1
        · rw [e, setA_same]; simp
        · rw [setA_ne e]; exact Nat.le_refl _
    exact Nat.le_trans h2 h
theorem adds_pre {S : SS} {as bs : List (Nat × I3)} (h : as <+: bs) (m : Nat) : ((adds S as).st m).length ≤ ((adds S bs).st m).length := by
  obtain ⟨cs, rfl⟩ := h
  rw [adds_app]; exact adds_mono _ m cs
theorem adds_low {k : Nat} : ∀ (as : List (Nat × I3)) (S : SS) (m : Nat), m < k → (∀ a ∈ as, k ≤ a.1) → (adds S as).st m = S.st m
  | [], _, _, _, _ => rfl
  | a :: as, S, m, hm, h => by
    have h1 := adds_low as (addI S a.1 a.2) m hm fun b hb => h b (List.mem_cons_of_mem _ hb)
    refine h1.trans ?_
    have := h a (List.mem_cons_self ..)
    unfold addI
    split
    · rfl
    · exact setA_ne (by omega)
theorem adds_md : ∀ (as : List (Nat × I3)) (S : SS), (adds S as).md = S.md
  | [], _ => rfl
  | a :: as, S => by
    refine (adds_md as (addI S a.1 a.2)).trans ?_
    unfold addI
    split <;> rfl
theorem rsl_low {l : Bool} {t : Tx} {k m : Nat} {i : I3} {a : Nat × I3} (h : a ∈ rsl l t k m i) : k ≤ a.1 := by
  obtain ⟨y, e, _, _, q, rfl⟩ := rsl_mem h
  exact q
theorem scan_adds (S : SS) (x : I3) (es : List Nat) : scanI S x es = adds S (es.map fun e => (e, (x.1, x.2.1 + 1, x.2.2))) := by
  unfold scanI adds
  rw [List.foldl_map]
theorem nd_take {α : Type} {xs : List α} {j : Nat} {x : α} (nd : xs.Nodup) (hx : xs[j]? = some x) : x ∉ xs.take j := fun c => by
  obtain ⟨i, hi, e⟩ := List.mem_iff_getElem.mp c
  have hj2 : i < j := by rw [List.length_take] at hi; omega
  rw [List.getElem_take] at e
  obtain ⟨h1, h2⟩ := List.getElem?_eq_some_iff.mp hx
  have q := List.pairwise_iff_getElem.mp (List.nodup_iff_pairwise_ne.mp nd) i j (by omega) h1 hj2
  rw [e, h2] at q
  exact q rfl
theorem its_len {H : Hp} {vs : List V} {xs : List I3} (h : Its H vs xs) : vs.length = xs.length := Paired.length h
def lstOf : Option HO → List V
  | some (.lst vs) => vs
  | _ => []
def spTake (C : Addr) : Sp := fun vs H Q _ => ∃ (g : Addr) (z zo : Str) (M M0 : Hp) (ad ado : Role → Addr) (O : SS) (l : Bool) (k : Nat), vs = [.ref (ad .sp), .ref (ado .sp), .int ((k : Int) - 1)] ∧ SpA C g z M H ad SS0 ∧ SpA C g zo M0 M ado O ∧ GramAt M l g ∧
  z.length ≤ 500 ∧ zo.length ≤ 500 ∧ 0 < k ∧ k ≤ zo.length ∧ k ≤ z.length ∧ (∀ i, i < k → (tx zo)[i]? = (tx z)[i]?) ∧ Good l (tx zo) (zo.length + 1) 0 O ∧ WB (zo.length + 1) 0 O ∧
  ∀ H' ad' S, ad' .sp = ad .sp → SpA C g z M H' ad' S → Good l (tx z) k 0 S → WB k 0 S → S.md = 0 → Q .non H'
theorem ok_take (T : TX K mg) (G_Spans_ends : FnOk P w K mg base CX0 1 T.f_Spans_ends T.d_Spans_ends ["self", "symbol", "at"] (spEnds T.C_Spans))
    (G_Spans_scan : FnOk P w K mg base CX0 2 T.f_Spans_scan T.d_Spans_scan ["self", "at", "item", "symbol"] (spScan T.C_Spans)) :
    FnOk P w K mg base CX0 3 T.f_Spans_take_over T.d_Spans_take_over ["self", "other", "last"] (spTake T.C_Spans) := by
  refine T.F_Spans_take_over.ok sc_Spans_take_over (fun vs H Q E h => ?_) (fun cdv A outer s H vs Q E hr h => ?_)
  · obtain ⟨g, z, zo, M, M0, ad, ado, O, l, k, rfl, _⟩ := h
    rfl
  obtain ⟨g, z, zo, M, M0, ad, ado, O, l, n, rfl, A0, AO, hg, hz, hzo, hn, hno, hnz, hag, hG, hW, k⟩ := h
  refine ⟨_, (pss_cons (ps_for PassesOwn.never rfl (pi_range1 (by rfl) T.z_range (pa_cons (pe_op op_add (pv 2) pe_int) pa_nil)) (pg_name (i := 3) sc_Spans_take_over.nd rfl (Or.inr rfl))
  (pss_cons (ps_asg (pe_callTy (kc_list K) (by rfl) T.z_list (by decide +kernel) (pa_cons (pe_ix (kx_list K) (kfld K (pv 1) rfl) (pv 3) (fun _ _ => rfl)) pa_nil)) (pg_sub (kfld K (pv 0) rfl) (pv 3) set_list))
  (pss_cons (ps_asg (pe_lock (pe_dcT (hu_of hr) (own := [("item", 4)]) (by rfl) sc_Spans_take_over.nd (pi_keys (pe_ix (kx_list K) (kfld K (pv 1) rfl) (pv 3) (fun _ _ => rfl))) (blkOk_by (N := ["self", "other", "last", "at", "item", "rows", "symbols", "name", "end"]) (sc := (defScope s_Spans_take_over)) (by decide +kernel)) (fun _ _ _ _ _ => (pg_name (i := 4) sc_Spans_take_over.nd rfl (Or.inl rfl))) (fun _ _ _ _ _ => pts_nil) (fun _ _ _ _ _ => (pv 4)) (fun _ _ _ _ _ => pe_bl))) (pg_sub (kfld K (pv 0) rfl) (pv 3) set_list))
  (pss_cons (ps_asg (pe_lock (pe_dc (own := [("name", 7)]) (by rfl) sc_Spans_take_over.nd (pi_keys (pe_ix (kx_list K) (kfld K (pv 1) rfl) (pv 3) (fun _ _ => rfl))) (blkOk_by (N := ["self", "other", "last", "at", "item", "rows", "symbols", "name", "end"]) (sc := (defScope s_Spans_take_over)) (by decide +kernel)) (fun _ _ _ _ _ => (pg_name (i := 7) sc_Spans_take_over.nd rfl (Or.inl rfl))) (fun _ _ _ _ _ => pts_nil) (fun _ _ _ _ _ => (pv 7)) (fun _ _ _ _ _ => (pe_callTy (kc_list K) (by rfl) T.z_list (by decide +kernel) (pa_cons (pe_dget (hu_of hr) (pe_ix (kx_list K) (kfld K (pv 1) rfl) (pv 3) (fun _ _ => rfl)) (pv 7) (fun _ _ => rfl)) pa_nil))))) (pg_sub (kfld K (pv 0) rfl) (pv 3) set_list))
  (pss_cons (ps_set (i := 5) sc_Spans_take_over.nd rfl (Or.inr rfl) (pe_ix (kx_list K) (kfld K (pv 1) rfl) (pv 3) (fun _ _ => rfl)))
  (pss_one (ps_asg (pe_lock (pe_dc (own := [("name", 7)]) (by rfl) sc_Spans_take_over.nd (pi_keys (pv 5)) (blkOk_by (N := ["self", "other", "last", "at", "item", "rows", "symbols", "name", "end"]) (sc := (defScope s_Spans_take_over)) (by decide +kernel)) (fun _ _ _ _ _ => (pg_name (i := 7) sc_Spans_take_over.nd rfl (Or.inl rfl))) (fun _ _ _ _ _ => pts_nil) (fun _ _ _ _ _ => (pv 7)) (fun _ _ _ _ _ => (pe_lc (own := [("end", 8)]) (by rfl) sc_Spans_take_over.nd (kpi_list K (pe_dget (hu_of hr) (pv 5) (pv 7) (fun _ _ => rfl))) (blkOk_by (N := ["self", "other", "last", "at", "item", "rows", "symbols", "name", "end"]) (sc := relS _ (defScope s_Spans_take_over)) (by decide +kernel)) (fun _ _ _ _ _ => (pg_name (i := 8) sc_Spans_take_over.nd rfl (Or.inl rfl))) (fun _ _ _ _ _ => (pts_one (pt_cmpR op_le (pv 8) (pv 2) (nomark _)))) (fun _ _ _ _ _ => (pv 8)))))) (pg_sub (kfld K (pv 0) rfl) (pv 3) set_list))))))))
  (pss_one (ps_for PassesOwn.never rfl (pi_range1 (by rfl) T.z_range (pa_cons (pe_op op_add (pv 2) pe_int) pa_nil)) (pg_name (i := 3) sc_Spans_take_over.nd rfl (Or.inr rfl))
  (pss_one (ps_for PassesOwn.never rfl (kpi_list K (pe_ix (kx_list K) (kfld K (pv 0) rfl) (pv 3) (fun _ _ => rfl))) (pg_name (i := 4) sc_Spans_take_over.nd rfl (Or.inl rfl))
  (pss_cons (ps_set (i := 6) sc_Spans_take_over.nd rfl (Or.inl rfl) (pe_ix (kx_tup K) (pe_ix (kx_list K) (pe_ix (kx_tup K) (kfld K (pv 0) rfl) pe_int (fun _ _ => rfl)) (pe_ix (kx_tup K) (pv 4) pe_int (fun _ _ => rfl)) (fun _ _ => rfl)) pe_int (fun _ _ => rfl)))
  (pss_one (ps_if (PW.pt (pw_and (pt_cmpR op_lt (pe_ix (kx_tup K) (pv 4) pe_int (fun _ _ => rfl)) (pe_callB (kl_len K) (by rfl) T.z_len (by decide +kernel) (pa_cons (pv 6) pa_nil)) (nomark _)) (pw_and1 (pt_cmpR op_ne (pe_ix (kx_tup K) (pe_ix (kx_list K) (pv 6) (pe_ix (kx_tup K) (pv 4) pe_int (fun _ _ => rfl)) (fun _ _ => rfl)) pe_int (fun _ _ => rfl)) pe_str (nomark _)))))
  (pss_one (ps_if (pt_val (pe_callB (kc_any K rfl) (by rfl) T.z_any (by decide +kernel) (pa_cons (pe_lc (own := [("end", 8)]) (by rfl) sc_Spans_take_over.nd (kpi_list K (pe_meth (pv 0) T.cl_Spans T.me_Spans_ends G_Spans_ends (hr.mono (by decide)) T.b_Spans_ends .nil pass0 (pa_cons (pe_ix (kx_list K) (pv 6) (pe_ix (kx_tup K) (pv 4) pe_int (fun _ _ => rfl)) (fun _ _ => rfl)) (pa_cons (pv 3) pa_nil)))) (blkOk_by (N := ["self", "other", "last", "at", "item", "rows", "symbols", "name", "end"]) (sc := (defScope s_Spans_take_over)) (by decide +kernel)) (fun _ _ _ _ _ => (pg_name (i := 8) sc_Spans_take_over.nd rfl (Or.inl rfl))) (fun _ _ _ _ _ => pts_nil) (fun _ _ _ _ _ => (pe_cmpR op_gt (pv 8) (pv 2) (nomark _)))) pa_nil)))
  (pss_one (ps_expr (pe_meth (pv 0) T.cl_Spans T.me_Spans_scan G_Spans_scan (hr.mono (by decide)) T.b_Spans_scan .nil pass0 (pa_cons (pv 3) (pa_cons (pv 4) (pa_cons (pe_ix (kx_list K) (pv 6) (pe_ix (kx_tup K) (pv 4) pe_int (fun _ _ => rfl)) (fun _ _ => rfl)) pa_nil))))))
  pss_nil))
  pss_nil)))))))), ?_⟩
  obtain ⟨cl, n1, n2, n3, n4, n5, n6, n7, n8, n9⟩ := T.spF
  have RO := AO.rep
  have oSp := RO.gSp
  have oSt := RO.gSt
  have oTh := RO.gTh
  have oWa := RO.gWa
  have oRo := RO.gRo
  dsimp only at oSp oSt oTh oWa oRo
  walk_at "go"
  rw [show ((n : Int) - 1 + 1) = ((n : Nat) : Int) by omega]
  refine x_forR1R (by omega) (fun i σ H' => ∃ v3 v5 ad', σ = [some (.ref (ad .sp)), some (.ref (ado .sp)), some (.int ((n : Int) - 1)), v3, none, v5, none, none, none] ∧ ad' .sp = ad .sp ∧ SpA T.C_Spans g z M H' ad' (takeP O n i))
    ⟨none, none, ad, rfl, rfl, by rw [takeP_0]; exact A0⟩ ?_ ?_
  · rintro i σ H1 hi ⟨v3, v5, ad1, rfl, e1, A1⟩
    have hio : i ≤ zo.length := by omega
    have hiz : i ≤ z.length := by omega
    have sM := A1.same
    have oSp1 := sM _ _ oSp
    have oSt1 := sM _ _ oSt
    have oTh1 := sM _ _ oTh
    have oWa1 := sM _ _ oWa
    have oRo1 := sM _ _ oRo
    obtain ⟨vst, itst, ost⟩ := RO.gStA (i := i) hio
    have oth := RO.gThA (i := i) hio
    obtain ⟨kw, kw1, kw2, owa⟩ := RO.gWaA (i := i) hio
    obtain ⟨kr, kr1, kr2, oro⟩ := RO.gRoA (i := i) hio
    dsimp only at ost oth owa oro
    have ost1 := sM _ _ ost
    have oth1 := sM _ _ oth
    have owa1 := sM _ _ owa
    have oro1 := sM _ _ oro
    have f1 := atI_range (f := fun i => V.ref (ado (.stA i))) hio
    have f2 := atI_range (f := fun i => V.ref (ado (.thA i))) hio
    have f3 := atI_range (f := fun i => V.ref (ado (.waA i))) hio
    have f4 := atI_range (f := fun i => V.ref (ado (.roA i))) hio
    have R1 := A1.rep
    have sSp := R1.gSp
    have sSt := R1.gSt
    have sTh := R1.gTh
    have sWa := R1.gWa
    have sRo := R1.gRo
    dsimp only [Pm.n] at sSp sSt sTh sWa sRo
    rw [e1] at sSp
    walk_at "go"
    refine x_list ost1 (fun p1 hp1 => ?_)
    refine x_gsub ?_
    walk_at "go"
    refine x_setL (look1 sSt hp1) (by rw [List.length_map, List.length_range]; omega) ?_
    rw [set_map]
    have sM2 : Same M (L2.upd (L2.upd H1 p1 (.lst vst)) (ad1 .st) (.lst ((List.range (z.length + 1)).map fun j => if j = i then V.ref p1 else V.ref (ad1 (.stA j))))) := (sM.trans (Same.new hp1)).mut (A1.own .st trivial)
    have K12 : ∀ a o, H1 a = some o → a ≠ ad1 .st → (L2.upd (L2.upd H1 p1 (.lst vst)) (ad1 .st) (.lst ((List.range (z.length + 1)).map fun j => if j = i then V.ref p1 else V.ref (ad1 (.stA j))))) a = some o := fun a o h n => by rw [upd_ne n]; exact look1 h hp1
    have D12 : Dm H1 (L2.upd (L2.upd H1 p1 (.lst vst)) (ad1 .st) (.lst ((List.range (z.length + 1)).map fun j => if j = i then V.ref p1 else V.ref (ad1 (.stA j))))) := (Dm.same (Same.new hp1)).trans Dm.upd
    have np1 : p1 ≠ ad1 .st := fun e => by rw [e, sSt] at hp1; cases hp1
    have B1 : (L2.upd (L2.upd H1 p1 (.lst vst)) (ad1 .st) (.lst ((List.range (z.length + 1)).map fun j => if j = i then V.ref p1 else V.ref (ad1 (.stA j))))) p1 = some (.lst vst) := by rw [upd_ne np1]; exact upd_same
    have C1 : (L2.upd (L2.upd H1 p1 (.lst vst)) (ad1 .st) (.lst ((List.range (z.length + 1)).map fun j => if j = i then V.ref p1 else V.ref (ad1 (.stA j))))) (ad1 .st) = some _ := upd_same
    generalize L2.upd (L2.upd H1 p1 (.lst vst)) (ad1 .st) (.lst ((List.range (z.length + 1)).map fun j => if j = i then V.ref p1 else V.ref (ad1 (.stA j)))) = H2 at sM2 K12 D12 B1 C1 ⊢
    have ne_t : ad1 .th ≠ ad1 .st := fun e => by have := R1.inj .th .st trivial trivial e; cases this
    have ne_w : ad1 .wa ≠ ad1 .st := fun e => by have := R1.inj .wa .st trivial trivial e; cases this
    have ne_r : ad1 .ro ≠ ad1 .st := fun e => by have := R1.inj .ro .st trivial trivial e; cases this
    have ne_s : ad .sp ≠ ad1 .st := fun e => by rw [← e1] at e; have := R1.inj .sp .st trivial trivial e; cases this
    have ne_tw : ad1 .wa ≠ ad1 .th := fun e => by have := R1.inj .wa .th trivial trivial e; cases this
    have ne_tr : ad1 .ro ≠ ad1 .th := fun e => by have := R1.inj .ro .th trivial trivial e; cases this
    have ne_wr : ad1 .ro ≠ ad1 .wa := fun e => by have := R1.inj .ro .wa trivial trivial e; cases this
    have ne_ts : ad .sp ≠ ad1 .th := fun e => by rw [← e1] at e; have := R1.inj .sp .th trivial trivial e; cases this
    have ne_ws : ad .sp ≠ ad1 .wa := fun e => by rw [← e1] at e; have := R1.inj .sp .wa trivial trivial e; cases this
    -- there
    have oSp2 := sM2 _ _ oSp
    have oTh2 := sM2 _ _ oTh
    have oth2 := sM2 _ _ oth
    have sSp2 := K12 _ _ sSp ne_s
    have sTh2 := K12 _ _ sTh ne_t
    walk_at "go"
    refine x_dcKeysT (c := .bl true) oth2 (fun _ => rfl) (fun _ => rfl) (by rw [List.length_map]; have := hG.few i; rw [← len_tx zo] at this; omega) (fun od R q => ?_) (fun j kk x hk => ?_) (fun p2 hp2 => ?_)
    · walk_at "go"
      exact q
    · obtain ⟨x', hx', ek⟩ : ∃ x', (O.st i)[j]? = some x' ∧ ((kI x', V.bl true) : List Key × V) = (kk, x) := by
        rw [List.getElem?_map] at hk
        obtain ⟨x', h1, h2⟩ := Option.map_eq_some_iff.mp hk
        exact ⟨x', h1, h2⟩
      cases ek
      rw [← List.map_take, List.map_map]
      exact valV_th.trans (if_neg (nd_take (hG.nd i) hx'))
    refine x_gsub ?_
    walk_at "go"
    refine x_setL (look1 sTh2 hp2) (by rw [List.length_map, List.length_range]; omega) ?_
    rw [set_map, List.map_map]
    have th_eq : (List.map ((fun p : List Key × V => (p.1, V.bl true)) ∘ fun x => (kI x, V.bl true)) (O.st i)) = (O.st i).map fun x => (kI x, V.bl true) := rfl
    rw [th_eq]
    have sM3 : Same M (L2.upd (L2.upd H2 p2 (.dT ((O.st i).map fun x => (kI x, V.bl true)))) (ad1 .th) (.lst ((List.range (z.length + 1)).map fun j => if j = i then V.ref p2 else V.ref (ad1 (.thA j))))) := (sM2.trans (Same.new hp2)).mut (A1.own .th trivial)
    have K23 : ∀ a o, H2 a = some o → a ≠ ad1 .th → (L2.upd (L2.upd H2 p2 (.dT ((O.st i).map fun x => (kI x, V.bl true)))) (ad1 .th) (.lst ((List.range (z.length + 1)).map fun j => if j = i then V.ref p2 else V.ref (ad1 (.thA j))))) a = some o := fun a o h n => by rw [upd_ne n]; exact look1 h hp2
    have D23 : Dm H2 (L2.upd (L2.upd H2 p2 (.dT ((O.st i).map fun x => (kI x, V.bl true)))) (ad1 .th) (.lst ((List.range (z.length + 1)).map fun j => if j = i then V.ref p2 else V.ref (ad1 (.thA j))))) := (Dm.same (Same.new hp2)).trans Dm.upd
    have np2 : p2 ≠ ad1 .th := fun e => by rw [e, sTh2] at hp2; cases hp2
    have B2 : (L2.upd (L2.upd H2 p2 (.dT ((O.st i).map fun x => (kI x, V.bl true)))) (ad1 .th) (.lst ((List.range (z.length + 1)).map fun j => if j = i then V.ref p2 else V.ref (ad1 (.thA j))))) p2 = some (.dT ((O.st i).map fun x => (kI x, V.bl true))) := by rw [upd_ne np2]; exact upd_same
    have C2 : (L2.upd (L2.upd H2 p2 (.dT ((O.st i).map fun x => (kI x, V.bl true)))) (ad1 .th) (.lst ((List.range (z.length + 1)).map fun j => if j = i then V.ref p2 else V.ref (ad1 (.thA j))))) (ad1 .th) = some _ := upd_same
    generalize L2.upd (L2.upd H2 p2 (.dT ((O.st i).map fun x => (kI x, V.bl true)))) (ad1 .th) (.lst ((List.range (z.length + 1)).map fun j => if j = i then V.ref p2 else V.ref (ad1 (.thA j)))) = H3 at sM3 K23 D23 B2 C2 ⊢
    -- waiting
    have oSp3 := sM3 _ _ oSp
    have oWa3 := sM3 _ _ oWa
    have owa3 := sM3 _ _ owa
    have sSp3 := K23 _ _ sSp2 ne_ts
    have sWa3 := K23 _ _ (K12 _ _ sWa ne_w) ne_tw
    have wct : ∀ x, x ∈ kw → ∃ ys, O.wt i x = some ys ∧ Its M (lstOf (M (ado (.waL i x)))) ys ∧ M (ado (.waL i x)) = some (.lst (lstOf (M (ado (.waL i x))))) := fun x hx => by
      obtain ⟨ys, hys⟩ := Option.isSome_iff_exists.mp ((kw2 x).mp hx)
      obtain ⟨vs, h1, h2⟩ := RO.gWaL hio hys
      have h2 : M (ado (.waL i x)) = _ := h2
      exact ⟨ys, hys, by rw [h2]; exact h1, by rw [h2]; rfl⟩
    walk_at "go"
    refine x_dcNames (ct := fun x => lstOf (M (ado (.waL i x)))) owa3 kw1 (fun _ => rfl) (fun _ => rfl) (fun od R q => ?_) (fun od x H' N hx s' q => ?_) (fun p3 H4 w3 s34 hp3 hp3v hw3 wI => ?_)
    · walk_at "go"
      exact q
    · have oSp' := s' _ _ oSp3
      have oWa' := s' _ _ oWa3
      have owa' := s' _ _ owa3
      obtain ⟨ys, y1, y2, y3⟩ := wct x hx
      have y3' := s' _ _ (sM3 _ _ y3)
      unfold dkO at owa' q ⊢
      walk_at "go"
      refine x_dgF upd_same (valV_dk.trans (if_pos hx)) ?_
      refine x_list (look2 y3' owa' (fun z => nomatch z)) fun p hp => ?_
      exact q p _ (Same.new hp) hp upd_same
    have nd_w : ado (.waA i) ≠ ad1 .wa := fun e => by rw [e, sWa3] at owa3; cases owa3
    refine x_gsub ?_
    have sSp4 := s34 _ _ sSp3
    have sWa4 := s34 _ _ sWa3
    walk_at "go"
    refine x_setL sWa4 (by rw [List.length_map, List.length_range]; omega) ?_
    rw [set_map]
    have sM4 : Same M H4 := sM3.trans s34
    have sM5 : Same M (L2.upd H4 (ad1 .wa) (.lst ((List.range (z.length + 1)).map fun j => if j = i then V.ref p3 else V.ref (ad1 (.waA j))))) := sM4.mut (A1.own .wa trivial)
    have K35 : ∀ a o, H3 a = some o → a ≠ ad1 .wa → (L2.upd H4 (ad1 .wa) (.lst ((List.range (z.length + 1)).map fun j => if j = i then V.ref p3 else V.ref (ad1 (.waA j))))) a = some o := fun a o h n => by rw [upd_ne n]; exact s34 _ _ h
    have D35 : Dm H3 (L2.upd H4 (ad1 .wa) (.lst ((List.range (z.length + 1)).map fun j => if j = i then V.ref p3 else V.ref (ad1 (.waA j))))) := (Dm.same s34).trans Dm.upd
    have np3 : p3 ≠ ad1 .wa := fun e => by rw [e, sWa3] at hp3; cases hp3
    have B3 : (L2.upd H4 (ad1 .wa) (.lst ((List.range (z.length + 1)).map fun j => if j = i then V.ref p3 else V.ref (ad1 (.waA j))))) p3 = some (dkO kw w3) := by rw [upd_ne np3]; exact hp3v
    have W3 : ∀ x, x ∈ kw → (L2.upd H4 (ad1 .wa) (.lst ((List.range (z.length + 1)).map fun j => if j = i then V.ref p3 else V.ref (ad1 (.waA j))))) (w3 x) = some (.lst (lstOf (M (ado (.waL i x))))) := fun x hx => by
      obtain ⟨q1, q2, q3⟩ := hw3 x hx
      rw [upd_ne (fun e => by rw [e, sWa3] at q2; cases q2)]
      exact q1
    have C3 : (L2.upd H4 (ad1 .wa) (.lst ((List.range (z.length + 1)).map fun j => if j = i then V.ref p3 else V.ref (ad1 (.waA j))))) (ad1 .wa) = some _ := upd_same
    generalize L2.upd H4 (ad1 .wa) (.lst ((List.range (z.length + 1)).map fun j => if j = i then V.ref p3 else V.ref (ad1 (.waA j)))) = H5 at sM5 K35 D35 B3 C3 W3 ⊢
    -- rows
    have oSp5 := sM5 _ _ oSp
    have oRo5 := sM5 _ _ oRo
    have oro5 := sM5 _ _ oro
    have sSp5 := K35 _ _ sSp3 ne_ws
    have sRo5 := K35 _ _ (K23 _ _ (K12 _ _ sRo ne_r) ne_tr) ne_wr
    walk_at "go"
    refine x_dcNames (ct := fun x => (((O.rw i x).getD []).filter fun e => decide (e < n)).map fun e : Nat => V.int (e : Nat)) oro5 kr1 (fun _ => rfl) (fun _ => rfl) (fun od R q => ?_) (fun od x H' N hx s' q => ?_) (fun p4 H6 w4 s56 hp4 hp4v hw4 rI => ?_)
    · walk_at "go"
      exact q
    · have oro' := s' _ _ oro5
      obtain ⟨es, hes⟩ := Option.isSome_iff_exists.mp ((kr2 x).mp hx)
      have y3 := RO.gRoL hio hes
      have y3 : M (ado (.roL i x)) = _ := y3
      have y3' := s' _ _ (sM5 _ _ y3)
      have few : es.length ≤ 99999 := by have := hG.rwfew hes; omega
      unfold dkO at oro' q ⊢
      walk_at "go"
      refine x_dgF upd_same (valV_dk.trans (if_pos hx)) ?_
      refine x_lcP (look2 y3' oro' (fun z => nomatch z)) (fun j => ((es.take j).filter fun e => decide (e < n)).map fun e : Nat => V.int (e : Nat)) (by simp) (fun j hj => ?_) (fun j y H7 N1 N2 hy s7 k1 k2 => ?_) (fun D H7 s7 hD hDv => ?_)
      · have h1 := List.length_filter_le (fun e => decide (e < n)) (es.take j)
        rw [List.length_map]
        rw [List.length_take] at h1
        omega
      · obtain ⟨e, he, rfl⟩ : ∃ e, es[j]? = some e ∧ y = V.int (e : Nat) := by
          rw [List.getElem?_map] at hy
          obtain ⟨r, h1, h2⟩ := Option.map_eq_some_iff.mp hy
          exact ⟨r, h1, h2.symm⟩
        have tm := take_more he
        unfold LcTurn
        walk_at "go"
        refine ⟨rfl, ?_⟩
        walk_at "go"
        by_cases c : e < n
        · rw [decide_eq_true (show (e : Int) ≤ (n : Int) - 1 by omega)]
          refine iteT ?_
          walk_at "go"
          refine k1 _ _ (Same.refl _) ?_
          rw [tm, List.filter_append, List.map_append]
          simp [c]
        · rw [decide_eq_false (show ¬ (e : Int) ≤ (n : Int) - 1 by omega)]
          refine iteF ?_
          refine k2 _ (Same.refl _) ?_
          rw [tm, List.filter_append, List.map_append]
          simp [c]
      · refine q D H7 s7 hD ?_
        rw [hDv, hes, List.length_map, List.take_length]
        rfl
    refine x_gsub ?_
    have sSp6 := s56 _ _ sSp5
    have sRo6 := s56 _ _ sRo5
    walk_at "go"
    refine x_setL sRo6 (by rw [List.length_map, List.length_range]; omega) ?_
    rw [set_map]
    have K57 : ∀ a o, H5 a = some o → a ≠ ad1 .ro → (L2.upd H6 (ad1 .ro) (.lst ((List.range (z.length + 1)).map fun j => if j = i then V.ref p4 else V.ref (ad1 (.roA j))))) a = some o := fun a o h n => by rw [upd_ne n]; exact s56 _ _ h
    have D57 : Dm H5 (L2.upd H6 (ad1 .ro) (.lst ((List.range (z.length + 1)).map fun j => if j = i then V.ref p4 else V.ref (ad1 (.roA j))))) := (Dm.same s56).trans Dm.upd
    have np4 : p4 ≠ ad1 .ro := fun e => by rw [e, sRo5] at hp4; cases hp4
    have B4 : (L2.upd H6 (ad1 .ro) (.lst ((List.range (z.length + 1)).map fun j => if j = i then V.ref p4 else V.ref (ad1 (.roA j))))) p4 = some (dkO kr w4) := by rw [upd_ne np4]; exact hp4v
    have W4 : ∀ x, x ∈ kr → (L2.upd H6 (ad1 .ro) (.lst ((List.range (z.length + 1)).map fun j => if j = i then V.ref p4 else V.ref (ad1 (.roA j))))) (w4 x) = some (.lst ((((O.rw i x).getD []).filter fun e => decide (e < n)).map fun e : Nat => V.int (e : Nat))) := fun x hx => by
      obtain ⟨q1, q2, q3⟩ := hw4 x hx
      rw [upd_ne (fun e => by rw [e, sRo5] at q2; cases q2)]
      exact q1
    have C4 : (L2.upd H6 (ad1 .ro) (.lst ((List.range (z.length + 1)).map fun j => if j = i then V.ref p4 else V.ref (ad1 (.roA j))))) (ad1 .ro) = some _ := upd_same
    have sM7 : Same M (L2.upd H6 (ad1 .ro) (.lst ((List.range (z.length + 1)).map fun j => if j = i then V.ref p4 else V.ref (ad1 (.roA j))))) := (sM5.trans s56).mut (A1.own .ro trivial)
    generalize L2.upd H6 (ad1 .ro) (.lst ((List.range (z.length + 1)).map fun j => if j = i then V.ref p4 else V.ref (ad1 (.roA j)))) = H7 at sM7 K57 D57 B4 C4 W4 ⊢
    have sm : ∀ {o : HO} {H' : Hp} {a : Addr}, H' a = some o → H' a ≠ none := fun h e => by rw [h] at e; cases e
    have np1t : p1 ≠ ad1 .th := fun e => by rw [e, sTh] at hp1; cases hp1
    have np1w : p1 ≠ ad1 .wa := fun e => by rw [e, sWa] at hp1; cases hp1
    have np1r : p1 ≠ ad1 .ro := fun e => by rw [e, sRo] at hp1; cases hp1
    have sWa2 := K12 _ _ sWa ne_w
    have sRo2 := K12 _ _ sRo ne_r
    have np2w : p2 ≠ ad1 .wa := fun e => by rw [e, sWa2] at hp2; cases hp2
    have np2r : p2 ≠ ad1 .ro := fun e => by rw [e, sRo2] at hp2; cases hp2
    have sRo3 := K23 _ _ sRo2 ne_tr
    have np3r : p3 ≠ ad1 .ro := fun e => by rw [e, sRo3] at hp3; cases hp3
    have wsm : ∀ x, x ∈ kw ↔ (O.wt i x).isSome = true := kw2
    have rsm : ∀ x, x ∈ kr ↔ ((O.rw i x).map fun es => es.filter fun e => decide (e < n)).isSome = true := fun x => by rw [kr2 x, Option.isSome_map]
    have A2 := A1.take (m := i) (st' := O.st i) (w' := O.wt i) (r' := fun x => (O.rw i x).map fun es => es.filter fun e => decide (e < n)) (p1 := p1) (p2 := p2) (p3 := p3) (p4 := p4) (f3 := w3) (f4 := w4) (H1 := H2) (H2 := H3) (H3 := H5) (H4 := H7) (vs := vst) (k3 := kw) (k4 := kr) hiz
      D12 D23 D35 D57 hp1 (sm B1) hp2 (sm B2)
      ⟨hp3, sm B3, fun x hx => ⟨(hw3 x ((wsm x).mpr hx)).2.1, sm (W3 x ((wsm x).mpr hx)), (hw3 x ((wsm x).mpr hx)).2.2⟩, fun x y hx hy e => wI x y ((wsm x).mpr hx) ((wsm y).mpr hy) e⟩
      ⟨hp4, sm B4, fun x hx => ⟨(hw4 x ((rsm x).mpr hx)).2.1, sm (W4 x ((rsm x).mpr hx)), (hw4 x ((rsm x).mpr hx)).2.2⟩, fun x y hx hy e => rI x y ((rsm x).mpr hx) ((rsm y).mpr hy) e⟩
      (fun a o h x1 x2 x3 x4 => K57 _ _ (K35 _ _ (K23 _ _ (K12 _ _ h x1) x2) x3) x4)
      (K57 _ _ (K35 _ _ (K23 _ _ C1 (fun e => ne_t e.symm)) (fun e => ne_w e.symm)) (fun e => ne_r e.symm))
      (K57 _ _ (K35 _ _ C2 (fun e => ne_tw e.symm)) (fun e => ne_tr e.symm)) (K57 _ _ C3 (fun e => ne_wr e.symm)) C4
      (K57 _ _ (K35 _ _ (K23 _ _ B1 np1t) np1w) np1r) (itst.tk (same_tk sM7)) (K57 _ _ (K35 _ _ B2 np2w) np2r) kw1 wsm (K57 _ _ B3 np3r)
      (fun x ys hy => by
        obtain ⟨ys', y1, y2, y3⟩ := wct x ((wsm x).mpr (by rw [hy]; rfl))
        rw [hy] at y1; cases y1
        have w := (hw3 x ((wsm x).mpr (by rw [hy]; rfl))).2.1
        exact ⟨_, y2.tk (same_tk sM7), K57 _ _ (W3 x ((wsm x).mpr (by rw [hy]; rfl))) (fun e => by rw [e, sRo3] at w; cases w)⟩)
      kr1 rsm B4 (fun x es hx => by
        obtain ⟨es0, x1, x2⟩ := Option.map_eq_some_iff.mp hx
        have w := W4 x ((kr2 x).mpr (by rw [x1]; rfl))
        rw [x1] at w
        rw [← x2]; exact w)
    rw [takeP_s] at A2
    exact ⟨_, _, takeA ad1 i p1 p2 p3 p4 w3 w4, rfl, e1, A2⟩
  · rintro σ H1 ⟨v3, v5, ad1, rfl, e1, A1⟩
    have A1 : SpA T.C_Spans g z M H1 ad1 (takeO O n) := A1
    have GF := take_good hG hag hn (by rw [← len_tx zo]; omega)
    have WF := take_WB (l := l) (t := tx z) hW (by omega : n ≤ zo.length + 1)
    have fewF : ∀ (as : List (Nat × I3)), as <+: rsAll l (tx z) n O n → ∀ e, ((adds (takeO O n) as).st e).length ≤ 99990 := fun as h e => by
      have h1 := adds_pre (S := takeO O n) h e
      have h2 := GF.few e
      rw [← len_tx z] at h2
      omega
    walk_at "go"
    rw [show ((n : Int) - 1 + 1) = ((n : Nat) : Int) by omega]
    refine x_forR1R (by omega) (fun i σ H' => ∃ v3 v4 v6, σ = [some (.ref (ad .sp)), some (.ref (ado .sp)), some (.int ((n : Int) - 1)), v3, v4, v5, v6, none, none] ∧ SpA T.C_Spans g z M H' ad1 (adds (takeO O n) (rsAll l (tx z) n O i)))
      ⟨v3, none, none, rfl, A1⟩ ?_ ?_
    · rintro i σ H2 hi ⟨v3, v4, v6, rfl, A2⟩
      have sSp := A2.rep.gSp
      have sSt := A2.rep.gSt
      dsimp only [Pm.n] at sSp sSt
      rw [e1] at sSp
      have f1 := atI_range (f := fun i => V.ref (ad1 (.stA i))) (show i ≤ z.length by omega)
      obtain ⟨vs, its, hst⟩ := A2.rep.gStA (i := i) (show i ≤ z.length by omega)
      dsimp only at hst
      have est : ∀ bs, (∀ a ∈ bs, n ≤ a.1) → (adds (takeO O n) bs).st i = O.st i := fun bs hb => by
        rw [adds_low bs (takeO O n) i hi hb]
        show (if i < n then O.st i else []) = _
        rw [if_pos hi]
      have lowA : ∀ i, ∀ a ∈ rsAll l (tx z) n O i, n ≤ a.1 := fun i a ha => by
        obtain ⟨m, _, ha⟩ := List.mem_flatMap.mp ha
        obtain ⟨x, _, ha⟩ := List.mem_flatMap.mp ha
        exact rsl_low ha
      have lowB : ∀ j, ∀ a ∈ rsAll l (tx z) n O i ++ ((O.st i).take j).flatMap (rsl l (tx z) n i), n ≤ a.1 := fun j a ha => by
        rcases List.mem_append.mp ha with ha | ha
        · exact lowA i a ha
        · obtain ⟨x, _, ha⟩ := List.mem_flatMap.mp ha
          exact rsl_low ha
      rw [est _ (lowA i)] at its
      walk_at "go"
      refine x_forLn (n := (O.st i).length) ⟨vs, hst⟩ (fun j σ H' => ∃ v4 v6, σ = [some (.ref (ad .sp)), some (.ref (ado .sp)), some (.int ((n : Int) - 1)), some (.int (i : Nat)), v4, v5, v6, none, none] ∧ SpA T.C_Spans g z M H' ad1 (adds (takeO O n) (rsAll l (tx z) n O i ++ ((O.st i).take j).flatMap (rsl l (tx z) n i))))
        ⟨v4, v6, rfl, by simpa using A2⟩ (fun j σ H' hj ⟨_, _, _, A⟩ => ?_) ?_ ?_
      · obtain ⟨vs, its, h⟩ := A.rep.gStA (i := i) (show i ≤ z.length by omega)
        rw [est _ (lowB j)] at its
        exact ⟨vs, h, Paired.length its⟩
      · rintro j y xs σ H3 hj hx hy ⟨v4, v6, rfl, A3⟩
        obtain ⟨vs', its', h'⟩ := A3.rep.gStA (i := i) (show i ≤ z.length by omega)
        rw [est _ (lowB j)] at its'
        have h' : H3 (ad1 (.stA i)) = _ := h'
        rw [hx] at h'
        cases h'
        obtain ⟨x, hxj, a, rfl, ha⟩ := Paired.at' its' hy
        have sSp3 := A3.rep.gSp
        dsimp only [Pm.n] at sSp3
        rw [e1] at sSp3
        obtain ⟨r, q, st⟩ := x
        have bd := (hG.sound i _ (List.mem_of_getElem? hxj)).bd
        simp only at bd
        have ha' : H3 a = some (.tup [.int (r : Nat), .int (q : Nat), .int (st : Nat)]) := ha
        obtain ⟨rl, rvs, ra, sa, lab, g1, g2, g3, g4, g5⟩ := (hg.same A3.same).rule bd.1
        obtain ⟨svs, s1, s2, s3⟩ := g5.len
        have tm : ((O.st i).take (j + 1)).flatMap (rsl l (tx z) n i) = ((O.st i).take j).flatMap (rsl l (tx z) n i) ++ rsl l (tx z) n i (r, q, st) := by rw [take_more hxj, List.flatMap_append]; simp
        rw [tm, ← List.append_assoc, adds_app]
        generalize hSj : adds (takeO O n) (rsAll l (tx z) n O i ++ ((O.st i).take j).flatMap (rsl l (tx z) n i)) = Sj at A3
        walk_at "go"
        have skip : rsl l (tx z) n i (r, q, st) = [] → ∃ v4 v6, [some (.ref (ad .sp)), some (.ref (ado .sp)), some (.int ((n : Int) - 1)), some (.int (i : Nat)), some (.ref a), v5, some (.ref sa), none, none] = [some (V.ref (ad .sp)), some (.ref (ado .sp)), some (.int ((n : Int) - 1)), some (.int (i : Nat)), v4, v5, v6, none, none] ∧ SpA T.C_Spans g z M H3 ad1 (adds Sj (rsl l (tx z) n i (r, q, st))) := fun e => ⟨_, _, rfl, by rw [e]; exact A3⟩
        by_cases c : q < svs.length
        · rw [decide_eq_true (show (q : Int) < (svs.length : Nat) by omega)]
          refine iteT ?_
          obtain ⟨y, hy⟩ : ∃ y, (syms l r)[q]? = some y := ⟨_, List.getElem?_eq_getElem (by omega)⟩
          obtain ⟨bb, h1, h2⟩ := s3 q y hy
          have h2' : H3 bb = some (.tup [.str (kdS y), .str (vlS y)]) := h2
          have ixb : atI svs (q : Int) = some (.ref bb) := atI_nat h1
          walk_at "go"
          by_cases isn : ∃ u, y = .nt u
          · obtain ⟨u, rfl⟩ := isn
            rw [decide_eq_true (show kdS (.nt u) = ("nt" : Str) from rfl)]
            refine iteF ?_
            exact skip (by unfold rsl; simp only [hy]; rfl)
          · have nn : ∀ u, y ≠ .nt u := fun u e => isn ⟨u, e⟩
            have kn : kdS y ≠ ("nt" : Str) := by
              cases y with
              | nt u => exact absurd rfl (nn u)
              | lit c => show ("lit" : Str) ≠ "nt"; decide +kernel
              | run c => show ("run" : Str) ≠ "nt"; decide +kernel
            rw [decide_eq_false kn]
            refine iteT ?_
            walk_at "go"
            refine x_methR sSp3 rfl ?_
            walk_at "go"
            rw [← e1]
            refine ⟨g, z, M, ad1, Sj, bb, y, i, rfl, A3, h2, by omega, by omega, fun H4 p L s34 hp hpv hL => ?_⟩
            have hL : L = tE (tx z) y i := by
              cases y with
              | nt u => exact absurd rfl (nn u)
              | lit c => exact hL
              | run c => exact hL
            have Ll : L.length ≤ 1 := by rw [hL]; exact tE_len _ _ _
            walk_at "go"
            refine x_lcP hpv (fun j => (L.take j).map fun e => V.bl (decide (n ≤ e))) (by simp) (fun j hj => by rw [List.length_map, List.length_take]; omega) (fun j y' H5 N1 N2 hy' s5 k1 k2 => ?_) (fun D H5 s5 hD hDv => ?_)
            · obtain ⟨e, he, rfl⟩ : ∃ e, L[j]? = some e ∧ y' = V.int (e : Nat) := by
                rw [List.getElem?_map] at hy'
                obtain ⟨r, h1, h2⟩ := Option.map_eq_some_iff.mp hy'
                exact ⟨r, h1, h2.symm⟩
              have tm := take_more he
              unfold LcTurn
              walk_at "go"
              refine ⟨rfl, ?_⟩
              walk_at "go"
              refine k1 _ _ (Same.refl _) ?_
              rw [tm, List.map_append]
              have : (decide ((n : Int) - 1 < (e : Nat))) = decide (n ≤ e) := by
                by_cases c : n ≤ e
                · rw [decide_eq_true c]; exact decide_eq_true (by omega)
                · rw [decide_eq_false c]; exact decide_eq_false (by omega)
              rw [this]; rfl
            · rw [List.length_map, List.take_length] at hDv
              walk_at "go"
              refine x_any (bs := L.map fun e => decide (n ≤ e)) (by rw [List.map_map]; exact hDv) ?_
              walk_at "go"
              have e9 : (L.map fun e => decide (n ≤ e)).any id = (tE (tx z) y i).any fun e => decide (n ≤ e) := by rw [List.any_map, hL]; rfl
              rw [e9]
              have ers : rsl l (tx z) n i (r, q, st) = if ((tE (tx z) y i).any fun e => decide (n ≤ e)) = true then (tE (tx z) y i).map fun e => (e, (r, q + 1, st)) else [] := by unfold rsl; simp only [hy]
              have A5 := A3.more (s34.trans s5)
              cases c2 : (tE (tx z) y i).any fun e => decide (n ≤ e) with
              | false =>
                refine iteF ?_
                walk_at "go"
                rw [c2] at ers
                exact ⟨_, _, rfl, by rw [ers]; exact A5⟩
              | true =>
                refine iteT ?_
                rw [c2] at ers
                have s35 := s34.trans s5
                have sSp5 := s35 _ _ sSp3
                have ha5 := s35 _ _ ha
                have ha5' := s35 _ _ ha'
                have s15 := s35 _ _ s1
                have h25 : SymAt H5 bb y := s35 _ _ h2
                walk_at "go"
                rw [← e1] at sSp5
                refine x_methR sSp5 rfl ?_
                walk_at "go"
                refine ⟨g, z, M, ad1, Sj, i, a, bb, (r, q, st), y, rfl, A5, by omega, by omega, ha5, h25, nn, fun e => ?_, fun H6 A6 _ => ?_⟩
                · rw [← hSj]
                  refine fewF _ ?_ e
                  refine List.IsPrefix.trans ?_ (rsAll_pre l (tx z) n O (show i + 1 ≤ n by omega))
                  rw [rsAll_s]
                  refine (List.prefix_append_right_inj _).mpr ?_
                  have := List.take_append_drop j (O.st i)
                  refine ⟨((O.st i).drop j).flatMap (rsl l (tx z) n i), ?_⟩
                  rw [← List.flatMap_append, this]
                · rw [scan_adds] at A6
                  exact ⟨_, _, rfl, by rw [ers]; exact A6⟩
        · rw [decide_eq_false (show ¬ (q : Int) < (svs.length : Nat) by omega)]
          refine iteF ?_
          exact skip (by unfold rsl; simp only [List.getElem?_eq_none (show (syms l r).length ≤ q by omega)])
      · rintro σ H3 ⟨v4, v6, rfl, A3⟩
        rw [List.take_length, ← rsAll_s] at A3
        exact ⟨_, _, _, rfl, A3⟩
    · rintro σ H2 ⟨v3, v4, v6, rfl, A2⟩
      exact k H2 ad1 _ e1 A2 GF WF (adds_md _ _)
end
section
variable {P : Program} {w : World} {K : PySem.W.Frag} {mg : Str → Option Value} {base : Heap}
def nats (c : List Nat) : List V := c.map fun e : Nat => V.int (e : Nat)
def CutA (H : Hp) (a : Addr) (c : List Nat) : Prop := H a = some (.lst (nats c))
def spCuts (C : Addr) (n : Nat) : Sp := fun vs H Q _ => ∃ (g : Addr) (z : Str) (H0 : Hp) (ad : Role → Addr) (S : SS) (a : Addr) (ys : List Sym) (s e : Nat) (l : Bool), vs = [.ref (ad .sp), .ref a, .int (s : Nat), .int (e : Nat)] ∧ SpA C g z H0 H ad S ∧ SymsAt H a ys ∧
  Good l (tx z) ((tx z).length + 1) 0 S ∧ ys.length < n ∧ s ≤ z.length ∧ e ≤ z.length ∧ z.length ≤ 300 ∧ ntc ys ≤ 2 ∧ ys.length ≤ 10 ∧ ∀ H' p ps, Same H H' → H p = none → H' p = some (.lst (ps.map V.ref)) → Paired (fun a c => H a = none ∧ CutA H' a c) ps (cuts l (tx z) ys s e) → Q (.ref p) H'
theorem cut1 (xs : List V) (x : V) : cutV (x :: xs) (some (1 : Int)) none = xs := by
  unfold cutV
  rw [show (1 : Int) = ((1 : Nat) : Int) from rfl, HT.sIx_nat, HT.sIx_none]
  simp
theorem ok_cuts (T : TX K mg) (G_Spans_ends : FnOk P w K mg base CX0 1 T.f_Spans_ends T.d_Spans_ends ["self", "symbol", "at"] (spEnds T.C_Spans)) :
    ∀ n, FnOk P w K mg base CX0 (n + 1) T.f_cuts_of T.d_cuts_of ["spans", "symbols", "start", "end"] (spCuts T.C_Spans n) := by
  intro n
  induction n with
  | zero =>
    refine T.F_cuts_of.ok sc_cuts_of (fun vs H Q E h => ?_) (fun cdv A outer s H vs Q E hr h => ?_)
    · obtain ⟨g, z, H0, ad, S, a, ys, s, e, l, rfl, _⟩ := h
      rfl
    · obtain ⟨g, z, H0, ad, S, a, ys, s, e, l, rfl, A0, _, hG, hn, _⟩ := h
      omega
  | succ n ih =>
  have G_cuts_of := ih
  refine T.F_cuts_of.ok sc_cuts_of (fun vs H Q E h => ?_) (fun cdv A outer s H vs Q E hr h => ?_)
  · obtain ⟨g, z, H0, ad, S, a, ys, s, e, l, rfl, _⟩ := h
    rfl
  obtain ⟨g, z, H0, ad, S, a, ys, s, e, l, rfl, A0, ⟨as, ha, has⟩, hG, hn, hs, he, hz, hnt, hy10, k⟩ := h
  refine ⟨_, (pss_cons (ps_if (pt_not (pt_truth (pv 1) (by intro _; rfl)))
  (pss_one (ps_ret (pe_ifExp (pt_cmpR op_eq (pv 2) (pv 3) (nomark _)) (pe_lst (pa_cons (pe_lst (pa_cons (pv 2) pa_nil)) pa_nil)) (pe_lst pa_nil))))
  pss_nil)
  (pss_cons (ps_set (i := 4) sc_cuts_of.nd rfl (Or.inl rfl) (pe_lst pa_nil))
  (pss_cons (ps_for PassesOwn.never rfl (kpi_list K (pe_meth (pv 0) T.cl_Spans T.me_Spans_ends G_Spans_ends (hr.mono (by omega)) T.b_Spans_ends .nil pass0 (pa_cons (pe_ix (kx_list K) (pv 1) pe_int (fun _ _ => rfl)) (pa_cons (pv 2) pa_nil)))) (pg_name (i := 5) sc_cuts_of.nd rfl (Or.inl rfl))
  (pss_one (ps_if (pt_cmpR op_le (pv 5) (pv 3) (nomark _))
  (pss_one (ps_for PassesOwn.never rfl (kpi_list K (pe_call G_cuts_of (hr.mono (by omega)) (by rfl) T.m_cuts_of T.F_cuts_of.kp T.b_cuts_of .nil pass0 (pa_cons (pv 0) (pa_cons (pe_slice (ksl_list K) (pv 1) (po_some pe_int) po_none) (pa_cons (pv 5) (pa_cons (pv 3) pa_nil)))))) (pg_name (i := 6) sc_cuts_of.nd rfl (Or.inl rfl))
  (pss_one (ps_expr (kbm K (pe_bm PySem.F.plainAttrs_list PySem.F.slot_list_append PySem.F.type_list_append mt_append (pv 4) (pa_cons (pe_op op_cat (pe_lst (pa_cons (pv 2) pa_nil)) (pv 6)) pa_nil)))))))
  pss_nil)))
  (pss_one (ps_ret (pv 4)))))), ?_⟩
  walk_at "go"
  refine ⟨_, .inl ⟨_, SqL.of ha, rfl⟩, ?_⟩
  obtain ⟨cl, n1, n2, n3, n4, n5, n6, n7, n8, n9⟩ := T.spF
  have hsp := A0.rep.gSp
  dsimp only at hsp
  cases has with
  | nil =>
    refine iteT ?_
    walk_at "go"
    by_cases c : s = e
    · subst c
      rw [decide_eq_true rfl]
      refine iteT ?_
      walk_at "go"
      refine ⟨by show 1 ≤ sizeLine; decide, fun q hq => ?_⟩
      walk_at "go"
      refine ⟨by show 1 ≤ sizeLine; decide, fun p hp => ?_⟩
      refine k _ p [q] ((Same.new hq).trans (Same.new hp)) ((Same.new hq).free hp) upd_same ?_
      rw [show cuts l (tx z) [] s s = [[s]] by simp [cuts]]
      exact .cons ⟨hq, look1 upd_same hp⟩ .nil
    · rw [decide_eq_false (show ¬ (s : Int) = (e : Int) by omega)]
      refine iteF ?_
      walk_at "go"
      refine ⟨Nat.zero_le _, fun p hp => ?_⟩
      refine k _ p [] (Same.new hp) hp upd_same ?_
      rw [show cuts l (tx z) [] s e = [] by simp [cuts, c]]
      exact .nil
  | @cons a0 y as' ys' hy hys =>
    have ix0 : atI (List.map V.ref (a0 :: as')) 0 = some (V.ref a0) := atI_nat (j := 0) rfl
    refine iteF ?_
    walk_at "go"
    refine ⟨Nat.zero_le _, fun f hf => ?_⟩
    walk_at "go"
    refine x_methR (look1 hsp hf) rfl ?_
    walk_at "go"
    refine ⟨g, z, H0, ad, S, a0, y, s, rfl, A0.more (Same.new hf), look1 hy hf, hs, by omega, fun H2 pe L s2 hpe hpev hL => ?_⟩
    have hL : L = En l (tx z) y s := by
      cases y with
      | nt u => exact ends_En hG hL.1 hL.2
      | lit c => exact hL
      | run c => exact hL
    subst hL
    have hHf : Same H (L2.upd H f (.lst [])) := Same.new hf
    have sH2 : Same H H2 := hHf.trans s2
    have hf2 : H2 f = some (.lst []) := s2 _ _ upd_same
    have npf : pe ≠ f := fun e => by rw [e, upd_same] at hpe; cases hpe
    generalize hF : (fun m => if m ≤ e then (cuts l (tx z) ys' m e).map (s :: ·) else []) = F
    have hcut : cuts l (tx z) (y :: ys') s e = (En l (tx z) y s).flatMap F := by rw [← hF]; rfl
    have hlen : ((En l (tx z) y s).flatMap F).length ≤ 90601 := by
      rw [← hcut]
      refine Nat.le_trans (cuts_len l (tx z) (y :: ys') s e) ?_
      refine Nat.le_trans (Nat.pow_le_pow_left (show (tx z).length + 1 ≤ 301 by rw [← len_tx]; omega) _) ?_
      refine Nat.le_trans (Nat.pow_le_pow_right (by decide) hnt) (by decide)
    have hnt' : ntc ys' ≤ 2 := by
      refine Nat.le_trans ?_ hnt
      cases y with
      | nt u => exact Nat.le_succ _
      | lit c => exact Nat.le_refl _
      | run c => exact Nat.le_refl _
    -- what is found so far
    have J : ∀ (c : List (List Nat)) (H' : Hp), Prop := fun c H' => True
    refine x_forLR hpev (fun i σ H' => ∃ v5 v6 ps, σ = [some (.ref (ad .sp)), some (.ref a), some (.int (s : Nat)), some (.int (e : Nat)), some (.ref f), v5, v6] ∧ SameX f H2 H' ∧ H' f = some (.lst (ps.map V.ref)) ∧ Paired (fun a c => H a = none ∧ a ≠ f ∧ CutA H' a c) ps (((En l (tx z) y s).take i).flatMap F))
      ⟨none, none, [], rfl, fun _ _ _ h => h, hf2, .nil⟩ (fun i σ H' _ ⟨_, _, _, _, X, _⟩ => X _ _ npf hpev) ?_ ?_
    · rintro i x σ H3 hi ⟨v5, v6, ps, rfl, X3, hf3, P3⟩
      obtain ⟨m, hm, rfl⟩ : ∃ m, (En l (tx z) y s)[i]? = some m ∧ x = V.int (m : Nat) := by
        rw [List.getElem?_map] at hi
        obtain ⟨r, h1, h2⟩ := Option.map_eq_some_iff.mp hi
        exact ⟨r, h1, h2.symm⟩
      have tm : ((En l (tx z) y s).take (i + 1)).flatMap F = ((En l (tx z) y s).take i).flatMap F ++ F m := by rw [take_more hm, List.flatMap_append]; simp
      have Fm : F m = if m ≤ e then (cuts l (tx z) ys' m e).map (s :: ·) else [] := by rw [← hF]
      have mz : m ≤ z.length := by have := (En_ge (List.mem_of_getElem? hm)).2; rw [len_tx]; exact this
      walk_at "go"
      by_cases c : m ≤ e
      · rw [decide_eq_true (show (m : Int) ≤ (e : Nat) by omega)]
        refine iteT ?_
        rw [if_pos c] at Fm
        have s3 : Same H H3 := fun b o h => X3 _ _ (fun e => by rw [e, hf] at h; cases h) (sH2 _ _ h)
        have ha3 := s3 _ _ ha
        walk_at "go"
        refine x_slL ha3 (fun q hq => ?_)
        walk_at "go"
        rw [List.map_cons, cut1]
        refine ⟨g, z, H0, ad, S, q, ys', m, e, l, rfl, A0.more (s3.trans (Same.new hq)), ⟨as', upd_same, Paired.imp (fun b y h => look1 (s3 _ _ h) hq) hys⟩, hG, by simpa using hn, mz, he, hz, hnt', by simp at hy10; omega, fun H4 p qs s4 hp hpv hP => ?_⟩
        have s34 : Same H3 H4 := (Same.new hq).trans s4
        have hf4 := s34 _ _ hf3
        have npf4 : p ≠ f := fun e => by
          have h1 : L2.upd H3 q (.lst (as'.map V.ref)) f = some _ := look1 hf3 hq
          rw [e, h1] at hp; cases hp
        have X4 : SameX f H2 H4 := X3.trans (SameX.of s34)
        have P4 : Paired (fun a c => H a = none ∧ a ≠ f ∧ CutA H4 a c) ps (((En l (tx z) y s).take i).flatMap F) := Paired.imp (fun _ _ h => ⟨h.1, h.2.1, s34 _ _ h.2.2⟩) P3
        have P4q : Paired (CutA H4) qs (cuts l (tx z) ys' m e) := Paired.imp (fun _ _ h => h.2) hP
        refine x_forLR hpv (fun j σ H' => ∃ v6 ps', σ = [some (.ref (ad .sp)), some (.ref a), some (.int (s : Nat)), some (.int (e : Nat)), some (.ref f), some (.int (m : Nat)), v6] ∧ SameX f H4 H' ∧ H' f = some (.lst (ps'.map V.ref)) ∧ Paired (fun a c => H a = none ∧ a ≠ f ∧ CutA H' a c) ps' (((En l (tx z) y s).take i).flatMap F ++ ((cuts l (tx z) ys' m e).take j).map (s :: ·)))
          ⟨v6, ps, rfl, fun _ _ _ h => h, hf4, by simpa using P4⟩ (fun j σ H' _ ⟨_, _, _, X, _⟩ => X _ _ npf4 hpv) ?_ ?_
        · rintro j x σ H5 hj ⟨v6, ps', rfl, X5, hf5, P5⟩
          obtain ⟨r, hr', rfl⟩ : ∃ r, qs[j]? = some r ∧ x = V.ref r := by
            rw [List.getElem?_map] at hj
            obtain ⟨r, h1, h2⟩ := Option.map_eq_some_iff.mp hj
            exact ⟨r, h1, h2.symm⟩
          obtain ⟨c', hc', hrc⟩ := Paired.at' P4q hr'
          have nrf : r ≠ f := fun e => by
            have hrc : H4 r = _ := hrc
            rw [e, hf4] at hrc
            have h1 : (HO.lst (ps.map V.ref)) = .lst (nats c') := Option.some.inj hrc
            have h2 : ps.map V.ref = nats c' := by injection h1
            have h3 : c' ≠ [] := by
              obtain ⟨r', e'⟩ := cuts_head (List.mem_of_getElem? hc')
              rw [e']; simp
            cases c' with
            | nil => exact h3 rfl
            | cons x xs => cases ps with
              | nil => simp [nats] at h2
              | cons _ _ => simp [nats] at h2
          have hrc5 : H5 r = some (.lst (nats c')) := X5 _ _ nrf hrc
          have plen : ps'.length ≤ 90601 := by
            rw [Paired.length P5]
            refine Nat.le_trans ?_ hlen
            have pre : ((En l (tx z) y s).take i).flatMap F ++ ((cuts l (tx z) ys' m e).take j).map (s :: ·) <+: (En l (tx z) y s).flatMap F := by
              refine List.IsPrefix.trans ?_ (show ((En l (tx z) y s).take (i + 1)).flatMap F <+: _ from ?_)
              · rw [tm, Fm]
                exact (List.prefix_append_right_inj _).mpr ((List.take_prefix j _).map _)
              · refine ⟨((En l (tx z) y s).drop (i + 1)).flatMap F, ?_⟩
                rw [← List.flatMap_append, List.take_append_drop]
            exact pre.length_le
          have clen : c'.length ≤ 99990 := by
            have := (cuts_spec (List.mem_of_getElem? hc')).1
            have h9 : ys'.length ≤ 90000 := by simp at hy10; omega
            omega
          walk_at "go"
          refine ⟨by show 1 ≤ sizeLine; decide, fun b hb => ?_⟩
          walk_at "go"
          refine x_cat upd_same (look1 hrc5 hb) (by unfold nats; rw [List.length_map]; exact small__ (by show 1 + _ ≤ _; omega)) (fun d hd => ?_)
          have s57 : Same H5 (L2.upd (L2.upd H5 b (.lst [.int (s : Nat)])) d (.lst ([.int (s : Nat)] ++ nats c'))) := (Same.new hb).trans (Same.new hd)
          have hf7 := s57 _ _ hf5
          walk_at "go"
          refine x_append hf7 (by rw [List.length_map]; exact small_ (by omega)) ?_
          have ndf : d ≠ f := fun e => by rw [e] at hd; have h1 : L2.upd H5 b (.lst [.int (s : Nat)]) f = some _ := look1 hf5 hb; rw [h1] at hd; cases hd
          refine ⟨_, ps' ++ [d], rfl, (X5.trans (SameX.of s57)).trans SameX.upd, by rw [upd_same, List.map_append]; rfl, ?_⟩
          rw [take_more hc', List.map_append, ← List.append_assoc]
          have hdn : H d = none := (s3.trans s34).free (by
            refine Option.eq_none_iff_forall_ne_some.mpr fun o ho => ?_
            have h5 : H5 d = none := (Same.new hb).free hd
            by_cases e : d = f
            · exact ndf e
            · rw [X5 _ _ e ho] at h5; cases h5)
          refine Paired.snoc' ⟨hdn, ndf, ?_⟩ (Paired.imp (fun u c h => ⟨h.1, h.2.1, ?_⟩) P5)
          · show L2.upd _ f _ d = _
            rw [upd_ne ndf]; exact upd_same
          · show L2.upd _ f _ u = _
            rw [upd_ne h.2.1]; exact s57 _ _ h.2.2
        · rintro σ H5 ⟨v6, ps', rfl, X5, hf5, P5⟩
          rw [List.length_map, Paired.length P4q, List.take_length, ← Fm, ← tm] at P5
          exact ⟨_, _, ps', rfl, X4.trans X5, hf5, P5⟩
      · rw [decide_eq_false (show ¬ (m : Int) ≤ (e : Nat) by omega)]
        refine iteF ?_
        rw [if_neg c] at Fm
        walk_at "go"
        exact ⟨_, _, ps, rfl, X3, hf3, by rw [tm, Fm, List.append_nil]; exact P3⟩
    · rintro σ H3 ⟨v5, v6, ps, rfl, X3, hf3, P3⟩
      rw [List.length_map, List.take_length, ← hcut] at P3
      walk_at "go"
      exact k H3 f ps (fun b o h => X3 _ _ (fun e => by rw [e, hf] at h; cases h) (sH2 _ _ h)) hf hf3 (Paired.imp (fun _ _ h => ⟨h.1, h.2.2⟩) P3)
end
section
variable {P : Program} {w : World} {K : PySem.W.Frag} {mg : Str → Option Value} {base : Heap}
theorem hN_of {A : Around} {k : Nat} (hr : Room k A) : A.units + 12 < cLine := Nat.lt_of_le_of_lt (Nat.add_le_add_left (by decide : 12 ≤ 64) _) hr.units
def tbF (g fl sp tr : Addr) : List (Str × V) := [("grammar", .ref g), ("filters", .ref fl), ("spans", .ref sp), ("rows", .ref tr)]
section
variable {g fl sp tr : Addr}
theorem tbF_1 : (tbF g fl sp tr).lookup ("grammar" : Str) = some (.ref g) := by rfl
theorem tbF_2 : (tbF g fl sp tr).lookup ("filters" : Str) = some (.ref fl) := by rfl
theorem tbF_3 : (tbF g fl sp tr).lookup ("spans" : Str) = some (.ref sp) := by rfl
theorem tbF_4 : (tbF g fl sp tr).lookup ("rows" : Str) = some (.ref tr) := by rfl
end
structure TbC (K : PySem.W.Frag) (C : Addr) : Prop where
  cl : Cls K C
  n1 : NoAttr K C "grammar"
  n2 : NoAttr K C "filters"
  n3 : NoAttr K C "spans"
  n4 : NoAttr K C "rows"
theorem TX.tbC (T : TX K mg) : TbC K T.C_Table := ⟨T.cl_Table, T.n_Table_grammar, T.n_Table_filters, T.n_Table_spans, T.n_Table_rows⟩
abbrev Emp : Hp := fun _ => none
theorem same_emp {H : Hp} : Same Emp H := fun _ _ h => nomatch h
/-- a Table over a Spans whose text is read whole -/
structure TbA (C Cs : Addr) (H : Hp) (tb tr fl g : Addr) (z : Str) (l : Bool) (ad : Role → Addr) (S : SS) : Prop where
  I : ∃ dx, H tb = some (.ins C dx (tbF g fl (ad .sp) tr))
  F : H fl = some (.lst [])
  A : SpA Cs g z Emp H ad S
  G : GramAt H l g
  good : Good l (tx z) ((tx z).length + 1) 0 S
  few : z.length ≤ 192
def spTI (P : Program) (w : World) (C : Addr) : Sp := fun vs H Q _ => ∃ (tb g fl sp dx : Addr), vs = [.ref tb, .ref g, .ref fl, .ref sp] ∧ H tb = some (.ins C dx []) ∧
  ∀ H' tr, SameX tb H H' → H' tb = some (.ins C dx (tbF g fl sp tr)) → H tr = none → H' tr = some (NdO P w tr []) → Q .non H'
theorem ok_Tinit (T : TX K mg) : FnOk P w K mg base CX0 1 T.f_Table_init T.d_Table_init ["self", "grammar", "filters", "spans"] (spTI P w T.C_Table) := by
  refine T.F_Table_init.ok sc_Table_init (fun vs H Q E h => ?_) (fun cdv A outer s H vs Q E hr h => ?_)
  · obtain ⟨tb, g, fl, sp, dx, rfl, _⟩ := h
    rfl
  obtain ⟨tb, g, fl, sp, dx, rfl, htb, k⟩ := h
  refine ⟨_, (pss_cons (kfldS K (pv 0) (pv 1) rfl)
  (pss_cons (kfldS K (pv 0) (pv 2) rfl)
  (pss_cons (kfldS K (pv 0) (pv 3) rfl)
  (pss_one (kfldS K (pv 0) (kdnewN P w) rfl))))), ?_⟩
  obtain ⟨cl, n1, n2, n3, n4⟩ := T.tbC
  walk_at "go"
  refine x_setFR htb cl n1 (by show 0 < 1000; decide) ?_
  walk_at "go"
  refine x_setFR upd_same cl n2 (by show 1 < 1000; decide) ?_
  walk_at "go"
  refine x_setFR upd_same cl n3 (by show 2 < 1000; decide) ?_
  rw [upd_upd, upd_upd]
  walk_at "go"
  intro tr htr
  walk_at "go"
  have ne : tr ≠ tb := fun e => by rw [e, upd_same] at htr; cases htr
  refine x_setFR (look1 upd_same htr) cl n4 (by show 3 < 1000; decide) ?_
  refine k _ tr (fun a o na h => ?_) upd_same (by rw [← htr, upd_ne ne]) (by rw [upd_ne ne]; exact upd_same)
  rw [upd_ne na]
  exact look1 ((upd_ne na).trans h) htr
def spTO (P : Program) (w : World) (C Cs : Addr) : Sp := fun vs H Q _ => ∃ (g fl : Addr) (z : Str) (l : Bool) (ad : Role → Addr) (S : SS), vs = [.ref g, .ref fl, .ref (ad .sp)] ∧ H fl = some (.lst []) ∧ SpA Cs g z Emp H ad S ∧ GramAt H l g ∧ Good l (tx z) ((tx z).length + 1) 0 S ∧ z.length ≤ 192 ∧
  ∀ H' q tb tr kp, Same H H' → H q = none → H' q = some (.tup [.ref tb, .ref kp]) → H tb = none → H tr = none → TbA C Cs H' tb tr fl g z l ad S → NdAt P w H' tr [] → NKAt H' kp (.p, 0, (tx z).length) → Q (.ref q) H'
theorem ok_table_of (T : TX K mg) (G_Table_init : FnOk P w K mg base CX0 1 T.f_Table_init T.d_Table_init ["self", "grammar", "filters", "spans"] (spTI P w T.C_Table)) :
    FnOk P w K mg base CX0 3 T.f_table_of T.d_table_of ["grammar", "filters", "spans"] (spTO P w T.C_Table T.C_Spans) := by
  refine T.F_table_of.ok sc_table_of (fun vs H Q E h => ?_) (fun cdv A outer s H vs Q E hr h => ?_)
  · obtain ⟨g, fl, z, l, ad, S, rfl, _⟩ := h
    rfl
  obtain ⟨g, fl, z, l, ad, S, rfl, hfl, A0, hg, hG, hz, k⟩ := h
  refine ⟨_, (pss_cons (ps_set (i := 3) sc_table_of.nd rfl (Or.inl rfl) (pe_make T.mk_Table G_Table_init (hr.mono (by decide)) (by rfl) T.mC_Table T.b_Table_init .nil pass0 (pa_cons (pv 0) (pa_cons (pv 1) (pa_cons (pv 2) pa_nil)))))
  (pss_one (ps_ret (pe_tup (pa_cons (pv 3) (pa_cons (pe_tup (pa_cons (pe_ix (kx_tup K) (pv 0) pe_int (fun _ _ => rfl)) (pa_cons pe_int (pa_cons (pe_callB cl_lenS (by rfl) T.z_len (by decide +kernel) (pa_cons (kfld K (pv 2) rfl) pa_nil)) (pa_cons (pe_tup pa_nil) pa_nil))))) pa_nil)))))), ?_⟩
  obtain ⟨cl, n1, n2, n3, n4, n5, n6, n7, n8, n9⟩ := T.spF
  obtain ⟨rl, ras, hg1, hg2, hg3⟩ := id hg
  have hsp := A0.rep.gSp
  dsimp only at hsp
  walk_at "go"
  refine x_make ?_
  walk_at "go"
  intro tb dx htb0 hdx0 nds
  have s1 : Same H (upd (upd H dx (.own tb)) tb (.ins T.C_Table dx [])) := (Same.new hdx0).trans (Same.new (by rw [upd_ne (fun e => nds e.symm)]; exact htb0))
  refine ⟨tb, g, fl, ad .sp, dx, rfl, upd_same, fun H1 tr X1 htb htr0 htr => ⟨rfl, ?_⟩⟩
  have sH1 : Same H H1 := fun a o h => X1 _ _ (fun e => by rw [e, htb0] at h; cases h) (s1 _ _ h)
  have hsp1 := sH1 _ _ hsp
  have hg1' := sH1 _ _ hg1
  walk_at "go"
  refine ⟨Nat.zero_le _, fun c hc => ?_⟩
  walk_at "go"
  refine ⟨by show 4 ≤ sizeLine; decide, fun kp hkp => ?_⟩
  walk_at "go"
  refine ⟨by show 2 ≤ sizeLine; decide, fun q hq => ?_⟩
  have s2 : Same H1 (upd (upd (upd H1 c (.tup [])) kp (.tup [.str "p", .int 0, .int (z.length : Nat), .ref c])) q (.tup [.ref tb, .ref kp])) := ((Same.new hc).trans (Same.new hkp)).trans (Same.new hq)
  have sH2 := sH1.trans s2
  refine k _ q tb tr kp sH2 (((sH1.trans (Same.new hc)).trans (Same.new hkp)).free hq) upd_same htb0 ((s1).free htr0) ⟨⟨dx, s2 _ _ htb⟩, sH2 _ _ hfl, A0.more sH2, hg.same sH2, hG, hz⟩ ⟨s2 _ _ htr, fun e he => nomatch he⟩ ?_
  refine ⟨c, ?_, look1 (look1 upd_same hkp) hq⟩
  rw [← len_tx]
  exact look1 upd_same hq
end
section
variable {P : Program} {w : World} {K : PySem.W.Frag} {mg : Str → Option Value} {base : Heap}
def spAll (C Cs : Addr) : Sp := fun vs H Q _ => ∃ (tb tr fl g kp : Addr) (z : Str) (l : Bool) (ad : Role → Addr) (S : SS) (k : K3), vs = [.ref tb, .ref kp] ∧ TbA C Cs H tb tr fl g z l ad S ∧ NKAt H kp k ∧ Q (.bl true) H
theorem ok_allowed (T : TX K mg) : FnOk P w K mg base CX0 1 T.f_Table_allowed T.d_Table_allowed ["self", "key"] (spAll T.C_Table T.C_Spans) := by
  refine T.F_Table_allowed.ok sc_Table_allowed (fun vs H Q E h => ?_) (fun cdv A outer s H vs Q E hr h => ?_)
  · obtain ⟨tb, tr, fl, g, kp, z, l, ad, S, k, rfl, _⟩ := h
    rfl
  obtain ⟨tb, tr, fl, g, kp, z, l, ad, S, ky, rfl, B, ⟨c, h1, h2⟩, k⟩ := h
  refine ⟨_, (pss_cons (ps_asg (pv 1) (kpg_tup K 4 rfl (pgs_cons (pg_name (i := 2) sc_Table_allowed.nd rfl (Or.inl rfl)) (pgs_cons (pg_name (i := 3) sc_Table_allowed.nd rfl (Or.inl rfl)) (pgs_cons (pg_name (i := 4) sc_Table_allowed.nd rfl (Or.inl rfl)) (pgs_cons (pg_name (i := 5) sc_Table_allowed.nd rfl (Or.inl rfl)) pgs_nil))))))
  (pss_cons (ps_set (i := 6) sc_Table_allowed.nd rfl (Or.inl rfl) (kfld K (kfld K (pv 0) rfl) rfl))
  (pss_cons (ps_for PassesOwn.never rfl (kpi_list K (kfld K (pv 0) rfl)) (pg_name (i := 7) sc_Table_allowed.nd rfl (Or.inl rfl))
  pss_never)
  (pss_one (ps_ret pe_bl))))), ?_⟩
  obtain ⟨cl, n1, n2, n3, n4⟩ := T.tbC
  obtain ⟨⟨dx, hI⟩, hF, A, hg, _, _⟩ := B
  have hsp := A.rep.gSp
  dsimp only at hsp
  have cl' := T.spF.cl
  have n2' := T.spF.n2
  walk_at "go"
  refine x_forLR hF (fun i σ H' => H' = H) rfl (fun i σ H' _ e => by rw [e]; exact hF) (fun i x σ H' hx _ => by simp at hx) (fun σ H' e => ?_)
  subst e
  walk_at "go"
  exact k
def KidAt (H : Hp) (v : V) : Option K3 → Prop
  | none => v = .non
  | some k => ∃ b, v = .ref b ∧ NKAt H b k
theorem KidAt.tk {H H' : Hp} {v : V} {o : Option K3} (s : TK H H') (h : KidAt H v o) : KidAt H' v o := by
  cases o with
  | none => exact h
  | some k => obtain ⟨b, e, q⟩ := h; exact ⟨b, e, q.tk s⟩
theorem kidL_get : ∀ {ys : List Sym} {c : List Nat} {j : Nat} {y : Sym} {a b : Nat}, ys[j]? = some y → c[j]? = some a → c[j + 1]? = some b → (kidL ys c)[j]? = some (kidO y a b)
  | [], c, j, y, a, b, h, _, _ => by simp at h
  | y :: ys, [], j, y', a, b, _, h, _ => by simp at h
  | y :: ys, [x], j, y', a, b, _, _, h => by simp at h
  | y :: ys, x :: x' :: c, 0, y', a, b, h1, h2, h3 => by
    simp at h1 h2 h3
    subst h1 h2 h3; rfl
  | y :: ys, x :: x' :: c, j + 1, y', a, b, h1, h2, h3 => by
    have := kidL_get (ys := ys) (c := x' :: c) (j := j) (by simpa using h1) (by simpa using h2) (by simpa using h3)
    simpa [kidL] using this
def spKid (C Cs : Addr) : Sp := fun vs H Q _ => ∃ (tb tr fl g ca : Addr) (z : Str) (l : Bool) (ad : Role → Addr) (S : SS) (k : Nat) (c : List Nat), vs = [.ref tb, .int (k : Nat), .ref ca] ∧ TbA C Cs H tb tr fl g z l ad S ∧ k < 9 ∧ CutA H ca c ∧ c.length = (syms l k).length + 1 ∧
  ∀ H' p vs, Same H H' → H p = none → H' p = some (.lst vs) → Paired (KidAt H') vs (kidL (syms l k) c) → Q (.ref p) H'
theorem ok_kid_keys (T : TX K mg) : FnOk P w K mg base CX0 1 T.f_Table_kid_keys T.d_Table_kid_keys ["self", "k", "cuts"] (spKid T.C_Table T.C_Spans) := by
  refine T.F_Table_kid_keys.ok sc_Table_kid_keys (fun vs H Q E h => ?_) (fun cdv A outer s H vs Q E hr h => ?_)
  · obtain ⟨tb, tr, fl, g, ca, z, l, ad, S, k, c, rfl, _⟩ := h
    rfl
  obtain ⟨tb, tr, fl, g, ca, z, l, ad, S, r, c, rfl, B, hr9, hca, hlen, k⟩ := h
  refine ⟨_, (pss_cons (ps_set (i := 3) sc_Table_kid_keys.nd rfl (Or.inl rfl) (pe_lst pa_nil))
  (pss_cons (ps_for PassesOwn.never rfl (kpi_enum K (by rfl) T.z_enumerate (pa_cons (pe_ix (kx_tup K) (pe_ix (kx_list K) (pe_ix (kx_tup K) (kfld K (pv 0) rfl) pe_int (fun _ _ => rfl)) (pv 1) (fun _ _ => rfl)) pe_int (fun _ _ => rfl)) pa_nil)) (kpg_tup K 2 rfl (pgs_cons (pg_name (i := 4) sc_Table_kid_keys.nd rfl (Or.inr rfl)) (pgs_cons (pg_name (i := 5) sc_Table_kid_keys.nd rfl (Or.inl rfl)) pgs_nil)))
  (pss_cons (ps_if (pt_cmpR op_ne (pe_ix (kx_tup K) (pv 5) pe_int (fun _ _ => rfl)) pe_str (nomark _))
  (pss_cons (ps_expr (kbm K (pe_bm PySem.F.plainAttrs_list PySem.F.slot_list_append PySem.F.type_list_append mt_append (pv 3) (pa_cons pe_non pa_nil))))
  (pss_one ps_continue))
  pss_nil)
  (pss_cons (ps_setLc (i := 6) (own := [("row", 7)]) (by rfl) sc_Table_kid_keys.nd rfl rfl (sw_true rfl rfl rfl (by decide +kernel)) (kpi_list K (kfld K (pv 0) rfl)) (blkOk_by (N := ["self", "k", "cuts", "keys", "at", "symbol", "bans", "row"]) (sc := (defScope s_Table_kid_keys)) (by decide +kernel)) (fun _ _ _ _ _ => (pg_name (i := 7) sc_Table_kid_keys.nd rfl (Or.inl rfl))) (fun _ _ _ _ _ => (pts_one pt_never)) (fun _ _ _ _ _ => pe_never))
  (pss_one (ps_expr (kbm K (pe_bm PySem.F.plainAttrs_list PySem.F.slot_list_append PySem.F.type_list_append mt_append (pv 3) (pa_cons (pe_tup (pa_cons (pe_ix (kx_tup K) (pv 5) pe_int (fun _ _ => rfl)) (pa_cons (pe_ix (kx_list K) (pv 2) (pv 4) (fun _ _ => rfl)) (pa_cons (pe_ix (kx_list K) (pv 2) (pe_op op_add (pv 4) pe_int) (fun _ _ => rfl)) (pa_cons (pe_callTy (kc_tuple K) (by rfl) T.z_tuple (by decide +kernel) (pa_cons (pe_callB (kc_sortT K P w rfl) (by rfl) T.z_sorted (by decide +kernel) (pa_cons (pe_callTy (kc_setT K P w rfl hr.units) (by rfl) T.z_set (by decide +kernel) (pa_cons (pv 6) pa_nil)) pa_nil)) pa_nil)) pa_nil))))) pa_nil))))))))
  (pss_one (ps_ret (pv 3))))), ?_⟩
  obtain ⟨cl, n1, n2, n3, n4⟩ := T.tbC
  obtain ⟨⟨dx, hI⟩, hF, A0, hg, _, _⟩ := B
  obtain ⟨rl, rvs, ra, sa, lab, g1, g2, g3, g4, g5⟩ := hg.rule hr9
  obtain ⟨as, q1, q2⟩ := g5
  walk_at "go"
  refine ⟨Nat.zero_le _, fun f hf => ?_⟩
  walk_at "go"
  have hc : ∀ j, j < c.length → ∃ a, c[j]? = some a := fun j hj => ⟨_, List.getElem?_eq_getElem hj⟩
  have sl5 := syms_len l r
  have asl : as.length = (syms l r).length := Paired.length q2
  have kl := kidL_len hlen
  refine x_forER (look1 q1 hf) (fun j σ H' => ∃ v4 v5 v6 vs, σ = [some (.ref tb), some (.int (r : Nat)), some (.ref ca), some (.ref f), v4, v5, v6, none] ∧ SameX f (upd H f (.lst [])) H' ∧ H' f = some (.lst vs) ∧ Paired (KidAt H') vs ((kidL (syms l r) c).take j))
    ⟨none, none, none, [], rfl, fun _ _ _ h => h, upd_same, .nil⟩ (fun j σ H' _ ⟨_, _, _, _, _, X, _⟩ => X _ _ (fun e => by rw [e, hf] at q1; cases q1) (look1 q1 hf)) ?_ ?_
  · rintro j x σ H2 U hj ⟨v4, v5, v6, vs, rfl, X2, hf2, P2⟩ hU
    obtain ⟨b, hb, rfl⟩ : ∃ b, as[j]? = some b ∧ x = V.ref b := by
      rw [List.getElem?_map] at hj
      obtain ⟨r, h1, h2⟩ := Option.map_eq_some_iff.mp hj
      exact ⟨r, h1, h2.symm⟩
    obtain ⟨y, hy, hby⟩ := Paired.at' q2 hb
    have hj5 := (List.getElem?_eq_some_iff.mp hy).1
    have s2 : Same H H2 := fun a o h => X2 _ _ (fun e => by rw [e, hf] at h; cases h) (look1 h hf)
    have hby : H b = some (.tup [.str (kdS y), .str (vlS y)]) := hby
    have hby2 := s2 _ _ hby
    obtain ⟨a1, ha1⟩ := hc j (by omega)
    obtain ⟨a2, ha2⟩ := hc (j + 1) (by omega)
    have kj := kidL_get hy ha1 ha2
    have tk := take_more kj
    have P2' : ∀ H', TK H2 H' → Paired (KidAt H') vs ((kidL (syms l r) c).take j) := fun H' t => Paired.imp (fun _ _ h => h.tk t) P2
    have vl : vs.length ≤ 5 := by
      have := Paired.length P2
      rw [List.length_take] at this
      omega
    have nUf : U ≠ f := fun e => by rw [e, hf2] at hU; cases hU
    have hca2 : H2 ca = some (.lst (nats c)) := s2 _ _ hca
    have hF2 := s2 _ _ hF
    have hI2 := s2 _ _ hI
    have i1 : atI (nats c) (j : Int) = some (.int (a1 : Nat)) := atI_nat (by unfold nats; rw [List.getElem?_map, ha1]; rfl)
    have i2 : atI (nats c) ((j : Int) + 1) = some (.int (a2 : Nat)) := by
      rw [show ((j : Int) + 1) = ((j + 1 : Nat) : Int) by omega]
      exact atI_nat (by unfold nats; rw [List.getElem?_map, ha2]; rfl)
    walk_at "go"
    have done : ∀ v5 v6 H3 v, SameX f H2 H3 → H3 f = some (.lst (vs ++ [v])) → KidAt H3 v (kidO y a1 a2) →
        ∃ v4' v5' v6' vs', [some (V.ref tb), some (.int (r : Nat)), some (.ref ca), some (.ref f), some (.int (j : Nat)), v5, v6, none] = [some (V.ref tb), some (.int (r : Nat)), some (.ref ca), some (.ref f), v4', v5', v6', none] ∧ SameX f (upd H f (.lst [])) H3 ∧ H3 f = some (.lst vs') ∧ Paired (KidAt H3) vs' ((kidL (syms l r) c).take (j + 1)) := fun v5 v6 H3 v X3 h3 kv => by
      refine ⟨_, _, _, _, rfl, X2.trans X3, h3, ?_⟩
      rw [tk]
      exact Paired.snoc' kv (P2' _ fun a xs h => X3 _ _ (fun e => by rw [e, hf2] at h; cases h) h)
    by_cases isn : ∃ u, y = .nt u
    · obtain ⟨u, rfl⟩ := isn
      have hby2 : H2 b = some (.tup [.str "nt", .str (nS u)]) := hby2
      rw [decide_eq_true (show kdS (.nt u) = ("nt" : Str) from rfl)]
      refine iteF ?_
      walk_at "go"
      refine x_lcP (look1 hF2 hU) (fun _ => []) rfl (fun _ h => by simp at h) (fun i x H3 N1 N2 hx => by simp at hx) (fun D H3 s3 hD hDv => ?_)
      have s23 : Same H2 H3 := (Same.new hU).trans s3
      have hby3 := s23 _ _ hby2
      have hca3 := s23 _ _ hca2
      have hf3 := s23 _ _ hf2
      have hDf : D ≠ f := fun e => by rw [e, look1 hf2 hU] at hD; cases hD
      walk_at "go"
      refine x_setT hDv fun a ha => ?_
      walk_at "go"
      refine x_sortT upd_same fun p hp => ?_
      walk_at "go"
      refine x_tupleL upd_same fun q hq => ?_
      walk_at "go"
      refine ⟨by show 4 ≤ sizeLine; decide, fun kb hkb => ?_⟩
      have s34 : Same H3 (upd (upd (upd (upd H3 a (SetTO P w a [])) p (.lst [])) q (.tup [])) kb (.tup [.str (nS u), .int (a1 : Nat), .int (a2 : Nat), .ref q])) := (((Same.new ha).trans (Same.new hp)).trans (Same.new hq)).trans (Same.new hkb)
      walk_at "go"
      refine x_append (s34 _ _ hf3) (small_ (by omega)) ?_
      refine done _ _ _ _ ((SameX.of (s23.trans s34)).trans SameX.upd) upd_same ⟨kb, rfl, q, ?_, ?_⟩
      · have nkf : kb ≠ f := fun e => by rw [e, ((((Same.new ha).trans (Same.new hp)).trans (Same.new hq)) _ _ hf3)] at hkb; cases hkb
        rw [upd_ne nkf]; exact upd_same
      · have nqf : q ≠ f := fun e => by rw [e, (((Same.new ha).trans (Same.new hp)) _ _ hf3)] at hq; cases hq
        rw [upd_ne nqf]; exact look1 upd_same hkb
    · have nn : ∀ u, y ≠ .nt u := fun u e => isn ⟨u, e⟩
      have kn : kdS y ≠ ("nt" : Str) := by
        cases y with
        | nt u => exact absurd rfl (nn u)
        | lit c => show ("lit" : Str) ≠ "nt"; decide +kernel
        | run c => show ("run" : Str) ≠ "nt"; decide +kernel
      have ko : kidO y a1 a2 = none := by
        cases y with
        | nt u => exact absurd rfl (nn u)
        | _ => rfl
      rw [decide_eq_false kn]
      refine iteT ?_
      walk_at "go"
      refine x_append (look1 hf2 hU) (small_ (by omega)) ?_
      walk_at "go"
      exact done _ _ _ _ ((SameX.of (Same.new hU)).trans SameX.upd) upd_same (by rw [ko]; rfl)
  · rintro σ H2 ⟨v4, v5, v6, vs, rfl, X2, hf2, P2⟩
    rw [List.length_map, asl, ← kl, List.take_length] at P2
    walk_at "go"
    exact k H2 f vs (fun a o h => X2 _ _ (fun e => by rw [e, hf] at h; cases h) (look1 h hf)) hf hf2 P2
end
section
variable {P : Program} {w : World} {K : PySem.W.Frag} {mg : Str → Option Value} {base : Heap}
/-- all stands but the nested dicts -/
def NE (o : HO) : Prop := ∀ φ, o ≠ .ext φ
def SE (H H' : Hp) : Prop := ∀ a o, NE o → H a = some o → H' a = some o
theorem ne_lst {xs : List V} : NE (.lst xs) := fun _ h => nomatch h
theorem ne_tup {xs : List V} : NE (.tup xs) := fun _ h => nomatch h
theorem ne_ins {C dx : Addr} {fs : List (Str × V)} : NE (.ins C dx fs) := fun _ h => nomatch h
theorem SE.refl (H : Hp) : SE H H := fun _ _ _ h => h
theorem SE.trans {H H1 H2 : Hp} (a : SE H H1) (b : SE H1 H2) : SE H H2 := fun x o n h => b x o n (a x o n h)
theorem same_se {H H' : Hp} (s : Same H H') : SE H H' := fun a o _ h => s a o h
theorem SE.tk {H H' : Hp} (s : SE H H') : TK H H' := fun a xs h => s a _ ne_tup h
theorem SE.x {tr : Addr} {H H' : Hp} {φ : Heap → Prop} (s : SameX tr H H') (h : H tr = some (.ext φ)) : SE H H' := fun a o n q => s a o (fun e => by rw [e, h] at q; exact n φ (Option.some.inj q).symm) q
theorem GramAt.se {H H' : Hp} {l : Bool} {g : Addr} (s : SE H H') (h : GramAt H l g) : GramAt H' l g := by
  obtain ⟨rl, ras, h1, h2, h3⟩ := h
  exact ⟨rl, ras, s _ _ ne_tup h1, s _ _ ne_lst h2, Paired.imp (fun a r ⟨sa, lab, q1, as, q2, q3⟩ => ⟨sa, lab, s _ _ ne_tup q1, as, s _ _ ne_lst q2, Paired.imp (fun b y q => s _ _ ne_tup q) q3⟩) h3⟩
theorem Cont.ne {p S th H r o} (h : Cont p S th H r o) : NE o := by
  intro xs e
  subst e
  cases r with
  | stA i => obtain ⟨vs, h1, h2⟩ := h; cases h2
  | waL i x => obtain ⟨ys, vs, h0, h1, h2⟩ := h; cases h2
  | roL i x => obtain ⟨ys, h0, h2⟩ := h; cases h2
  | roA i => obtain ⟨ks, _, _, h2⟩ := h; cases h2
  | waA i => obtain ⟨ks, _, _, h2⟩ := h; cases h2
  | sp => exact nomatch (show HO.ext xs = _ from h)
  | dx => exact nomatch (show HO.ext xs = _ from h)
  | em => exact nomatch (show HO.ext xs = _ from h)
  | bn => exact nomatch (show HO.ext xs = _ from h)
  | bl x => exact nomatch (show HO.ext xs = _ from h)
  | ro => exact nomatch (show HO.ext xs = _ from h)
  | st => exact nomatch (show HO.ext xs = _ from h)
  | th => exact nomatch (show HO.ext xs = _ from h)
  | wa => exact nomatch (show HO.ext xs = _ from h)
  | thA i => exact nomatch (show HO.ext xs = _ from h)
theorem SpA.se {C g z H H' ad S} (A : SpA C g z Emp H ad S) (s : SE H H') : SpA C g z Emp H' ad S := by
  refine ⟨same_emp, fun _ _ => rfl, ⟨A.rep.inj, fun r hu => ?_⟩⟩
  obtain ⟨o, h1, h2⟩ := A.rep.at_ r hu
  exact ⟨o, s _ _ h2.ne h1, h2.tk s.tk⟩
theorem TbA.se {C Cs H H' tb tr fl g z l ad S} (B : TbA C Cs H tb tr fl g z l ad S) (s : SE H H') : TbA C Cs H' tb tr fl g z l ad S := by
  obtain ⟨⟨dx, h1⟩, h2, h3, h4, h5, h6⟩ := B
  exact ⟨⟨dx, s _ _ ne_ins h1⟩, s _ _ ne_lst h2, h3.se s, h4.se s, h5, h6⟩
/-- the alternatives of a key, as they stand in the heap; no list of theirs lies in F -/
def AltE (F : Addr → Prop) (H : Hp) (a : Addr) (kc : Nat × List Nat) : Prop := ∃ c, ¬ F c ∧ H a = some (.tup [.int (kc.1 : Nat), .ref c]) ∧ CutA H c kc.2
def AltA (F : Addr → Prop) (H : Hp) (p : Addr) (L : List (Nat × List Nat)) : Prop := ¬ F p ∧ ∃ ps : List Addr, H p = some (.lst (ps.map V.ref)) ∧ Paired (AltE F H) ps L
/-- the lists outside F stay -/
def LK (F : Addr → Prop) (H H' : Hp) : Prop := ∀ a xs, ¬ F a → H a = some (.lst xs) → H' a = some (.lst xs)
theorem AltE.kp {F : Addr → Prop} {H H' : Hp} {a : Addr} {kc : Nat × List Nat} (t : TK H H') (s : LK F H H') (h : AltE F H a kc) : AltE F H' a kc := by
  obtain ⟨c, n, h1, h2⟩ := h
  exact ⟨c, n, t _ _ h1, s _ _ n h2⟩
theorem AltA.kp {F : Addr → Prop} {H H' : Hp} {p : Addr} {L : List (Nat × List Nat)} (t : TK H H') (s : LK F H H') (h : AltA F H p L) : AltA F H' p L := by
  obtain ⟨n, ps, h1, h2⟩ := h
  exact ⟨n, ps, s _ _ n h1, Paired.imp (fun _ _ q => q.kp t s) h2⟩
theorem AltE.wide {F F' : Addr → Prop} {H : Hp} {a : Addr} {kc : Nat × List Nat} (hF : ∀ a, F' a → H a ≠ none → F a) (h : AltE F H a kc) : AltE F' H a kc := by
  obtain ⟨c, n, h1, h2⟩ := h
  exact ⟨c, fun q => n (hF c q (fun e => by have h2 : H c = _ := h2; rw [e] at h2; cases h2)), h1, h2⟩
theorem AltA.wide {F F' : Addr → Prop} {H : Hp} {p : Addr} {L : List (Nat × List Nat)} (hF : ∀ a, F' a → H a ≠ none → F a) (h : AltA F H p L) : AltA F' H p L := by
  obtain ⟨n, ps, h1, h2⟩ := h
  exact ⟨fun q => n (hF p q (fun e => by rw [e] at h1; cases h1)), ps, h1, Paired.imp (fun _ _ q => q.wide hF) h2⟩
theorem SE.lk {F : Addr → Prop} {H H' : Hp} (s : SE H H') : LK F H H' := fun a xs _ h => s a _ ne_lst h
noncomputable def altK (l : Bool) (t : Tx) (k : K3) : List (Nat × List Nat) := alts l t k.1 k.2.1 k.2.2
def muK (k : K3) : Nat := mu k.1 k.2.1 k.2.2
def KOk (n : Nat) (k : K3) : Prop := k.2.1 ≤ k.2.2 ∧ k.2.2 ≤ n
/-- the rows of a Table -/
structure RowsOk (P : Program) (w : World) (l : Bool) (t : Tx) (F : Addr → Prop) (H : Hp) (tr : Addr) (ws : NW) : Prop where
  nd : NdAt P w H tr ws
  v : ∀ e ∈ ws, KOk t.length e.1 ∧ ∃ p, e.2.2 = .ref p ∧ AltA F H p (altK l t e.1)
  nodup : (ws.map (·.1)).Nodup
theorem RowsOk.kp {l t F H H' tr ws} (R : RowsOk P w l t F H tr ws) (k : TK H H') (s : LK F H H') (h : H' tr = H tr) : RowsOk P w l t F H' tr ws :=
  ⟨⟨by rw [h]; exact R.nd.o, fun e he => (R.nd.k e he).tk k⟩, fun e he => by
    obtain ⟨h1, p, h2, h3⟩ := R.v e he
    exact ⟨h1, p, h2, h3.kp k s⟩, R.nodup⟩
theorem RowsOk.same {l t F H H' tr ws} (R : RowsOk P w l t F H tr ws) (s : Same H H') : RowsOk P w l t F H' tr ws := R.kp (same_tk s) (same_se s).lk (by rw [R.nd.o]; exact s _ _ R.nd.o)
theorem RowsOk.wide {l t F F' H tr ws} (R : RowsOk P w l t F H tr ws) (hF : ∀ a, F' a → H a ≠ none → F a) : RowsOk P w l t F' H tr ws :=
  ⟨R.nd, fun e he => by
    obtain ⟨h1, p, h2, h3⟩ := R.v e he
    exact ⟨h1, p, h2, h3.wide hF⟩, R.nodup⟩
theorem ndV_none {ws : NW} {k : K3} (h : ∀ e ∈ ws, e.1 ≠ k) : ndV ws k = none := by
  unfold ndV
  rw [List.find?_eq_none.mpr fun e he => by simpa using h e he]; rfl
theorem ndV_some {ws : NW} {k : K3} {v : V} (h : ndV ws k = some v) : ∃ e ∈ ws, e.1 = k ∧ e.2.2 = v := by
  unfold ndV at h
  obtain ⟨e, h1, h2⟩ := Option.map_eq_some_iff.mp h
  exact ⟨e, List.mem_of_find?_eq_some h1, by simpa using List.find?_some h1, h2⟩
theorem ndV_last {ws : NW} {k : K3} {b : Addr} {v : V} (h : ndV ws k = none) : ndV (ws ++ [(k, b, v)]) k = some v := by
  unfold ndV at h ⊢
  have h := Option.map_eq_none_iff.mp h
  rw [List.find?_append, h]
  simp
/-- few keys -/
theorem rows_few {l t F H tr ws} (R : RowsOk P w l t F H tr ws) (hn : t.length ≤ 192) : ws.length < sizeLine := by
  have h := nodup_len (l := ws.map (·.1)) (m := allN.flatMap fun x => (List.range 193).flatMap fun s => (List.range 193).map fun e => (x, s, e)) R.nodup fun k hk => by
    obtain ⟨⟨⟨x, s, e⟩, b, v⟩, he, rfl⟩ := List.mem_map.mp hk
    obtain ⟨b1, b2⟩ := (R.v _ he).1
    simp only at b1 b2
    exact List.mem_flatMap.mpr ⟨x, allN_all _, List.mem_flatMap.mpr ⟨s, List.mem_range.mpr (by omega), List.mem_map.mpr ⟨e, List.mem_range.mpr (by omega), rfl⟩⟩⟩
  rw [List.length_map] at h
  refine Nat.lt_of_le_of_lt (Nat.le_trans h (flat_len _ 37249 _ fun x _ => ?_)) (by decide)
  refine Nat.le_trans (flat_len _ 193 _ fun s _ => ?_) (by decide)
  rw [List.length_map, List.length_range]; exact Nat.le_refl _
def spAlt (P : Program) (w : World) (C Cs : Addr) (n : Nat) : Sp := fun vs H Q _ => ∃ (tb tr fl g kp : Addr) (z : Str) (l : Bool) (ad : Role → Addr) (S : SS) (k : K3) (F : Addr → Prop) (ws : NW), vs = [.ref tb, .ref kp] ∧ TbA C Cs H tb tr fl g z l ad S ∧ (∀ a, F a → H a ≠ none) ∧ RowsOk P w l (tx z) F H tr ws ∧ NKAt H kp k ∧ KOk (tx z).length k ∧ muK k < n ∧
  ∀ H' p ws', SameX tr H H' → RowsOk P w l (tx z) F H' tr ws' → (∀ e ∈ ws', e ∈ ws ∨ muK e.1 ≤ muK k) → AltA F H' p (altK l (tx z) k) → Q (.ref p) H'
end
section
variable {K : PySem.W.Frag} {tl tk tv : TE} {g : TG} {tt : TT} {vs : List Nat} {σ : L2.St} {H : Hp} {Q : VK}
/-- {key: value for .. in a list}: some dict -/
theorem x_dcL {a : Addr} {xs : List V} (h : H a = some (.lst xs)) (few : xs.length < sizeLine) (ht : ∀ R : VK, R (.ref a) H → tl σ H R)
    (hs : ∀ (i : Nat) (x : V) (H1 : Hp) (N : V → V → Hp → Prop) (Nf : Hp → Prop), xs[i]? = some x → Same H H1 → (∀ kk z H4, Same H1 H4 → N (kV kk) z H4) → g x (wipe σ vs) H1 fun σ2 H2 => wipe σ2 vs = wipe σ vs ∧ tt σ2 H2 fun b H3 => if b = true then tk σ2 H3 fun y H4 => tv σ2 H4 fun z H5 => N y z H5 else Nf H3)
    (he : ∀ D H', Same H H' → H D = none → Q (.ref D) H') : tDc (iList K tl) g tt tk tv vs σ H Q := by
  refine ht _ ⟨a, rfl, ⟨xs, SqL.of h⟩, fun D hD => ?_⟩
  refine ⟨fun i m G => m = xs.length - i ∧ i ≤ xs.length ∧ Same H G ∧ ∃ kvs : List (Key × V), G D = some (.dK kvs) ∧ kvs.length ≤ i, ⟨_, rfl, Nat.zero_le _, Same.new hD, [], upd_same, Nat.le_refl _⟩, ?_⟩
  rintro i m G ⟨rfl, hi, s, kvs, hk, kl⟩
  have q := s _ _ h
  by_cases hlt : i < xs.length
  · refine .inr ⟨⟨xs, xs[i], SqL.of q, by simp [hlt]⟩, fun G => i + 1 ≤ xs.length ∧ Same H G ∧ ∃ kvs : List (Key × V), G D = some (.dK kvs) ∧ kvs.length ≤ i + 1, fun G r => ⟨xs.length - (i + 1), by omega, rfl, r⟩, fun x G' y => ?_⟩
    obtain ⟨e, y⟩ := y
    subst e
    have hx := y xs (SqL.of q)
    exact hs i x G' (fun y z H5 => ∃ kvs k, y = kV k ∧ H5 D = some (.dK kvs) ∧ kvs.length < sizeLine ∧ (i + 1 ≤ xs.length ∧ Same H (upd H5 D (.dK (putK kvs k z))) ∧ ∃ kvs' : List (Key × V), (upd H5 D (.dK (putK kvs k z))) D = some (.dK kvs') ∧ kvs'.length ≤ i + 1)) _ hx s
      (fun kk z H4 s4 => ⟨kvs, kk, rfl, s4 _ _ hk, by omega, hlt, Same.mut (s.trans s4) hD, _, upd_same, Nat.le_trans (length_putK kvs kk z) (by omega)⟩)
  · have e : i = xs.length := by omega
    subst e
    exact .inl ⟨⟨xs, SqL.of q, Nat.le_refl _⟩, he D G s hD⟩
end
section
variable {P : Program} {w : World} {K : PySem.W.Frag} {mg : Str → Option Value} {base : Heap}
theorem x_nin {ty td : TE} {σ : L2.St} {H : Hp} {Q : VK} (h : ty σ H fun y H1 => td σ H1 fun x H2 => rNIn P w x y H2 Q) : tNIn P w ty td σ H Q := h
theorem x_nget {ty td : TE} {σ : L2.St} {H : Hp} {Q : VK} (h : td σ H fun x H1 => ty σ H1 fun y H2 => rNGet P w x y H2 Q) : tNGet P w td ty σ H Q := h
theorem x_nput {ty td tv : TE} {D : Ends} {σ : L2.St} {H : Hp} (h : tv σ H fun v H1 => td σ H1 fun x H2 => ty σ H2 fun y H3 => rNPut P w D σ v x y H3) : sNPut P w td ty tv D σ H := h
abbrev Or1 (F : Addr → Prop) (f : Addr) : Addr → Prop := fun a => F a ∨ a = f
/-- where the work at one key stands: the rows, the list of what is found -/
structure AJ (P : Program) (w : World) (l : Bool) (t : Tx) (F : Addr → Prop) (f tr : Addr) (H1 : Hp) (ws : NW) (k : K3) (H : Hp) (ws' : NW) (L : List (Nat × List Nat)) : Prop where
  x : ∀ a o, a ≠ f → a ≠ tr → H1 a = some o → H a = some o
  r : RowsOk P w l t (Or1 F f) H tr ws'
  n : ∀ e ∈ ws', e ∈ ws ∨ muK e.1 < muK k
  fd : ∃ ps : List Addr, H f = some (.lst (ps.map V.ref)) ∧ Paired (AltE (Or1 F f) H) ps L
  tf : tr ≠ f
section
variable {l : Bool} {t : Tx} {F : Addr → Prop} {f tr : Addr} {H1 H H' : Hp} {ws ws' ws2 : NW} {k : K3} {L : List (Nat × List Nat)}
/-- new objects, and the rows change -/
theorem AJ.step (J : AJ P w l t F f tr H1 ws k H ws' L) (s : SameX tr H H') (R : RowsOk P w l t (Or1 F f) H' tr ws2) (hn : ∀ e ∈ ws2, e ∈ ws' ∨ muK e.1 < muK k) : AJ P w l t F f tr H1 ws k H' ws2 L := by
  obtain ⟨ps, h1, h2⟩ := J.fd
  have se : SE H H' := SE.x s J.r.nd.o
  refine ⟨fun a o n1 n2 h => s _ _ n2 (J.x a o n1 n2 h), R, fun e he => ?_, ⟨ps, se _ _ ne_lst h1, Paired.imp (fun a kc q => q.kp se.tk se.lk) h2⟩, J.tf⟩
  rcases hn e he with q | q
  · exact J.n e q
  · exact .inr q
theorem AJ.new (J : AJ P w l t F f tr H1 ws k H ws' L) (s : Same H H') : AJ P w l t F f tr H1 ws k H' ws' L :=
  J.step (SameX.of s) (J.r.same s) fun e he => .inl he
/-- one more pair is found -/
theorem AJ.add (J : AJ P w l t F f tr H1 ws k H ws' L) {ps : List Addr} {q c : Addr} {kc : Nat × List Nat} (hf : H f = some (.lst (ps.map V.ref))) (hq : H q = some (.tup [.int (kc.1 : Nat), .ref c])) (hc : CutA H c kc.2) (nc : ¬ Or1 F f c) :
    AJ P w l t F f tr H1 ws k (upd H f (.lst (ps.map V.ref ++ [.ref q]))) ws' (L ++ [kc]) := by
  obtain ⟨ps', h1, h2⟩ := J.fd
  rw [hf] at h1
  have e : ps.map V.ref = ps'.map V.ref := by injection (Option.some.inj h1)
  rw [e]
  have tk : TK H (upd H f (.lst (ps'.map V.ref ++ [.ref q]))) := TK.upd hf fun xs h => nomatch h
  have lk : LK (Or1 F f) H (upd H f (.lst (ps'.map V.ref ++ [.ref q]))) := fun a xs n h => by rw [upd_ne (fun e => n (.inr e))]; exact h
  refine ⟨fun a o n1 n2 h => by rw [upd_ne n1]; exact J.x a o n1 n2 h, J.r.kp tk lk (upd_ne J.tf), J.n, ⟨ps' ++ [q], by rw [upd_same, List.map_append]; rfl, ?_⟩, J.tf⟩
  exact Paired.snoc' ⟨c, nc, tk _ _ hq, lk _ _ nc hc⟩ (Paired.imp (fun a kc h => h.kp tk lk) h2)
end
theorem ok_alt (T : TX K mg) (G_Table_allowed : FnOk P w K mg base CX0 1 T.f_Table_allowed T.d_Table_allowed ["self", "key"] (spAll T.C_Table T.C_Spans))
    (G_Table_kid_keys : FnOk P w K mg base CX0 1 T.f_Table_kid_keys T.d_Table_kid_keys ["self", "k", "cuts"] (spKid T.C_Table T.C_Spans))
    (G_cuts_of : FnOk P w K mg base CX0 6 T.f_cuts_of T.d_cuts_of ["spans", "symbols", "start", "end"] (spCuts T.C_Spans 5)) :
    ∀ n, FnOk P w K mg base CX0 (n + 7) T.f_Table_alternatives T.d_Table_alternatives ["self", "key"] (spAlt P w T.C_Table T.C_Spans n) := by
  intro n
  induction n with
  | zero =>
    refine T.F_Table_alternatives.ok sc_Table_alternatives (fun vs H Q E h => ?_) (fun cdv A outer s H vs Q E hr h => ?_)
    · obtain ⟨tb, tr, fl, g, kp, z, l, ad, S, k, F, ws, rfl, _⟩ := h
      rfl
    · obtain ⟨tb, tr, fl, g, kp, z, l, ad, S, k, F, ws, rfl, _, _, _, _, _, hm, _⟩ := h
      omega
  | succ n ih =>
  have G_Table_alternatives := ih
  refine T.F_Table_alternatives.ok sc_Table_alternatives (fun vs H Q E h => ?_) (fun cdv A outer s H vs Q E hr h => ?_)
  · obtain ⟨tb, tr, fl, g, kp, z, l, ad, S, k, F, ws, rfl, _⟩ := h
    rfl
  obtain ⟨tb, tr, fl, g, kp, z, l, ad, S, key, F, ws, rfl, B, hFn, R, hkp, hko, hmu, k⟩ := h
  refine ⟨_, (pss_cons (ps_if (pt_cmp (knin P w (hN_of hr) (pv 1) (kfld K (pv 0) rfl)))
  (pss_one (ps_ret (knget P w (hN_of hr) (kfld K (pv 0) rfl) (pv 1) (fun _ _ => rfl))))
  pss_nil)
  (pss_cons (ps_asg (pv 1) (kpg_tup K 4 rfl (pgs_cons (pg_name (i := 2) sc_Table_alternatives.nd rfl (Or.inl rfl)) (pgs_cons (pg_name (i := 3) sc_Table_alternatives.nd rfl (Or.inl rfl)) (pgs_cons (pg_name (i := 4) sc_Table_alternatives.nd rfl (Or.inl rfl)) (pgs_cons (pg_name (i := 5) sc_Table_alternatives.nd rfl (Or.inl rfl)) pgs_nil))))))
  (pss_cons (ps_set (i := 6) sc_Table_alternatives.nd rfl (Or.inl rfl) (pe_lst pa_nil))
  (pss_cons (ps_if (pt_val (pe_meth (pv 0) T.cl_Table T.me_Table_allowed G_Table_allowed (hr.mono (by omega)) T.b_Table_allowed .nil pass0 (pa_cons (pv 1) pa_nil)))
  (pss_one (ps_for PassesOwn.never rfl (kpi_list K (pe_dget2 (hu_of hr) (kfld K (kfld K (pv 0) rfl) rfl) (pv 2) (pe_lst pa_nil) ⟨rfl, rfl, rfl, rfl⟩)) (pg_name (i := 7) sc_Table_alternatives.nd rfl (Or.inl rfl))
  (pss_cons (ps_if (pt_cmpR (kin_seq K) (pv 7) (pv 5) rfl)
  (pss_one ps_continue)
  pss_nil)
  (pss_one (ps_for PassesOwn.never rfl (kpi_list K (pe_call G_cuts_of (hr.mono (by omega)) (by rfl) T.m_cuts_of T.F_cuts_of.kp T.b_cuts_of .nil pass0 (pa_cons (kfld K (pv 0) rfl) (pa_cons (pe_ix (kx_tup K) (pe_ix (kx_list K) (pe_ix (kx_tup K) (kfld K (pv 0) rfl) pe_int (fun _ _ => rfl)) (pv 7) (fun _ _ => rfl)) pe_int (fun _ _ => rfl)) (pa_cons (pv 3) (pa_cons (pv 4) pa_nil)))))) (pg_name (i := 8) sc_Table_alternatives.nd rfl (Or.inl rfl))
  (pss_cons (ps_setLc (i := 9) (own := [("kid", 12)]) (by rfl) sc_Table_alternatives.nd rfl rfl (sw_true rfl rfl rfl (by decide +kernel)) (kpi_list K (pe_meth (pv 0) T.cl_Table T.me_Table_kid_keys G_Table_kid_keys (hr.mono (by omega)) T.b_Table_kid_keys .nil pass0 (pa_cons (pv 7) (pa_cons (pv 8) pa_nil)))) (blkOk_by (N := ["self", "key", "name", "start", "end", "bans", "found", "k", "cuts", "kids", "there", "worse", "kid", "_", "row", "pair"]) (sc := (defScope s_Table_alternatives)) (by decide +kernel)) (fun _ _ _ _ _ => (pg_name (i := 12) sc_Table_alternatives.nd rfl (Or.inl rfl))) (fun _ _ _ _ _ => (pts_one (pt_cmpR or_notN (pv 12) pe_non (nomark _)))) (fun _ _ _ _ _ => (pv 12)))
  (pss_one (ps_if (pt_val (pe_callB (kc_all K rfl) (by rfl) T.z_all (by decide +kernel) (pa_cons (pe_lc (own := [("kid", 12)]) (by rfl) sc_Table_alternatives.nd (kpi_list K (pv 9)) (blkOk_by (N := ["self", "key", "name", "start", "end", "bans", "found", "k", "cuts", "kids", "there", "worse", "kid", "_", "row", "pair"]) (sc := (defScope s_Table_alternatives)) (by decide +kernel)) (fun _ _ _ _ _ => (pg_name (i := 12) sc_Table_alternatives.nd rfl (Or.inl rfl))) (fun _ _ _ _ _ => pts_nil) (fun _ _ _ _ _ => (pe_cmpR op_gt (pe_callB (kl_len K) (by rfl) T.z_len (by decide +kernel) (pa_cons (pe_meth (pv 0) T.cl_Table T.me_Table_alternatives G_Table_alternatives (hr.mono (by omega)) T.b_Table_alternatives .nil pass0 (pa_cons (pv 12) pa_nil)) pa_nil)) pe_int (nomark _)))) pa_nil)))
  (pss_one (ps_expr (kbm K (pe_bm PySem.F.plainAttrs_list PySem.F.slot_list_append PySem.F.type_list_append mt_append (pv 6) (pa_cons (pe_tup (pa_cons (pv 7) (pa_cons (pv 8) pa_nil))) pa_nil)))))
  pss_nil))))))))
  pss_nil)
  (pss_cons (ps_set (i := 10) sc_Table_alternatives.nd rfl (Or.inr rfl) (pe_dc (own := [("k", 7), ("_", 13)]) (by rfl) sc_Table_alternatives.nd (kpi_list K (pv 6)) (blkOk_by (N := ["self", "key", "name", "start", "end", "bans", "found", "k", "cuts", "kids", "there", "worse", "kid", "_", "row", "pair"]) (sc := (defScope s_Table_alternatives)) (by decide +kernel)) (fun _ _ _ _ _ => (kpg_tup K 2 rfl (pgs_cons (pg_name (i := 7) sc_Table_alternatives.nd rfl (Or.inl rfl)) (pgs_cons (pg_name (i := 13) sc_Table_alternatives.nd rfl (Or.inl rfl)) pgs_nil)))) (fun _ _ _ _ _ => pts_nil) (fun _ _ _ _ _ => (pv 7)) (fun _ _ _ _ _ => pe_bl)))
  (pss_cons (ps_set (i := 11) sc_Table_alternatives.nd rfl (Or.inr rfl) (pe_lc (own := [("row", 14)]) (by rfl) sc_Table_alternatives.nd (kpi_list K (kfld K (pv 0) rfl)) (blkOk_by (N := ["self", "key", "name", "start", "end", "bans", "found", "k", "cuts", "kids", "there", "worse", "kid", "_", "row", "pair"]) (sc := (defScope s_Table_alternatives)) (by decide +kernel)) (fun _ _ _ _ _ => (pg_name (i := 14) sc_Table_alternatives.nd rfl (Or.inl rfl))) (fun _ _ _ _ _ => (pts_one pt_never)) (fun _ _ _ _ _ => pe_never)))
  (pss_cons (knput P w (hN_of hr) (kfld K (pv 0) rfl) (pv 1) (pe_lc (own := [("pair", 15)]) (by rfl) sc_Table_alternatives.nd (kpi_list K (pv 6)) (blkOk_by (N := ["self", "key", "name", "start", "end", "bans", "found", "k", "cuts", "kids", "there", "worse", "kid", "_", "row", "pair"]) (sc := (defScope s_Table_alternatives)) (by decide +kernel)) (fun _ _ _ _ _ => (pg_name (i := 15) sc_Table_alternatives.nd rfl (Or.inl rfl))) (fun _ _ _ _ _ => (pts_one (pt_cmpR (knotin_seq K) (pe_ix (kx_tup K) (pv 15) pe_int (fun _ _ => rfl)) (pv 11) rfl))) (fun _ _ _ _ _ => (pv 15))) rfl)
  (pss_one (ps_ret (knget P w (hN_of hr) (kfld K (pv 0) rfl) (pv 1) (fun _ _ => rfl))))))))))), ?_⟩
  obtain ⟨cl, n1, n2, n3, n4⟩ := T.tbC
  obtain ⟨dx, hI⟩ := B.I
  have hF := B.F
  walk_at "go"
  refine x_nin ?_
  walk_at "go"
  refine ⟨tr, kp, ws, key, rfl, rfl, R.nd, hkp, ?_⟩
  walk_at "go"
  cases hv : ndV ws key with
  | some v =>
    refine iteT ?_
    walk_at "go"
    refine x_nget ?_
    walk_at "go"
    refine ⟨tr, kp, ws, key, v, rfl, rfl, R.nd, hkp, hv, ?_⟩
    obtain ⟨e, he, rfl, rfl⟩ := ndV_some hv
    obtain ⟨_, p, e2, h3⟩ := R.v e he
    rw [e2]
    exact k H p ws (fun _ _ _ h => h) R (fun e he => .inl he) h3
  | none =>
    refine iteF ?_
    obtain ⟨x, s, e⟩ := key
    obtain ⟨c0, hk1, hk2⟩ := id hkp
    simp only at hk1
    walk_at "go"
    refine ⟨Nat.zero_le _, fun f hf => ?_⟩
    walk_at "go"
    have s01 : Same H (upd H f (.lst [])) := Same.new hf
    have B1 := B.se (same_se s01)
    refine x_methR (s01 _ _ hI) rfl ?_
    walk_at "go"
    refine ⟨tb, tr, fl, g, kp, z, l, ad, S, (x, s, e), rfl, B1, hkp.tk (same_tk s01), ?_⟩
    walk_at "go"
    have hsp := B1.A.rep.gSp
    have hbn := B1.A.rep.gBn
    have hbl := B1.A.rep.gBl x
    dsimp only at hsp hbn hbl
    have cl' := T.spF.cl
    have nb4 := T.spF.n4
    walk_at "go"
    refine ⟨Nat.zero_le _, fun q0 hq0 => ?_⟩
    refine x_d2bK (look1 hbn hq0) ?_
    rw [valV_dk, if_pos (allN_all x)]
    walk_at "n"
    have s12 : Same (upd H f (.lst [])) (upd (upd H f (.lst [])) q0 (.lst [])) := Same.new hq0
    have hf2 : (upd (upd H f (.lst [])) q0 (.lst [])) f = some (.lst []) := s12 _ _ upd_same
    have s02 := s01.trans s12
    generalize upd (upd H f (.lst [])) q0 (.lst []) = H2 at s12 hf2 s02 ⊢
    have R2 : RowsOk P w l (tx z) (Or1 F f) H2 tr ws := (R.wide (F' := Or1 F f) fun a h hn => h.elim id fun e => absurd (by rw [e]; exact hf) hn).same s02
    have B2 := B.se (same_se s02)
    have hkp2 := hkp.tk (same_tk s02)
    have ntf : tr ≠ f := fun e => by have := R.nd.o; rw [e, hf] at this; cases this
    have hbl2 : H2 (ad (.bl x)) = _ := s12 _ _ hbl
    have nbf : ad (.bl x) ≠ f := fun e => by
      have h := B.A.rep.gBl x
      have h : H (ad (.bl x)) = _ := h
      rw [e, hf] at h; cases h
    have nbt : ad (.bl x) ≠ tr := fun e => by
      have h := R2.nd.o
      rw [← e, hbl2] at h; cases h
    have J0 : AJ P w l (tx z) F f tr H2 ws (x, s, e) H2 ws [] := ⟨fun _ _ _ _ h => h, R2, fun e he => .inl he, ⟨[], hf2, .nil⟩, ntf⟩
    have seJ : ∀ {H' ws' L}, AJ P w l (tx z) F f tr H2 ws (x, s, e) H' ws' L → ∀ a o, NE o → a ≠ f → H2 a = some o → H' a = some o := fun J a o n na h => J.x a o na (fun q => by rw [q, R2.nd.o] at h; exact n _ (Option.some.inj h).symm) h
    have seJ0 : ∀ {H' ws' L}, AJ P w l (tx z) F f tr H2 ws (x, s, e) H' ws' L → SE H H' := fun J a o n h => seJ J a o n (fun q => by rw [q, hf] at h; cases h) (s02 _ _ h)
    have hFJ : ∀ {H' ws' L}, AJ P w l (tx z) F f tr H2 ws (x, s, e) H' ws' L → ∀ a, Or1 F f a → H' a ≠ none := fun {H' ws' L} J a ha hn => by
      obtain ⟨ps, h1, _⟩ := J.fd
      rcases ha with ha | ha
      · by_cases c1 : a = tr
        · rw [c1, J.r.nd.o] at hn; cases hn
        · by_cases c2 : a = f
          · rw [c2, h1] at hn; cases hn
          · cases q : H a with
            | none => exact hFn a ha q
            | some o => rw [J.x a o c2 c1 (s02 _ _ q)] at hn; cases hn
      · rw [ha, h1] at hn; cases hn
    generalize hGk : (fun k => (cuts l (tx z) (syms l k) s e).map fun c => (k, c)) = Gk
    have halt : altK l (tx z) (x, s, e) = (byN x).flatMap Gk := by rw [← hGk]; rfl
    have t192 : (tx z).length ≤ 192 := by rw [← len_tx]; exact B.few
    have few4 : ((byN x).flatMap Gk).length ≤ 40000 := by rw [← halt]; exact alts_len l (tx z) t192 x s e
    have hs' : s ≤ z.length := by have := hko.1; have := hko.2; rw [← len_tx] at this; simp only at *; omega
    have he' : e ≤ z.length := by have := hko.2; rw [← len_tx] at this; exact this
    refine x_forLR (xs := (byN x).map fun r => V.int (r : Nat)) hbl2 (fun i σ H' => ∃ v7 v8 v9 ws', σ = [some (.ref tb), some (.ref kp), some (.str (nS x)), some (.int (s : Nat)), some (.int (e : Nat)), some (.ref c0), some (.ref f), v7, v8, v9, none, none, none, none, none, none] ∧ AJ P w l (tx z) F f tr H2 ws (x, s, e) H' ws' (((byN x).take i).flatMap Gk))
      ⟨none, none, none, ws, rfl, by simpa using J0⟩ (fun i σ H' _ ⟨_, _, _, _, _, J⟩ => seJ J _ _ ne_lst nbf hbl2) ?_ ?_
    · rintro i y σ H3 hi ⟨v7, v8, v9, ws3, rfl, J3⟩
      obtain ⟨r, hr', rfl⟩ : ∃ r, (byN x)[i]? = some r ∧ y = V.int (r : Nat) := by
        rw [List.getElem?_map] at hi
        obtain ⟨r, h1, h2⟩ := Option.map_eq_some_iff.mp hi
        exact ⟨r, h1, h2.symm⟩
      have hrb := List.mem_of_getElem? hr'
      have hr9 : r < 9 := (byN_left hrb).2
      have tm : ((byN x).take (i + 1)).flatMap Gk = ((byN x).take i).flatMap Gk ++ Gk r := by rw [take_more hr', List.flatMap_append]; simp
      have B3 := B.se (seJ0 J3)
      have hkp3 := hkp.tk (seJ0 J3).tk
      obtain ⟨rl, rvs, ra, sa, lab, g1, g2, g3, g4, g5⟩ := B3.G.rule hr9
      obtain ⟨dx3, hI3⟩ := B3.I
      have hc03 : H3 c0 = some (.tup []) := (seJ0 J3) _ _ ne_tup hk2
      walk_at "go"
      refine ⟨c0, [], rfl, .inr (SqT.of hc03), rfl, rfl, ?_⟩
      walk_at "go"
      refine iteF ?_
      have ixr : atI rvs (r : Int) = some (.ref ra) := g3
      walk_at "go"
      refine ⟨g, z, Emp, ad, S, sa, syms l r, s, e, l, rfl, B3.A, g5, B3.good, by have := syms_len l r; omega, hs', he', by have := B.few; omega, ntc_le l r, by have := syms_len l r; omega, fun H4 pc pcs s34 hpc hpcv hP => ?_⟩
      have J4 := J3.new s34
      have nf3 := hFJ J3
      have npf : pc ≠ f := fun e => nf3 f (.inr rfl) (by rw [← e]; exact hpc)
      have npt : pc ≠ tr := fun e => by have := J3.r.nd.o; rw [← e, hpc] at this; cases this
      have hGr : Gk r = (cuts l (tx z) (syms l r) s e).map fun c => (r, c) := by rw [← hGk]
      refine x_forLR hpcv (fun j σ H' => ∃ v8 v9 ws', σ = [some (.ref tb), some (.ref kp), some (.str (nS x)), some (.int (s : Nat)), some (.int (e : Nat)), some (.ref c0), some (.ref f), some (.int (r : Nat)), v8, v9, none, none, none, none, none, none] ∧
          AJ P w l (tx z) F f tr H2 ws (x, s, e) H' ws' (((byN x).take i).flatMap Gk ++ ((cuts l (tx z) (syms l r) s e).take j).map fun c => (r, c)) ∧ ∀ a o, a ≠ f → a ≠ tr → H4 a = some o → H' a = some o)
        ⟨v8, v9, ws3, rfl, by simpa using J4, fun _ _ _ _ h => h⟩ (fun j σ H' _ ⟨_, _, _, _, _, X⟩ => X _ _ npf npt hpcv) ?_ ?_
      · rintro j y σ H5 hj ⟨v8, v9, ws5, rfl, J5, X5⟩
        obtain ⟨pa, hpa, rfl⟩ : ∃ pa, pcs[j]? = some pa ∧ y = V.ref pa := by
          rw [List.getElem?_map] at hj
          obtain ⟨r, h1, h2⟩ := Option.map_eq_some_iff.mp hj
          exact ⟨r, h1, h2.symm⟩
        obtain ⟨cc, hcc, hpn, hcA⟩ := Paired.at' hP hpa
        have hcm := List.mem_of_getElem? hcc
        have hal : (r, cc) ∈ alts l (tx z) x s e := mem_alts.mpr ⟨hrb, hcm⟩
        have hlen := (cuts_spec hcm).1
        have nFp : ¬ Or1 F f pa := fun q => nf3 pa q hpn
        have npat : pa ≠ tr := fun e => by have := J3.r.nd.o; rw [← e, hpn] at this; cases this
        have hcA5 : CutA H5 pa cc := X5 _ _ (fun e => nFp (.inr e)) npat hcA
        have B5 := B.se (seJ0 J5)
        obtain ⟨dx5, hI5⟩ := B5.I
        walk_at "go"
        refine x_methR hI5 rfl ?_
        walk_at "go"
        refine ⟨tb, tr, fl, g, pa, z, l, ad, S, r, cc, rfl, B5, hr9, hcA5, hlen, fun H6 pk vk s56 hpk hpkv hK => ?_⟩
        have kl := kidL_len hlen
        have vkl : vk.length ≤ 4 := by rw [Paired.length hK, kl]; exact syms_len l r
        walk_at "go"
        refine x_lcP hpkv (fun j => (vk.take j).filter fun v => !decide (v = .non)) (by simp) (fun i hi => ?_) (fun i y H7 N1 N2 hy s7 k1 k2 => ?_) (fun D H7 s67 hD hDv => ?_)
        · have := List.length_filter_le (fun v => !decide (v = V.non)) (vk.take i)
          rw [List.length_take] at this
          omega
        · have tm := take_more hy
          unfold LcTurn
          walk_at "go"
          refine ⟨rfl, ?_⟩
          walk_at "go"
          by_cases c : y = .non
          · rw [decide_eq_true c]
            refine iteF ?_
            refine k2 _ (Same.refl _) ?_
            rw [tm, List.filter_append]
            simp [c]
          · rw [decide_eq_false c]
            refine iteT ?_
            walk_at "go"
            refine k1 _ _ (Same.refl _) ?_
            rw [tm, List.filter_append]
            simp [c]
        rw [List.take_length] at hDv
        have s57 := s56.trans s67
        have J7 := J5.new s57
        generalize hvf : (vk.filter fun v => !decide (v = .non)) = vf at hDv
        have vfl : vf.length ≤ 4 := by rw [← hvf]; exact Nat.le_trans (List.length_filter_le _ _) vkl
        have kidf : ∀ v ∈ vf, ∃ b kk, v = .ref b ∧ NKAt H7 b kk ∧ some kk ∈ kidL (syms l r) cc := fun v hv => by
          rw [← hvf] at hv
          obtain ⟨h1, h2⟩ := List.mem_filter.mp hv
          obtain ⟨i, hi⟩ := List.mem_iff_getElem?.mp h1
          obtain ⟨o, ho, ko⟩ := Paired.at' hK hi
          cases o with
          | none => have ko : v = .non := ko
                    rw [ko] at h2; simp at h2
          | some kk =>
            obtain ⟨b, e1, e2⟩ := ko
            exact ⟨b, kk, e1, e2.tk (same_tk s67), List.mem_of_getElem? ho⟩
        walk_at "go"
        refine x_lcG hDv (fun D2 j H' => ∃ ws', (∀ a o, a ≠ tr → a ≠ D2 → H7 a = some o → H' a = some o) ∧ RowsOk P w l (tx z) (Or1 (Or1 F f) D2) H' tr ws' ∧ (∀ u ∈ ws', u ∈ ws5 ∨ muK u.1 < muK (x, s, e)) ∧ H' D2 = some (.lst (List.replicate j (.bl true))) ∧ D2 ≠ tr ∧ D2 ≠ D)
          (fun j => List.replicate j (.bl true)) rfl (fun i hi => by rw [List.length_replicate]; omega) (fun D2 hD2 => ?_) (fun D2 j H' ⟨ws', q1, q2, q3, q4, q5, q6⟩ => ?_) (fun D2 j y H8 N1 N2 hD2 hy ⟨ws8, q1, q2, q3, q4, q5, q6⟩ k1 k2 => ?_) (fun D2 H8 hD2 ⟨ws8, q1, q2, q3, q4, q5, q6⟩ => ?_)
        · refine ⟨ws5, fun a o _ n h => by rw [upd_ne n]; exact h, ?_, fun e he => .inl he, upd_same, (fun e => by have := J7.r.nd.o; rw [← e, hD2] at this; cases this), (fun e => by rw [← e, hD2] at hDv; cases hDv)⟩
          exact (J7.r.wide (F' := Or1 (Or1 F f) D2) fun a h hn => h.elim id fun e => absurd (by rw [e]; exact hD2) hn).same (Same.new hD2)
        · exact ⟨q1 _ _ (fun e => by have := J7.r.nd.o; rw [← e, hDv] at this; cases this) (fun e => q6 e.symm) hDv, q4⟩
        · obtain ⟨b, kk, rfl, hb, hkk⟩ := kidf y (List.mem_of_getElem? hy)
          obtain ⟨xk, ak, bk⟩ := kk
          obtain ⟨e1, e2, e3, e4, e5⟩ := kid_of hal hkk
          have se78 : SE H7 H8 := fun a o n h => q1 a o (fun e => by have := J7.r.nd.o; rw [← e, h] at this; exact n _ (Option.some.inj this)) (fun e => by rw [e, hD2] at h; cases h) h
          have B8 := (B.se (seJ0 J7)).se se78
          have hb8 := hb.tk se78.tk
          obtain ⟨dx8, hI8⟩ := B8.I
          unfold LcTurn
          walk_at "go"
          refine ⟨rfl, ?_⟩
          walk_at "go"
          refine x_methR hI8 rfl ?_
          walk_at "go"
          refine ⟨tb, tr, fl, g, b, z, l, ad, S, (xk, ak, bk), Or1 (Or1 F f) D2, ws8, rfl, B8, fun a ha hn => ?_, q2, hb8, ⟨e4, Nat.le_trans e3 hko.2⟩, ?_, fun H9 p9 ws9 X9 R9 hn9 hA9 => ?_⟩
          · rcases ha with ha | ha
            · have h7 := hFJ J7 a ha
              cases q : H7 a with
              | none => exact h7 q
              | some o =>
                by_cases c1 : a = tr
                · rw [c1, q2.nd.o] at hn; cases hn
                · rw [q1 a o c1 (fun e => by rw [e, hD2] at q; cases q) q] at hn; cases hn
            · rw [ha, q4] at hn; cases hn
          · show mu xk ak bk < n
            have : mu x s e < n + 1 := hmu
            omega
          · obtain ⟨np9, ps9, hp9, hP9⟩ := id hA9
            have lp9 : 0 < (ps9.map V.ref).length := by
              rw [List.length_map, Paired.length hP9]
              exact List.length_pos_iff.mpr (alts_ne e1)
            walk_at "go"
            rw [decide_eq_true (show (0 : Int) < ((ps9.map V.ref).length : Nat) by omega)]
            have q4' : H9 D2 = some (.lst (List.replicate j (.bl true))) := X9 _ _ q5 q4
            have tk : TK H9 (upd H9 D2 (.lst (List.replicate j (.bl true) ++ [.bl true]))) := TK.upd q4' fun xs h => nomatch h
            refine k1 _ _ q4' ⟨ws9, fun a o n1 n2 h => by rw [upd_ne n2]; exact X9 _ _ n1 (q1 a o n1 n2 h), R9.kp tk (fun a xs n h => by rw [upd_ne (fun e => n (.inr e))]; exact h) (upd_ne (fun e => q5 e.symm)), fun u hu => ?_, ?_, q5, q6⟩
            · rcases hn9 u hu with h | h
              · exact q3 u h
              · refine .inr (Nat.lt_of_le_of_lt h ?_)
                exact e5
            · rw [upd_same, List.replicate_succ']
        · have X78 : SameX tr H7 H8 := fun a o n h => q1 a o n (fun e => by rw [e, hD2] at h; cases h) h
          have J8 := J7.step X78 (q2.wide (F' := Or1 F f) fun a h _ => .inl h) q3
          walk_at "go"
          refine x_all (bs := List.replicate vf.length true) (by rw [List.map_replicate]; exact q4) ?_
          walk_at "go"
          rw [show (List.replicate vf.length true).all id = true by simp]
          refine iteT ?_
          have X48 : ∀ a o, a ≠ f → a ≠ tr → H4 a = some o → H8 a = some o := fun a o n1 n2 h => X78 _ _ n2 (s57 _ _ (X5 _ _ n1 n2 h))
          obtain ⟨ps8, h8, _⟩ := J8.fd
          walk_at "go"
          refine ⟨by show 2 ≤ sizeLine; decide, fun qq hqq => ?_⟩
          have J9 := J8.new (Same.new (o := .tup [.int (r : Nat), .ref pa]) hqq)
          obtain ⟨ps, h1, h2⟩ := J9.fd
          have cA9 : CutA (upd H8 qq (.tup [.int (r : Nat), .ref pa])) pa cc := look1 (X48 _ _ (fun e => nFp (.inr e)) npat hcA) hqq
          have J10 := J9.add (kc := (r, cc)) h1 upd_same cA9 nFp
          walk_at "go"
          refine x_append h1 ?_ ?_
          · rw [List.length_map, Paired.length h2]
            refine small_ (Nat.le_trans ?_ (show 40000 ≤ 100000 by decide))
            refine Nat.le_trans ?_ few4
            have pre : ((byN x).take i).flatMap Gk ++ ((cuts l (tx z) (syms l r) s e).take j).map (fun c => (r, c)) <+: (byN x).flatMap Gk := by
              refine List.IsPrefix.trans ?_ (show ((byN x).take (i + 1)).flatMap Gk <+: _ from ?_)
              · rw [tm, hGr]
                exact (List.prefix_append_right_inj _).mpr ((List.take_prefix j _).map _)
              · refine ⟨((byN x).drop (i + 1)).flatMap Gk, ?_⟩
                rw [← List.flatMap_append, List.take_append_drop]
            exact pre.length_le
          · refine ⟨_, _, ws8, rfl, ?_, fun a o n1 n2 h => ?_⟩
            · rw [take_more hcc, List.map_append, ← List.append_assoc]
              exact J10
            · rw [upd_ne n1]
              exact look1 (X48 _ _ n1 n2 h) hqq
      · rintro σ H5 ⟨v8, v9, ws5, rfl, J5, X5⟩
        rw [List.length_map, Paired.length hP, List.take_length, ← hGr, ← tm] at J5
        exact ⟨_, _, _, _, rfl, J5⟩
    · rintro σ H3 ⟨v7, v8, v9, ws3, rfl, J3⟩
      rw [List.length_map, List.take_length] at J3
      obtain ⟨ps, hf3, hP3⟩ := J3.fd
      have psl : ps.length ≤ 40000 := by rw [Paired.length hP3]; exact few4
      walk_at "go"
      refine x_dcL hf3 (by rw [List.length_map]; exact small_ (by omega)) (fun R q => ?_) (fun i y H4 N Nf hy s4 go => ?_) (fun D H4 s4 hD => ?_)
      · walk_at "go"
        exact q
      · obtain ⟨pa, hpa, rfl⟩ : ∃ pa, ps[i]? = some pa ∧ y = V.ref pa := by
          rw [List.getElem?_map] at hy
          obtain ⟨r, h1, h2⟩ := Option.map_eq_some_iff.mp hy
          exact ⟨r, h1, h2.symm⟩
        obtain ⟨kc, hkc, c, _, q2, _⟩ := Paired.at' hP3 hpa
        have q2' := s4 _ _ q2
        walk_at "go"
        refine ⟨rfl, ?_⟩
        walk_at "go"
        exact go (.inl (kc.1 : Nat)) _ _ (Same.refl _)
      have J4 := J3.new s4
      have B4 := B.se (seJ0 J4)
      obtain ⟨dx4, hI4⟩ := B4.I
      have hF4 := B4.F
      walk_at "go"
      refine x_lcP hF4 (fun _ => []) rfl (fun _ h => by simp at h) (fun i x H3 N1 N2 hx => by simp at hx) (fun D5 H5 s5 hD5 hDv5 => ?_)
      have J5 := J4.new s5
      have B5 := B.se (seJ0 J5)
      have hkp5 := hkp.tk (seJ0 J5).tk
      obtain ⟨dx5, hI5⟩ := B5.I
      have hf5 := s5 _ _ (s4 _ _ hf3)
      walk_at "go"
      refine x_nput ?_
      walk_at "go"
      refine x_lcP hf5 (fun j => (ps.map V.ref).take j) (by simp) (fun j hj => by rw [List.length_take, List.length_map]; omega) (fun i y H6 N1 N2 hy s6 k1 k2 => ?_) (fun D6 H6 s6 hD6 hDv6 => ?_)
      · have tm := take_more hy
        obtain ⟨pa, hpa, rfl⟩ : ∃ pa, ps[i]? = some pa ∧ y = V.ref pa := by
          rw [List.getElem?_map] at hy
          obtain ⟨r, h1, h2⟩ := Option.map_eq_some_iff.mp hy
          exact ⟨r, h1, h2.symm⟩
        obtain ⟨kc, hkc, c, _, q2, _⟩ := Paired.at' hP3 hpa
        have q2' := s6 _ _ (s5 _ _ (s4 _ _ q2))
        have hDv6 := s6 _ _ hDv5
        unfold LcTurn
        walk_at "go"
        refine ⟨rfl, ?_⟩
        walk_at "go"
        refine x_in hDv6 rfl rfl ?_
        rw [if_pos rfl]
        walk_at "go"
        refine iteT ?_
        walk_at "go"
        exact k1 _ _ (Same.refl _) tm
      rw [List.take_length] at hDv6
      have J6 := J5.new s6
      have B6 := B.se (seJ0 J6)
      have hkp6 := hkp.tk (seJ0 J6).tk
      obtain ⟨dx6, hI6⟩ := B6.I
      have s46 : Same H4 H6 := s5.trans s6
      have J3D : ¬ Or1 F f D6 := fun q => hFJ J5 D6 q hD6
      have nk : ndV ws3 (x, s, e) = none := ndV_none fun u hu q => by
        rcases J6.n u hu with h | h
        · have h9 := hv
          unfold ndV at h9
          have h9 := Option.map_eq_none_iff.mp h9
          rw [List.find?_eq_none] at h9
          exact h9 u h (by simpa using q)
        · rw [q] at h; exact Nat.lt_irrefl _ h
      walk_at "go"
      refine ⟨tr, kp, ws3, (x, s, e), rfl, rfl, J6.r.nd, hkp6, nk, rows_few J6.r t192, ?_⟩
      have tk7 : TK H6 (upd H6 tr (NdO P w tr (ws3 ++ [((x, s, e), kp, V.ref D6)]))) := TK.upd J6.r.nd.o fun xs h => nomatch h
      have lk7 : ∀ {F' : Addr → Prop}, LK F' H6 (upd H6 tr (NdO P w tr (ws3 ++ [((x, s, e), kp, V.ref D6)]))) := fun {F'} a xs n h => by
        rw [upd_ne (fun e => by rw [e, J6.r.nd.o] at h; cases h)]; exact h
      have hA6 : AltA F H6 D6 (altK l (tx z) (x, s, e)) := by
        refine ⟨fun q => J3D (.inl q), ps, hDv6, ?_⟩
        rw [halt]
        exact Paired.imp (fun a kc h => (h.kp (same_tk ((s4.trans s46))) (same_se (s4.trans s46)).lk).wide (fun a q _ => .inl q)) hP3
      have hA7 := hA6.kp tk7 lk7
      have hkp7 := hkp6.tk tk7
      have R7 : RowsOk P w l (tx z) F (upd H6 tr (NdO P w tr (ws3 ++ [((x, s, e), kp, V.ref D6)]))) tr (ws3 ++ [((x, s, e), kp, V.ref D6)]) := by
        refine ⟨⟨upd_same, fun u hu => ?_⟩, fun u hu => ?_, ?_⟩
        · rcases List.mem_append.mp hu with h | h
          · exact (J6.r.nd.k u h).tk tk7
          · have : u = ((x, s, e), kp, V.ref D6) := by simpa using h
            subst this; exact hkp7
        · rcases List.mem_append.mp hu with h | h
          · obtain ⟨v1, p, v2, v3⟩ := J6.r.v u h
            exact ⟨v1, p, v2, (v3.wide (fun a q _ => .inl q)).kp tk7 lk7⟩
          · have : u = ((x, s, e), kp, V.ref D6) := by simpa using h
            subst this; exact ⟨hko, D6, rfl, hA7⟩
        · rw [List.map_append]
          refine List.nodup_append.mpr ⟨J6.r.nodup, by simp, fun a ha b hb e9 => ?_⟩
          have hb : b = (x, s, e) := by simpa using hb
          subst hb; subst e9
          obtain ⟨u, hu, eu⟩ := List.mem_map.mp ha
          unfold ndV at nk
          have h9 := Option.map_eq_none_iff.mp nk
          rw [List.find?_eq_none] at h9
          exact h9 u hu (by simpa using eu)
      have hI7 : (upd H6 tr (NdO P w tr (ws3 ++ [((x, s, e), kp, V.ref D6)]))) tb = some (.ins T.C_Table dx6 (tbF g fl (ad .sp) tr)) := by
        rw [upd_ne (fun e => by have := J6.r.nd.o; rw [← e, hI6] at this; cases this)]; exact hI6
      walk_at "go"
      refine x_nget ?_
      walk_at "go"
      refine ⟨tr, kp, ws3 ++ [((x, s, e), kp, V.ref D6)], (x, s, e), V.ref D6, rfl, rfl, R7.nd, hkp7, ndV_last nk, ?_⟩
      refine k _ D6 (ws3 ++ [((x, s, e), kp, V.ref D6)]) (fun a o n h => ?_) R7 (fun u hu => ?_) hA7
      · rw [upd_ne n]
        exact J6.x a o (fun e => by rw [e, hf] at h; cases h) n (s02 _ _ h)
      · rcases List.mem_append.mp hu with h | h
        · rcases J6.n u h with h | h
          · exact .inl h
          · exact .inr (Nat.le_of_lt h)
        · have : u = ((x, s, e), kp, V.ref D6) := by simpa using h
          subst this; exact .inr (Nat.le_refl _)
end
section
variable {P : Program} {w : World} {K : PySem.W.Frag} {mg : Str → Option Value} {base : Heap}
noncomputable def cntK (l : Bool) (t : Tx) (k : K3) : Nat := cntT l t k.1 k.2.1 k.2.2
structure KnOk (P : Program) (w : World) (l : Bool) (t : Tx) (H : Hp) (kn : Addr) (vs : NW) : Prop where
  nd : NdAt P w H kn vs
  v : ∀ e ∈ vs, KOk t.length e.1 ∧ e.2.2 = .int (cntK l t e.1 : Nat)
  nodup : (vs.map (·.1)).Nodup
theorem KnOk.kp {l t H H' kn vs} (R : KnOk P w l t H kn vs) (k : TK H H') (h : H' kn = H kn) : KnOk P w l t H' kn vs :=
  ⟨⟨by rw [h]; exact R.nd.o, fun e he => (R.nd.k e he).tk k⟩, R.v, R.nodup⟩
theorem kn_few {l t H kn vs} (R : KnOk P w l t H kn vs) (hn : t.length ≤ 192) : vs.length < sizeLine := by
  have h := nodup_len (l := vs.map (·.1)) (m := allN.flatMap fun x => (List.range 193).flatMap fun s => (List.range 193).map fun e => (x, s, e)) R.nodup fun k hk => by
    obtain ⟨⟨⟨x, s, e⟩, b, v⟩, he, rfl⟩ := List.mem_map.mp hk
    obtain ⟨b1, b2⟩ := (R.v _ he).1
    simp only at b1 b2
    exact List.mem_flatMap.mpr ⟨x, allN_all _, List.mem_flatMap.mpr ⟨s, List.mem_range.mpr (by omega), List.mem_map.mpr ⟨e, List.mem_range.mpr (by omega), rfl⟩⟩⟩
  rw [List.length_map] at h
  refine Nat.lt_of_le_of_lt (Nat.le_trans h (flat_len _ 37249 _ fun x _ => ?_)) (by decide)
  refine Nat.le_trans (flat_len _ 193 _ fun s _ => ?_) (by decide)
  rw [List.length_map, List.length_range]; exact Nat.le_refl _
/-- all but two objects stand -/
def SX (tr kn : Addr) (H H' : Hp) : Prop := ∀ a o, a ≠ tr → a ≠ kn → H a = some o → H' a = some o
theorem SX.se {tr kn : Addr} {H H' : Hp} {φ ψ : Heap → Prop} (s : SX tr kn H H') (h : H tr = some (.ext φ)) (h' : H kn = some (.ext ψ)) : SE H H' := fun a o n q =>
  s a o (fun e => by rw [e, h] at q; exact n φ (Option.some.inj q).symm) (fun e => by rw [e, h'] at q; exact n ψ (Option.some.inj q).symm) q
theorem SX.trans {tr kn : Addr} {H H1 H2 : Hp} (a : SX tr kn H H1) (b : SX tr kn H1 H2) : SX tr kn H H2 := fun x o n m h => b x o n m (a x o n m h)
/-- where the counting stands -/
structure CJ (P : Program) (w : World) (l : Bool) (t : Tx) (F : Addr → Prop) (tr kn : Addr) (H0 : Hp) (vs : NW) (m : Nat) (H : Hp) (ws' vs' : NW) : Prop where
  x : SX tr kn H0 H
  r : RowsOk P w l t F H tr ws'
  k : KnOk P w l t H kn vs'
  n : ∀ e ∈ vs', e ∈ vs ∨ muK e.1 < m
  d : tr ≠ kn
section
variable {l : Bool} {t : Tx} {F : Addr → Prop} {tr kn : Addr} {H0 H H' : Hp} {vs ws' vs' ws2 vs2 : NW} {m : Nat}
theorem CJ.se (J : CJ P w l t F tr kn H0 vs m H ws' vs') (h : ∃ φ, H0 tr = some (.ext φ)) (h' : ∃ φ, H0 kn = some (.ext φ)) : SE H0 H := by
  obtain ⟨φ, h⟩ := h
  obtain ⟨ψ, h'⟩ := h'
  exact J.x.se h h'
theorem CJ.new (J : CJ P w l t F tr kn H0 vs m H ws' vs') (s : Same H H') : CJ P w l t F tr kn H0 vs m H' ws' vs' :=
  ⟨fun a o n1 n2 h => s _ _ (J.x a o n1 n2 h), J.r.same s, J.k.kp (same_tk s) (by rw [J.k.nd.o]; exact s _ _ J.k.nd.o), J.n, J.d⟩
theorem CJ.step (J : CJ P w l t F tr kn H0 vs m H ws' vs') (s : SX tr kn H H') (R : RowsOk P w l t F H' tr ws2) (k : KnOk P w l t H' kn vs2) (hn : ∀ e ∈ vs2, e ∈ vs' ∨ muK e.1 < m) : CJ P w l t F tr kn H0 vs m H' ws2 vs2 :=
  ⟨J.x.trans s, R, k, fun e he => (hn e he).elim (J.n e) .inr, J.d⟩
end
theorem prd_snoc (ns : List Nat) (n : Nat) : prd (ns ++ [n]) = prd ns * n := by simp [prd, List.foldl_append]
noncomputable def termK (l : Bool) (t : Tx) (kc : Nat × List Nat) : Nat := prd ((kidL (syms l kc.1) kc.2).map (szO (cntT l t)))
theorem prd_small {l : Bool} {t : Tx} {x : NT} {s e k : Nat} {c : List Nat} (ht : t.length ≤ 192) (he : e ≤ t.length) (h : (k, c) ∈ alts l t x s e) (j : Nat) : prd (((kidL (syms l k) c).take j).map (szO (cntT l t))) < 2 ^ 6200 := by
  have wk := wt_kids h
  refine Nat.lt_of_le_of_lt (prd_le _ _ fun o ho => szO_le l t _ o fun x' a b _ => cnt_le l t ht _ x' a b) (Nat.pow_lt_pow_right (by decide) ?_)
  have h1 : (((kidL (syms l k) c).take j).map wtO).sum ≤ ((kidL (syms l k) c).map wtO).sum := by
    have e := List.take_append_drop j (kidL (syms l k) c)
    calc (((kidL (syms l k) c).take j).map wtO).sum ≤ (((kidL (syms l k) c).take j).map wtO).sum + (((kidL (syms l k) c).drop j).map wtO).sum := Nat.le_add_right _ _
      _ = ((kidL (syms l k) c).map wtO).sum := by rw [← List.sum_append, ← List.map_append, e]
  have h2 : wt8 x s e ≤ 770 := by cases x <;> simp only [wt8] <;> omega
  omega
def spCnt (P : Program) (w : World) (C Cs : Addr) (n : Nat) : Sp := fun vs H Q _ => ∃ (tb tr fl g kp kn : Addr) (z : Str) (l : Bool) (ad : Role → Addr) (S : SS) (k : K3) (F : Addr → Prop) (ws us : NW), vs = [.ref tb, .ref kp, .ref kn] ∧ TbA C Cs H tb tr fl g z l ad S ∧ (∀ a, F a → H a ≠ none) ∧
  RowsOk P w l (tx z) F H tr ws ∧ KnOk P w l (tx z) H kn us ∧ tr ≠ kn ∧ NKAt H kp k ∧ KOk (tx z).length k ∧ muK k < n ∧
  ∀ H' ws' us', SX tr kn H H' → RowsOk P w l (tx z) F H' tr ws' → KnOk P w l (tx z) H' kn us' → (∀ e ∈ us', e ∈ us ∨ muK e.1 ≤ muK k) → Q (.int (cntK l (tx z) k : Nat)) H'
theorem ok_counted (T : TX K mg) (G_Table_kid_keys : FnOk P w K mg base CX0 1 T.f_Table_kid_keys T.d_Table_kid_keys ["self", "k", "cuts"] (spKid T.C_Table T.C_Spans))
    (G_alt : ∀ n, FnOk P w K mg base CX0 (n + 7) T.f_Table_alternatives T.d_Table_alternatives ["self", "key"] (spAlt P w T.C_Table T.C_Spans n)) :
    ∀ n, FnOk P w K mg base CX0 (n + 8) T.f_counted T.d_counted ["table", "key", "known"] (spCnt P w T.C_Table T.C_Spans n) := by
  intro n
  induction n with
  | zero =>
    refine T.F_counted.ok sc_counted (fun vs H Q E h => ?_) (fun cdv A outer s H vs Q E hr h => ?_)
    · obtain ⟨tb, tr, fl, g, kp, kn, z, l, ad, S, k, F, ws, us, rfl, _⟩ := h
      rfl
    · obtain ⟨tb, tr, fl, g, kp, kn, z, l, ad, S, k, F, ws, us, rfl, _, _, _, _, _, _, _, hm, _⟩ := h
      omega
  | succ n ih =>
  have G_counted := ih
  have G_Table_alternatives := G_alt (n + 1)
  refine T.F_counted.ok sc_counted (fun vs H Q E h => ?_) (fun cdv A outer s H vs Q E hr h => ?_)
  · obtain ⟨tb, tr, fl, g, kp, kn, z, l, ad, S, k, F, ws, us, rfl, _⟩ := h
    rfl
  obtain ⟨tb, tr, fl, g, kp, kn, z, l, ad, S, key, F, ws, us, rfl, B, hFn, R, Kn, htk, hkp, hko, hmu, k⟩ := h
  refine ⟨_, (pss_cons (ps_if (pt_cmp (knin P w (hN_of hr) (pv 1) (pv 2)))
  (pss_one (ps_ret (knget P w (hN_of hr) (pv 2) (pv 1) (fun _ _ => rfl))))
  pss_nil)
  (pss_cons (ps_set (i := 3) sc_counted.nd rfl (Or.inl rfl) pe_int)
  (pss_cons (ps_for PassesOwn.never rfl (kpi_list K (pe_meth (pv 0) T.cl_Table T.me_Table_alternatives G_Table_alternatives (hr.mono (by omega)) T.b_Table_alternatives .nil pass0 (pa_cons (pv 1) pa_nil))) (kpg_tup K 2 rfl (pgs_cons (pg_name (i := 4) sc_counted.nd rfl (Or.inl rfl)) (pgs_cons (pg_name (i := 5) sc_counted.nd rfl (Or.inl rfl)) pgs_nil)))
  (pss_cons (ps_set (i := 6) sc_counted.nd rfl (Or.inl rfl) pe_int)
  (pss_cons (ps_for PassesOwn.never rfl (kpi_list K (pe_meth (pv 0) T.cl_Table T.me_Table_kid_keys G_Table_kid_keys (hr.mono (by omega)) T.b_Table_kid_keys .nil pass0 (pa_cons (pv 4) (pa_cons (pv 5) pa_nil)))) (pg_name (i := 7) sc_counted.nd rfl (Or.inl rfl))
  (pss_one (ps_if (pt_cmpR or_notN (pv 7) pe_non (nomark _))
  (pss_one (ps_set (i := 6) sc_counted.nd rfl (Or.inl rfl) (pe_op op_mulW (pv 6) (pe_call G_counted (hr.mono (by omega)) (by rfl) T.m_counted T.F_counted.kp T.b_counted .nil pass0 (pa_cons (pv 0) (pa_cons (pv 7) (pa_cons (pv 2) pa_nil)))))))
  pss_nil)))
  (pss_one (ps_set (i := 3) sc_counted.nd rfl (Or.inl rfl) (pe_op op_add (pv 3) (pv 6)))))))
  (pss_cons (knput P w (hN_of hr) (pv 2) (pv 1) (pv 3) rfl)
  (pss_one (ps_ret (pv 3))))))), ?_⟩
  obtain ⟨cl, n1, n2, n3, n4⟩ := T.tbC
  obtain ⟨dx, hI⟩ := B.I
  walk_at "go"
  refine x_nin ?_
  walk_at "go"
  refine ⟨kn, kp, us, key, rfl, rfl, Kn.nd, hkp, ?_⟩
  walk_at "go"
  cases hv : ndV us key with
  | some v =>
    refine iteT ?_
    walk_at "go"
    refine x_nget ?_
    walk_at "go"
    refine ⟨kn, kp, us, key, v, rfl, rfl, Kn.nd, hkp, hv, ?_⟩
    obtain ⟨e, he, rfl, rfl⟩ := ndV_some hv
    rw [(Kn.v e he).2]
    exact k H ws us (fun _ _ _ _ h => h) R Kn (fun e he => .inl he)
  | none =>
    refine iteF ?_
    walk_at "go"
    refine x_methR hI rfl ?_
    walk_at "go"
    refine ⟨tb, tr, fl, g, kp, z, l, ad, S, key, F, ws, rfl, B, hFn, R, hkp, hko, hmu, fun H1 p ws1 X1 R1 _ hA1 => ?_⟩
    obtain ⟨x, s, e⟩ := key
    obtain ⟨npF, ps, hp, hP⟩ := id hA1
    have SE1 : SE H H1 := SE.x X1 R.nd.o
    have Kn1 : KnOk P w l (tx z) H1 kn us := Kn.kp SE1.tk (by rw [Kn.nd.o]; exact X1 _ _ (fun e => htk e.symm) Kn.nd.o)
    have J1 : CJ P w l (tx z) F tr kn H1 us (muK (x, s, e)) H1 ws1 us := ⟨fun _ _ _ _ h => h, R1, Kn1, fun e he => .inl he, htk⟩
    have B1 := B.se SE1
    have hFn1 : ∀ a, F a → H1 a ≠ none := fun a ha hn => by
      cases q : H a with
      | none => exact hFn a ha q
      | some o => by_cases c : a = tr
                  · rw [c, R1.nd.o] at hn; cases hn
                  · rw [X1 _ _ c q] at hn; cases hn
    have seJ : ∀ {H' ws' us'}, CJ P w l (tx z) F tr kn H1 us (muK (x, s, e)) H' ws' us' → SE H1 H' := fun J => J.se ⟨_, R1.nd.o⟩ ⟨_, Kn1.nd.o⟩
    have FnJ : ∀ {H' ws' us'}, CJ P w l (tx z) F tr kn H1 us (muK (x, s, e)) H' ws' us' → ∀ a, F a → H' a ≠ none := fun {H' ws' us'} J a ha hn => by
      cases q : H1 a with
      | none => exact hFn1 a ha q
      | some o => by_cases c : a = tr
                  · rw [c, J.r.nd.o] at hn; cases hn
                  · by_cases c2 : a = kn
                    · rw [c2, J.k.nd.o] at hn; cases hn
                    · rw [J.x _ _ c c2 q] at hn; cases hn
    have t192 : (tx z).length ≤ 192 := by rw [← len_tx]; exact B.few
    refine x_forLR hp (fun i σ H' => ∃ v4 v5 v6 v7 ws' us', σ = [some (.ref tb), some (.ref kp), some (.ref kn), some (.int ((((altK l (tx z) (x, s, e)).take i).map (termK l (tx z))).sum : Nat)), v4, v5, v6, v7] ∧ CJ P w l (tx z) F tr kn H1 us (muK (x, s, e)) H' ws' us')
      ⟨none, none, none, none, ws1, us, rfl, J1⟩ (fun i σ H' _ ⟨_, _, _, _, _, _, _, J⟩ => seJ J _ _ ne_lst hp) ?_ ?_
    · rintro i y σ H2 hi ⟨v4, v5, v6, v7, ws2, us2, rfl, J2⟩
      obtain ⟨pa, hpa, rfl⟩ : ∃ pa, ps[i]? = some pa ∧ y = V.ref pa := by
        rw [List.getElem?_map] at hi
        obtain ⟨r, h1, h2⟩ := Option.map_eq_some_iff.mp hi
        exact ⟨r, h1, h2.symm⟩
      obtain ⟨⟨r, cc⟩, hkc, hE⟩ := Paired.at' hP hpa
      have hal : (r, cc) ∈ alts l (tx z) x s e := List.mem_of_getElem? hkc
      obtain ⟨c, ncF, hq2, hcA⟩ := hE.kp (seJ J2).tk (seJ J2).lk
      simp only at hq2 hcA
      obtain ⟨hrb, hcm⟩ := mem_alts.mp hal
      have hr9 := (byN_left hrb).2
      have hlen := (cuts_spec hcm).1
      have B2 := B1.se (seJ J2)
      obtain ⟨dx2, hI2⟩ := B2.I
      walk_at "go"
      refine x_methR hI2 rfl ?_
      walk_at "go"
      refine ⟨tb, tr, fl, g, c, z, l, ad, S, r, cc, rfl, B2, hr9, hcA, hlen, fun H3 pk vk s23 hpk hpkv hK => ?_⟩
      have J3 := J2.new s23
      have kl := kidL_len hlen
      have seJ3 : ∀ {H' ws' us'}, CJ P w l (tx z) F tr kn H3 us2 (muK (x, s, e)) H' ws' us' → SE H3 H' := fun J => J.se ⟨_, J3.r.nd.o⟩ ⟨_, J3.k.nd.o⟩
      refine x_forLR hpkv (fun j σ H' => ∃ v7 ws' us', σ = [some (.ref tb), some (.ref kp), some (.ref kn), some (.int ((((altK l (tx z) (x, s, e)).take i).map (termK l (tx z))).sum : Nat)), some (.int (r : Nat)), some (.ref c), some (.int (prd (((kidL (syms l r) cc).take j).map (szO (cntT l (tx z)))) : Nat)), v7] ∧ CJ P w l (tx z) F tr kn H3 us2 (muK (x, s, e)) H' ws' us')
        ⟨v7, ws2, us2, rfl, ⟨fun _ _ _ _ h => h, J3.r, J3.k, fun e he => .inl he, htk⟩⟩ (fun j σ H' _ ⟨_, _, _, _, J⟩ => seJ3 J _ _ ne_lst hpkv) ?_ ?_
      · rintro j y σ H4 hj ⟨v7, ws4, us4, rfl, J4⟩
        obtain ⟨o, ho, ko⟩ := Paired.at' hK hj
        have tm : prd (((kidL (syms l r) cc).take (j + 1)).map (szO (cntT l (tx z)))) = prd (((kidL (syms l r) cc).take j).map (szO (cntT l (tx z)))) * szO (cntT l (tx z)) o := by
          rw [take_more ho, List.map_append, List.map_cons, List.map_nil, prd_snoc]
        cases o with
        | none =>
          have ko : y = .non := ko
          subst ko
          walk_at "go"
          rw [decide_eq_true rfl]
          refine iteF ?_
          walk_at "go"
          rw [tm, show szO (cntT l (tx z)) none = 1 from rfl, Nat.mul_one]
          exact ⟨_, ws4, us4, rfl, J4⟩
        | some kk =>
          obtain ⟨b, rfl, hb⟩ := ko
          obtain ⟨xk, ak, bk⟩ := kk
          obtain ⟨e1, e2, e3, e4, e5⟩ := kid_of hal (List.mem_of_getElem? ho)
          have J14 := J3.step J4.x J4.r J4.k J4.n
          have B4 := B1.se (seJ J14)
          have hb4 := hb.tk (seJ3 J4).tk
          walk_at "go"
          rw [decide_eq_false (show ¬ V.ref b = V.non from fun h => nomatch h)]
          refine iteT ?_
          walk_at "go"
          refine ⟨tb, tr, fl, g, b, kn, z, l, ad, S, (xk, ak, bk), F, ws4, us4, rfl, B4, FnJ J14, J4.r, J4.k, htk, hb4, ⟨e4, Nat.le_trans e3 hko.2⟩, ?_, fun H5 ws5 us5 X5 R5 K5 hn5 => ?_⟩
          · show mu xk ak bk < n
            have : mu x s e < n + 1 := hmu
            omega
          · have w1 := prd_small t192 hko.2 hal j
            have w2 := cntT_le l (tx z) t192 xk (s := ak) (Nat.le_trans e3 hko.2)
            refine x_I (wide_mul (a := 6200) (b := 6200) (by rw [Int.natAbs_natCast]; exact w1) (by rw [Int.natAbs_natCast]; exact w2) (by decide) (by decide) (by decide)) ?_
            walk_at "go"
            rw [tm, show szO (cntT l (tx z)) (some (xk, ak, bk)) = cntK l (tx z) (xk, ak, bk) from rfl, ← Int.natCast_mul]
            refine ⟨_, ws5, us5, rfl, J4.step X5 R5 K5 fun u hu => ?_⟩
            rcases hn5 u hu with h | h
            · exact .inl h
            · exact .inr (Nat.lt_of_le_of_lt h e5)
      · rintro σ H4 ⟨v7, ws4, us4, rfl, J4⟩
        rw [Paired.length hK, List.take_length]
        have J14 := J3.step J4.x J4.r J4.k J4.n
        walk_at "go"
        have tm : (((altK l (tx z) (x, s, e)).take (i + 1)).map (termK l (tx z))).sum = (((altK l (tx z) (x, s, e)).take i).map (termK l (tx z))).sum + prd ((kidL (syms l r) cc).map (szO (cntT l (tx z)))) := by
          rw [take_more hkc, List.map_append, List.sum_append]
          simp [termK]
        rw [tm, Int.natCast_add]
        exact ⟨_, _, _, _, ws4, us4, rfl, J14⟩
    · rintro σ H2 ⟨v4, v5, v6, v7, ws2, us2, rfl, J2⟩
      rw [List.length_map, Paired.length hP, List.take_length]
      have et : ((altK l (tx z) (x, s, e)).map (termK l (tx z))).sum = cntK l (tx z) (x, s, e) := (cntT_eq x s e).symm
      rw [et]
      have hkp2 := (hkp.tk SE1.tk).tk (seJ J2).tk
      have nk : ndV us2 (x, s, e) = none := ndV_none fun u hu q => by
        rcases J2.n u hu with h | h
        · have h9 := hv
          unfold ndV at h9
          have h9 := Option.map_eq_none_iff.mp h9
          rw [List.find?_eq_none] at h9
          exact h9 u h (by simpa using q)
        · rw [q] at h; exact Nat.lt_irrefl _ h
      walk_at "go"
      refine x_nput ?_
      walk_at "go"
      refine ⟨kn, kp, us2, (x, s, e), rfl, rfl, J2.k.nd, hkp2, nk, kn_few J2.k t192, ?_⟩
      have tk7 : TK H2 (upd H2 kn (NdO P w kn (us2 ++ [((x, s, e), kp, V.int (cntK l (tx z) (x, s, e) : Nat))]))) := TK.upd J2.k.nd.o fun xs h => nomatch h
      have K7 : KnOk P w l (tx z) (upd H2 kn (NdO P w kn (us2 ++ [((x, s, e), kp, V.int (cntK l (tx z) (x, s, e) : Nat))]))) kn (us2 ++ [((x, s, e), kp, V.int (cntK l (tx z) (x, s, e) : Nat))]) := by
        refine ⟨⟨upd_same, fun u hu => ?_⟩, fun u hu => ?_, ?_⟩
        · rcases List.mem_append.mp hu with h | h
          · exact (J2.k.nd.k u h).tk tk7
          · have : u = ((x, s, e), kp, V.int (cntK l (tx z) (x, s, e) : Nat)) := by simpa using h
            subst this; exact hkp2.tk tk7
        · rcases List.mem_append.mp hu with h | h
          · exact J2.k.v u h
          · have : u = ((x, s, e), kp, V.int (cntK l (tx z) (x, s, e) : Nat)) := by simpa using h
            subst this; exact ⟨hko, rfl⟩
        · rw [List.map_append]
          refine List.nodup_append.mpr ⟨J2.k.nodup, by simp, fun a ha b hb e9 => ?_⟩
          have hb : b = (x, s, e) := by simpa using hb
          subst hb; subst e9
          obtain ⟨u, hu, eu⟩ := List.mem_map.mp ha
          unfold ndV at nk
          have h9 := Option.map_eq_none_iff.mp nk
          rw [List.find?_eq_none] at h9
          exact h9 u hu (by simpa using eu)
      walk_at "go"
      refine k _ ws2 (us2 ++ [((x, s, e), kp, V.int (cntK l (tx z) (x, s, e) : Nat))]) (fun a o n1 n2 h => ?_) ?_ K7 (fun u hu => ?_)
      · rw [upd_ne n2]; exact J2.x a o n1 n2 (X1 _ _ n1 h)
      · refine J2.r.kp tk7 (fun a xs n h => ?_) (upd_ne htk)
        rw [upd_ne (fun e => by rw [e, J2.k.nd.o] at h; cases h)]; exact h
      · rcases List.mem_append.mp hu with h | h
        · rcases J2.n u h with h | h
          · exact .inl h
          · exact .inr (Nat.le_of_lt h)
        · have : u = ((x, s, e), kp, V.int (cntK l (tx z) (x, s, e) : Nat)) := by simpa using h
          subst this; exact .inr (Nat.le_refl _)
end
section
variable {P : Program} {w : World} {K : PySem.W.Frag} {mg : Str → Option Value} {base : Heap}
def spCount : Sp := fun vs H Q _ => ∃ (g fl : Addr) (z : Str) (l : Bool), vs = [.ref g, .ref fl, .str z] ∧ GramAt H l g ∧ H fl = some (.lst []) ∧ z.length ≤ 192 ∧ ∀ H', Same H H' → Q (.int (cntT l (tx z) .p 0 (tx z).length : Nat)) H'
theorem nd0 {a : Addr} {H : Hp} : NdAt P w (upd H a (NdO P w a [])) a [] := ⟨upd_same, fun e he => nomatch he⟩
theorem rows0 {l : Bool} {t : Tx} {F : Addr → Prop} {H : Hp} {tr : Addr} (h : NdAt P w H tr []) : RowsOk P w l t F H tr [] := ⟨h, (fun e he => nomatch he), List.nodup_nil⟩
theorem kn0 {l : Bool} {t : Tx} {H : Hp} {kn : Addr} (h : NdAt P w H kn []) : KnOk P w l t H kn [] := ⟨h, (fun e he => nomatch he), List.nodup_nil⟩
theorem x_newN {σ : L2.St} {H : Hp} {Q : VK} (h : ∀ p, H p = none → Q (.ref p) (upd H p (NdO P w p []))) : tDNewN P w σ H Q := h
theorem ok_count (T : TX K mg) (G_spans_of : FnOk P w K mg base CX0 5 T.f_spans_of T.d_spans_of ["grammar", "text"] (spSO T.C_Spans))
    (G_table_of : FnOk P w K mg base CX0 3 T.f_table_of T.d_table_of ["grammar", "filters", "spans"] (spTO P w T.C_Table T.C_Spans))
    (G_counted : FnOk P w K mg base CX0 202 T.f_counted T.d_counted ["table", "key", "known"] (spCnt P w T.C_Table T.C_Spans 194)) :
    FnOk P w K mg base CX0 203 T.f_count T.d_count ["grammar", "filters", "text"] spCount := by
  refine T.F_count.ok sc_count (fun vs H Q E h => ?_) (fun cdv A outer s H vs Q E hr h => ?_)
  · obtain ⟨g, fl, z, l, rfl, _⟩ := h
    rfl
  obtain ⟨g, fl, z, l, rfl, hg, hfl, hz, k⟩ := h
  refine ⟨_, (pss_cons (ps_asg (pe_call G_table_of (hr.mono (by decide)) (by rfl) T.m_table_of T.F_table_of.kp T.b_table_of .nil pass0 (pa_cons (pv 0) (pa_cons (pv 1) (pa_cons (pe_call G_spans_of (hr.mono (by decide)) (by rfl) T.m_spans_of T.F_spans_of.kp T.b_spans_of .nil pass0 (pa_cons (pv 0) (pa_cons (pv 2) pa_nil))) pa_nil)))) (kpg_tup K 2 rfl (pgs_cons (pg_name (i := 3) sc_count.nd rfl (Or.inl rfl)) (pgs_cons (pg_name (i := 4) sc_count.nd rfl (Or.inl rfl)) pgs_nil))))
  (pss_one (ps_ret (pe_call G_counted (hr.mono (by decide)) (by rfl) T.m_counted T.F_counted.kp T.b_counted .nil pass0 (pa_cons (pv 3) (pa_cons (pv 4) (pa_cons (kdnewN P w) pa_nil))))))), ?_⟩
  walk_at "go"
  refine ⟨g, z, l, rfl, hg, by omega, fun H1 ad S A1 G1 W1 _ => ?_⟩
  have s1 := A1.same
  walk_at "go"
  have G1 : Good l (tx z) ((tx z).length + 1) 0 S := by rw [← len_tx]; exact G1
  refine ⟨g, fl, z, l, ad, S, rfl, s1 _ _ hfl, A1.down same_emp, hg.same s1, G1, hz, fun H2 q tb tr kp s2 hq hqv htb htr B2 N2 hkp => ?_⟩
  walk_at "go"
  refine x_newN fun kn hkn => ?_
  walk_at "go"
  have s3 : Same H2 (upd H2 kn (NdO P w kn [])) := Same.new hkn
  have tk : tr ≠ kn := fun e => by have := N2.o; rw [e, hkn] at this; cases this
  have hn : (tx z).length ≤ 192 := by rw [← len_tx]; exact hz
  refine ⟨tb, tr, fl, g, kp, kn, z, l, ad, S, (.p, 0, (tx z).length), fun _ => False, [], [], rfl, B2.se (same_se s3), (fun _ h => h.elim), (rows0 N2).same s3, kn0 nd0, tk, hkp.tk (same_tk s3), ⟨Nat.zero_le _, Nat.le_refl _⟩, ?_, fun H4 ws us X4 _ _ _ => ?_⟩
  · show mu .p 0 _ < 194
    simp only [mu]; omega
  · refine k H4 fun a o h => X4 _ _ (fun e => ?_) (fun e => ?_) (s3 _ _ (s2 _ _ (s1 _ _ h)))
    · rw [e] at h; have := s1 _ _ h; rw [htr] at this; cases this
    · rw [e] at h; have := s2 _ _ (s1 _ _ h); rw [hkn] at this; cases this
end
section
variable {P : Program} {w : World} {K : PySem.W.Frag} {mg : Str → Option Value} {base : Heap}
/-- the class of errors -/
structure TErr (K : PySem.W.Frag) (C : Addr) : Prop where
  q : PySem.W.excIn K C [.type "ValueError", .type "Exception", .type "BaseException", .type "object"] "ValueError.__new__" = true
  kp : PySem.W.keepIn K (.ref C) = true
  r1 : PySem.W.subIn K (.ref C) (.type "BaseException") = some true
  r2 : PySem.W.typeIn K (.ref C) = some (.type "type")
  ex : PySem.W.exmOne K (.ref C) (.ref C) = some true
mutual
/-- a tree as it stands in the heap; none of its lists lies in F -/
def TreeAt (F : Addr → Prop) (H : Hp) : T → V → Prop
  | .leaf u, v => ∃ z : Str, v = .str z ∧ tx z = u
  | .node r ks, v => ∃ (a p : Addr) (vs : List V), v = .ref a ∧ ¬ F p ∧ H a = some (.tup [.str "node", .int (r : Nat), .ref p]) ∧ H p = some (.lst vs) ∧ TreesAt F H ks vs
def TreesAt (F : Addr → Prop) (H : Hp) : List T → List V → Prop
  | [], vs => vs = []
  | k :: ks, vs => ∃ v r, vs = v :: r ∧ TreeAt F H k v ∧ TreesAt F H ks r
end
mutual
theorem TreeAt.kp {F : Addr → Prop} {H H' : Hp} (t : TK H H') (s : LK F H H') : ∀ {T : T} {v : V}, TreeAt F H T v → TreeAt F H' T v
  | .leaf u, v, h => h
  | .node r ks, v, h => by
    unfold TreeAt at h ⊢
    obtain ⟨a, p, vs, e, n, h1, h2, h3⟩ := h
    exact ⟨a, p, vs, e, n, t _ _ h1, s _ _ n h2, TreesAt.kp t s h3⟩
theorem TreesAt.kp {F : Addr → Prop} {H H' : Hp} (t : TK H H') (s : LK F H H') : ∀ {ks : List T} {vs : List V}, TreesAt F H ks vs → TreesAt F H' ks vs
  | [], vs, h => h
  | k :: ks, vs, h => by
    unfold TreesAt at h ⊢
    obtain ⟨v, r, e, h1, h2⟩ := h
    exact ⟨v, r, e, TreeAt.kp t s h1, TreesAt.kp t s h2⟩
end
mutual
theorem TreeAt.wide {F F' : Addr → Prop} {H : Hp} (hF : ∀ a, F' a → H a ≠ none → F a) : ∀ {T : T} {v : V}, TreeAt F H T v → TreeAt F' H T v
  | .leaf u, v, h => h
  | .node r ks, v, h => by
    unfold TreeAt at h ⊢
    obtain ⟨a, p, vs, e, n, h1, h2, h3⟩ := h
    exact ⟨a, p, vs, e, fun q => n (hF p q (fun e => by rw [e] at h2; cases h2)), h1, h2, TreesAt.wide hF h3⟩
theorem TreesAt.wide {F F' : Addr → Prop} {H : Hp} (hF : ∀ a, F' a → H a ≠ none → F a) : ∀ {ks : List T} {vs : List V}, TreesAt F H ks vs → TreesAt F' H ks vs
  | [], vs, h => h
  | k :: ks, vs, h => by
    unfold TreesAt at h ⊢
    obtain ⟨v, r, e, h1, h2⟩ := h
    exact ⟨v, r, e, TreeAt.wide hF h1, TreesAt.wide hF h2⟩
end
theorem TreesAt.snoc {F : Addr → Prop} {H : Hp} {k : T} {v : V} (h : TreeAt F H k v) : ∀ {ks : List T} {vs : List V}, TreesAt F H ks vs → TreesAt F H (ks ++ [k]) (vs ++ [v])
  | [], vs, q => by
    have q : vs = [] := by unfold TreesAt at q; exact q
    subst q
    show TreesAt F H [k] [v]
    unfold TreesAt
    exact ⟨v, [], rfl, h, by unfold TreesAt; rfl⟩
  | k0 :: ks, vs, q => by
    unfold TreesAt at q
    obtain ⟨v0, r, e, h1, h2⟩ := q
    subst e
    show TreesAt F H (k0 :: (ks ++ [k])) (v0 :: (r ++ [v]))
    unfold TreesAt
    exact ⟨v0, r ++ [v], rfl, h1, TreesAt.snoc h h2⟩
noncomputable def trK3 (l : Bool) (t : Tx) (k : K3) (n : Nat) : Option T := trT l t k.1 k.2.1 k.2.2 n
def spBuilt (P : Program) (w : World) (C Cs Ce : Addr) (n : Nat) : Sp := fun vs H Q E => ∃ (tb tr fl g kp kn : Addr) (z : Str) (l : Bool) (ad : Role → Addr) (S : SS) (k : K3) (F : Addr → Prop) (ws us : NW) (num : Nat), vs = [.ref tb, .ref kp, .int (num : Nat), .ref kn] ∧ TbA C Cs H tb tr fl g z l ad S ∧ (∀ a, F a → H a ≠ none) ∧
  RowsOk P w l (tx z) F H tr ws ∧ KnOk P w l (tx z) H kn us ∧ tr ≠ kn ∧ NKAt H kp k ∧ KOk (tx z).length k ∧ muK k < n ∧
  ((num < cntK l (tx z) k ∧ ∀ H' ws' us' v T, SX tr kn H H' → RowsOk P w l (tx z) F H' tr ws' → KnOk P w l (tx z) H' kn us' → trK3 l (tx z) k num = some T → TreeAt F H' T v → (∃ a, v = .ref a) → Q v H') ∨
   (altK l (tx z) k = [] ∧ ∀ H', SX tr kn H H' → E (.ref Ce) none H'))
theorem kn_mu {l t H kn vs} (R : KnOk P w l t H kn vs) (hn : t.length ≤ 192) : ∀ e ∈ vs, muK e.1 < 1000 := fun u hu => by
  obtain ⟨⟨x, s, e⟩, b, v⟩ := u
  obtain ⟨b1, b2⟩ := (R.v _ hu).1
  simp only at b1 b2
  show mu x s e < 1000
  cases x <;> simp only [mu] <;> omega
theorem drop_get {α : Type} {xs : List α} {j : Nat} {a : α} (h : xs[j]? = some a) : xs.drop j = a :: xs.drop (j + 1) := by
  obtain ⟨h1, h2⟩ := List.getElem?_eq_some_iff.mp h
  rw [List.drop_eq_getElem_cons h1, h2]
theorem prd_drop (os : List (Option (NT × Nat × Nat))) (f : Option (NT × Nat × Nat) → Nat) (j : Nat) (o : Option (NT × Nat × Nat)) (h : os[j]? = some o) : prd ((os.drop j).map f) = f o * prd ((os.drop (j + 1)).map f) := by
  obtain ⟨h1, h2⟩ := List.getElem?_eq_some_iff.mp h
  rw [List.drop_eq_getElem_cons h1, h2, List.map_cons, prd_cons]
theorem prd_smallD {l : Bool} {t : Tx} {x : NT} {s e k : Nat} {c : List Nat} (ht : t.length ≤ 192) (he : e ≤ t.length) (h : (k, c) ∈ alts l t x s e) (j : Nat) : prd (((kidL (syms l k) c).drop j).map (szO (cntT l t))) < 2 ^ 6200 := by
  have wk := wt_kids h
  refine Nat.lt_of_le_of_lt (prd_le _ _ fun o ho => szO_le l t _ o fun x' a b _ => cnt_le l t ht _ x' a b) (Nat.pow_lt_pow_right (by decide) ?_)
  have h1 : (((kidL (syms l k) c).drop j).map wtO).sum ≤ ((kidL (syms l k) c).map wtO).sum := by
    have e := List.take_append_drop j (kidL (syms l k) c)
    calc (((kidL (syms l k) c).drop j).map wtO).sum ≤ (((kidL (syms l k) c).take j).map wtO).sum + (((kidL (syms l k) c).drop j).map wtO).sum := Nat.le_add_left _ _
      _ = ((kidL (syms l k) c).map wtO).sum := by rw [← List.sum_append, ← List.map_append, e]
  have h2 : wt8 x s e ≤ 770 := by cases x <;> simp only [wt8] <;> omega
  omega
theorem szO_pos {l : Bool} {t : Tx} {x : NT} {s e k : Nat} {c : List Nat} (h : (k, c) ∈ alts l t x s e) {o : Option (NT × Nat × Nat)} (ho : o ∈ kidL (syms l k) c) : 0 < szO (cntT l t) o := by
  cases o with
  | none => exact Nat.one_pos
  | some o => obtain ⟨x', a, b⟩ := o; exact cntT_pos (kid_of h ho).1
theorem szO_small {l : Bool} {t : Tx} {x : NT} {s e k : Nat} {c : List Nat} (ht : t.length ≤ 192) (he : e ≤ t.length) (h : (k, c) ∈ alts l t x s e) {o : Option (NT × Nat × Nat)} (ho : o ∈ kidL (syms l k) c) : szO (cntT l t) o < 2 ^ 6200 := by
  cases o with
  | none => exact Nat.one_lt_two_pow (by decide)
  | some o => obtain ⟨x', a, b⟩ := o; exact cntT_le l t ht x' (Nat.le_trans (kid_of h ho).2.2.1 he)
noncomputable def partK (l : Bool) (t : Tx) (a b n : Nat) : Option (NT × Nat × Nat) → Option K38.T
  | none => some (K38.T.leaf (sl t a b))
  | some (x', a', b') => trT l t x' a' b' n
theorem trK_part (l : Bool) (t : Tx) (o : Option (NT × Nat × Nat)) (os : List (Option (NT × Nat × Nat))) (a b : Nat) (r : List Nat) (many n : Nat) (k : K38.T) (h : partK l t a b (n / (many / szO (cntT l t) o)) o = some k) :
    trK l t (trT l t) (o :: os) (a :: b :: r) many n = (trK l t (trT l t) os (b :: r) (many / szO (cntT l t) o) (n % (many / szO (cntT l t) o))).map (k :: ·) :=
  trK_cons l t (trT l t) o os a b r many n k (by cases o with
    | none => exact h
    | some o => obtain ⟨x', a', b'⟩ := o; exact h)
theorem ok_built (T : TX K mg) (E_ : TErr K T.C_TreeError) (G_Table_kid_keys : FnOk P w K mg base CX0 1 T.f_Table_kid_keys T.d_Table_kid_keys ["self", "k", "cuts"] (spKid T.C_Table T.C_Spans))
    (G_alt : ∀ n, FnOk P w K mg base CX0 (n + 7) T.f_Table_alternatives T.d_Table_alternatives ["self", "key"] (spAlt P w T.C_Table T.C_Spans n))
    (G_cnt : ∀ n, FnOk P w K mg base CX0 (n + 8) T.f_counted T.d_counted ["table", "key", "known"] (spCnt P w T.C_Table T.C_Spans n)) :
    ∀ n, FnOk P w K mg base (L2.CX P w) (n + 9) T.f_built T.d_built ["table", "key", "number", "known"] (spBuilt P w T.C_Table T.C_Spans T.C_TreeError n) := by
  intro n
  induction n with
  | zero =>
    refine T.F_built.okX sc_built (fun vs H Q E h => ?_) (fun cdv A outer s H vs Q E hr h => ?_)
    · obtain ⟨tb, tr, fl, g, kp, kn, z, l, ad, S, k, F, ws, us, num, rfl, _⟩ := h
      rfl
    · obtain ⟨tb, tr, fl, g, kp, kn, z, l, ad, S, k, F, ws, us, num, rfl, _, _, _, _, _, _, _, hm, _⟩ := h
      omega
  | succ n ih =>
  have G_built := ih
  have G_Table_alternatives := G_alt (n + 1)
  have G_counted := G_cnt (n + 1)
  refine T.F_built.okX sc_built (fun vs H Q E h => ?_) (fun cdv A outer s H vs Q E hr h => ?_)
  · obtain ⟨tb, tr, fl, g, kp, kn, z, l, ad, S, k, F, ws, us, num, rfl, _⟩ := h
    rfl
  obtain ⟨tb, tr, fl, g, kp, kn, z, l, ad, S, key, F, ws, us, num, rfl, B, hFn, R, Kn, htk, hkp, hko, hmu, k⟩ := h
  refine ⟨_, (pss_cons (ps_for (passes_of rfl) rfl (kpi_list K (pe_meth (pv 0) T.cl_Table T.me_Table_alternatives G_Table_alternatives (hr.mono (by omega)) T.b_Table_alternatives .nil pass0 (pa_cons (pv 1) pa_nil))) (kpg_tup K 2 rfl (pgs_cons (pg_name (i := 4) sc_built.nd rfl (Or.inl rfl)) (pgs_cons (pg_name (i := 5) sc_built.nd rfl (Or.inl rfl)) pgs_nil)))
  (pss_cons (ps_set (i := 6) sc_built.nd rfl (Or.inl rfl) (pe_meth (pv 0) T.cl_Table T.me_Table_kid_keys G_Table_kid_keys (hr.mono (by omega)) T.b_Table_kid_keys .nil pass0 (pa_cons (pv 4) (pa_cons (pv 5) pa_nil))))
  (pss_cons (ps_setLc (i := 8) (own := [("kid", 7)]) (by rfl) sc_built.nd rfl rfl (sw_true rfl rfl rfl (by decide +kernel)) (kpi_list K (pv 6)) (blkOk_by (N := ["table", "key", "number", "known", "k", "cuts", "kids", "kid", "sizes", "many", "size", "parts", "at"]) (sc := (defScope s_built)) (by decide +kernel)) (fun _ _ _ _ _ => (pg_name (i := 7) sc_built.nd rfl (Or.inl rfl))) (fun _ _ _ _ _ => pts_nil) (fun _ _ _ _ _ => (pe_ifExp (pt_cmpR or_isN (pv 7) pe_non (nomark _)) pe_int (pe_call G_counted (hr.mono (by omega)) (by rfl) T.m_counted T.F_counted.kp T.b_counted .nil pass0 (pa_cons (pv 0) (pa_cons (pv 7) (pa_cons (pv 3) pa_nil)))))))
  (pss_cons (ps_set (i := 9) sc_built.nd rfl (Or.inl rfl) pe_int)
  (pss_cons (ps_for (passes_of rfl) rfl (kpi_list K (pv 8)) (pg_name (i := 10) sc_built.nd rfl (Or.inl rfl))
  (pss_one (ps_set (i := 9) sc_built.nd rfl (Or.inl rfl) (pe_op op_mulW (pv 9) (pv 10)))))
  (pss_cons (ps_if (pt_cmpR op_lt (pv 2) (pv 9) (nomark _))
  (pss_cons (ps_set (i := 11) sc_built.nd rfl (Or.inl rfl) (pe_lst pa_nil))
  (pss_cons (ps_for (passes_of rfl) rfl (kpi_enum K (by rfl) T.z_enumerate (pa_cons (pv 6) pa_nil)) (kpg_tup K 2 rfl (pgs_cons (pg_name (i := 12) sc_built.nd rfl (Or.inl rfl)) (pgs_cons (pg_name (i := 7) sc_built.nd rfl (Or.inl rfl)) pgs_nil)))
  (pss_cons (ps_set (i := 9) sc_built.nd rfl (Or.inl rfl) (pe_op op_fdivW (pv 9) (pe_ix (kx_list K) (pv 8) (pv 12) (fun _ _ => rfl))))
  (pss_cons (ps_if (pt_cmpR or_isN (pv 7) pe_non (nomark _))
  (pss_one (ps_expr (kbm K (pe_bm PySem.F.plainAttrs_list PySem.F.slot_list_append PySem.F.type_list_append mt_append (pv 11) (pa_cons (pe_slice sl_str (kfld K (kfld K (pv 0) rfl) rfl) (po_some (pe_ix (kx_list K) (pv 5) (pv 12) (fun _ _ => rfl))) (po_some (pe_ix (kx_list K) (pv 5) (pe_op op_add (pv 12) pe_int) (fun _ _ => rfl)))) pa_nil)))))
  (pss_one (ps_expr (kbm K (pe_bm PySem.F.plainAttrs_list PySem.F.slot_list_append PySem.F.type_list_append mt_append (pv 11) (pa_cons (pe_call G_built (hr.mono (by omega)) (by rfl) T.m_built T.F_built.kp T.b_built .nil passL (pa_cons (pv 0) (pa_cons (pv 7) (pa_cons (pe_op op_fdivW (pv 2) (pv 9)) (pa_cons (pv 3) pa_nil))))) pa_nil))))))
  (pss_one (ps_set (i := 2) sc_built.nd rfl (Or.inl rfl) (pe_op op_mod (pv 2) (pv 9)))))))
  (pss_one (ps_ret (pe_tup (pa_cons pe_str (pa_cons (pv 4) (pa_cons (pv 11) pa_nil))))))))
  pss_nil)
  (pss_one (ps_set (i := 2) sc_built.nd rfl (Or.inl rfl) (pe_op op_sub (pv 2) (pv 9))))))))))
  (pss_one (ps_raise rfl (takes_of rfl rfl rfl rfl) (pmk_own PySem.F.excBase_ValueError E_.q T.mC_TreeError E_.kp (raises_own E_.r1 E_.r2) (by rfl))))), ?_⟩
  obtain ⟨cl, n1, n2, n3, n4⟩ := T.tbC
  obtain ⟨dx, hI⟩ := B.I
  walk_at "go"
  refine x_methR hI rfl ?_
  walk_at "go"
  refine ⟨tb, tr, fl, g, kp, z, l, ad, S, key, F, ws, rfl, B, hFn, R, hkp, hko, hmu, fun H1 p ws1 X1 R1 _ hA1 => ?_⟩
  obtain ⟨x, s, e⟩ := key
  obtain ⟨npF, ps, hp, hP⟩ := id hA1
  have SE1 : SE H H1 := SE.x X1 R.nd.o
  have Kn1 : KnOk P w l (tx z) H1 kn us := Kn.kp SE1.tk (by rw [Kn.nd.o]; exact X1 _ _ (fun e => htk e.symm) Kn.nd.o)
  have J1 : CJ P w l (tx z) F tr kn H1 us 1000 H1 ws1 us := ⟨fun _ _ _ _ h => h, R1, Kn1, fun e he => .inl he, htk⟩
  have B1 := B.se SE1
  have hFn1 : ∀ a, F a → H1 a ≠ none := fun a ha hn => by
    cases q : H a with
    | none => exact hFn a ha q
    | some o => by_cases c : a = tr
                · rw [c, R1.nd.o] at hn; cases hn
                · rw [X1 _ _ c q] at hn; cases hn
  have seJ : ∀ {H' ws' us'}, CJ P w l (tx z) F tr kn H1 us 1000 H' ws' us' → SE H1 H' := fun J => J.se ⟨_, R1.nd.o⟩ ⟨_, Kn1.nd.o⟩
  have FnJ : ∀ {H' ws' us'}, CJ P w l (tx z) F tr kn H1 us 1000 H' ws' us' → ∀ a, F a → H' a ≠ none := fun {H' ws' us'} J a ha hn => by
    cases q : H1 a with
    | none => exact hFn1 a ha q
    | some o => by_cases c : a = tr
                · rw [c, J.r.nd.o] at hn; cases hn
                · by_cases c2 : a = kn
                  · rw [c2, J.k.nd.o] at hn; cases hn
                  · rw [J.x _ _ c c2 q] at hn; cases hn
  have t192 : (tx z).length ≤ 192 := by rw [← len_tx]; exact B.few
  rcases k with ⟨hnum, k⟩ | ⟨hnil, k⟩
  · generalize hL : altK l (tx z) (x, s, e) = L at hP
    have hLm : ∀ kc, kc ∈ L → kc ∈ alts l (tx z) x s e := fun kc h => by rw [← hL] at h; exact h
    have hsum : cntK l (tx z) (x, s, e) = (L.map (termK l (tx z))).sum := by rw [← hL]; exact cntT_eq x s e
    have htr : ∀ m, trK3 l (tx z) (x, s, e) m = trA l (tx z) (trT l (tx z)) L m := fun m => by rw [← hL]; exact trT_eq l (tx z) x s e m
    refine x_forLR hp (fun i σ H' => ∃ v4 v5 v6 v7 v8 v9 v10 v11 v12 ws' us' m, σ = [some (.ref tb), some (.ref kp), some (.int (m : Nat)), some (.ref kn), v4, v5, v6, v7, v8, v9, v10, v11, v12] ∧ CJ P w l (tx z) F tr kn H1 us 1000 H' ws' us' ∧
        m < ((L.drop i).map (termK l (tx z))).sum ∧ trA l (tx z) (trT l (tx z)) L num = trA l (tx z) (trT l (tx z)) (L.drop i) m)
      ⟨none, none, none, none, none, none, none, none, none, ws1, us, num, rfl, J1, by rw [List.drop_zero, ← hsum]; exact hnum, rfl⟩ (fun i σ H' _ ⟨_, _, _, _, _, _, _, _, _, _, _, _, _, J, _⟩ => seJ J _ _ ne_lst hp) ?_ ?_
    · rintro i y σ H2 hi ⟨v4, v5, v6, v7, v8, v9, v10, v11, v12, ws2, us2, m, rfl, J2, hm, hT⟩
      obtain ⟨pa, hpa, rfl⟩ : ∃ pa, ps[i]? = some pa ∧ y = V.ref pa := by
        rw [List.getElem?_map] at hi
        obtain ⟨r, h1, h2⟩ := Option.map_eq_some_iff.mp hi
        exact ⟨r, h1, h2.symm⟩
      obtain ⟨⟨r, cc⟩, hkc, hE⟩ := Paired.at' hP hpa
      have hal : (r, cc) ∈ alts l (tx z) x s e := hLm _ (List.mem_of_getElem? hkc)
      obtain ⟨c, ncF, hq2, hcA⟩ := hE.kp (seJ J2).tk (seJ J2).lk
      simp only at hq2 hcA
      obtain ⟨hrb, hcm⟩ := mem_alts.mp hal
      have hr9 := (byN_left hrb).2
      have hlen := (cuts_spec hcm).1
      have B2 := B1.se (seJ J2)
      obtain ⟨dx2, hI2⟩ := B2.I
      have hdr : L.drop i = (r, cc) :: L.drop (i + 1) := by
        obtain ⟨h1, h2⟩ := List.getElem?_eq_some_iff.mp hkc
        rw [List.drop_eq_getElem_cons h1, h2]
      walk_at "go"
      refine x_methR hI2 rfl ?_
      walk_at "go"
      refine ⟨tb, tr, fl, g, c, z, l, ad, S, r, cc, rfl, B2, hr9, hcA, hlen, fun H3 pk vk s23 hpk hpkv hK => ?_⟩
      have J3 := J2.new s23
      have kl := kidL_len hlen
      have k4 := syms_len l r
      have vkl : vk.length = (syms l r).length := by rw [Paired.length hK, kl]
      walk_at "go"
      have seJ3 : ∀ {H' : Hp} {D : Addr}, H3 D = none → (∀ a o, a ≠ tr → a ≠ kn → a ≠ D → H3 a = some o → H' a = some o) → SE H3 H' := fun {H' D} hD X a o n h => X a o (fun e => by rw [e, J3.r.nd.o] at h; exact n _ (Option.some.inj h).symm) (fun e => by rw [e, J3.k.nd.o] at h; exact n _ (Option.some.inj h).symm) (fun e => by rw [e, hD] at h; cases h) h
      have FnD : ∀ {H' : Hp} {D : Addr} {o1 o2 o3}, H3 D = none → (∀ a o, a ≠ tr → a ≠ kn → a ≠ D → H3 a = some o → H' a = some o) → H' tr = some o1 → H' kn = some o2 → H' D = some o3 → ∀ a, Or1 F D a → H' a ≠ none := fun {H' D o1 o2 o3} hD X h1 h2 h3 a ha hn => by
        rcases ha with ha | ha
        · cases q : H3 a with
          | none => exact FnJ J3 a ha q
          | some o =>
            by_cases c1 : a = tr
            · rw [c1, h1] at hn; cases hn
            · by_cases c2 : a = kn
              · rw [c2, h2] at hn; cases hn
              · rw [X a o c1 c2 (fun e => by rw [e, hD] at q; cases q) q] at hn; cases hn
        · rw [ha, h3] at hn; cases hn
      refine x_lcG hpkv (fun D j H' => ∃ ws' us', (∀ a o, a ≠ tr → a ≠ kn → a ≠ D → H3 a = some o → H' a = some o) ∧ RowsOk P w l (tx z) (Or1 F D) H' tr ws' ∧ KnOk P w l (tx z) H' kn us' ∧ H' D = some (.lst (((kidL (syms l r) cc).take j).map fun o => V.int (szO (cntT l (tx z)) o : Nat))) ∧ D ≠ tr ∧ D ≠ kn ∧ H3 D = none)
        (fun j => ((kidL (syms l r) cc).take j).map fun o => V.int (szO (cntT l (tx z)) o : Nat)) (by simp) (fun j hj => by rw [List.length_map, List.length_take]; omega) (fun D hD => ?_) (fun D j H' ⟨ws', us', q1, q2, q3, q4, q5, q6, q7⟩ => ?_) (fun D j y H4 N1 N2 hD hy ⟨ws4, us4, q1, q2, q3, q4, q5, q6, _⟩ k1 k2 => ?_) (fun D H5 hD ⟨ws5, us5, q1, q2, q3, q4, q5, q6, _⟩ => ?_)
      · have dt : D ≠ tr := fun e => by have := J3.r.nd.o; rw [← e, hD] at this; cases this
        have dk : D ≠ kn := fun e => by have := J3.k.nd.o; rw [← e, hD] at this; cases this
        refine ⟨ws2, us2, fun a o _ _ n h => by rw [upd_ne n]; exact h, ?_, J3.k.kp (same_tk (Same.new hD)) (upd_ne (fun e => dk e.symm)), by rw [upd_same]; rfl, dt, dk, hD⟩
        exact (J3.r.wide (F' := Or1 F D) fun a h hn => h.elim id fun e => absurd (by rw [e]; exact hD) hn).same (Same.new hD)
      · exact ⟨seJ3 q7 q1 _ _ ne_lst hpkv, q4⟩
      · obtain ⟨o, ho, ko⟩ := Paired.at' hK hy
        have acs : ((kidL (syms l r) cc).take (j + 1)).map (fun o => V.int (szO (cntT l (tx z)) o : Nat)) = ((kidL (syms l r) cc).take j).map (fun o => V.int (szO (cntT l (tx z)) o : Nat)) ++ [V.int (szO (cntT l (tx z)) o : Nat)] := by rw [take_more ho, List.map_append]; rfl
        have se34 := seJ3 hD q1
        have back : ∀ H5 ws5 us5, SX tr kn H4 H5 → RowsOk P w l (tx z) (Or1 F D) H5 tr ws5 → KnOk P w l (tx z) H5 kn us5 → N1 (V.int (szO (cntT l (tx z)) o : Nat)) H5 := fun H5 ws5 us5 X5 R5 K5 => by
          have d5 := X5 _ _ q5 q6 q4
          have tk : TK H5 (upd H5 D (.lst (((kidL (syms l r) cc).take j).map (fun o => V.int (szO (cntT l (tx z)) o : Nat)) ++ [V.int (szO (cntT l (tx z)) o : Nat)]))) := TK.upd d5 fun xs h => nomatch h
          refine k1 _ _ d5 ⟨ws5, us5, fun a o n1 n2 n3 h => by rw [upd_ne n3]; exact X5 _ _ n1 n2 (q1 a o n1 n2 n3 h), R5.kp tk (fun a xs n h => by rw [upd_ne (fun e => n (.inr e))]; exact h) (upd_ne (fun e => q5 e.symm)), K5.kp tk (upd_ne (fun e => q6 e.symm)), by rw [upd_same, acs], q5, q6, hD⟩
        unfold LcTurn
        walk_at "go"
        refine ⟨rfl, ?_⟩
        walk_at "go"
        cases o with
        | none =>
          have ko : y = .non := ko
          subst ko
          rw [decide_eq_true rfl]
          refine iteT ?_
          walk_at "go"
          exact back H4 ws4 us4 (fun _ _ _ _ h => h) q2 q3
        | some kk =>
          obtain ⟨b, rfl, hb⟩ := ko
          obtain ⟨xk, ak, bk⟩ := kk
          obtain ⟨e1, e2, e3, e4, e5⟩ := kid_of hal (List.mem_of_getElem? ho)
          rw [decide_eq_false (show ¬ V.ref b = V.non from fun h => nomatch h)]
          refine iteF ?_
          walk_at "go"
          refine ⟨tb, tr, fl, g, b, kn, z, l, ad, S, (xk, ak, bk), Or1 F D, ws4, us4, rfl, (B1.se (seJ J3)).se se34, FnD hD q1 q2.nd.o q3.nd.o q4, q2, q3, htk, hb.tk se34.tk, ⟨e4, Nat.le_trans e3 hko.2⟩, ?_, fun H5 ws5 us5 X5 R5 K5 _ => back H5 ws5 us5 X5 R5 K5⟩
          show mu xk ak bk < n + 1
          have : mu x s e < n + 1 := hmu
          omega
      · have se35 := seJ3 hD q1
        have SX35 : SX tr kn H3 H5 := fun a o n1 n2 h => q1 a o n1 n2 (fun e => by rw [e, hD] at h; cases h) h
        have J5 : CJ P w l (tx z) F tr kn H1 us 1000 H5 ws5 us5 := J3.step SX35 (q2.wide fun a h _ => .inl h) q3 fun u hu => .inr (kn_mu q3 t192 u hu)
        have B5 := B1.se (seJ J5)
        rw [List.take_of_length_le (by rw [vkl, kl]; exact Nat.le_refl _)] at q4
        walk_at "go"
        refine x_forLR q4 (fun j σ H' => ∃ v10, σ = [some (.ref tb), some (.ref kp), some (.int (m : Nat)), some (.ref kn), some (.int (r : Nat)), some (.ref c), some (.ref pk), v7, some (.ref D), some (.int (prd (((kidL (syms l r) cc).take j).map (szO (cntT l (tx z)))) : Nat)), v10, v11, v12] ∧ H' = H5)
          ⟨v10, rfl, rfl⟩ (fun j σ H' _ ⟨_, _, e⟩ => by rw [e]; exact q4) ?_ ?_
        · rintro j y σ H6 hj ⟨v10, rfl, rfl⟩
          obtain ⟨o, ho, rfl⟩ : ∃ o, (kidL (syms l r) cc)[j]? = some o ∧ y = V.int (szO (cntT l (tx z)) o : Nat) := by
            rw [List.getElem?_map] at hj
            obtain ⟨o, h1, h2⟩ := Option.map_eq_some_iff.mp hj
            exact ⟨o, h1, h2.symm⟩
          have tm : prd (((kidL (syms l r) cc).take (j + 1)).map (szO (cntT l (tx z)))) = prd (((kidL (syms l r) cc).take j).map (szO (cntT l (tx z)))) * szO (cntT l (tx z)) o := by
            rw [take_more ho, List.map_append, List.map_cons, List.map_nil, prd_snoc]
          walk_at "go"
          have w1 := prd_small t192 hko.2 hal j
          have w2 := szO_small t192 hko.2 hal (List.mem_of_getElem? ho)
          refine x_I (wide_mul (a := 6200) (b := 6200) (by rw [Int.natAbs_natCast]; exact w1) (by rw [Int.natAbs_natCast]; exact w2) (by decide) (by decide) (by decide)) ?_
          walk_at "go"
          rw [tm, ← Int.natCast_mul]
          exact ⟨_, rfl, rfl⟩
        · rintro σ H6 ⟨v10, rfl, rfl⟩
          rw [List.length_map, List.take_length]
          have et : prd ((kidL (syms l r) cc).map (szO (cntT l (tx z)))) = termK l (tx z) (r, cc) := rfl
          rw [et]
          walk_at "go"
          by_cases hlt : m < termK l (tx z) (r, cc)
          · rw [decide_eq_true (show (m : Int) < (termK l (tx z) (r, cc) : Nat) by omega)]
            refine iteT ?_
            walk_at "go"
            refine ⟨Nat.zero_le _, fun pp hpp => ?_⟩
            walk_at "go"
            have hpkv5 := se35 _ _ ne_lst hpkv
            have pt : pp ≠ tr := fun e => by have := J5.r.nd.o; rw [← e, hpp] at this; cases this
            have pn : pp ≠ kn := fun e => by have := J5.k.nd.o; rw [← e, hpp] at this; cases this
            have ppk : pk ≠ pp := fun e => by rw [e, hpp] at hpkv5; cases hpkv5
            have s56 : Same H6 (upd H6 pp (.lst [])) := Same.new hpp
            have FnP : ∀ {H' : Hp} {o1 o2 o3}, (∀ a o, a ≠ tr → a ≠ kn → a ≠ pp → H6 a = some o → H' a = some o) → H' tr = some o1 → H' kn = some o2 → H' pp = some o3 → ∀ a, Or1 F pp a → H' a ≠ none := fun {H' o1 o2 o3} X h1 h2 h3 a ha hn => by
              rcases ha with ha | ha
              · cases q : H6 a with
                | none => exact FnJ J5 a ha q
                | some o =>
                  by_cases c1 : a = tr
                  · rw [c1, h1] at hn; cases hn
                  · by_cases c2 : a = kn
                    · rw [c2, h2] at hn; cases hn
                    · rw [X a o c1 c2 (fun e => by rw [e, hpp] at q; cases q) q] at hn; cases hn
              · rw [ha, h3] at hn; cases hn
            have seP : ∀ {H' : Hp}, (∀ a o, a ≠ tr → a ≠ kn → a ≠ pp → H6 a = some o → H' a = some o) → SE H6 H' := fun {H'} X a o n h => X a o (fun e => by rw [e, J5.r.nd.o] at h; exact n _ (Option.some.inj h).symm) (fun e => by rw [e, J5.k.nd.o] at h; exact n _ (Option.some.inj h).symm) (fun e => by rw [e, hpp] at h; cases h) h
            have hcA6 : CutA H6 c cc := se35 _ _ ne_lst ((same_se s23) _ _ ne_lst hcA)
            refine x_forER (look1 hpkv5 hpp) (fun j σ H' => ∃ v7 v12 Ts vs ws' us' n', σ = [some (.ref tb), some (.ref kp), some (.int (n' : Nat)), some (.ref kn), some (.int (r : Nat)), some (.ref c), some (.ref pk), v7, some (.ref D), some (.int (prd (((kidL (syms l r) cc).drop j).map (szO (cntT l (tx z)))) : Nat)), v10, some (.ref pp), v12] ∧
                (∀ a o, a ≠ tr → a ≠ kn → a ≠ pp → H6 a = some o → H' a = some o) ∧ RowsOk P w l (tx z) (Or1 F pp) H' tr ws' ∧ KnOk P w l (tx z) H' kn us' ∧ H' pp = some (.lst vs) ∧ TreesAt (Or1 F pp) H' Ts vs ∧ vs.length = j ∧ n' < prd (((kidL (syms l r) cc).drop j).map (szO (cntT l (tx z)))) ∧
                trK l (tx z) (trT l (tx z)) (kidL (syms l r) cc) cc (termK l (tx z) (r, cc)) m = (trK l (tx z) (trT l (tx z)) ((kidL (syms l r) cc).drop j) (cc.drop j) (prd (((kidL (syms l r) cc).drop j).map (szO (cntT l (tx z))))) n').map (Ts ++ ·))
              ⟨v7, v12, [], [], ws5, us5, m, rfl, fun a o _ _ n h => by rw [upd_ne n]; exact h, ?_, J5.k.kp (same_tk s56) (upd_ne (fun e => pn e.symm)), upd_same, by unfold TreesAt; rfl, rfl, hlt, ?_⟩ (fun j σ H' _ ⟨_, _, _, _, _, _, _, _, X, _⟩ => seP X _ _ ne_lst hpkv5) ?_ ?_
            · exact (J5.r.wide (F' := Or1 F pp) fun a h hn => h.elim id fun e => absurd (by rw [e]; exact hpp) hn).same s56
            · rw [List.drop_zero, List.drop_zero, et]
              show _ = Option.map (fun x => [] ++ x) _
              simp
            · rintro j y σ H8 U hj ⟨v7, v12, Ts, vs, ws8, us8, n', rfl, X8, R8, K8, hpp8, hTs, hvl, hn', hfull⟩ hU
              obtain ⟨o, ho, ko⟩ := Paired.at' hK hj
              have hj4 : j < (syms l r).length := by rw [← kl]; exact (List.getElem?_eq_some_iff.mp ho).1
              obtain ⟨a, b, ca, cb, _, _, hbe, hkj⟩ := (cuts_spec hcm).2.2.2 j _ (List.getElem?_eq_getElem hj4)
              have eo : o = kidO (syms l r)[j] a b := by rw [ho] at hkj; exact Option.some.inj hkj
              have hmo := List.mem_of_getElem? ho
              have pd := prd_drop (kidL (syms l r) cc) (szO (cntT l (tx z))) j o ho
              have opos := szO_pos hal hmo
              have osm := szO_small t192 hko.2 hal hmo
              have dsm := prd_smallD t192 hko.2 hal (j + 1)
              have dpos : 0 < prd (((kidL (syms l r) cc).drop (j + 1)).map (szO (cntT l (tx z)))) := by
                refine Nat.pos_of_ne_zero fun e0 => ?_
                rw [pd, e0, Nat.mul_zero] at hn'
                exact Nat.not_lt_zero _ hn'
              have ediv : prd (((kidL (syms l r) cc).drop j).map (szO (cntT l (tx z)))) / szO (cntT l (tx z)) o = prd (((kidL (syms l r) cc).drop (j + 1)).map (szO (cntT l (tx z)))) := by rw [pd, Nat.mul_div_cancel_left _ opos]
              have s8U : Same H8 (upd H8 U (.tup [.int (j : Nat), y])) := Same.new hU
              have q48 := X8 D _ q5 q6 (fun e => by rw [e, hpp] at q4; cases q4) q4
              have ixD : atI ((kidL (syms l r) cc).map fun o => V.int (szO (cntT l (tx z)) o : Nat)) (j : Int) = some (.int (szO (cntT l (tx z)) o : Nat)) := atI_nat (by rw [List.getElem?_map, ho]; rfl)
              have B8 := B5.se (seP X8)
              obtain ⟨dx8, hI8⟩ := B8.I
              have hsp8 := B8.A.rep.gSp
              dsimp only at hsp8
              have cl' := T.spF.cl
              have nn2 := T.spF.n2
              have hcA8 : H8 c = some (.lst (nats cc)) := seP X8 _ _ ne_lst hcA6
              walk_at "go"
              refine x_I (wide_div (b := 6200) (by omega) (by rw [Int.natAbs_natCast]; exact osm) (by decide) (by decide)) ?_
              walk_at "go"
              rw [← Int.natCast_ediv, ediv]
              -- behind the part that is appended
              have fin : ∀ (kt : K38.T) (v v7' : V) (H9 : Hp) (ws9 us9 : NW), (∀ a o, a ≠ tr → a ≠ kn → a ≠ pp → H6 a = some o → H9 a = some o) → RowsOk P w l (tx z) (Or1 F pp) H9 tr ws9 → KnOk P w l (tx z) H9 kn us9 → H9 pp = some (.lst vs) → TreesAt (Or1 F pp) H9 Ts vs → TreeAt (Or1 F pp) H9 kt v →
                  partK l (tx z) a b (n' / (prd (((kidL (syms l r) cc).drop j).map (szO (cntT l (tx z)))) / szO (cntT l (tx z)) o)) o = some kt →
                  ∃ v7 v12 Ts vs' ws' us' n'', [some (V.ref tb), some (.ref kp), some (.int ((n' % prd (((kidL (syms l r) cc).drop (j + 1)).map (szO (cntT l (tx z)))) : Nat))), some (.ref kn), some (.int (r : Nat)), some (.ref c), some (.ref pk), some v7', some (.ref D), some (.int (prd (((kidL (syms l r) cc).drop (j + 1)).map (szO (cntT l (tx z)))) : Nat)), v10, some (.ref pp), some (.int (j : Nat))] =
                      [some (V.ref tb), some (.ref kp), some (.int (n'' : Nat)), some (.ref kn), some (.int (r : Nat)), some (.ref c), some (.ref pk), v7, some (.ref D), some (.int (prd (((kidL (syms l r) cc).drop (j + 1)).map (szO (cntT l (tx z)))) : Nat)), v10, some (.ref pp), v12] ∧
                    (∀ a o, a ≠ tr → a ≠ kn → a ≠ pp → H6 a = some o → (upd H9 pp (.lst (vs ++ [v]))) a = some o) ∧ RowsOk P w l (tx z) (Or1 F pp) (upd H9 pp (.lst (vs ++ [v]))) tr ws' ∧ KnOk P w l (tx z) (upd H9 pp (.lst (vs ++ [v]))) kn us' ∧ (upd H9 pp (.lst (vs ++ [v]))) pp = some (.lst vs') ∧ TreesAt (Or1 F pp) (upd H9 pp (.lst (vs ++ [v]))) Ts vs' ∧ vs'.length = j + 1 ∧
                    n'' < prd (((kidL (syms l r) cc).drop (j + 1)).map (szO (cntT l (tx z)))) ∧
                    trK l (tx z) (trT l (tx z)) (kidL (syms l r) cc) cc (termK l (tx z) (r, cc)) m = (trK l (tx z) (trT l (tx z)) ((kidL (syms l r) cc).drop (j + 1)) (cc.drop (j + 1)) (prd (((kidL (syms l r) cc).drop (j + 1)).map (szO (cntT l (tx z))))) n'').map (Ts ++ ·) := fun kt v v7' H9 ws9 us9 X9 R9 K9 hpp9 hT9 hk9 hm9 => by
                have tk : TK H9 (upd H9 pp (.lst (vs ++ [v]))) := TK.upd hpp9 fun xs h => nomatch h
                have lk : LK (Or1 F pp) H9 (upd H9 pp (.lst (vs ++ [v]))) := fun a xs n h => by rw [upd_ne (fun e => n (.inr e))]; exact h
                refine ⟨some v7', some (.int (j : Nat)), Ts ++ [kt], vs ++ [v], ws9, us9, _, rfl, fun a o n1 n2 n3 h => by rw [upd_ne n3]; exact X9 a o n1 n2 n3 h, R9.kp tk lk (upd_ne (fun e => pt e.symm)), K9.kp tk (upd_ne (fun e => pn e.symm)), upd_same, TreesAt.snoc (TreeAt.kp tk lk hk9) (TreesAt.kp tk lk hT9), by rw [List.length_append, hvl]; rfl, Nat.mod_lt _ dpos, ?_⟩
                have e1 := drop_get ho
                have e3 := drop_get cb
                have e2 : cc.drop j = a :: b :: cc.drop (j + 2) := by rw [drop_get ca, e3]
                have hs := trK_part l (tx z) o ((kidL (syms l r) cc).drop (j + 1)) a b (cc.drop (j + 2)) _ n' kt hm9
                rw [ediv, ← e1, ← e2, show b :: cc.drop (j + 2) = cc.drop (j + 1) from e3.symm] at hs
                rw [hfull, hs, Option.map_map]
                congr 1
                funext u
                simp
              cases o with
              | none =>
                have ko : y = .non := ko
                subst ko
                walk_at "go"
                rw [decide_eq_true rfl]
                refine iteT ?_
                have ixa : atI (nats cc) (j : Int) = some (.int (a : Nat)) := atI_nat (by unfold nats; rw [List.getElem?_map, ca]; rfl)
                have ixb : atI (nats cc) ((j : Int) + 1) = some (.int (b : Nat)) := by
                  rw [show ((j : Int) + 1) = ((j + 1 : Nat) : Int) by omega]
                  exact atI_nat (by unfold nats; rw [List.getElem?_map, cb]; rfl)
                walk_at "go"
                refine ⟨z, rfl, small__ (by have := B.few; omega), ?_⟩
                walk_at "go"
                refine x_append (s8U _ _ hpp8) (small_ (by omega)) ?_
                walk_at "go"
                refine x_I (show (0 : Int) < _ by omega) ?_
                walk_at "go"
                rw [← Int.natCast_emod]
                exact fin (.leaf (sl (tx z) a b)) _ _ _ ws8 us8 (fun a o n1 n2 n3 h => s8U _ _ (X8 a o n1 n2 n3 h)) (R8.same s8U) (K8.kp (same_tk s8U) (by rw [K8.nd.o]; exact s8U _ _ K8.nd.o)) (s8U _ _ hpp8) (TreesAt.kp (same_tk s8U) (same_se s8U).lk hTs) (by unfold TreeAt; exact ⟨_, rfl, tx_cut⟩) rfl
              | some kk =>
                obtain ⟨bb, rfl, hb⟩ := ko
                obtain ⟨xk, ak, bk⟩ := kk
                obtain ⟨e1, e2, e3, e4, e5⟩ := kid_of hal hmo
                walk_at "go"
                rw [decide_eq_false (show ¬ V.ref bb = V.non from fun h => nomatch h)]
                refine iteF ?_
                have hpp8U := s8U _ _ hpp8
                walk_at "go"
                refine x_I (wide_div (b := 6200) (by omega) (by rw [Int.natAbs_natCast]; exact dsm) (by decide) (by decide)) ?_
                walk_at "go"
                rw [← Int.natCast_ediv]
                have R8U := R8.same s8U
                have K8U : KnOk P w l (tx z) (upd H8 U (.tup [.int (j : Nat), .ref bb])) kn us8 := K8.kp (same_tk s8U) (by rw [K8.nd.o]; exact s8U _ _ K8.nd.o)
                have X8U : ∀ a o, a ≠ tr → a ≠ kn → a ≠ pp → H6 a = some o → (upd H8 U (.tup [.int (j : Nat), .ref bb])) a = some o := fun a o n1 n2 n3 h => s8U _ _ (X8 a o n1 n2 n3 h)
                have hb8 := (hb.tk se35.tk).tk (seP X8U).tk
                walk_at "go"
                refine ⟨tb, tr, fl, g, bb, kn, z, l, ad, S, (xk, ak, bk), Or1 F pp, ws8, us8, _, rfl, B5.se (seP X8U), FnP X8U R8U.nd.o K8U.nd.o hpp8U, R8U, K8U, htk, hb8, ⟨e4, Nat.le_trans e3 hko.2⟩, ?_, .inl ⟨?_, fun H9 ws9 us9 v Tv X9 R9 K9 hT9 hA9 _ => ?_⟩⟩
                · show mu xk ak bk < n
                  have : mu x s e < n + 1 := hmu
                  omega
                · refine Nat.div_lt_of_lt_mul ?_
                  rw [Nat.mul_comm, ← show prd (((kidL (syms l r) cc).drop j).map (szO (cntT l (tx z)))) = cntK l (tx z) (xk, ak, bk) * prd (((kidL (syms l r) cc).drop (j + 1)).map (szO (cntT l (tx z)))) from pd]
                  exact hn'
                · have hpp9 := X9 _ _ pt pn hpp8U
                  walk_at "go"
                  refine x_append hpp9 (small_ (by omega)) ?_
                  walk_at "go"
                  refine x_I (show (0 : Int) < _ by omega) ?_
                  walk_at "go"
                  rw [← Int.natCast_emod]
                  have se9 : SE (upd H8 U (.tup [.int (j : Nat), .ref bb])) H9 := X9.se R8U.nd.o K8U.nd.o
                  refine fin Tv v _ H9 ws9 us9 (fun a o n1 n2 n3 h => X9 _ _ n1 n2 (X8U a o n1 n2 n3 h)) R9 K9 hpp9 (TreesAt.kp se9.tk se9.lk (TreesAt.kp (same_tk s8U) (same_se s8U).lk hTs)) hA9 ?_
                  rw [ediv]
                  exact hT9
            · rintro σ H8 ⟨v7, v12, Ts, vs, ws8, us8, n', rfl, X8, R8, K8, hpp8, hTs, hvl, hn', hfull⟩
              have vk0 : (kidL (syms l r) cc).drop vk.length = [] := List.drop_of_length_le (by rw [vkl, kl]; exact Nat.le_refl _)
              rw [vk0] at hfull
              walk_at "go"
              refine ⟨by show 3 ≤ sizeLine; decide, fun q hq => ?_⟩
              have s8q : Same H8 (upd H8 q (.tup [.str "node", .int (r : Nat), .ref pp])) := Same.new hq
              have hres : trK l (tx z) (trT l (tx z)) (kidL (syms l r) cc) cc (termK l (tx z) (r, cc)) m = some Ts := by
                rw [hfull]
                unfold trK
                simp
              refine k _ ws8 us8 _ (.node r Ts) (fun a o n1 n2 h => s8q _ _ (X8 a o n1 n2 (fun e => ?_) (SX35 _ _ n1 n2 (s23 _ _ (J2.x _ _ n1 n2 (X1 _ _ n1 h)))))) ((R8.wide fun a h _ => .inl h).same s8q) (K8.kp (same_tk s8q) (by rw [K8.nd.o]; exact s8q _ _ K8.nd.o)) ?_ ?_ ⟨q, rfl⟩
              · rw [e] at h
                have := SX35 _ _ pt pn (s23 _ _ (J2.x _ _ pt pn (X1 _ _ pt h)))
                rw [hpp] at this; cases this
              · rw [htr, hT, hdr, trA_take l (tx z) _ r cc _ m hlt]
                rw [show prd ((kidL (syms l r) cc).map (szO (cntT l (tx z)))) = termK l (tx z) (r, cc) from rfl, hres]
                rfl
              · unfold TreeAt
                refine ⟨q, pp, vs, rfl, fun h => FnJ J5 pp h hpp, upd_same, s8q _ _ hpp8, TreesAt.wide (fun a h _ => .inl h) (TreesAt.kp (same_tk s8q) (same_se s8q).lk hTs)⟩
          · rw [decide_eq_false (show ¬ (m : Int) < (termK l (tx z) (r, cc) : Nat) by omega)]
            refine iteF ?_
            walk_at "go"
            rw [show ((m : Int) - (termK l (tx z) (r, cc) : Nat)) = ((m - termK l (tx z) (r, cc) : Nat) : Int) by omega]
            refine ⟨_, _, _, _, _, _, _, _, _, ws5, us5, m - termK l (tx z) (r, cc), rfl, J5, ?_, ?_⟩
            · rw [hdr, List.map_cons, List.sum_cons] at hm
              omega
            · rw [hT, hdr]
              exact trA_skip l (tx z) _ r cc _ m hlt
    · rintro σ H2 ⟨v4, v5, v6, v7, v8, v9, v10, v11, v12, ws2, us2, m, rfl, J2, hm, hT⟩
      rw [List.length_map, Paired.length hP, List.drop_length] at hm
      exact absurd hm (by simp)
  · rw [hnil] at hP
    cases hP
    refine x_forLR hp (fun i σ H' => H' = H1) rfl (fun i σ H' _ e => by rw [e]; exact hp) (fun i x σ H' hx _ => by simp at hx) (fun σ H' e => ?_)
    subst e
    exact k _ fun a o n1 n2 h => X1 _ _ n1 h
end
section
variable {P : Program} {w : World} {K : PySem.W.Frag} {mg : Str → Option Value} {base : Heap}
abbrev Old (H : Hp) : Addr → Prop := fun a => H a ≠ none
noncomputable abbrev topK (z : Str) : K3 := (.p, 0, (tx z).length)
def spTree : Sp := fun vs H Q _ => ∃ (g fl : Addr) (z : Str) (l : Bool) (num : Nat), vs = [.ref g, .ref fl, .str z, .int (num : Nat)] ∧ GramAt H l g ∧ H fl = some (.lst []) ∧ z.length ≤ 192 ∧ num < cntK l (tx z) (topK z) ∧
  ∀ H' v Tt, Same H H' → trK3 l (tx z) (topK z) num = some Tt → TreeAt (Old H) H' Tt v → (∃ a, v = .ref a) → Q v H'
theorem ok_tree (T : TX K mg) (G_spans_of : FnOk P w K mg base CX0 5 T.f_spans_of T.d_spans_of ["grammar", "text"] (spSO T.C_Spans))
    (G_table_of : FnOk P w K mg base CX0 3 T.f_table_of T.d_table_of ["grammar", "filters", "spans"] (spTO P w T.C_Table T.C_Spans))
    (G_built : FnOk P w K mg base (L2.CX P w) 203 T.f_built T.d_built ["table", "key", "number", "known"] (spBuilt P w T.C_Table T.C_Spans T.C_TreeError 194)) :
    FnOk P w K mg base CX0 204 T.f_tree T.d_tree ["grammar", "filters", "text", "number"] spTree := by
  refine T.F_tree.ok sc_tree (fun vs H Q E h => ?_) (fun cdv A outer s H vs Q E hr h => ?_)
  · obtain ⟨g, fl, z, l, num, rfl, _⟩ := h
    rfl
  obtain ⟨g, fl, z, l, num, rfl, hg, hfl, hz, hnum, k⟩ := h
  refine ⟨_, (pss_cons (ps_asg (pe_call G_table_of (hr.mono (by decide)) (by rfl) T.m_table_of T.F_table_of.kp T.b_table_of .nil pass0 (pa_cons (pv 0) (pa_cons (pv 1) (pa_cons (pe_call G_spans_of (hr.mono (by decide)) (by rfl) T.m_spans_of T.F_spans_of.kp T.b_spans_of .nil pass0 (pa_cons (pv 0) (pa_cons (pv 2) pa_nil))) pa_nil)))) (kpg_tup K 2 rfl (pgs_cons (pg_name (i := 4) sc_tree.nd rfl (Or.inl rfl)) (pgs_cons (pg_name (i := 5) sc_tree.nd rfl (Or.inl rfl)) pgs_nil))))
  (pss_one (ps_ret (pe_call G_built (hr.mono (by decide)) (by rfl) T.m_built T.F_built.kp T.b_built .nil passL (pa_cons (pv 4) (pa_cons (pv 5) (pa_cons (pv 3) (pa_cons (kdnewN P w) pa_nil)))))))), ?_⟩
  walk_at "go"
  refine ⟨g, z, l, rfl, hg, by omega, fun H1 ad S A1 G1 W1 _ => ?_⟩
  have s1 := A1.same
  walk_at "go"
  have G1 : Good l (tx z) ((tx z).length + 1) 0 S := by rw [← len_tx]; exact G1
  refine ⟨g, fl, z, l, ad, S, rfl, s1 _ _ hfl, A1.down same_emp, hg.same s1, G1, hz, fun H2 q tb tr kp s2 hq hqv htb htr B2 N2 hkp => ?_⟩
  walk_at "go"
  refine x_newN fun kn hkn => ?_
  walk_at "go"
  have s3 : Same H2 (upd H2 kn (NdO P w kn [])) := Same.new hkn
  have tk : tr ≠ kn := fun e => by have := N2.o; rw [e, hkn] at this; cases this
  have hn : (tx z).length ≤ 192 := by rw [← len_tx]; exact hz
  have s03 := (s1.trans s2).trans s3
  refine ⟨tb, tr, fl, g, kp, kn, z, l, ad, S, topK z, Old H, [], [], num, rfl, B2.se (same_se s3), (fun a h hn => h (s03.free hn)), (rows0 N2).same s3, kn0 nd0, tk, hkp.tk (same_tk s3), ⟨Nat.zero_le _, Nat.le_refl _⟩, ?_, .inl ⟨hnum, fun H4 ws us v Tt X4 _ _ hT hA ev => ?_⟩⟩
  · show mu .p 0 _ < 194
    simp only [mu]; omega
  · refine k H4 v Tt (fun a o h => X4 _ _ (fun e => ?_) (fun e => ?_) (s03 _ _ h)) hT hA ev
    · rw [e] at h; have := s1 _ _ h; rw [htr] at this; cases this
    · rw [e] at h; have := s2 _ _ (s1 _ _ h); rw [hkn] at this; cases this
def rdF (g fl : Addr) (z : Str) (sp : Addr) (md : Nat) : List (Str × V) := [("grammar", .ref g), ("filters", .ref fl), ("text", .str z), ("spans", .ref sp), ("made", .int (md : Nat))]
structure RdC (K : PySem.W.Frag) (C : Addr) : Prop where
  cl : Cls K C
  n1 : NoAttr K C "grammar"
  n2 : NoAttr K C "filters"
  n3 : NoAttr K C "text"
  n4 : NoAttr K C "spans"
  n5 : NoAttr K C "made"
theorem TX.rdC (T : TX K mg) : RdC K T.C_Reading := ⟨T.cl_Reading, T.n_Reading_grammar, T.n_Reading_filters, T.n_Reading_text, T.n_Reading_spans, T.n_Reading_made⟩
/-- a Reading, its text read whole -/
structure ReadA (C Cs : Addr) (H : Hp) (rd fl g : Addr) (z : Str) (l : Bool) (ad : Role → Addr) (S : SS) (md : Nat) : Prop where
  I : ∃ dx, H rd = some (.ins C dx (rdF g fl z (ad .sp) md))
  F : H fl = some (.lst [])
  A : SpA Cs g z Emp H ad S
  G : GramAt H l g
  good : Good l (tx z) ((tx z).length + 1) 0 S
  wb : WB ((tx z).length + 1) 0 S
  few : z.length ≤ 192
theorem ReadA.se {C Cs H H' rd fl g z l ad S md} (B : ReadA C Cs H rd fl g z l ad S md) (s : SE H H') : ReadA C Cs H' rd fl g z l ad S md := by
  obtain ⟨⟨dx, h1⟩, h2, h3, h4, h5, h6, h7⟩ := B
  exact ⟨⟨dx, s _ _ ne_ins h1⟩, s _ _ ne_lst h2, h3.se s, h4.se s, h5, h6, h7⟩
def spRI (C Cs : Addr) : Sp := fun vs H Q _ => ∃ (rd g fl dx : Addr) (z : Str) (ad : Role → Addr) (S : SS), vs = [.ref rd, .ref g, .ref fl, .ref (ad .sp)] ∧ H rd = some (.ins C dx []) ∧ SpA Cs g z Emp H ad S ∧ rd ≠ ad .sp ∧
  ∀ H', SameX rd H H' → H' rd = some (.ins C dx (rdF g fl z (ad .sp) S.md)) → Q .non H'
theorem ok_Rinit (T : TX K mg) : FnOk P w K mg base CX0 1 T.f_Reading_init T.d_Reading_init ["self", "grammar", "filters", "spans"] (spRI T.C_Reading T.C_Spans) := by
  refine T.F_Reading_init.ok sc_Reading_init (fun vs H Q E h => ?_) (fun cdv A outer s H vs Q E hr h => ?_)
  · obtain ⟨rd, g, fl, dx, z, ad, S, rfl, _⟩ := h
    rfl
  obtain ⟨rd, g, fl, dx, z, ad, S, rfl, hrd, A0, nsp, k⟩ := h
  refine ⟨_, (pss_cons (kfldS K (pv 0) (pv 1) rfl)
  (pss_cons (kfldS K (pv 0) (pv 2) rfl)
  (pss_cons (kfldS K (pv 0) (kfld K (pv 3) rfl) rfl)
  (pss_cons (kfldS K (pv 0) (pv 3) rfl)
  (pss_one (kfldS K (pv 0) (kfld K (pv 3) rfl) rfl)))))), ?_⟩
  obtain ⟨cl, n1, n2, n3, n4, n5⟩ := T.rdC
  obtain ⟨cl', m1, m2, m3, m4, m5, m6, m7, m8, m9⟩ := T.spF
  have hsp := A0.rep.gSp
  dsimp only at hsp
  have up : ∀ fs, (upd H rd (.ins T.C_Reading dx fs)) (ad .sp) = some _ := fun fs => (upd_ne (fun e => nsp e.symm)).trans hsp
  walk_at "go"
  refine x_setFR hrd cl n1 (by show 0 < 1000; decide) ?_
  walk_at "go"
  refine x_setFR upd_same cl n2 (by show 1 < 1000; decide) ?_
  rw [upd_upd]
  have u2 := up (putF ("filters" : Str) (V.ref fl) (putF ("grammar" : Str) (V.ref g) []))
  walk_at "go"
  refine x_setFR upd_same cl n3 (by show 2 < 1000; decide) ?_
  rw [upd_upd]
  walk_at "go"
  refine x_setFR upd_same cl n4 (by show 3 < 1000; decide) ?_
  rw [upd_upd]
  generalize hfs : putF ("spans" : Str) (V.ref (ad .sp)) _ = fs
  have u4 := up fs
  walk_at "go"
  refine x_setFR upd_same cl n5 (by rw [← hfs]; show 4 < 1000; decide) ?_
  rw [upd_upd]
  refine k _ SameX.upd ?_
  rw [upd_same, ← hfs]
  rfl
end
section
variable {P : Program} {w : World} {K : PySem.W.Frag} {mg : Str → Option Value} {base : Heap}
def spRT (C Cs Ce : Addr) : Sp := fun vs H Q E => ∃ (rd fl g : Addr) (z : Str) (l : Bool) (ad : Role → Addr) (S : SS) (md num : Nat), vs = [.ref rd, .int (num : Nat)] ∧ ReadA C Cs H rd fl g z l ad S md ∧
  ((num < cntK l (tx z) (topK z) ∧ ∀ H' v Tt, Same H H' → trK3 l (tx z) (topK z) num = some Tt → TreeAt (Old H) H' Tt v → (∃ a, v = .ref a) → Q v H') ∨
   (altK l (tx z) (topK z) = [] ∧ ∀ H', Same H H' → E (.ref Ce) none H'))
theorem ok_Rtree (T : TX K mg) (G_table_of : FnOk P w K mg base CX0 3 T.f_table_of T.d_table_of ["grammar", "filters", "spans"] (spTO P w T.C_Table T.C_Spans))
    (G_built : FnOk P w K mg base (L2.CX P w) 203 T.f_built T.d_built ["table", "key", "number", "known"] (spBuilt P w T.C_Table T.C_Spans T.C_TreeError 194)) :
    FnOk P w K mg base (L2.CX P w) 204 T.f_Reading_tree T.d_Reading_tree ["self", "number"] (spRT T.C_Reading T.C_Spans T.C_TreeError) := by
  refine T.F_Reading_tree.okX sc_Reading_tree (fun vs H Q E h => ?_) (fun cdv A outer s H vs Q E hr h => ?_)
  · obtain ⟨rd, fl, g, z, l, ad, S, md, num, rfl, _⟩ := h
    rfl
  obtain ⟨rd, fl, g, z, l, ad, S, md, num, rfl, B, k⟩ := h
  refine ⟨_, (pss_cons (ps_asg (pe_call G_table_of (hr.mono (by decide)) (by rfl) T.m_table_of T.F_table_of.kp T.b_table_of .nil pass0 (pa_cons (kfld K (pv 0) rfl) (pa_cons (kfld K (pv 0) rfl) (pa_cons (kfld K (pv 0) rfl) pa_nil)))) (kpg_tup K 2 rfl (pgs_cons (pg_name (i := 2) sc_Reading_tree.nd rfl (Or.inl rfl)) (pgs_cons (pg_name (i := 3) sc_Reading_tree.nd rfl (Or.inl rfl)) pgs_nil))))
  (pss_one (ps_ret (pe_call G_built (hr.mono (by decide)) (by rfl) T.m_built T.F_built.kp T.b_built .nil (passes_call (takes_of rfl rfl rfl rfl) (fun _ _ _ _ h => h)) (pa_cons (pv 2) (pa_cons (pv 3) (pa_cons (pv 1) (pa_cons (kdnewN P w) pa_nil)))))))), ?_⟩
  obtain ⟨cl, n1, n2, n3, n4, n5⟩ := T.rdC
  obtain ⟨⟨dx, hI⟩, hF, A0, hg, G1, W1, hz⟩ := B
  walk_at "go"
  refine ⟨g, fl, z, l, ad, S, rfl, hF, A0, hg, G1, hz, fun H2 q tb tr kp s2 hq hqv htb htr B2 N2 hkp => ?_⟩
  walk_at "go"
  refine x_newN fun kn hkn => ?_
  walk_at "go"
  have s3 : Same H2 (upd H2 kn (NdO P w kn [])) := Same.new hkn
  have tk : tr ≠ kn := fun e => by have := N2.o; rw [e, hkn] at this; cases this
  have hn : (tx z).length ≤ 192 := by rw [← len_tx]; exact hz
  have s03 := s2.trans s3
  have back : ∀ {H4}, SX tr kn (upd H2 kn (NdO P w kn [])) H4 → Same H H4 := fun X4 a o h => X4 _ _ (fun e => by rw [e, htr] at h; cases h) (fun e => by rw [e] at h; have := s2 _ _ h; rw [hkn] at this; cases this) (s03 _ _ h)
  refine ⟨tb, tr, fl, g, kp, kn, z, l, ad, S, topK z, Old H, [], [], num, rfl, B2.se (same_se s3), (fun a h hn => h (s03.free hn)), (rows0 N2).same s3, kn0 nd0, tk, hkp.tk (same_tk s3), ⟨Nat.zero_le _, Nat.le_refl _⟩, ?_, ?_⟩
  · show mu .p 0 _ < 194
    simp only [mu]; omega
  · rcases k with ⟨hnum, k⟩ | ⟨hnil, k⟩
    · exact .inl ⟨hnum, fun H4 ws us v Tt X4 _ _ hT hA ev => k H4 v Tt (back X4) hT hA ev⟩
    · exact .inr ⟨hnil, fun H4 X4 => k H4 (back X4)⟩
def spRead (C Cs : Addr) : Sp := fun vs H Q _ => ∃ (g fl : Addr) (z : Str) (l : Bool), vs = [.ref g, .ref fl, .str z] ∧ GramAt H l g ∧ H fl = some (.lst []) ∧ z.length ≤ 192 ∧
  ∀ H' rd ad S, Same H H' → ReadA C Cs H' rd fl g z l ad S (z.length + 1) → Q (.ref rd) H'
theorem ok_read (T : TX K mg) (G_spans_of : FnOk P w K mg base CX0 5 T.f_spans_of T.d_spans_of ["grammar", "text"] (spSO T.C_Spans))
    (G_Reading_init : FnOk P w K mg base CX0 1 T.f_Reading_init T.d_Reading_init ["self", "grammar", "filters", "spans"] (spRI T.C_Reading T.C_Spans)) :
    FnOk P w K mg base CX0 6 T.f_read T.d_read ["grammar", "filters", "text"] (spRead T.C_Reading T.C_Spans) := by
  refine T.F_read.ok sc_read (fun vs H Q E h => ?_) (fun cdv A outer s H vs Q E hr h => ?_)
  · obtain ⟨g, fl, z, l, rfl, _⟩ := h
    rfl
  obtain ⟨g, fl, z, l, rfl, hg, hfl, hz, k⟩ := h
  refine ⟨_, (pss_one (ps_ret (pe_make T.mk_Reading G_Reading_init (hr.mono (by decide)) (by rfl) T.mC_Reading T.b_Reading_init .nil pass0 (pa_cons (pv 0) (pa_cons (pv 1) (pa_cons (pe_call G_spans_of (hr.mono (by decide)) (by rfl) T.m_spans_of T.F_spans_of.kp T.b_spans_of .nil pass0 (pa_cons (pv 0) (pa_cons (pv 2) pa_nil))) pa_nil)))))), ?_⟩
  walk_at "go"
  refine x_make ?_
  walk_at "go"
  refine ⟨g, z, l, rfl, hg, by omega, fun H1 ad S A1 G1 W1 md1 => ?_⟩
  have s1 := A1.same
  have G1 : Good l (tx z) ((tx z).length + 1) 0 S := by rw [← len_tx]; exact G1
  have W1 : WB ((tx z).length + 1) 0 S := by rw [← len_tx]; exact W1
  walk_at "go"
  intro rd dx hrd hdx nds
  have s2 : Same H1 (upd (upd H1 dx (.own rd)) rd (.ins T.C_Reading dx [])) := (Same.new hdx).trans (Same.new (by rw [upd_ne (fun e => nds e.symm)]; exact hrd))
  have hsp := A1.rep.gSp
  have nsp : rd ≠ ad .sp := fun e => by
    have hsp : H1 (ad .sp) = _ := hsp
    rw [← e, hrd] at hsp; cases hsp
  refine ⟨rd, g, fl, dx, z, ad, S, rfl, upd_same, (A1.down same_emp).se (same_se s2), nsp, fun H3 X3 h3 => ⟨rfl, ?_⟩⟩
  have s13 : Same H1 H3 := fun a o h => X3 _ _ (fun e => by rw [e, hrd] at h; cases h) (s2 _ _ h)
  have s03 := s1.trans s13
  rw [md1] at h3
  exact k H3 rd ad S s03 ⟨⟨dx, h3⟩, s03 _ _ hfl, (A1.down same_emp).se (same_se s13), hg.same s03, G1, W1, hz⟩
def spCheck : Sp := fun vs H Q _ => ∃ (z y : Str) (e : Addr) (a r : Nat), vs = [.str z, .ref e] ∧ H e = some (.tup [.int (a : Nat), .int (r : Nat), .str y]) ∧ a + r ≤ z.length ∧ z.length ≤ 1000 ∧ Q .non H
theorem ok_check (T : TX K mg) : FnOk P w K mg base CX0 1 T.f_check_edit T.d_check_edit ["text", "edit"] spCheck := by
  refine T.F_check_edit.ok sc_check_edit (fun vs H Q E h => ?_) (fun cdv A outer s H vs Q E hr h => ?_)
  · obtain ⟨z, y, e, a, r, rfl, _⟩ := h
    rfl
  · obtain ⟨z, y, e, a, r, rfl, he, hl, hz, k⟩ := h
    refine ⟨_, (pss_one (ps_if (PW.pt (pw_or (pt_cmpR op_lt (pe_ix (kx_tup K) (pv 1) pe_int (fun _ _ => rfl)) pe_int (nomark _)) (pw_or (pt_cmpR op_lt (pe_ix (kx_tup K) (pv 1) pe_int (fun _ _ => rfl)) pe_int (nomark _)) (pw_or1 (pt_cmpR op_gt (pe_op op_add (pe_ix (kx_tup K) (pv 1) pe_int (fun _ _ => rfl)) (pe_ix (kx_tup K) (pv 1) pe_int (fun _ _ => rfl))) (pe_callB cl_lenS (by rfl) T.z_len (by decide +kernel) (pa_cons (pv 0) pa_nil)) (nomark _))))))
  (pss_one ps_never)
  pss_nil)), ?_⟩
    walk_at "go"
    rw [decide_eq_false (show ¬ ((a : Int) < 0) by omega)]
    refine iteF ?_
    walk_at "go"
    rw [decide_eq_false (show ¬ ((r : Int) < 0) by omega)]
    refine iteF ?_
    walk_at "go"
    rw [decide_eq_false (show ¬ ((z.length : Int) < (a : Int) + r) by omega)]
    refine iteF ?_
    walk_at "go"
    exact k
def editT (t : Tx) (a r : Nat) (y : Tx) : Tx := t.take a ++ y ++ t.drop (a + r)
def spApp : Sp := fun vs H Q _ => ∃ (z y : Str) (e : Addr) (a r : Nat), vs = [.str z, .ref e] ∧ H e = some (.tup [.int (a : Nat), .int (r : Nat), .str y]) ∧ a + r ≤ z.length ∧ z.length ≤ 1000 ∧ y.length ≤ 1000 ∧ ∀ z', tx z' = editT (tx z) a r (tx y) → Q (.str z') H
theorem ok_applied (T : TX K mg) (G_check_edit : FnOk P w K mg base CX0 1 T.f_check_edit T.d_check_edit ["text", "edit"] spCheck) : FnOk P w K mg base CX0 2 T.f_applied T.d_applied ["text", "edit"] spApp := by
  refine T.F_applied.ok sc_applied (fun vs H Q E h => ?_) (fun cdv A outer s H vs Q E hr h => ?_)
  · obtain ⟨z, y, e, a, r, rfl, _⟩ := h
    rfl
  · obtain ⟨z, y, e, a, r, rfl, he, hl, hz, hy, k⟩ := h
    refine ⟨_, (pss_cons (ps_expr (pe_call G_check_edit (hr.mono (by decide)) (by rfl) T.m_check_edit T.F_check_edit.kp T.b_check_edit .nil pass0 (pa_cons (pv 0) (pa_cons (pv 1) pa_nil))))
  (pss_one (ps_ret (pe_op or_addS (pe_op or_addS (pe_slice sl_str (pv 0) po_none (po_some (pe_ix (kx_tup K) (pv 1) pe_int (fun _ _ => rfl)))) (pe_ix (kx_tup K) (pv 1) pe_int (fun _ _ => rfl))) (pe_slice sl_str (pv 0) (po_some (pe_op op_add (pe_ix (kx_tup K) (pv 1) pe_int (fun _ _ => rfl)) (pe_ix (kx_tup K) (pv 1) pe_int (fun _ _ => rfl)))) po_none))))), ?_⟩
    walk_at "go"
    refine ⟨z, y, e, a, r, rfl, he, hl, hz, ?_⟩
    walk_at "go"
    refine ⟨z, rfl, small__ (by omega), ?_⟩
    have l1 : (cutS z none (some (a : Int))).length ≤ 1000 := by rw [len_tx, tx_cutTo, List.length_take]; omega
    have l2 : (cutS z (some ((a : Int) + (r : Int))) none).length ≤ 1000 := by
      rw [show ((a : Int) + (r : Int)) = ((a + r : Nat) : Int) by omega, len_tx, tx_cutFrom, List.length_drop, ← len_tx]; omega
    walk_at "go"
    refine ⟨z, rfl, small__ (by omega), ?_⟩
    have l3 : (cutS z none (some (a : Int)) ++ y).length ≤ 2000 := by rw [len_app]; omega
    walk_at "go"
    refine k _ ?_
    rw [tx_app, tx_app, tx_cutTo, show ((a : Int) + (r : Int)) = ((a + r : Nat) : Int) by omega, tx_cutFrom]
    rfl
end
section
variable {P : Program} {w : World} {K : PySem.W.Frag} {mg : Str → Option Value} {base : Heap}
def spRA (C Cs : Addr) : Sp := fun vs H Q _ => ∃ (rd fl g ed : Addr) (z y : Str) (l : Bool) (ad : Role → Addr) (S : SS) (md a r : Nat), vs = [.ref rd, .ref ed] ∧ ReadA C Cs H rd fl g z l ad S md ∧ H ed = some (.tup [.int (a : Nat), .int (r : Nat), .str y]) ∧ a + r ≤ z.length ∧ y.length ≤ 192 ∧
  (editT (tx z) a r (tx y)).length ≤ 192 ∧ ∀ H' rd' z' ad' S', Same H H' → tx z' = editT (tx z) a r (tx y) → ReadA C Cs H' rd' fl g z' l ad' S' (z'.length + 1 - a) → Q (.ref rd') H'
theorem edit_agree {t : Tx} {a r : Nat} {y : Tx} (h : a ≤ t.length) : ∀ i, i < a → t[i]? = (editT t a r y)[i]? := fun i hi => by
  unfold editT
  rw [List.append_assoc, List.getElem?_append_left (by rw [List.length_take]; omega), List.getElem?_take_of_lt hi]
theorem ok_again (T : TX K mg) (G_check_edit : FnOk P w K mg base CX0 1 T.f_check_edit T.d_check_edit ["text", "edit"] spCheck) (G_applied : FnOk P w K mg base CX0 2 T.f_applied T.d_applied ["text", "edit"] spApp)
    (G_read : FnOk P w K mg base CX0 6 T.f_read T.d_read ["grammar", "filters", "text"] (spRead T.C_Reading T.C_Spans))
    (G_Spans_init : FnOk P w K mg base CX0 2 T.f_Spans_init T.d_Spans_init ["self", "grammar", "text"] (spInit T.C_Spans))
    (G_Spans_take_over : FnOk P w K mg base CX0 3 T.f_Spans_take_over T.d_Spans_take_over ["self", "other", "last"] (spTake T.C_Spans))
    (G_Spans_fill : FnOk P w K mg base CX0 4 T.f_Spans_fill T.d_Spans_fill ["self", "at"] (spFill T.C_Spans))
    (G_Reading_init : FnOk P w K mg base CX0 1 T.f_Reading_init T.d_Reading_init ["self", "grammar", "filters", "spans"] (spRI T.C_Reading T.C_Spans)) :
    FnOk P w K mg base CX0 7 T.f_read_again T.d_read_again ["reading", "edit"] (spRA T.C_Reading T.C_Spans) := by
  refine T.F_read_again.ok sc_read_again (fun vs H Q E h => ?_) (fun cdv A outer s H vs Q E hr h => ?_)
  · obtain ⟨rd, fl, g, ed, z, y, l, ad, S, md, a, r, rfl, _⟩ := h
    rfl
  obtain ⟨rd, fl, g, ed, z, y, l, ad, S, md, a, r, rfl, B, hed, har, hy, hlen, k⟩ := h
  refine ⟨_, (pss_cons (ps_expr (pe_call G_check_edit (hr.mono (by decide)) (by rfl) T.m_check_edit T.F_check_edit.kp T.b_check_edit .nil pass0 (pa_cons (kfld K (pv 0) rfl) (pa_cons (pv 1) pa_nil))))
  (pss_cons (ps_set (i := 2) sc_read_again.nd rfl (Or.inl rfl) (pe_call G_applied (hr.mono (by decide)) (by rfl) T.m_applied T.F_applied.kp T.b_applied .nil pass0 (pa_cons (kfld K (pv 0) rfl) (pa_cons (pv 1) pa_nil))))
  (pss_cons (ps_if (pt_cmpR op_eq (pe_ix (kx_tup K) (pv 1) pe_int (fun _ _ => rfl)) pe_int (nomark _))
  (pss_one (ps_ret (pe_call G_read (hr.mono (by decide)) (by rfl) T.m_read T.F_read.kp T.b_read .nil pass0 (pa_cons (kfld K (pv 0) rfl) (pa_cons (kfld K (pv 0) rfl) (pa_cons (pv 2) pa_nil))))))
  pss_nil)
  (pss_cons (ps_set (i := 3) sc_read_again.nd rfl (Or.inl rfl) (pe_make T.mk_Spans G_Spans_init (hr.mono (by decide)) (by rfl) T.mC_Spans T.b_Spans_init .nil pass0 (pa_cons (kfld K (pv 0) rfl) (pa_cons (pv 2) pa_nil))))
  (pss_cons (ps_expr (pe_meth (pv 3) T.cl_Spans T.me_Spans_take_over G_Spans_take_over (hr.mono (by decide)) T.b_Spans_take_over .nil pass0 (pa_cons (kfld K (pv 0) rfl) (pa_cons (pe_op op_sub (pe_ix (kx_tup K) (pv 1) pe_int (fun _ _ => rfl)) pe_int) pa_nil))))
  (pss_cons (ps_for PassesOwn.never rfl (pi_range2 (by rfl) T.z_range (pa_cons (pe_ix (kx_tup K) (pv 1) pe_int (fun _ _ => rfl)) (pa_cons (pe_op op_add (pe_callB cl_lenS (by rfl) T.z_len (by decide +kernel) (pa_cons (pv 2) pa_nil)) pe_int) pa_nil))) (pg_name (i := 4) sc_read_again.nd rfl (Or.inl rfl))
  (pss_one (ps_expr (pe_meth (pv 3) T.cl_Spans T.me_Spans_fill G_Spans_fill (hr.mono (by decide)) T.b_Spans_fill .nil pass0 (pa_cons (pv 4) pa_nil)))))
  (pss_one (ps_ret (pe_make T.mk_Reading G_Reading_init (hr.mono (by decide)) (by rfl) T.mC_Reading T.b_Reading_init .nil pass0 (pa_cons (kfld K (pv 0) rfl) (pa_cons (kfld K (pv 0) rfl) (pa_cons (pv 3) pa_nil)))))))))))), ?_⟩
  obtain ⟨cl, n1, n2, n3, n4, n5⟩ := T.rdC
  obtain ⟨⟨dx, hI⟩, hF, A0, hg, G0, W0, hz⟩ := id B
  walk_at "go"
  refine ⟨z, y, ed, a, r, rfl, hed, har, by omega, ?_⟩
  walk_at "go"
  refine ⟨z, y, ed, a, r, rfl, hed, har, by omega, by omega, fun z' hz' => ?_⟩
  have hl' : z'.length ≤ 192 := by rw [len_tx, hz']; exact hlen
  walk_at "go"
  by_cases c : a = 0
  · subst c
    rw [decide_eq_true (show ((0 : Nat) : Int) = 0 from rfl)]
    refine iteT ?_
    walk_at "go"
    refine ⟨g, fl, z', l, rfl, hg, hF, hl', fun H1 rd' ad' S' s1 B' => ?_⟩
    exact k H1 rd' z' ad' S' s1 hz' B'
  · rw [decide_eq_false (show ¬ ((a : Int) = 0) by omega)]
    refine iteF ?_
    walk_at "go"
    refine x_make ?_
    walk_at "go"
    intro sp dxs hsp0 hdx0 nds
    have s1 : Same H (upd (upd H dxs (.own sp)) sp (.ins T.C_Spans dxs [])) := (Same.new hdx0).trans (Same.new (by rw [upd_ne (fun e => nds e.symm)]; exact hsp0))
    refine ⟨H, sp, dxs, g, z', l, rfl, s1, hsp0, hdx0, upd_same, by rw [upd_ne nds]; exact upd_same, hg, by omega, fun H1 ad1 e1 A1 => ⟨rfl, ?_⟩⟩
    subst e1
    have hI1 := A1.same _ _ hI
    have hed1 := A1.same _ _ hed
    have hsp1 := A1.rep.gSp
    dsimp only at hsp1
    walk_at "go"
    refine x_methR hsp1 rfl ?_
    walk_at "go"
    have G0' : Good l (tx z) (z.length + 1) 0 S := by rw [len_tx]; exact G0
    have W0' : WB (z.length + 1) 0 S := by rw [len_tx]; exact W0
    have haz : a ≤ z'.length := by rw [len_tx, hz']; unfold editT; rw [List.append_assoc, List.length_append, List.length_take, ← len_tx]; omega
    refine ⟨g, z', z, H, Emp, ad1, ad, S, l, a, rfl, A1, A0, hg, by omega, by omega, by omega, by omega, haz, fun i hi => by rw [hz']; exact edit_agree (by rw [← len_tx]; omega) i hi, G0', W0', fun H2 ad2 S2 e2 A2 G2 W2 m2 => ?_⟩
    have hed2 := A2.same _ _ hed
    walk_at "go"
    rw [show ((z'.length : Nat) : Int) + 1 = ((z'.length + 1 : Nat) : Int) by omega]
    refine x_forR2R (by omega) (by omega) (fun i σ H' => ∃ v ad' S', σ = [some (.ref rd), some (.ref ed), some (.str z'), some (.ref (ad1 .sp)), v] ∧ ad' .sp = ad1 .sp ∧ SpA T.C_Spans g z' H H' ad' S' ∧ Good l (tx z') i 0 S' ∧ WB i 0 S' ∧ S'.md = i - a)
      ⟨none, ad2, S2, rfl, e2, A2, G2, W2, by rw [m2]; omega⟩ ?_ ?_
    · rintro i σ H4 hi1 hi2 ⟨v, ad4, S4, rfl, e4, A4, G4, W4, m4⟩
      have hsp4 := A4.rep.gSp
      dsimp only at hsp4
      walk_at "go"
      rw [← e4]
      refine x_methR hsp4 rfl ?_
      walk_at "go"
      refine ⟨g, z', H, ad4, S4, i, l, rfl, A4, hg, by omega, by omega, G4, W4, fun H5 ad5 S5 e5 A5 G5 W5 m5 _ => ?_⟩
      exact ⟨_, ad5, S5, rfl, e5, A5, G5, W5, by omega⟩
    · rintro σ H4 ⟨v, ad4, S4, rfl, e4, A4, G4, W4, m4⟩
      have hI4 := A4.same _ _ hI
      walk_at "go"
      refine x_make ?_
      walk_at "go"
      intro rd' dx' hrd' hdx' nds'
      have s5 : Same H4 (upd (upd H4 dx' (.own rd')) rd' (.ins T.C_Reading dx' [])) := (Same.new hdx').trans (Same.new (by rw [upd_ne (fun e => nds' e.symm)]; exact hrd'))
      have hsp4 := A4.rep.gSp
      have nsp : rd' ≠ ad4 .sp := fun e => by
        have hsp : H4 (ad4 .sp) = _ := hsp4
        rw [← e, hrd'] at hsp; cases hsp
      rw [← e4]
      refine ⟨rd', g, fl, dx', z', ad4, S4, rfl, upd_same, (A4.down same_emp).se (same_se s5), nsp, fun H6 X6 h6 => ⟨rfl, ?_⟩⟩
      have s46 : Same H4 H6 := fun b o h => X6 _ _ (fun e => by rw [e, hrd'] at h; cases h) (s5 _ _ h)
      have s06 := A4.same.trans s46
      rw [m4] at h6
      have G4 : Good l (tx z') ((tx z').length + 1) 0 S4 := by rw [← len_tx]; exact G4
      have W4 : WB ((tx z').length + 1) 0 S4 := by rw [← len_tx]; exact W4
      exact k H6 rd' z' ad4 S4 s06 hz' ⟨⟨dx', h6⟩, s06 _ _ hF, (A4.down same_emp).se (same_se s46), hg.same s06, G4, W4, hl'⟩
end
section
variable {P : Program} {w : World} {K : PySem.W.Frag} {mg : Str → Option Value} {base : Heap}
def spRun : Sp := fun vs H Q _ => ∃ (z : Str) (m : Nat) (b : Bool), vs = [.str z, .int (m : Nat), .str (clsS b)] ∧ m ≤ z.length ∧ z.length ≤ 1000 ∧ Q (.int (runE b (tx z) m : Nat)) H
theorem ok_run (T : TX K mg) : FnOk P w K mg base CX0 1 T.f_law_run T.d_law_run ["_law_text", "_law_at", "_law_chars"] spRun := by
  refine T.F_law_run.ok sc_law_run (fun vs H Q E h => ?_) (fun cdv A outer s H vs Q E hr h => ?_)
  · obtain ⟨z, m, b, rfl, _⟩ := h
    rfl
  obtain ⟨z, m, b, rfl, hm, hz, k⟩ := h
  refine ⟨_, (pss_cons (ps_set (i := 3) sc_law_run.nd rfl (Or.inl rfl) (pv 1))
  (pss_cons (ps_while PassesOwn.never (PW.pt (pw_and (pt_cmpR op_lt (pv 3) (pe_callB cl_lenS (by rfl) T.z_len (by decide +kernel) (pa_cons (pv 0) pa_nil)) (nomark _)) (pw_and1 (pt_cmpR or_inS (pe_ix ix_str (pv 0) (pv 3) (fun _ _ => rfl)) (pv 2) rfl))))
  (pss_one (ps_set (i := 3) sc_law_run.nd rfl (Or.inl rfl) (pe_op op_add (pv 3) pe_int))))
  (pss_one (ps_ret (pv 3))))), ?_⟩
  walk_at "go"
  refine x_while (fun σ H' => ∃ e : Nat, σ = [some (.str z), some (.int (m : Nat)), some (.str (clsS b)), some (.int (e : Nat))] ∧ H' = H ∧ m ≤ e ∧ e ≤ z.length ∧ ∀ i, m ≤ i → i < e → ∃ c, (tx z)[i]? = some c ∧ isC b c = true)
    (fun σ _ => match σ with
      | [_, _, _, some (.int e)] => z.length - e.toNat
      | _ => 0) ⟨m, rfl, rfl, Nat.le_refl _, hm, fun i h1 h2 => absurd h2 (by omega)⟩ ?_
  rintro σ H' ⟨e, rfl, rfl, h1, h2, h3⟩
  walk_at "go"
  have fin : (∀ c, (tx z)[e]? = some c → isC b c = false) → runE b (tx z) m = e := fun hc => runE_of h1 h3 hc
  by_cases c1 : (e : Int) < (z.length : Int)
  · refine iteY c1 ?_
    obtain ⟨c, hc⟩ : ∃ c, (tx z)[e]? = some c := ⟨_, List.getElem?_eq_getElem (by rw [← len_tx]; omega)⟩
    have ix : atI z.cps.toList (e : Int) = some c := atI_nat hc
    walk_at "go"
    rw [show decide (c ∈ (clsS b).cps.toList) = isC b c from isC_cls b c]
    cases c2 : isC b c with
    | true =>
      refine iteT ?_
      refine x_wh ?_
      walk_at "go"
      refine ⟨⟨e + 1, rfl, rfl, by omega, by omega, fun i i1 i2 => ?_⟩, ?_⟩
      · by_cases q : i = e
        · subst q; exact ⟨c, hc, c2⟩
        · exact h3 i i1 (by omega)
      · show z.length - ((e : Int) + 1).toNat < z.length - ((e : Int)).toNat
        omega
    | false =>
      refine iteF ?_
      walk_at "go"
      rw [fin fun c' hc' => by rw [hc] at hc'; cases hc'; exact c2] at k
      exact k
  · refine iteN c1 ?_
    refine iteF ?_
    walk_at "go"
    rw [fin fun c' hc' => by have := (List.getElem?_eq_some_iff.mp hc').1; rw [← len_tx] at this; omega] at k
    exact k
/-- the draws -/
structure DrA (H : Hp) (dr sl : Addr) : Prop where
  d : ∃ (ns : List Int) (i : Nat) (big st : Int), H dr = some (.lst [.ref sl, .int (i : Nat), .int big, .int st]) ∧ H sl = some (.lst (ns.map V.int)) ∧ sl ≠ dr ∧ 0 ≤ big ∧ 0 ≤ st ∧ st < 2147483647
theorem DrA.keep {H H' : Hp} {dr sl : Addr} (h : DrA H dr sl) (h1' : H' dr = H dr) (h2' : H' sl = H sl) : DrA H' dr sl := by
  obtain ⟨ns, i, big, st, h1, h2, h3⟩ := h
  exact ⟨ns, i, big, st, by rw [h1']; exact h1, by rw [h2']; exact h2, h3⟩
theorem DrA.same {H H' : Hp} {dr sl : Addr} (h : DrA H dr sl) (s : Same H H') : DrA H' dr sl := by
  obtain ⟨ns, i, big, st, h1, h2, h3⟩ := h
  exact ⟨ns, i, big, st, s _ _ h1, s _ _ h2, h3⟩
def spDraws (K : PySem.W.Frag) : Sp := fun vs H Q _ => ∃ (sc : Addr) (ns : List Int), vs = [.ref sc] ∧ SqL K H sc (ns.map V.int) ∧ ∀ H' dr sl, Same H H' → H dr = none → H sl = none → DrA H' dr sl → Q (.ref dr) H'
theorem ok_draws (T : TX K mg) : FnOk P w K mg base CX0 1 T.f_law_draws T.d_law_draws ["_law_script"] (spDraws K) := by
  refine T.F_law_draws.ok sc_law_draws (fun vs H Q E h => ?_) (fun cdv A outer s H vs Q E hr h => ?_)
  · obtain ⟨sc, ns, rfl, _⟩ := h
    rfl
  obtain ⟨sc, ns, rfl, hs, k⟩ := h
  refine ⟨_, (pss_one (ps_ret (pe_lst (pa_cons (pe_callTy (kc_list K) (by rfl) T.z_list (by decide +kernel) (pa_cons (pv 0) pa_nil)) (pa_cons pe_int (pa_cons pe_int (pa_cons pe_int pa_nil))))))), ?_⟩
  walk_at "go"
  refine ⟨sc, _, rfl, .inl hs, fun sl hsl => ?_⟩
  walk_at "go"
  refine ⟨by show 4 ≤ sizeLine; decide, fun dr hdr => ?_⟩
  have ne : sl ≠ dr := fun e => by rw [← e, upd_same] at hdr; cases hdr
  exact k _ dr sl ((Same.new hsl).trans (Same.new hdr)) ((Same.new hsl).free hdr) hsl ⟨ns, 0, 0, 1, upd_same, look1 upd_same hdr, ne, by decide, by decide, by decide⟩
def spDraw : Sp := fun vs H Q _ => ∃ (dr sl : Addr) (lim : Nat), vs = [.ref dr, .int (lim : Nat)] ∧ DrA H dr sl ∧ 0 < lim ∧ lim ≤ 1000 ∧ ∀ H' (v : Nat), SameX dr H H' → DrA H' dr sl → v < lim → Q (.int (v : Nat)) H'
theorem ok_draw (T : TX K mg) : FnOk P w K mg base CX0 1 T.f_law_draw T.d_law_draw ["_law_draws_here", "_law_limit"] spDraw := by
  refine T.F_law_draw.ok sc_law_draw (fun vs H Q E h => ?_) (fun cdv A outer s H vs Q E hr h => ?_)
  · obtain ⟨dr, sl, lim, rfl, _⟩ := h
    rfl
  obtain ⟨dr, sl, lim, rfl, ⟨ns, i, big, st, h1, h2, h3, h4, h5, h6⟩, hl0, hl, k⟩ := h
  refine ⟨_, (pss_cons (ps_if (PW.pt (pw_and (pt_cmpR op_eq (pe_ix (kx_list K) (pv 0) pe_int (fun _ _ => rfl)) pe_int (nomark _)) (pw_and1 (pt_cmpR op_lt (pe_ix (kx_list K) (pv 0) pe_int (fun _ _ => rfl)) (pe_callB (kl_len K) (by rfl) T.z_len (by decide +kernel) (pa_cons (pe_ix (kx_list K) (pv 0) pe_int (fun _ _ => rfl)) pa_nil)) (nomark _)))))
  (pss_cons (ps_set (i := 2) sc_law_draw.nd rfl (Or.inl rfl) (pe_ix (kx_list K) (pe_ix (kx_list K) (pv 0) pe_int (fun _ _ => rfl)) (pe_ix (kx_list K) (pv 0) pe_int (fun _ _ => rfl)) (fun _ _ => rfl)))
  (pss_cons (ps_asg (pe_op op_add (pe_ix (kx_list K) (pv 0) pe_int (fun _ _ => rfl)) pe_int) (pg_sub (pv 0) pe_int set_list))
  (pss_cons (ps_if (pt_cmpR op_ge (pv 2) (pe_op op_pow pe_int pe_int) (nomark _))
  (pss_one (ps_asg (pv 2) (pg_sub (pv 0) pe_int set_list)))
  pss_nil)
  (pss_one (ps_asg (pe_op op_mod (pe_callTy cl_int (by rfl) T.z_int (by decide +kernel) (pa_cons (pe_op op_add (pe_op op_add (pe_op op_mulW (pe_ix (kx_list K) (pv 0) pe_int (fun _ _ => rfl)) pe_int) (pv 2)) pe_int) pa_nil)) pe_int) (pg_sub (pv 0) pe_int set_list))))))
  pss_nil)
  (pss_cons (ps_if (pt_cmpR op_gt (pe_ix (kx_list K) (pv 0) pe_int (fun _ _ => rfl)) pe_int (nomark _))
  (pss_cons (ps_set (i := 3) sc_law_draw.nd rfl (Or.inl rfl) (pe_op op_mod (pe_callTy cl_int (by rfl) T.z_int (by decide +kernel) (pa_cons (pe_ix (kx_list K) (pv 0) pe_int (fun _ _ => rfl)) pa_nil)) (pv 1)))
  (pss_cons (ps_asg (pe_op op_fdivW (pe_ix (kx_list K) (pv 0) pe_int (fun _ _ => rfl)) (pv 1)) (pg_sub (pv 0) pe_int set_list))
  (pss_one (ps_ret (pv 3)))))
  pss_nil)
  (pss_cons (ps_asg (pe_op op_mod (pe_callTy cl_int (by rfl) T.z_int (by decide +kernel) (pa_cons (pe_op op_add (pe_op op_mulW (pe_ix (kx_list K) (pv 0) pe_int (fun _ _ => rfl)) pe_int) pe_int) pa_nil)) pe_int) (pg_sub (pv 0) pe_int set_list))
  (pss_one (ps_ret (pe_op op_mod (pe_callTy cl_int (by rfl) T.z_int (by decide +kernel) (pa_cons (pe_op op_fdivW (pe_ix (kx_list K) (pv 0) pe_int (fun _ _ => rfl)) pe_int) pa_nil)) (pv 1))))))), ?_⟩
  refine x_cut (fun σ' H' => ∃ (v2 : Option V) (i : Nat) (big st : Int), σ' = [some (.ref dr), some (.int (lim : Nat)), v2, none] ∧ H' dr = some (.lst [.ref sl, .int (i : Nat), .int big, .int st]) ∧ SameX dr H H' ∧ 0 ≤ big ∧ 0 ≤ st ∧ st < 2147483647) ?_ ?_
  · rintro σ' H' ⟨v2, i, big, st, rfl, h1', X, h4, h5, h6⟩
    have h2' := X _ _ h3 h2
    have md : ∀ x : Int, ∃ v : Nat, x % (lim : Nat) = (v : Nat) ∧ v < lim := fun x => by
      have a1 := Int.emod_nonneg x (show ((lim : Nat) : Int) ≠ 0 by omega)
      have a2 := Int.emod_lt_of_pos x (show (0 : Int) < ((lim : Nat) : Int) by omega)
      exact ⟨(x % (lim : Nat)).toNat, by omega, by omega⟩
    walk_at "go"
    by_cases c : (0 : Int) < big
    · rw [decide_eq_true c]
      refine iteT ?_
      walk_at "go"
      obtain ⟨v, e1, e2⟩ := md big
      refine x_I (show (0 : Int) < _ by omega) ?_
      walk_at "go"
      refine x_I (wide_div (b := 10) (by omega) (by rw [Int.natAbs_natCast]; show lim < 1024; omega) (by decide) (by decide)) ?_
      refine x_gsub ?_
      walk_at "go"
      refine x_setL (i := 2) h1' (by show 2 < 4; decide) ?_
      walk_at "go"
      rw [e1]
      exact k _ v (X.trans SameX.upd) ⟨ns, i, big / (lim : Nat), st, upd_same, by rw [upd_ne h3]; exact h2', h3, Int.ediv_nonneg (by omega) (by omega), h5, h6⟩ e2
    · rw [decide_eq_false c]
      refine iteF ?_
      walk_at "go"
      refine x_I (wide_mul (a := 40) (b := 20) (by omega) (by decide) (by decide) (by decide) (by decide)) ?_
      walk_at "go"
      refine x_I (show (0 : Int) < _ by decide) ?_
      refine x_gsub ?_
      walk_at "go"
      refine x_setL (i := 3) h1' (by show 3 < 4; decide) ?_
      walk_at "go"
      refine x_I (wide_div (b := 4) (by decide) (by decide) (by decide) (by decide)) ?_
      walk_at "go"
      obtain ⟨v, e1, e2⟩ := md (((st * 69621 + 7) % 2147483629) / 11)
      refine x_I (show (0 : Int) < _ by omega) ?_
      show Q (.int _) _
      rw [e1]
      exact k _ v (X.trans SameX.upd) ⟨ns, i, big, (st * 69621 + 7) % 2147483629, upd_same, by rw [upd_ne h3]; exact h2', h3, h4, by omega, by omega⟩ e2
  · intro N hN
    walk_at "go"
    by_cases c : big = 0
    · rw [decide_eq_true c]
      refine iteT ?_
      walk_at "go"
      by_cases c2 : i < ns.length
      · rw [decide_eq_true (show ((i : Nat) : Int) < ((ns.map V.int).length : Nat) by rw [List.length_map]; omega)]
        refine iteT ?_
        obtain ⟨x, hx⟩ : ∃ x, ns[i]? = some x := ⟨_, List.getElem?_eq_getElem c2⟩
        have ix : atI (ns.map V.int) (i : Int) = some (.int x) := atI_nat (by rw [List.getElem?_map, hx]; rfl)
        walk_at "go"
        refine x_gsub ?_
        walk_at "go"
        refine x_setL (i := 1) h1 (by show 1 < 4; decide) ?_
        dsimp only
        refine x_cut (fun σ' H' => σ' = [some (.ref dr), some (.int (lim : Nat)), some (.int x), none] ∧ ∃ big' : Int, H' dr = some (.lst [.ref sl, .int ((i + 1 : Nat) : Int), .int big', .int st]) ∧ SameX dr H H' ∧ 0 ≤ big') ?_ ?_
        · rintro σ' H' ⟨rfl, big', h1', X, h4'⟩
          walk_at "go"
          refine x_I (wide_mul (a := 40) (b := 20) (by omega) (by decide) (by decide) (by decide) (by decide)) ?_
          walk_at "go"
          refine x_I (show (0 : Int) < _ by decide) ?_
          refine x_gsub ?_
          walk_at "go"
          refine x_setL (i := 3) h1' (by show 3 < 4; decide) ?_
          refine hN _ _ ⟨_, i + 1, big', (st * 48271 + x + 13) % 2147483647, rfl, upd_same, X.trans SameX.upd, h4', by omega, by omega⟩
        · intro N2 hN2
          have h1b : (upd H dr (.lst ([V.ref sl, V.int (i : Nat), V.int big, V.int st].set 1 (V.int ((i : Int) + 1))))) dr = some (.lst [.ref sl, .int ((i : Int) + 1), .int big, .int st]) := upd_same
          walk_at "go"
          refine x_I ⟨by decide, by decide, by decide⟩ ?_
          walk_at "go"
          by_cases c3 : (10 : Int) ^ (18 : Int).toNat ≤ x
          · rw [decide_eq_true c3]
            refine iteT ?_
            walk_at "go"
            refine x_gsub ?_
            walk_at "go"
            refine x_setL (i := 2) h1b (by show 2 < 4; decide) ?_
            refine hN2 _ _ ⟨rfl, x, upd_same, SameX.upd.trans SameX.upd, ?_⟩
            exact Int.le_trans (by decide) c3
          · rw [decide_eq_false c3]
            refine iteF ?_
            walk_at "go"
            exact hN2 _ _ ⟨rfl, big, upd_same, SameX.upd, h4⟩
      · rw [decide_eq_false (show ¬ ((i : Nat) : Int) < ((ns.map V.int).length : Nat) by rw [List.length_map]; omega)]
        refine iteF ?_
        walk_at "go"
        exact hN _ _ ⟨none, i, big, st, rfl, h1, fun _ _ _ h => h, h4, h5, h6⟩
    · rw [decide_eq_false c]
      refine iteF ?_
      walk_at "go"
      exact hN _ _ ⟨none, i, big, st, rfl, h1, fun _ _ _ h => h, h4, h5, h6⟩
end
section
variable {P : Program} {w : World} {K : PySem.W.Frag} {mg : Str → Option Value} {base : Heap}
theorem x_joinT {ta tb : TE} {σ : L2.St} {H : Hp} {Q : VK} (h : ta σ H fun x H1 => (∃ a, x = .str a) ∧ tb σ H1 fun y H2 => rJoin K Q x y H2) : tJoin K ta tb σ H Q := h
theorem join_len1 (s : Str) : ∀ (y : Str) (ys : List Str), (Txt.join s (y :: ys)).length + s.length ≤ ((y :: ys).map (·.length)).sum + (y :: ys).length * s.length := by
  have gen : ∀ (ys : List Str) (y : Str), (Str.join s (y :: ys)).length + s.length ≤ ((y :: ys).map (·.length)).sum + (y :: ys).length * s.length := fun ys => by
    induction ys with
    | nil => intro y; show y.length + _ ≤ _; simp
    | cons x ys ih =>
      intro y
      have h := ih x
      show (y ++ s ++ Str.join s (x :: ys)).length + _ ≤ _
      rw [len_app, len_app]
      simp only [List.map_cons, List.sum_cons, List.length_cons, Nat.succ_mul] at h ⊢
      omega
  intro y ys
  have e : Txt.join s (y :: ys) = Str.join s (y :: ys) := PySem.StrLaws.glued_eq_join s (y :: ys)
  rw [e]; exact gen ys y
def itB : Nat → Nat
  | 0 => 11
  | d + 1 => 3 * (itB d + 2) + 2
def spItems : Sp := fun vs H Q _ => ∃ (dr sl : Addr) (d : Nat), vs = [.ref dr, .int (d : Nat)] ∧ DrA H dr sl ∧ d ≤ 2 ∧ ∀ H' z, SameX dr H H' → DrA H' dr sl → z.length ≤ itB d → Q (.str z) H'
theorem x_ixLit {a : Addr} {xs : List V} {i : Nat} {v : V} {H : Hp} {Q : VK} (h : H a = some (.lst xs)) (e : xs[i]? = some v) (q : Q v H) : rIxL K (.ref a) (.int (i : Nat)) H Q := x_ixL h (atI_nat e) q
theorem ok_items (T : TX K mg) (G_law_draw : FnOk P w K mg base CX0 1 T.f_law_draw T.d_law_draw ["_law_draws_here", "_law_limit"] spDraw) :
    ∀ n, FnOk P w K mg base CX0 (n + 2) T.f_law_items T.d_law_items ["_law_draws_here", "_law_deep"] (fun vs H Q E => (∃ dr : V, ∃ d : Nat, vs = [dr, .int (d : Nat)] ∧ d < n) ∧ spItems vs H Q E) := by
  intro n
  induction n with
  | zero =>
    refine T.F_law_items.ok sc_law_items (fun vs H Q E h => ?_) (fun cdv A outer s H vs Q E hr h => ?_)
    · obtain ⟨_, dr, sl, d, rfl, _⟩ := h
      rfl
    · obtain ⟨⟨_, d, _, hd⟩, _⟩ := h
      omega
  | succ n ih =>
  have G_law_items := ih
  refine T.F_law_items.ok sc_law_items (fun vs H Q E h => ?_) (fun cdv A outer s H vs Q E hr h => ?_)
  · obtain ⟨_, dr, sl, d, rfl, _⟩ := h
    rfl
  obtain ⟨⟨_, d0, e0, hdn⟩, dr, sl, d, rfl, hD, hd2, k⟩ := h
  have ed : d = d0 := by simp at e0; omega
  subst ed
  refine ⟨_, (pss_cons (ps_set (i := 2) sc_law_items.nd rfl (Or.inl rfl) (pe_lst pa_nil))
  (pss_cons (ps_for PassesOwn.never rfl (pi_range1 (by rfl) T.z_range (pa_cons (pe_op op_add pe_int (pe_call G_law_draw (hr.mono (by omega)) (by rfl) T.m_law_draw T.F_law_draw.kp T.b_law_draw .nil pass0 (pa_cons (pv 0) (pa_cons pe_int pa_nil)))) pa_nil)) (pg_name (i := 3) sc_law_items.nd rfl (Or.inl rfl))
  (pss_cons (ps_set (i := 4) sc_law_items.nd rfl (Or.inl rfl) (pe_call G_law_draw (hr.mono (by omega)) (by rfl) T.m_law_draw T.F_law_draw.kp T.b_law_draw .nil pass0 (pa_cons (pv 0) (pa_cons pe_int pa_nil))))
  (pss_one (ps_if (PW.pt (pw_and (pt_cmpR op_eq (pv 4) pe_int (nomark _)) (pw_and1 (pt_cmpR op_gt (pv 1) pe_int (nomark _)))))
  (pss_one (ps_expr (kbm K (pe_bm PySem.F.plainAttrs_list PySem.F.slot_list_append PySem.F.type_list_append mt_append (pv 2) (pa_cons (pe_op or_addS (pe_op or_addS pe_str (pe_call G_law_items (hr.mono (by omega)) (by rfl) T.m_law_items T.F_law_items.kp T.b_law_items .nil pass0 (pa_cons (pv 0) (pa_cons (pe_op op_sub (pv 1) pe_int) pa_nil)))) pe_str) pa_nil)))))
  (pss_one (ps_expr (kbm K (pe_bm PySem.F.plainAttrs_list PySem.F.slot_list_append PySem.F.type_list_append mt_append (pv 2) (pa_cons (pe_ix (kx_list K) (pe_lst (pa_cons pe_str (pa_cons pe_str (pa_cons pe_str (pa_cons pe_str (pa_cons pe_str (pa_cons pe_str pa_nil))))))) (pe_call G_law_draw (hr.mono (by omega)) (by rfl) T.m_law_draw T.F_law_draw.kp T.b_law_draw .nil pass0 (pa_cons (pv 0) (pa_cons pe_int pa_nil))) (fun _ _ => rfl)) pa_nil)))))))))
  (pss_one (ps_ret (kjoin K pe_str (pv 2)))))), ?_⟩
  walk_at "go"
  refine ⟨Nat.zero_le _, fun f hf => ?_⟩
  have D1 := hD.same (Same.new (o := .lst []) hf)
  have hsl : H sl ≠ none := by obtain ⟨ns, i, big, st, h1, h2, _⟩ := hD; rw [h2]; simp
  have hdr : H dr ≠ none := by obtain ⟨ns, i, big, st, h1, h2, _⟩ := hD; rw [h1]; simp
  have nsf : sl ≠ f := fun e => hsl (by rw [e]; exact hf)
  have ndf : dr ≠ f := fun e => hdr (by rw [e]; exact hf)
  walk_at "go"
  refine ⟨dr, sl, 3, rfl, D1, by decide, by decide, fun H2 n3 X2 D2 hn3 => ?_⟩
  have hf2 : H2 f = some (.lst []) := X2 _ _ (fun e => ndf e.symm) upd_same
  walk_at "go"
  rw [show ((1 : Int) + (n3 : Nat)) = ((n3 + 1 : Nat) : Int) by omega]
  refine x_forR1R (by omega) (fun i σ H' => ∃ (v3 v4 : Option V) (ss : List Str), σ = [some (.ref dr), some (.int (d : Nat)), some (.ref f), v3, v4] ∧ (∀ a o, a ≠ dr → a ≠ f → H2 a = some o → H' a = some o) ∧ DrA H' dr sl ∧ H' f = some (.lst (ss.map V.str)) ∧ ss.length = i ∧ ∀ y ∈ ss, y.length ≤ (if d = 0 then 3 else itB (d - 1) + 2))
    ⟨none, none, [], rfl, fun _ _ _ _ h => h, D2, hf2, rfl, fun _ h => nomatch h⟩ ?_ ?_
  · rintro i σ H3 hi ⟨v3, v4, ss, rfl, X3, D3, hf3, hl, hb⟩
    walk_at "go"
    refine ⟨dr, sl, 6, rfl, D3, by decide, by decide, fun H4 n6 X4 D4 hn6 => ?_⟩
    have hf4 := X4 _ _ (fun e => ndf e.symm) hf3
    have X24 : ∀ a o, a ≠ dr → a ≠ f → H2 a = some o → H4 a = some o := fun a o n1 n2 h => X4 _ _ n1 (X3 a o n1 n2 h)
    walk_at "go"
    have done : ∀ (y : Str) (H6 : Hp), (∀ a o, a ≠ dr → a ≠ f → H2 a = some o → H6 a = some o) → DrA H6 dr sl → H6 f = some (.lst (ss.map V.str)) → y.length ≤ (if d = 0 then 3 else itB (d - 1) + 2) →
        ∃ (v3 v4 : Option V) (ss' : List Str), [some (V.ref dr), some (.int (d : Nat)), some (.ref f), some (.int (i : Nat)), some (.int (n6 : Nat))] = [some (V.ref dr), some (.int (d : Nat)), some (.ref f), v3, v4] ∧ (∀ a o, a ≠ dr → a ≠ f → H2 a = some o → (upd H6 f (.lst (ss.map V.str ++ [.str y]))) a = some o) ∧ DrA (upd H6 f (.lst (ss.map V.str ++ [.str y]))) dr sl ∧
          (upd H6 f (.lst (ss.map V.str ++ [.str y]))) f = some (.lst (ss'.map V.str)) ∧ ss'.length = i + 1 ∧ ∀ y ∈ ss', y.length ≤ (if d = 0 then 3 else itB (d - 1) + 2) := fun y H6 X6 D6 hf6 hy => by
      refine ⟨_, _, ss ++ [y], rfl, fun a o n1 n2 h => by rw [upd_ne n2]; exact X6 a o n1 n2 h, D6.keep (upd_ne ndf) (upd_ne nsf), by rw [upd_same, List.map_append]; rfl, by rw [List.length_append, hl]; rfl, fun u hu => ?_⟩
      rcases List.mem_append.mp hu with h | h
      · exact hb u h
      · have : u = y := by simpa using h
        subst this; exact hy
    by_cases c1 : n6 = 0
    · rw [decide_eq_true (show ((n6 : Nat) : Int) = 0 by omega)]
      refine iteT ?_
      walk_at "go"
      by_cases c2 : 0 < d
      · rw [decide_eq_true (show (0 : Int) < ((d : Nat) : Int) by omega)]
        refine iteT ?_
        walk_at "go"
        rw [show ((d : Nat) : Int) - 1 = ((d - 1 : Nat) : Int) by omega]
        refine ⟨⟨_, d - 1, rfl, by omega⟩, dr, sl, d - 1, rfl, D4, by omega, fun H5 z X5 D5 hz => ?_⟩
        have hz2 : z.length ≤ 41 := by
          have : d - 1 = 0 ∨ d - 1 = 1 := by omega
          rcases this with h | h <;> rw [h] at hz <;> simp only [itB] at hz <;> omega
        have hf5 := X5 _ _ (fun e => ndf e.symm) hf4
        have l1 : (("(" : Str) ++ z).length ≤ 42 := by rw [len_app]; show 1 + _ ≤ _; omega
        have l9 : ((")" : Str)).length ≤ 1 := by decide
        have l0 : (("(" : Str)).length ≤ 1 := by decide
        walk_at "go"
        refine x_append hf5 (by rw [List.length_map]; exact small_ (by omega)) ?_
        refine done _ H5 (fun a o n1 n2 h => X5 _ _ n1 (X24 a o n1 n2 h)) D5 hf5 ?_
        rw [if_neg (by omega), len_app, len_app]
        show 1 + z.length + 1 ≤ _
        omega
      · rw [decide_eq_false (show ¬ (0 : Int) < ((d : Nat) : Int) by omega)]
        refine iteF ?_
        walk_at "go"
        refine ⟨by show 6 ≤ sizeLine; decide, fun lp hlp => ?_⟩
        have D5 := D4.same (Same.new (o := .lst [.str "a", .str "bc", .str "cab", .str "7", .str "42", .str "100"]) hlp)
        walk_at "go"
        refine ⟨dr, sl, 6, rfl, D5, by decide, by decide, fun H6 m6 X6 D6 hm6 => ?_⟩
        have ndl : lp ≠ dr := fun e => by
          obtain ⟨ns, i, big, st, h1, h2, _⟩ := D4
          rw [e, h1] at hlp; cases hlp
        have nfl : lp ≠ f := fun e => by rw [e, hf4] at hlp; cases hlp
        have hl6 := X6 _ _ ndl upd_same
        have hf6 := X6 _ _ (fun e => ndf e.symm) (look1 hf4 hlp)
        obtain ⟨y, hy, hyl⟩ : ∃ y : Str, ([V.str "a", V.str "bc", V.str "cab", V.str "7", V.str "42", V.str "100"] : List V)[m6]? = some (V.str y) ∧ y.length ≤ 3 := by
          have : m6 = 0 ∨ m6 = 1 ∨ m6 = 2 ∨ m6 = 3 ∨ m6 = 4 ∨ m6 = 5 := by omega
          rcases this with h | h | h | h | h | h <;> subst h <;> exact ⟨_, rfl, by decide⟩
        have iy := atI_nat hy
        walk_at "go"
        refine x_append hf6 (by rw [List.length_map]; exact small_ (by omega)) ?_
        refine done y H6 ?_ D6 hf6 (by
          have : d = 0 ∨ d = 1 ∨ d = 2 := by omega
          rcases this with h | h | h <;> subst h <;> simp [itB] <;> omega)
        exact fun a o n1 n2 h => X6 _ _ n1 (look1 (X24 a o n1 n2 h) hlp)
    · rw [decide_eq_false (show ¬ ((n6 : Nat) : Int) = 0 by omega)]
      refine iteF ?_
      refine iteF ?_
      walk_at "go"
      refine ⟨by show 6 ≤ sizeLine; decide, fun lp hlp => ?_⟩
      have D5 := D4.same (Same.new (o := .lst [.str "a", .str "bc", .str "cab", .str "7", .str "42", .str "100"]) hlp)
      walk_at "go"
      refine ⟨dr, sl, 6, rfl, D5, by decide, by decide, fun H6 m6 X6 D6 hm6 => ?_⟩
      have ndl : lp ≠ dr := fun e => by
        obtain ⟨ns, i, big, st, h1, h2, _⟩ := D4
        rw [e, h1] at hlp; cases hlp
      have nfl : lp ≠ f := fun e => by rw [e, hf4] at hlp; cases hlp
      have hl6 := X6 _ _ ndl upd_same
      have hf6 := X6 _ _ (fun e => ndf e.symm) (look1 hf4 hlp)
      obtain ⟨y, hy, hyl⟩ : ∃ y : Str, ([V.str "a", V.str "bc", V.str "cab", V.str "7", V.str "42", V.str "100"] : List V)[m6]? = some (V.str y) ∧ y.length ≤ 3 := by
        have : m6 = 0 ∨ m6 = 1 ∨ m6 = 2 ∨ m6 = 3 ∨ m6 = 4 ∨ m6 = 5 := by omega
        rcases this with h | h | h | h | h | h <;> subst h <;> exact ⟨_, rfl, by decide⟩
      have iy := atI_nat hy
      walk_at "go"
      refine x_append hf6 (by rw [List.length_map]; exact small_ (by omega)) ?_
      refine done y H6 ?_ D6 hf6 (by
          have : d = 0 ∨ d = 1 ∨ d = 2 := by omega
          rcases this with h | h | h <;> subst h <;> simp [itB] <;> omega)
      exact fun a o n1 n2 h => X6 _ _ n1 (look1 (X24 a o n1 n2 h) hlp)
  · rintro σ H3 ⟨v3, v4, ss, rfl, X3, D3, hf3, hl, hb⟩
    walk_at "go"
    have hsum : (ss.map (·.length)).sum ≤ ss.length * (if d = 0 then 3 else itB (d - 1) + 2) := sum_le _ _ _ hb
    have hB : (if d = 0 then 3 else itB (d - 1) + 2) ≤ 45 ∧ 3 * (if d = 0 then 3 else itB (d - 1) + 2) + 2 ≤ itB d := by
      have : d = 0 ∨ d = 1 ∨ d = 2 := by omega
      rcases this with h | h | h <;> subst h <;> decide
    generalize (if d = 0 then 3 else itB (d - 1) + 2) = bb at hsum hB
    have h3 : ss.length * bb ≤ 3 * bb := Nat.mul_le_mul_right _ (by omega)
    have l1 : ((",") : Str).length = 1 := by decide
    refine x_joinT ?_
    refine x_c ⟨⟨_, rfl⟩, ?_⟩
    walk_at "go"
    refine x_joinR hf3 ?_ ?_
    · rw [l1]; omega
    · refine k H3 _ (fun a o n h => X3 _ _ n (fun e => by rw [e, hf] at h; cases h) (X2 _ _ n (look1 h hf))) D3 ?_
      cases ss with
      | nil => simp at hl
      | cons y ys =>
        have := join_len1 "," y ys
        rw [l1] at this
        simp only [List.length_cons] at *
        omega
end
section
variable {P : Program} {w : World} {K : PySem.W.Frag} {mg : Str → Option Value} {base : Heap}
def spEdit : Sp := fun vs H Q _ => ∃ (dr sl : Addr) (z : Str), vs = [.ref dr, .str z] ∧ DrA H dr sl ∧ z.length ≤ 192 ∧ ∀ H' e (a r : Nat) (y : Str), SameX dr H H' → DrA H' dr sl → H e = none → H' e = some (.tup [.int (a : Nat), .int (r : Nat), .str y]) → a + r ≤ z.length → y.length ≤ 44 → Q (.ref e) H'
theorem ok_edit (T : TX K mg) (G_law_draw : FnOk P w K mg base CX0 1 T.f_law_draw T.d_law_draw ["_law_draws_here", "_law_limit"] spDraw)
    (G_law_items : FnOk P w K mg base CX0 5 T.f_law_items T.d_law_items ["_law_draws_here", "_law_deep"] (fun vs H Q E => (∃ dr : V, ∃ d : Nat, vs = [dr, .int (d : Nat)] ∧ d < 3) ∧ spItems vs H Q E)) :
    FnOk P w K mg base CX0 6 T.f_law_edit T.d_law_edit ["_law_draws_here", "_law_text"] spEdit := by
  refine T.F_law_edit.ok sc_law_edit (fun vs H Q E h => ?_) (fun cdv A outer s H vs Q E hr h => ?_)
  · obtain ⟨dr, sl, z, rfl, _⟩ := h
    rfl
  obtain ⟨dr, sl, z, rfl, hD, hz, k⟩ := h
  refine ⟨_, (pss_cons (ps_set (i := 2) sc_law_edit.nd rfl (Or.inl rfl) (pe_call G_law_draw (hr.mono (by decide)) (by rfl) T.m_law_draw T.F_law_draw.kp T.b_law_draw .nil pass0 (pa_cons (pv 0) (pa_cons (pe_op op_add (pe_callB cl_lenS (by rfl) T.z_len (by decide +kernel) (pa_cons (pv 1) pa_nil)) pe_int) pa_nil))))
  (pss_cons (ps_set (i := 3) sc_law_edit.nd rfl (Or.inl rfl) (pe_callB (cl_min rfl) (by rfl) T.z_min (by decide +kernel) (pa_cons (pe_call G_law_draw (hr.mono (by decide)) (by rfl) T.m_law_draw T.F_law_draw.kp T.b_law_draw .nil pass0 (pa_cons (pv 0) (pa_cons pe_int pa_nil))) (pa_cons (pe_op op_sub (pe_callB cl_lenS (by rfl) T.z_len (by decide +kernel) (pa_cons (pv 1) pa_nil)) (pv 2)) pa_nil))))
  (pss_cons (ps_set (i := 4) sc_law_edit.nd rfl (Or.inl rfl) (pe_ix (kx_list K) (pe_lst (pa_cons pe_str (pa_cons pe_str (pa_cons pe_str (pa_cons pe_str (pa_cons pe_str (pa_cons pe_str (pa_cons pe_str (pa_cons pe_str (pa_cons pe_str (pa_cons pe_str (pa_cons pe_str (pa_cons pe_str pa_nil))))))))))))) (pe_call G_law_draw (hr.mono (by decide)) (by rfl) T.m_law_draw T.F_law_draw.kp T.b_law_draw .nil pass0 (pa_cons (pv 0) (pa_cons pe_int pa_nil))) (fun _ _ => rfl)))
  (pss_cons (ps_set (i := 5) sc_law_edit.nd rfl (Or.inl rfl) (pe_call G_law_draw (hr.mono (by decide)) (by rfl) T.m_law_draw T.F_law_draw.kp T.b_law_draw .nil pass0 (pa_cons (pv 0) (pa_cons pe_int pa_nil))))
  (pss_cons (ps_setLc (i := 6) (own := [("_law_k", 8)]) (by rfl) sc_law_edit.nd rfl rfl (sw_true rfl rfl rfl (by decide +kernel)) (pi_range1 (by rfl) T.z_range (pa_cons (pe_callB cl_lenS (by rfl) T.z_len (by decide +kernel) (pa_cons (pv 1) pa_nil)) pa_nil)) (blkOk_by (N := ["_law_draws_here", "_law_text", "_law_at", "_law_gone", "_law_new", "_law_kind", "_law_spots", "_law_ends", "_law_k"]) (sc := (defScope s_law_edit)) (by decide +kernel)) (fun _ _ _ _ _ => (pg_name (i := 8) sc_law_edit.nd rfl (Or.inl rfl))) (fun _ _ _ _ _ => (pts_one (pt_cmpR or_inS (pe_ix ix_str (pv 1) (pv 8) (fun _ _ => rfl)) pe_str rfl))) (fun _ _ _ _ _ => (pv 8)))
  (pss_cons (ps_if (PW.pt (pw_and (pt_cmpR op_gt (pv 5) pe_int (nomark _)) (pw_and1 (pt_cmpR op_gt (pe_callB (kl_len K) (by rfl) T.z_len (by decide +kernel) (pa_cons (pv 6) pa_nil)) pe_int (nomark _)))))
  (pss_cons (ps_set (i := 2) sc_law_edit.nd rfl (Or.inl rfl) (pe_ix (kx_list K) (pv 6) (pe_call G_law_draw (hr.mono (by decide)) (by rfl) T.m_law_draw T.F_law_draw.kp T.b_law_draw .nil pass0 (pa_cons (pv 0) (pa_cons (pe_callB (kl_len K) (by rfl) T.z_len (by decide +kernel) (pa_cons (pv 6) pa_nil)) pa_nil))) (fun _ _ => rfl)))
  (pss_cons (ps_set (i := 3) sc_law_edit.nd rfl (Or.inl rfl) (pe_call G_law_draw (hr.mono (by decide)) (by rfl) T.m_law_draw T.F_law_draw.kp T.b_law_draw .nil pass0 (pa_cons (pv 0) (pa_cons pe_int pa_nil))))
  (pss_cons (ps_set (i := 4) sc_law_edit.nd rfl (Or.inl rfl) (pe_ifExp (pt_cmpR or_inS (pe_ix ix_str (pv 1) (pv 2) (fun _ _ => rfl)) pe_str rfl) (pe_lst (pa_cons pe_str (pa_cons pe_str (pa_cons pe_str (pa_cons pe_str (pa_cons pe_str pa_nil)))))) (pe_lst (pa_cons pe_str (pa_cons pe_str (pa_cons pe_str (pa_cons pe_str (pa_cons pe_str pa_nil))))))))
  (pss_one (ps_set (i := 4) sc_law_edit.nd rfl (Or.inl rfl) (pe_ix (kx_list K) (pv 4) (pe_call G_law_draw (hr.mono (by decide)) (by rfl) T.m_law_draw T.F_law_draw.kp T.b_law_draw .nil pass0 (pa_cons (pv 0) (pa_cons pe_int pa_nil))) (fun _ _ => rfl)))))))
  pss_nil)
  (pss_cons (ps_if (pt_cmpR op_eq (pv 5) pe_int (nomark _))
  (pss_cons (ps_set (i := 7) sc_law_edit.nd rfl (Or.inl rfl) (pe_op op_cat (pe_lc (own := [("_law_k", 8)]) (by rfl) sc_law_edit.nd (pi_range1 (by rfl) T.z_range (pa_cons (pe_callB cl_lenS (by rfl) T.z_len (by decide +kernel) (pa_cons (pv 1) pa_nil)) pa_nil)) (blkOk_by (N := ["_law_draws_here", "_law_text", "_law_at", "_law_gone", "_law_new", "_law_kind", "_law_spots", "_law_ends", "_law_k"]) (sc := (defScope s_law_edit)) (by decide +kernel)) (fun _ _ _ _ _ => (pg_name (i := 8) sc_law_edit.nd rfl (Or.inl rfl))) (fun _ _ _ _ _ => (pts_one (pt_cmpR op_eq (pe_ix ix_str (pv 1) (pv 8) (fun _ _ => rfl)) pe_str (nomark _)))) (fun _ _ _ _ _ => (pe_op op_add (pv 8) pe_int))) (pe_lst (pa_cons pe_int pa_nil))))
  (pss_cons (ps_set (i := 2) sc_law_edit.nd rfl (Or.inl rfl) (pe_ix (kx_list K) (pv 7) (pe_call G_law_draw (hr.mono (by decide)) (by rfl) T.m_law_draw T.F_law_draw.kp T.b_law_draw .nil pass0 (pa_cons (pv 0) (pa_cons (pe_callB (kl_len K) (by rfl) T.z_len (by decide +kernel) (pa_cons (pv 7) pa_nil)) pa_nil))) (fun _ _ => rfl)))
  (pss_cons (ps_set (i := 3) sc_law_edit.nd rfl (Or.inl rfl) pe_int)
  (pss_one (ps_set (i := 4) sc_law_edit.nd rfl (Or.inl rfl) (pe_op or_addS (pe_op or_addS pe_str (pe_call G_law_items (hr.mono (by decide)) (by rfl) T.m_law_items T.F_law_items.kp T.b_law_items .nil pass0 (pa_cons (pv 0) (pa_cons pe_int pa_nil)))) pe_str))))))
  pss_nil)
  (pss_one (ps_ret (pe_tup (pa_cons (pv 2) (pa_cons (pv 3) (pa_cons (pv 4) pa_nil))))))))))))), ?_⟩
  walk_at "go"
  rw [show ((z.length : Nat) : Int) + 1 = ((z.length + 1 : Nat) : Int) by omega]
  refine ⟨dr, sl, z.length + 1, rfl, hD, by omega, by omega, fun H1 at0 X1 D1 ha0 => ?_⟩
  walk_at "go"
  refine ⟨dr, sl, 4, rfl, D1, by decide, by decide, fun H2 g0 X2 D2 hg0 => ?_⟩
  walk_at "go"
  refine ⟨by show 12 ≤ sizeLine; decide, fun lp hlp => ?_⟩
  have D3 := D2.same (Same.new (o := .lst [.str "", .str "a", .str "bb", .str "5", .str "12", .str ",", .str ";", .str "(a)", .str "=", .str "c=1;", .str ",7", .str ")"]) hlp)
  walk_at "go"
  refine ⟨dr, sl, 12, rfl, D3, by decide, by decide, fun H4 m4 X4 D4 hm4 => ?_⟩
  have ndl : lp ≠ dr := fun e => by
    obtain ⟨ns, i, big, st, h1, h2, _⟩ := D2
    rw [e, h1] at hlp; cases hlp
  have hl4 := X4 _ _ ndl upd_same
  obtain ⟨y, hy, hyl⟩ : ∃ y : Str, ([V.str "", V.str "a", V.str "bb", V.str "5", V.str "12", V.str ",", V.str ";", V.str "(a)", V.str "=", V.str "c=1;", V.str ",7", V.str ")"] : List V)[m4]? = some (V.str y) ∧ y.length ≤ 4 := by
    have : m4 = 0 ∨ m4 = 1 ∨ m4 = 2 ∨ m4 = 3 ∨ m4 = 4 ∨ m4 = 5 ∨ m4 = 6 ∨ m4 = 7 ∨ m4 = 8 ∨ m4 = 9 ∨ m4 = 10 ∨ m4 = 11 := by omega
    rcases this with h | h | h | h | h | h | h | h | h | h | h | h <;> subst h <;> exact ⟨_, rfl, by decide⟩
  have iy := atI_nat hy
  obtain ⟨g1, eg, hg1⟩ : ∃ g1 : Nat, (if (z.length : Int) - (at0 : Nat) < (g0 : Nat) then (z.length : Int) - (at0 : Nat) else (g0 : Nat)) = (g1 : Nat) ∧ at0 + g1 ≤ z.length := by
    by_cases c : (z.length : Int) - (at0 : Nat) < (g0 : Nat)
    · rw [if_pos c]; exact ⟨z.length - at0, by omega, by omega⟩
    · rw [if_neg c]; exact ⟨g0, rfl, by omega⟩
  rw [eg]
  walk_at "go"
  refine ⟨dr, sl, 4, rfl, D4, by decide, by decide, fun H5 kd X5 D5 hkd => ?_⟩
  have XH5 : SameX dr H H5 := (((X1.trans X2).trans (SameX.of (Same.new hlp))).trans X4).trans X5
  walk_at "go"
  let pr : Nat → Bool := fun k => match (tx z)[k]? with
    | some c => decide (c ∈ ("abc0123456789" : Str).cps.toList)
    | none => false
  refine x_lcRP (by omega) (fun k => ((List.range k).filter pr).map fun k : Nat => V.int (k : Nat)) (by simp) (fun i hi => ?_) (fun i H6 N1 N2 hi s6 k1 k2 => ?_) (fun sp H6 s6 hsp hspv => ?_)
  · have := List.length_filter_le pr (List.range i)
    rw [List.length_range] at this
    rw [List.length_map]; omega
  · obtain ⟨c, hc⟩ : ∃ c, (tx z)[i]? = some c := ⟨_, List.getElem?_eq_getElem (by rw [← len_tx]; omega)⟩
    have ix : atI z.cps.toList (i : Int) = some c := atI_nat hc
    have ep : pr i = decide (c ∈ ("abc0123456789" : Str).cps.toList) := by show (match (tx z)[i]? with | some c => decide (c ∈ ("abc0123456789" : Str).cps.toList) | none => false) = _; rw [hc]
    unfold LcTurn
    walk_at "go"
    refine ⟨rfl, ?_⟩
    walk_at "go"
    rw [← ep]
    cases e : pr i with
    | true =>
      refine iteT ?_
      walk_at "go"
      refine k1 _ _ (Same.refl _) ?_
      rw [List.range_succ, List.filter_append, List.map_append]
      simp [e]
    | false =>
      refine iteF ?_
      refine k2 _ (Same.refl _) ?_
      rw [List.range_succ, List.filter_append, List.map_append]
      simp [e]
  refine x_name ?_
  dsimp only
  have D6 := D5.same s6
  have XH6 : SameX dr H H6 := XH5.trans (SameX.of s6)
  refine x_cut (fun σ' H' => ∃ (a r : Nat) (y : Str) (v6 v7 v8 : Option V), σ' = [some (.ref dr), some (.str z), some (.int (a : Nat)), some (.int (r : Nat)), some (.str y), some (.int (kd : Nat)), v6, v7, v8] ∧ SameX dr H H' ∧ DrA H' dr sl ∧ a + r ≤ z.length ∧ y.length ≤ 44) ?_ ?_
  · rintro σ' H7 ⟨a, r, y, v6, v7, v8, rfl, X7, D7, har, hy44⟩
    refine x_cut (fun σ' H' => ∃ (a r : Nat) (y : Str) (v5 v6 v7 v8 : Option V), σ' = [some (.ref dr), some (.str z), some (.int (a : Nat)), some (.int (r : Nat)), some (.str y), v5, v6, v7, v8] ∧ SameX dr H H' ∧ DrA H' dr sl ∧ a + r ≤ z.length ∧ y.length ≤ 44) ?_ ?_
    · rintro σ' H8 ⟨a, r, y, v5, v6, v7, v8, rfl, X8, D8, har, hy44⟩
      walk_at "go"
      refine ⟨by show 3 ≤ sizeLine; decide, fun q hq => ?_⟩
      have hHq : H q = none := by
        refine Option.eq_none_iff_forall_ne_some.mpr fun o ho => ?_
        by_cases e : q = dr
        · obtain ⟨ns, i, big, st, h1, _⟩ := D8
          rw [e, h1] at hq; cases hq
        · rw [X8 _ _ e ho] at hq; cases hq
      exact k _ q a r y (X8.trans (SameX.of (Same.new hq))) (D8.same (Same.new hq)) hHq upd_same har hy44
    · intro N hN
      walk_at "go"
      by_cases c : kd = 3
      · rw [decide_eq_true (show ((kd : Nat) : Int) = 3 by omega)]
        refine iteT ?_
        walk_at "go"
        let ps : Nat → Bool := fun k => match (tx z)[k]? with
          | some c => decide ((⟨#[c]⟩ : Str) = (";" : Str))
          | none => false
        refine x_lcRP (by omega) (fun k => ((List.range k).filter ps).map fun k : Nat => V.int ((k : Int) + 1)) (by simp) (fun i hi => ?_) (fun i H8 N1 N2 hi s8 k1 k2 => ?_) (fun ep H8 s8 hep hepv => ?_)
        · have := List.length_filter_le ps (List.range i)
          rw [List.length_range] at this
          rw [List.length_map]; omega
        · obtain ⟨c, hc⟩ : ∃ c, (tx z)[i]? = some c := ⟨_, List.getElem?_eq_getElem (by rw [← len_tx]; omega)⟩
          have ix : atI z.cps.toList (i : Int) = some c := atI_nat hc
          have ep : ps i = decide ((⟨#[c]⟩ : Str) = (";" : Str)) := by show (match (tx z)[i]? with | some c => decide ((⟨#[c]⟩ : Str) = (";" : Str)) | none => false) = _; rw [hc]
          unfold LcTurn
          walk_at "go"
          refine ⟨rfl, ?_⟩
          walk_at "go"
          rw [← ep]
          cases e : ps i with
          | true =>
            refine iteT ?_
            walk_at "go"
            refine k1 _ _ (Same.refl _) ?_
            rw [List.range_succ, List.filter_append, List.map_append]
            simp [e]
          | false =>
            refine iteF ?_
            refine k2 _ (Same.refl _) ?_
            rw [List.range_succ, List.filter_append, List.map_append]
            simp [e]
        walk_at "go"
        refine ⟨by show 1 ≤ sizeLine; decide, fun op hop => ?_⟩
        generalize hes : (List.range z.length).filter ps = es at hepv
        have esl : es.length ≤ 192 := by rw [← hes]; have := List.length_filter_le ps (List.range z.length); rw [List.length_range] at this; omega
        have hev : ∀ x ∈ es.map (fun k : Nat => V.int ((k : Int) + 1)) ++ [V.int 0], ∃ a : Nat, x = V.int (a : Nat) ∧ a ≤ z.length := fun x hx => by
          rcases List.mem_append.mp hx with h | h
          · obtain ⟨k, hk, rfl⟩ := List.mem_map.mp h
            rw [← hes] at hk
            have := List.mem_range.mp (List.mem_filter.mp hk).1
            exact ⟨k + 1, by congr 1, by omega⟩
          · have : x = V.int 0 := by simpa using h
            exact ⟨0, this, Nat.zero_le _⟩
        refine x_cat (look1 hepv hop) upd_same (by rw [List.length_map]; exact small__ (by show es.length + 1 ≤ _; omega)) (fun np hnp => ?_)
        have D9 := ((D7.same s8).same (Same.new (o := .lst [.int 0]) hop)).same (Same.new (o := .lst (es.map (fun k : Nat => V.int ((k : Int) + 1)) ++ [.int 0])) hnp)
        have X9 := ((X7.trans (SameX.of s8)).trans (SameX.of (Same.new (o := .lst [.int 0]) hop))).trans (SameX.of (Same.new (o := .lst (es.map (fun k : Nat => V.int ((k : Int) + 1)) ++ [.int 0])) hnp))
        have hnp' : (upd (upd H8 op (.lst [.int 0])) np (.lst (es.map (fun k : Nat => V.int ((k : Int) + 1)) ++ [.int 0]))) np = some (.lst (es.map (fun k : Nat => V.int ((k : Int) + 1)) ++ [V.int 0])) := upd_same
        have ndn : np ≠ dr := fun e => by
          obtain ⟨ns, i, big, st, h1, h2, _⟩ := (D7.same s8).same (Same.new (o := .lst [.int 0]) hop)
          rw [e, h1] at hnp; cases hnp
        have lsl : (es.map (fun k : Nat => V.int ((k : Int) + 1)) ++ [V.int 0]).length = es.length + 1 := by simp
        generalize es.map (fun k : Nat => V.int ((k : Int) + 1)) ++ [V.int 0] = ls at hev D9 X9 hnp' lsl ⊢
        walk_at "go"
        refine ⟨dr, sl, ls.length, rfl, D9, by omega, by omega, fun H10 v X10 D10 hv => ?_⟩
        have hn10 := X10 _ _ ndn hnp'
        obtain ⟨x, hx⟩ : ∃ x, ls[v]? = some x := ⟨_, List.getElem?_eq_getElem hv⟩
        obtain ⟨a', rfl, ha'⟩ := hev x (List.mem_of_getElem? hx)
        have ia := atI_nat hx
        walk_at "go"
        refine ⟨⟨_, 1, rfl, by decide⟩, dr, sl, 1, rfl, D10, by decide, fun H11 u X11 D11 hu => ?_⟩
        have hu' : u.length ≤ 41 := hu
        have l1 : (("b=" : Str) ++ u).length ≤ 43 := by rw [len_app]; show 2 + _ ≤ _; omega
        have l2 : (("b=" : Str)).length ≤ 2 := by decide
        have l3 : ((";" : Str)).length ≤ 1 := by decide
        walk_at "go"
        exact hN _ _ ⟨a', 0, _, _, _, _, _, rfl, (X9.trans X10).trans X11, D11, by omega, by rw [len_app]; omega⟩
      · rw [decide_eq_false (show ¬ ((kd : Nat) : Int) = 3 by omega)]
        refine iteF ?_
        walk_at "go"
        exact hN _ _ ⟨a, r, y, _, _, _, _, rfl, X7, D7, har, hy44⟩
  · intro N hN
    have same : N [some (.ref dr), some (.str z), some (.int (at0 : Nat)), some (.int (g1 : Nat)), some (.str y), some (.int (kd : Nat)), some (.ref sp), none, none] H6 := hN _ _ ⟨at0, g1, y, _, _, _, rfl, XH6, D6, hg1, by omega⟩
    walk_at "go"
    by_cases c : 0 < kd
    · rw [decide_eq_true (show (0 : Int) < ((kd : Nat) : Int) by omega)]
      refine iteT ?_
      walk_at "go"
      generalize hsps : (List.range z.length).filter pr = sps at hspv
      by_cases c2 : 0 < sps.length
      · rw [decide_eq_true (show (0 : Int) < (((sps.map fun k : Nat => V.int (k : Nat)).length : Nat) : Int) by rw [List.length_map]; omega)]
        refine iteT ?_
        walk_at "go"
        have spl : sps.length ≤ 192 := by rw [← hsps]; have := List.length_filter_le pr (List.range z.length); rw [List.length_range] at this; omega
        refine ⟨dr, sl, (sps.map fun k : Nat => V.int (k : Nat)).length, rfl, D6, by rw [List.length_map]; exact c2, by rw [List.length_map]; omega, fun H7 v7 X7 D7 hv7 => ?_⟩
        rw [List.length_map] at hv7
        have nsd : sp ≠ dr := fun e => by
          obtain ⟨ns, i, big, st, h1, h2, _⟩ := D5
          rw [e, h1] at hsp; cases hsp
        have hsp7 := X7 _ _ nsd hspv
        obtain ⟨kk, hkk⟩ : ∃ kk, sps[v7]? = some kk := ⟨_, List.getElem?_eq_getElem hv7⟩
        have ik : atI (sps.map fun k : Nat => V.int (k : Nat)) (v7 : Int) = some (V.int (kk : Nat)) := atI_nat (by rw [List.getElem?_map, hkk]; rfl)
        have hkm := List.mem_of_getElem? hkk
        rw [← hsps] at hkm
        have hkl := List.mem_range.mp (List.mem_filter.mp hkm).1
        obtain ⟨ch, hch⟩ : ∃ c, (tx z)[kk]? = some c := ⟨_, List.getElem?_eq_getElem (by rw [← len_tx]; omega)⟩
        have ich : atI z.cps.toList (kk : Int) = some ch := atI_nat hch
        walk_at "go"
        refine ⟨dr, sl, 2, rfl, D7, by decide, by decide, fun H8 gg X8 D8 hgg => ?_⟩
        have XH8 := (XH6.trans X7).trans X8
        walk_at "go"
        cases decide (ch ∈ ("abc" : Str).cps.toList) with
        | true =>
          refine iteT ?_
          walk_at "go"
          refine ⟨by show 5 ≤ sizeLine; decide, fun lq hlq => ?_⟩
          walk_at "go"
          have D9 := D8.same (Same.new (o := .lst [V.str "a", V.str "bc", V.str "b,", V.str "cc", V.str "ab"]) hlq)
          refine ⟨dr, sl, 5, rfl, D9, by decide, by decide, fun H9 m9 X9 D9' hm9 => ?_⟩
          have ndq : lq ≠ dr := fun e => by
            obtain ⟨ns, i, big, st, h1, h2, _⟩ := D8
            rw [e, h1] at hlq; cases hlq
          have hl9 := X9 _ _ ndq upd_same
          obtain ⟨u, hu, hul⟩ : ∃ u : Str, ([V.str "a", V.str "bc", V.str "b,", V.str "cc", V.str "ab"] : List V)[m9]? = some (V.str u) ∧ u.length ≤ 2 := by
            have : m9 = 0 ∨ m9 = 1 ∨ m9 = 2 ∨ m9 = 3 ∨ m9 = 4 := by omega
            rcases this with h | h | h | h | h <;> subst h <;> exact ⟨_, rfl, by decide⟩
          have iu := atI_nat hu
          walk_at "go"
          refine hN _ _ ⟨kk, gg, u, _, _, _, rfl, ((XH8.trans (SameX.of (Same.new hlq))).trans X9), D9', by omega, by omega⟩
        | false =>
          refine iteF ?_
          walk_at "go"
          refine ⟨by show 5 ≤ sizeLine; decide, fun lq hlq => ?_⟩
          walk_at "go"
          have D9 := D8.same (Same.new (o := .lst [V.str "3", V.str "14", V.str "5,", V.str "00", V.str "9"]) hlq)
          refine ⟨dr, sl, 5, rfl, D9, by decide, by decide, fun H9 m9 X9 D9' hm9 => ?_⟩
          have ndq : lq ≠ dr := fun e => by
            obtain ⟨ns, i, big, st, h1, h2, _⟩ := D8
            rw [e, h1] at hlq; cases hlq
          have hl9 := X9 _ _ ndq upd_same
          obtain ⟨u, hu, hul⟩ : ∃ u : Str, ([V.str "3", V.str "14", V.str "5,", V.str "00", V.str "9"] : List V)[m9]? = some (V.str u) ∧ u.length ≤ 2 := by
            have : m9 = 0 ∨ m9 = 1 ∨ m9 = 2 ∨ m9 = 3 ∨ m9 = 4 := by omega
            rcases this with h | h | h | h | h <;> subst h <;> exact ⟨_, rfl, by decide⟩
          have iu := atI_nat hu
          walk_at "go"
          refine hN _ _ ⟨kk, gg, u, _, _, _, rfl, ((XH8.trans (SameX.of (Same.new hlq))).trans X9), D9', by omega, by omega⟩
      · rw [decide_eq_false (show ¬ (0 : Int) < (((sps.map fun k : Nat => V.int (k : Nat)).length : Nat) : Int) by rw [List.length_map]; omega)]
        refine iteF ?_
        walk_at "go"
        exact same
    · rw [decide_eq_false (show ¬ (0 : Int) < ((kd : Nat) : Int) by omega)]
      refine iteF ?_
      refine iteF ?_
      walk_at "go"
      exact same
end
section
variable {P : Program} {w : World} {K : PySem.W.Frag} {mg : Str → Option Value} {base : Heap} {σ : L2.St}
/-- a written text (or one of two) -/
def StrTE (σ : L2.St) (te : TE) (v : Str) : Prop := ∀ H (Q : VK), Q (.str v) H → te σ H Q
theorem strTE_c {v : Str} : StrTE σ (tC (.str v)) v := fun _ _ q => q
theorem strTE_if {b : Bool} {u v : Str} {tc : TT} (h : ∀ H (R : Bool → Hp → Prop), R b H → tc σ H R) : StrTE σ (tIf tc (tC (.str u)) (tC (.str v))) (if b then u else v) := fun H Q q => by
  refine h H _ ?_
  cases b
  · exact q
  · exact q
def SymA (H : Hp) (a : Addr) (s : Str × Str) : Prop := H a = some (.tup [.str s.1, .str s.2])
def SymsTE (σ : L2.St) (ta : TA) (ss : List (Str × Str)) : Prop := ss.length ≤ 10 ∧ ∀ H (R : List V → Hp → Prop), (∀ as H', Same H H' → Paired (SymA H') as ss → R (as.map V.ref) H') → ta σ H R
theorem symsTE_nil : SymsTE σ tNil [] := ⟨by decide, fun H R h => h [] H (Same.refl _) .nil⟩
theorem symsTE_cons {t1 t2 : TE} {ta : TA} {u v : Str} {ss : List (Str × Str)} (h1 : StrTE σ t1 u) (h2 : StrTE σ t2 v) (h : SymsTE σ ta ss) (few : ss.length ≤ 9) : SymsTE σ (tCons (tTup (tCons t1 (tCons t2 tNil))) ta) ((u, v) :: ss) :=
  ⟨by simp; omega, fun H R q => by
    refine x_cons (x_tup (x_cons (h1 _ _ (x_cons (h2 _ _ (x_nil ⟨by show 2 ≤ sizeLine; decide, fun p hp => ?_⟩))))))
    refine h.2 _ _ fun as H' s hP => ?_
    exact q (p :: as) H' ((Same.new hp).trans s) (.cons (s _ _ upd_same) hP)⟩
theorem x_rule {ta : TA} {nm lab : Str} {ss : List (Str × Str)} {H : Hp} {Q : VK} (h : SymsTE σ ta ss) (q : ∀ H' p sa as, Same H H' → H p = none → H' p = some (.tup [.str "rule", .str nm, .str lab, .ref sa]) → H sa = none → H' sa = some (.lst (as.map V.ref)) → Paired (SymA H') as ss → Q (.ref p) H') :
    tTup (tCons (tC (.str "rule")) (tCons (tC (.str nm)) (tCons (tC (.str lab)) (tCons (tLst ta) tNil)))) σ H Q := by
  refine x_tup (x_cons (x_c (x_cons (x_c (x_cons (x_c (x_cons (x_lst (h.2 _ _ fun as H1 s1 hP => ⟨?_, fun sa hsa => ?_⟩))))))))) 
  · rw [List.length_map, Paired.length hP]; exact small__ (by have := h.1; omega)
  · refine x_nil ⟨by show 4 ≤ sizeLine; decide, fun p hp => ?_⟩
    refine q _ p sa as ((s1.trans (Same.new hsa)).trans (Same.new hp)) ((s1.trans (Same.new hsa)).free hp) upd_same (s1.free hsa) (look1 upd_same hp) ?_
    exact Paired.imp (fun a s h => look1 (look1 h hsa) hp) hP
def symS (y : Sym) : Str × Str := (kdS y, vlS y)
structure GrJ (l : Bool) (H0 : Hp) (rl : Addr) (i : Nat) (H : Hp) : Prop where
  s : Same H0 H
  n : H0 rl = none
  d : ∃ ras : List Addr, H rl = some (.lst (ras.map V.ref)) ∧ ras.length ≤ 9 ∧ Paired (fun a r => ∃ (sa : Addr) (lab : Str) (as : List Addr), sa ≠ rl ∧ H a = some (.tup [.str "rule", .str (nS (left r)), .str lab, .ref sa]) ∧ H sa = some (.lst (as.map V.ref)) ∧ Paired (SymA H) as ((syms l r).map symS)) ras (List.range i)
theorem GrJ.ex {l H0 rl i H} (J : GrJ l H0 rl i H) : ∃ xs, H rl = some (.lst xs) := by
  obtain ⟨ras, h, _⟩ := J.d
  exact ⟨_, h⟩
theorem GrJ.step {l H0 rl i H H' p sa as lab} (J : GrJ l H0 rl i H) (hi : i < 9) (s : Same H H') (hp : H' p = some (.tup [.str "rule", .str (nS (left i)), .str lab, .ref sa])) (hsa : H sa = none) (hs : H' sa = some (.lst (as.map V.ref))) (hP : Paired (SymA H') as ((syms l i).map symS)) :
    ∃ xs, H' rl = some (.lst xs) ∧ xs.length < sizeLine ∧ GrJ l H0 rl (i + 1) (upd H' rl (.lst (xs ++ [.ref p]))) := by
  obtain ⟨ras, h1, h2, h3⟩ := J.d
  have h1' := s _ _ h1
  have tk : TK H' (upd H' rl (.lst (ras.map V.ref ++ [.ref p]))) := TK.upd h1' fun xs h => nomatch h
  have nsr : sa ≠ rl := fun e => by rw [e, h1] at hsa; cases hsa
  have rlen : ras.length = i := by rw [Paired.length h3, List.length_range]
  refine ⟨_, h1', by rw [List.length_map]; exact small_ (by omega), Same.mut (J.s.trans s) J.n, J.n, ras ++ [p], by rw [upd_same, List.map_append]; rfl, by rw [List.length_append, rlen]; show i + 1 ≤ 9; omega, ?_⟩
  rw [List.range_succ]
  refine Paired.snoc' ⟨sa, lab, as, nsr, tk _ _ hp, by rw [upd_ne nsr]; exact hs, Paired.imp (fun a y h => tk _ _ h) hP⟩ (Paired.imp (fun a r ⟨sa, lab, as, q1, q2, q3, q4⟩ => ⟨sa, lab, as, q1, tk _ _ (s _ _ q2), by rw [upd_ne q1]; exact s _ _ q3, Paired.imp (fun a y h => tk _ _ (s _ _ h)) q4⟩) h3)
def spGram : Sp := fun vs H Q _ => ∃ l : Bool, vs = [.bl l] ∧ ∀ H' g, Same H H' → GramAt H' l g → Q (.ref g) H'
theorem ok_grammar (T : TX K mg) : FnOk P w K mg base CX0 1 T.f_law_grammar T.d_law_grammar ["_law_loose"] spGram := by
  refine T.F_law_grammar.ok sc_law_grammar (fun vs H Q E h => ?_) (fun cdv A outer s H vs Q E hr h => ?_)
  · obtain ⟨l, rfl, _⟩ := h
    rfl
  obtain ⟨l, rfl, k⟩ := h
  refine ⟨_, (pss_cons (ps_set (i := 1) sc_law_grammar.nd rfl (Or.inl rfl) (pe_lst (pa_cons (pe_tup (pa_cons pe_str (pa_cons pe_str (pa_cons pe_str (pa_cons (pe_lst (pa_cons (pe_tup (pa_cons pe_str (pa_cons pe_str pa_nil))) (pa_cons (pe_tup (pa_cons pe_str (pa_cons pe_str pa_nil))) pa_nil))) pa_nil))))) (pa_cons (pe_tup (pa_cons pe_str (pa_cons pe_str (pa_cons pe_str (pa_cons (pe_lst pa_nil) pa_nil))))) pa_nil))))
  (pss_cons (ps_expr (kbm K (pe_bm PySem.F.plainAttrs_list PySem.F.slot_list_append PySem.F.type_list_append mt_append (pv 1) (pa_cons (pe_tup (pa_cons pe_str (pa_cons pe_str (pa_cons pe_str (pa_cons (pe_lst (pa_cons (pe_tup (pa_cons pe_str (pa_cons pe_str pa_nil))) (pa_cons (pe_tup (pa_cons pe_str (pa_cons pe_str pa_nil))) (pa_cons (pe_tup (pa_cons pe_str (pa_cons pe_str pa_nil))) (pa_cons (pe_tup (pa_cons pe_str (pa_cons pe_str pa_nil))) pa_nil))))) pa_nil))))) pa_nil))))
  (pss_cons (ps_expr (kbm K (pe_bm PySem.F.plainAttrs_list PySem.F.slot_list_append PySem.F.type_list_append mt_append (pv 1) (pa_cons (pe_tup (pa_cons pe_str (pa_cons pe_str (pa_cons pe_str (pa_cons (pe_lst (pa_cons (pe_tup (pa_cons pe_str (pa_cons (pe_ifExp (pt_val (pv 0)) pe_str pe_str) pa_nil))) (pa_cons (pe_tup (pa_cons pe_str (pa_cons pe_str pa_nil))) (pa_cons (pe_tup (pa_cons pe_str (pa_cons pe_str pa_nil))) pa_nil)))) pa_nil))))) pa_nil))))
  (pss_cons (ps_expr (kbm K (pe_bm PySem.F.plainAttrs_list PySem.F.slot_list_append PySem.F.type_list_append mt_append (pv 1) (pa_cons (pe_tup (pa_cons pe_str (pa_cons pe_str (pa_cons pe_str (pa_cons (pe_lst (pa_cons (pe_tup (pa_cons pe_str (pa_cons pe_str pa_nil))) pa_nil)) pa_nil))))) pa_nil))))
  (pss_cons (ps_expr (kbm K (pe_bm PySem.F.plainAttrs_list PySem.F.slot_list_append PySem.F.type_list_append mt_append (pv 1) (pa_cons (pe_tup (pa_cons pe_str (pa_cons pe_str (pa_cons pe_str (pa_cons (pe_lst (pa_cons (pe_tup (pa_cons pe_str (pa_cons pe_str pa_nil))) pa_nil)) pa_nil))))) pa_nil))))
  (pss_cons (ps_expr (kbm K (pe_bm PySem.F.plainAttrs_list PySem.F.slot_list_append PySem.F.type_list_append mt_append (pv 1) (pa_cons (pe_tup (pa_cons pe_str (pa_cons pe_str (pa_cons pe_str (pa_cons (pe_lst (pa_cons (pe_tup (pa_cons pe_str (pa_cons pe_str pa_nil))) pa_nil)) pa_nil))))) pa_nil))))
  (pss_cons (ps_expr (kbm K (pe_bm PySem.F.plainAttrs_list PySem.F.slot_list_append PySem.F.type_list_append mt_append (pv 1) (pa_cons (pe_tup (pa_cons pe_str (pa_cons pe_str (pa_cons pe_str (pa_cons (pe_lst (pa_cons (pe_tup (pa_cons pe_str (pa_cons pe_str pa_nil))) (pa_cons (pe_tup (pa_cons pe_str (pa_cons pe_str pa_nil))) (pa_cons (pe_tup (pa_cons pe_str (pa_cons pe_str pa_nil))) pa_nil)))) pa_nil))))) pa_nil))))
  (pss_cons (ps_expr (kbm K (pe_bm PySem.F.plainAttrs_list PySem.F.slot_list_append PySem.F.type_list_append mt_append (pv 1) (pa_cons (pe_tup (pa_cons pe_str (pa_cons pe_str (pa_cons pe_str (pa_cons (pe_lst (pa_cons (pe_tup (pa_cons pe_str (pa_cons pe_str pa_nil))) pa_nil)) pa_nil))))) pa_nil))))
  (pss_one (ps_ret (pe_tup (pa_cons pe_str (pa_cons pe_str (pa_cons (pv 1) pa_nil)))))))))))))), ?_⟩
  refine x_seq (x_asg (x_lst (x_cons (x_rule (symsTE_cons strTE_c strTE_c (symsTE_cons strTE_c strTE_c symsTE_nil (by decide)) (by decide)) fun H1 p0 sa0 as0 s1 n1 h1 m1 e1 P1 => x_cons (x_rule symsTE_nil fun H2 p1 sa1 as1 s2 n2 h2 m2 e2 P2 => x_nil ⟨by show 2 ≤ sizeLine; decide, fun rl hrl => ?_⟩)))))
  have s2r : Same H2 (upd H2 rl (.lst [.ref p0, .ref p1])) := Same.new hrl
  have J2 : GrJ l H rl 2 (upd H2 rl (.lst [.ref p0, .ref p1])) := by
    refine ⟨(s1.trans s2).trans s2r, (s1.trans s2).free hrl, [p0, p1], upd_same, by show 2 ≤ 9; decide, ?_⟩
    refine .cons ⟨sa0, _, as0, (fun e => by rw [← e, s2 _ _ e1] at hrl; cases hrl), s2r _ _ (s2 _ _ h1), s2r _ _ (s2 _ _ e1), Paired.imp (fun a y h => s2r _ _ (s2 _ _ h)) P1⟩ (.cons ⟨sa1, _, as1, (fun e => by rw [← e, e2] at hrl; cases hrl), s2r _ _ h2, s2r _ _ e2, Paired.imp (fun a y h => s2r _ _ h) P2⟩ .nil)
  refine x_name ?_
  dsimp only
  obtain ⟨ys, hys⟩ := J2.ex
  refine x_seq (x_drop (x_bm (x_var rfl (x_bmL hys (x_cons (x_rule (symsTE_cons strTE_c strTE_c (symsTE_cons strTE_c strTE_c (symsTE_cons strTE_c strTE_c (symsTE_cons strTE_c strTE_c symsTE_nil (by decide)) (by decide)) (by decide)) (by decide)) fun Ha2 p2 sa2 as2 sA2 nA2 hA2 mA2 eA2 PA2 => x_nil ?_))))))
  obtain ⟨xs2, hx2, few2, J3⟩ := J2.step (by decide) sA2 hA2 mA2 eA2 (by exact PA2)
  refine x_append hx2 few2 ?_
  dsimp only
  obtain ⟨ys, hys⟩ := J3.ex
  refine x_seq (x_drop (x_bm (x_var rfl (x_bmL hys (x_cons (x_rule (symsTE_cons strTE_c (strTE_if (b := l) fun H R q => ⟨V.bl l, rfl, l, rfl, q⟩) (symsTE_cons strTE_c strTE_c (symsTE_cons strTE_c strTE_c symsTE_nil (by decide)) (by decide)) (by decide)) fun Ha3 p3 sa3 as3 sA3 nA3 hA3 mA3 eA3 PA3 => x_nil ?_))))))
  obtain ⟨xs3, hx3, few3, J4⟩ := J3.step (by decide) sA3 hA3 mA3 eA3 (by cases l <;> exact PA3)
  refine x_append hx3 few3 ?_
  dsimp only
  obtain ⟨ys, hys⟩ := J4.ex
  refine x_seq (x_drop (x_bm (x_var rfl (x_bmL hys (x_cons (x_rule (symsTE_cons strTE_c strTE_c symsTE_nil (by decide)) fun Ha4 p4 sa4 as4 sA4 nA4 hA4 mA4 eA4 PA4 => x_nil ?_))))))
  obtain ⟨xs4, hx4, few4, J5⟩ := J4.step (by decide) sA4 hA4 mA4 eA4 (by exact PA4)
  refine x_append hx4 few4 ?_
  dsimp only
  obtain ⟨ys, hys⟩ := J5.ex
  refine x_seq (x_drop (x_bm (x_var rfl (x_bmL hys (x_cons (x_rule (symsTE_cons strTE_c strTE_c symsTE_nil (by decide)) fun Ha5 p5 sa5 as5 sA5 nA5 hA5 mA5 eA5 PA5 => x_nil ?_))))))
  obtain ⟨xs5, hx5, few5, J6⟩ := J5.step (by decide) sA5 hA5 mA5 eA5 (by exact PA5)
  refine x_append hx5 few5 ?_
  dsimp only
  obtain ⟨ys, hys⟩ := J6.ex
  refine x_seq (x_drop (x_bm (x_var rfl (x_bmL hys (x_cons (x_rule (symsTE_cons strTE_c strTE_c symsTE_nil (by decide)) fun Ha6 p6 sa6 as6 sA6 nA6 hA6 mA6 eA6 PA6 => x_nil ?_))))))
  obtain ⟨xs6, hx6, few6, J7⟩ := J6.step (by decide) sA6 hA6 mA6 eA6 (by exact PA6)
  refine x_append hx6 few6 ?_
  dsimp only
  obtain ⟨ys, hys⟩ := J7.ex
  refine x_seq (x_drop (x_bm (x_var rfl (x_bmL hys (x_cons (x_rule (symsTE_cons strTE_c strTE_c (symsTE_cons strTE_c strTE_c (symsTE_cons strTE_c strTE_c symsTE_nil (by decide)) (by decide)) (by decide)) fun Ha7 p7 sa7 as7 sA7 nA7 hA7 mA7 eA7 PA7 => x_nil ?_))))))
  obtain ⟨xs7, hx7, few7, J8⟩ := J7.step (by decide) sA7 hA7 mA7 eA7 (by exact PA7)
  refine x_append hx7 few7 ?_
  dsimp only
  obtain ⟨ys, hys⟩ := J8.ex
  refine x_seq (x_drop (x_bm (x_var rfl (x_bmL hys (x_cons (x_rule (symsTE_cons strTE_c strTE_c symsTE_nil (by decide)) fun Ha8 p8 sa8 as8 sA8 nA8 hA8 mA8 eA8 PA8 => x_nil ?_))))))
  obtain ⟨xs8, hx8, few8, J9⟩ := J8.step (by decide) sA8 hA8 mA8 eA8 (by exact PA8)
  refine x_append hx8 few8 ?_
  dsimp only
  refine x_ret (x_tup (x_cons (x_c (x_cons (x_c (x_cons (x_var rfl (x_nil ⟨by show 3 ≤ sizeLine; decide, fun g hg => ?_⟩)))))))) 
  obtain ⟨ras, h1, _, h3⟩ := J9.d
  have s9 := Same.new (o := .tup [.str "grammar", .str "p", .ref rl]) hg
  refine k _ g (J9.s.trans s9) ⟨rl, ras, upd_same, look1 h1 hg, Paired.imp (fun a r h => ?_) h3⟩
  obtain ⟨sa, lab, as, _, q2, q3, q4⟩ := h
  refine ⟨sa, lab, look1 q2 hg, as, look1 q3 hg, ?_⟩
  have key : ∀ {as : List Addr} {ys : List Sym} {H' : Hp}, Paired (SymA H') as (ys.map symS) → Paired (SymAt H') as ys := fun {as ys H'} => by
    intro h
    generalize hz : ys.map symS = zs at h
    induction h generalizing ys with
    | nil => cases ys with
      | nil => exact .nil
      | cons _ _ => simp at hz
    | cons r t ih => cases ys with
      | nil => simp at hz
      | cons y ys =>
        simp only [List.map_cons, List.cons.injEq] at hz
        obtain ⟨rfl, hz⟩ := hz
        exact .cons r (ih hz)
  exact key (Paired.imp (fun a y h => look1 h hg) q4)
end
section
variable {P : Program} {w : World} {K : PySem.W.Frag} {mg : Str → Option Value} {base : Heap}
theorem TreesAt.pair {F : Addr → Prop} {H : Hp} : ∀ {ks : List T} {vs : List V}, TreesAt F H ks vs → Paired (fun v k => TreeAt F H k v) vs ks
  | [], vs, h => by
    unfold TreesAt at h
    subst h; exact .nil
  | k :: ks, vs, h => by
    unfold TreesAt at h
    obtain ⟨v, r, rfl, h1, h2⟩ := h
    exact .cons h1 (TreesAt.pair h2)
theorem sum_cast : ∀ ks : List K38.T, (ks.map fun k => ((szT k : Nat) : Int)).sum = (((ks.map szT).sum : Nat) : Int)
  | [] => rfl
  | k :: ks => by rw [List.map_cons, List.sum_cons, List.map_cons, List.sum_cons, sum_cast ks, Int.natCast_add]
def spSize (n : Nat) : Sp := fun vs H Q _ => ∃ (F : Addr → Prop) (t : T) (v : V), vs = [v] ∧ TreeAt F H t v ∧ dpT t < n ∧ szT t ≤ 1000 ∧ wfT t ∧ ∀ H', Same H H' → Q (.int (szT t : Nat)) H'
theorem ok_size (T : TX K mg) : ∀ n, FnD P w K mg base CX0 (n + 1) T.f_law_size T.d_law_size ["_law_one"] (spSize n) := by
  intro n
  induction n with
  | zero =>
    refine T.F_law_size.okD sc_law_size (fun vs H Q E h => ?_) (fun cdv A outer s H vs Q E hr h => ?_)
    · obtain ⟨F, t, v, rfl, _⟩ := h
      rfl
    · obtain ⟨F, t, v, rfl, _, hd, _⟩ := h
      omega
  | succ n ih =>
  have G_law_size := ih
  refine T.F_law_size.okD sc_law_size (fun vs H Q E h => ?_) (fun cdv A outer s H vs Q E hr h => ?_)
  · obtain ⟨F, t, v, rfl, _⟩ := h
    rfl
  obtain ⟨F, t, v, rfl, ht, hd, hs, hw, k⟩ := h
  refine ⟨_, (pss_one (ps_ret (pe_ifExp (pt_val (pe_callB (kc_isi K) (by rfl) T.z_isinstance (by decide +kernel) (pa_cons (pv 0) (pa_cons (pe_bltn (v := .ty "str") (by rfl) T.z_str (by decide +kernel) rfl) pa_nil)))) (pe_callB cl_lenS (by rfl) T.z_len (by decide +kernel) (pa_cons (pv 0) pa_nil)) (pe_callB (kc_sum K rfl) (by rfl) T.z_sum (by decide +kernel) (pa_cons (pe_lc (own := [("_law_kid", 1)]) (by rfl) sc_law_size.nd (kpi_list K (pe_ix (kx_tup K) (pv 0) pe_int (fun _ _ => rfl))) (blkOk_by (N := ["_law_one", "_law_kid"]) (sc := (defScope s_law_size)) (by decide +kernel)) (fun _ _ _ _ _ => (pg_name (i := 1) sc_law_size.nd rfl (Or.inl rfl))) (fun _ _ _ _ _ => pts_nil) (fun _ _ _ _ _ => (pe_callD G_law_size (hr.mono (by omega)) (by rfl) T.m_law_size T.F_law_size.kp T.b_law_size .nil pass0 (pa_cons (pv 1) pa_nil)))) pa_nil))))), ?_⟩
  cases t with
  | leaf u =>
    unfold TreeAt at ht
    obtain ⟨z, rfl, hz⟩ := ht
    have hl : z.length = szT (.leaf u) := by rw [len_tx, hz]; rfl
    walk_at "go"
    refine x_isiStr (b := true) (by decide) ?_
    walk_at "go"
    rw [hl]
    exact k H (Same.refl _)
  | node r ks =>
    unfold TreeAt at ht
    obtain ⟨a, p, us, rfl, _, h1, h2, h3⟩ := ht
    have hw : ks.length ≤ 10 ∧ wfTs ks := hw
    have hP := TreesAt.pair h3
    walk_at "go"
    refine x_isiTup h1 (b := false) (by decide) ?_
    walk_at "go"
    refine x_lcP h2 (fun j => (ks.take j).map fun k => V.int (szT k : Nat)) (by simp) (fun i hi => by rw [List.length_map, List.length_take]; omega) (fun i y H1 N1 N2 hy s1 k1 k2 => ?_) (fun D H1 s1 hD hDv => ?_)
    · obtain ⟨kt, hk, hkt⟩ := Paired.at' hP hy
      have hm := List.mem_of_getElem? hk
      unfold LcTurn
      walk_at "go"
      refine ⟨rfl, ?_⟩
      walk_at "go"
      refine ⟨F, kt, y, rfl, TreeAt.kp (same_tk s1) (same_se s1).lk hkt, ?_, ?_, wfTs_mem hw.2 hm, fun H2 s2 => ?_⟩
      · have := dpTs_le hm
        have hd : dpTs ks + 1 < n + 1 := hd
        omega
      · have := szTs_mem hm
        have hs : szTs ks ≤ 1000 := hs
        omega
      · refine k1 _ _ s2 ?_
        rw [take_more hk, List.map_append]; rfl
    · rw [Paired.length hP, List.take_length] at hDv
      walk_at "go"
      refine x_sum (ns := ks.map fun k => ((szT k : Nat) : Int)) (by rw [List.map_map]; exact hDv) ?_
      have e : (ks.map fun k => ((szT k : Nat) : Int)).sum = ((szT (.node r ks) : Nat) : Int) := by
        show _ = ((szTs ks : Nat) : Int)
        rw [szTs_sum]
        exact sum_cast ks
      rw [e]
      exact k _ s1
end
section
variable {K : PySem.W.Frag} {σ : L2.St} {H : Hp} {tl : TE} {g : TG} {tb : TS} {D : Ends}
def rForU (K : PySem.W.Frag) (g : TG) (tb : TS) (D : Ends) (σ : L2.St) (x : V) (H1 : Hp) : Prop := ∃ a, x = .ref a ∧ (∃ xs, SqT K H1 a xs) ∧ rFor (Itt K a) g tb D σ H1
theorem x_forU (h : tl σ H fun x H1 => rForU K g tb D σ x H1) : tFor (iTup K tl) g tb D σ H := h
theorem x_forUR {a : Addr} {xs : List V} (h : H a = some (.tup xs)) (Pv : Nat → L2.St → Hp → Prop) (h0 : Pv 0 σ H) (hl : ∀ i σ H, i ≤ xs.length → Pv i σ H → H a = some (.tup xs))
    (hs : ∀ i x σ H, xs[i]? = some x → Pv i σ H → g x σ H fun σ2 H2 => tb { D with nx := Pv (i + 1), ct := Pv (i + 1), bk := D.nx } σ2 H2) (hd : ∀ σ H, Pv xs.length σ H → D.nx σ H) : rForU K g tb D σ (.ref a) H :=
  ⟨a, rfl, ⟨xs, SqT.of h⟩, for_tup (K := K) (xs := xs) Pv h0 (fun i σ H hi p => SqT.of (hl i σ H hi p)) hs hd⟩
end
section
variable {P : Program} {w : World} {K : PySem.W.Frag} {mg : Str → Option Value} {base : Heap}
def spSub : Sp := fun vs H Q _ => ∃ (F : Addr → Prop) (t t' : K38.T) (v : V) (pa : Addr) (path : List Nat), vs = [v, .ref pa] ∧ TreeAt F H t v ∧ H pa = some (.tup (nats path)) ∧ subT t path = some t' ∧ ∀ v', TreeAt F H t' v' → Q v' H
theorem ok_subtree (T : TX K mg) : FnOk P w K mg base CX0 1 T.f_subtree T.d_subtree ["tree", "path"] spSub := by
  refine T.F_subtree.ok sc_subtree (fun vs H Q E h => ?_) (fun cdv A outer s H vs Q E hr h => ?_)
  · obtain ⟨F, t, t', v, pa, path, rfl, _⟩ := h
    rfl
  obtain ⟨F, t, t', v, pa, path, rfl, ht, hpa, hsub, k⟩ := h
  refine ⟨_, (pss_cons (ps_for PassesOwn.never rfl (kpi_tup K (pv 1)) (pg_name (i := 2) sc_subtree.nd rfl (Or.inl rfl))
  (pss_one (ps_set (i := 0) sc_subtree.nd rfl (Or.inl rfl) (pe_ix (kx_list K) (pe_ix (kx_tup K) (pv 0) pe_int (fun _ _ => rfl)) (pv 2) (fun _ _ => rfl)))))
  (pss_one (ps_ret (pv 0)))), ?_⟩
  walk_at "go"
  refine x_forU ?_
  walk_at "go"
  refine x_forUR hpa (fun i σ H' => H' = H ∧ ∃ (u : V) (v2 : Option V) (ti : K38.T), σ = [some u, some (.ref pa), v2] ∧ TreeAt F H ti u ∧ subT ti (path.drop i) = some t') ⟨rfl, v, none, t, rfl, ht, by simpa using hsub⟩ (fun i σ H' _ ⟨e, _⟩ => by rw [e]; exact hpa) ?_ ?_
  · rintro i x σ H' hx ⟨rfl, u, v2, ti, rfl, hti, hs⟩
    obtain ⟨j, hj, rfl⟩ : ∃ j, path[i]? = some j ∧ x = V.int (j : Nat) := by
      unfold nats at hx
      rw [List.getElem?_map] at hx
      obtain ⟨r, h1, h2⟩ := Option.map_eq_some_iff.mp hx
      exact ⟨r, h1, h2.symm⟩
    rw [drop_get hj] at hs
    cases ti with
    | leaf _ => simp [subT] at hs
    | node r ks =>
      unfold TreeAt at hti
      obtain ⟨a, p, us, rfl, _, h1, h2, h3⟩ := hti
      obtain ⟨kt, hk, hs'⟩ := Option.bind_eq_some_iff.mp hs
      have hP := TreesAt.pair h3
      have hl := Paired.length hP
      have hjl : j < us.length := by rw [hl]; exact (List.getElem?_eq_some_iff.mp hk).1
      obtain ⟨y, hy⟩ : ∃ y, us[j]? = some y := ⟨_, List.getElem?_eq_getElem hjl⟩
      obtain ⟨kt', hk', hkt⟩ := Paired.at' hP hy
      rw [hk] at hk'
      cases hk'
      have iy := atI_nat hy
      walk_at "go"
      exact ⟨rfl, y, _, kt, rfl, hkt, hs'⟩
  · rintro σ H' ⟨rfl, u, v2, ti, rfl, hti, hs⟩
    unfold nats at hs
    rw [List.length_map, List.drop_length] at hs
    have e : ti = t' := by
      cases ti <;> simpa [subT] using hs
    subst e
    walk_at "go"
    exact k u hti
end
section
variable {P : Program} {w : World} {K : PySem.W.Frag} {mg : Str → Option Value} {base : Heap}
def RowAt (H : Hp) (v : V) (x : Row) : Prop := ∃ a pa : Addr, v = .ref a ∧ H a = some (.tup [.ref pa, .int (x.2.1 : Nat), .int (x.2.2.1 : Nat), .int (x.2.2.2 : Nat)]) ∧ H pa = some (.tup (nats x.1))
theorem RowAt.tk {H H' : Hp} {v : V} {x : Row} (s : TK H H') (h : RowAt H v x) : RowAt H' v x := by
  obtain ⟨a, pa, e, h1, h2⟩ := h
  exact ⟨a, pa, e, s _ _ h1, s _ _ h2⟩
def spAddR (n : Nat) : Sp := fun vs H Q _ => ∃ (F : Addr → Prop) (rw_ pa : Addr) (t : K38.T) (v : V) (path : List Nat) (s : Nat) (vs0 : List V), vs = [.ref rw_, v, .ref pa, .int (s : Nat)] ∧ F rw_ ∧ TreeAt F H t v ∧ (∃ r ks, t = .node r ks) ∧ dpT t < n ∧ wfT t ∧ szT t ≤ 1000 ∧
  H pa = some (.tup (nats path)) ∧ path.length + dpT t ≤ 1000 ∧ H rw_ = some (.lst vs0) ∧ vs0.length + nnT t ≤ 90000 ∧ ∀ H' vs1, SameX rw_ H H' → H' rw_ = some (.lst (vs0 ++ vs1)) → Paired (RowAt H') vs1 (nodesT t path s) → Q (.int (s + szT t : Nat)) H'
theorem ok_add_rows (T : TX K mg) : ∀ n, FnOk P w K mg base CX0 (n + 1) T.f_add_rows T.d_add_rows ["rows", "tree", "path", "start"] (spAddR n) := by
  intro n
  induction n with
  | zero =>
    refine T.F_add_rows.ok sc_add_rows (fun vs H Q E h => ?_) (fun cdv A outer s H vs Q E hr h => ?_)
    · obtain ⟨F, rw_, pa, t, v, path, s, vs0, rfl, _⟩ := h
      rfl
    · obtain ⟨F, rw_, pa, t, v, path, s, vs0, rfl, _, _, _, hd, _⟩ := h
      omega
  | succ n ih =>
  have G_add_rows := ih
  refine T.F_add_rows.ok sc_add_rows (fun vs H Q E h => ?_) (fun cdv A outer s H vs Q E hr h => ?_)
  · obtain ⟨F, rw_, pa, t, v, path, s, vs0, rfl, _⟩ := h
    rfl
  obtain ⟨F, rw_, pa, t, v, path, s, vs0, rfl, hFr, ht, ⟨r, ks, rfl⟩, hd, hw, hsz, hpa, hpl, hrw, hfew, k⟩ := h
  refine ⟨_, (pss_cons (ps_set (i := 4) sc_add_rows.nd rfl (Or.inl rfl) (pe_callB (kl_len K) (by rfl) T.z_len (by decide +kernel) (pa_cons (pv 0) pa_nil)))
  (pss_cons (ps_expr (kbm K (pe_bm PySem.F.plainAttrs_list PySem.F.slot_list_append PySem.F.type_list_append mt_append (pv 0) (pa_cons pe_non pa_nil))))
  (pss_cons (ps_set (i := 5) sc_add_rows.nd rfl (Or.inl rfl) (pv 3))
  (pss_cons (ps_for PassesOwn.never rfl (kpi_enum K (by rfl) T.z_enumerate (pa_cons (pe_ix (kx_tup K) (pv 1) pe_int (fun _ _ => rfl)) pa_nil)) (kpg_tup K 2 rfl (pgs_cons (pg_name (i := 6) sc_add_rows.nd rfl (Or.inl rfl)) (pgs_cons (pg_name (i := 7) sc_add_rows.nd rfl (Or.inl rfl)) pgs_nil)))
  (pss_one (ps_if (pt_val (pe_callB (kc_isi K) (by rfl) T.z_isinstance (by decide +kernel) (pa_cons (pv 7) (pa_cons (pe_bltn (v := .ty "str") (by rfl) T.z_str (by decide +kernel) rfl) pa_nil))))
  (pss_one (ps_set (i := 5) sc_add_rows.nd rfl (Or.inl rfl) (pe_op op_add (pv 5) (pe_callB cl_lenS (by rfl) T.z_len (by decide +kernel) (pa_cons (pv 7) pa_nil)))))
  (pss_one (ps_set (i := 5) sc_add_rows.nd rfl (Or.inl rfl) (pe_call G_add_rows (hr.mono (by omega)) (by rfl) T.m_add_rows T.F_add_rows.kp T.b_add_rows .nil pass0 (pa_cons (pv 0) (pa_cons (pv 7) (pa_cons (pe_op (kop_cat K) (pv 2) (pe_tup (pa_cons (pv 6) pa_nil))) (pa_cons (pv 5) pa_nil))))))))))
  (pss_cons (ps_asg (pe_tup (pa_cons (pv 2) (pa_cons (pe_ix (kx_tup K) (pv 1) pe_int (fun _ _ => rfl)) (pa_cons (pv 3) (pa_cons (pv 5) pa_nil))))) (pg_sub (pv 0) (pv 4) set_list))
  (pss_one (ps_ret (pv 5)))))))), ?_⟩
  unfold TreeAt at ht
  obtain ⟨a, p, us, rfl, npF, h1, h2, h3⟩ := ht
  have npr : p ≠ rw_ := fun e => npF (by rw [e]; exact hFr)
  have hP := TreesAt.pair h3
  have hw : ks.length ≤ 10 ∧ wfTs ks := hw
  have hfew : vs0.length + (nnTs ks + 1) ≤ 90000 := hfew
  walk_at "go"
  refine x_append hrw (small_ (by omega)) ?_
  walk_at "go"
  have tk0 : TK H (upd H rw_ (.lst (vs0 ++ [.non]))) := TK.upd hrw fun xs h => nomatch h
  refine x_forER ((upd_ne npr).trans h2) (fun j σ H' => ∃ (v6 v7 : Option V) (vj : List V), σ = [some (.ref rw_), some (.ref a), some (.ref pa), some (.int (s : Nat)), some (.int (vs0.length : Nat)), some (.int (s + szTs (ks.take j) : Nat)), v6, v7] ∧ SameX rw_ H H' ∧ H' rw_ = some (.lst (vs0 ++ [.non] ++ vj)) ∧ Paired (RowAt H') vj (nodesTs (ks.take j) path 0 s))
    ⟨none, none, [], rfl, SameX.upd, by simpa using upd_same, .nil⟩ (fun j σ H' _ ⟨_, _, _, _, X, _⟩ => X _ _ npr h2) ?_ ?_
  · rintro j y σ H1 U hj ⟨v6, v7, vj, rfl, X1, hrw1, P1⟩ hU
    obtain ⟨kt, hkt, hty⟩ := Paired.at' hP hj
    have hm := List.mem_of_getElem? hkt
    have hj10 : j < ks.length := (List.getElem?_eq_some_iff.mp hkt).1
    have tk1 : TK H H1 := fun b xs h => X1 _ _ (fun e => by rw [e, hrw] at h; cases h) h
    have s1U : Same H1 (upd H1 U (.tup [.int (j : Nat), y])) := Same.new hU
    have ej : (ks.take j).length = j := by rw [List.length_take]; omega
    have e1 : nodesTs (ks.take (j + 1)) path 0 s = nodesTs (ks.take j) path 0 s ++ nodesT kt (path ++ [j]) (s + szTs (ks.take j)) := by rw [take_more hkt, nodesTs_app, ej, Nat.zero_add]
    have e2 : szTs (ks.take (j + 1)) = szTs (ks.take j) + szT kt := by rw [take_more hkt, szTs_app]
    cases kt with
    | leaf u =>
      unfold TreeAt at hty
      obtain ⟨z, rfl, hz⟩ := hty
      have hl : z.length = szT (.leaf u) := by rw [len_tx, hz]; rfl
      have hzl : z.length ≤ 1000 := by rw [hl]; have := szTs_mem hm; have hsz : szTs ks ≤ 1000 := hsz; omega
      walk_at "go"
      refine x_isiStr (b := true) (by decide) ?_
      walk_at "go"
      rw [e1, e2]
      have ec : ((s + szTs (ks.take j) : Nat) : Int) + (z.length : Nat) = ((s + (szTs (ks.take j) + szT (.leaf u)) : Nat) : Int) := by rw [hl]; omega
      rw [ec]
      refine ⟨_, _, vj, rfl, X1.trans (SameX.of s1U), s1U _ _ hrw1, ?_⟩
      rw [show nodesT (.leaf u) (path ++ [j]) (s + szTs (ks.take j)) = [] from rfl, List.append_nil]
      exact Paired.imp (fun _ _ h => h.tk (same_tk s1U)) P1
    | node r2 ks2 =>
      have htU : TreeAt F (upd H1 U (.tup [.int (j : Nat), y])) (.node r2 ks2) y := TreeAt.kp (same_tk s1U) (same_se s1U).lk (TreeAt.kp tk1 (fun b xs nF h => X1 _ _ (fun e => nF (by rw [e]; exact hFr)) h) hty)
      obtain ⟨b, p2, us2, ey, _, hb, _⟩ := (by unfold TreeAt at htU; exact htU)
      subst ey
      have hdj := dpTs_le hm
      have hd' : dpTs ks + 1 < n + 1 := hd
      have hsj := szTs_mem hm
      have hsz' : szTs ks ≤ 1000 := hsz
      have hpl' : path.length + (dpTs ks + 1) ≤ 1000 := hpl
      have hpaU := s1U _ _ (tk1 _ _ hpa)
      have fewj : vj.length + nnT (.node r2 ks2) ≤ nnTs ks := by
        rw [Paired.length P1, nodesTs_len]
        have e9 : ks = ks.take j ++ .node r2 ks2 :: ks.drop (j + 1) := by
          rw [← drop_get hkt, List.take_append_drop]
        have app : ∀ (xs ys : List K38.T), nnTs (xs ++ ys) = nnTs xs + nnTs ys := fun xs ys => by
          induction xs with
          | nil => simp [nnTs]
          | cons x xs ih => show nnT x + nnTs (xs ++ ys) = nnT x + nnTs xs + nnTs ys; rw [ih]; omega
        have e10 : nnTs ks = nnTs (ks.take j) + (nnT (.node r2 ks2) + nnTs (ks.drop (j + 1))) := by
          conv => lhs; rw [e9]
          rw [app]; rfl
        omega
      have call : ∀ (H3 : Hp) (q : Addr) (Q' : VK), Same (upd H1 U (.tup [.int (j : Nat), .ref b])) H3 → H3 q = some (.tup (nats (path ++ [j]))) →
          (∀ H4 vs1, SameX rw_ H3 H4 → H4 rw_ = some (.lst (vs0 ++ [.non] ++ vj ++ vs1)) → Paired (RowAt H4) vs1 (nodesT (.node r2 ks2) (path ++ [j]) (s + szTs (ks.take j))) → Q' (.int ((s + szTs (ks.take j) + szT (.node r2 ks2) : Nat))) H4) →
          spAddR n [.ref rw_, .ref b, .ref q, .int ((s + szTs (ks.take j) : Nat))] H3 Q' E0 := fun H3 q Q' s3 hq kq => by
        refine ⟨F, rw_, q, .node r2 ks2, .ref b, path ++ [j], s + szTs (ks.take j), vs0 ++ [.non] ++ vj, rfl, hFr, TreeAt.kp (same_tk s3) (same_se s3).lk htU, ⟨_, _, rfl⟩, by omega, wfTs_mem hw.2 hm, by omega, hq, by rw [List.length_append]; simp only [List.length_cons, List.length_nil]; omega, s3 _ _ (s1U _ _ hrw1), ?_, kq⟩
        rw [List.length_append, List.length_append]
        simp only [List.length_cons, List.length_nil]
        omega
      walk_at "go"
      refine x_isiTup hb (b := false) (by decide) ?_
      walk_at "go"
      refine ⟨by show 1 ≤ sizeLine; decide, fun q1 hq1 => ?_⟩
      have s12 : Same (upd H1 U (.tup [.int (j : Nat), .ref b])) (upd (upd H1 U (.tup [.int (j : Nat), .ref b])) q1 (.tup [.int (j : Nat)])) := Same.new hq1
      have after : ∀ (H4 : Hp) (vs1 : List V), SameX rw_ (upd H1 U (.tup [.int (j : Nat), .ref b])) H4 → H4 rw_ = some (.lst (vs0 ++ [.non] ++ vj ++ vs1)) → Paired (RowAt H4) vs1 (nodesT (.node r2 ks2) (path ++ [j]) (s + szTs (ks.take j))) →
          ∃ (v6 v7 : Option V) (vj' : List V), [some (V.ref rw_), some (.ref a), some (.ref pa), some (.int (s : Nat)), some (.int (vs0.length : Nat)), some (.int (s + szTs (ks.take j) + szT (.node r2 ks2) : Nat)), some (.int (j : Nat)), some (.ref b)] = [some (V.ref rw_), some (.ref a), some (.ref pa), some (.int (s : Nat)), some (.int (vs0.length : Nat)), some (.int (s + szTs (ks.take (j + 1)) : Nat)), v6, v7] ∧
            SameX rw_ H H4 ∧ H4 rw_ = some (.lst (vs0 ++ [.non] ++ vj')) ∧ Paired (RowAt H4) vj' (nodesTs (ks.take (j + 1)) path 0 s) := fun H4 vs1 X4 hr4 P4 => by
        have tk4 : TK (upd H1 U (.tup [.int (j : Nat), .ref b])) H4 := fun c xs h => X4 _ _ (fun e => by rw [e, s1U _ _ hrw1] at h; cases h) h
        have app2 : ∀ {xs ys : List V} {us ws : List Row}, Paired (RowAt H4) xs us → Paired (RowAt H4) ys ws → Paired (RowAt H4) (xs ++ ys) (us ++ ws) := fun {xs ys us ws} p q => by
          induction p with
          | nil => exact q
          | cons r t ih => exact .cons r ih
        refine ⟨some (.int (j : Nat)), some (.ref b), vj ++ vs1, by rw [e2, Nat.add_assoc], (X1.trans (SameX.of s1U)).trans X4, by rw [hr4, List.append_assoc], ?_⟩
        rw [e1]
        exact app2 (Paired.imp (fun _ _ h => (h.tk (same_tk s1U)).tk tk4) P1) P4
      refine ⟨pa, q1, nats path, [.int (j : Nat)], rfl, rfl, SqT.of (s12 _ _ hpaU), SqT.of upd_same, ?_, fun e => ?_, fun _ e => (by cases e), fun _ _ q2 hq2 => ?_⟩
      · have : (nats path).length = path.length := by simp [nats]
        rw [this]; exact small__ (by show path.length + 1 ≤ _; omega)
      · have ep : path = [] := by simpa [nats] using e
        walk_at "go"
        refine call _ q1 _ s12 (by rw [ep]; exact upd_same) fun H4 vs1 X4 hr4 P4 => ?_
        exact after H4 vs1 ((SameX.of s12).trans X4) hr4 P4
      · have s13 := s12.trans (Same.new (o := .tup (nats path ++ [.int (j : Nat)])) hq2)
        walk_at "go"
        refine call _ q2 _ s13 (by rw [upd_same]; simp [nats]) fun H4 vs1 X4 hr4 P4 => ?_
        exact after H4 vs1 ((SameX.of s13).trans X4) hr4 P4
  · rintro σ H1 ⟨v6, v7, vj, rfl, X1, hrw1, P1⟩
    rw [Paired.length hP, List.take_length] at P1 ⊢
    have h11 := X1 _ _ (fun e => by rw [e, hrw] at h1; cases h1) h1
    walk_at "go"
    refine ⟨by show 4 ≤ sizeLine; decide, fun q hq => ?_⟩
    refine x_gsub ?_
    walk_at "go"
    refine x_setL (look1 hrw1 hq) (by simp) ?_
    walk_at "go"
    have eset : ((vs0 ++ [V.non] ++ vj).set vs0.length (.ref q)) = vs0 ++ (.ref q :: vj) := by
      rw [List.append_assoc, List.set_append_right _ _ (Nat.le_refl _)]
      simp
    have tkq : TK H1 (upd (upd H1 q (.tup [.ref pa, .int (r : Nat), .int (s : Nat), .int (s + szTs ks : Nat)])) rw_ (.lst ((vs0 ++ [V.non] ++ vj).set vs0.length (.ref q)))) := (same_tk (Same.new hq)).trans (TK.upd (look1 hrw1 hq) fun xs h => nomatch h)
    have nqr : q ≠ rw_ := fun e => by rw [e, hrw1] at hq; cases hq
    have tk1 : TK H H1 := fun b xs h => X1 _ _ (fun e => by rw [e, hrw] at h; cases h) h
    refine k _ (.ref q :: vj) ((X1.trans (SameX.of (Same.new hq))).trans SameX.upd) (by rw [upd_same, eset]) ?_
    exact .cons ⟨q, pa, rfl, (upd_ne nqr).trans upd_same, tkq _ _ (tk1 _ _ hpa)⟩ (Paired.imp (fun _ _ h => h.tk tkq) P1)
end
section
variable {P : Program} {w : World} {K : PySem.W.Frag} {mg : Str → Option Value} {base : Heap}
def spNodes (n : Nat) : Sp := fun vs H Q _ => ∃ (F : Addr → Prop) (t : K38.T) (v : V), vs = [v] ∧ TreeAt F H t v ∧ (∃ r ks, t = .node r ks) ∧ dpT t < n ∧ wfT t ∧ szT t ≤ 1000 ∧ dpT t ≤ 1000 ∧ nnT t ≤ 90000 ∧
  ∀ H' p vs1, Same H H' → H p = none → H' p = some (.lst vs1) → Paired (RowAt H') vs1 (nodesT t [] 0) → Q (.ref p) H'
theorem ok_nodes (T : TX K mg) (n : Nat) (G_add_rows : FnOk P w K mg base CX0 (n + 1) T.f_add_rows T.d_add_rows ["rows", "tree", "path", "start"] (spAddR n)) :
    FnOk P w K mg base CX0 (n + 2) T.f_nodes T.d_nodes ["tree"] (spNodes n) := by
  refine T.F_nodes.ok sc_nodes (fun vs H Q E h => ?_) (fun cdv A outer s H vs Q E hr h => ?_)
  · obtain ⟨F, t, v, rfl, _⟩ := h
    rfl
  obtain ⟨F, t, v, rfl, ht, hn, hd, hw, hs, hd2, hf, k⟩ := h
  refine ⟨_, (pss_cons (ps_set (i := 1) sc_nodes.nd rfl (Or.inl rfl) (pe_lst pa_nil))
  (pss_cons (ps_expr (pe_call G_add_rows (hr.mono (by omega)) (by rfl) T.m_add_rows T.F_add_rows.kp T.b_add_rows .nil pass0 (pa_cons (pv 1) (pa_cons (pv 0) (pa_cons (pe_tup pa_nil) (pa_cons pe_int pa_nil))))))
  (pss_one (ps_ret (pv 1))))), ?_⟩
  walk_at "go"
  refine ⟨Nat.zero_le _, fun p hp => ?_⟩
  walk_at "go"
  refine ⟨Nat.zero_le _, fun q hq => ?_⟩
  walk_at "go"
  have s1 : Same H (upd (upd H p (.lst [])) q (.tup [])) := (Same.new hp).trans (Same.new hq)
  have ht1 : TreeAt (fun a => a = p) H t v := TreeAt.wide (fun a ha hn => absurd (by rw [ha]; exact hp) hn) ht
  refine ⟨fun a => a = p, p, q, t, v, [], 0, [], rfl, rfl, TreeAt.kp (same_tk s1) (same_se s1).lk ht1, hn, hd, hw, hs, upd_same, by simpa using hd2, look1 upd_same hq, by simpa using hf, fun H' vs1 X1 h1 P1 => ?_⟩
  walk_at "go"
  exact k H' p vs1 (fun a o h => X1 _ _ (fun e => by rw [e, hp] at h; cases h) (s1 _ _ h)) hp h1 P1
end
abbrev NF : Addr → Prop := fun _ => False
theorem TreeAt.s {F : Addr → Prop} {H H' : Hp} {k : K38.T} {v : V} (s : Same H H') (h : TreeAt F H k v) : TreeAt F H' k v := TreeAt.kp (same_tk s) (same_se s).lk h
theorem TreeAt.mk {F : Addr → Prop} {H : Hp} {r : Nat} {ks : List K38.T} {a p : Addr} {vs : List V} (h1 : H a = some (.tup [.str "node", .int (r : Nat), .ref p])) (h2 : H p = some (.lst vs)) (h3 : Paired (fun v k => TreeAt F H k v) vs ks) (hF : ¬ F p) : TreeAt F H (.node r ks) (.ref a) := by
  unfold TreeAt
  refine ⟨a, p, vs, rfl, hF, h1, h2, ?_⟩
  clear h1 h2
  induction h3 with
  | nil => unfold TreesAt; rfl
  | cons q _ ih => unfold TreesAt; exact ⟨_, _, rfl, q, ih⟩
theorem TreeAt.lf {F : Addr → Prop} {H : Hp} {z : Str} {u : Tx} (h : tx z = u) : TreeAt F H (.leaf u) (.str z) := by
  unfold TreeAt
  exact ⟨z, rfl, h⟩
def ResAt (F : Addr → Prop) (H : Hp) : Option (K38.T × Nat) → V → Prop
  | none, v => v = .non
  | some (k, e), v => ∃ a u, v = .ref a ∧ H a = some (.tup [.ref u, .int (e : Nat)]) ∧ TreeAt F H k (.ref u)
theorem TreeAt.old {H H1 H' : Hp} {k : K38.T} {v : V} (s : Same H H1) (h : TreeAt (Old H1) H' k v) : TreeAt (Old H) H' k v := TreeAt.wide (fun a ha _ => fun q => ha (s.free q)) h
theorem ch_eq {z : Str} {a c : Nat} {s : Str} (hs : tx s = [c]) (ha : a ≤ z.length) : decide (cutS z (some (a : Int)) (some ((a : Int) + 1)) = s) = decide ((tx z)[a]? = some c) := by
  rw [dec_str', show ((a : Int) + 1) = ((a + 1 : Nat) : Int) by omega, tx_cut, hs]
  congr 1
  by_cases h : a < (tx z).length
  · have e : (tx z)[a]? = some (tx z)[a] := List.getElem?_eq_getElem h
    rw [e, sl_one e]
    simp
  · have e : sl (tx z) a (a + 1) = [] := by unfold sl; rw [List.drop_eq_nil_of_le (by omega)]; simp
    rw [e, List.getElem?_eq_none (by omega)]
    simp
section
variable {P : Program} {w : World} {K : PySem.W.Frag} {mg : Str → Option Value} {base : Heap}
def spRd (b : Bool) (n : Nat) : Sp := fun vs H Q _ => ∃ (z : Str) (i : Nat), vs = [.str z, .int (i : Nat)] ∧ z.length ≤ 1000 ∧ i ≤ z.length ∧ nd (tx z) b i ≤ n ∧ ∀ H' v, Same H H' → ResAt (Old H) H' (rdT (tx z) b i) v → Q v H'
theorem ok_rd (T : TX K mg) (G_law_run : FnOk P w K mg base CX0 1 T.f_law_run T.d_law_run ["_law_text", "_law_at", "_law_chars"] spRun) :
    ∀ n, FnD P w K mg base CX0 n T.f_law_item T.d_law_item ["_law_text", "_law_at"] (spRd true n) ∧ FnD P w K mg base CX0 n T.f_law_list T.d_law_list ["_law_text", "_law_at"] (spRd false n) := by
  intro n
  induction n with
  | zero =>
    refine ⟨⟨fun {vs H Q E} h => ?_, fun {A fr t H as us vs Q E} _ _ _ _ h => ?_⟩, ⟨fun {vs H Q E} h => ?_, fun {A fr t H as us vs Q E} _ _ _ _ h => ?_⟩⟩
    · obtain ⟨z, i, rfl, _⟩ := h; rfl
    · obtain ⟨z, i, rfl, _, _, h, _⟩ := h; exfalso; unfold nd at h; simp at h
    · obtain ⟨z, i, rfl, _⟩ := h; rfl
    · obtain ⟨z, i, rfl, _, _, h, _⟩ := h; exfalso; unfold nd at h; simp at h
  | succ n ih =>
  obtain ⟨G_law_item, G_law_list⟩ := ih
  constructor
  · refine T.F_law_item.okD sc_law_item (fun vs H Q E h => ?_) (fun cdv A outer s H vs Q E hr h => ?_)
    · obtain ⟨z, i, rfl, _⟩ := h
      rfl
    obtain ⟨z, i, rfl, hz, hi, hn, k⟩ := h
    refine ⟨_, (pss_cons (ps_set (i := 2) sc_law_item.nd rfl (Or.inl rfl) (pe_call G_law_run hr.room (by rfl) T.m_law_run T.F_law_run.kp T.b_law_run .nil pass0 (pa_cons (pv 0) (pa_cons (pv 1) (pa_cons pe_str pa_nil)))))
  (pss_cons (ps_if (pt_cmpR op_gt (pv 2) (pv 1) (nomark _))
  (pss_one (ps_ret (pe_tup (pa_cons (pe_tup (pa_cons pe_str (pa_cons pe_int (pa_cons (pe_lst (pa_cons (pe_tup (pa_cons pe_str (pa_cons pe_int (pa_cons (pe_lst (pa_cons (pe_slice sl_str (pv 0) (po_some (pv 1)) (po_some (pv 2))) pa_nil)) pa_nil)))) pa_nil)) pa_nil)))) (pa_cons (pv 2) pa_nil)))))
  pss_nil)
  (pss_cons (ps_set (i := 2) sc_law_item.nd rfl (Or.inl rfl) (pe_call G_law_run hr.room (by rfl) T.m_law_run T.F_law_run.kp T.b_law_run .nil pass0 (pa_cons (pv 0) (pa_cons (pv 1) (pa_cons pe_str pa_nil)))))
  (pss_cons (ps_if (pt_cmpR op_gt (pv 2) (pv 1) (nomark _))
  (pss_one (ps_ret (pe_tup (pa_cons (pe_tup (pa_cons pe_str (pa_cons pe_int (pa_cons (pe_lst (pa_cons (pe_slice sl_str (pv 0) (po_some (pv 1)) (po_some (pv 2))) pa_nil)) pa_nil)))) (pa_cons (pv 2) pa_nil)))))
  pss_nil)
  (pss_cons (ps_set (i := 3) sc_law_item.nd rfl (Or.inl rfl) (pe_ifExp (pt_cmpR op_eq (pe_slice sl_str (pv 0) (po_some (pv 1)) (po_some (pe_op op_add (pv 1) pe_int))) pe_str (nomark _)) (pe_callD G_law_list (hr.mono (by omega)) (by rfl) T.m_law_list T.F_law_list.kp T.b_law_list .nil pass0 (pa_cons (pv 0) (pa_cons (pe_op op_add (pv 1) pe_int) pa_nil))) pe_non))
  (pss_cons (ps_if (PW.pt (pw_or (pt_cmpR or_isN (pv 3) pe_non (nomark _)) (pw_or1 (pt_cmpR op_ne (pe_slice sl_str (pv 0) (po_some (pe_ix (kx_tup K) (pv 3) pe_int (fun _ _ => rfl))) (po_some (pe_op op_add (pe_ix (kx_tup K) (pv 3) pe_int (fun _ _ => rfl)) pe_int))) pe_str (nomark _)))))
  (pss_one (ps_ret pe_non))
  pss_nil)
  (pss_one (ps_ret (pe_tup (pa_cons (pe_tup (pa_cons pe_str (pa_cons pe_int (pa_cons (pe_lst (pa_cons pe_str (pa_cons (pe_ix (kx_tup K) (pv 3) pe_int (fun _ _ => rfl)) (pa_cons pe_str pa_nil)))) pa_nil)))) (pa_cons (pe_op op_add (pe_ix (kx_tup K) (pv 3) pe_int (fun _ _ => rfl)) pe_int) pa_nil))))))))))), ?_⟩
    have hl := len_tx z
    unfold nd at hn
    simp only [if_true] at hn
    rw [rdT_item] at k
    walk_at "go"
    refine ⟨z, i, true, rfl, hi, hz, ?_⟩
    walk_at "go"
    by_cases c1 : i < runE true (tx z) i
    · rw [decide_eq_true (show ((i : Nat) : Int) < (runE true (tx z) i : Nat) by omega)]
      rw [if_pos c1] at k
      refine iteT ?_
      walk_at "go"
      refine ⟨z, rfl, small__ (by omega), ?_⟩
      walk_at "go"
      refine ⟨by show 1 ≤ sizeLine; decide, fun p1 n1 => ?_⟩
      walk_at "go"
      refine ⟨by show 3 ≤ sizeLine; decide, fun a1 m1 => ?_⟩
      walk_at "go"
      refine ⟨by show 1 ≤ sizeLine; decide, fun p2 n2 => ?_⟩
      walk_at "go"
      refine ⟨by show 3 ≤ sizeLine; decide, fun a2 m2 => ?_⟩
      walk_at "go"
      refine ⟨by show 2 ≤ sizeLine; decide, fun a3 m3 => ?_⟩
      have s1 := Same.new (o := .lst [.str (cutS z (some (i : Int)) (some ((runE true (tx z) i : Nat) : Int)))]) n1
      have s2 := s1.trans (Same.new (o := .tup [.str "node", .int 8, .ref p1]) m1)
      have s3 := s2.trans (Same.new (o := .lst [.ref a1]) n2)
      have s4 := s3.trans (Same.new (o := .tup [.str "node", .int 5, .ref p2]) m2)
      have s5 := s4.trans (Same.new (o := .tup [.ref a2, .int ((runE true (tx z) i : Nat) : Int)]) m3)
      refine k _ _ s5 ⟨a3, a2, rfl, upd_same, ?_⟩
      refine TreeAt.mk (p := p2) (vs := [.ref a1]) (look1 upd_same m3) (look1 (look1 upd_same m2) m3) (.cons ?_ .nil) (fun h => h (s2.free n2))
      refine TreeAt.mk (p := p1) (vs := [_]) (look1 (look1 (look1 upd_same n2) m2) m3) (look1 (look1 (look1 (look1 upd_same m1) n2) m2) m3) (.cons (TreeAt.lf tx_cut) .nil) (fun h => h n1)
    · rw [decide_eq_false (show ¬ ((i : Nat) : Int) < (runE true (tx z) i : Nat) by omega)]
      rw [if_neg c1] at k
      refine iteF ?_
      walk_at "go"
      refine ⟨z, i, false, rfl, hi, hz, ?_⟩
      walk_at "go"
      by_cases c2 : i < runE false (tx z) i
      · rw [decide_eq_true (show ((i : Nat) : Int) < (runE false (tx z) i : Nat) by omega)]
        rw [if_pos c2] at k
        refine iteT ?_
        walk_at "go"
        refine ⟨z, rfl, small__ (by omega), ?_⟩
        walk_at "go"
        refine ⟨by show 1 ≤ sizeLine; decide, fun p2 n2 => ?_⟩
        walk_at "go"
        refine ⟨by show 3 ≤ sizeLine; decide, fun a2 m2 => ?_⟩
        walk_at "go"
        refine ⟨by show 2 ≤ sizeLine; decide, fun a3 m3 => ?_⟩
        have s5 := ((Same.new (o := .lst [.str (cutS z (some (i : Int)) (some ((runE false (tx z) i : Nat) : Int)))]) n2).trans (Same.new (o := .tup [.str "node", .int 6, .ref p2]) m2)).trans (Same.new (o := .tup [.ref a2, .int ((runE false (tx z) i : Nat) : Int)]) m3)
        refine k _ _ s5 ⟨a3, a2, rfl, upd_same, ?_⟩
        exact TreeAt.mk (p := p2) (vs := [_]) (look1 upd_same m3) (look1 (look1 upd_same m2) m3) (.cons (TreeAt.lf tx_cut) .nil) (fun h => h n2)
      · rw [decide_eq_false (show ¬ ((i : Nat) : Int) < (runE false (tx z) i : Nat) by omega)]
        rw [if_neg c2] at k
        refine iteF ?_
        walk_at "go"
        refine ⟨z, rfl, small__ (by omega), ?_⟩
        walk_at "go"
        rw [ch_eq (c := 40) (by decide +kernel) hi]
        by_cases c3 : (tx z)[i]? = some 40
        · rw [if_pos c3] at k
          rw [decide_eq_true c3]
          refine iteT ?_
          have hil := (List.getElem?_eq_some_iff.mp c3).1
          walk_at "go"
          refine ⟨z, i + 1, rfl, hz, by omega, by unfold nd; simp only [Bool.false_eq_true, if_false]; omega, fun H1 v1 s1 r1 => ?_⟩
          walk_at "go"
          cases q : rdT (tx z) false (i + 1) with
          | none =>
            rw [q] at r1 k
            have r1 : v1 = .non := r1
            subst r1
            refine iteT ?_
            refine iteT ?_
            walk_at "go"
            exact k _ _ s1 rfl
          | some ke =>
            obtain ⟨k1, e⟩ := ke
            rw [q] at r1 k
            obtain ⟨a, u, rfl, ha, hu⟩ := r1
            have be := rdT_bd q
            refine iteF ?_
            walk_at "go"
            refine ⟨z, rfl, small__ (by omega), ?_⟩
            walk_at "go"
            rw [ch_eq (c := 41) (by decide +kernel) (by omega)]
            simp only at k
            by_cases c4 : (tx z)[e]? = some 41
            · rw [if_pos c4] at k
              rw [decide_eq_true c4]
              refine iteF ?_
              walk_at "go"
              refine ⟨by show 3 ≤ sizeLine; decide, fun p2 n2 => ?_⟩
              walk_at "go"
              refine ⟨by show 3 ≤ sizeLine; decide, fun a2 m2 => ?_⟩
              walk_at "go"
              refine ⟨by show 2 ≤ sizeLine; decide, fun a3 m3 => ?_⟩
              have s5 := ((Same.new (o := .lst [.str "(", .ref u, .str ")"]) n2).trans (Same.new (o := .tup [.str "node", .int 7, .ref p2]) m2)).trans (Same.new (o := .tup [.ref a2, .int ((e : Nat) + 1)]) m3)
              refine k _ _ (s1.trans s5) ⟨a3, a2, rfl, upd_same, ?_⟩
              exact TreeAt.mk (p := p2) (vs := [.str "(", .ref u, .str ")"]) (look1 upd_same m3) (look1 (look1 upd_same m2) m3) (.cons (TreeAt.lf (by decide +kernel)) (.cons ((hu.s s5)) (.cons (TreeAt.lf (by decide +kernel)) .nil))) (fun h => h (s1.free n2))
            · rw [if_neg c4] at k
              rw [decide_eq_false c4]
              refine iteT ?_
              walk_at "go"
              exact k _ _ s1 rfl
        · rw [if_neg c3] at k
          rw [decide_eq_false c3]
          refine iteF ?_
          walk_at "go"
          refine iteT ?_
          refine iteT ?_
          walk_at "go"
          exact k _ _ (Same.refl _) rfl
  · refine T.F_law_list.okD sc_law_list (fun vs H Q E h => ?_) (fun cdv A outer s H vs Q E hr h => ?_)
    · obtain ⟨z, i, rfl, _⟩ := h
      rfl
    obtain ⟨z, i, rfl, hz, hi, hn, k⟩ := h
    refine ⟨_, (pss_cons (ps_set (i := 2) sc_law_list.nd rfl (Or.inl rfl) (pe_callD G_law_item (hr.mono (by omega)) (by rfl) T.m_law_item T.F_law_item.kp T.b_law_item .nil pass0 (pa_cons (pv 0) (pa_cons (pv 1) pa_nil))))
  (pss_cons (ps_if (PW.pt (pw_or (pt_cmpR or_isN (pv 2) pe_non (nomark _)) (pw_or1 (pt_cmpR op_ne (pe_slice sl_str (pv 0) (po_some (pe_ix (kx_tup K) (pv 2) pe_int (fun _ _ => rfl))) (po_some (pe_op op_add (pe_ix (kx_tup K) (pv 2) pe_int (fun _ _ => rfl)) pe_int))) pe_str (nomark _)))))
  (pss_one (ps_ret (pe_ifExp (pt_cmpR or_isN (pv 2) pe_non (nomark _)) pe_non (pe_tup (pa_cons (pe_tup (pa_cons pe_str (pa_cons pe_int (pa_cons (pe_lst (pa_cons (pe_ix (kx_tup K) (pv 2) pe_int (fun _ _ => rfl)) pa_nil)) pa_nil)))) (pa_cons (pe_ix (kx_tup K) (pv 2) pe_int (fun _ _ => rfl)) pa_nil))))))
  pss_nil)
  (pss_cons (ps_set (i := 3) sc_law_list.nd rfl (Or.inl rfl) (pe_callD G_law_list (hr.mono (by omega)) (by rfl) T.m_law_list T.F_law_list.kp T.b_law_list .nil pass0 (pa_cons (pv 0) (pa_cons (pe_op op_add (pe_ix (kx_tup K) (pv 2) pe_int (fun _ _ => rfl)) pe_int) pa_nil))))
  (pss_one (ps_ret (pe_ifExp (pt_cmpR or_isN (pv 3) pe_non (nomark _)) pe_non (pe_tup (pa_cons (pe_tup (pa_cons pe_str (pa_cons pe_int (pa_cons (pe_lst (pa_cons (pe_ix (kx_tup K) (pv 2) pe_int (fun _ _ => rfl)) (pa_cons pe_str (pa_cons (pe_ix (kx_tup K) (pv 3) pe_int (fun _ _ => rfl)) pa_nil)))) pa_nil)))) (pa_cons (pe_ix (kx_tup K) (pv 3) pe_int (fun _ _ => rfl)) pa_nil))))))))), ?_⟩
    have hl := len_tx z
    unfold nd at hn
    simp only [Bool.false_eq_true, if_false] at hn
    rw [rdT_list] at k
    walk_at "go"
    refine ⟨z, i, rfl, hz, hi, by unfold nd; simp only [if_true]; omega, fun H1 v1 s1 r1 => ?_⟩
    walk_at "go"
    cases q : rdT (tx z) true i with
    | none =>
      rw [q] at r1 k
      have r1 : v1 = .non := r1
      subst r1
      refine iteT ?_
      refine iteT ?_
      walk_at "go"
      refine iteT ?_
      walk_at "go"
      exact k _ _ s1 rfl
    | some ke =>
      obtain ⟨k1, e⟩ := ke
      rw [q] at r1 k
      obtain ⟨a, u, rfl, ha, hu⟩ := r1
      have be := rdT_bd q
      refine iteF ?_
      walk_at "go"
      refine ⟨z, rfl, small__ (by omega), ?_⟩
      walk_at "go"
      rw [ch_eq (c := 44) (by decide +kernel) (by omega)]
      simp only at k
      by_cases c4 : (tx z)[e]? = some 44
      · rw [if_pos c4] at k
        rw [decide_eq_true c4]
        have hel := (List.getElem?_eq_some_iff.mp c4).1
        refine iteF ?_
        walk_at "go"
        refine ⟨z, e + 1, rfl, hz, by omega, by unfold nd; simp only [Bool.false_eq_true, if_false]; omega, fun H2 v2 s2 r2 => ?_⟩
        walk_at "go"
        cases q2 : rdT (tx z) false (e + 1) with
        | none =>
          rw [q2] at r2 k
          have r2 : v2 = .non := r2
          subst r2
          refine iteT ?_
          walk_at "go"
          exact k _ _ (s1.trans s2) rfl
        | some ke2 =>
          obtain ⟨k2, e2⟩ := ke2
          rw [q2] at r2 k
          obtain ⟨a', u', rfl, ha', hu'⟩ := r2
          have ha2 := s2 _ _ ha
          refine iteF ?_
          walk_at "go"
          refine ⟨by show 3 ≤ sizeLine; decide, fun p2 n2 => ?_⟩
          walk_at "go"
          refine ⟨by show 3 ≤ sizeLine; decide, fun a2 m2 => ?_⟩
          walk_at "go"
          refine ⟨by show 2 ≤ sizeLine; decide, fun a3 m3 => ?_⟩
          have s5 := ((Same.new (o := .lst [.ref u, .str ",", .ref u']) n2).trans (Same.new (o := .tup [.str "node", .int 3, .ref p2]) m2)).trans (Same.new (o := .tup [.ref a2, .int (e2 : Nat)]) m3)
          refine k _ _ ((s1.trans s2).trans s5) ⟨a3, a2, rfl, upd_same, ?_⟩
          exact TreeAt.mk (p := p2) (vs := [.ref u, .str ",", .ref u']) (look1 upd_same m3) (look1 (look1 upd_same m2) m3) (.cons (hu.s (s2.trans s5)) (.cons (TreeAt.lf (by decide +kernel)) (.cons ((hu'.old s1).s s5) .nil))) (fun h => h ((s1.trans s2).free n2))
      · rw [if_neg c4] at k
        rw [decide_eq_false c4]
        refine iteT ?_
        walk_at "go"
        refine iteF ?_
        walk_at "go"
        refine ⟨by show 1 ≤ sizeLine; decide, fun p2 n2 => ?_⟩
        walk_at "go"
        refine ⟨by show 3 ≤ sizeLine; decide, fun a2 m2 => ?_⟩
        walk_at "go"
        refine ⟨by show 2 ≤ sizeLine; decide, fun a3 m3 => ?_⟩
        have s5 := ((Same.new (o := .lst [.ref u]) n2).trans (Same.new (o := .tup [.str "node", .int 4, .ref p2]) m2)).trans (Same.new (o := .tup [.ref a2, .int (e : Nat)]) m3)
        refine k _ _ (s1.trans s5) ⟨a3, a2, rfl, upd_same, ?_⟩
        exact TreeAt.mk (p := p2) (vs := [.ref u]) (look1 upd_same m3) (look1 (look1 upd_same m2) m3) (.cons (hu.s s5) .nil) (fun h => h (s1.free n2))
end
def DueAt (F : Addr → Prop) (H : Hp) : Option K38.T → V → Prop
  | none, v => v = .non
  | some k, v => (∃ a, v = .ref a) ∧ TreeAt F H k v
theorem TreeAt.putL {F : Addr → Prop} {H : Hp} {ls : Addr} {ws ws' : List V} {k : K38.T} {v : V} (h3 : H ls = some (.lst ws)) (hF : ∀ a, a = ls → F a) (h : TreeAt F H k v) : TreeAt F (upd H ls (.lst ws')) k v :=
  TreeAt.kp (TK.upd h3 fun xs h => nomatch h) (fun b xs nF h => by rw [upd_ne (fun e => nF (hF b e))]; exact h) h
theorem Paired.rev {α β : Type} {F : α → β → Prop} : ∀ {l₁ : List α} {l₂ : List β}, Paired F l₁ l₂ → Paired F l₁.reverse l₂.reverse
  | _, _, .nil => .nil
  | _, _, .cons r t => by rw [List.reverse_cons, List.reverse_cons]; exact Paired.snoc' r (Paired.rev t)
def upT (p : K38.T) (L : K38.T) : K38.T := .node 0 [L, p]
theorem pT_step {t : Tx} {i m : Nat} {L : K38.T} (h : lnT t i = some (L, m)) : pT t i = (pT t m).map fun p => upT p L := by
  have := lnT_bd h
  rw [pT_eq, if_neg (by omega), h]; rfl
theorem pT_fail {t : Tx} {i : Nat} (hi : i < t.length) (h : lnT t i = none) : pT t i = none := by rw [pT_eq, if_neg (by omega), h]
section
variable {P : Program} {w : World} {K : PySem.W.Frag} {mg : Str → Option Value} {base : Heap}
def spLR : Sp := fun vs H Q _ => ∃ z : Str, vs = [.str z] ∧ z.length ≤ 192 ∧ ∀ H' v, Same H H' → DueAt (Old H) H' (due (tx z)) v → Q v H'
theorem ok_lread (T : TX K mg) (G_law_run : FnOk P w K mg base CX0 1 T.f_law_run T.d_law_run ["_law_text", "_law_at", "_law_chars"] spRun)
    (G_law_list : FnD P w K mg base CX0 386 T.f_law_list T.d_law_list ["_law_text", "_law_at"] (spRd false 386)) :
    FnOk P w K mg base CX0 151 T.f_law_read T.d_law_read ["_law_text"] spLR := by
  refine T.F_law_read.ok sc_law_read (fun vs H Q E h => ?_) (fun cdv A outer s H vs Q E hr h => ?_)
  · obtain ⟨z, rfl, _⟩ := h
    rfl
  obtain ⟨z, rfl, hz, k⟩ := h
  refine ⟨_, (pss_cons (ps_set (i := 1) sc_law_read.nd rfl (Or.inl rfl) (pe_lst pa_nil))
  (pss_cons (ps_set (i := 2) sc_law_read.nd rfl (Or.inl rfl) pe_int)
  (pss_cons (ps_while PassesOwn.never (pt_cmpR op_lt (pv 2) (pe_callB cl_lenS (by rfl) T.z_len (by decide +kernel) (pa_cons (pv 0) pa_nil)) (nomark _))
  (pss_cons (ps_set (i := 3) sc_law_read.nd rfl (Or.inl rfl) (pe_call G_law_run (hr.mono (by decide)) (by rfl) T.m_law_run T.F_law_run.kp T.b_law_run .nil pass0 (pa_cons (pv 0) (pa_cons (pv 2) (pa_cons pe_str pa_nil)))))
  (pss_cons (ps_set (i := 4) sc_law_read.nd rfl (Or.inl rfl) (pe_ifExp (PW.pt (pw_and (pt_cmpR op_gt (pv 3) (pv 2) (nomark _)) (pw_and1 (pt_cmpR op_eq (pe_slice sl_str (pv 0) (po_some (pv 3)) (po_some (pe_op op_add (pv 3) pe_int))) pe_str (nomark _))))) (pe_callD G_law_list (RmD.of hr (by decide) (by decide)) (by rfl) T.m_law_list T.F_law_list.kp T.b_law_list .nil pass0 (pa_cons (pv 0) (pa_cons (pe_op op_add (pv 3) pe_int) pa_nil))) pe_non))
  (pss_cons (ps_if (PW.pt (pw_or (pt_cmpR or_isN (pv 4) pe_non (nomark _)) (pw_or1 (pt_cmpR op_ne (pe_slice sl_str (pv 0) (po_some (pe_ix (kx_tup K) (pv 4) pe_int (fun _ _ => rfl))) (po_some (pe_op op_add (pe_ix (kx_tup K) (pv 4) pe_int (fun _ _ => rfl)) pe_int))) pe_str (nomark _)))))
  (pss_one (ps_ret pe_non))
  pss_nil)
  (pss_cons (ps_expr (kbm K (pe_bm PySem.F.plainAttrs_list PySem.F.slot_list_append PySem.F.type_list_append mt_append (pv 1) (pa_cons (pe_tup (pa_cons pe_str (pa_cons pe_int (pa_cons (pe_lst (pa_cons (pe_tup (pa_cons pe_str (pa_cons pe_int (pa_cons (pe_lst (pa_cons (pe_slice sl_str (pv 0) (po_some (pv 2)) (po_some (pv 3))) pa_nil)) pa_nil)))) (pa_cons pe_str (pa_cons (pe_ix (kx_tup K) (pv 4) pe_int (fun _ _ => rfl)) (pa_cons pe_str pa_nil))))) pa_nil)))) pa_nil))))
  (pss_one (ps_set (i := 2) sc_law_read.nd rfl (Or.inl rfl) (pe_op op_add (pe_ix (kx_tup K) (pv 4) pe_int (fun _ _ => rfl)) pe_int))))))))
  (pss_cons (ps_set (i := 5) sc_law_read.nd rfl (Or.inl rfl) (pe_tup (pa_cons pe_str (pa_cons pe_int (pa_cons (pe_lst pa_nil) pa_nil)))))
  (pss_cons (ps_for PassesOwn.never rfl (kpi_list K (krev K (pe_revL (pv 1)))) (pg_name (i := 6) sc_law_read.nd rfl (Or.inl rfl))
  (pss_one (ps_set (i := 5) sc_law_read.nd rfl (Or.inl rfl) (pe_tup (pa_cons pe_str (pa_cons pe_int (pa_cons (pe_lst (pa_cons (pv 6) (pa_cons (pv 5) pa_nil))) pa_nil)))))))
  (pss_one (ps_ret (pv 5)))))))), ?_⟩
  have hl := len_tx z
  walk_at "go"
  refine ⟨Nat.zero_le _, fun ls hls => ?_⟩
  walk_at "go"
  refine x_while (fun σ H' => ∃ (i : Nat) (v3 v4 : Option V) (vs : List V) (Ls : List K38.T), σ = [some (.str z), some (.ref ls), some (.int (i : Nat)), v3, v4, none, none] ∧ i ≤ z.length ∧ Same H H' ∧ H' ls = some (.lst vs) ∧
      Paired (fun v k => (∃ a, v = .ref a) ∧ TreeAt (fun a => Old H a ∨ a = ls) H' k v) vs Ls ∧ Ls.length ≤ i ∧ due (tx z) = (pT (tx z) i).map fun p => Ls.reverse.foldl upT p)
    (fun σ _ => match σ with
      | [_, _, some (.int e), _, _, _, _] => z.length - e.toNat
      | _ => 0) ⟨0, none, none, [], [], rfl, Nat.zero_le _, Same.new hls, upd_same, .nil, Nat.zero_le _, by show pT (tx z) 0 = _; simp⟩ ?_
  rintro σ H1 ⟨i, v3, v4, vs, Ls, rfl, hi, s1, hv, hP, hLi, hd⟩
  walk_at "go"
  by_cases c : i < z.length
  · rw [decide_eq_true (show ((i : Nat) : Int) < (z.length : Nat) by omega)]
    refine iteT ?_
    refine x_wh ?_
    have fail : lnT (tx z) i = none → due (tx z) = none := fun h => by rw [hd, pT_fail (by omega) h]; rfl
    walk_at "go"
    refine ⟨z, i, true, rfl, hi, by omega, ?_⟩
    walk_at "go"
    by_cases c1 : i < runE true (tx z) i ∧ (tx z)[runE true (tx z) i]? = some 61
    · rw [decide_eq_true (show ((i : Nat) : Int) < (runE true (tx z) i : Nat) by omega)]
      have hel := (List.getElem?_eq_some_iff.mp c1.2).1
      refine iteT ?_
      walk_at "go"
      refine ⟨z, rfl, small__ (by omega), ?_⟩
      walk_at "go"
      rw [ch_eq (c := 61) (by decide +kernel) (by omega), decide_eq_true c1.2]
      refine iteT ?_
      walk_at "go"
      refine ⟨z, runE true (tx z) i + 1, rfl, by omega, by omega, by unfold nd; simp only [Bool.false_eq_true, if_false]; omega, fun H2 v2 s2 r2 => ?_⟩
      walk_at "go"
      cases q : rdT (tx z) false (runE true (tx z) i + 1) with
      | none =>
        rw [q] at r2
        have r2 : v2 = .non := r2
        subst r2
        refine iteT ?_
        refine iteT ?_
        walk_at "go"
        refine k _ _ (s1.trans s2) ?_
        rw [fail (by unfold lnT; rw [if_pos c1, q])]
        rfl
      | some ke =>
        obtain ⟨k1, e⟩ := ke
        rw [q] at r2
        obtain ⟨a, u, rfl, ha, hu⟩ := r2
        have be := rdT_bd q
        refine iteF ?_
        walk_at "go"
        refine ⟨z, rfl, small__ (by omega), ?_⟩
        walk_at "go"
        rw [ch_eq (c := 59) (by decide +kernel) (by omega)]
        by_cases c4 : (tx z)[e]? = some 59
        · rw [decide_eq_true c4]
          have hel := (List.getElem?_eq_some_iff.mp c4).1
          refine iteF ?_
          walk_at "go"
          have hln : lnT (tx z) i = some (.node 2 [.node 8 [.leaf (sl (tx z) i (runE true (tx z) i))], .leaf [61], k1, .leaf [59]], e + 1) := by
            unfold lnT
            rw [if_pos c1, q]
            simp only [if_pos c4]
          have hv2 := s2 _ _ hv
          refine x_bmL hv2 ?_
          walk_at "go"
          refine ⟨z, rfl, small__ (by omega), ?_⟩
          walk_at "go"
          refine ⟨by show 1 ≤ sizeLine; decide, fun p1 n1 => ?_⟩
          walk_at "go"
          refine ⟨by show 3 ≤ sizeLine; decide, fun a1 m1 => ?_⟩
          have s3 : Same H2 (upd (upd H2 p1 (.lst [.str (cutS z (some (i : Int)) (some ((runE true (tx z) i : Nat) : Int)))])) a1 (.tup [.str "node", .int 8, .ref p1])) := (Same.new n1).trans (Same.new m1)
          have ha3 := s3 _ _ ha
          walk_at "go"
          refine ⟨by show 4 ≤ sizeLine; decide, fun p2 n2 => ?_⟩
          walk_at "go"
          refine ⟨by show 3 ≤ sizeLine; decide, fun a2 m2 => ?_⟩
          have s4 := s3.trans ((Same.new (o := .lst [.ref a1, .str "=", .ref u, .str ";"]) n2).trans (Same.new (o := .tup [.str "node", .int 2, .ref p2]) m2))
          have ev : vs.length = Ls.length := Paired.length hP
          walk_at "go"
          refine x_append (s4 _ _ hv2) (small_ (by omega)) ?_
          walk_at "go"
          have nls : ∀ {b o}, H2 b = none → (upd (upd (upd (upd H2 p1 (.lst [.str (cutS z (some (i : Int)) (some ((runE true (tx z) i : Nat) : Int)))])) a1 (.tup [.str "node", .int 8, .ref p1])) p2 (.lst [.ref a1, .str "=", .ref u, .str ";"])) a2 (.tup [.str "node", .int 2, .ref p2])) b = some o → b ≠ ls := fun hb _ e => by rw [e, hv2] at hb; cases hb
          have ha2 := s4 _ _ ha
          have ha2' : (upd (upd (upd (upd (upd H2 p1 (.lst [.str (cutS z (some (i : Int)) (some ((runE true (tx z) i : Nat) : Int)))])) a1 (.tup [.str "node", .int 8, .ref p1])) p2 (.lst [.ref a1, .str "=", .ref u, .str ";"])) a2 (.tup [.str "node", .int 2, .ref p2])) ls (.lst (vs ++ [.ref a2]))) a = some (.tup [.ref u, .int (e : Nat)]) := by
            rw [upd_ne (fun e => by rw [e, hv2] at ha; cases ha)]; exact ha2
          walk_at "go"
          refine ⟨⟨e + 1, _, _, vs ++ [.ref a2], Ls ++ [.node 2 [.node 8 [.leaf (sl (tx z) i (runE true (tx z) i))], .leaf [61], k1, .leaf [59]]], rfl, by omega, Same.mut (s1.trans (s2.trans s4)) hls, upd_same, ?_, by rw [List.length_append]; show Ls.length + 1 ≤ _; omega, ?_⟩, ?_⟩
          · refine Paired.snoc' ⟨⟨a2, rfl⟩, TreeAt.putL (s4 _ _ hv2) (k := .node 2 [.node 8 [.leaf (sl (tx z) i (runE true (tx z) i))], .leaf [61], k1, .leaf [59]]) (fun _ h => .inr h) ?_⟩ (Paired.imp (fun _ _ h => ⟨h.1, TreeAt.putL (s4 _ _ hv2) (fun _ h => .inr h) (h.2.s (s2.trans s4))⟩) hP)
            have of2 : ∀ {b}, H2 b = none → ¬ (Old H b ∨ b = ls) := fun hb h => by
              rcases h with h | h
              · exact h ((s1.trans s2).free hb)
              · rw [h, hv2] at hb; cases hb
            refine TreeAt.mk (p := p2) (vs := [.ref a1, .str "=", .ref u, .str ";"]) upd_same (look1 upd_same m2) (.cons ?_ (.cons (TreeAt.lf (by decide +kernel)) (.cons ?_ (.cons (TreeAt.lf (by decide +kernel)) .nil)))) (of2 (s3.free n2))
            · refine TreeAt.mk (p := p1) (vs := [_]) (look1 (look1 upd_same n2) m2) (look1 (look1 (look1 upd_same m1) n2) m2) (.cons (TreeAt.lf tx_cut) .nil) (of2 n1)
            · refine TreeAt.s s4 (TreeAt.wide (F := Old H1) (fun b hb _ => ?_) hu)
              intro hn
              rcases hb with h | h
              · exact h (s1.free hn)
              · rw [h, hv] at hn; cases hn
          · rw [hd, pT_step hln, Option.map_map]
            congr 1
            funext p
            simp [List.reverse_append, upT]
          · show z.length - ((e : Int) + 1).toNat < z.length - ((i : Nat) : Int).toNat
            omega
        · rw [decide_eq_false c4]
          refine iteT ?_
          walk_at "go"
          refine k _ _ (s1.trans s2) ?_
          rw [fail (by unfold lnT; rw [if_pos c1, q]; simp only [if_neg c4])]
          rfl
    · have hfail := fail (by unfold lnT; rw [if_neg c1])
      by_cases c2 : i < runE true (tx z) i
      · rw [decide_eq_true (show ((i : Nat) : Int) < (runE true (tx z) i : Nat) by omega)]
        have hle := runE_le (b := true) (t := tx z) (i := i) (by omega)
        refine iteT ?_
        walk_at "go"
        refine ⟨z, rfl, small__ (by omega), ?_⟩
        walk_at "go"
        rw [ch_eq (c := 61) (by decide +kernel) (by omega), decide_eq_false (fun h => c1 ⟨c2, h⟩)]
        refine iteF ?_
        walk_at "go"
        refine iteT ?_
        refine iteT ?_
        walk_at "go"
        refine k _ _ s1 ?_
        rw [hfail]; rfl
      · rw [decide_eq_false (show ¬ ((i : Nat) : Int) < (runE true (tx z) i : Nat) by omega)]
        refine iteF ?_
        refine iteF ?_
        walk_at "go"
        refine iteT ?_
        refine iteT ?_
        walk_at "go"
        refine k _ _ s1 ?_
        rw [hfail]; rfl
  · rw [decide_eq_false (show ¬ ((i : Nat) : Int) < (z.length : Nat) by omega)]
    refine iteF ?_
    have hd' : due (tx z) = some (Ls.reverse.foldl upT (.node 1 [])) := by rw [hd, pT_eq, if_pos (by omega)]; rfl
    walk_at "go"
    refine ⟨Nat.zero_le _, fun p1 n1 => ?_⟩
    walk_at "go"
    refine ⟨by show 3 ≤ sizeLine; decide, fun a1 m1 => ?_⟩
    have s3 := (Same.new (o := .lst []) n1).trans (Same.new (o := .tup [.str "node", .int 1, .ref p1]) m1)
    have hv3 := s3 _ _ hv
    walk_at "go"
    refine x_revR hv3 (fun rl hrl => ?_)
    have s4 := s3.trans (Same.new (o := .lst vs.reverse) hrl)
    have ev : vs.length = Ls.length := Paired.length hP
    have hPr := Paired.rev hP
    refine x_forLR (xs := vs.reverse) upd_same (fun j σ H' => ∃ (u : Addr) (v6 : Option V), σ = [some (.str z), some (.ref ls), some (.int (i : Nat)), v3, v4, some (.ref u), v6] ∧ Same (upd (upd (upd H1 p1 (.lst [])) a1 (.tup [.str "node", .int 1, .ref p1])) rl (.lst vs.reverse)) H' ∧ TreeAt (Old H) H' ((Ls.reverse.take j).foldl upT (.node 1 [])) (.ref u))
      ⟨a1, none, rfl, Same.refl _, TreeAt.mk (p := p1) (vs := []) (look1 upd_same hrl) (look1 (look1 upd_same m1) hrl) .nil (fun h => h (s1.free n1))⟩ (fun j σ H' _ ⟨_, _, _, s', _⟩ => s' _ _ upd_same) ?_ ?_
    · rintro j x σ H' hx ⟨u, v6, rfl, s', hu⟩
      obtain ⟨L, hL, ⟨xa, rfl⟩, hLt⟩ := Paired.at' hPr hx
      walk_at "go"
      refine ⟨by show 2 ≤ sizeLine; decide, fun p2 n2 => ?_⟩
      walk_at "go"
      refine ⟨by show 3 ≤ sizeLine; decide, fun a2 m2 => ?_⟩
      have s5 := (Same.new (o := .lst [.ref xa, .ref u]) n2).trans (Same.new (o := .tup [.str "node", .int 0, .ref p2]) m2)
      walk_at "go"
      refine ⟨a2, _, rfl, s'.trans s5, ?_⟩
      rw [take_more hL, List.foldl_append]
      refine TreeAt.mk (p := p2) (vs := [.ref xa, .ref u]) upd_same (look1 upd_same m2) (.cons (TreeAt.wide (fun b hb _ => .inl hb) (hLt.s (s4.trans (s'.trans s5)))) (.cons (hu.s s5) .nil)) (fun h => h (s1.free ((s4.trans s').free n2)))
    · rintro σ H' ⟨u, v6, rfl, s', hu⟩
      walk_at "go"
      refine k _ _ (s1.trans (s4.trans s')) ?_
      rw [hd']
      rw [List.length_reverse, ev, List.take_of_length_le (by simp)] at hu
      exact ⟨⟨u, rfl⟩, hu⟩
end
section
variable {σ : L2.St} {H : Hp} {tb : TS} {D : Ends} {c : TT}
def rWhN (Wv : Nat → L2.St → Hp → Prop) (m : Nat) (tb : TS) (D : Ends) (σ : L2.St) (H1 : Hp) : Prop := ∃ N : L2.St → Hp → Prop, (∀ σ' H', N σ' H' → ∃ m', m' < m ∧ Wv m' σ' H') ∧ tb { D with nx := N, ct := N, bk := D.nx } σ H1
theorem x_whN (Wv : Nat → L2.St → Hp → Prop) (m : Nat) (h0 : Wv m σ H) (hs : ∀ m σ H, Wv m σ H → c σ H fun b H1 => if b = true then rWhN Wv m tb D σ H1 else D.nx σ H1) : tWhile c tb D σ H := ⟨Wv, ⟨m, h0⟩, hs⟩
theorem x_whM {Wv : Nat → L2.St → Hp → Prop} {m : Nat} (h : tb { D with nx := fun σ' H' => ∃ m', m' < m ∧ Wv m' σ' H', ct := fun σ' H' => ∃ m', m' < m ∧ Wv m' σ' H', bk := D.nx } σ H) : rWhN Wv m tb D σ H := ⟨_, fun _ _ h => h, h⟩
end
theorem sum_castR (f : Nat → Nat) : ∀ xs : List Nat, (xs.map fun j => ((f j : Nat) : Int)).sum = (((xs.map f).sum : Nat) : Int)
  | [] => rfl
  | x :: xs => by rw [List.map_cons, List.sum_cons, List.map_cons, List.sum_cons, sum_castR f xs, Int.natCast_add]
section
variable {P : Program} {w : World} {K : PySem.W.Frag} {mg : Str → Option Value} {base : Heap}
def spWays (n : Nat) : Sp := fun vs H Q _ => ∃ (F : Addr → Prop) (t : K38.T) (v : V), vs = [v] ∧ TreeAt F H t v ∧ dpT t < n ∧ dpT t ≤ 200 ∧ nnT t ≤ 1000 ∧ wfT t ∧ w3 t ∧ ∀ H', Same H H' → Q (.int (W t : Nat)) H'
set_option exponentiation.threshold 20000
theorem nn_big {a n : Nat} (h : a ≤ 2 ^ (8 * n)) (hn : n ≤ 1000) : a < 2 ^ 8001 := Nat.lt_of_le_of_lt h (Nat.pow_lt_pow_right (by decide) (by omega))
theorem ok_ways (T : TX K mg) : ∀ n, FnOk P w K mg base CX0 (n + 1) T.f_law_ways T.d_law_ways ["_law_one"] (spWays n) := by
  intro n
  induction n with
  | zero =>
    refine T.F_law_ways.ok sc_law_ways (fun vs H Q E h => ?_) (fun cdv A outer s H vs Q E hr h => ?_)
    · obtain ⟨F, t, v, rfl, _⟩ := h
      rfl
    · obtain ⟨F, t, v, rfl, _, hd, _⟩ := h
      omega
  | succ n ih =>
  have G_law_ways := ih
  refine T.F_law_ways.ok sc_law_ways (fun vs H Q E h => ?_) (fun cdv A outer s H vs Q E hr h => ?_)
  · obtain ⟨F, t, v, rfl, _⟩ := h
    rfl
  obtain ⟨F, t, v, rfl, ht, hd, hd2, hnn, hw, h3, k⟩ := h
  refine ⟨_, (pss_cons (ps_if (pt_val (pe_callB (kc_isi K) (by rfl) T.z_isinstance (by decide +kernel) (pa_cons (pv 0) (pa_cons (pe_bltn (v := .ty "str") (by rfl) T.z_str (by decide +kernel) rfl) pa_nil))))
  (pss_one (ps_ret pe_int))
  pss_nil)
  (pss_cons (ps_set (i := 1) sc_law_ways.nd rfl (Or.inl rfl) pe_int)
  (pss_cons (ps_set (i := 2) sc_law_ways.nd rfl (Or.inl rfl) pe_int)
  (pss_cons (ps_while PassesOwn.never (pt_cmpR op_eq (pe_ix (kx_tup K) (pv 0) pe_int (fun _ _ => rfl)) pe_int (nomark _))
  (pss_cons (ps_set (i := 1) sc_law_ways.nd rfl (Or.inl rfl) (pe_op op_mulW (pv 1) (pe_call G_law_ways (hr.mono (by omega)) (by rfl) T.m_law_ways T.F_law_ways.kp T.b_law_ways .nil pass0 (pa_cons (pe_ix (kx_list K) (pe_ix (kx_tup K) (pv 0) pe_int (fun _ _ => rfl)) pe_int (fun _ _ => rfl)) pa_nil))))
  (pss_cons (ps_set (i := 2) sc_law_ways.nd rfl (Or.inl rfl) (pe_op op_add (pv 2) pe_int))
  (pss_one (ps_set (i := 0) sc_law_ways.nd rfl (Or.inl rfl) (pe_ix (kx_list K) (pe_ix (kx_tup K) (pv 0) pe_int (fun _ _ => rfl)) pe_int (fun _ _ => rfl)))))))
  (pss_cons (ps_for PassesOwn.never rfl (kpi_list K (pe_ix (kx_tup K) (pv 0) pe_int (fun _ _ => rfl))) (pg_name (i := 3) sc_law_ways.nd rfl (Or.inl rfl))
  (pss_one (ps_set (i := 1) sc_law_ways.nd rfl (Or.inl rfl) (pe_op op_mulW (pv 1) (pe_call G_law_ways (hr.mono (by omega)) (by rfl) T.m_law_ways T.F_law_ways.kp T.b_law_ways .nil pass0 (pa_cons (pv 3) pa_nil))))))
  (pss_cons (ps_set (i := 4) sc_law_ways.nd rfl (Or.inr rfl) (pe_lst (pa_cons pe_int pa_nil)))
  (pss_cons (ps_for PassesOwn.never rfl (pi_range2 (by rfl) T.z_range (pa_cons pe_int (pa_cons (pv 2) pa_nil))) (pg_name (i := 5) sc_law_ways.nd rfl (Or.inr rfl))
  (pss_one (ps_expr (kbm K (pe_bm PySem.F.plainAttrs_list PySem.F.slot_list_append PySem.F.type_list_append mt_append (pv 4) (pa_cons (pe_callB (kc_sum K rfl) (by rfl) T.z_sum (by decide +kernel) (pa_cons (pe_lc (own := [("_law_j", 6)]) (by rfl) sc_law_ways.nd (pi_range1 (by rfl) T.z_range (pa_cons (pv 5) pa_nil)) (blkOk_by (N := ["_law_one", "_law_many", "_law_items_here", "_law_kid", "_law_rows", "_law_k", "_law_j"]) (sc := (defScope s_law_ways)) (by decide +kernel)) (fun _ _ _ _ _ => (pg_name (i := 6) sc_law_ways.nd rfl (Or.inl rfl))) (fun _ _ _ _ _ => pts_nil) (fun _ _ _ _ _ => (pe_op op_mulW (pe_ix (kx_list K) (pv 4) (pv 6) (fun _ _ => rfl)) (pe_ix (kx_list K) (pv 4) (pe_op op_sub (pe_op op_sub (pv 5) pe_int) (pv 6)) (fun _ _ => rfl))))) pa_nil)) pa_nil))))))
  (pss_one (ps_ret (pe_op op_mulW (pv 1) (pe_ix (kx_list K) (pv 4) (pe_op op_sub (pv 2) pe_int) (fun _ _ => rfl)))))))))))), ?_⟩
  cases t with
  | leaf u =>
    unfold TreeAt at ht
    obtain ⟨z, rfl, hz⟩ := ht
    walk_at "go"
    refine x_isiStr (b := true) (by decide) ?_
    walk_at "go"
    have := k H (Same.refl _)
    rw [W_leaf] at this
    exact this
  | node r ks =>
    obtain ⟨q1, q2, q3, q4, q5⟩ := wp_b (.node r ks)
    have q5 := q5 (by omega)
    have hB : (wp (.node r ks)).1 < 2 ^ 8001 := by
      have : (wp (.node r ks)).1 * 1 ≤ (wp (.node r ks)).1 * 2 ^ (8 * ((wp (.node r ks)).2 - 1)) := Nat.mul_le_mul_left _ (Nat.one_le_pow _ _ (by decide))
      exact nn_big (by omega) hnn
    have ht0 := ht
    unfold TreeAt at ht0
    obtain ⟨a, p, us, rfl, _, h1, h2, _⟩ := ht0
    walk_at "go"
    refine x_isiTup h1 (b := false) (by decide) ?_
    walk_at "go"
    refine x_whN (fun m σ H' => ∃ (b : Addr) (many items r' : Nat) (ks' : List K38.T), σ = [some (.ref b), some (.int (many : Nat)), some (.int (items : Nat)), none, none, none, none] ∧ Same H H' ∧ TreeAt F H' (.node r' ks') (.ref b) ∧
      m = dpT (.node r' ks') ∧ m ≤ dpT (.node r ks) ∧ nnT (.node r' ks') ≤ nnT (.node r ks) ∧ wfT (.node r' ks') ∧ w3 (.node r' ks') ∧ 1 ≤ items ∧ 0 < many ∧ wp (.node r ks) = (many * (wp (.node r' ks')).1, items - 1 + (wp (.node r' ks')).2))
      (dpT (.node r ks)) ⟨a, 1, 1, r, ks, rfl, Same.refl _, ht, rfl, Nat.le_refl _, Nat.le_refl _, hw, h3, Nat.le_refl _, by decide, by simp⟩ ?_
    · rintro m σ H1 ⟨b, many, items, r', ks', rfl, s1, ht1, rfl, hm, hn1, hw1, h31, hi1, hm0, hwp⟩
      have ht1' := ht1
      unfold TreeAt at ht1'
      obtain ⟨b', p1, us1, e, _, g1, g2, g3⟩ := ht1'
      cases e
      have hP := TreesAt.pair g3
      have manyB : ∀ y, 0 < y → many * y ∣ (wp (.node r ks)).1 → many < 2 ^ 8001 := fun y hy hdv => by
        have := Nat.le_of_dvd q1 hdv
        have := Nat.le_mul_of_pos_right many hy
        omega
      have mB : many < 2 ^ 8001 := manyB _ (wp_b (.node r' ks')).1 ⟨1, by rw [hwp]; simp⟩
      walk_at "go"
      by_cases c : r' = 3
      · subst c
        rw [decide_eq_true (show ((3 : Nat) : Int) = 3 from rfl)]
        refine iteT ?_
        refine x_whM ?_
        obtain ⟨ka, kc, r2, ks2, rfl⟩ := w3_3 h31
        obtain ⟨va, hva, tva⟩ := Paired.at hP (i := 0) rfl
        obtain ⟨vb, hvb, tvb⟩ := Paired.at hP (i := 2) rfl
        have i0 : atI us1 0 = some va := atI_nat (j := 0) hva
        have i2 : atI us1 2 = some vb := atI_nat (j := 2) hvb
        have ed : dpT (.node 3 [ka, kc, .node r2 ks2]) = max (dpT ka) (max (dpT kc) (max (dpT (.node r2 ks2)) 0)) + 1 := rfl
        have en : nnT (.node 3 [ka, kc, .node r2 ks2]) = nnT ka + (nnT kc + (nnT (.node r2 ks2) + 0)) + 1 := rfl
        have w1 : ([ka, kc, .node r2 ks2] : List K38.T).length ≤ 10 ∧ wfT ka ∧ wfT kc ∧ wfT (.node r2 ks2) ∧ True := hw1
        have w2 : (3 = 3 → _) ∧ w3 ka ∧ w3 kc ∧ w3 (.node r2 ks2) ∧ True := h31
        walk_at "go"
        refine ⟨F, ka, va, rfl, tva, by omega, by omega, by omega, w1.2.1, w2.2.1, fun H2 s2 => ?_⟩
        refine x_I (wide_mul (a := 8001) (b := 8001) (by rw [Int.natAbs_natCast]; exact mB) (by rw [Int.natAbs_natCast]; exact nn_big (W_le (by omega)) (by omega)) (by decide) (by decide) (by decide)) ?_
        have g1' := s2 _ _ g1
        have g2' := s2 _ _ g2
        have tvb' := tvb.s s2
        have tvb'' := tvb'
        unfold TreeAt at tvb''
        obtain ⟨b2, _, _, eb, _⟩ := tvb''
        subst eb
        walk_at "go"
        refine ⟨dpT (.node r2 ks2), by omega, b2, many * W ka, items + 1, r2, ks2, ?_, s1.trans s2, tvb', rfl, by omega, by omega, w1.2.2.2.1, w2.2.2.2.1, by omega, Nat.mul_pos hm0 (W_pos ka), ?_⟩
        · show [some (V.ref b2), some (V.int ((many : Int) * (W ka : Nat))), some (V.int ((items : Int) + 1)), none, none, none, none] = _
          rw [Int.natCast_mul, Int.natCast_add]; rfl
        · rw [hwp, wp_3]
          simp only [Prod.mk.injEq]
          exact ⟨by rw [Nat.mul_assoc], by omega⟩
      · rw [decide_eq_false (show ¬ ((r' : Nat) : Int) = 3 by omega)]
        refine iteF ?_
        rw [wp_n c] at hwp
        have ew1 : (wp (.node r ks)).1 = many * wps ks' := by rw [hwp]
        have ew2 : (wp (.node r ks)).2 = items := by rw [hwp]; show items - 1 + 1 = _; omega
        have w1 : ks'.length ≤ 10 ∧ wfTs ks' := hw1
        have w2 : _ ∧ w3s ks' := h31
        have ed : dpT (.node r' ks') = dpTs ks' + 1 := rfl
        have en : nnT (.node r' ks') = nnTs ks' + 1 := rfl
        have lu : us1.length = ks'.length := Paired.length hP
        walk_at "go"
        refine x_forLR g2 (fun j σ H' => ∃ v3, σ = [some (.ref b), some (.int ((many * wps (ks'.take j) : Nat))), some (.int (items : Nat)), v3, none, none, none] ∧ Same H1 H') ⟨none, by simp [wps_nil], Same.refl _⟩ (fun j σ H' _ ⟨_, _, s'⟩ => s' _ _ g2) ?_ ?_
        · rintro j x σ H2 hx ⟨v3, rfl, s2⟩
          obtain ⟨kt, hk, hkt⟩ := Paired.at' hP hx
          have hm := List.mem_of_getElem? hk
          have := dpTs_le hm
          have := nnTs_mem hm
          have eks : ks' = ks'.take j ++ kt :: ks'.drop (j + 1) := by rw [← drop_get hk, List.take_append_drop]
          have dv : many * wps (ks'.take j) < 2 ^ 8001 := by
            have gen : ∀ (xs ys : List K38.T), wps (xs ++ ys) = wps xs * wps ys := fun xs ys => by
              induction xs with
              | nil => simp [wps_nil]
              | cons x xs ih => rw [List.cons_append, wps_cons, wps_cons, ih, Nat.mul_assoc]
            have : (wp (.node r ks)).1 = many * wps (ks'.take j) * wps (kt :: ks'.drop (j + 1)) := by rw [ew1, Nat.mul_assoc, ← gen, ← eks]
            have := Nat.le_mul_of_pos_right (many * wps (ks'.take j)) (wps_pos (kt :: ks'.drop (j + 1)))
            omega
          walk_at "go"
          refine ⟨F, kt, x, rfl, hkt.s s2, by omega, by omega, by omega, wfTs_mem w1.2 hm, w3s_mem w2.2 hm, fun H3 s3 => ?_⟩
          refine x_I (wide_mul (a := 8001) (b := 8001) (by rw [Int.natAbs_natCast]; exact dv) (by rw [Int.natAbs_natCast]; exact nn_big (W_le (by omega)) (by omega)) (by decide) (by decide) (by decide)) ?_
          walk_at "go"
          refine ⟨some x, ?_, s2.trans s3⟩
          rw [take_more hk, wps_app]
          show [some (V.ref b), some (V.int (((many * wps (ks'.take j) : Nat) : Int) * (W kt : Nat))), some (V.int (items : Nat)), some x, none, none, none] = _
          rw [← Int.natCast_mul, Nat.mul_assoc]
        · rintro σ H2 ⟨v3, rfl, s2⟩
          rw [lu, List.take_length, ← ew1]
          walk_at "go"
          refine ⟨by show 1 ≤ sizeLine; decide, fun rl hrl => ?_⟩
          have it200 : items ≤ 201 := by omega
          walk_at "go"
          refine x_forR2R (a := 1) (b := items) (by omega) hi1 (fun j σ H' => ∃ v5 v6, σ = [some (.ref b), some (.int ((wp (.node r ks)).1 : Nat)), some (.int (items : Nat)), v3, some (.ref rl), v5, v6] ∧ SameX rl H2 H' ∧ H' rl = some (.lst ((List.range j).map fun i => V.int (cat i : Nat))))
            ⟨none, none, rfl, SameX.of (Same.new hrl), upd_same⟩ ?_ ?_
          · rintro j σ H3 hj1 hj2 ⟨v5, v6, rfl, X3, hrl3⟩
            have cb : ∀ i, i ≤ 201 → cat i < 2 ^ 8001 := fun i hi => Nat.lt_of_le_of_lt (cat_le i (by omega)) (Nat.pow_lt_pow_right (by decide) (by omega))
            walk_at "go"
            refine x_lcRP (n := j) (by omega) (fun i => (List.range i).map fun i => V.int ((cat i * cat (j - 1 - i) : Nat))) (by simp) (fun i hi => by rw [List.length_map, List.length_range]; omega) (fun i H4 N1 N2 hi s4 k1 k2 => ?_) (fun D H4 s4 hD hDv => ?_)
            · unfold LcTurn
              have hrl4 := s4 _ _ hrl3
              have i1 : atI ((List.range j).map fun i => V.int (cat i : Nat)) (i : Int) = some (.int (cat i : Nat)) := atI_nat (by rw [List.getElem?_map, List.getElem?_range hi]; rfl)
              have i2 : atI ((List.range j).map fun i => V.int (cat i : Nat)) ((j : Int) - 1 - (i : Int)) = some (.int (cat (j - 1 - i) : Nat)) := by
                rw [show ((j : Int) - 1 - (i : Int)) = ((j - 1 - i : Nat) : Int) by omega]
                exact atI_nat (by rw [List.getElem?_map, List.getElem?_range (by omega)]; rfl)
              walk_at "go"
              refine ⟨rfl, ?_⟩
              walk_at "go"
              refine x_I (wide_mul (a := 8001) (b := 8001) (by rw [Int.natAbs_natCast]; exact cb _ (by omega)) (by rw [Int.natAbs_natCast]; exact cb _ (by omega)) (by decide) (by decide) (by decide)) ?_
              refine k1 _ _ (Same.refl _) ?_
              rw [List.range_succ, List.map_append, ← Int.natCast_mul]
              rfl
            · walk_at "go"
              refine x_sum (ns := (List.range j).map fun i => ((cat i * cat (j - 1 - i) : Nat) : Int)) (by rw [List.map_map]; exact hDv) ?_
              have es : ((List.range j).map fun i => ((cat i * cat (j - 1 - i) : Nat) : Int)).sum = ((cat j : Nat) : Int) := by
                rw [sum_castR]
                congr 1
                obtain ⟨j', rfl⟩ : ∃ j', j = j' + 1 := ⟨j - 1, by omega⟩
                rw [cat_succ]; rfl
              rw [es]
              walk_at "go"
              refine x_append (s4 _ _ hrl3) (by rw [List.length_map, List.length_range]; exact small_ (by omega)) ?_
              refine ⟨_, _, rfl, (X3.trans (SameX.of s4)).trans SameX.upd, ?_⟩
              rw [upd_same, List.range_succ, List.map_append]
              rfl
          · rintro σ H3 ⟨v5, v6, rfl, X3, hrl3⟩
            have ix : atI ((List.range items).map fun i => V.int (cat i : Nat)) ((items : Int) - 1) = some (.int (cat (items - 1) : Nat)) := by
              rw [show ((items : Int) - 1) = ((items - 1 : Nat) : Int) by omega]
              exact atI_nat (by rw [List.getElem?_map, List.getElem?_range (by omega)]; rfl)
            have cb : cat (items - 1) < 2 ^ 8001 := Nat.lt_of_le_of_lt (cat_le _ (by omega)) (Nat.pow_lt_pow_right (by decide) (by omega))
            walk_at "go"
            refine x_I (wide_mul (a := 8001) (b := 8001) (by rw [Int.natAbs_natCast]; exact hB) (by rw [Int.natAbs_natCast]; exact cb) (by decide) (by decide) (by decide)) ?_
            have := k H3 (s1.trans (s2.trans fun a o h => X3 _ _ (fun e => by rw [e, hrl] at h; cases h) h))
            show Q (.int ((((wp (.node r ks)).1 : Nat) : Int) * ((cat (items - 1) : Nat) : Int))) H3
            rw [← Int.natCast_mul, ← ew2]
            exact this
end
theorem TreeAt.sx {F : Addr → Prop} {H H' : Hp} {rl : Addr} {ws : List V} {k : K38.T} {v : V} (hr : H rl = some (.lst ws)) (hF : F rl) (X : SameX rl H H') (h : TreeAt F H k v) : TreeAt F H' k v :=
  TreeAt.kp (fun a xs h => X _ _ (fun e => by rw [e, hr] at h; cases h) h) (fun a xs nF h => X _ _ (fun e => nF (by rw [e]; exact hF)) h) h
def LRAt (F : Addr → Prop) (H : Hp) (v : V) (x : LRow) : Prop := ∃ a pa u : Addr, v = .ref a ∧ H a = some (.tup [.ref pa, .ref u, .int (x.2.2.1 : Nat), .int (x.2.2.2 : Nat)]) ∧ H pa = some (.tup (nats x.1)) ∧ TreeAt F H x.2.1 (.ref u)
theorem LRAt.sx {F : Addr → Prop} {H H' : Hp} {rl : Addr} {ws : List V} {v : V} {x : LRow} (hr : H rl = some (.lst ws)) (hF : F rl) (X : SameX rl H H') (h : LRAt F H v x) : LRAt F H' v x := by
  obtain ⟨a, pa, u, e, h1, h2, h3⟩ := h
  have nt : ∀ {b xs}, H b = some (.tup xs) → b ≠ rl := fun h e => by rw [e, hr] at h; cases h
  exact ⟨a, pa, u, e, X _ _ (nt h1) h1, X _ _ (nt h2) h2, h3.sx hr hF X⟩
theorem LRAt.s {F : Addr → Prop} {H H' : Hp} {v : V} {x : LRow} (s : Same H H') (h : LRAt F H v x) : LRAt F H' v x := by
  obtain ⟨a, pa, u, e, h1, h2, h3⟩ := h
  exact ⟨a, pa, u, e, s _ _ h1, s _ _ h2, h3.s s⟩
theorem LRAt.weak {F F' : Addr → Prop} {H : Hp} {v : V} {x : LRow} (hF : ∀ a, F' a → H a ≠ none → F a) (h : LRAt F H v x) : LRAt F' H v x := by
  obtain ⟨a, pa, u, e, h1, h2, h3⟩ := h
  exact ⟨a, pa, u, e, h1, h2, TreeAt.wide hF h3⟩
theorem Paired.app {α β : Type} {F : α → β → Prop} {xs ys : List α} {us ws : List β} (p : Paired F xs us) (q : Paired F ys ws) : Paired F (xs ++ ys) (us ++ ws) := by
  induction p with
  | nil => exact q
  | cons r t ih => exact .cons r ih
theorem nnTs_app : ∀ (xs ys : List K38.T), nnTs (xs ++ ys) = nnTs xs + nnTs ys
  | [], ys => by simp [nnTs]
  | x :: xs, ys => by show nnT x + nnTs (xs ++ ys) = nnT x + nnTs xs + nnTs ys; rw [nnTs_app xs ys]; omega
section
variable {P : Program} {w : World} {K : PySem.W.Frag} {mg : Str → Option Value} {base : Heap}
def spLN (n : Nat) : Sp := fun vs H Q _ => ∃ (F : Addr → Prop) (pa : Addr) (t : K38.T) (v : V) (path : List Nat) (s : Nat), vs = [v, .ref pa, .int (s : Nat)] ∧ TreeAt F H t v ∧ (∃ r ks, t = .node r ks) ∧ dpT t < n ∧ dpT t < 200 ∧ wfT t ∧ szT t ≤ 1000 ∧
  H pa = some (.tup (nats path)) ∧ path.length + dpT t ≤ 1000 ∧ nnT t ≤ 90000 ∧ ∀ H' p vs1, Same H H' → H p = none → H' p = some (.lst vs1) → Paired (LRAt F H') vs1 (lnod t path s) → Q (.ref p) H'
theorem ok_lnodes (T : TX K mg) (G_law_size : FnD P w K mg base CX0 201 T.f_law_size T.d_law_size ["_law_one"] (spSize 200)) :
    ∀ n, FnD P w K mg base CX0 (n + 202) T.f_law_nodes T.d_law_nodes ["_law_one", "_law_path", "_law_start"] (spLN n) := by
  intro n
  induction n with
  | zero =>
    refine T.F_law_nodes.okD sc_law_nodes (fun vs H Q E h => ?_) (fun cdv A outer s H vs Q E hr h => ?_)
    · obtain ⟨F, pa, t, v, path, s, rfl, _⟩ := h
      rfl
    · obtain ⟨F, pa, t, v, path, s, rfl, _, _, hd, _⟩ := h
      omega
  | succ n ih =>
  have G_law_nodes := ih
  refine T.F_law_nodes.okD (k := n + 202) sc_law_nodes (fun vs H Q E h => ?_) (fun cdv A outer s H vs Q E hr h => ?_)
  · obtain ⟨F, pa, t, v, path, s, rfl, _⟩ := h
    rfl
  obtain ⟨F, pa, t, v, path, s, rfl, ht, ⟨r, ks, rfl⟩, hd, hd2, hw, hsz, hpa, hpl, hnn, k⟩ := h
  refine ⟨_, (pss_cons (ps_set (i := 3) sc_law_nodes.nd rfl (Or.inl rfl) (pe_lst (pa_cons (pe_tup (pa_cons (pv 1) (pa_cons (pv 0) (pa_cons (pv 2) (pa_cons (pe_op op_add (pv 2) (pe_callD G_law_size (hr.mono (by omega)) (by rfl) T.m_law_size T.F_law_size.kp T.b_law_size .nil pass0 (pa_cons (pv 0) pa_nil))) pa_nil))))) pa_nil)))
  (pss_cons (ps_for PassesOwn.never rfl (pi_range1 (by rfl) T.z_range (pa_cons (pe_callB (kl_len K) (by rfl) T.z_len (by decide +kernel) (pa_cons (pe_ix (kx_tup K) (pv 0) pe_int (fun _ _ => rfl)) pa_nil)) pa_nil)) (pg_name (i := 4) sc_law_nodes.nd rfl (Or.inl rfl))
  (pss_cons (ps_if (pt_not (pt_val (pe_callB (kc_isi K) (by rfl) T.z_isinstance (by decide +kernel) (pa_cons (pe_ix (kx_list K) (pe_ix (kx_tup K) (pv 0) pe_int (fun _ _ => rfl)) (pv 4) (fun _ _ => rfl)) (pa_cons (pe_bltn (v := .ty "str") (by rfl) T.z_str (by decide +kernel) rfl) pa_nil)))))
  (pss_one (ps_expr (kbm K (pe_bm PySem.F.plainAttrs_list PySem.F.slot_list_extend PySem.F.type_list_extend mt_extend (pv 3) (pa_cons (pe_callD G_law_nodes (hr.mono (by omega)) (by rfl) T.m_law_nodes T.F_law_nodes.kp T.b_law_nodes .nil pass0 (pa_cons (pe_ix (kx_list K) (pe_ix (kx_tup K) (pv 0) pe_int (fun _ _ => rfl)) (pv 4) (fun _ _ => rfl)) (pa_cons (pe_op (kop_cat K) (pv 1) (pe_tup (pa_cons (pv 4) pa_nil))) (pa_cons (pv 2) pa_nil)))) pa_nil)))))
  pss_nil)
  (pss_one (ps_set (i := 2) sc_law_nodes.nd rfl (Or.inl rfl) (pe_op op_add (pv 2) (pe_callD G_law_size (hr.mono (by omega)) (by rfl) T.m_law_size T.F_law_size.kp T.b_law_size .nil pass0 (pa_cons (pe_ix (kx_list K) (pe_ix (kx_tup K) (pv 0) pe_int (fun _ _ => rfl)) (pv 4) (fun _ _ => rfl)) pa_nil)))))))
  (pss_one (ps_ret (pv 3))))), ?_⟩
  have ht0 := ht
  unfold TreeAt at ht0
  obtain ⟨a, p, us, rfl, npF, h1, h2, h3⟩ := ht0
  have hP := TreesAt.pair h3
  have hw' : ks.length ≤ 10 ∧ wfTs ks := hw
  have edp : dpT (.node r ks) = dpTs ks + 1 := rfl
  have esz : szT (.node r ks) = szTs ks := rfl
  have enn : nnT (.node r ks) = nnTs ks + 1 := rfl
  walk_at "go"
  refine ⟨F, .node r ks, _, rfl, ht, hd2, hsz, hw, fun H1 s1 => ?_⟩
  walk_at "go"
  refine ⟨by show 4 ≤ sizeLine; decide, fun q hq => ?_⟩
  walk_at "go"
  refine ⟨by show 1 ≤ sizeLine; decide, fun rl hrl => ?_⟩
  have s2 : Same H1 (upd (upd H1 q (.tup [.ref pa, .ref a, .int (s : Nat), .int ((s : Int) + (szTs ks : Nat))])) rl (.lst [.ref q])) := (Same.new hq).trans (Same.new hrl)
  have s02 := s1.trans s2
  have hrlH : H rl = none := s1.free ((Same.new hq).free hrl)
  have h22 := s02 _ _ h2
  have h12 := s02 _ _ h1
  have wide : ∀ {kk : K38.T} {u : V}, TreeAt F H kk u → TreeAt (fun b => F b ∨ b = rl) H kk u := fun h => TreeAt.wide (fun b hb hn => by
    rcases hb with hb | hb
    · exact hb
    · rw [hb] at hn; exact absurd hrlH hn) h
  have npr : p ≠ rl := fun e => by rw [e, hrlH] at h2; cases h2
  have ntr : ∀ {b xs}, H b = some (.tup xs) → b ≠ rl := fun h e => by rw [e, hrlH] at h; cases h
  walk_at "go"
  rw [show us.length = ks.length from Paired.length hP]
  refine x_forR1R (n := ks.length) (by omega) (fun j σ H' => ∃ (v4 : Option V) (vj : List V), σ = [some (.ref a), some (.ref pa), some (.int (s + szTs (ks.take j) : Nat)), some (.ref rl), v4] ∧ SameX rl H H' ∧ H' rl = some (.lst vj) ∧ Paired (LRAt (fun b => F b ∨ b = rl) H') vj ((path, .node r ks, s, s + szTs ks) :: lnods (ks.take j) path 0 s))
    ⟨none, [.ref q], rfl, SameX.of s02, upd_same, .cons ⟨q, pa, a, rfl, look1 upd_same hrl, s02 _ _ hpa, (wide ht).s s02⟩ .nil⟩ ?_ ?_
  · rintro j σ H3 hj ⟨v4, vj, rfl, X3, hrl3, P3⟩
    obtain ⟨kt, hkt⟩ : ∃ kt, ks[j]? = some kt := ⟨_, List.getElem?_eq_getElem hj⟩
    obtain ⟨y, hy, hty⟩ := Paired.at hP hkt
    have iy := atI_nat hy
    have hm := List.mem_of_getElem? hkt
    have h13 := X3 _ _ (ntr h1) h1
    have h23 := X3 _ _ npr h2
    have hpa3 := X3 _ _ (ntr hpa) hpa
    have hd1 := dpTs_le hm
    have hs1 := szTs_mem hm
    have hn1 := nnTs_mem hm
    have ej : (ks.take j).length = j := by rw [List.length_take]; omega
    have e1 : lnods (ks.take (j + 1)) path 0 s = lnods (ks.take j) path 0 s ++ lnod kt (path ++ [j]) (s + szTs (ks.take j)) := by rw [take_more hkt, lnods_app, ej, Nat.zero_add]
    have e2 : szTs (ks.take (j + 1)) = szTs (ks.take j) + szT kt := by rw [take_more hkt, szTs_app]
    have hsj : szTs (ks.take j) + szT kt ≤ szTs ks := by
      rw [← e2]
      have app : ∀ (xs ys : List K38.T), szTs (xs ++ ys) = szTs xs + szTs ys := fun xs ys => by
        induction xs with
        | nil => simp [szTs]
        | cons x xs ih => show szT x + szTs (xs ++ ys) = szT x + szTs xs + szTs ys; rw [ih]; omega
      have := app (ks.take (j + 1)) (ks.drop (j + 1))
      rw [List.take_append_drop] at this
      omega
    have fin : ∀ (H4 : Hp) (vj' : List V) (yy : V), SameX rl H H4 → H4 rl = some (.lst vj') → Paired (LRAt (fun b => F b ∨ b = rl) H4) vj' ((path, .node r ks, s, s + szTs ks) :: lnods (ks.take (j + 1)) path 0 s) → TreeAt (fun b => F b ∨ b = rl) H4 kt yy → H4 p = some (.lst us) → H4 a = some (.tup [.str "node", .int (r : Nat), .ref p]) → us[j]? = some yy →
        spSize 200 [yy] H4 (fun y H2 => rI0 (fun i j => V.int (i + j)) (.int ((s + szTs (ks.take j) : Nat) : Int)) y H2 fun x H1 => ∃ (v4 : Option V) (vj : List V), ([some (.ref a), some (.ref pa), some x, some (.ref rl), some (.int (j : Nat))] : L2.St) = [some (.ref a), some (.ref pa), some (.int (s + szTs (ks.take (j + 1)) : Nat)), some (.ref rl), v4] ∧ SameX rl H H1 ∧ H1 rl = some (.lst vj) ∧ Paired (LRAt (fun b => F b ∨ b = rl) H1) vj ((path, .node r ks, s, s + szTs ks) :: lnods (ks.take (j + 1)) path 0 s)) E0 := fun H4 vj' yy X4 hr4 P4 ht4 _ _ _ => by
      refine ⟨_, kt, yy, rfl, ht4, by omega, by omega, wfTs_mem hw'.2 hm, fun H5 s5 => ?_⟩
      refine x_I0 ⟨some (.int (j : Nat)), vj', ?_, X4.trans (SameX.of s5), s5 _ _ hr4, Paired.imp (fun _ _ h => h.s s5) P4⟩
      rw [e2]
      show [some (V.ref a), some (V.ref pa), some (V.int (((s + szTs (ks.take j) : Nat) : Int) + (szT kt : Nat))), some (V.ref rl), some (V.int (j : Nat))] = _
      rw [← Int.natCast_add, Nat.add_assoc]
    have hty3 : TreeAt (fun b => F b ∨ b = rl) H3 kt y := TreeAt.kp (fun b xs h => X3 _ _ (ntr h) h) (fun b xs nF h => X3 _ _ (fun e => nF (.inr e)) h) (wide hty)
    cases kt with
    | leaf u =>
      have hty0 := hty3
      unfold TreeAt at hty0
      obtain ⟨z, rfl, hz⟩ := hty0
      walk_at "go"
      refine x_isiStr (b := true) (by decide) ?_
      walk_at "go"
      refine iteF ?_
      walk_at "go"
      refine fin H3 vj _ X3 hrl3 ?_ hty3 h23 h13 hy
      rw [e1, show lnod (.leaf u) (path ++ [j]) (s + szTs (ks.take j)) = [] from rfl, List.append_nil]
      exact P3
    | node r2 ks2 =>
      have hty0 := hty3
      unfold TreeAt at hty0
      obtain ⟨b, p2, us2, rfl, _, hb, _⟩ := hty0
      walk_at "go"
      refine x_isiTup hb (b := false) (by decide) ?_
      walk_at "go"
      refine iteT ?_
      walk_at "go"
      refine ⟨by show 1 ≤ sizeLine; decide, fun q1 hq1 => ?_⟩
      have s31 := Same.new (o := .tup [.int (j : Nat)]) hq1
      have lenv : vj.length = 1 + nnTs (ks.take j) := by rw [Paired.length P3, List.length_cons, lnods_len]; omega
      have etk : nnTs ks = nnTs (ks.take j) + (nnT (.node r2 ks2) + nnTs (ks.drop (j + 1))) := by
        have e9 : ks = ks.take j ++ .node r2 ks2 :: ks.drop (j + 1) := by rw [← drop_get hkt, List.take_append_drop]
        conv => lhs; rw [e9]
        rw [nnTs_app]; rfl
      have call : ∀ (H4 : Hp) (qp : Addr) (Q' : VK), Same H3 H4 → H4 qp = some (.tup (nats (path ++ [j]))) → (∀ H5 pl vs1, Same H4 H5 → H5 pl = some (.lst vs1) → Paired (LRAt (fun b => F b ∨ b = rl) H5) vs1 (lnod (.node r2 ks2) (path ++ [j]) (s + szTs (ks.take j))) → Q' (.ref pl) H5) →
          spLN n [.ref b, .ref qp, .int ((s + szTs (ks.take j) : Nat))] H4 Q' E0 := fun H4 qp Q' s4 hqp kq =>
        ⟨fun b => F b ∨ b = rl, qp, .node r2 ks2, .ref b, path ++ [j], s + szTs (ks.take j), rfl, hty3.s s4, ⟨_, _, rfl⟩, by omega, by omega, wfTs_mem hw'.2 hm, by omega, hqp, by rw [List.length_append]; simp only [List.length_cons, List.length_nil]; omega, by omega, fun H5 pl vs1 s5 _ hpl' P5 => kq H5 pl vs1 s5 hpl' P5⟩
      have after : ∀ (H4 H5 : Hp) (pl : Addr) (vs1 : List V), Same H3 H4 → Same H4 H5 → H5 pl = some (.lst vs1) → Paired (LRAt (fun b => F b ∨ b = rl) H5) vs1 (lnod (.node r2 ks2) (path ++ [j]) (s + szTs (ks.take j))) →
          SameX rl H (upd H5 rl (.lst (vj ++ vs1))) ∧ (upd H5 rl (.lst (vj ++ vs1))) rl = some (.lst (vj ++ vs1)) ∧ Paired (LRAt (fun b => F b ∨ b = rl) (upd H5 rl (.lst (vj ++ vs1)))) (vj ++ vs1) ((path, .node r ks, s, s + szTs ks) :: lnods (ks.take (j + 1)) path 0 s) ∧ TreeAt (fun b => F b ∨ b = rl) (upd H5 rl (.lst (vj ++ vs1))) (.node r2 ks2) (.ref b) ∧ (upd H5 rl (.lst (vj ++ vs1))) p = some (.lst us) ∧ (upd H5 rl (.lst (vj ++ vs1))) a = some (.tup [.str "node", .int (r : Nat), .ref p]) := fun H4 H5 pl vs1 s4 s5 hpl' P5 => by
        have hr5 := (s4.trans s5) _ _ hrl3
        have X5 : SameX rl H5 (upd H5 rl (.lst (vj ++ vs1))) := SameX.upd
        refine ⟨(X3.trans (SameX.of (s4.trans s5))).trans X5, upd_same, ?_, (hty3.s (s4.trans s5)).sx hr5 (.inr rfl) X5, X5 _ _ npr ((s4.trans s5) _ _ h23), X5 _ _ (ntr h1) ((s4.trans s5) _ _ h13)⟩
        rw [e1]
        exact Paired.app (Paired.imp (fun _ _ h => (h.s (s4.trans s5)).sx hr5 (.inr rfl) X5) P3) (Paired.imp (fun _ _ h => h.sx hr5 (.inr rfl) X5) P5)
      have few : ∀ {vs1 : List V} {H5 : Hp}, Paired (LRAt (fun b => F b ∨ b = rl) H5) vs1 (lnod (.node r2 ks2) (path ++ [j]) (s + szTs (ks.take j))) → vj.length + vs1.length ≤ sizeLine := fun P5 => by
        rw [Paired.length P5, lnod_len]
        exact small__ (by omega)
      have hpa4 := s31 _ _ hpa3
      refine ⟨pa, q1, nats path, [.int (j : Nat)], rfl, rfl, SqT.of hpa4, SqT.of upd_same, ?_, fun e => ?_, fun _ e => (by cases e), fun _ _ q2 hq2 => ?_⟩
      · have : (nats path).length = path.length := by simp [nats]
        rw [this]; exact small__ (by show path.length + 1 ≤ _; omega)
      · have ep : path = [] := by simpa [nats] using e
        walk_at "go"
        refine call _ q1 _ s31 (by rw [ep]; exact upd_same) fun H5 pl vs1 s5 hpl' P5 => ?_
        walk_at "go"
        refine x_extend (s5 _ _ (s31 _ _ hrl3)) hpl' (few P5) ?_
        obtain ⟨f1, f2, f3, f4, f5, f6⟩ := after _ H5 pl vs1 s31 s5 hpl' P5
        walk_at "go"
        exact fin _ _ _ f1 f2 f3 f4 f5 f6 hy
      · have s32 := s31.trans (Same.new (o := .tup (nats path ++ [.int (j : Nat)])) hq2)
        walk_at "go"
        refine call _ q2 _ s32 (by rw [upd_same]; simp [nats]) fun H5 pl vs1 s5 hpl' P5 => ?_
        walk_at "go"
        refine x_extend (s5 _ _ (s32 _ _ hrl3)) hpl' (few P5) ?_
        obtain ⟨f1, f2, f3, f4, f5, f6⟩ := after _ H5 pl vs1 s32 s5 hpl' P5
        walk_at "go"
        exact fin _ _ _ f1 f2 f3 f4 f5 f6 hy
  · rintro σ H3 ⟨v4, vj, rfl, X3, hrl3, P3⟩
    rw [List.take_length] at P3
    walk_at "go"
    refine k H3 rl vj (fun b o h => X3 _ _ (fun e => by rw [e, hrlH] at h; cases h) h) hrlH hrl3 ?_
    exact Paired.imp (fun _ _ h => h.weak (fun _ hb _ => .inl hb)) P3
end
/-! ### == of trees -/
mutual
theorem TreeAt.uniq {F F' : Addr → Prop} {H : Hp} : ∀ {k k' : K38.T} {v : V}, TreeAt F H k v → TreeAt F' H k' v → k = k'
  | .leaf u, k', v, h, h' => by
    unfold TreeAt at h
    obtain ⟨z, rfl, hz⟩ := h
    cases k' with
    | leaf u' =>
      unfold TreeAt at h'
      obtain ⟨z', e, hz'⟩ := h'
      cases e
      rw [← hz, ← hz']
    | node r ks =>
      unfold TreeAt at h'
      obtain ⟨a, p, vs, e, _⟩ := h'
      cases e
  | .node r ks, k', v, h, h' => by
    unfold TreeAt at h
    obtain ⟨a, p, vs, rfl, _, h1, h2, h3⟩ := h
    cases k' with
    | leaf u' =>
      unfold TreeAt at h'
      obtain ⟨z', e, hz'⟩ := h'
      cases e
    | node r' ks' =>
      unfold TreeAt at h'
      obtain ⟨a', p', vs', e, _, h1', h2', h3'⟩ := h'
      cases e
      rw [h1] at h1'
      simp only [Option.some.injEq, HO.tup.injEq, List.cons.injEq, V.int.injEq, V.ref.injEq, true_and, and_true] at h1'
      obtain ⟨er, ep⟩ := h1'
      subst ep
      rw [h2] at h2'
      cases h2'
      rw [TreesAt.uniq h3 h3', show r = r' by omega]
theorem TreesAt.uniq {F F' : Addr → Prop} {H : Hp} : ∀ {ks ks' : List K38.T} {vs : List V}, TreesAt F H ks vs → TreesAt F' H ks' vs → ks = ks'
  | [], ks', vs, h, h' => by
    unfold TreesAt at h
    subst h
    cases ks' with
    | nil => rfl
    | cons k ks =>
      unfold TreesAt at h'
      obtain ⟨v, r, e, _⟩ := h'
      cases e
  | k :: ks, ks', vs, h, h' => by
    unfold TreesAt at h
    obtain ⟨v, r, rfl, h1, h2⟩ := h
    cases ks' with
    | nil =>
      unfold TreesAt at h'
      cases h'
    | cons k' ks' =>
      unfold TreesAt at h'
      obtain ⟨v', r', e, h1', h2'⟩ := h'
      cases e
      rw [TreeAt.uniq h1 h1', TreesAt.uniq h2 h2']
end
section
open PySem.Spec PyProof.Rows
variable {X : Cx} {pins : List (Addr × Obj)} {σ : L2.St} {H : Hp} {s : Shared} {F F' : Addr → Prop}
mutual
theorem eqT (I : Inv X pins σ H s) : ∀ (k1 k2 : K38.T) (A : Around) (v1 v2 : V) (u1 u2 : Value), A.units + 2 * dpT k1 < cLine → TreeAt F H k1 v1 → TreeAt F' H k2 v2 → RelV v1 u1 → RelV v2 u2 →
    ∃ b : Bool, (b = true ↔ k1 = k2) ∧ SeqAt.EqAt A s u1 u2 b ∧ ((∃ a1 a2, v1 = .ref a1 ∧ v2 = .ref a2) → SeqAt.RcAt A s u1 u2 b)
  | .leaf t1, k2, A, v1, v2, u1, u2, hu, h1, h2, r1, r2 => by
    unfold TreeAt at h1
    obtain ⟨z1, rfl, hz1⟩ := h1
    obtain ⟨t, rfl⟩ := (show ∃ t, u1 = Value.str z1 t from r1)
    cases k2 with
    | leaf t2 =>
      unfold TreeAt at h2
      obtain ⟨z2, rfl, hz2⟩ := h2
      obtain ⟨t', rfl⟩ := (show ∃ t, u2 = Value.str z2 t from r2)
      refine ⟨z1 == z2, ?_, SeqAt.EqAt.str_str z1 t z2 t', fun ⟨_, _, e, _⟩ => by cases e⟩
      rw [beq_iff_eq, str_eq_iff, hz1, hz2]
      simp
    | node r ks =>
      unfold TreeAt at h2
      obtain ⟨a, p, vs, rfl, _, g1, _⟩ := h2
      cases (show u2 = Value.ref a from r2)
      obtain ⟨its, rv, pl, _⟩ := I.tuple (SqT.of g1)
      exact ⟨false, by simp, SeqAt.EqAt.str_tuple z1 t pl (by omega), fun ⟨_, _, e, _⟩ => by cases e⟩
  | .node r ks, k2, A, v1, v2, u1, u2, hu, h1, h2, r1, r2 => by
    unfold TreeAt at h1
    obtain ⟨a1, p1, vs1, rfl, n1, g1, g2, g3⟩ := h1
    cases (show u1 = Value.ref a1 from r1)
    obtain ⟨its1, rv1, pl1, _⟩ := I.tuple (SqT.of g1)
    cases k2 with
    | leaf t2 =>
      unfold TreeAt at h2
      obtain ⟨z2, rfl, hz2⟩ := h2
      obtain ⟨t', rfl⟩ := (show ∃ t, u2 = Value.str z2 t from r2)
      exact ⟨false, by simp, SeqAt.EqAt.tuple_str z2 t' pl1 (by omega), fun ⟨_, _, _, e⟩ => by cases e⟩
    | node r' ks' =>
      unfold TreeAt at h2
      obtain ⟨a2, p2, vs2, rfl, n2, f1, f2, f3⟩ := h2
      cases (show u2 = Value.ref a2 from r2)
      obtain ⟨its2, rv2, pl2, _⟩ := I.tuple (SqT.of f1)
      have ed : dpT (.node r ks) = dpTs ks + 1 := rfl
      cases rv1 with
      | cons rw1 rv1 =>
      cases rv1 with
      | cons ri1 rv1 =>
      cases rv1 with
      | cons rp1 rv1 =>
      cases rv1
      cases rv2 with
      | cons rw2 rv2 =>
      cases rv2 with
      | cons ri2 rv2 =>
      cases rv2 with
      | cons rp2 rv2 =>
      cases rv2
      obtain ⟨tw1, rfl⟩ := rw1
      obtain ⟨tw2, rfl⟩ := rw2
      obtain ⟨ti1, rfl⟩ := ri1
      obtain ⟨ti2, rfl⟩ := ri2
      obtain rfl := rp1
      obtain rfl := rp2
      obtain ⟨c, hc, hce⟩ : ∃ c : Bool, (c = true ↔ ks = ks') ∧ SeqAt.EqAt A.in1 s (.ref p1) (.ref p2) c := by
        obtain ⟨js1, jv1, jl1, _⟩ := I.list (SqL.of g2)
        obtain ⟨js2, jv2, jl2, _⟩ := I.list (SqL.of f2)
        have l1 : js1.length = ks.length := by rw [← jv1.length]; exact Paired.length (TreesAt.pair g3)
        have l2 : js2.length = ks'.length := by rw [← jv2.length]; exact Paired.length (TreesAt.pair f3)
        by_cases e : p1 = p2
        · subst e
          rw [g2] at f2
          cases f2
          exact ⟨true, by simp [TreesAt.uniq g3 f3], SeqAt.EqAt.same _⟩
        · by_cases el : ks.length = ks'.length
          · obtain ⟨ef, e1, e2⟩ := eqTs I ks ks' A.in1.in1 vs1 vs2 js1 js2 (by show A.units + 1 + 1 + 2 * dpTs ks < cLine; omega) g3 f3 jv1 jv2
            refine ⟨_, e2 el, SeqAt.EqAt.of_refs e ?_⟩
            have := SeqAt.RcAt.lists (e := ef) jl1.isList jl2.isList (by simp [l1, l2, el]) (show A.in1.units < cLine by show A.units + 1 < cLine; omega) (fun j h1 h2 => by
              have := e1 j (by simpa using h1) (by simpa using h2)
              simpa using this)
            rw [show js1.toArray.size = ks.length by simp [l1]] at this
            exact this
          · exact ⟨false, by simp; intro q; rw [q] at el; exact el rfl, SeqAt.EqAt.of_refs e (SeqAt.RcAt.lists_lengths jl1.isList jl2.isList (by simp [l1, l2, el]) (show A.units + 1 < cLine by omega))⟩
      have rc := SeqAt.RcAt.tuples (A := A) (e := fun j => match j with | 0 => true | 1 => ((r : Int) == (r' : Int)) | _ => c) pl1 pl2 (by omega) (fun j h1 h2 => by
        match j, h1, h2 with
        | 0, _, _ => exact (by simpa using (SeqAt.EqAt.str_str (A := A.in1) (s := s) "node" tw1 "node" tw2))
        | 1, _, _ => exact SeqAt.EqAt.int_int _ ti1 _ ti2
        | 2, _, _ => exact hce)
      have eb : ((List.range (min ([Value.str "node" tw1, Value.int (r : Nat) ti1, Value.ref p1] : List Value).toArray.size ([Value.str "node" tw2, Value.int (r' : Nat) ti2, Value.ref p2] : List Value).toArray.size)).all (fun j => match j with | 0 => true | 1 => ((r : Int) == (r' : Int)) | _ => c) && ([Value.str "node" tw1, Value.int (r : Nat) ti1, Value.ref p1] : List Value).toArray.size == ([Value.str "node" tw2, Value.int (r' : Nat) ti2, Value.ref p2] : List Value).toArray.size) = (((r : Int) == (r' : Int)) && c) := by
        show ((List.range 3).all _ && true) = _
        simp [List.range_succ]
      rw [eb] at rc
      have hb : (((r : Int) == (r' : Int)) && c) = true ↔ K38.T.node r ks = K38.T.node r' ks' := by
        rw [Bool.and_eq_true, beq_iff_eq, hc]
        constructor
        · rintro ⟨h, rfl⟩
          rw [show r = r' by omega]
        · intro h
          cases h
          exact ⟨rfl, rfl⟩
      refine ⟨_, hb, ?_, fun _ => rc⟩
      by_cases e : a1 = a2
      · subst e
        have : K38.T.node r ks = K38.T.node r' ks' := TreeAt.uniq (F := F) (F' := F') (H := H) (v := .ref a1) (by unfold TreeAt; exact ⟨a1, p1, vs1, rfl, n1, g1, g2, g3⟩) (by unfold TreeAt; exact ⟨a1, p2, vs2, rfl, n2, f1, f2, f3⟩)
        rw [hb.mpr this]
        exact SeqAt.EqAt.same _
      · exact SeqAt.EqAt.of_refs e rc
theorem eqTs (I : Inv X pins σ H s) : ∀ (ks ks' : List K38.T) (A : Around) (vs vs' : List V) (us us' : List Value), A.units + 2 * dpTs ks < cLine → TreesAt F H ks vs → TreesAt F' H ks' vs' → Vals vs us → Vals vs' us' →
    ∃ e : Nat → Bool, (∀ j (h1 : j < us.length) (h2 : j < us'.length), SeqAt.EqAt A s us[j] us'[j] (e j)) ∧ (ks.length = ks'.length → ((List.range ks.length).all e = true ↔ ks = ks'))
  | [], ks', A, vs, vs', us, us', hu, h, h', r, r' => by
    unfold TreesAt at h
    subst h
    cases r
    refine ⟨fun _ => true, fun j h1 _ => absurd h1 (by simp), fun e => ?_⟩
    have : ks' = [] := List.eq_nil_of_length_eq_zero (by simpa using e.symm)
    subst this; simp
  | k :: ks, ks', A, vs, vs', us, us', hu, h, h', r, r' => by
    unfold TreesAt at h
    obtain ⟨v, vr, rfl, h1, h2⟩ := h
    cases r with
    | cons ra rb =>
    cases ks' with
    | nil =>
      unfold TreesAt at h'
      subst h'
      cases r'
      exact ⟨fun _ => true, fun j _ h2 => absurd h2 (by simp), fun e => by simp at e⟩
    | cons k' ks' =>
      unfold TreesAt at h'
      obtain ⟨v', vr', rfl, h1', h2'⟩ := h'
      cases r' with
      | cons ra' rb' =>
      have ed : dpTs (k :: ks) = max (dpT k) (dpTs ks) := rfl
      obtain ⟨b, hb, hbe, _⟩ := eqT I k k' A v v' _ _ (by omega) h1 h1' ra ra'
      obtain ⟨e, he1, he2⟩ := eqTs I ks ks' A vr vr' _ _ (by omega) h2 h2' rb rb'
      refine ⟨fun j => match j with | 0 => b | j + 1 => e j, fun j j1 j2 => ?_, fun el => ?_⟩
      · cases j with
        | zero => exact hbe
        | succ j => exact he1 j (by simpa using j1) (by simpa using j2)
      · have el' : ks.length = ks'.length := by simpa using el
        rw [List.length_cons, List.range_succ_eq_map, List.all_cons, List.all_map, Bool.and_eq_true, hb]
        have := he2 el'
        constructor
        · rintro ⟨rfl, q⟩
          rw [this.mp q]
        · intro q
          cases q
          exact ⟨rfl, this.mpr rfl⟩
end
end
def rEqT : R2 := fun x y H Q => ∃ (F F' : Addr → Prop) (k1 k2 : K38.T) (a1 a2 : Addr), x = .ref a1 ∧ y = .ref a2 ∧ TreeAt F H k1 x ∧ TreeAt F' H k2 y ∧ dpT k1 ≤ 200 ∧ ∀ b : Bool, (b = true ↔ k1 = k2) → Q (.bl b) H
theorem op_eqT {X : Cx} (hu : X.A.units + 400 < cLine) : OpR X (compareOp .Eq) rEqT := by
  intro pins s σ H x y v u Q I rx ry h
  obtain ⟨F, F', k1, k2, a1, a2, rfl, rfl, h1, h2, hd, q⟩ := h
  obtain ⟨b, hb, _, rc⟩ := eqT I k1 k2 X.A _ _ v u (by omega) h1 h2 rx ry
  have rc := rc ⟨a1, a2, rfl, rfl⟩
  cases (show v = Value.ref a1 from rx)
  cases (show u = Value.ref a2 from ry)
  exact rc _ _ _ _ ⟨.bl b, H, I, rfl, q b hb⟩
theorem x_eqT {F F' : Addr → Prop} {H : Hp} {Q : VK} {k1 k2 : K38.T} {a1 a2 : Addr} (h1 : TreeAt F H k1 (.ref a1)) (h2 : TreeAt F' H k2 (.ref a2)) (hd : dpT k1 ≤ 200) (q : ∀ b : Bool, (b = true ↔ k1 = k2) → Q (.bl b) H) : rEqT (.ref a1) (.ref a2) H Q := ⟨F, F', k1, k2, a1, a2, rfl, rfl, h1, h2, hd, q⟩
theorem un400 {k : Nat} {A : Around} (hr : Room (k + 20) A) : A.units + 400 < cLine := by have := hr.un; omega
theorem un5 {k : Nat} {A : Around} (hr : Room k A) : A.units + 5 < cLine := by have := hr.un; omega
/-! ### paths -/
def dN (ns : List Nat) : PySem.PyData := .tuple (ns.map fun n => .int (n : Nat))
theorem dN_at {K : PySem.W.Frag} {H : Hp} {a : Addr} {ns : List Nat} (h : H a = some (.tup (nats ns))) : Dp K H (.ref a) (dN ns) := by
  refine .tup (SqT.of h) ?_
  clear h
  induction ns with
  | nil => exact .nil
  | cons n ns ih => exact .cons (.int _) ih
theorem dN_ok (ns : List Nat) : (dN ns).canLay0 = true ∧ (dN ns).depth ≤ 5 := by
  have : PySem.PyData.canLayAll0 (ns.map fun n => .int (n : Nat)) = true ∧ PySem.PyData.depthAll (ns.map fun n => .int (n : Nat)) = 0 := by
    induction ns with
    | nil => exact ⟨rfl, rfl⟩
    | cons n ns ih =>
      refine ⟨?_, ?_⟩
      · show (true && _) = true
        simpa using ih.1
      · show max 0 (PySem.PyData.depthAll _) = 0
        rw [ih.2]; rfl
  exact ⟨this.1, by show PySem.PyData.depthAll _ + 1 ≤ 5; rw [this.2]; omega⟩
theorem dN_eqv : ∀ (ns ms : List Nat), PySem.PyData.eqv (dN ns) (dN ms) = decide (ns = ms) := by
  intro ns ms
  show PySem.PyData.eqvAll (ns.map fun n => .int (n : Nat)) (ms.map fun n => .int (n : Nat)) = _
  induction ns generalizing ms with
  | nil => cases ms <;> simp [PySem.PyData.eqvAll]
  | cons n ns ih =>
    cases ms with
    | nil => simp [PySem.PyData.eqvAll]
    | cons m ms =>
      simp only [List.map_cons]
      rw [PySem.PyData.eqvAll, ih]
      show ((n : Int) == (m : Int) && decide (ns = ms)) = _
      by_cases h : n = m
      · subst h; simp
      · have : ¬ ((n : Int) = (m : Int)) := by omega
        simp [h, this]
theorem x_eqP {K : PySem.W.Frag} {H : Hp} {Q : VK} {a b : Addr} {ns ms : List Nat} (h1 : H a = some (.tup (nats ns))) (h2 : H b = some (.tup (nats ms))) (q : Q (.bl (decide (ns = ms))) H) : rEqN K 5 (.ref a) (.ref b) H Q :=
  ⟨dN ns, dN ms, dN_at h1, dN_at h2, (dN_ok ns).1, (dN_ok ms).1, (dN_ok ns).2, by rw [dN_eqv]; exact q⟩
theorem cutP (ns : List Nat) (n : Nat) : cutV (nats ns) none (some (n : Int)) = nats (ns.take n) := by
  unfold cutV
  rw [HT.sIx_none, HT.sIx_nat]
  simp only [List.drop_zero, Nat.sub_zero]
  unfold nats
  rw [List.map_take]
  by_cases h : n ≤ (ns.map fun e : Nat => V.int (e : Nat)).length
  · rw [Nat.min_eq_left h]
  · rw [Nat.min_eq_right (by omega), List.take_of_length_le (Nat.le_refl _), List.take_of_length_le (by omega)]
/-- path[:n] -/
theorem x_slP {K : PySem.W.Frag} {H : Hp} {Q : VK} {a : Addr} {ns : List Nat} {n : Nat} (h : H a = some (.tup (nats ns))) (q : ∀ H' p, Same H H' → H' p = some (.tup (nats (ns.take n))) → Q (.ref p) H') : rSlA K (.ref a) none (some (n : Int)) H Q := by
  refine x_slA h (fun e => ?_) (fun _ p hp => ?_)
  · refine q H a (Same.refl _) ?_
    rw [h, ← cutP]
    unfold cutV
    rw [e.1, e.2]
    simp
  · refine q _ p (Same.new hp) ?_
    rw [upd_same, cutP]
/-! ### list comprehensions told by what stands in the heap -/
section
variable {K : PySem.W.Frag} {σ : L2.St} {H : Hp} {Q : VK} {te : TE} {g : TG} {tt : TT} {vs : List Nat}
theorem x_lcX {a : Addr} {xs : List V} (h : H a = some (.lst xs)) (R : Nat → Hp → List V → Prop) (h0 : R 0 H []) (hR : ∀ i H H' ws, TK H H' → R i H ws → R i H' ws) (hb : ∀ i H ws, R i H ws → ws.length ≤ 99998)
    (hs : ∀ i x H1 ws (N : V → Hp → Prop) (N' : Hp → Prop), xs[i]? = some x → Same H H1 → R i H1 ws → (∀ y H4, Same H1 H4 → R (i + 1) H4 (ws ++ [y]) → N y H4) → (∀ H3, Same H1 H3 → R (i + 1) H3 ws → N' H3) → LcTurn g tt te vs σ x H1 N N')
    (hd : ∀ D H2 ws, Same H H2 → H D = none → H2 D = some (.lst ws) → R xs.length H2 ws → Q (.ref D) H2) : rLcL K g tt te vs σ Q (.ref a) H := by
  refine ⟨a, rfl, ⟨xs, SqL.of h⟩, fun D hD => ?_⟩
  refine lc_list (K := K) (a := a) (xs := xs) (fun i H' => Same H H' ∧ ∃ ws, H' D = some (.lst ws) ∧ R i H' ws) ⟨Same.new hD, [], upd_same, hR _ _ _ _ (TK.new hD) h0⟩ (fun i H' _ p => SqL.of (p.1 a _ h)) ?_ (fun H' ⟨s, ws, p1, p2⟩ => hd D H' ws s hD p1 p2)
  rintro i x H1 hx ⟨s1, ws, d1, r1⟩
  refine hs i x H1 ws _ _ hx s1 r1 (fun y H4 s4 r4 => ?_) (fun H3 s3 r3 => ?_)
  · have d4 := s4 D _ d1
    exact ⟨ws, d4, small_ (by have := hb _ _ _ r1; omega), Same.mut (s1.trans s4) hD, ws ++ [y], upd_same, hR _ _ _ _ (TK.upd d4 fun _ q => nomatch q) r4⟩
  · exact ⟨s1.trans s3, ws, s3 D _ d1, r3⟩
end
def PathAt (H : Hp) (v : V) (p : List Nat) : Prop := ∃ a, v = .ref a ∧ H a = some (.tup (nats p))
theorem PathAt.tk {H H' : Hp} {v : V} {p : List Nat} (s : TK H H') (h : PathAt H v p) : PathAt H' v p := by
  obtain ⟨a, e, h⟩ := h
  exact ⟨a, e, s _ _ h⟩
def PairAt (H : Hp) (v : V) (q : List Nat × List Nat) : Prop := ∃ a pa pb : Addr, v = .ref a ∧ H a = some (.tup [.ref pa, .ref pb]) ∧ H pa = some (.tup (nats q.1)) ∧ H pb = some (.tup (nats q.2))
theorem PairAt.tk {H H' : Hp} {v : V} {q : List Nat × List Nat} (s : TK H H') (h : PairAt H v q) : PairAt H' v q := by
  obtain ⟨a, pa, pb, e, h1, h2, h3⟩ := h
  exact ⟨a, pa, pb, e, s _ _ h1, s _ _ h2, s _ _ h3⟩
theorem cutTo (xs : List V) (n : Nat) : cutV xs none (some (n : Int)) = xs.take n := by
  unfold cutV
  rw [HT.sIx_none, HT.sIx_nat]
  simp only [List.drop_zero, Nat.sub_zero]
  by_cases h : n ≤ xs.length
  · rw [Nat.min_eq_left h]
  · rw [Nat.min_eq_right (by omega), List.take_of_length_le (Nat.le_refl _), List.take_of_length_le (by omega)]
theorem Paired.take {α β : Type} {F : α → β → Prop} : ∀ {l₁ : List α} {l₂ : List β} (n : Nat), Paired F l₁ l₂ → Paired F (l₁.take n) (l₂.take n)
  | _, _, 0, _ => by simpa using Paired.nil
  | _, _, _ + 1, .nil => .nil
  | _, _, n + 1, .cons r t => .cons r (Paired.take n t)
theorem candL_snoc (x : LRow) (L : List LRow) (o : LRow) : candL x (L ++ [o]) = candL x L ++ (if hit x o = true then [o.1] else []) := by
  unfold candL
  rw [List.filter_append, List.map_append]
  congr 1
  by_cases h : hit x o = true
  · simp [h]
  · simp [h]
theorem sameX_tk {rl : Addr} {H H' : Hp} {ws : List V} (hr : H rl = some (.lst ws)) (X : SameX rl H H') : TK H H' := fun b xs h => X _ _ (fun e => by rw [e, hr] at h; cases h) h
section
variable {P : Program} {w : World} {K : PySem.W.Frag} {mg : Str → Option Value} {base : Heap}
/-- two trees and an edit -/
structure KArg (H : Hp) (F : Addr → Prop) (t : K38.T) (v : V) : Prop where
  at_ : TreeAt F H t v
  n : ∃ r ks, t = .node r ks
  d : dpT t < 196
  wf : wfT t
  s : szT t ≤ 1000
  m : nnT t ≤ 1000
def spKept : Sp := fun vs H Q _ => ∃ (F : Addr → Prop) (old new : K38.T) (v1 v2 : V) (ed : Addr) (a r : Nat) (y : Str), vs = [v1, v2, .ref ed] ∧ KArg H F old v1 ∧ KArg H F new v2 ∧ H ed = some (.tup [.int (a : Nat), .int (r : Nat), .str y]) ∧ y.length ≤ 1000 ∧
  ∀ H' p ws, Same H H' → H' p = some (.lst ws) → Paired (PairAt H') ws (keptM a r y.length (lnod old [] 0) (lnod new [] 0)) → Q (.ref p) H'
theorem ok_lkept (T : TX K mg) (G_law_nodes : FnD P w K mg base CX0 398 T.f_law_nodes T.d_law_nodes ["_law_one", "_law_path", "_law_start"] (spLN 196)) :
    FnOk P w K mg base CX0 171 T.f_law_kept T.d_law_kept ["_law_old", "_law_new", "_law_edit_here"] spKept := by
  refine T.F_law_kept.ok sc_law_kept (fun vs H Q E h => ?_) (fun cdv A outer s H vs Q E hr h => ?_)
  · obtain ⟨F, old, new, v1, v2, ed, a, r, y, rfl, _⟩ := h
    rfl
  obtain ⟨F, old, new, v1, v2, ed, a, r, y, rfl, B1, B2, hed, hy, k⟩ := h
  refine ⟨_, (pss_cons (ps_set (i := 3) sc_law_kept.nd rfl (Or.inl rfl) (pe_op op_add (pe_ix (kx_tup K) (pv 2) pe_int (fun _ _ => rfl)) (pe_ix (kx_tup K) (pv 2) pe_int (fun _ _ => rfl))))
  (pss_cons (ps_set (i := 4) sc_law_kept.nd rfl (Or.inl rfl) (pe_op op_sub (pe_callB cl_lenS (by rfl) T.z_len (by decide +kernel) (pa_cons (pe_ix (kx_tup K) (pv 2) pe_int (fun _ _ => rfl)) pa_nil)) (pe_ix (kx_tup K) (pv 2) pe_int (fun _ _ => rfl))))
  (pss_cons (ps_set (i := 5) sc_law_kept.nd rfl (Or.inl rfl) (pe_lst pa_nil))
  (pss_cons (ps_for PassesOwn.never rfl (kpi_list K (pe_callD G_law_nodes (RmD.of hr (by decide) (by decide)) (by rfl) T.m_law_nodes T.F_law_nodes.kp T.b_law_nodes .nil pass0 (pa_cons (pv 0) (pa_cons (pe_tup pa_nil) (pa_cons pe_int pa_nil))))) (kpg_tup K 4 rfl (pgs_cons (pg_name (i := 6) sc_law_kept.nd rfl (Or.inr rfl)) (pgs_cons (pg_name (i := 7) sc_law_kept.nd rfl (Or.inr rfl)) (pgs_cons (pg_name (i := 8) sc_law_kept.nd rfl (Or.inr rfl)) (pgs_cons (pg_name (i := 9) sc_law_kept.nd rfl (Or.inr rfl)) pgs_nil)))))
  (pss_one (ps_if (PW.pt (pw_or (pt_cmpR op_le (pv 9) (pe_ix (kx_tup K) (pv 2) pe_int (fun _ _ => rfl)) (nomark _)) (pw_or1 (pt_cmpR op_ge (pv 8) (pv 3) (nomark _)))))
  (pss_one (ps_expr (kbm K (pe_bm PySem.F.plainAttrs_list PySem.F.slot_list_append PySem.F.type_list_append mt_append (pv 5) (pa_cons (pe_tup (pa_cons (pv 6) (pa_cons (pv 7) (pa_cons (pe_ifExp (pt_cmpR op_le (pv 9) (pe_ix (kx_tup K) (pv 2) pe_int (fun _ _ => rfl)) (nomark _)) (pv 8) (pe_op op_add (pv 8) (pv 4))) (pa_cons (pe_ifExp (pt_cmpR op_le (pv 9) (pe_ix (kx_tup K) (pv 2) pe_int (fun _ _ => rfl)) (nomark _)) (pv 9) (pe_op op_add (pv 9) (pv 4))) pa_nil))))) pa_nil)))))
  pss_nil)))
  (pss_cons (ps_set (i := 10) sc_law_kept.nd rfl (Or.inl rfl) (pe_lst pa_nil))
  (pss_cons (ps_for PassesOwn.never rfl (kpi_list K (pe_callD G_law_nodes (RmD.of hr (by decide) (by decide)) (by rfl) T.m_law_nodes T.F_law_nodes.kp T.b_law_nodes .nil pass0 (pa_cons (pv 1) (pa_cons (pe_tup pa_nil) (pa_cons pe_int pa_nil))))) (kpg_tup K 4 rfl (pgs_cons (pg_name (i := 6) sc_law_kept.nd rfl (Or.inr rfl)) (pgs_cons (pg_name (i := 7) sc_law_kept.nd rfl (Or.inr rfl)) (pgs_cons (pg_name (i := 8) sc_law_kept.nd rfl (Or.inr rfl)) (pgs_cons (pg_name (i := 9) sc_law_kept.nd rfl (Or.inr rfl)) pgs_nil)))))
  (pss_one (ps_if (pt_not (pt_val (pe_callB (kc_any K rfl) (by rfl) T.z_any (by decide +kernel) (pa_cons (pe_lc (own := [("_law_pair", 12)]) (by rfl) sc_law_kept.nd (kpi_list K (pv 10)) (blkOk_by (N := ["_law_old", "_law_new", "_law_edit_here", "_law_behind", "_law_shift", "_law_rows", "_law_path", "_law_one", "_law_start", "_law_end", "_law_found", "_law_same_here", "_law_pair", "_law_row", "_law_first_here"]) (sc := (defScope s_law_kept)) (by decide +kernel)) (fun _ _ _ _ _ => (pg_name (i := 12) sc_law_kept.nd rfl (Or.inl rfl))) (fun _ _ _ _ _ => pts_nil) (fun _ _ _ _ _ => (pe_cmpR (op_eqN K 5 (un5 hr)) (pe_slice (ksl_tup K) (pv 6) po_none (po_some (pe_callB (kl_len K) (by rfl) T.z_len (by decide +kernel) (pa_cons (pe_ix (kx_tup K) (pv 12) pe_int (fun _ _ => rfl)) pa_nil)))) (pe_ix (kx_tup K) (pv 12) pe_int (fun _ _ => rfl)) (nomark _)))) pa_nil))))
  (pss_cons (ps_setLc (i := 11) (own := [("_law_row", 13)]) (by rfl) sc_law_kept.nd rfl rfl (sw_true rfl rfl rfl (by decide +kernel)) (kpi_list K (pv 5)) (blkOk_by (N := ["_law_old", "_law_new", "_law_edit_here", "_law_behind", "_law_shift", "_law_rows", "_law_path", "_law_one", "_law_start", "_law_end", "_law_found", "_law_same_here", "_law_pair", "_law_row", "_law_first_here"]) (sc := (defScope s_law_kept)) (by decide +kernel)) (fun _ _ _ _ _ => (pg_name (i := 13) sc_law_kept.nd rfl (Or.inl rfl))) (fun _ _ _ _ _ => (pts_one (PW.pt (pw_and (pt_cmpR op_eq (pe_ix (kx_tup K) (pv 13) pe_int (fun _ _ => rfl)) (pv 8) (nomark _)) (pw_and (pt_cmpR op_eq (pe_ix (kx_tup K) (pv 13) pe_int (fun _ _ => rfl)) (pv 9) (nomark _)) (pw_and1 (pt_cmpR (op_eqT (un400 hr)) (pe_ix (kx_tup K) (pv 13) pe_int (fun _ _ => rfl)) (pv 7) (nomark _)))))))) (fun _ _ _ _ _ => (pe_ix (kx_tup K) (pv 13) pe_int (fun _ _ => rfl))))
  (pss_one (ps_expr (kbm K (pe_bm PySem.F.plainAttrs_list PySem.F.slot_list_extend PySem.F.type_list_extend mt_extend (pv 10) (pa_cons (pe_lc (own := [("_law_first_here", 14)]) (by rfl) sc_law_kept.nd (kpi_list K (pe_slice (ksl_list K) (pv 11) po_none (po_some pe_int))) (blkOk_by (N := ["_law_old", "_law_new", "_law_edit_here", "_law_behind", "_law_shift", "_law_rows", "_law_path", "_law_one", "_law_start", "_law_end", "_law_found", "_law_same_here", "_law_pair", "_law_row", "_law_first_here"]) (sc := (defScope s_law_kept)) (by decide +kernel)) (fun _ _ _ _ _ => (pg_name (i := 14) sc_law_kept.nd rfl (Or.inl rfl))) (fun _ _ _ _ _ => pts_nil) (fun _ _ _ _ _ => (pe_tup (pa_cons (pv 14) (pa_cons (pv 6) pa_nil))))) pa_nil))))))
  pss_nil)))
  (pss_one (ps_ret (pv 10))))))))), ?_⟩
  obtain ⟨t1, ⟨r1, ks1, e1⟩, d1, w1, z1, m1⟩ := B1
  obtain ⟨t2, ⟨r2, ks2, e2⟩, d2, w2, z2, m2⟩ := B2
  have hyl : y.length ≤ sizeLine := small__ (by omega)
  walk_at "go"
  refine ⟨Nat.zero_le _, fun R hR => ?_⟩
  walk_at "go"
  refine ⟨Nat.zero_le _, fun q0 hq0 => ?_⟩
  walk_at "go"
  have s1 : Same H (upd (upd H R (.lst [])) q0 (.tup [])) := (Same.new hR).trans (Same.new hq0)
  have hR1 : (upd (upd H R (.lst [])) q0 (.tup [])) R = some (.lst []) := look1 upd_same hq0
  have t1' : TreeAt (fun b => b = R) H old v1 := TreeAt.wide (fun b hb hn => by rw [hb] at hn; exact absurd hR hn) t1
  refine ⟨fun b => b = R, q0, old, v1, [], 0, rfl, t1'.s s1, ⟨_, _, e1⟩, by omega, by omega, w1, z1, upd_same, by simp only [List.length_nil]; omega, by omega, fun H2 ln vs1 s2 _ hln P1 => ?_⟩
  have hR2 := s2 _ _ hR1
  have n1 : vs1.length ≤ 1000 := by rw [Paired.length P1, lnod_len]; exact m1
  have s02 := s1.trans s2
  have hed2 := s02 _ _ hed
  have nlR : ln ≠ R := fun e => by
    have h1 := Paired.length P1
    rw [lnod_len] at h1
    rw [e, hR2] at hln
    cases hln
    rw [e1] at h1
    simp [nnT] at h1
  have ned : ∀ {b xs}, H2 b = some (.tup xs) → b ≠ R := fun h e => by rw [e, hR2] at h; cases h
  walk_at "go"
  refine x_forLR hln (fun j σ H' => ∃ (v6 v7 v8 v9 : Option V) (ws : List V), σ = [some v1, some v2, some (.ref ed), some (.int ((a : Int) + (r : Nat))), some (.int ((y.length : Int) - (r : Nat))), some (.ref R), v6, v7, v8, v9, none, none, none, none, none] ∧ SameX R H2 H' ∧ H' R = some (.lst ws) ∧ Paired (LRAt (fun b => b = R) H') ws (((lnod old [] 0).take j).filterMap (sRow a r y.length)))
    ⟨none, none, none, none, [], rfl, fun _ _ _ h => h, hR2, .nil⟩ (fun j σ H' _ ⟨_, _, _, _, _, _, X, _⟩ => X _ _ nlR hln) ?_ ?_
  · rintro j x σ H3 hx ⟨v6, v7, v8, v9, ws, rfl, X3, hR3, P3⟩
    obtain ⟨o, ho, b, pb, ub, rfl, g1, g2, g3⟩ := Paired.at' P1 hx
    have hmem := List.mem_of_getElem? ho
    obtain ⟨o1, o2, o3, o4⟩ := lnod_top hmem
    obtain ⟨op, oT, os, oe⟩ := o
    dsimp only at g1 g2 g3 o1 o2 o3 o4
    have g1' := X3 _ _ (ned g1) g1
    have g2' := X3 _ _ (ned g2) g2
    have hed3 := X3 _ _ (ned hed2) hed2
    have g3' := TreeAt.sx (F := fun b => b = R) hR2 rfl X3 g3
    have ep : (lnod old [] 0).take (j + 1) = (lnod old [] 0).take j ++ [(op, oT, os, oe)] := take_more ho
    have wsl : ws.length ≤ 1000 := by
      rw [Paired.length P3]
      refine Nat.le_trans (List.length_filterMap_le _ _) ?_
      rw [List.length_take, lnod_len]; omega
    have fin : ∀ (s' e' : Nat) (H4 : Hp) (q : Addr), mv a r y.length os oe = some (s', e') → H3 q = none → H4 = upd H3 q (.tup [.ref pb, .ref ub, .int (s' : Nat), .int (e' : Nat)]) →
        (SameX R H2 (upd H4 R (.lst (ws ++ [.ref q]))) ∧ (upd H4 R (.lst (ws ++ [.ref q]))) R = some (.lst (ws ++ [.ref q])) ∧ Paired (LRAt (fun b => b = R) (upd H4 R (.lst (ws ++ [.ref q])))) (ws ++ [.ref q]) (((lnod old [] 0).take (j + 1)).filterMap (sRow a r y.length))) := fun s' e' H4 q hm hq e4 => by
      subst e4
      have sq : Same H3 (upd H3 q (.tup [.ref pb, .ref ub, .int (s' : Nat), .int (e' : Nat)])) := Same.new hq
      have hR4 := sq _ _ hR3
      have X4 : SameX R (upd H3 q (.tup [.ref pb, .ref ub, .int (s' : Nat), .int (e' : Nat)])) (upd (upd H3 q (.tup [.ref pb, .ref ub, .int (s' : Nat), .int (e' : Nat)])) R (.lst (ws ++ [.ref q]))) := SameX.upd
      refine ⟨(X3.trans (SameX.of sq)).trans X4, upd_same, ?_⟩
      have em : sRow a r y.length (op, oT, os, oe) = some (op, oT, s', e') := by unfold sRow; rw [hm]; rfl
      rw [ep, List.filterMap_append, List.filterMap_cons_some em, List.filterMap_nil]
      refine Paired.snoc' ?_ (Paired.imp (fun _ _ h => (h.s sq).sx hR4 rfl X4) P3)
      have nqR : q ≠ R := fun e => by rw [e, hR3] at hq; cases hq
      refine LRAt.sx hR4 rfl X4 ⟨q, pb, ub, rfl, upd_same, sq _ _ g2', g3'.s sq⟩
    have out : mv a r y.length os oe = none → Paired (LRAt (fun b => b = R) H3) ws (((lnod old [] 0).take (j + 1)).filterMap (sRow a r y.length)) := fun hm => by
      have em : sRow a r y.length (op, oT, os, oe) = none := by unfold sRow; rw [hm]; rfl
      rw [ep, List.filterMap_append, List.filterMap_cons_none em, List.filterMap_nil, List.append_nil]
      exact P3
    walk_at "go"
    by_cases c1 : oe ≤ a
    · have hm : mv a r y.length os oe = some (os, oe) := by unfold mv; rw [if_pos c1]
      rw [decide_eq_true (show ((oe : Nat) : Int) ≤ (a : Nat) by omega)]
      refine iteT ?_
      refine iteT ?_
      walk_at "go"
      rw [decide_eq_true (show ((oe : Nat) : Int) ≤ (a : Nat) by omega)]
      refine iteT ?_
      walk_at "go"
      rw [decide_eq_true (show ((oe : Nat) : Int) ≤ (a : Nat) by omega)]
      refine iteT ?_
      walk_at "go"
      refine ⟨by show 4 ≤ sizeLine; decide, fun q hq => ?_⟩
      obtain ⟨f1, f2, f3⟩ := fin os oe _ q hm hq rfl
      walk_at "go"
      refine x_append (look1 hR3 hq) (small_ (by omega)) ?_
      exact ⟨_, _, _, _, _, rfl, f1, f2, f3⟩
    · rw [decide_eq_false (show ¬ ((oe : Nat) : Int) ≤ (a : Nat) by omega)]
      refine iteF ?_
      walk_at "go"
      by_cases c2 : a + r ≤ os
      · have hm : mv a r y.length os oe = some (os + y.length - r, oe + y.length - r) := by unfold mv; rw [if_neg c1, if_pos c2]
        rw [decide_eq_true (show ((a : Nat) : Int) + (r : Nat) ≤ (os : Nat) by omega)]
        refine iteT ?_
        walk_at "go"
        rw [decide_eq_false (show ¬ ((oe : Nat) : Int) ≤ (a : Nat) by omega)]
        refine iteF ?_
        walk_at "go"
        rw [decide_eq_false (show ¬ ((oe : Nat) : Int) ≤ (a : Nat) by omega)]
        refine iteF ?_
        walk_at "go"
        rw [show ((os : Nat) : Int) + ((y.length : Int) - (r : Nat)) = ((os + y.length - r : Nat) : Int) by omega, show ((oe : Nat) : Int) + ((y.length : Int) - (r : Nat)) = ((oe + y.length - r : Nat) : Int) by omega]
        refine ⟨by show 4 ≤ sizeLine; decide, fun q hq => ?_⟩
        obtain ⟨f1, f2, f3⟩ := fin _ _ _ q hm hq rfl
        walk_at "go"
        refine x_append (look1 hR3 hq) (small_ (by omega)) ?_
        exact ⟨_, _, _, _, _, rfl, f1, f2, f3⟩
      · have hm : mv a r y.length os oe = none := by unfold mv; rw [if_neg c1, if_neg c2]
        rw [decide_eq_false (show ¬ ((a : Nat) : Int) + (r : Nat) ≤ (os : Nat) by omega)]
        refine iteF ?_
        walk_at "go"
        exact ⟨_, _, _, _, _, rfl, X3, hR3, out hm⟩
  · rintro σ H3 ⟨v6, v7, v8, v9, ws, rfl, X3, hR3, P3⟩
    rw [Paired.length P1, List.take_length] at P3
    generalize hSR : (lnod old [] 0).filterMap (sRow a r y.length) = SR at P3
    have wsl : ws.length ≤ 1000 := by
      rw [Paired.length P3, ← hSR]
      refine Nat.le_trans (List.length_filterMap_le _ _) ?_
      rw [lnod_len]; omega
    have s03 : Same H H3 := fun b o h => X3 _ _ (fun e => by rw [e, hR] at h; cases h) (s02 _ _ h)
    walk_at "go"
    refine ⟨Nat.zero_le _, fun Fd hFd => ?_⟩
    walk_at "go"
    refine ⟨Nat.zero_le _, fun q1 hq1 => ?_⟩
    walk_at "go"
    have s4 : Same H3 (upd (upd H3 Fd (.lst [])) q1 (.tup [])) := (Same.new hFd).trans (Same.new hq1)
    have hF4 : (upd (upd H3 Fd (.lst [])) q1 (.tup [])) Fd = some (.lst []) := look1 upd_same hq1
    have t2' : TreeAt (fun b => b = Fd) H3 new v2 := TreeAt.wide (F := F) (fun b hb hn => by rw [hb] at hn; exact absurd hFd hn) (t2.s s03)
    refine ⟨fun b => b = Fd, q1, new, v2, [], 0, rfl, t2'.s s4, ⟨_, _, e2⟩, by omega, by omega, w2, z2, upd_same, by simp only [List.length_nil]; omega, by omega, fun H5 ln2 vs2 s5 _ hln2 P5 => ?_⟩
    have s35 := s4.trans s5
    have hF5 := s5 _ _ hF4
    have hR5 := s35 _ _ hR3
    have n2 : vs2.length ≤ 1000 := by rw [Paired.length P5, lnod_len]; exact m2
    have nlF : ln2 ≠ Fd := fun e => by
      have h1 := Paired.length P5
      rw [lnod_len] at h1
      rw [e, hF5] at hln2
      cases hln2
      rw [e2] at h1
      simp [nnT] at h1
    have nRF : R ≠ Fd := fun e => by rw [e, hFd] at hR3; cases hR3
    have PR5 : Paired (LRAt (fun b => b = Fd) H5) ws SR := Paired.imp (fun _ _ h => (h.weak (fun b hb hn => by rw [hb] at hn; exact absurd hFd hn)).s s35) P3
    walk_at "go"
    refine x_forLR hln2 (fun j σ H' => ∃ (v6 v7 v8 v9 v11 : Option V) (fs : List V), σ = [some v1, some v2, some (.ref ed), some (.int ((a : Int) + (r : Nat))), some (.int ((y.length : Int) - (r : Nat))), some (.ref R), v6, v7, v8, v9, some (.ref Fd), v11, none, none, none] ∧ SameX Fd H5 H' ∧ H' Fd = some (.lst fs) ∧ Paired (PairAt H') fs (((lnod new [] 0).take j).foldl (kStep a r y.length (lnod old [] 0)) []))
      ⟨v6, v7, v8, v9, none, [], rfl, fun _ _ _ h => h, hF5, .nil⟩ (fun j σ H' _ ⟨_, _, _, _, _, _, _, X, _⟩ => X _ _ nlF hln2) ?_ ?_
    · rintro j x σ H6 hx ⟨v6, v7, v8, v9, v11, fs, rfl, X6, hF6, P6⟩
      obtain ⟨o, ho, hoA⟩ := Paired.at' P5 hx
      have hoA6 := LRAt.sx (F := fun b => b = Fd) hF5 rfl X6 hoA
      obtain ⟨b, pb, ub, rfl, g1, g2, g3⟩ := hoA6
      have hmem := List.mem_of_getElem? ho
      obtain ⟨o1, o2, o3, o4, o5, o6⟩ := lnod_top hmem
      have ep : (lnod new [] 0).take (j + 1) = (lnod new [] 0).take j ++ [o] := take_more ho
      have stl : (((lnod new [] 0).take j).foldl (kStep a r y.length (lnod old [] 0)) []).length ≤ 1000 := by
        have := kfold_len a r y.length (lnod old [] 0) ((lnod new [] 0).take j) []
        rw [List.length_take, lnod_len] at this
        simp only [List.length_nil] at this
        omega
      have est : ((lnod new [] 0).take (j + 1)).foldl (kStep a r y.length (lnod old [] 0)) [] = kStep a r y.length (lnod old [] 0) (((lnod new [] 0).take j).foldl (kStep a r y.length (lnod old [] 0)) []) o := by rw [ep, List.foldl_append]; rfl
      generalize ((lnod new [] 0).take j).foldl (kStep a r y.length (lnod old [] 0)) [] = st at P6 stl est
      obtain ⟨op, oT, os, oe⟩ := o
      dsimp only at g1 g2 g3 o1 o2 o3 o4 o5 o6
      have fl := Paired.length P6
      walk_at "go"
      refine x_lcP hF6 (fun i => ((st.take i).map fun q => decide (op.take q.2.length = q.2)).map V.bl) (by simp) (fun i hi => by rw [List.length_map, List.length_map, List.length_take]; omega) (fun i x7 H7 N1 N2 hx7 s7 k1 k2 => ?_) (fun D H7 s7 hD hDv => ?_)
      · obtain ⟨q, hq, c, pc, qc, rfl, f1, f2, f3⟩ := Paired.at' P6 hx7
        have f1' := s7 _ _ f1
        have f3' := s7 _ _ f3
        have g2' := s7 _ _ g2
        unfold LcTurn
        walk_at "go"
        refine ⟨rfl, ?_⟩
        walk_at "go"
        refine x_lenT f3' ?_
        rw [show (nats q.2).length = q.2.length by simp [nats]]
        refine x_partR ?_
        refine x_slP g2' fun H8 p8 s8 h8 => ?_
        have f1'' := s8 _ _ f1'
        walk_at "go"
        refine x_eqP h8 (s8 _ _ f3') ?_
        refine k1 _ _ s8 ?_
        rw [take_more hq, List.map_append, List.map_append]
        rfl
      · rw [fl, List.take_length] at hDv
        walk_at "go"
        refine x_any hDv ?_
        have eu : ((st.map fun q => decide (op.take q.2.length = q.2)).any id) = under st op := by unfold under; rw [List.any_map]; rfl
        rw [eu]
        walk_at "go"
        have X7 := X6.trans (SameX.of s7)
        have hF7 := s7 _ _ hF6
        have P7 := Paired.imp (fun _ _ h => PairAt.tk (same_tk s7) h) P6
        cases hu : under st op with
        | true =>
          refine iteF ?_
          walk_at "go"
          refine ⟨_, _, _, _, _, fs, rfl, X7, hF7, ?_⟩
          rw [est]
          unfold kStep
          rw [if_pos hu]
          exact P7
        | false =>
          refine iteT ?_
          have hR7 : H7 R = some (.lst ws) := s7 _ _ (X6 _ _ nRF hR5)
          have PR7 : Paired (LRAt (fun b => b = Fd) H7) ws SR := Paired.imp (fun _ _ h => h.sx hF5 rfl X7) PR5
          have g2' := s7 _ _ g2
          have g3' := g3.s s7
          walk_at "go"
          refine x_lcX hR7 (fun i H ws => Paired (PathAt H) ws (candL (op, oT, os, oe) (SR.take i))) .nil (fun i H H' ws tk h => Paired.imp (fun _ _ h => h.tk tk) h) (fun i H us h => ?_) (fun i x8 H8 us N N' hx8 s8 P8 k1 k2 => ?_) (fun D2 H8 cs s8 hD2 hD2v PC => ?_)
          · rw [Paired.length h]
            unfold candL
            rw [List.length_map]
            refine Nat.le_trans (List.length_filter_le _ _) ?_
            rw [List.length_take, ← Paired.length PR7]; omega
          · obtain ⟨c, hc, hcA⟩ := Paired.at' PR7 hx8
            obtain ⟨b8, pb8, ub8, rfl, f1, f2, f3⟩ := hcA.s s8
            obtain ⟨cp, cT, cs, ce⟩ := c
            dsimp only at f1 f2 f3
            have et : SR.take (i + 1) = SR.take i ++ [(cp, cT, cs, ce)] := take_more hc
            have no : ¬ (cs = os ∧ ce = oe ∧ cT = oT) → ∀ H9, Same H8 H9 → N' H9 := fun hn H9 s9 => by
              refine k2 H9 s9 ?_
              rw [et, candL_snoc, if_neg (by unfold hit; simpa using hn), List.append_nil]
              exact Paired.imp (fun _ _ h => h.tk (same_tk s9)) P8
            unfold LcTurn
            walk_at "go"
            refine ⟨rfl, ?_⟩
            walk_at "go"
            by_cases c1 : cs = os
            · rw [decide_eq_true (show ((cs : Nat) : Int) = (os : Nat) by omega)]
              refine iteT ?_
              walk_at "go"
              by_cases c2 : ce = oe
              · rw [decide_eq_true (show ((ce : Nat) : Int) = (oe : Nat) by omega)]
                refine iteT ?_
                walk_at "go"
                refine x_eqT f3 (g3'.s s8) (by
                  have hcm := List.mem_of_getElem? hc
                  rw [← hSR] at hcm
                  obtain ⟨oo, hoo, hs⟩ := List.mem_filterMap.mp hcm
                  obtain ⟨_, _, _, _, q5, _⟩ := lnod_top hoo
                  unfold sRow at hs
                  obtain ⟨se, _, e⟩ := Option.map_eq_some_iff.mp hs
                  cases e
                  omega) (fun b hb => ?_)
                walk_at "go"
                cases b with
                | true =>
                  refine iteT ?_
                  walk_at "go"
                  refine k1 _ _ (Same.refl _) ?_
                  rw [et, candL_snoc, if_pos (by unfold hit; simp [c1, c2, hb.mp rfl])]
                  exact Paired.snoc' ⟨pb8, rfl, f2⟩ P8
                | false =>
                  refine iteF ?_
                  exact no (fun q => by have := hb.mpr q.2.2; cases this) _ (Same.refl _)
              · rw [decide_eq_false (show ¬ ((ce : Nat) : Int) = (oe : Nat) by omega)]
                refine iteF ?_
                refine iteF ?_
                exact no (fun q => c2 q.2.1) _ (Same.refl _)
            · rw [decide_eq_false (show ¬ ((cs : Nat) : Int) = (os : Nat) by omega)]
              refine iteF ?_
              refine iteF ?_
              exact no (fun q => c1 q.1) _ (Same.refl _)
          · rw [Paired.length PR7, List.take_length] at PC
            rw [← hSR, ← cands_eq] at PC
            have hF8 := s8 _ _ hF7
            walk_at "go"
            refine x_slL hD2v (fun sp hsp => ?_)
            rw [show (1 : Int) = ((1 : Nat) : Int) from rfl, cutTo]
            have s9 : Same H8 (upd H8 sp (.lst (cs.take 1))) := Same.new hsp
            have PC1 : Paired (PathAt (upd H8 sp (.lst (cs.take 1)))) (cs.take 1) ((cands a r y.length (lnod old [] 0) (op, oT, os, oe)).take 1) := Paired.take 1 (Paired.imp (fun _ _ h => h.tk (same_tk s9)) PC)
            have g2'' := s9 _ _ (s8 _ _ g2')
            walk_at "go"
            refine x_lcX upd_same (fun i H us => Paired (PairAt H) us ((((cands a r y.length (lnod old [] 0) (op, oT, os, oe)).take 1).take i).map fun p => (p, op))) .nil (fun i H H' ws tk h => Paired.imp (fun _ _ h => h.tk tk) h) (fun i H us h => ?_) (fun i x9 H9 us N N' hx9 s10 P9 k1 k2 => ?_) (fun D3 H9 us s10 hD3 hD3v P9 => ?_)
            · rw [Paired.length h, List.length_map, List.length_take, List.length_take]; omega
            · obtain ⟨cp, hcp, pa9, rfl, f1⟩ := Paired.at' PC1 hx9
              have f1' := s10 _ _ f1
              have g2a := s10 _ _ g2''
              unfold LcTurn
              walk_at "go"
              refine ⟨rfl, ?_⟩
              walk_at "go"
              refine ⟨by show 2 ≤ sizeLine; decide, fun q9 hq9 => ?_⟩
              have s11 : Same H9 (upd H9 q9 (.tup [.ref pa9, .ref pb])) := Same.new hq9
              refine k1 _ _ s11 ?_
              rw [take_more hcp, List.map_append]
              exact Paired.snoc' ⟨q9, pa9, pb, rfl, upd_same, s11 _ _ f1', s11 _ _ g2a⟩ (Paired.imp (fun _ _ h => h.tk (same_tk s11)) P9)
            · rw [Paired.length PC1, List.take_length] at P9
              have hF9 := s10 _ _ (s9 _ _ hF8)
              have hul : us.length ≤ 1 := by rw [Paired.length P9, List.length_map, List.length_take]; omega
              walk_at "go"
              refine x_extend hF9 hD3v (small__ (by omega)) ?_
              have sx : Same H7 H9 := s8.trans (s9.trans s10)
              have tk9 : TK H9 (upd H9 Fd (.lst (fs ++ us))) := TK.upd hF9 fun _ q => nomatch q
              refine ⟨_, _, _, _, _, fs ++ us, rfl, (X7.trans (SameX.of sx)).trans SameX.upd, upd_same, ?_⟩
              rw [est]
              unfold kStep
              rw [if_neg (by rw [hu]; simp)]
              exact Paired.app (Paired.imp (fun _ _ h => (h.tk (same_tk sx)).tk tk9) P7) (Paired.imp (fun _ _ h => h.tk tk9) P9)
    · rintro σ H6 ⟨v6, v7, v8, v9, v11, fs, rfl, X6, hF6, P6⟩
      rw [Paired.length P5, List.take_length] at P6
      walk_at "go"
      exact k H6 Fd fs (fun b o h => X6 _ _ (fun e => by rw [e] at h; have := s03 _ _ h; rw [hFd] at this; cases this) (s35 _ _ (s03 _ _ h))) hF6 P6
end
theorem hu2 {k : Nat} {A : Around} (hr : Room k A) : A.units + 2 < cLine := by have := hr.un; omega
theorem valV_pl {ks : List I3} {f : I3 → Addr} {k : I3} : valV (ks.map fun k => (kI k, V.ref (f k))) (kI k) = if k ∈ ks then some (.ref (f k)) else none := by
  induction ks with
  | nil => simp [valV_nil]
  | cons y ks ih =>
    rw [List.map_cons]
    by_cases e : y = k
    · subst e
      rw [valV_pos rfl, if_pos (by simp)]
    · rw [valV_neg (by intro q; exact e (kI_inj q)), ih]
      have : (k ∈ y :: ks) ↔ k ∈ ks := by simp [Ne.symm e]
      by_cases c : k ∈ ks
      · rw [if_pos c, if_pos (this.mpr c)]
      · rw [if_neg c, if_neg (fun q => c (this.mp q))]
theorem byKey_snoc (a r y : Nat) (L : List LRow) (o : LRow) (k : I3) : byKey a r y (L ++ [o]) k = byKey a r y L k ++ (if keyR a r y o = some k then [o] else []) := by
  unfold byKey
  rw [List.filter_append]
  congr 1
  by_cases h : keyR a r y o = some k
  · simp [h]
  · simp [h]
/-- the old nodes' paths by rule and stretch -/
structure PlA (B H : Hp) (pl : Addr) (a r y : Nat) (L : List LRow) : Prop where
  s : Same B H
  npl : B pl = none
  d : ∃ (ks : List I3) (f : I3 → Addr), H pl = some (.dT (ks.map fun k => (kI k, V.ref (f k)))) ∧ ks.length ≤ L.length ∧ (∀ k ∈ ks, ∀ k' ∈ ks, f k = f k' → k = k') ∧ (∀ k ∈ ks, B (f k) = none) ∧ (∀ k, k ∉ ks → byKey a r y L k = []) ∧
    ∀ k ∈ ks, ∃ vs, H (f k) = some (.lst vs) ∧ Paired (PathAt H) vs ((byKey a r y L k).map (·.1))
theorem PlA.more {B H H' : Hp} {pl : Addr} {a r y : Nat} {L : List LRow} (A : PlA B H pl a r y L) (s : Same H H') : PlA B H' pl a r y L := by
  obtain ⟨h1, h2, ks, f, d1, d2, d3, d4, d5, d6⟩ := A
  refine ⟨h1.trans s, h2, ks, f, s _ _ d1, d2, d3, d4, d5, fun k hk => ?_⟩
  obtain ⟨vs, q1, q2⟩ := d6 k hk
  exact ⟨vs, s _ _ q1, Paired.imp (fun _ _ h => h.tk (same_tk s)) q2⟩
theorem PlA.out {B H : Hp} {pl : Addr} {a r y : Nat} {L : List LRow} {o : LRow} (A : PlA B H pl a r y L) (hk : keyR a r y o = none) : PlA B H pl a r y (L ++ [o]) := by
  obtain ⟨h1, h2, ks, f, d1, d2, d3, d4, d5, d6⟩ := A
  have e : ∀ k, byKey a r y (L ++ [o]) k = byKey a r y L k := fun k => by rw [byKey_snoc, if_neg (by rw [hk]; simp), List.append_nil]
  exact ⟨h1, h2, ks, f, d1, by rw [List.length_append]; omega, d3, d4, fun k hk => by rw [e]; exact d5 k hk, fun k hk => by rw [e]; exact d6 k hk⟩
theorem PlA.put {B Hb : Hp} {pl b q : Addr} {a r y : Nat} {L : List LRow} {o : LRow} {k : I3} {Q : VK} (A : PlA B Hb pl a r y L) (hk : keyR a r y o = some k) (hb : Hb b = some (.tup ((kI k).map kV))) (hq : Hb q = none) (few : L.length ≤ 1000)
    (qq : ∀ l H1 vs, H1 l = some (.lst vs) → vs.length ≤ 1000 → TK Hb H1 → (∀ pb, H1 pb = some (.tup (nats o.1)) → PlA B (upd H1 l (.lst (vs ++ [.ref pb]))) pl a r y (L ++ [o])) → Q (.ref l) H1) :
    rDSTb pl Q (.ref b) (.ref q) (upd Hb q (.lst [])) := by
  obtain ⟨h1, h2, ks, f, d1, d2, d3, d4, d5, d6⟩ := A
  have sq : Same Hb (upd Hb q (.lst [])) := Same.new hq
  have hpl := sq _ _ d1
  have bl : ∀ k, (byKey a r y L k).length ≤ L.length := fun k => List.length_filter_le _ _
  refine x_dstb (k := kI k) hpl (sq _ _ hb) (by rw [List.length_map]; exact small_ (by omega)) (fun v hv => ?_) (fun hv => ?_)
  · rw [valV_pl] at hv
    by_cases hm : k ∈ ks
    · rw [if_pos hm] at hv
      cases hv
      obtain ⟨vs, g1, g2⟩ := d6 k hm
      refine qq (f k) _ vs (sq _ _ g1) (by rw [Paired.length g2, List.length_map]; have := bl k; omega) (same_tk sq) fun pb hpb => ?_
      have tk : TK (upd Hb q (.lst [])) (upd (upd Hb q (.lst [])) (f k) (.lst (vs ++ [.ref pb]))) := TK.upd (sq _ _ g1) fun _ z => nomatch z
      refine ⟨Same.mut (h1.trans sq) (d4 k hm), h2, ks, f, ?_, by rw [List.length_append]; omega, d3, d4, fun k' hk' => ?_, fun k' hk' => ?_⟩
      · rw [upd_ne (fun e => by rw [← e, d1] at g1; cases g1)]; exact hpl
      · rw [byKey_snoc, d5 k' hk', if_neg (by rw [hk]; intro e; cases e; exact hk' hm)]; rfl
      · by_cases e : k' = k
        · subst e
          refine ⟨_, upd_same, ?_⟩
          rw [byKey_snoc, if_pos hk, List.map_append]
          exact Paired.snoc' ⟨pb, rfl, tk _ _ hpb⟩ (Paired.imp (fun _ _ h => (h.tk (same_tk sq)).tk tk) g2)
        · obtain ⟨vs', g1', g2'⟩ := d6 k' hk'
          refine ⟨vs', by rw [upd_ne (fun z => e (d3 _ hk' _ hm z))]; exact sq _ _ g1', ?_⟩
          rw [byKey_snoc, if_neg (by rw [hk]; intro z; cases z; exact e rfl), List.append_nil]
          exact Paired.imp (fun _ _ h => (h.tk (same_tk sq)).tk tk) g2'
    · rw [if_neg hm] at hv
      cases hv
  · have hm : k ∉ ks := fun hm => by rw [valV_pl, if_pos hm] at hv; cases hv
    have nqp : q ≠ pl := fun e => by rw [e, d1] at hq; cases hq
    have nf : ∀ k' ∈ ks, f k' ≠ q := fun k' hk' e => by
      obtain ⟨vs', g1', _⟩ := d6 k' hk'
      rw [e, hq] at g1'; cases g1'
    have nfp : ∀ k' ∈ ks, f k' ≠ pl := fun k' hk' e => by
      obtain ⟨vs', g1', _⟩ := d6 k' hk'
      rw [e, d1] at g1'; cases g1'
    have tk1 : TK (upd Hb q (.lst [])) (upd (upd Hb q (.lst [])) pl (.dT (putK (ks.map fun k => (kI k, V.ref (f k))) (kI k) (.ref q)))) := TK.upd hpl fun _ z => nomatch z
    have hq1 : (upd (upd Hb q (.lst [])) pl (.dT (putK (ks.map fun k => (kI k, V.ref (f k))) (kI k) (.ref q)))) q = some (.lst []) := by rw [upd_ne nqp]; exact upd_same
    refine qq q _ [] hq1 (by simp) ((same_tk sq).trans tk1) fun pb hpb => ?_
    have tk2 : TK (upd (upd Hb q (.lst [])) pl (.dT (putK (ks.map fun k => (kI k, V.ref (f k))) (kI k) (.ref q)))) (upd (upd (upd Hb q (.lst [])) pl (.dT (putK (ks.map fun k => (kI k, V.ref (f k))) (kI k) (.ref q)))) q (.lst ([] ++ [.ref pb]))) := TK.upd hq1 fun _ z => nomatch z
    refine ⟨Same.mut (Same.mut (h1.trans sq) h2) (h1.free hq), h2, ks ++ [k], fun k' => if k' = k then q else f k', ?_, by simp; omega, ?_, ?_, fun k' hk' => ?_, fun k' hk' => ?_⟩
    · rw [upd_ne (fun e => nqp e.symm), upd_same, putK_new _ (by rw [valV_pl, if_neg hm]), List.map_append]
      congr 2
      congr 1
      · refine List.map_congr_left fun k' hk' => ?_
        have e : k' ≠ k := fun e => hm (by rw [← e]; exact hk')
        simp only [if_neg e]
      · simp
    · intro k1 hk1 k2 hk2 e
      by_cases c1 : k1 = k
      · by_cases c2 : k2 = k
        · rw [c1, c2]
        · simp only [if_pos c1, if_neg c2] at e
          have : k2 ∈ ks := by simpa [c2] using hk2
          exact absurd e.symm (nf _ this)
      · have m1 : k1 ∈ ks := by simpa [c1] using hk1
        by_cases c2 : k2 = k
        · simp only [if_neg c1, if_pos c2] at e
          exact absurd e (nf _ m1)
        · have m2 : k2 ∈ ks := by simpa [c2] using hk2
          simp only [if_neg c1, if_neg c2] at e
          exact d3 _ m1 _ m2 e
    · intro k1 hk1
      by_cases c1 : k1 = k
      · simp only [if_pos c1]; exact h1.free hq
      · simp only [if_neg c1]
        exact d4 _ (by simpa [c1] using hk1)
    · have n1 : k' ∉ ks := fun h => hk' (List.mem_append_left _ h)
      have n2 : k' ≠ k := fun e => hk' (by rw [e]; simp)
      rw [byKey_snoc, d5 k' n1, if_neg (by rw [hk]; intro e; cases e; exact n2 rfl)]; rfl
    · by_cases c1 : k' = k
      · subst c1
        refine ⟨[.ref pb], by simp only [if_true]; exact upd_same, ?_⟩
        rw [byKey_snoc, d5 _ hm, if_pos hk]
        exact .cons ⟨pb, rfl, tk2 _ _ hpb⟩ .nil
      · have m1 : k' ∈ ks := by simpa [c1] using hk'
        obtain ⟨vs', g1', g2'⟩ := d6 k' m1
        refine ⟨vs', ?_, ?_⟩
        · simp only [if_neg c1]
          rw [upd_ne (nf _ m1), upd_ne (nfp _ m1)]
          exact sq _ _ g1'
        · rw [byKey_snoc, if_neg (by rw [hk]; intro z; cases z; exact c1 rfl), List.append_nil]
          exact Paired.imp (fun _ _ h => ((h.tk (same_tk sq)).tk tk1).tk tk2) g2'
/-- what stands at a key, or a new list -/
theorem PlA.get {B H : Hp} {pl : Addr} {a r y : Nat} {L : List LRow} (A : PlA B H pl a r y L) (k : I3) {q : Addr} (hq : H q = some (.lst [])) :
    ∃ kvs la us, H pl = some (.dT kvs) ∧ (valV kvs (kI k)).getD (.ref q) = .ref la ∧ H la = some (.lst us) ∧ Paired (PathAt H) us ((byKey a r y L k).map (·.1)) := by
  obtain ⟨h1, h2, ks, f, d1, d2, d3, d4, d5, d6⟩ := A
  by_cases hm : k ∈ ks
  · obtain ⟨vs, g1, g2⟩ := d6 k hm
    exact ⟨_, f k, vs, d1, by rw [valV_pl, if_pos hm]; rfl, g1, g2⟩
  · refine ⟨_, q, [], d1, by rw [valV_pl, if_neg hm]; rfl, hq, ?_⟩
    rw [d5 k hm]
    exact .nil
theorem Paired.ofMap {α β γ : Type} {F : α → γ → Prop} {g : β → γ} : ∀ {l₁ : List α} {l₂ : List β}, Paired F l₁ (l₂.map g) → Paired (fun a b => F a (g b)) l₁ l₂
  | _, [], h => by cases h; exact .nil
  | _, _ :: _, h => by cases h with | cons r t => exact .cons r (Paired.ofMap t)
theorem filt_first {α : Type} {p : α → Bool} {L : List α} {i : Nat} {o : α} (h : L[i]? = some o) (h0 : (L.take i).filter p = []) (hp : p o = true) : (L.filter p).take 1 = [o] := by
  have e : L = L.take i ++ o :: L.drop (i + 1) := by rw [← drop_get h, List.take_append_drop]
  rw [e, List.filter_append, h0, List.nil_append, List.filter_cons, if_pos hp]
  simp
theorem RowAt.s {H H' : Hp} {v : V} {x : Row} (s : Same H H') (h : RowAt H v x) : RowAt H' v x := h.tk (same_tk s)
/-- all but two lists stand -/
def Sm2 (u v : Addr) (H H' : Hp) : Prop := ∀ a o, a ≠ u → a ≠ v → H a = some o → H' a = some o
theorem Sm2.of {u v : Addr} {H H' : Hp} (s : Same H H') : Sm2 u v H H' := fun a o _ _ h => s a o h
theorem Sm2.trans {u v : Addr} {H H1 H2 : Hp} (a : Sm2 u v H H1) (b : Sm2 u v H1 H2) : Sm2 u v H H2 := fun x o n m h => b x o n m (a x o n m h)
theorem Sm2.tk {u v : Addr} {H H' : Hp} {xs ys : List V} (hu : H u = some (.lst xs)) (hv : H v = some (.lst ys)) (X : Sm2 u v H H') : TK H H' := fun b zs h => X _ _ (fun e => by rw [e, hu] at h; cases h) (fun e => by rw [e, hv] at h; cases h) h
section
variable {P : Program} {w : World} {K : PySem.W.Frag} {mg : Str → Option Value} {base : Heap}
/-- without one address -/
noncomputable def minus (H : Hp) (u v : Addr) : Hp := open Classical in fun b => if b = u ∨ b = v then none else H b
theorem minus_same {H : Hp} {u v : Addr} : Same (minus H u v) H := fun b o h => by
  unfold minus at h
  split at h
  · cases h
  · exact h
theorem minus_get {H : Hp} {u v b : Addr} {o : HO} (h : H b = some o) (h1 : b ≠ u) (h2 : b ≠ v) : minus H u v b = some o := by
  unfold minus
  rw [if_neg (fun q => q.elim h1 h2)]
  exact h
theorem minus_none {H : Hp} {u v : Addr} : minus H u v u = none ∧ minus H u v v = none := by
  unfold minus
  exact ⟨if_pos (.inl rfl), if_pos (.inr rfl)⟩
theorem ok_kept (T : TX K mg) (G_nodes : FnOk P w K mg base CX0 198 T.f_nodes T.d_nodes ["tree"] (spNodes 196))
    (G_subtree : FnOk P w K mg base CX0 1 T.f_subtree T.d_subtree ["tree", "path"] spSub) :
    FnOk P w K mg base CX0 199 T.f_kept T.d_kept ["old", "new", "edit"] spKept := by
  refine T.F_kept.ok sc_kept (fun vs H Q E h => ?_) (fun cdv A outer s H vs Q E hr h => ?_)
  · obtain ⟨F, old, new, v1, v2, ed, a, r, y, rfl, _⟩ := h
    rfl
  obtain ⟨F, old, new, v1, v2, ed, a, r, y, rfl, B1, B2, hed, hy, k⟩ := h
  refine ⟨_, (pss_cons (ps_set (i := 3) sc_kept.nd rfl (Or.inl rfl) (pe_op op_sub (pe_callB cl_lenS (by rfl) T.z_len (by decide +kernel) (pa_cons (pe_ix (kx_tup K) (pv 2) pe_int (fun _ _ => rfl)) pa_nil)) (pe_ix (kx_tup K) (pv 2) pe_int (fun _ _ => rfl))))
  (pss_cons (ps_set (i := 4) sc_kept.nd rfl (Or.inl rfl) pe_dnewT)
  (pss_cons (ps_for PassesOwn.never rfl (kpi_list K (pe_call G_nodes (hr.mono (by decide)) (by rfl) T.m_nodes T.F_nodes.kp T.b_nodes .nil pass0 (pa_cons (pv 0) pa_nil))) (kpg_tup K 4 rfl (pgs_cons (pg_name (i := 5) sc_kept.nd rfl (Or.inr rfl)) (pgs_cons (pg_name (i := 6) sc_kept.nd rfl (Or.inl rfl)) (pgs_cons (pg_name (i := 7) sc_kept.nd rfl (Or.inl rfl)) (pgs_cons (pg_name (i := 8) sc_kept.nd rfl (Or.inl rfl)) pgs_nil)))))
  (pss_one (ps_if (pt_cmpR op_le (pv 8) (pe_ix (kx_tup K) (pv 2) pe_int (fun _ _ => rfl)) (nomark _))
  (pss_one (ps_expr (kbm K (pe_bm PySem.F.plainAttrs_list PySem.F.slot_list_append PySem.F.type_list_append mt_append (pe_dsetdT (hu2 hr) (pv 4) (pe_tup (pa_cons (pv 6) (pa_cons (pv 7) (pa_cons (pv 8) pa_nil)))) (pe_lst pa_nil) ⟨rfl, rfl, rfl, rfl⟩) (pa_cons (pv 5) pa_nil)))))
  (pss_one (ps_if (pt_cmpR op_ge (pv 7) (pe_op op_add (pe_ix (kx_tup K) (pv 2) pe_int (fun _ _ => rfl)) (pe_ix (kx_tup K) (pv 2) pe_int (fun _ _ => rfl))) (nomark _))
  (pss_one (ps_expr (kbm K (pe_bm PySem.F.plainAttrs_list PySem.F.slot_list_append PySem.F.type_list_append mt_append (pe_dsetdT (hu2 hr) (pv 4) (pe_tup (pa_cons (pv 6) (pa_cons (pe_op op_add (pv 7) (pv 3)) (pa_cons (pe_op op_add (pv 8) (pv 3)) pa_nil)))) (pe_lst pa_nil) ⟨rfl, rfl, rfl, rfl⟩) (pa_cons (pv 5) pa_nil)))))
  pss_nil)))))
  (pss_cons (ps_set (i := 9) sc_kept.nd rfl (Or.inl rfl) (pe_lst pa_nil))
  (pss_cons (ps_set (i := 10) sc_kept.nd rfl (Or.inl rfl) (pe_lst pa_nil))
  (pss_cons (ps_for PassesOwn.never rfl (kpi_list K (pe_call G_nodes (hr.mono (by decide)) (by rfl) T.m_nodes T.F_nodes.kp T.b_nodes .nil pass0 (pa_cons (pv 1) pa_nil))) (kpg_tup K 4 rfl (pgs_cons (pg_name (i := 5) sc_kept.nd rfl (Or.inr rfl)) (pgs_cons (pg_name (i := 6) sc_kept.nd rfl (Or.inl rfl)) (pgs_cons (pg_name (i := 7) sc_kept.nd rfl (Or.inl rfl)) (pgs_cons (pg_name (i := 8) sc_kept.nd rfl (Or.inl rfl)) pgs_nil)))))
  (pss_cons (ps_if (pt_val (pe_callB (kc_any K rfl) (by rfl) T.z_any (by decide +kernel) (pa_cons (pe_lc (own := [("other", 11)]) (by rfl) sc_kept.nd (kpi_list K (pv 10)) (blkOk_by (N := ["old", "new", "edit", "shift", "places", "path", "rule", "start", "end", "found", "taken", "other"]) (sc := (defScope s_kept)) (by decide +kernel)) (fun _ _ _ _ _ => (pg_name (i := 11) sc_kept.nd rfl (Or.inl rfl))) (fun _ _ _ _ _ => pts_nil) (fun _ _ _ _ _ => (pe_cmpR (op_eqN K 5 (un5 hr)) (pe_slice (ksl_tup K) (pv 5) po_none (po_some (pe_callB (kl_len K) (by rfl) T.z_len (by decide +kernel) (pa_cons (pv 11) pa_nil)))) (pv 11) (nomark _)))) pa_nil)))
  (pss_one ps_continue)
  pss_nil)
  (pss_one (ps_for PassesOwn.never rfl (kpi_list K (pe_dget2 (hu_of hr) (pv 4) (pe_tup (pa_cons (pv 6) (pa_cons (pv 7) (pa_cons (pv 8) pa_nil)))) (pe_lst pa_nil) ⟨rfl, rfl, rfl, rfl⟩)) (pg_name (i := 11) sc_kept.nd rfl (Or.inl rfl))
  (pss_one (ps_if (pt_cmpR (op_eqT (un400 hr)) (pe_call G_subtree (hr.mono (by decide)) (by rfl) T.m_subtree T.F_subtree.kp T.b_subtree .nil pass0 (pa_cons (pv 0) (pa_cons (pv 11) pa_nil))) (pe_call G_subtree (hr.mono (by decide)) (by rfl) T.m_subtree T.F_subtree.kp T.b_subtree .nil pass0 (pa_cons (pv 1) (pa_cons (pv 5) pa_nil))) (nomark _))
  (pss_cons (ps_expr (kbm K (pe_bm PySem.F.plainAttrs_list PySem.F.slot_list_append PySem.F.type_list_append mt_append (pv 9) (pa_cons (pe_tup (pa_cons (pv 11) (pa_cons (pv 5) pa_nil))) pa_nil))))
  (pss_cons (ps_expr (kbm K (pe_bm PySem.F.plainAttrs_list PySem.F.slot_list_append PySem.F.type_list_append mt_append (pv 10) (pa_cons (pv 5) pa_nil))))
  (pss_one ps_break)))
  pss_nil))))))
  (pss_one (ps_ret (pv 9))))))))), ?_⟩
  obtain ⟨t1, ⟨r1, ks1, e1⟩, d1, w1, z1, m1⟩ := B1
  obtain ⟨t2, ⟨r2, ks2, e2⟩, d2, w2, z2, m2⟩ := B2
  have hyl : y.length ≤ sizeLine := small__ (by omega)
  walk_at "go"
  refine fun pl hplN => ?_
  walk_at "go"
  have s1 : Same H (upd H pl (.dT [])) := Same.new hplN
  have hpl1 : (upd H pl (.dT [])) pl = some (.dT []) := upd_same
  generalize upd H pl (.dT []) = H1 at s1 hpl1
  refine ⟨F, old, v1, rfl, t1.s s1, ⟨_, _, e1⟩, d1, w1, z1, by omega, by omega, fun H2 ln vs1 s2 _ hln P1 => ?_⟩
  have hpl2 := s2 _ _ hpl1
  have s02 := s1.trans s2
  have n1 : vs1.length ≤ 1000 := by rw [Paired.length P1, nodesT_len]; exact m1
  rw [nodesT_ln] at P1
  have P1 := Paired.ofMap P1
  have l1 : (lnod old [] 0).length ≤ 1000 := by rw [lnod_len]; exact m1
  have bN : ∀ {b o}, H2 b = some o → o ≠ .dT [] → minus H2 pl pl b = some o := fun {b o} h ho => by
    have : b ≠ pl := fun e => by rw [e, hpl2] at h; cases h; exact ho rfl
    exact minus_get h this this
  have hed2 := bN (s02 _ _ hed) (fun e => nomatch e)
  have hlnB := bN hln (fun e => nomatch e)
  have A0 : PlA (minus H2 pl pl) H2 pl a r y.length [] := ⟨minus_same, minus_none.1, [], fun _ => pl, hpl2, Nat.le_refl _, (fun _ h => nomatch h), (fun _ h => nomatch h), fun _ _ => rfl, (fun _ h => nomatch h)⟩
  have sHB : Same H (minus H2 pl pl) := fun b o h => minus_get (s02 _ _ h) (fun e => by rw [e, hplN] at h; cases h) (fun e => by rw [e, hplN] at h; cases h)
  walk_at "go"
  refine x_forLR hln (fun j σ H' => ∃ (v5 v6 v7 v8 : Option V), σ = [some v1, some v2, some (.ref ed), some (.int ((y.length : Int) - (r : Nat))), some (.ref pl), v5, v6, v7, v8, none, none, none] ∧ PlA (minus H2 pl pl) H' pl a r y.length ((lnod old [] 0).take j))
    ⟨none, none, none, none, rfl, A0⟩ (fun j σ H' _ ⟨_, _, _, _, _, A⟩ => A.s _ _ hlnB) ?_ ?_
  · rintro j x σ H3 hx ⟨v5, v6, v7, v8, rfl, A3⟩
    obtain ⟨o, ho, b, pb, rfl, g1, g2⟩ := Paired.at' P1 hx
    have hmem := List.mem_of_getElem? ho
    obtain ⟨o1, o2, o3, o4, o5, o6⟩ := lnod_top hmem
    have g1' := A3.s _ _ (bN g1 (fun e => nomatch e))
    have g2' := A3.s _ _ (bN g2 (fun e => nomatch e))
    have hed3 := A3.s _ _ hed2
    have ep : (lnod old [] 0).take (j + 1) = (lnod old [] 0).take j ++ [o] := take_more ho
    have few : ((lnod old [] 0).take j).length ≤ 1000 := by rw [List.length_take]; omega
    obtain ⟨op, oT, os, oe⟩ := o
    unfold rowOf at g1' g2'
    dsimp only at g1' g2' o1 o2 o3 o4
    obtain ⟨ks0, f0, hd0, _⟩ := A3.d
    walk_at "go"
    by_cases c1 : oe ≤ a
    · have hm : keyR a r y.length (op, oT, os, oe) = some (ruleT oT, os, oe) := by unfold keyR mv; rw [if_pos c1]; rfl
      rw [decide_eq_true (show ((oe : Nat) : Int) ≤ (a : Nat) by omega)]
      refine iteT ?_
      walk_at "go"
      refine x_dst ?_
      walk_at "go"
      refine x_dstT hd0 ?_
      walk_at "go"
      refine ⟨by show 3 ≤ sizeLine; decide, fun kb hkb => ?_⟩
      walk_at "go"
      refine ⟨Nat.zero_le _, fun q hq => ?_⟩
      refine (A3.more (Same.new hkb)).put hm upd_same hq few fun l H5 ws hl hwl tk5 aft => ?_
      have g2'' := tk5 _ _ (look1 g2' hkb)
      walk_at "go"
      refine x_append hl (small_ (by omega)) ?_
      refine ⟨_, _, _, _, rfl, ?_⟩
      rw [ep]
      exact aft pb g2''
    · rw [decide_eq_false (show ¬ ((oe : Nat) : Int) ≤ (a : Nat) by omega)]
      refine iteF ?_
      walk_at "go"
      by_cases c2 : a + r ≤ os
      · have hm : keyR a r y.length (op, oT, os, oe) = some (ruleT oT, os + y.length - r, oe + y.length - r) := by unfold keyR mv; rw [if_neg c1, if_pos c2]; rfl
        rw [decide_eq_true (show ((a : Nat) : Int) + (r : Nat) ≤ (os : Nat) by omega)]
        refine iteT ?_
        walk_at "go"
        refine x_dst ?_
        walk_at "go"
        refine x_dstT hd0 ?_
        walk_at "go"
        rw [show ((os : Nat) : Int) + ((y.length : Int) - (r : Nat)) = ((os + y.length - r : Nat) : Int) by omega, show ((oe : Nat) : Int) + ((y.length : Int) - (r : Nat)) = ((oe + y.length - r : Nat) : Int) by omega]
        refine ⟨by show 3 ≤ sizeLine; decide, fun kb hkb => ?_⟩
        walk_at "go"
        refine ⟨Nat.zero_le _, fun q hq => ?_⟩
        refine (A3.more (Same.new hkb)).put hm upd_same hq few fun l H5 ws hl hwl tk5 aft => ?_
        have g2'' := tk5 _ _ (look1 g2' hkb)
        walk_at "go"
        refine x_append hl (small_ (by omega)) ?_
        refine ⟨_, _, _, _, rfl, ?_⟩
        rw [ep]
        exact aft pb g2''
      · have hm : keyR a r y.length (op, oT, os, oe) = none := by unfold keyR mv; rw [if_neg c1, if_neg c2]; rfl
        rw [decide_eq_false (show ¬ ((a : Nat) : Int) + (r : Nat) ≤ (os : Nat) by omega)]
        refine iteF ?_
        walk_at "go"
        refine ⟨_, _, _, _, rfl, ?_⟩
        rw [ep]
        exact A3.out hm
  · rintro σ H3 ⟨v5, v6, v7, v8, rfl, A3⟩
    rw [Paired.length P1, List.take_length] at A3
    have s03 : Same H H3 := sHB.trans A3.s
    walk_at "go"
    refine ⟨Nat.zero_le _, fun Fd hFd => ?_⟩
    walk_at "go"
    refine ⟨Nat.zero_le _, fun Tk hTk => ?_⟩
    walk_at "go"
    have s4 : Same H3 (upd (upd H3 Fd (.lst [])) Tk (.lst [])) := (Same.new hFd).trans (Same.new hTk)
    have hF4 : (upd (upd H3 Fd (.lst [])) Tk (.lst [])) Fd = some (.lst []) := look1 upd_same hTk
    have hT4 : (upd (upd H3 Fd (.lst [])) Tk (.lst [])) Tk = some (.lst []) := upd_same
    have nFT : Fd ≠ Tk := fun e => by rw [← e, upd_same] at hTk; cases hTk
    have hTk3 : H3 Tk = none := (Same.new hFd).free hTk
    generalize upd (upd H3 Fd (.lst [])) Tk (.lst []) = H4 at s4 hF4 hT4
    refine ⟨F, new, v2, rfl, (t2.s s03).s s4, ⟨_, _, e2⟩, d2, w2, z2, by omega, by omega, fun H5 ln2 vs2 s5 _ hln2 P5 => ?_⟩
    have s35 := s4.trans s5
    have hF5 := s5 _ _ hF4
    have hT5 := s5 _ _ hT4
    have n2 : vs2.length ≤ 1000 := by rw [Paired.length P5, nodesT_len]; exact m2
    have nn : vs2 ≠ [] := fun e => by
      have h1 := Paired.length P5
      rw [nodesT_len, e, e2] at h1
      simp [nnT] at h1
    rw [nodesT_ln] at P5
    have P5 := Paired.ofMap P5
    have nl : ∀ {b xs}, H5 b = some (.lst xs) → xs ≠ [] → b ≠ Fd ∧ b ≠ Tk := fun h hx => ⟨(fun e => by rw [e, hF5] at h; cases h; exact hx rfl), (fun e => by rw [e, hT5] at h; cases h; exact hx rfl)⟩
    have n3 : ∀ {b o}, H3 b = some o → b ≠ Fd ∧ b ≠ Tk := fun h => ⟨(fun e => by rw [e, hFd] at h; cases h), (fun e => by rw [e, hTk3] at h; cases h)⟩
    have back3 : ∀ {H'}, Sm2 Fd Tk H5 H' → Same H3 H' := fun X b o h => X _ _ (n3 h).1 (n3 h).2 (s35 _ _ h)
    walk_at "go"
    refine x_forLR hln2 (fun j σ H' => ∃ (v5 v6 v7 v8 v11 : Option V) (fs ts : List V), σ = [some v1, some v2, some (.ref ed), some (.int ((y.length : Int) - (r : Nat))), some (.ref pl), v5, v6, v7, v8, some (.ref Fd), some (.ref Tk), v11] ∧ Sm2 Fd Tk H5 H' ∧ H' Fd = some (.lst fs) ∧ H' Tk = some (.lst ts) ∧
        Paired (PairAt H') fs (((lnod new [] 0).take j).foldl (kStep a r y.length (lnod old [] 0)) []) ∧ Paired (PathAt H') ts ((((lnod new [] 0).take j).foldl (kStep a r y.length (lnod old [] 0)) []).map (·.2)))
      ⟨v5, v6, v7, v8, none, [], [], rfl, fun _ _ _ _ h => h, hF5, hT5, .nil, .nil⟩ (fun j σ H' _ ⟨_, _, _, _, _, _, _, _, X, _⟩ => X _ _ (nl hln2 nn).1 (nl hln2 nn).2 hln2) ?_ ?_
    · rintro j x σ H6 hx ⟨v5, v6, v7, v8, v11, fs, ts, rfl, X6, hF6, hT6, P6, PT6⟩
      obtain ⟨o, ho, b, pb, rfl, g1, g2⟩ := Paired.at' P5 hx
      have tk56 := Sm2.tk hF5 hT5 X6
      have g1' := tk56 _ _ g1
      have g2' := tk56 _ _ g2
      have hmem := List.mem_of_getElem? ho
      obtain ⟨o1, o2, o3, o4, o5, o6⟩ := lnod_top hmem
      have ep : (lnod new [] 0).take (j + 1) = (lnod new [] 0).take j ++ [o] := take_more ho
      have stl : (((lnod new [] 0).take j).foldl (kStep a r y.length (lnod old [] 0)) []).length ≤ 1000 := by
        have := kfold_len a r y.length (lnod old [] 0) ((lnod new [] 0).take j) []
        rw [List.length_take, lnod_len] at this
        simp only [List.length_nil] at this
        omega
      have est : ((lnod new [] 0).take (j + 1)).foldl (kStep a r y.length (lnod old [] 0)) [] = kStep a r y.length (lnod old [] 0) (((lnod new [] 0).take j).foldl (kStep a r y.length (lnod old [] 0)) []) o := by rw [ep, List.foldl_append]; rfl
      generalize ((lnod new [] 0).take j).foldl (kStep a r y.length (lnod old [] 0)) [] = st at P6 PT6 stl est
      obtain ⟨op, oT, os, oe⟩ := o
      unfold rowOf at g1' g2'
      dsimp only at g1' g2' o1 o2 o3 o4 o5 o6
      have fl := Paired.length P6
      have tl := Paired.length PT6
      rw [List.length_map] at tl
      walk_at "go"
      refine x_lcP hT6 (fun i => ((st.take i).map fun q => decide (op.take q.2.length = q.2)).map V.bl) (by simp) (fun i hi => by rw [List.length_map, List.length_map, List.length_take]; omega) (fun i x7 H7 N1 N2 hx7 s7 k1 k2 => ?_) (fun D H7 s7 hD hDv => ?_)
      · obtain ⟨q2, hq2, c, rfl, f1⟩ := Paired.at' PT6 hx7
        rw [List.getElem?_map] at hq2
        obtain ⟨q, hq, rfl⟩ := Option.map_eq_some_iff.mp hq2
        have f1' := s7 _ _ f1
        have g2'' := s7 _ _ g2'
        unfold LcTurn
        walk_at "go"
        refine ⟨rfl, ?_⟩
        walk_at "go"
        refine x_lenT f1' ?_
        rw [show (nats q.2).length = q.2.length by simp [nats]]
        refine x_partR ?_
        refine x_slP g2'' fun H8 p8 s8 h8 => ?_
        walk_at "go"
        refine x_eqP h8 (s8 _ _ f1') ?_
        refine k1 _ _ s8 ?_
        rw [take_more hq, List.map_append, List.map_append]
        rfl
      · rw [tl, List.take_length] at hDv
        walk_at "go"
        refine x_any hDv ?_
        have eu : ((st.map fun q => decide (op.take q.2.length = q.2)).any id) = under st op := by unfold under; rw [List.any_map]; rfl
        rw [eu]
        walk_at "go"
        have X7 := X6.trans (Sm2.of s7)
        have hF7 := s7 _ _ hF6
        have hT7 := s7 _ _ hT6
        have P7 := Paired.imp (fun _ _ h => PairAt.tk (same_tk s7) h) P6
        have PT7 := Paired.imp (fun _ _ h => PathAt.tk (same_tk s7) h) PT6
        cases hu : under st op with
        | true =>
          refine iteT ?_
          walk_at "go"
          refine ⟨_, _, _, _, _, fs, ts, rfl, X7, hF7, hT7, ?_⟩
          rw [est]
          unfold kStep
          rw [if_pos hu]
          exact ⟨P7, PT7⟩
        | false =>
          refine iteF ?_
          have A7 := A3.more (back3 X7)
          have ekc := cands_key a r y.length (lnod old [] 0) (op, oT, os, oe)
          dsimp only at ekc
          walk_at "go"
          obtain ⟨ks0, f0, hd0, _⟩ := A7.d
          refine x_d2T hd0 ?_
          walk_at "go"
          refine ⟨by show 3 ≤ sizeLine; decide, fun kb hkb => ?_⟩
          walk_at "go"
          refine ⟨Nat.zero_le _, fun q hq => ?_⟩
          have s79 : Same H7 (upd (upd H7 kb (.tup [.int (ruleT oT : Nat), .int (os : Nat), .int (oe : Nat)])) q (.lst [])) := (Same.new hkb).trans (Same.new hq)
          have hkb9 : (upd (upd H7 kb (.tup [.int (ruleT oT : Nat), .int (os : Nat), .int (oe : Nat)])) q (.lst [])) kb = some (.tup ((kI (ruleT oT, os, oe)).map kV)) := look1 upd_same hq
          have hq9 : (upd (upd H7 kb (.tup [.int (ruleT oT : Nat), .int (os : Nat), .int (oe : Nat)])) q (.lst [])) q = some (.lst []) := upd_same
          generalize upd (upd H7 kb (.tup [.int (ruleT oT : Nat), .int (os : Nat), .int (oe : Nat)])) q (.lst []) = H9 at s79 hkb9 hq9
          obtain ⟨kvs, la, us, hkv, hget, hla, Pus⟩ := (A7.more s79).get (ruleT oT, os, oe) hq9
          refine x_d2bT hkv hkb9 ?_
          rw [hget]
          have ul : us.length = (byKey a r y.length (lnod old [] 0) (ruleT oT, os, oe)).length := by rw [Paired.length Pus, List.length_map]
          have X9 := X7.trans (Sm2.of s79)
          have hF9 := s79 _ _ hF7
          have hT9 := s79 _ _ hT7
          have P9 := Paired.imp (fun _ _ h => PairAt.tk (same_tk s79) h) P7
          have PT9 := Paired.imp (fun _ _ h => PathAt.tk (same_tk s79) h) PT7
          have g29 := s79 _ _ (s7 _ _ g2')
          have bk9 := s03.trans (back3 X9)
          open Classical in
          refine x_forLR hla (fun i σ H' => ∃ v11', σ = [some v1, some v2, some (.ref ed), some (.int ((y.length : Int) - (r : Nat))), some (.ref pl), some (.ref pb), some (.int (ruleT oT : Nat)), some (.int (os : Nat)), some (.int (oe : Nat)), some (.ref Fd), some (.ref Tk), v11'] ∧ Same H9 H' ∧ ((byKey a r y.length (lnod old [] 0) (ruleT oT, os, oe)).take i).filter (fun o => decide (o.2.1 = oT)) = [])
            ⟨v11, rfl, Same.refl _, rfl⟩ (fun i σ H' _ ⟨_, _, s', _⟩ => s' _ _ hla) ?_ ?_
          · rintro i x9 σ H10 hx9 ⟨v11', rfl, s10, h0⟩
            obtain ⟨p9, hp9, c9, rfl, f9⟩ := Paired.at' Pus hx9
            rw [List.getElem?_map] at hp9
            obtain ⟨oo, hoo, rfl⟩ := Option.map_eq_some_iff.mp hp9
            have hom : oo ∈ lnod old [] 0 := (List.mem_filter.mp (List.mem_of_getElem? hoo)).1
            obtain ⟨q1, q2, q3, q4, q5, q6⟩ := lnod_top hom
            have f9' := s10 _ _ f9
            have g2a := s10 _ _ g29
            have bk10 := bk9.trans s10
            walk_at "go"
            refine ⟨F, old, oo.2.1, v1, c9, oo.1, rfl, t1.s bk10, f9', q1, fun va hva => ?_⟩
            walk_at "go"
            refine ⟨F, new, oT, v2, pb, op, rfl, t2.s bk10, g2a, o1, fun vb hvb => ?_⟩
            obtain ⟨ra, rka, era⟩ := q6
            obtain ⟨rb, rkb, erb⟩ := o6
            obtain ⟨aa, rfl⟩ : ∃ aa, va = .ref aa := by
              rw [era] at hva
              unfold TreeAt at hva
              obtain ⟨aa, _, _, e, _⟩ := hva
              exact ⟨aa, e⟩
            obtain ⟨ab, rfl⟩ : ∃ ab, vb = .ref ab := by
              rw [erb] at hvb
              unfold TreeAt at hvb
              obtain ⟨aa, _, _, e, _⟩ := hvb
              exact ⟨aa, e⟩
            refine x_eqT hva hvb (by omega) fun bb hbb => ?_
            walk_at "go"
            cases bb with
            | true =>
              have heq := hbb.mp rfl
              have hcands : (cands a r y.length (lnod old [] 0) (op, oT, os, oe)).take 1 = [oo.1] := by
                rw [ekc, ← List.map_take, filt_first hoo h0 (by simp [heq])]
                rfl
              refine iteT ?_
              have hF10 := s10 _ _ hF9
              have hT10 := s10 _ _ hT9
              walk_at "go"
              refine ⟨by show 2 ≤ sizeLine; decide, fun pq hpq => ?_⟩
              have s11 : Same H10 (upd H10 pq (.tup [.ref c9, .ref pb])) := Same.new hpq
              have hF11 := s11 _ _ hF10
              have hT11 := s11 _ _ hT10
              walk_at "go"
              refine x_append hF11 (small_ (by omega)) ?_
              have hT12 : (upd (upd H10 pq (.tup [.ref c9, .ref pb])) Fd (.lst (fs ++ [.ref pq]))) Tk = some (.lst ts) := by rw [upd_ne (fun e => nFT e.symm)]; exact hT11
              have tk12 : TK (upd H10 pq (.tup [.ref c9, .ref pb])) (upd (upd H10 pq (.tup [.ref c9, .ref pb])) Fd (.lst (fs ++ [.ref pq]))) := TK.upd hF11 fun _ z => nomatch z
              walk_at "go"
              refine x_append hT12 (small_ (by omega)) ?_
              have tk13 : TK (upd (upd H10 pq (.tup [.ref c9, .ref pb])) Fd (.lst (fs ++ [.ref pq]))) (upd (upd (upd H10 pq (.tup [.ref c9, .ref pb])) Fd (.lst (fs ++ [.ref pq]))) Tk (.lst (ts ++ [.ref pb]))) := TK.upd hT12 fun _ z => nomatch z
              have tkA := (same_tk s11).trans (tk12.trans tk13)
              walk_at "go"
              refine ⟨_, _, _, _, _, fs ++ [.ref pq], ts ++ [.ref pb], rfl, ?_, ?_, upd_same, ?_⟩
              · refine (X9.trans (Sm2.of (s10.trans s11))).trans ?_
                intro u o' n1 n2 h'
                rw [upd_ne n2, upd_ne n1]
                exact h'
              · rw [upd_ne nFT]; exact upd_same
              · rw [est]
                unfold kStep
                rw [if_neg (by rw [hu]; simp), hcands]
                refine ⟨Paired.snoc' ⟨pq, c9, pb, rfl, (tk12.trans tk13) _ _ upd_same, tkA _ _ f9', tkA _ _ g2a⟩ (Paired.imp (fun _ _ h => (h.tk (same_tk s10)).tk tkA) P9), ?_⟩
                rw [List.map_append]
                exact Paired.snoc' ⟨pb, rfl, tkA _ _ g2a⟩ (Paired.imp (fun _ _ h => (h.tk (same_tk s10)).tk tkA) PT9)
            | false =>
              refine iteF ?_
              walk_at "go"
              refine ⟨_, rfl, s10, ?_⟩
              have ne : ¬ oo.2.1 = oT := fun e => by have := hbb.mpr e; cases this
              rw [take_more hoo, List.filter_append, h0]
              simp [ne]
          · rintro σ H10 ⟨v11', rfl, s10, h0⟩
            rw [ul, List.take_length] at h0
            have hcands : cands a r y.length (lnod old [] 0) (op, oT, os, oe) = [] := by rw [ekc, h0]; rfl
            refine ⟨_, _, _, _, _, fs, ts, rfl, X9.trans (Sm2.of s10), s10 _ _ hF9, s10 _ _ hT9, ?_⟩
            rw [est]
            unfold kStep
            rw [if_neg (by rw [hu]; simp), hcands]
            simp only [List.take_nil, List.map_nil, List.append_nil]
            exact ⟨Paired.imp (fun _ _ h => h.tk (same_tk s10)) P9, Paired.imp (fun _ _ h => h.tk (same_tk s10)) PT9⟩
    · rintro σ H6 ⟨v5, v6, v7, v8, v11, fs, ts, rfl, X6, hF6, hT6, P6, PT6⟩
      rw [Paired.length P5, List.take_length] at P6
      walk_at "go"
      exact k H6 Fd fs (s03.trans (back3 X6)) hF6 P6
end
section
variable {X : Cx} (K : PySem.W.Frag)
theorem kx_seq (e : X.K = K := by rfl) : IxR X (rIx K) := by subst e; exact ix_seq
end
inductive Dt where
  | non
  | int (i : Int)
  | str (z : Str)
  | lst (ds : List Dt)
  | tup (ds : List Dt)
mutual
def DtAt (H : Hp) : Dt → V → Prop
  | .non, v => v = .non
  | .int i, v => v = .int i
  | .str z, v => v = .str z
  | .lst ds, v => ∃ a vs, v = .ref a ∧ H a = some (.lst vs) ∧ DtsAt H ds vs
  | .tup ds, v => ∃ a vs, v = .ref a ∧ H a = some (.tup vs) ∧ DtsAt H ds vs
def DtsAt (H : Hp) : List Dt → List V → Prop
  | [], vs => vs = []
  | d :: ds, vs => ∃ v r, vs = v :: r ∧ DtAt H d v ∧ DtsAt H ds r
end
mutual
def dpD : Dt → Nat
  | .lst ds => dpDs ds + 1
  | .tup ds => dpDs ds + 1
  | _ => 0
def dpDs : List Dt → Nat
  | [] => 0
  | d :: ds => max (dpD d) (dpDs ds)
end
mutual
def fewD : Dt → Prop
  | .lst ds => ds.length ≤ 2000 ∧ fewDs ds
  | .tup ds => ds.length ≤ 2000 ∧ fewDs ds
  | _ => True
def fewDs : List Dt → Prop
  | [] => True
  | d :: ds => fewD d ∧ fewDs ds
end
mutual
theorem DtAt.s {H H' : Hp} (s : Same H H') : ∀ {d : Dt} {v : V}, DtAt H d v → DtAt H' d v
  | .non, v, h => h
  | .int i, v, h => h
  | .str z, v, h => h
  | .lst ds, v, h => by
    unfold DtAt at h ⊢
    obtain ⟨a, vs, e, h1, h2⟩ := h
    exact ⟨a, vs, e, s _ _ h1, DtsAt.s s h2⟩
  | .tup ds, v, h => by
    unfold DtAt at h ⊢
    obtain ⟨a, vs, e, h1, h2⟩ := h
    exact ⟨a, vs, e, s _ _ h1, DtsAt.s s h2⟩
theorem DtsAt.s {H H' : Hp} (s : Same H H') : ∀ {ds : List Dt} {vs : List V}, DtsAt H ds vs → DtsAt H' ds vs
  | [], vs, h => h
  | d :: ds, vs, h => by
    unfold DtsAt at h ⊢
    obtain ⟨v, r, e, h1, h2⟩ := h
    exact ⟨v, r, e, DtAt.s s h1, DtsAt.s s h2⟩
end
theorem DtsAt.pair {H : Hp} : ∀ {ds : List Dt} {vs : List V}, DtsAt H ds vs → Paired (fun v d => DtAt H d v) vs ds
  | [], vs, h => by
    unfold DtsAt at h
    subst h; exact .nil
  | k :: ks, vs, h => by
    unfold DtsAt at h
    obtain ⟨v, r, rfl, h1, h2⟩ := h
    exact .cons h1 (DtsAt.pair h2)
theorem DtsAt.of {H : Hp} {ds : List Dt} {vs : List V} (h : Paired (fun v d => DtAt H d v) vs ds) : DtsAt H ds vs := by
  induction h with
  | nil => unfold DtsAt; rfl
  | cons r _ ih => unfold DtsAt; exact ⟨_, _, rfl, r, ih⟩
theorem dpDs_le : ∀ {ds : List Dt} {d : Dt}, d ∈ ds → dpD d ≤ dpDs ds
  | d' :: ds, d, h => by
    show _ ≤ max (dpD d') (dpDs ds)
    rcases List.mem_cons.mp h with q | q
    · subst q; omega
    · have := dpDs_le q; omega
theorem fewDs_mem : ∀ {ds : List Dt} {d : Dt}, fewDs ds → d ∈ ds → fewD d
  | d' :: ds, d, h, hm => by
    have h : fewD d' ∧ fewDs ds := h
    rcases List.mem_cons.mp hm with q | q
    · subst q; exact h.1
    · exact fewDs_mem h.2 q
def nmD : Dt → String
  | .non => "NoneType"
  | .int _ => "int"
  | .str _ => "str"
  | .lst _ => "list"
  | .tup _ => "tuple"
theorem DtAt.ty {K : PySem.W.Frag} {H : Hp} {d : Dt} {v : V} (h : DtAt H d v) : TyOf K H v (.type (nmD d)) := by
  cases d with
  | non => unfold DtAt at h; subst h; exact .non
  | int i => unfold DtAt at h; subst h; exact .int i
  | str z => unfold DtAt at h; subst h; exact .str z
  | lst ds => unfold DtAt at h; obtain ⟨a, vs, rfl, h1, _⟩ := h; exact .lst h1
  | tup ds => unfold DtAt at h; obtain ⟨a, vs, rfl, h1, _⟩ := h; exact .tup h1
section
variable {K : PySem.W.Frag} {H : Hp} {Q : VK}
theorem x_isiG {x : V} {a n : String} {b : Bool} (ty : TyOf K H x (.type a)) (h : kitB a n = some b) (q : Q (.bl b) H) : rIsi K [x, .ty n] H Q := ⟨_, _, _, _, b, rfl, .ty n, .base ty, kit_ty h, q⟩
theorem x_isiTT {x : V} {tp : Addr} {a n m : String} {b c : Bool} (hT : H tp = some (.tup [.ty n, .ty m])) (ty : TyOf K H x (.type a)) (h1 : kitB a n = some b) (h2 : kitB a m = some c) (q : Q (.bl (b || c)) H) : rIsiT K [x, .ref tp] H Q :=
  ⟨_, tp, _, _, _, b || c, rfl, hT, .cons (.ty n) (.cons (.ty m) .nil), .base ty, kitAny_cons (kit_ty h1) (fun e => by subst e; exact kitAny_cons (kit_ty h2) (fun e => by subst e; exact kitAny_nil) (fun e => by subst e; rfl)) (fun e => by subst e; rfl), q⟩
end
section
variable {P : Program} {w : World} {K : PySem.W.Frag} {mg : Str → Option Value} {base : Heap}
def spSame (n : Nat) : Sp := fun vs H Q _ => ∃ (d : Dt) (v1 v2 : V), vs = [v1, v2] ∧ DtAt H d v1 ∧ DtAt H d v2 ∧ dpD d < n ∧ fewD d ∧ ∀ H', Same H H' → Q (.bl true) H'
theorem all_true : ∀ n : Nat, ((List.range n).map fun _ => true).all id = true := fun n => by simp
theorem ok_same (T : TX K mg) : ∀ n, FnD P w K mg base CX0 (n + 1) T.f_law_same T.d_law_same ["_law_actual", "_law_expected"] (spSame n) := by
  intro n
  induction n with
  | zero =>
    refine T.F_law_same.okD sc_law_same (fun vs H Q E h => ?_) (fun cdv A outer s H vs Q E hr h => ?_)
    · obtain ⟨d, v1, v2, rfl, _⟩ := h
      rfl
    · obtain ⟨d, v1, v2, rfl, _, _, h, _⟩ := h
      omega
  | succ n ih =>
  have G_law_same := ih
  refine T.F_law_same.okD (k := n + 1) sc_law_same (fun vs H Q E h => ?_) (fun cdv A outer s H vs Q E hr h => ?_)
  · obtain ⟨d, v1, v2, rfl, _⟩ := h
    rfl
  obtain ⟨d, v1, v2, rfl, h1, h2, hd, hf, k⟩ := h
  refine ⟨_, (pss_cons (ps_if (pt_val (pe_callB (kc_isiT K) (by rfl) T.z_isinstance (by decide +kernel) (pa_cons (pv 1) (pa_cons (pe_tup (pa_cons (pe_bltn (v := .ty "tuple") (by rfl) T.z_tuple (by decide +kernel) rfl) (pa_cons (pe_bltn (v := .ty "list") (by rfl) T.z_list (by decide +kernel) rfl) pa_nil))) pa_nil))))
  (pss_cons (ps_if (PW.pt (pw_or (pt_cmpR op_ne (pe_callB (kc_isi K) (by rfl) T.z_isinstance (by decide +kernel) (pa_cons (pv 0) (pa_cons (pe_bltn (v := .ty "tuple") (by rfl) T.z_tuple (by decide +kernel) rfl) pa_nil))) (pe_callB (kc_isi K) (by rfl) T.z_isinstance (by decide +kernel) (pa_cons (pv 1) (pa_cons (pe_bltn (v := .ty "tuple") (by rfl) T.z_tuple (by decide +kernel) rfl) pa_nil))) (nomark _)) (pw_or1 (pt_cmpR op_ne (pe_callB (kc_isi K) (by rfl) T.z_isinstance (by decide +kernel) (pa_cons (pv 0) (pa_cons (pe_bltn (v := .ty "list") (by rfl) T.z_list (by decide +kernel) rfl) pa_nil))) (pe_callB (kc_isi K) (by rfl) T.z_isinstance (by decide +kernel) (pa_cons (pv 1) (pa_cons (pe_bltn (v := .ty "list") (by rfl) T.z_list (by decide +kernel) rfl) pa_nil))) (nomark _)))))
  (pss_one (ps_ret pe_bl))
  pss_nil)
  (pss_one (ps_ret (pe_and (pe_cmpR op_eq (pe_callB (kl_len K) (by rfl) T.z_len (by decide +kernel) (pa_cons (pv 0) pa_nil)) (pe_callB (kl_len K) (by rfl) T.z_len (by decide +kernel) (pa_cons (pv 1) pa_nil)) (nomark _)) (pe_one (pe_callB (kc_all K rfl) (by rfl) T.z_all (by decide +kernel) (pa_cons (pe_lc (own := [("_law_k", 2)]) (by rfl) sc_law_same.nd (pi_range1 (by rfl) T.z_range (pa_cons (pe_callB (kl_len K) (by rfl) T.z_len (by decide +kernel) (pa_cons (pv 1) pa_nil)) pa_nil)) (blkOk_by (N := ["_law_actual", "_law_expected", "_law_k"]) (sc := (defScope s_law_same)) (by decide +kernel)) (fun _ _ _ _ _ => (pg_name (i := 2) sc_law_same.nd rfl (Or.inl rfl))) (fun _ _ _ _ _ => pts_nil) (fun _ _ _ _ _ => (pe_callD G_law_same (hr.mono (by omega)) (by rfl) T.m_law_same T.F_law_same.kp T.b_law_same .nil pass0 (pa_cons (pe_ix (kx_seq K) (pv 0) (pv 2) (fun _ _ => rfl)) (pa_cons (pe_ix (kx_seq K) (pv 1) (pv 2) (fun _ _ => rfl)) pa_nil))))) pa_nil)))))))
  pss_nil)
  (pss_cons (ps_if (pt_val (pe_callB (kc_isi K) (by rfl) T.z_isinstance (by decide +kernel) (pa_cons (pv 1) (pa_cons (pe_bltn (v := .ty "str") (by rfl) T.z_str (by decide +kernel) rfl) pa_nil))))
  (pss_one (ps_ret (pe_and (pe_callB (kc_isi K) (by rfl) T.z_isinstance (by decide +kernel) (pa_cons (pv 0) (pa_cons (pe_bltn (v := .ty "str") (by rfl) T.z_str (by decide +kernel) rfl) pa_nil))) (pe_one (pe_cmpR op_eq (pv 0) (pv 1) (nomark _))))))
  pss_nil)
  (pss_cons (ps_if (pt_cmpR or_isN (pv 1) pe_non (nomark _))
  (pss_one (ps_ret (pe_cmpR or_isN (pv 0) pe_non (nomark _))))
  pss_nil)
  (pss_cons (ps_if (PW.pt (pw_or (pt_val (pe_callB (kc_isi K) (by rfl) T.z_isinstance (by decide +kernel) (pa_cons (pv 1) (pa_cons (pe_bltn (v := .ty "bool") (by rfl) T.z_bool (by decide +kernel) rfl) pa_nil)))) (pw_or1 (pt_val (pe_callB (kc_isi K) (by rfl) T.z_isinstance (by decide +kernel) (pa_cons (pv 0) (pa_cons (pe_bltn (v := .ty "bool") (by rfl) T.z_bool (by decide +kernel) rfl) pa_nil)))))))
  (pss_one (ps_ret (pe_and (pe_callB (kc_isi K) (by rfl) T.z_isinstance (by decide +kernel) (pa_cons (pv 1) (pa_cons (pe_bltn (v := .ty "bool") (by rfl) T.z_bool (by decide +kernel) rfl) pa_nil))) (pe_and (pe_callB (kc_isi K) (by rfl) T.z_isinstance (by decide +kernel) (pa_cons (pv 0) (pa_cons (pe_bltn (v := .ty "bool") (by rfl) T.z_bool (by decide +kernel) rfl) pa_nil))) (pe_one (pe_cmpR op_eq (pv 0) (pv 1) (nomark _)))))))
  pss_nil)
  (pss_one (ps_ret (pe_and (pe_callB (kc_isi K) (by rfl) T.z_isinstance (by decide +kernel) (pa_cons (pv 0) (pa_cons (pe_bltn (v := .ty "int") (by rfl) T.z_int (by decide +kernel) rfl) pa_nil))) (pe_one (pe_cmpR op_eq (pv 0) (pv 1) (nomark _)))))))))), ?_⟩
  walk_at "go"
  refine ⟨by show 2 ≤ sizeLine; decide, fun tp htp => ?_⟩
  have s1 : Same H (upd H tp (.tup [.ty "tuple", .ty "list"])) := Same.new htp
  have hT : (upd H tp (.tup [.ty "tuple", .ty "list"])) tp = some (.tup [.ty "tuple", .ty "list"]) := upd_same
  generalize upd H tp (.tup [.ty "tuple", .ty "list"]) = H1 at s1 hT
  have h1 := h1.s s1
  have h2 := h2.s s1
  cases d with
  | non =>
    unfold DtAt at h1 h2
    subst h1 h2
    have t2 : TyOf K H1 .non (.type "NoneType") := .non
    walk_at "go"
    refine x_isiTT hT t2 (b := false) (c := false) (by decide +kernel) (by decide +kernel) ?_
    refine x_bl ?_
    refine iteF ?_
    walk_at "go"
    refine x_isiG t2 (b := false) (by decide +kernel) ?_
    walk_at "go"
    refine iteT ?_
    walk_at "go"
    exact k _ s1
  | int i =>
    unfold DtAt at h1 h2
    subst h1 h2
    have t2 : TyOf K H1 (.int i) (.type "int") := .int i
    walk_at "go"
    refine x_isiTT hT t2 (b := false) (c := false) (by decide +kernel) (by decide +kernel) ?_
    refine x_bl ?_
    refine iteF ?_
    walk_at "go"
    refine x_isiG t2 (b := false) (by decide +kernel) ?_
    walk_at "go"
    refine iteF ?_
    walk_at "go"
    refine x_isiG t2 (b := false) (by decide +kernel) ?_
    walk_at "go"
    refine x_isiG t2 (b := false) (by decide +kernel) ?_
    walk_at "go"
    refine x_isiG t2 (b := true) (by decide +kernel) ?_
    walk_at "go"
    have := k _ s1
    simpa using this
  | str z =>
    unfold DtAt at h1 h2
    subst h1 h2
    have t2 : TyOf K H1 (.str z) (.type "str") := .str z
    walk_at "go"
    refine x_isiTT hT t2 (b := false) (c := false) (by decide +kernel) (by decide +kernel) ?_
    refine x_bl ?_
    refine iteF ?_
    walk_at "go"
    refine x_isiG t2 (b := true) (by decide +kernel) ?_
    walk_at "go"
    refine x_isiG t2 (b := true) (by decide +kernel) ?_
    walk_at "go"
    have := k _ s1
    simpa using this
  | lst ds =>
    unfold DtAt at h1 h2
    obtain ⟨a, xs, rfl, hx, hxs⟩ := h1
    obtain ⟨b, ys, rfl, hy, hys⟩ := h2
    have t1 : TyOf K H1 (.ref a) (.type "list") := .lst hx
    have t2 : TyOf K H1 (.ref b) (.type "list") := .lst hy
    have hf : ds.length ≤ 2000 ∧ fewDs ds := hf
    have ed : dpD (.lst ds) = dpDs ds + 1 := rfl
    have px := hxs.pair
    have py := hys.pair
    have lx := Paired.length px
    have ly := Paired.length py
    walk_at "go"
    refine x_isiTT hT t2 (b := false) (c := true) (by decide +kernel) (by decide +kernel) ?_
    refine x_bl ?_
    refine iteT ?_
    walk_at "go"
    refine x_isiG t1 (b := false) (by decide +kernel) ?_
    walk_at "go"
    refine x_isiG t2 (b := false) (by decide +kernel) ?_
    refine x_neB ?_
    walk_at "go"
    refine iteF ?_
    walk_at "go"
    refine x_isiG t1 (b := true) (by decide +kernel) ?_
    walk_at "go"
    refine x_isiG t2 (b := true) (by decide +kernel) ?_
    refine x_neB ?_
    walk_at "go"
    refine iteF ?_
    walk_at "go"
    rw [lx, ly, decide_eq_true (show ((ds.length : Nat) : Int) = (ds.length : Nat) from rfl)]
    refine iteT ?_
    walk_at "go"
    rw [ly]
    refine x_lcRP (n := ds.length) (by omega) (fun i => ((List.range i).map fun _ => true).map V.bl) rfl (fun i hi => by simp; omega) (fun i H2 N1 N2 hi s2 k1 k2 => ?_) (fun D H2 s2 hD hDv => ?_)
    · obtain ⟨di, hdi⟩ : ∃ di, ds[i]? = some di := ⟨_, List.getElem?_eq_getElem hi⟩
      obtain ⟨u1, hu1, a1⟩ := Paired.at px hdi
      obtain ⟨u2, hu2, a2⟩ := Paired.at py hdi
      have hm := List.mem_of_getElem? hdi
      have := dpDs_le hm
      unfold LcTurn
      walk_at "go"
      refine ⟨rfl, ?_⟩
      walk_at "go"
      refine .inl (x_ixL (s2 _ _ hx) (atI_nat hu1) ?_)
      walk_at "go"
      refine .inl (x_ixL (s2 _ _ hy) (atI_nat hu2) ?_)
      walk_at "go"
      refine ⟨di, u1, u2, rfl, a1.s s2, a2.s s2, by omega, fewDs_mem hf.2 hm, fun H3 s3 => ?_⟩
      refine k1 _ _ s3 ?_
      rw [List.range_succ, List.map_append, List.map_append]
      rfl
    · walk_at "go"
      refine x_all hDv ?_
      rw [all_true]
      exact k _ (s1.trans s2)
  | tup ds =>
    unfold DtAt at h1 h2
    obtain ⟨a, xs, rfl, hx, hxs⟩ := h1
    obtain ⟨b, ys, rfl, hy, hys⟩ := h2
    have t1 : TyOf K H1 (.ref a) (.type "tuple") := .tup hx
    have t2 : TyOf K H1 (.ref b) (.type "tuple") := .tup hy
    have hf : ds.length ≤ 2000 ∧ fewDs ds := hf
    have ed : dpD (.tup ds) = dpDs ds + 1 := rfl
    have px := hxs.pair
    have py := hys.pair
    have lx := Paired.length px
    have ly := Paired.length py
    walk_at "go"
    refine x_isiTT hT t2 (b := true) (c := false) (by decide +kernel) (by decide +kernel) ?_
    refine x_bl ?_
    refine iteT ?_
    walk_at "go"
    refine x_isiG t1 (b := true) (by decide +kernel) ?_
    walk_at "go"
    refine x_isiG t2 (b := true) (by decide +kernel) ?_
    refine x_neB ?_
    walk_at "go"
    refine iteF ?_
    walk_at "go"
    refine x_isiG t1 (b := false) (by decide +kernel) ?_
    walk_at "go"
    refine x_isiG t2 (b := false) (by decide +kernel) ?_
    refine x_neB ?_
    walk_at "go"
    refine iteF ?_
    walk_at "go"
    refine x_lenT hx ?_
    walk_at "go"
    refine x_lenT hy ?_
    walk_at "go"
    rw [lx, ly, decide_eq_true (show ((ds.length : Nat) : Int) = (ds.length : Nat) from rfl)]
    refine iteT ?_
    walk_at "go"
    refine x_lenT hy ?_
    walk_at "go"
    rw [ly]
    refine x_lcRP (n := ds.length) (by omega) (fun i => ((List.range i).map fun _ => true).map V.bl) rfl (fun i hi => by simp; omega) (fun i H2 N1 N2 hi s2 k1 k2 => ?_) (fun D H2 s2 hD hDv => ?_)
    · obtain ⟨di, hdi⟩ : ∃ di, ds[i]? = some di := ⟨_, List.getElem?_eq_getElem hi⟩
      obtain ⟨u1, hu1, a1⟩ := Paired.at px hdi
      obtain ⟨u2, hu2, a2⟩ := Paired.at py hdi
      have hm := List.mem_of_getElem? hdi
      have := dpDs_le hm
      unfold LcTurn
      walk_at "go"
      refine ⟨rfl, ?_⟩
      walk_at "go"
      refine .inr (.inl (x_ixT (s2 _ _ hx) (atI_nat hu1) ?_))
      walk_at "go"
      refine .inr (.inl (x_ixT (s2 _ _ hy) (atI_nat hu2) ?_))
      walk_at "go"
      refine ⟨di, u1, u2, rfl, a1.s s2, a2.s s2, by omega, fewDs_mem hf.2 hm, fun H3 s3 => ?_⟩
      refine k1 _ _ s3 ?_
      rw [List.range_succ, List.map_append, List.map_append]
      rfl
    · walk_at "go"
      refine x_all hDv ?_
      rw [all_true]
      exact k _ (s1.trans s2)
end
section
variable {P : Program} {w : World} {K : PySem.W.Frag} {mg : Str → Option Value} {base : Heap}
def spLT (C Cs : Addr) : Sp := fun vs H Q _ => ∃ (rd fl g : Addr) (z : Str) (l : Bool) (ad : Role → Addr) (S : SS) (md num : Nat), vs = [.ref rd, .int (num : Nat)] ∧ ReadA C Cs H rd fl g z l ad S md ∧
  ((num < cntK l (tx z) (topK z) ∧ ∀ H' v Tt, Same H H' → trK3 l (tx z) (topK z) num = some Tt → TreeAt (Old H) H' Tt v → (∃ a, v = .ref a) → Q v H') ∨
   (altK l (tx z) (topK z) = [] ∧ ∀ H', Same H H' → Q .non H'))
theorem ok_ltree (T : TX K mg) (E_ : TErr K T.C_TreeError)
    (G_Reading_tree : FnOk P w K mg base (L2.CX P w) 204 T.f_Reading_tree T.d_Reading_tree ["self", "number"] (spRT T.C_Reading T.C_Spans T.C_TreeError)) :
    FnOk P w K mg base CX0 205 T.f_law_tree T.d_law_tree ["_law_reading", "_law_number"] (spLT T.C_Reading T.C_Spans) := by
  refine T.F_law_tree.ok sc_law_tree (fun vs H Q E h => ?_) (fun cdv A outer s H vs Q E hr h => ?_)
  · obtain ⟨rd, fl, g, z, l, ad, S, md, num, rfl, _⟩ := h
    rfl
  obtain ⟨rd, fl, g, z, l, ad, S, md, num, rfl, B, k⟩ := h
  refine ⟨_, pss_one (ps_try_only rfl rfl ⟨rfl, by decide, .inl T.mC_TreeError⟩ takes0 (fun W pn xe tk _ => pss_one (ps_ret (pe_meth (E := fun cls d H => ∀ σ, W cls d σ H) (pv 0) T.cl_Reading T.me_Reading_tree G_Reading_tree hr T.b_Reading_tree .nil (passes_call tk (fun _ _ _ _ h => h _)) (pa_cons (pv 1) pa_nil)))) (fun a oe cls d pn _ _ => pss_one (ps_ret pe_non))), ?_⟩
  obtain ⟨⟨dx, hI⟩, hF, A0, hg, G1, W1, hz⟩ := id B
  refine x_ret ?_
  refine x_meth ?_
  refine x_var rfl ?_
  refine x_methR hI rfl ?_
  walk_at "go"
  refine ⟨rd, fl, g, z, l, ad, S, md, num, rfl, B, ?_⟩
  rcases k with ⟨h1, k⟩ | ⟨h1, k⟩
  · exact .inl ⟨h1, k⟩
  · refine .inr ⟨h1, fun H' s' σ => ⟨true, E_.ex, fun _ a ha => ?_, fun q => nomatch q⟩⟩
    refine x_ret ?_
    exact k H' s'
end
/-! ### what a reading has beside the draws -/
section
variable {H H' : Hp} {dr sl : Addr}
theorem DrA.not {xs : List V} {p : Addr} (D : DrA H dr sl) (h : H p = some (.lst xs)) (hx : xs.length = 4 → ∀ a i, xs[0]? = some (V.ref a) → xs[1]? = some (V.int i) → False) : p ≠ dr := fun e => by
  obtain ⟨ns, i, big, st, h1, h2, _⟩ := D
  rw [e, h1] at h
  cases h
  exact hx rfl sl i rfl rfl
theorem DrA.nt {u : HO} {p : Addr} (D : DrA H dr sl) (h : H p = some u) (hu : ∀ xs, u ≠ .lst xs) : p ≠ dr := fun e => by
  obtain ⟨ns, i, big, st, h1, h2, _⟩ := D
  rw [e, h1] at h
  cases h
  exact hu _ rfl
theorem refs_no {α : Type} {f : α → Addr} {xs : List α} : (xs.map fun x => V.ref (f x)).length = 4 → ∀ a i, (xs.map fun x => V.ref (f x))[0]? = some (V.ref a) → (xs.map fun x => V.ref (f x))[1]? = some (V.int i) → False := fun _ a i _ h => by
  rw [List.getElem?_map] at h
  obtain ⟨y, _, e⟩ := Option.map_eq_some_iff.mp h
  cases e
theorem ints_no {α : Type} {f : α → Int} {xs : List α} : (xs.map fun x => V.int (f x)).length = 4 → ∀ a i, (xs.map fun x => V.int (f x))[0]? = some (V.ref a) → (xs.map fun x => V.int (f x))[1]? = some (V.int i) → False := fun _ a i h _ => by
  rw [List.getElem?_map] at h
  obtain ⟨y, _, e⟩ := Option.map_eq_some_iff.mp h
  cases e
theorem its_no {vs : List V} {xs : List I3} (h : Its H vs xs) : vs.length = 4 → ∀ a i, vs[0]? = some (V.ref a) → vs[1]? = some (V.int i) → False := fun _ a i _ h1 => by
  obtain ⟨y, _, b, e, _⟩ := Paired.at' h h1
  cases e
theorem Rep.sx {p : Pm} {S : SS} {th : Nat → List I3} (R : Rep p S th H) (D : DrA H dr sl) (X : SameX dr H H') : Rep p S th H' := by
  have tk : TK H H' := fun b xs h => X _ _ (D.nt h fun _ e => nomatch e) h
  refine R.keep (fun r hr o ho => X _ _ ?_ ho) tk
  obtain ⟨o', h1, h2⟩ := R.at_ r hr
  rw [ho] at h1
  cases h1
  cases r with
  | sp => exact D.nt ho (fun xs e => by rw [show o = _ from h2] at e; cases e)
  | dx => exact D.nt ho (fun xs e => by rw [show o = _ from h2] at e; cases e)
  | bn => exact D.nt ho (fun xs e => by rw [show o = _ from h2] at e; unfold dkO at e; cases e)
  | em => exact D.not (by rw [ho, show o = _ from h2]) (fun e => by cases e)
  | bl x => exact D.not (by rw [ho, show o = _ from h2]) ints_no
  | ro => exact D.not (by rw [ho, show o = _ from h2]) refs_no
  | st => exact D.not (by rw [ho, show o = _ from h2]) refs_no
  | th => exact D.not (by rw [ho, show o = _ from h2]) refs_no
  | wa => exact D.not (by rw [ho, show o = _ from h2]) refs_no
  | roA i =>
    obtain ⟨ks, _, _, e⟩ := h2
    exact D.nt ho (fun xs e' => by rw [e] at e'; unfold dkO at e'; cases e')
  | waA i =>
    obtain ⟨ks, _, _, e⟩ := h2
    exact D.nt ho (fun xs e' => by rw [e] at e'; unfold dkO at e'; cases e')
  | stA i =>
    obtain ⟨vs, hv, e⟩ := h2
    exact D.not (by rw [ho, e]) (its_no hv)
  | thA i => exact D.nt ho (fun xs e => by rw [show o = _ from h2] at e; cases e)
  | roL i x =>
    obtain ⟨es, _, e⟩ := h2
    exact D.not (by rw [ho, e]) ints_no
  | waL i x =>
    obtain ⟨ys, vs, _, hv, e⟩ := h2
    exact D.not (by rw [ho, e]) (its_no hv)
theorem GramAt.sx {l : Bool} {g : Addr} (h : GramAt H l g) (D : DrA H dr sl) (X : SameX dr H H') : GramAt H' l g := by
  obtain ⟨rl, ras, h1, h2, h3⟩ := h
  have tk : TK H H' := fun b xs h => X _ _ (D.nt h fun _ e => nomatch e) h
  refine ⟨rl, ras, tk _ _ h1, X _ _ (D.not h2 refs_no) h2, Paired.imp (fun a r q => ?_) h3⟩
  obtain ⟨sa, lab, q1, as, q2, q3⟩ := q
  exact ⟨sa, lab, tk _ _ q1, as, X _ _ (D.not q2 refs_no) q2, Paired.imp (fun _ _ z => tk _ _ z) q3⟩
theorem ReadA.sx {C Cs rd fl g : Addr} {z : Str} {l : Bool} {ad : Role → Addr} {S : SS} {md : Nat} (B : ReadA C Cs H rd fl g z l ad S md) (D : DrA H dr sl) (X : SameX dr H H') : ReadA C Cs H' rd fl g z l ad S md := by
  obtain ⟨⟨dx, h1⟩, h2, h3, h4, h5, h6, h7⟩ := B
  refine ⟨⟨dx, X _ _ (D.nt h1 fun _ e => nomatch e) h1⟩, X _ _ (D.not h2 fun e => by cases e) h2, ⟨(fun _ _ h => nomatch h), h3.own, h3.rep.sx D X⟩, h4.sx D X, h5, h6, h7⟩
theorem ReadA.s {C Cs rd fl g : Addr} {z : Str} {l : Bool} {ad : Role → Addr} {S : SS} {md : Nat} (B : ReadA C Cs H rd fl g z l ad S md) (s : Same H H') : ReadA C Cs H' rd fl g z l ad S md := B.se (same_se s)
end
/-! ### what the law reads and the program's first tree -/
def TrV (H : Hp) (l : Bool) (t : Tx) (v : V) : Prop := (due t = none ∧ v = .non) ∨ ∃ (k Tt : K38.T) (a : Addr), due t = some k ∧ v = .ref a ∧ trT l t .p 0 t.length 0 = some Tt ∧ TreeAt NF H Tt (.ref a)
theorem TrV.s {H H' : Hp} {l : Bool} {t : Tx} {v : V} (s : Same H H') (h : TrV H l t v) : TrV H' l t v := by
  rcases h with h | ⟨k, Tt, a, h1, h2, h3, h4⟩
  · exact .inl h
  · exact .inr ⟨k, Tt, a, h1, h2, h3, h4.s s⟩
def manyN (l : Bool) (t : Tx) : Nat := match due t with
  | none => 0
  | some k => if l then W k else 1
theorem cnt_many (l : Bool) (t : Tx) : cntT l t .p 0 t.length = manyN l t := by
  unfold manyN
  cases h : due t with
  | none => exact due_cnt0 h
  | some k => exact (due_ok h).c
theorem toNF {F : Addr → Prop} {H : Hp} {k : K38.T} {v : V} (h : TreeAt F H k v) : TreeAt NF H k v := TreeAt.wide (fun _ h _ => h.elim) h
theorem spLT_of {C Cs : Addr} {H : Hp} {rd fl g : Addr} {z : Str} {l : Bool} {ad : Role → Addr} {S : SS} {md : Nat} {Q : VK} {E : XK} (B : ReadA C Cs H rd fl g z l ad S md) (k : ∀ H' v, Same H H' → TrV H' l (tx z) v → Q v H') : spLT C Cs [.ref rd, .int 0] H Q E := by
  refine ⟨rd, fl, g, z, l, ad, S, md, 0, rfl, B, ?_⟩
  cases h : due (tx z) with
  | none => exact .inr ⟨due_none.mp h, fun H' s => k H' _ s (.inl ⟨h, rfl⟩)⟩
  | some kk =>
    refine .inl ⟨?_, fun H' v Tt s hT hA ⟨a, ha⟩ => ?_⟩
    · show 0 < cntT l (tx z) .p 0 (tx z).length
      rw [(due_ok h).c]
      cases l
      · exact Nat.one_pos
      · exact W_pos kk
    · subst ha
      exact k H' _ s (.inr ⟨kk, Tt, a, h, rfl, hT, toNF hA⟩)
/-! ### data -/
mutual
def dtT : K38.T → Dt
  | .leaf u => .str ⟨u.toArray⟩
  | .node r ks => .tup [.str "node", .int (r : Nat), .lst (dtTs ks)]
def dtTs : List K38.T → List Dt
  | [] => []
  | k :: ks => dtT k :: dtTs ks
end
mutual
theorem TreeAt.dt {F : Addr → Prop} {H : Hp} : ∀ {k : K38.T} {v : V}, TreeAt F H k v → DtAt H (dtT k) v
  | .leaf u, v, h => by
    unfold TreeAt at h
    obtain ⟨z, rfl, hz⟩ := h
    show DtAt H (.str ⟨u.toArray⟩) (.str z)
    unfold DtAt
    rw [show z = ⟨u.toArray⟩ from tx_ext (by rw [hz, tx_of])]
  | .node r ks, v, h => by
    unfold TreeAt at h
    obtain ⟨a, p, vs, rfl, _, h1, h2, h3⟩ := h
    show DtAt H (.tup [.str "node", .int (r : Nat), .lst (dtTs ks)]) (.ref a)
    unfold DtAt
    refine ⟨a, _, rfl, h1, ?_⟩
    refine DtsAt.of (.cons (by unfold DtAt; rfl) (.cons (by unfold DtAt; rfl) (.cons ?_ .nil)))
    unfold DtAt
    exact ⟨p, vs, rfl, h2, TreesAt.dt h3⟩
theorem TreesAt.dt {F : Addr → Prop} {H : Hp} : ∀ {ks : List K38.T} {vs : List V}, TreesAt F H ks vs → DtsAt H (dtTs ks) vs
  | [], vs, h => by
    unfold TreesAt at h
    subst h
    show DtsAt H [] []
    unfold DtsAt; rfl
  | k :: ks, vs, h => by
    unfold TreesAt at h
    obtain ⟨v, r, rfl, h1, h2⟩ := h
    show DtsAt H (dtT k :: dtTs ks) (v :: r)
    unfold DtsAt
    exact ⟨v, r, rfl, TreeAt.dt h1, TreesAt.dt h2⟩
end
mutual
theorem dpD_T : ∀ k : K38.T, dpD (dtT k) ≤ 2 * dpT k
  | .leaf u => by simp [dtT, dpD]
  | .node r ks => by
    have := dpD_Ts ks
    show dpDs [.str "node", .int (r : Nat), .lst (dtTs ks)] + 1 ≤ 2 * (dpTs ks + 1)
    show max 0 (max 0 (max (dpDs (dtTs ks) + 1) 0)) + 1 ≤ _
    omega
theorem dpD_Ts : ∀ ks : List K38.T, dpDs (dtTs ks) ≤ 2 * dpTs ks
  | [] => Nat.zero_le _
  | k :: ks => by
    have := dpD_T k
    have := dpD_Ts ks
    show max (dpD (dtT k)) (dpDs (dtTs ks)) ≤ 2 * max (dpT k) (dpTs ks)
    omega
end
theorem dtTs_len : ∀ ks : List K38.T, (dtTs ks).length = ks.length
  | [] => rfl
  | k :: ks => by show (dtTs ks).length + 1 = _; rw [dtTs_len]; rfl
mutual
theorem fewD_T : ∀ k : K38.T, wfT k → fewD (dtT k)
  | .leaf u, _ => trivial
  | .node r ks, h => by
    have h : ks.length ≤ 10 ∧ wfTs ks := h
    exact ⟨by show 3 ≤ 2000; decide, trivial, trivial, ⟨by rw [dtTs_len]; omega, fewD_Ts ks h.2⟩, trivial⟩
theorem fewD_Ts : ∀ ks : List K38.T, wfTs ks → fewDs (dtTs ks)
  | [], _ => trivial
  | k :: ks, h => by
    have h : wfT k ∧ wfTs ks := h
    exact ⟨fewD_T k h.1, fewD_Ts ks h.2⟩
end
def dtN (ns : List Nat) : Dt := .tup (ns.map fun n => .int (n : Nat))
def dtP (q : List Nat × List Nat) : Dt := .tup [dtN q.1, dtN q.2]
def dtK (st : List (List Nat × List Nat)) : Dt := .lst (st.map dtP)
theorem dtN_at {H : Hp} {a : Addr} {ns : List Nat} (h : H a = some (.tup (nats ns))) : DtAt H (dtN ns) (.ref a) := by
  unfold dtN DtAt
  refine ⟨a, _, rfl, h, DtsAt.of ?_⟩
  clear h
  induction ns with
  | nil => exact .nil
  | cons n ns ih => exact .cons (by unfold DtAt; rfl) ih
theorem dtK_at {H : Hp} {p : Addr} {ws : List V} {st : List (List Nat × List Nat)} (h : H p = some (.lst ws)) (P : Paired (PairAt H) ws st) : DtAt H (dtK st) (.ref p) := by
  unfold dtK DtAt
  refine ⟨p, ws, rfl, h, DtsAt.of ?_⟩
  clear h
  induction P with
  | nil => exact .nil
  | cons r _ ih =>
    refine .cons ?_ ih
    obtain ⟨a, pa, pb, rfl, h1, h2, h3⟩ := r
    unfold dtP DtAt
    exact ⟨a, _, rfl, h1, DtsAt.of (.cons (dtN_at h2) (.cons (dtN_at h3) .nil))⟩
theorem dpD_N (ns : List Nat) : dpD (dtN ns) ≤ 1 := by
  show dpDs (ns.map fun n => Dt.int (n : Nat)) + 1 ≤ 1
  have : dpDs (ns.map fun n => Dt.int (n : Nat)) = 0 := by
    induction ns with
    | nil => rfl
    | cons n ns ih => show max 0 (dpDs (ns.map fun n => Dt.int (n : Nat))) = 0; rw [ih]; rfl
  omega
theorem dpD_K (st : List (List Nat × List Nat)) : dpD (dtK st) ≤ 3 := by
  show dpDs (st.map dtP) + 1 ≤ 3
  have : dpDs (st.map dtP) ≤ 2 := by
    induction st with
    | nil => exact Nat.zero_le _
    | cons q st ih =>
      show max (dpD (dtP q)) (dpDs (st.map dtP)) ≤ 2
      have h1 := dpD_N q.1
      have h2 := dpD_N q.2
      have : dpD (dtP q) ≤ 2 := by
        show max (dpD (dtN q.1)) (max (dpD (dtN q.2)) 0) + 1 ≤ 2
        omega
      omega
  omega
theorem fewD_N {ns : List Nat} (h : ns.length ≤ 2000) : fewD (dtN ns) := by
  refine ⟨by simpa using h, ?_⟩
  clear h
  induction ns with
  | nil => trivial
  | cons n ns ih => exact ⟨trivial, ih⟩
theorem fewD_K {st : List (List Nat × List Nat)} (h : st.length ≤ 2000) (hs : ∀ q ∈ st, q.1.length ≤ 2000 ∧ q.2.length ≤ 2000) : fewD (dtK st) := by
  refine ⟨by simpa using h, ?_⟩
  clear h
  induction st with
  | nil => trivial
  | cons q st ih => exact ⟨⟨by show 2 ≤ 2000; decide, fewD_N (hs q (List.mem_cons_self ..)).1, fewD_N (hs q (List.mem_cons_self ..)).2, trivial⟩, ih fun q' h' => hs q' (List.mem_cons_of_mem _ h')⟩
theorem kfold_mem (a r y : Nat) (old : List LRow) : ∀ (new : List LRow) (st : List (List Nat × List Nat)) (q : List Nat × List Nat), q ∈ new.foldl (kStep a r y old) st → q ∈ st ∨ ((∃ o ∈ old, o.1 = q.1) ∧ ∃ x ∈ new, x.1 = q.2)
  | [], st, q, h => .inl h
  | x :: new, st, q, h => by
    rw [List.foldl_cons] at h
    rcases kfold_mem a r y old new _ q h with h | ⟨h1, x', h2, h3⟩
    · unfold kStep at h
      split at h
      · exact .inl h
      · rcases List.mem_append.mp h with h | h
        · exact .inl h
        · obtain ⟨p, hp, rfl⟩ := List.mem_map.mp h
          have hp := List.mem_of_mem_take hp
          unfold cands at hp
          obtain ⟨o, ho, rfl⟩ := List.mem_map.mp hp
          exact .inr ⟨⟨o, (List.mem_filter.mp ho).1, rfl⟩, x, List.mem_cons_self .., rfl⟩
    · exact .inr ⟨h1, x', List.mem_cons_of_mem _ h2, h3⟩
theorem keptM_few {a r y : Nat} {old new : K38.T} (h1 : dpT old ≤ 300) (h2 : dpT new ≤ 300) (h3 : nnT new ≤ 1000) : fewD (dtK (keptM a r y (lnod old [] 0) (lnod new [] 0))) := by
  refine fewD_K ?_ fun q hq => ?_
  · have := kfold_len a r y (lnod old [] 0) (lnod new [] 0) []
    rw [lnod_len] at this
    simp only [List.length_nil] at this
    unfold keptM
    omega
  · rcases kfold_mem a r y _ _ _ q hq with h | ⟨⟨o, ho, e1⟩, x, hx, e2⟩
    · cases h
    · have b1 := lnod_top ho
      have b2 := lnod_top hx
      rw [← e1, ← e2]
      omega
theorem Fit.arg {N : Nat} {k : K38.T} {H : Hp} {v : V} (f : Fit N k) (hN : N ≤ 192) (n : ∃ r ks, k = .node r ks) (h : TreeAt NF H k v) : KArg H NF k v := ⟨h, n, by have := f.dp; omega, f.wf, by have := f.sz; omega, by have := f.nn; omega⟩
section
variable {P : Program} {w : World} {K : PySem.W.Frag} {mg : Str → Option Value} {base : Heap}
theorem x_cutR {t u : TS} {D : Ends} {σ : L2.St} {H : Hp} (J : L2.St → Hp → Prop) (h : ∀ N : L2.St → Hp → Prop, (∀ σ' H', J σ' H' → N σ' H') → t { D with nx := N } σ H) (q : ∀ σ' H', J σ' H' → u D σ' H') : tSeq t u D σ H := x_cut J q h
theorem bl_not_self {c : Prop} [Decidable c] (h : c) : (!decide c) = false := by simp [h]
theorem DrA.hp {H : Hp} {dr sl : Addr} (D : DrA H dr sl) : H dr ≠ none := by
  obtain ⟨ns, i, big, st, h1, _⟩ := D
  rw [h1]; simp
def spLaw (K : PySem.W.Frag) : Sp := fun vs H Q _ => ∃ (sc : Addr) (ns : List Int), vs = [.ref sc] ∧ SqL K H sc (ns.map V.int) ∧ ns.length ≤ 63 ∧ ∀ H', Q (.bl true) H'
theorem ok_law (T : TX K mg) (E_ : TErr K T.C_TreeError)
    (G_law_draws : FnOk P w K mg base CX0 1 T.f_law_draws T.d_law_draws ["_law_script"] (spDraws K))
    (G_law_draw : FnOk P w K mg base CX0 1 T.f_law_draw T.d_law_draw ["_law_draws_here", "_law_limit"] spDraw)
    (G_law_grammar : FnOk P w K mg base CX0 1 T.f_law_grammar T.d_law_grammar ["_law_loose"] spGram)
    (G_law_items : FnOk P w K mg base CX0 5 T.f_law_items T.d_law_items ["_law_draws_here", "_law_deep"] (fun vs H Q E => (∃ dr : V, ∃ d : Nat, vs = [dr, .int (d : Nat)] ∧ d < 3) ∧ spItems vs H Q E))
    (G_read : FnOk P w K mg base CX0 6 T.f_read T.d_read ["grammar", "filters", "text"] (spRead T.C_Reading T.C_Spans))
    (G_law_read : FnOk P w K mg base CX0 151 T.f_law_read T.d_law_read ["_law_text"] spLR)
    (G_law_ways : FnOk P w K mg base CX0 201 T.f_law_ways T.d_law_ways ["_law_one"] (spWays 200))
    (G_law_same : FnD P w K mg base CX0 401 T.f_law_same T.d_law_same ["_law_actual", "_law_expected"] (spSame 400))
    (G_count : FnOk P w K mg base CX0 203 T.f_count T.d_count ["grammar", "filters", "text"] spCount)
    (G_law_tree : FnOk P w K mg base CX0 205 T.f_law_tree T.d_law_tree ["_law_reading", "_law_number"] (spLT T.C_Reading T.C_Spans))
    (G_Reading_tree : FnOk P w K mg base (L2.CX P w) 204 T.f_Reading_tree T.d_Reading_tree ["self", "number"] (spRT T.C_Reading T.C_Spans T.C_TreeError))
    (G_tree : FnOk P w K mg base CX0 204 T.f_tree T.d_tree ["grammar", "filters", "text", "number"] spTree)
    (G_law_edit : FnOk P w K mg base CX0 6 T.f_law_edit T.d_law_edit ["_law_draws_here", "_law_text"] spEdit)
    (G_read_again : FnOk P w K mg base CX0 7 T.f_read_again T.d_read_again ["reading", "edit"] (spRA T.C_Reading T.C_Spans))
    (G_kept : FnOk P w K mg base CX0 199 T.f_kept T.d_kept ["old", "new", "edit"] spKept)
    (G_law_kept : FnOk P w K mg base CX0 171 T.f_law_kept T.d_law_kept ["_law_old", "_law_new", "_law_edit_here"] spKept) :
    FnOk P w K mg base CX0 206 T.f_law T.d_law ["_law_script"] (spLaw K) := by
  refine T.F_law.ok sc_law (fun vs H Q E h => ?_) (fun cdv A outer s H vs Q E hr h => ?_)
  · obtain ⟨sc, ns, rfl, _⟩ := h
    rfl
  obtain ⟨sc, ns, rfl, hS, hlen, k⟩ := h
  refine ⟨_, (pss_cons (ps_set (i := 1) sc_law.nd rfl (Or.inl rfl) (pe_call G_law_draws (hr.mono (by decide)) (by rfl) T.m_law_draws T.F_law_draws.kp T.b_law_draws .nil pass0 (pa_cons (pv 0) pa_nil)))
  (pss_cons (ps_set (i := 2) sc_law.nd rfl (Or.inl rfl) (pe_cmpR op_eq (pe_call G_law_draw (hr.mono (by decide)) (by rfl) T.m_law_draw T.F_law_draw.kp T.b_law_draw .nil pass0 (pa_cons (pv 1) (pa_cons pe_int pa_nil))) pe_int (nomark _)))
  (pss_cons (ps_set (i := 3) sc_law.nd rfl (Or.inr rfl) (pe_call G_law_grammar (hr.mono (by decide)) (by rfl) T.m_law_grammar T.F_law_grammar.kp T.b_law_grammar .nil pass0 (pa_cons (pv 2) pa_nil)))
  (pss_cons (ps_set (i := 4) sc_law.nd rfl (Or.inr rfl) pe_str)
  (pss_cons (ps_for PassesOwn.never rfl (pi_range1 (by rfl) T.z_range (pa_cons (pe_op op_add pe_int (pe_call G_law_draw (hr.mono (by decide)) (by rfl) T.m_law_draw T.F_law_draw.kp T.b_law_draw .nil pass0 (pa_cons (pv 1) (pa_cons pe_int pa_nil)))) pa_nil)) (pg_name (i := 5) sc_law.nd rfl (Or.inl rfl))
  (pss_one (ps_set (i := 4) sc_law.nd rfl (Or.inr rfl) (pe_ifExp (pt_cmpR op_lt (pe_callB cl_lenS (by rfl) T.z_len (by decide +kernel) (pa_cons (pv 4) pa_nil)) pe_int (nomark _)) (pe_op or_addS (pe_op or_addS (pe_op or_addS (pe_op or_addS (pv 4) (pe_ix (kx_list K) (pe_lst (pa_cons pe_str (pa_cons pe_str (pa_cons pe_str pa_nil)))) (pe_call G_law_draw (hr.mono (by decide)) (by rfl) T.m_law_draw T.F_law_draw.kp T.b_law_draw .nil pass0 (pa_cons (pv 1) (pa_cons pe_int pa_nil))) (fun _ _ => rfl))) pe_str) (pe_call G_law_items (hr.mono (by decide)) (by rfl) T.m_law_items T.F_law_items.kp T.b_law_items .nil pass0 (pa_cons (pv 1) (pa_cons pe_int pa_nil)))) pe_str) (pv 4)))))
  (pss_cons (ps_set (i := 4) sc_law.nd rfl (Or.inr rfl) (pe_slice sl_str (pv 4) po_none (po_some pe_int)))
  (pss_cons (ps_set (i := 6) sc_law.nd rfl (Or.inr rfl) (pe_call G_read (hr.mono (by decide)) (by rfl) T.m_read T.F_read.kp T.b_read .nil pass0 (pa_cons (pv 3) (pa_cons (pe_lst pa_nil) (pa_cons (pv 4) pa_nil)))))
  (pss_cons (ps_set (i := 7) sc_law.nd rfl (Or.inl rfl) (pe_op op_add (pe_callB cl_lenS (by rfl) T.z_len (by decide +kernel) (pa_cons (pv 4) pa_nil)) pe_int))
  (pss_cons (ps_for PassesOwn.never rfl (pi_range1 (by rfl) T.z_range (pa_cons (pe_op op_add pe_int (pe_call G_law_draw (hr.mono (by decide)) (by rfl) T.m_law_draw T.F_law_draw.kp T.b_law_draw .nil pass0 (pa_cons (pv 1) (pa_cons pe_int pa_nil)))) pa_nil)) (pg_name (i := 8) sc_law.nd rfl (Or.inl rfl))
  (pss_cons (ps_set (i := 9) sc_law.nd rfl (Or.inl rfl) (pe_call G_law_read (hr.mono (by decide)) (by rfl) T.m_law_read T.F_law_read.kp T.b_law_read .nil pass0 (pa_cons (pv 4) pa_nil)))
  (pss_cons (ps_set (i := 10) sc_law.nd rfl (Or.inl rfl) (pe_ifExp (pt_cmpR or_isN (pv 9) pe_non (nomark _)) pe_int (pe_ifExp (pt_val (pv 2)) (pe_call G_law_ways (hr.mono (by decide)) (by rfl) T.m_law_ways T.F_law_ways.kp T.b_law_ways .nil pass0 (pa_cons (pv 9) pa_nil)) pe_int)))
  (pss_cons (ps_if (PW.pt (pw_or (pt_cmpR op_ne (kfld K (pv 6) rfl) (pv 4) (nomark _)) (pw_or (pt_cmpR op_ne (kfld K (pv 6) rfl) (pv 7) (nomark _)) (pw_or1 (pt_not (pt_val (pe_callD G_law_same (RmD.of hr (by decide) (by decide)) (by rfl) T.m_law_same T.F_law_same.kp T.b_law_same .nil pass0 (pa_cons (pe_call G_count (hr.mono (by decide)) (by rfl) T.m_count T.F_count.kp T.b_count .nil pass0 (pa_cons (pv 3) (pa_cons (pe_lst pa_nil) (pa_cons (pv 4) pa_nil)))) (pa_cons (pv 10) pa_nil)))))))))
  (pss_one (ps_ret pe_bl))
  pss_nil)
  (pss_cons (ps_if (PW.pt (pw_or (PW.pt (pw_and (pt_not (pt_val (pv 2))) (pw_and1 (pt_not (pt_val (pe_callD G_law_same (RmD.of hr (by decide) (by decide)) (by rfl) T.m_law_same T.F_law_same.kp T.b_law_same .nil pass0 (pa_cons (pe_call G_law_tree (hr.mono (by decide)) (by rfl) T.m_law_tree T.F_law_tree.kp T.b_law_tree .nil pass0 (pa_cons (pv 6) (pa_cons pe_int pa_nil))) (pa_cons (pv 9) pa_nil)))))))) (pw_or1 (pt_cmpR op_ne (pe_cmpR or_isN (pe_call G_law_tree (hr.mono (by decide)) (by rfl) T.m_law_tree T.F_law_tree.kp T.b_law_tree .nil pass0 (pa_cons (pv 6) (pa_cons pe_int pa_nil))) pe_non (nomark _)) (pe_cmpR or_isN (pv 9) pe_non (nomark _)) (nomark _)))))
  (pss_one (ps_ret pe_bl))
  pss_nil)
  (pss_cons (ps_if (PW.pt (pw_and (pt_val (pv 2)) (pw_and1 (pt_not (pt_val (pe_callB (kc_all K rfl) (by rfl) T.z_all (by decide +kernel) (pa_cons (pe_lc (own := [("_law_k", 5)]) (by rfl) sc_law.nd (pi_range1 (by rfl) T.z_range (pa_cons (pe_callB (cl_min rfl) (by rfl) T.z_min (by decide +kernel) (pa_cons (pv 10) (pa_cons pe_int pa_nil))) pa_nil)) (blkOk_by (N := ["_law_script", "_law_draws_here", "_law_loose", "_law_grammar_here", "_law_text", "_law_k", "_law_reading", "_law_made", "_law_turn", "_law_due", "_law_many", "_law_edit_here", "_law_old", "_law_again", "_law_new"]) (sc := (defScope s_law)) (by decide +kernel)) (fun _ _ _ _ _ => (pg_name (i := 5) sc_law.nd rfl (Or.inl rfl))) (fun _ _ _ _ _ => pts_nil) (fun _ _ _ _ _ => (pe_callD G_law_same (RmD.of hr (by decide) (by decide)) (by rfl) T.m_law_same T.F_law_same.kp T.b_law_same .nil pass0 (pa_cons (pe_meth (pv 6) T.cl_Reading T.me_Reading_tree G_Reading_tree (hr.mono (by decide)) T.b_Reading_tree .nil passL (pa_cons (pv 5) pa_nil)) (pa_cons (pe_call G_tree (hr.mono (by decide)) (by rfl) T.m_tree T.F_tree.kp T.b_tree .nil pass0 (pa_cons (pv 3) (pa_cons (pe_lst pa_nil) (pa_cons (pv 4) (pa_cons (pv 5) pa_nil))))) pa_nil))))) pa_nil)))))))
  (pss_one (ps_ret pe_bl))
  pss_nil)
  (pss_cons (ps_set (i := 11) sc_law.nd rfl (Or.inl rfl) (pe_call G_law_edit (hr.mono (by decide)) (by rfl) T.m_law_edit T.F_law_edit.kp T.b_law_edit .nil pass0 (pa_cons (pv 1) (pa_cons (pv 4) pa_nil))))
  (pss_cons (ps_set (i := 12) sc_law.nd rfl (Or.inl rfl) (pe_call G_law_tree (hr.mono (by decide)) (by rfl) T.m_law_tree T.F_law_tree.kp T.b_law_tree .nil pass0 (pa_cons (pv 6) (pa_cons pe_int pa_nil))))
  (pss_cons (ps_set (i := 13) sc_law.nd rfl (Or.inl rfl) (pe_call G_read_again (hr.mono (by decide)) (by rfl) T.m_read_again T.F_read_again.kp T.b_read_again .nil pass0 (pa_cons (pv 6) (pa_cons (pv 11) pa_nil))))
  (pss_cons (ps_if (PW.pt (pw_or (pt_not (pt_val (pe_callD G_law_same (RmD.of hr (by decide) (by decide)) (by rfl) T.m_law_same T.F_law_same.kp T.b_law_same .nil pass0 (pa_cons (pe_call G_law_tree (hr.mono (by decide)) (by rfl) T.m_law_tree T.F_law_tree.kp T.b_law_tree .nil pass0 (pa_cons (pv 6) (pa_cons pe_int pa_nil))) (pa_cons (pv 12) pa_nil))))) (pw_or1 (pt_cmpR op_ne (kfld K (pv 6) rfl) (pv 4) (nomark _)))))
  (pss_one (ps_ret pe_bl))
  pss_nil)
  (pss_cons (ps_set (i := 4) sc_law.nd rfl (Or.inr rfl) (pe_op or_addS (pe_op or_addS (pe_slice sl_str (pv 4) po_none (po_some (pe_ix (kx_tup K) (pv 11) pe_int (fun _ _ => rfl)))) (pe_ix (kx_tup K) (pv 11) pe_int (fun _ _ => rfl))) (pe_slice sl_str (pv 4) (po_some (pe_op op_add (pe_ix (kx_tup K) (pv 11) pe_int (fun _ _ => rfl)) (pe_ix (kx_tup K) (pv 11) pe_int (fun _ _ => rfl)))) po_none)))
  (pss_cons (ps_set (i := 7) sc_law.nd rfl (Or.inl rfl) (pe_op op_sub (pe_op op_add (pe_callB cl_lenS (by rfl) T.z_len (by decide +kernel) (pa_cons (pv 4) pa_nil)) pe_int) (pe_ix (kx_tup K) (pv 11) pe_int (fun _ _ => rfl))))
  (pss_cons (ps_set (i := 6) sc_law.nd rfl (Or.inr rfl) (pv 13))
  (pss_cons (ps_set (i := 14) sc_law.nd rfl (Or.inl rfl) (pe_call G_law_tree (hr.mono (by decide)) (by rfl) T.m_law_tree T.F_law_tree.kp T.b_law_tree .nil pass0 (pa_cons (pv 6) (pa_cons pe_int pa_nil))))
  (pss_one (ps_if (PW.pt (pw_and (pt_cmpR or_notN (pv 12) pe_non (nomark _)) (pw_and (pt_cmpR or_notN (pv 14) pe_non (nomark _)) (pw_and1 (pt_not (pt_val (pe_callD G_law_same (RmD.of hr (by decide) (by decide)) (by rfl) T.m_law_same T.F_law_same.kp T.b_law_same .nil pass0 (pa_cons (pe_call G_kept (hr.mono (by decide)) (by rfl) T.m_kept T.F_kept.kp T.b_kept .nil pass0 (pa_cons (pv 12) (pa_cons (pv 14) (pa_cons (pv 11) pa_nil)))) (pa_cons (pe_call G_law_kept (hr.mono (by decide)) (by rfl) T.m_law_kept T.F_law_kept.kp T.b_law_kept .nil pass0 (pa_cons (pv 12) (pa_cons (pv 14) (pa_cons (pv 11) pa_nil)))) pa_nil)))))))))
  (pss_one (ps_ret pe_bl))
  pss_nil))))))))))))))))
  (pss_one (ps_ret (pe_and (pe_cmpR op_eq (kfld K (pv 6) rfl) (pv 4) (nomark _)) (pe_and (pe_cmpR op_eq (kfld K (pv 6) rfl) (pv 7) (nomark _)) (pe_one (pe_cmpR op_eq (pe_cmpR or_isN (pe_call G_law_tree (hr.mono (by decide)) (by rfl) T.m_law_tree T.F_law_tree.kp T.b_law_tree .nil pass0 (pa_cons (pv 6) (pa_cons pe_int pa_nil))) pe_non (nomark _)) (pe_cmpR or_isN (pe_call G_law_read (hr.mono (by decide)) (by rfl) T.m_law_read T.F_law_read.kp T.b_law_read .nil pass0 (pa_cons (pv 4) pa_nil)) pe_non (nomark _)) (nomark _)))))))))))))))), ?_⟩
  obtain ⟨cl, n1, n2, n3, n4, n5⟩ := T.rdC
  walk_at "go"
  refine ⟨sc, ns, rfl, hS, fun H1 dr sl s1 hdr hsl D1 => ?_⟩
  walk_at "go"
  refine ⟨dr, sl, 4, rfl, D1, by decide, by decide, fun H2 v2 X2 D2 hv2 => ?_⟩
  walk_at "go"
  generalize decide (((v2 : Nat) : Int) = 0) = l
  refine ⟨l, rfl, fun H3 g s3 hg => ?_⟩
  have D3 := D2.same s3
  walk_at "go"
  refine ⟨dr, sl, 6, rfl, D3, by decide, by decide, fun H4 n6 X4 D4 hn6 => ?_⟩
  have hg4 := hg.sx D3 X4
  walk_at "go"
  rw [show ((1 : Int) + (n6 : Nat)) = ((n6 + 1 : Nat) : Int) by omega]
  refine x_forR1R (by omega) (fun i σ H' => ∃ (v5 : Option V) (z : Str), σ = [some (.ref sc), some (.ref dr), some (.bl l), some (.ref g), some (.str z), v5, none, none, none, none, none, none, none, none, none] ∧ DrA H' dr sl ∧ GramAt H' l g ∧ z.length ≤ 175)
    ⟨none, "", rfl, D4, hg4, by decide⟩ ?_ ?_
  · rintro i σ H5 hi ⟨v5, z, rfl, D5, hg5, hz⟩
    walk_at "go"
    by_cases c : z.length < 40
    · rw [decide_eq_true (show ((z.length : Nat) : Int) < 40 by omega)]
      refine iteT ?_
      walk_at "go"
      refine ⟨by show 3 ≤ sizeLine; decide, fun lp hlp => ?_⟩
      have D6 := D5.same (Same.new (o := .lst [.str "a", .str "bb", .str "cab"]) hlp)
      have hg6 := hg5.same (Same.new (o := .lst [.str "a", .str "bb", .str "cab"]) hlp)
      walk_at "go"
      refine ⟨dr, sl, 3, rfl, D6, by decide, by decide, fun H7 m7 X7 D7 hm7 => ?_⟩
      have hg7 := hg6.sx D6 X7
      have ndl : lp ≠ dr := fun e => by rw [e] at hlp; exact D5.hp hlp
      have hl7 := X7 _ _ ndl upd_same
      obtain ⟨u, hu, hul⟩ : ∃ u : Str, ([V.str "a", V.str "bb", V.str "cab"] : List V)[m7]? = some (V.str u) ∧ u.length ≤ 3 := by
        have : m7 = 0 ∨ m7 = 1 ∨ m7 = 2 := by omega
        rcases this with h | h | h <;> subst h <;> exact ⟨_, rfl, by decide⟩
      have iu := atI_nat hu
      have l1 : (z ++ u).length ≤ 42 := by rw [len_app]; omega
      have l2 : (("=" : Str)).length ≤ 1 := by decide
      have l3 : (z ++ u ++ ("=" : Str)).length ≤ 43 := by rw [len_app]; omega
      have l4 : ((";" : Str)).length ≤ 1 := by decide
      walk_at "go"
      refine ⟨⟨_, 2, rfl, by decide⟩, dr, sl, 2, rfl, D7, by decide, fun H8 y X8 D8 hy => ?_⟩
      have hy' : y.length ≤ 131 := hy
      have hg8 := hg7.sx D7 X8
      have l5 : (z ++ u ++ ("=" : Str) ++ y).length ≤ 174 := by rw [len_app (z ++ u ++ ("=" : Str)) y]; omega
      walk_at "go"
      exact ⟨_, _, rfl, D8, hg8, by rw [len_app (z ++ u ++ ("=" : Str) ++ y) ";"]; omega⟩
    · rw [decide_eq_false (show ¬ ((z.length : Nat) : Int) < 40 by omega)]
      refine iteF ?_
      walk_at "go"
      exact ⟨_, z, rfl, D5, hg5, hz⟩
  · rintro σ H5 ⟨v5, z0, rfl, D5, hg5, hz0⟩
    walk_at "go"
    refine ⟨z0, rfl, small__ (by omega), ?_⟩
    obtain ⟨z, hz⟩ : ∃ z, z = cutS z0 none (some (60 : Int)) := ⟨_, rfl⟩
    have hzl : z.length ≤ 60 := by
      rw [hz, len_tx, show (60 : Int) = ((60 : Nat) : Int) from rfl, tx_cutTo, List.length_take]; omega
    rw [← hz]
    walk_at "go"
    refine ⟨Nat.zero_le _, fun fl hfl => ?_⟩
    have D6 := D5.same (Same.new (o := .lst []) hfl)
    have hg6 := hg5.same (Same.new (o := .lst []) hfl)
    walk_at "go"
    refine ⟨g, fl, z, l, rfl, hg6, upd_same, by omega, fun H7 rd ad S s7 B7 => ?_⟩
    have D7 := D6.same s7
    walk_at "go"
    refine ⟨dr, sl, 3, rfl, D7, by decide, by decide, fun H8 n8 X8 D8 hn8 => ?_⟩
    have B8 := B7.sx D7 X8
    walk_at "go"
    rw [show ((1 : Int) + (n8 : Nat)) = ((n8 + 1 : Nat) : Int) by omega]
    refine x_forR1R (by omega) (fun i σ H' => ∃ (v5 v8 v9 v10 v11 v12 v13 v14 : Option V) (z : Str) (rd fl : Addr) (ad : Role → Addr) (S : SS) (md : Nat), σ = [some (.ref sc), some (.ref dr), some (.bl l), some (.ref g), some (.str z), v5, some (.ref rd), some (.int (md : Nat)), v8, v9, v10, v11, v12, v13, v14] ∧ DrA H' dr sl ∧
        ReadA T.C_Reading T.C_Spans H' rd fl g z l ad S md ∧ z.length ≤ 60 + 44 * i)
      ⟨v5, none, none, none, none, none, none, none, z, rd, fl, ad, S, z.length + 1, rfl, D8, B8, by omega⟩ ?_ ?_
    · clear hz hzl B8 B7 D7 D6 hg6 hfl hg5 D5 hz0
      rintro i σ H9 hi ⟨v5, v8, v9, v10, v11, v12, v13, v14, z, rd, fl, ad, S, md, rfl, D9, B9, hzl⟩
      have hz192 : z.length ≤ 148 := by omega
      have hlt := len_tx z
      obtain ⟨dx, hI⟩ := B9.I
      have hg9 := B9.G
      walk_at "go"
      refine ⟨z, rfl, by omega, fun H10 vd s10 hd => ?_⟩
      have D10 := D9.same s10
      have B10 := B9.s s10
      have fitD : ∀ {kk}, due (tx z) = some kk → Fit (tx z).length kk := fun h => due_fit h
      refine x_name ?_
      dsimp only
      -- the number of trees
      refine x_cutR (fun σ' H' => σ' = [some (.ref sc), some (.ref dr), some (.bl l), some (.ref g), some (.str z), v5, some (.ref rd), some (.int (md : Nat)), some (.int (i : Nat)), some vd, some (.int (manyN l (tx z) : Nat)), v11, v12, v13, v14] ∧ Same H10 H') ?_ ?_
      · intro N hN
        walk_at "go"
        cases hdu : due (tx z) with
        | none =>
          rw [hdu] at hd
          have hd : vd = .non := hd
          subst hd
          refine iteT ?_
          walk_at "go"
          exact hN _ _ ⟨by unfold manyN; rw [hdu]; rfl, Same.refl _⟩
        | some kk =>
          rw [hdu] at hd
          obtain ⟨⟨va, rfl⟩, hk⟩ := hd
          have F := fitD hdu
          refine iteF ?_
          walk_at "go"
          cases l with
          | false =>
            refine iteF ?_
            walk_at "go"
            exact hN _ _ ⟨by unfold manyN; rw [hdu]; rfl, Same.refl _⟩
          | true =>
            refine iteT ?_
            walk_at "go"
            refine ⟨_, kk, _, rfl, hk, by have := F.dp; omega, by have := F.dp; omega, by have := F.nn; omega, F.wf, F.w3, fun H' s' => ?_⟩
            walk_at "go"
            exact hN _ _ ⟨by unfold manyN; rw [hdu]; rfl, s'⟩
      rintro σ' H11 ⟨rfl, s11⟩
      have hd11 : DueAt NF H11 (due (tx z)) vd := by
        cases hdu : due (tx z) with
        | none => rw [hdu] at hd; exact hd
        | some kk => rw [hdu] at hd; exact ⟨hd.1, toNF (hd.2.s s11)⟩
      clear hd
      have D11 := D10.same s11
      have B11 := B10.s s11
      -- the text, the number of rows, the count
      refine x_cutR (fun σ' H' => σ' = [some (.ref sc), some (.ref dr), some (.bl l), some (.ref g), some (.str z), v5, some (.ref rd), some (.int (md : Nat)), some (.int (i : Nat)), some vd, some (.int (manyN l (tx z) : Nat)), v11, v12, v13, v14] ∧ Same H11 H') ?_ ?_
      · intro N hN
        obtain ⟨dx', hI11⟩ := B11.I
        walk_at "go"
        rw [bl_not_self (show z = z from rfl)]
        refine iteF ?_
        walk_at "go"
        rw [bl_not_self (show ((md : Nat) : Int) = (md : Nat) from rfl)]
        refine iteF ?_
        walk_at "go"
        refine ⟨Nat.zero_le _, fun f2 hf2 => ?_⟩
        have s12 := Same.new (o := .lst []) hf2
        walk_at "go"
        refine ⟨g, f2, z, l, rfl, B11.G.same s12, upd_same, by omega, fun H13 s13 => ?_⟩
        walk_at "go"
        refine ⟨.int (cntT l (tx z) .p 0 (tx z).length : Nat), _, _, rfl, by unfold DtAt; rfl, by unfold DtAt; rw [cnt_many], by show 0 < 400; decide, trivial, fun H14 s14 => ?_⟩
        walk_at "go"
        refine iteF ?_
        walk_at "go"
        exact hN _ _ ⟨rfl, s12.trans (s13.trans s14)⟩
      rintro σ' H12 ⟨rfl, s12⟩
      have D12 := D11.same s12
      have B12 := B11.s s12
      have hd12 : DueAt NF H12 (due (tx z)) vd := by
        cases hdu : due (tx z) with
        | none => rw [hdu] at hd11; exact hd11
        | some kk => rw [hdu] at hd11; exact ⟨hd11.1, hd11.2.s s12⟩
      clear hd11
      have sameT : ∀ {H0 : Hp} {Q' : VK} {E' : XK} {Tt : K38.T} {v1 v2 : V}, Fit (tx z).length Tt → TreeAt NF H0 Tt v1 → TreeAt NF H0 Tt v2 → (∀ H', Same H0 H' → Q' (.bl true) H') → spSame 400 [v1, v2] H0 Q' E' := fun {H0 Q' E' Tt v1 v2} F h1 h2 q =>
        ⟨dtT Tt, v1, v2, rfl, h1.dt, h2.dt, by have := dpD_T Tt; have := F.dp; omega, fewD_T Tt F.wf, q⟩
      -- the first tree
      refine x_cutR (fun σ' H' => σ' = [some (.ref sc), some (.ref dr), some (.bl l), some (.ref g), some (.str z), v5, some (.ref rd), some (.int (md : Nat)), some (.int (i : Nat)), some vd, some (.int (manyN l (tx z) : Nat)), v11, v12, v13, v14] ∧ Same H12 H') ?_ ?_
      · intro N hN
        walk_at "go"
        cases l with
        | true =>
          refine iteF ?_
          refine iteF ?_
          walk_at "go"
          refine spLT_of B12 (fun H13 vt s13 ht => ?_)
          walk_at "go"
          rcases ht with ⟨h0, rfl⟩ | ⟨kk, Tt, ta, h0, rfl, hT, hA⟩
          · rw [h0] at hd12
            have hd12 : vd = .non := hd12
            subst hd12
            refine x_neB ?_
            walk_at "go"
            refine iteF ?_
            walk_at "go"
            exact hN _ _ ⟨rfl, s13⟩
          · rw [h0] at hd12
            obtain ⟨⟨va, rfl⟩, hk⟩ := hd12
            refine x_neB ?_
            walk_at "go"
            refine iteF ?_
            walk_at "go"
            exact hN _ _ ⟨rfl, s13⟩
        | false =>
          refine iteT ?_
          walk_at "go"
          refine spLT_of B12 (fun H13 vt s13 ht => ?_)
          walk_at "go"
          rcases ht with ⟨h0, rfl⟩ | ⟨kk, Tt, ta, h0, rfl, hT, hA⟩
          · rw [h0] at hd12
            have hd12 : vd = .non := hd12
            subst hd12
            refine ⟨.non, .non, .non, rfl, by unfold DtAt; rfl, by unfold DtAt; rfl, by show 0 < 400; decide, trivial, fun H14 s14 => ?_⟩
            walk_at "go"
            refine iteF ?_
            walk_at "go"
            refine spLT_of (B12.s (s13.trans s14)) (fun H15 vt s15 ht => ?_)
            walk_at "go"
            rcases ht with ⟨_, rfl⟩ | ⟨kk, Tt, ta, h0', _⟩
            · refine x_neB ?_
              walk_at "go"
              refine iteF ?_
              walk_at "go"
              exact hN _ _ ⟨rfl, s13.trans (s14.trans s15)⟩
            · rw [h0] at h0'; cases h0'
          · rw [h0] at hd12
            obtain ⟨⟨va, rfl⟩, hk⟩ := hd12
            have et : Tt = kk := by
              have := (due_ok (l := false) h0).t rfl
              rw [hT] at this
              exact Option.some.inj this
            subst et
            refine sameT (fitD h0) hA (hk.s s13) (fun H14 s14 => ?_)
            walk_at "go"
            refine iteF ?_
            walk_at "go"
            refine spLT_of (B12.s (s13.trans s14)) (fun H15 vt s15 ht => ?_)
            walk_at "go"
            rcases ht with ⟨h0', _⟩ | ⟨kk', Tt', ta', h0', rfl, _⟩
            · rw [h0] at h0'; cases h0'
            · refine x_neB ?_
              walk_at "go"
              refine iteF ?_
              walk_at "go"
              exact hN _ _ ⟨rfl, s13.trans (s14.trans s15)⟩
      rintro σ' H13 ⟨rfl, s13⟩
      have D13 := D12.same s13
      have B13 := B12.s s13
      clear hd12 B12 D12 B11 D11 B10 D10
      -- the first three trees
      refine x_cutR (fun σ' H' => σ' = [some (.ref sc), some (.ref dr), some (.bl l), some (.ref g), some (.str z), v5, some (.ref rd), some (.int (md : Nat)), some (.int (i : Nat)), some vd, some (.int (manyN l (tx z) : Nat)), v11, v12, v13, v14] ∧ Same H13 H') ?_ ?_
      · intro N hN
        walk_at "go"
        cases l with
        | false =>
          refine iteF ?_
          refine iteF ?_
          walk_at "go"
          exact hN _ _ ⟨rfl, Same.refl _⟩
        | true =>
          refine iteT ?_
          walk_at "go"
          rw [show (if (3 : Int) < (manyN true (tx z) : Nat) then (3 : Int) else (manyN true (tx z) : Nat)) = ((min (manyN true (tx z)) 3 : Nat) : Int) by split <;> omega]
          refine x_lcRP (n := min (manyN true (tx z)) 3) (by omega) (fun j => ((List.range j).map fun _ => true).map V.bl) rfl (fun j hj => by simp; omega) (fun j H14 N1 N2 hj s14 k1 k2 => ?_) (fun D H14 s14 hD hDv => ?_)
          · have B14 := B13.s s14
            obtain ⟨dx', hI14⟩ := B14.I
            have hlt3 : j < cntK true (tx z) (topK z) := by
              show j < cntT true (tx z) .p 0 (tx z).length
              rw [cnt_many]; omega
            unfold LcTurn
            walk_at "go"
            refine ⟨rfl, ?_⟩
            walk_at "go"
            refine x_methR hI14 rfl ?_
            walk_at "go"
            refine ⟨rd, fl, g, z, true, ad, S, md, j, rfl, B14, .inl ⟨hlt3, fun H15 v15 Tt s15 hT hA ⟨a15, ea⟩ => ?_⟩⟩
            walk_at "go"
            refine ⟨Nat.zero_le _, fun f3 hf3 => ?_⟩
            have s16 := Same.new (o := .lst []) hf3
            walk_at "go"
            refine ⟨g, f3, z, true, j, rfl, (B14.s (s15.trans s16)).G, upd_same, by omega, hlt3, fun H17 v17 Tt2 s17 hT2 hA2 ⟨a17, ea2⟩ => ?_⟩
            rw [hT] at hT2
            cases hT2
            walk_at "go"
            refine sameT (trT_fit hT) ((toNF hA).s (s16.trans s17)) (toNF hA2) (fun H18 s18 => ?_)
            refine k1 _ _ (s15.trans (s16.trans (s17.trans s18))) ?_
            rw [List.range_succ, List.map_append, List.map_append]
            rfl
          · walk_at "go"
            refine x_all hDv ?_
            rw [all_true]
            walk_at "go"
            refine iteF ?_
            walk_at "go"
            exact hN _ _ ⟨rfl, s14⟩
      rintro σ' H14 ⟨rfl, s14⟩
      have D14 := D13.same s14
      have B14 := B13.s s14
      clear B13 D13
      have hlenT : ∀ {a r : Nat} {y : Str}, a + r ≤ z.length → y.length ≤ 44 → (editT (tx z) a r (tx y)).length ≤ 60 + 44 * (i + 1) := fun {a r y} h1 h2 => by
        unfold editT
        rw [List.length_append, List.length_append, List.length_take, List.length_drop, ← len_tx, ← len_tx]
        omega
      walk_at "go"
      refine ⟨dr, sl, z, rfl, D14, by omega, fun H15 ed a r y X15 D15 _ hed har hy => ?_⟩
      have B15 := B14.sx D14 X15
      walk_at "go"
      refine spLT_of B15 (fun H16 vo s16 ho => ?_)
      have hed16 := s16 _ _ hed
      have hl192 : (editT (tx z) a r (tx y)).length ≤ 192 := by have := hlenT har hy; omega
      walk_at "go"
      refine ⟨rd, fl, g, ed, z, y, l, ad, S, md, a, r, rfl, B15.s s16, hed16, har, by omega, hl192, fun H17 rd' z' ad' S' s17 hz' B17 => ?_⟩
      have D17 := (D15.same s16).same s17
      have hed17 := s17 _ _ hed16
      have ho17 := ho.s s17
      have Bo17 := B15.s (s16.trans s17)
      refine x_name ?_
      dsimp only
      -- the old reading stays
      refine x_cutR (fun σ' H' => σ' = [some (.ref sc), some (.ref dr), some (.bl l), some (.ref g), some (.str z), v5, some (.ref rd), some (.int (md : Nat)), some (.int (i : Nat)), some vd, some (.int (manyN l (tx z) : Nat)), some (.ref ed), some vo, some (.ref rd'), v14] ∧ Same H17 H') ?_ ?_
      · intro N hN
        walk_at "go"
        refine spLT_of Bo17 (fun H18 vt s18 ht => ?_)
        walk_at "go"
        have fin : ∀ H19, Same H18 H19 → True := fun _ _ => trivial
        have rest : ∀ H19, Same H18 H19 → spSame 400 [vt, vo] H19 (fun x H1 => x = .bl true ∧ Same H17 H1) E0 := fun H19 s19 => by
          rcases ht with ⟨h0, rfl⟩ | ⟨kk, Tt, ta, h0, rfl, hT, hA⟩
          · rcases ho17 with ⟨_, rfl⟩ | ⟨kk', Tt', ta', h0', _⟩
            · exact ⟨.non, .non, .non, rfl, by unfold DtAt; rfl, by unfold DtAt; rfl, by show 0 < 400; decide, trivial, fun H' s' => ⟨rfl, s18.trans (s19.trans s')⟩⟩
            · rw [h0] at h0'; cases h0'
          · rcases ho17 with ⟨h0', _⟩ | ⟨kk', Tt', ta', h0', rfl, hT', hA'⟩
            · rw [h0] at h0'; cases h0'
            · rw [hT] at hT'
              cases hT'
              exact sameT (trT_fit hT) (hA.s s19) (hA'.s (s18.trans s19)) fun H' s' => ⟨rfl, s18.trans (s19.trans s')⟩
        obtain ⟨d9, u1, u2, e9, a1, a2, a3, a4, a5⟩ := rest H18 (Same.refl _)
        cases e9
        refine ⟨d9, _, _, rfl, a1, a2, a3, a4, fun H19 s19 => ?_⟩
        obtain ⟨dx', hI19⟩ := (Bo17.s (s18.trans s19)).I
        walk_at "go"
        refine iteF ?_
        walk_at "go"
        rw [bl_not_self (show z = z from rfl)]
        refine iteF ?_
        walk_at "go"
        exact hN _ _ ⟨rfl, s18.trans s19⟩
      rintro σ' H18 ⟨rfl, s18⟩
      have D18 := D17.same s18
      have B18 := B17.s s18
      have hed18 := s18 _ _ hed17
      have ho18 := ho17.s s18
      clear Bo17 B15 B14 D14 D15 D17 B17 ho17 ho hed17 hed16
      have l1 : (cutS z none (some (a : Int))).length ≤ 1000 := by rw [len_tx, tx_cutTo, List.length_take]; omega
      have l2 : (cutS z (some ((a : Int) + (r : Int))) none).length ≤ 1000 := by
        rw [show ((a : Int) + (r : Int)) = ((a + r : Nat) : Int) by omega, len_tx, tx_cutFrom, List.length_drop, ← len_tx]; omega
      have l3 : (cutS z none (some (a : Int)) ++ y).length ≤ 2000 := by rw [len_app]; omega
      have ez : cutS z none (some (a : Int)) ++ y ++ cutS z (some ((a : Int) + (r : Int))) none = z' := by
        refine tx_ext ?_
        rw [hz', tx_app, tx_app, tx_cutTo, show ((a : Int) + (r : Int)) = ((a + r : Nat) : Int) by omega, tx_cutFrom]
        rfl
      have hzl' : z'.length ≤ 60 + 44 * (i + 1) := by rw [len_tx, hz']; exact hlenT har hy
      have haz : a ≤ z'.length + 1 := by
        rw [len_tx, hz']
        unfold editT
        rw [List.append_assoc, List.length_append, List.length_take, ← len_tx]
        omega
      walk_at "go"
      refine ⟨z, rfl, small__ (by omega), ?_⟩
      walk_at "go"
      refine ⟨z, rfl, small__ (by omega), ?_⟩
      walk_at "go"
      rw [ez]
      walk_at "go"
      rw [show ((z'.length : Nat) : Int) + 1 - (a : Nat) = ((z'.length + 1 - a : Nat) : Int) by omega]
      refine spLT_of B18 (fun H19 vn s19 hn => ?_)
      have D19 := D18.same s19
      have B19 := B18.s s19
      have hed19 := s19 _ _ hed18
      have ho19 := ho18.s s19
      walk_at "go"
      have done : ∀ H20, Same H19 H20 → ∃ (v5' v8 v9 v10 v11 v12 v13 v14 : Option V) (z2 : Str) (rd2 fl2 : Addr) (ad2 : Role → Addr) (S2 : SS) (md2 : Nat), ([some (.ref sc), some (.ref dr), some (.bl l), some (.ref g), some (.str z'), v5, some (.ref rd'), some (.int (z'.length + 1 - a : Nat)), some (.int (i : Nat)), some vd, some (.int (manyN l (tx z) : Nat)), some (.ref ed), some vo, some (.ref rd'), some vn] : L2.St) = [some (.ref sc), some (.ref dr), some (.bl l), some (.ref g), some (.str z2), v5', some (.ref rd2), some (.int (md2 : Nat)), v8, v9, v10, v11, v12, v13, v14] ∧ DrA H20 dr sl ∧
          ReadA T.C_Reading T.C_Spans H20 rd2 fl2 g z2 l ad2 S2 md2 ∧ z2.length ≤ 60 + 44 * (i + 1) := fun H20 s20 => ⟨v5, _, _, _, _, _, _, _, z', rd', fl, ad', S', _, rfl, D19.same s20, B19.s s20, hzl'⟩
      rcases ho19 with ⟨h0, rfl⟩ | ⟨kk, To, ta, h0, rfl, hT, hA⟩
      · refine iteF ?_
        refine iteF ?_
        walk_at "go"
        exact done _ (Same.refl _)
      · refine iteT ?_
        walk_at "go"
        rcases hn with ⟨h1, rfl⟩ | ⟨kn, Tn, tn, h1, rfl, hTn, hAn⟩
        · refine iteF ?_
          refine iteF ?_
          walk_at "go"
          exact done _ (Same.refl _)
        · refine iteT ?_
          have hA := hA
          walk_at "go"
          have Fo := trT_fit hT
          have Fn := trT_fit hTn
          have hzo : (tx z).length ≤ 192 := by omega
          have hzn : (tx z').length ≤ 192 := by rw [← len_tx]; omega
          have ko := Fo.arg hzo (trT_isnode hT) hA
          have kn' := Fn.arg hzn (trT_isnode hTn) hAn
          refine ⟨NF, To, Tn, _, _, ed, a, r, y, rfl, ko, kn', hed19, by omega, fun H20 p20 ws20 s20 h20 P20 => ?_⟩
          walk_at "go"
          refine ⟨NF, To, Tn, _, _, ed, a, r, y, rfl, ⟨ko.at_.s s20, ko.n, ko.d, ko.wf, ko.s, ko.m⟩, ⟨kn'.at_.s s20, kn'.n, kn'.d, kn'.wf, kn'.s, kn'.m⟩, s20 _ _ hed19, by omega, fun H21 p21 ws21 s21 h21 P21 => ?_⟩
          walk_at "go"
          refine ⟨dtK (keptM a r y.length (lnod To [] 0) (lnod Tn [] 0)), _, _, rfl, dtK_at (s21 _ _ h20) (Paired.imp (fun _ _ h => h.tk (same_tk s21)) P20), dtK_at h21 P21, by have := dpD_K (keptM a r y.length (lnod To [] 0) (lnod Tn [] 0)); omega, keptM_few (by have := ko.d; omega) (by have := kn'.d; omega) kn'.m, fun H22 s22 => ?_⟩
          walk_at "go"
          refine iteF ?_
          walk_at "go"
          exact done _ (s20.trans (s21.trans s22))
    · rintro σ H9 ⟨v5, v8, v9, v10, v11, v12, v13, v14, z, rd, fl, ad, S, md, rfl, D9, B9, hzl⟩
      obtain ⟨dx, hI⟩ := B9.I
      have hlt := len_tx z
      walk_at "go"
      rw [decide_eq_true (show z = z from rfl)]
      refine iteT ?_
      walk_at "go"
      rw [decide_eq_true (show ((md : Nat) : Int) = (md : Nat) from rfl)]
      refine iteT ?_
      walk_at "go"
      refine spLT_of B9 (fun H10 vt s10 ht => ?_)
      walk_at "go"
      refine ⟨z, rfl, by omega, fun H11 vd s11 hd => ?_⟩
      walk_at "go"
      rcases ht with ⟨h0, rfl⟩ | ⟨kk, Tt, ta, h0, rfl, hT, hA⟩
      · rw [h0] at hd
        have hd : vd = .non := hd
        subst hd
        refine x_eqB ?_
        exact k _
      · rw [h0] at hd
        obtain ⟨⟨va, rfl⟩, hk⟩ := hd
        refine x_eqB ?_
        exact k _
end
theorem all_ok {P : Program} {w : World} {K : PySem.W.Frag} {mg : Str → Option Value} {base : Heap} (T : TX K mg) (E_ : TErr K T.C_TreeError) : FnOk P w K mg base CX0 206 T.f_law T.d_law ["_law_script"] (spLaw K) := by
  have g_add := ok_add (P := P) (w := w) (base := base) T
  have g_pred := ok_predict T g_add
  have g_ends := ok_ends (P := P) (w := w) (base := base) T
  have g_scan := ok_scan T g_add g_ends
  have g_comp := ok_complete T g_add
  have g_wait := ok_wait T g_add g_pred
  have g_fill := ok_fill T g_comp g_wait g_scan
  have g_null := ok_nullable (P := P) (w := w) (base := base) T
  have g_init := ok_init T g_null
  have g_so := ok_spans_of T g_init g_pred g_fill
  have g_take := ok_take T g_ends g_scan
  have g_cuts := ok_cuts T g_ends
  have g_ti := ok_Tinit (P := P) (w := w) (base := base) T
  have g_to := ok_table_of T g_ti
  have g_all := ok_allowed (P := P) (w := w) (base := base) T
  have g_kk := ok_kid_keys (P := P) (w := w) (base := base) T
  have g_alt := ok_alt T g_all g_kk (g_cuts 5)
  have g_cnt := ok_counted T g_kk g_alt
  have g_count := ok_count T g_so g_to (g_cnt 194)
  have g_built := ok_built T E_ g_kk g_alt g_cnt
  have g_tree := ok_tree T g_so g_to (g_built 194)
  have g_ri := ok_Rinit (P := P) (w := w) (base := base) T
  have g_rt := ok_Rtree T g_to (g_built 194)
  have g_read := ok_read T g_so g_ri
  have g_chk := ok_check (P := P) (w := w) (base := base) T
  have g_app := ok_applied T g_chk
  have g_again := ok_again T g_chk g_app g_read g_init g_take g_fill g_ri
  have g_run := ok_run (P := P) (w := w) (base := base) T
  have g_draws := ok_draws (P := P) (w := w) (base := base) T
  have g_draw := ok_draw (P := P) (w := w) (base := base) T
  have g_items := ok_items T g_draw 3
  have g_edit := ok_edit T g_draw g_items
  have g_gram := ok_grammar (P := P) (w := w) (base := base) T
  have g_size := ok_size (P := P) (w := w) (base := base) T 200
  have g_sub := ok_subtree (P := P) (w := w) (base := base) T
  have g_rows := ok_add_rows (P := P) (w := w) (base := base) T 196
  have g_nodes := ok_nodes T 196 g_rows
  have g_rd := ok_rd T g_run 386
  have g_lread := ok_lread T g_run g_rd.2
  have g_ways := ok_ways (P := P) (w := w) (base := base) T 200
  have g_ln := ok_lnodes T g_size 196
  have g_lkept := ok_lkept T g_ln
  have g_kept := ok_kept T g_nodes g_sub
  have g_same := ok_same (P := P) (w := w) (base := base) T 400
  have g_lt := ok_ltree T E_ g_rt
  exact ok_law T E_ g_draws g_draw g_gram g_items g_read g_lread g_ways g_same g_count g_lt g_rt g_tree g_edit g_again g_kept g_lkept
theorem exm_self' {K : PySem.W.Frag} {S : Addr} (h1 : PySem.W.subIn K (.ref S) (.type "BaseException") = some true) (h2 : PySem.W.isClsIn K S = true) (h3 : PySem.W.typeIn K (.ref S) = some (.type "type")) (h4 : PySem.W.subIn K (.ref S) (.ref S) = some true) : PySem.W.exmOne K (.ref S) (.ref S) = some true := by
  have e1 : (PySem.W.subIn K (.ref S) (.type "BaseException") == some true) = true := by rw [h1] <;> rfl
  have e2 : ((PySem.W.clsIn K S).isSome && PySem.W.typeIn K (.ref S) == some (.type "type")) = true := by
    have h2' : (PySem.W.clsIn K S).isSome = true := h2
    rw [h2', h3] <;> rfl
  show (if (PySem.W.subIn K (.ref S) (.type "BaseException") == some true) = true then (if ((PySem.W.clsIn K S).isSome && PySem.W.typeIn K (.ref S) == some (.type "type")) = true then PySem.W.subIn K (.ref S) (.ref S) else none) else none) = some true
  rw [if_pos e1, if_pos e2]
  exact h4
theorem all_mk {P : Program} {w : World} {K : PySem.W.Frag} {h : Heap} {mg : Str → Option Value} {fa C_ScribeError C_TreeError C_EditError C_Spans C_Table C_Reading f_check_edit f_applied f_nullable f_Spans_init f_Spans_add_item f_Spans_predict f_Spans_scan f_Spans_complete f_Spans_wait f_Spans_fill f_Spans_take_over f_Spans_ends f_spans_of f_cuts_of f_Table_init f_Table_allowed f_Table_kid_keys f_Table_alternatives f_table_of f_counted f_count f_built f_tree f_nodes f_add_rows f_subtree f_Reading_init f_Reading_tree f_read f_read_again f_kept f_law_draws f_law_draw f_law_same f_law_grammar f_law_run f_law_item f_law_list f_law_read f_law_ways f_law_size f_law_nodes f_law_kept f_law_tree f_law_items f_law_edit f_law : Addr} (X : K.In h) (G : h.Ns mainGlobals mg) (hfa : mg "law" = some (.ref fa))
    {od_check_edit an_check_edit od_applied an_applied od_nullable an_nullable od_Spans_init an_Spans_init od_Spans_add_item an_Spans_add_item od_Spans_predict an_Spans_predict od_Spans_scan an_Spans_scan od_Spans_complete an_Spans_complete od_Spans_wait an_Spans_wait od_Spans_fill an_Spans_fill od_Spans_take_over an_Spans_take_over od_Spans_ends an_Spans_ends od_spans_of an_spans_of od_cuts_of an_cuts_of od_Table_init an_Table_init od_Table_allowed an_Table_allowed od_Table_kid_keys an_Table_kid_keys od_Table_alternatives an_Table_alternatives od_table_of an_table_of od_counted an_counted od_count an_count od_built an_built od_tree an_tree od_nodes an_nodes od_add_rows an_add_rows od_subtree an_subtree od_Reading_init an_Reading_init od_Reading_tree an_Reading_tree od_read an_read od_read_again an_read_again od_kept an_kept od_law_draws an_law_draws od_law_draw an_law_draw od_law_same an_law_same od_law_grammar an_law_grammar od_law_run an_law_run od_law_item an_law_item od_law_list an_law_list od_law_read an_law_read od_law_ways an_law_ways od_law_size an_law_size od_law_nodes an_law_nodes od_law_kept an_law_kept od_law_tree an_law_tree od_law_items an_law_items od_law_edit an_law_edit od_law an_law : Option Addr} {sl_check_edit sl_applied sl_nullable sl_Spans_init sl_Spans_add_item sl_Spans_predict sl_Spans_scan sl_Spans_complete sl_Spans_wait sl_Spans_fill sl_Spans_take_over sl_Spans_ends sl_spans_of sl_cuts_of sl_Table_init sl_Table_allowed sl_Table_kid_keys sl_Table_alternatives sl_table_of sl_counted sl_count sl_built sl_tree sl_nodes sl_add_rows sl_subtree sl_Reading_init sl_Reading_tree sl_read sl_read_again sl_kept sl_law_draws sl_law_draw sl_law_same sl_law_grammar sl_law_run sl_law_item sl_law_list sl_law_read sl_law_ways sl_law_size sl_law_nodes sl_law_kept sl_law_tree sl_law_items sl_law_edit sl_law : Array (Option Value)} {oc_check_edit kV_check_edit dc_check_edit pm_check_edit cd_check_edit ct_check_edit oc_applied kV_applied dc_applied pm_applied cd_applied ct_applied oc_nullable kV_nullable dc_nullable pm_nullable cd_nullable ct_nullable oc_Spans_init kV_Spans_init dc_Spans_init pm_Spans_init cd_Spans_init ct_Spans_init oc_Spans_add_item kV_Spans_add_item dc_Spans_add_item pm_Spans_add_item cd_Spans_add_item ct_Spans_add_item oc_Spans_predict kV_Spans_predict dc_Spans_predict pm_Spans_predict cd_Spans_predict ct_Spans_predict oc_Spans_scan kV_Spans_scan dc_Spans_scan pm_Spans_scan cd_Spans_scan ct_Spans_scan oc_Spans_complete kV_Spans_complete dc_Spans_complete pm_Spans_complete cd_Spans_complete ct_Spans_complete oc_Spans_wait kV_Spans_wait dc_Spans_wait pm_Spans_wait cd_Spans_wait ct_Spans_wait oc_Spans_fill kV_Spans_fill dc_Spans_fill pm_Spans_fill cd_Spans_fill ct_Spans_fill oc_Spans_take_over kV_Spans_take_over dc_Spans_take_over pm_Spans_take_over cd_Spans_take_over ct_Spans_take_over oc_Spans_ends kV_Spans_ends dc_Spans_ends pm_Spans_ends cd_Spans_ends ct_Spans_ends oc_spans_of kV_spans_of dc_spans_of pm_spans_of cd_spans_of ct_spans_of oc_cuts_of kV_cuts_of dc_cuts_of pm_cuts_of cd_cuts_of ct_cuts_of oc_Table_init kV_Table_init dc_Table_init pm_Table_init cd_Table_init ct_Table_init oc_Table_allowed kV_Table_allowed dc_Table_allowed pm_Table_allowed cd_Table_allowed ct_Table_allowed oc_Table_kid_keys kV_Table_kid_keys dc_Table_kid_keys pm_Table_kid_keys cd_Table_kid_keys ct_Table_kid_keys oc_Table_alternatives kV_Table_alternatives dc_Table_alternatives pm_Table_alternatives cd_Table_alternatives ct_Table_alternatives oc_table_of kV_table_of dc_table_of pm_table_of cd_table_of ct_table_of oc_counted kV_counted dc_counted pm_counted cd_counted ct_counted oc_count kV_count dc_count pm_count cd_count ct_count oc_built kV_built dc_built pm_built cd_built ct_built oc_tree kV_tree dc_tree pm_tree cd_tree ct_tree oc_nodes kV_nodes dc_nodes pm_nodes cd_nodes ct_nodes oc_add_rows kV_add_rows dc_add_rows pm_add_rows cd_add_rows ct_add_rows oc_subtree kV_subtree dc_subtree pm_subtree cd_subtree ct_subtree oc_Reading_init kV_Reading_init dc_Reading_init pm_Reading_init cd_Reading_init ct_Reading_init oc_Reading_tree kV_Reading_tree dc_Reading_tree pm_Reading_tree cd_Reading_tree ct_Reading_tree oc_read kV_read dc_read pm_read cd_read ct_read oc_read_again kV_read_again dc_read_again pm_read_again cd_read_again ct_read_again oc_kept kV_kept dc_kept pm_kept cd_kept ct_kept oc_law_draws kV_law_draws dc_law_draws pm_law_draws cd_law_draws ct_law_draws oc_law_draw kV_law_draw dc_law_draw pm_law_draw cd_law_draw ct_law_draw oc_law_same kV_law_same dc_law_same pm_law_same cd_law_same ct_law_same oc_law_grammar kV_law_grammar dc_law_grammar pm_law_grammar cd_law_grammar ct_law_grammar oc_law_run kV_law_run dc_law_run pm_law_run cd_law_run ct_law_run oc_law_item kV_law_item dc_law_item pm_law_item cd_law_item ct_law_item oc_law_list kV_law_list dc_law_list pm_law_list cd_law_list ct_law_list oc_law_read kV_law_read dc_law_read pm_law_read cd_law_read ct_law_read oc_law_ways kV_law_ways dc_law_ways pm_law_ways cd_law_ways ct_law_ways oc_law_size kV_law_size dc_law_size pm_law_size cd_law_size ct_law_size oc_law_nodes kV_law_nodes dc_law_nodes pm_law_nodes cd_law_nodes ct_law_nodes oc_law_kept kV_law_kept dc_law_kept pm_law_kept cd_law_kept ct_law_kept oc_law_tree kV_law_tree dc_law_tree pm_law_tree cd_law_tree ct_law_tree oc_law_items kV_law_items dc_law_items pm_law_items cd_law_items ct_law_items oc_law_edit kV_law_edit dc_law_edit pm_law_edit cd_law_edit ct_law_edit oc_law kV_law dc_law pm_law cd_law ct_law : Value}
    (aC_ScribeError : PySem.W.nsIn K mainGlobals "ScribeError" = some (some (.ref C_ScribeError)))
    (aC_TreeError : PySem.W.nsIn K mainGlobals "TreeError" = some (some (.ref C_TreeError)))
    (aC_EditError : PySem.W.nsIn K mainGlobals "EditError" = some (some (.ref C_EditError)))
    (aC_Spans : PySem.W.nsIn K mainGlobals "Spans" = some (some (.ref C_Spans)))
    (pg_Spans : PySem.W.plainGet K C_Spans Str.empty = true)
    (hd_Spans : PySem.W.hasDictIn K C_Spans = true)
    (po_Spans : PySem.W.plainOver K C_Spans = true)
    (sa_Spans : PySem.W.findIn K (.ref C_Spans) "__setattr__" = some (some (.builtin "object.__setattr__")))
    (mk_Spans : PySem.W.makesIn K C_Spans = true)
    (kc_Spans : PySem.W.keepIn K (.ref C_Spans) = true)
    (n_Spans_grammar : PySem.W.findIn K (.ref C_Spans) "grammar" = some none)
    (n_Spans_text : PySem.W.findIn K (.ref C_Spans) "text" = some none)
    (n_Spans_empty : PySem.W.findIn K (.ref C_Spans) "empty" = some none)
    (n_Spans_by_name : PySem.W.findIn K (.ref C_Spans) "by_name" = some none)
    (n_Spans_rows : PySem.W.findIn K (.ref C_Spans) "rows" = some none)
    (n_Spans_states : PySem.W.findIn K (.ref C_Spans) "states" = some none)
    (n_Spans_there : PySem.W.findIn K (.ref C_Spans) "there" = some none)
    (n_Spans_waiting : PySem.W.findIn K (.ref C_Spans) "waiting" = some none)
    (n_Spans_made : PySem.W.findIn K (.ref C_Spans) "made" = some none)
    (aC_Table : PySem.W.nsIn K mainGlobals "Table" = some (some (.ref C_Table)))
    (pg_Table : PySem.W.plainGet K C_Table Str.empty = true)
    (hd_Table : PySem.W.hasDictIn K C_Table = true)
    (po_Table : PySem.W.plainOver K C_Table = true)
    (sa_Table : PySem.W.findIn K (.ref C_Table) "__setattr__" = some (some (.builtin "object.__setattr__")))
    (mk_Table : PySem.W.makesIn K C_Table = true)
    (kc_Table : PySem.W.keepIn K (.ref C_Table) = true)
    (n_Table_grammar : PySem.W.findIn K (.ref C_Table) "grammar" = some none)
    (n_Table_filters : PySem.W.findIn K (.ref C_Table) "filters" = some none)
    (n_Table_spans : PySem.W.findIn K (.ref C_Table) "spans" = some none)
    (n_Table_rows : PySem.W.findIn K (.ref C_Table) "rows" = some none)
    (aC_Reading : PySem.W.nsIn K mainGlobals "Reading" = some (some (.ref C_Reading)))
    (pg_Reading : PySem.W.plainGet K C_Reading Str.empty = true)
    (hd_Reading : PySem.W.hasDictIn K C_Reading = true)
    (po_Reading : PySem.W.plainOver K C_Reading = true)
    (sa_Reading : PySem.W.findIn K (.ref C_Reading) "__setattr__" = some (some (.builtin "object.__setattr__")))
    (mk_Reading : PySem.W.makesIn K C_Reading = true)
    (kc_Reading : PySem.W.keepIn K (.ref C_Reading) = true)
    (n_Reading_grammar : PySem.W.findIn K (.ref C_Reading) "grammar" = some none)
    (n_Reading_filters : PySem.W.findIn K (.ref C_Reading) "filters" = some none)
    (n_Reading_text : PySem.W.findIn K (.ref C_Reading) "text" = some none)
    (n_Reading_spans : PySem.W.findIn K (.ref C_Reading) "spans" = some none)
    (n_Reading_made : PySem.W.findIn K (.ref C_Reading) "made" = some none)
    (a_check_edit : PySem.W.nsIn K mainGlobals "check_edit" = some (some (.ref f_check_edit)))
    (l_check_edit : K.lookup f_check_edit = some ⟨oc_check_edit, od_check_edit, .func (PySem.W.fnOf "check_edit" "check_edit" (defArgs s_check_edit) (defBody s_check_edit) (defScope s_check_edit) .none kV_check_edit dc_check_edit pm_check_edit an_check_edit cd_check_edit ct_check_edit), sl_check_edit⟩)
    (c_check_edit : PySem.W.codeIn K cd_check_edit "check_edit" = true)
    (k_check_edit : PySem.W.keepIn K (.ref f_check_edit) = true)
    (a_applied : PySem.W.nsIn K mainGlobals "applied" = some (some (.ref f_applied)))
    (l_applied : K.lookup f_applied = some ⟨oc_applied, od_applied, .func (PySem.W.fnOf "applied" "applied" (defArgs s_applied) (defBody s_applied) (defScope s_applied) .none kV_applied dc_applied pm_applied an_applied cd_applied ct_applied), sl_applied⟩)
    (c_applied : PySem.W.codeIn K cd_applied "applied" = true)
    (k_applied : PySem.W.keepIn K (.ref f_applied) = true)
    (a_nullable : PySem.W.nsIn K mainGlobals "nullable" = some (some (.ref f_nullable)))
    (l_nullable : K.lookup f_nullable = some ⟨oc_nullable, od_nullable, .func (PySem.W.fnOf "nullable" "nullable" (defArgs s_nullable) (defBody s_nullable) (defScope s_nullable) .none kV_nullable dc_nullable pm_nullable an_nullable cd_nullable ct_nullable), sl_nullable⟩)
    (c_nullable : PySem.W.codeIn K cd_nullable "nullable" = true)
    (k_nullable : PySem.W.keepIn K (.ref f_nullable) = true)
    (a_Spans_init : PySem.W.findIn K (.ref C_Spans) "__init__" = some (some (.ref f_Spans_init)))
    (i_Spans_init : PySem.W.isFn K (.ref f_Spans_init) = true)
    (l_Spans_init : K.lookup f_Spans_init = some ⟨oc_Spans_init, od_Spans_init, .func (PySem.W.fnOf "__init__" "Spans.__init__" (defArgs s_Spans_init) (defBody s_Spans_init) (defScope s_Spans_init) .none kV_Spans_init dc_Spans_init pm_Spans_init an_Spans_init cd_Spans_init ct_Spans_init), sl_Spans_init⟩)
    (c_Spans_init : PySem.W.codeIn K cd_Spans_init "Spans.__init__" = true)
    (k_Spans_init : PySem.W.keepIn K (.ref f_Spans_init) = true)
    (a_Spans_add_item : PySem.W.findIn K (.ref C_Spans) "add_item" = some (some (.ref f_Spans_add_item)))
    (i_Spans_add_item : PySem.W.isFn K (.ref f_Spans_add_item) = true)
    (l_Spans_add_item : K.lookup f_Spans_add_item = some ⟨oc_Spans_add_item, od_Spans_add_item, .func (PySem.W.fnOf "add_item" "Spans.add_item" (defArgs s_Spans_add_item) (defBody s_Spans_add_item) (defScope s_Spans_add_item) .none kV_Spans_add_item dc_Spans_add_item pm_Spans_add_item an_Spans_add_item cd_Spans_add_item ct_Spans_add_item), sl_Spans_add_item⟩)
    (c_Spans_add_item : PySem.W.codeIn K cd_Spans_add_item "Spans.add_item" = true)
    (k_Spans_add_item : PySem.W.keepIn K (.ref f_Spans_add_item) = true)
    (a_Spans_predict : PySem.W.findIn K (.ref C_Spans) "predict" = some (some (.ref f_Spans_predict)))
    (i_Spans_predict : PySem.W.isFn K (.ref f_Spans_predict) = true)
    (l_Spans_predict : K.lookup f_Spans_predict = some ⟨oc_Spans_predict, od_Spans_predict, .func (PySem.W.fnOf "predict" "Spans.predict" (defArgs s_Spans_predict) (defBody s_Spans_predict) (defScope s_Spans_predict) .none kV_Spans_predict dc_Spans_predict pm_Spans_predict an_Spans_predict cd_Spans_predict ct_Spans_predict), sl_Spans_predict⟩)
    (c_Spans_predict : PySem.W.codeIn K cd_Spans_predict "Spans.predict" = true)
    (k_Spans_predict : PySem.W.keepIn K (.ref f_Spans_predict) = true)
    (a_Spans_scan : PySem.W.findIn K (.ref C_Spans) "scan" = some (some (.ref f_Spans_scan)))
    (i_Spans_scan : PySem.W.isFn K (.ref f_Spans_scan) = true)
    (l_Spans_scan : K.lookup f_Spans_scan = some ⟨oc_Spans_scan, od_Spans_scan, .func (PySem.W.fnOf "scan" "Spans.scan" (defArgs s_Spans_scan) (defBody s_Spans_scan) (defScope s_Spans_scan) .none kV_Spans_scan dc_Spans_scan pm_Spans_scan an_Spans_scan cd_Spans_scan ct_Spans_scan), sl_Spans_scan⟩)
    (c_Spans_scan : PySem.W.codeIn K cd_Spans_scan "Spans.scan" = true)
    (k_Spans_scan : PySem.W.keepIn K (.ref f_Spans_scan) = true)
    (a_Spans_complete : PySem.W.findIn K (.ref C_Spans) "complete" = some (some (.ref f_Spans_complete)))
    (i_Spans_complete : PySem.W.isFn K (.ref f_Spans_complete) = true)
    (l_Spans_complete : K.lookup f_Spans_complete = some ⟨oc_Spans_complete, od_Spans_complete, .func (PySem.W.fnOf "complete" "Spans.complete" (defArgs s_Spans_complete) (defBody s_Spans_complete) (defScope s_Spans_complete) .none kV_Spans_complete dc_Spans_complete pm_Spans_complete an_Spans_complete cd_Spans_complete ct_Spans_complete), sl_Spans_complete⟩)
    (c_Spans_complete : PySem.W.codeIn K cd_Spans_complete "Spans.complete" = true)
    (k_Spans_complete : PySem.W.keepIn K (.ref f_Spans_complete) = true)
    (a_Spans_wait : PySem.W.findIn K (.ref C_Spans) "wait" = some (some (.ref f_Spans_wait)))
    (i_Spans_wait : PySem.W.isFn K (.ref f_Spans_wait) = true)
    (l_Spans_wait : K.lookup f_Spans_wait = some ⟨oc_Spans_wait, od_Spans_wait, .func (PySem.W.fnOf "wait" "Spans.wait" (defArgs s_Spans_wait) (defBody s_Spans_wait) (defScope s_Spans_wait) .none kV_Spans_wait dc_Spans_wait pm_Spans_wait an_Spans_wait cd_Spans_wait ct_Spans_wait), sl_Spans_wait⟩)
    (c_Spans_wait : PySem.W.codeIn K cd_Spans_wait "Spans.wait" = true)
    (k_Spans_wait : PySem.W.keepIn K (.ref f_Spans_wait) = true)
    (a_Spans_fill : PySem.W.findIn K (.ref C_Spans) "fill" = some (some (.ref f_Spans_fill)))
    (i_Spans_fill : PySem.W.isFn K (.ref f_Spans_fill) = true)
    (l_Spans_fill : K.lookup f_Spans_fill = some ⟨oc_Spans_fill, od_Spans_fill, .func (PySem.W.fnOf "fill" "Spans.fill" (defArgs s_Spans_fill) (defBody s_Spans_fill) (defScope s_Spans_fill) .none kV_Spans_fill dc_Spans_fill pm_Spans_fill an_Spans_fill cd_Spans_fill ct_Spans_fill), sl_Spans_fill⟩)
    (c_Spans_fill : PySem.W.codeIn K cd_Spans_fill "Spans.fill" = true)
    (k_Spans_fill : PySem.W.keepIn K (.ref f_Spans_fill) = true)
    (a_Spans_take_over : PySem.W.findIn K (.ref C_Spans) "take_over" = some (some (.ref f_Spans_take_over)))
    (i_Spans_take_over : PySem.W.isFn K (.ref f_Spans_take_over) = true)
    (l_Spans_take_over : K.lookup f_Spans_take_over = some ⟨oc_Spans_take_over, od_Spans_take_over, .func (PySem.W.fnOf "take_over" "Spans.take_over" (defArgs s_Spans_take_over) (defBody s_Spans_take_over) (defScope s_Spans_take_over) .none kV_Spans_take_over dc_Spans_take_over pm_Spans_take_over an_Spans_take_over cd_Spans_take_over ct_Spans_take_over), sl_Spans_take_over⟩)
    (c_Spans_take_over : PySem.W.codeIn K cd_Spans_take_over "Spans.take_over" = true)
    (k_Spans_take_over : PySem.W.keepIn K (.ref f_Spans_take_over) = true)
    (a_Spans_ends : PySem.W.findIn K (.ref C_Spans) "ends" = some (some (.ref f_Spans_ends)))
    (i_Spans_ends : PySem.W.isFn K (.ref f_Spans_ends) = true)
    (l_Spans_ends : K.lookup f_Spans_ends = some ⟨oc_Spans_ends, od_Spans_ends, .func (PySem.W.fnOf "ends" "Spans.ends" (defArgs s_Spans_ends) (defBody s_Spans_ends) (defScope s_Spans_ends) .none kV_Spans_ends dc_Spans_ends pm_Spans_ends an_Spans_ends cd_Spans_ends ct_Spans_ends), sl_Spans_ends⟩)
    (c_Spans_ends : PySem.W.codeIn K cd_Spans_ends "Spans.ends" = true)
    (k_Spans_ends : PySem.W.keepIn K (.ref f_Spans_ends) = true)
    (a_spans_of : PySem.W.nsIn K mainGlobals "spans_of" = some (some (.ref f_spans_of)))
    (l_spans_of : K.lookup f_spans_of = some ⟨oc_spans_of, od_spans_of, .func (PySem.W.fnOf "spans_of" "spans_of" (defArgs s_spans_of) (defBody s_spans_of) (defScope s_spans_of) .none kV_spans_of dc_spans_of pm_spans_of an_spans_of cd_spans_of ct_spans_of), sl_spans_of⟩)
    (c_spans_of : PySem.W.codeIn K cd_spans_of "spans_of" = true)
    (k_spans_of : PySem.W.keepIn K (.ref f_spans_of) = true)
    (a_cuts_of : PySem.W.nsIn K mainGlobals "cuts_of" = some (some (.ref f_cuts_of)))
    (l_cuts_of : K.lookup f_cuts_of = some ⟨oc_cuts_of, od_cuts_of, .func (PySem.W.fnOf "cuts_of" "cuts_of" (defArgs s_cuts_of) (defBody s_cuts_of) (defScope s_cuts_of) .none kV_cuts_of dc_cuts_of pm_cuts_of an_cuts_of cd_cuts_of ct_cuts_of), sl_cuts_of⟩)
    (c_cuts_of : PySem.W.codeIn K cd_cuts_of "cuts_of" = true)
    (k_cuts_of : PySem.W.keepIn K (.ref f_cuts_of) = true)
    (a_Table_init : PySem.W.findIn K (.ref C_Table) "__init__" = some (some (.ref f_Table_init)))
    (i_Table_init : PySem.W.isFn K (.ref f_Table_init) = true)
    (l_Table_init : K.lookup f_Table_init = some ⟨oc_Table_init, od_Table_init, .func (PySem.W.fnOf "__init__" "Table.__init__" (defArgs s_Table_init) (defBody s_Table_init) (defScope s_Table_init) .none kV_Table_init dc_Table_init pm_Table_init an_Table_init cd_Table_init ct_Table_init), sl_Table_init⟩)
    (c_Table_init : PySem.W.codeIn K cd_Table_init "Table.__init__" = true)
    (k_Table_init : PySem.W.keepIn K (.ref f_Table_init) = true)
    (a_Table_allowed : PySem.W.findIn K (.ref C_Table) "allowed" = some (some (.ref f_Table_allowed)))
    (i_Table_allowed : PySem.W.isFn K (.ref f_Table_allowed) = true)
    (l_Table_allowed : K.lookup f_Table_allowed = some ⟨oc_Table_allowed, od_Table_allowed, .func (PySem.W.fnOf "allowed" "Table.allowed" (defArgs s_Table_allowed) (defBody s_Table_allowed) (defScope s_Table_allowed) .none kV_Table_allowed dc_Table_allowed pm_Table_allowed an_Table_allowed cd_Table_allowed ct_Table_allowed), sl_Table_allowed⟩)
    (c_Table_allowed : PySem.W.codeIn K cd_Table_allowed "Table.allowed" = true)
    (k_Table_allowed : PySem.W.keepIn K (.ref f_Table_allowed) = true)
    (a_Table_kid_keys : PySem.W.findIn K (.ref C_Table) "kid_keys" = some (some (.ref f_Table_kid_keys)))
    (i_Table_kid_keys : PySem.W.isFn K (.ref f_Table_kid_keys) = true)
    (l_Table_kid_keys : K.lookup f_Table_kid_keys = some ⟨oc_Table_kid_keys, od_Table_kid_keys, .func (PySem.W.fnOf "kid_keys" "Table.kid_keys" (defArgs s_Table_kid_keys) (defBody s_Table_kid_keys) (defScope s_Table_kid_keys) .none kV_Table_kid_keys dc_Table_kid_keys pm_Table_kid_keys an_Table_kid_keys cd_Table_kid_keys ct_Table_kid_keys), sl_Table_kid_keys⟩)
    (c_Table_kid_keys : PySem.W.codeIn K cd_Table_kid_keys "Table.kid_keys" = true)
    (k_Table_kid_keys : PySem.W.keepIn K (.ref f_Table_kid_keys) = true)
    (a_Table_alternatives : PySem.W.findIn K (.ref C_Table) "alternatives" = some (some (.ref f_Table_alternatives)))
    (i_Table_alternatives : PySem.W.isFn K (.ref f_Table_alternatives) = true)
    (l_Table_alternatives : K.lookup f_Table_alternatives = some ⟨oc_Table_alternatives, od_Table_alternatives, .func (PySem.W.fnOf "alternatives" "Table.alternatives" (defArgs s_Table_alternatives) (defBody s_Table_alternatives) (defScope s_Table_alternatives) .none kV_Table_alternatives dc_Table_alternatives pm_Table_alternatives an_Table_alternatives cd_Table_alternatives ct_Table_alternatives), sl_Table_alternatives⟩)
    (c_Table_alternatives : PySem.W.codeIn K cd_Table_alternatives "Table.alternatives" = true)
    (k_Table_alternatives : PySem.W.keepIn K (.ref f_Table_alternatives) = true)
    (a_table_of : PySem.W.nsIn K mainGlobals "table_of" = some (some (.ref f_table_of)))
    (l_table_of : K.lookup f_table_of = some ⟨oc_table_of, od_table_of, .func (PySem.W.fnOf "table_of" "table_of" (defArgs s_table_of) (defBody s_table_of) (defScope s_table_of) .none kV_table_of dc_table_of pm_table_of an_table_of cd_table_of ct_table_of), sl_table_of⟩)
    (c_table_of : PySem.W.codeIn K cd_table_of "table_of" = true)
    (k_table_of : PySem.W.keepIn K (.ref f_table_of) = true)
    (a_counted : PySem.W.nsIn K mainGlobals "counted" = some (some (.ref f_counted)))
    (l_counted : K.lookup f_counted = some ⟨oc_counted, od_counted, .func (PySem.W.fnOf "counted" "counted" (defArgs s_counted) (defBody s_counted) (defScope s_counted) .none kV_counted dc_counted pm_counted an_counted cd_counted ct_counted), sl_counted⟩)
    (c_counted : PySem.W.codeIn K cd_counted "counted" = true)
    (k_counted : PySem.W.keepIn K (.ref f_counted) = true)
    (a_count : PySem.W.nsIn K mainGlobals "count" = some (some (.ref f_count)))
    (l_count : K.lookup f_count = some ⟨oc_count, od_count, .func (PySem.W.fnOf "count" "count" (defArgs s_count) (defBody s_count) (defScope s_count) .none kV_count dc_count pm_count an_count cd_count ct_count), sl_count⟩)
    (c_count : PySem.W.codeIn K cd_count "count" = true)
    (k_count : PySem.W.keepIn K (.ref f_count) = true)
    (a_built : PySem.W.nsIn K mainGlobals "built" = some (some (.ref f_built)))
    (l_built : K.lookup f_built = some ⟨oc_built, od_built, .func (PySem.W.fnOf "built" "built" (defArgs s_built) (defBody s_built) (defScope s_built) .none kV_built dc_built pm_built an_built cd_built ct_built), sl_built⟩)
    (c_built : PySem.W.codeIn K cd_built "built" = true)
    (k_built : PySem.W.keepIn K (.ref f_built) = true)
    (a_tree : PySem.W.nsIn K mainGlobals "tree" = some (some (.ref f_tree)))
    (l_tree : K.lookup f_tree = some ⟨oc_tree, od_tree, .func (PySem.W.fnOf "tree" "tree" (defArgs s_tree) (defBody s_tree) (defScope s_tree) .none kV_tree dc_tree pm_tree an_tree cd_tree ct_tree), sl_tree⟩)
    (c_tree : PySem.W.codeIn K cd_tree "tree" = true)
    (k_tree : PySem.W.keepIn K (.ref f_tree) = true)
    (a_nodes : PySem.W.nsIn K mainGlobals "nodes" = some (some (.ref f_nodes)))
    (l_nodes : K.lookup f_nodes = some ⟨oc_nodes, od_nodes, .func (PySem.W.fnOf "nodes" "nodes" (defArgs s_nodes) (defBody s_nodes) (defScope s_nodes) .none kV_nodes dc_nodes pm_nodes an_nodes cd_nodes ct_nodes), sl_nodes⟩)
    (c_nodes : PySem.W.codeIn K cd_nodes "nodes" = true)
    (k_nodes : PySem.W.keepIn K (.ref f_nodes) = true)
    (a_add_rows : PySem.W.nsIn K mainGlobals "add_rows" = some (some (.ref f_add_rows)))
    (l_add_rows : K.lookup f_add_rows = some ⟨oc_add_rows, od_add_rows, .func (PySem.W.fnOf "add_rows" "add_rows" (defArgs s_add_rows) (defBody s_add_rows) (defScope s_add_rows) .none kV_add_rows dc_add_rows pm_add_rows an_add_rows cd_add_rows ct_add_rows), sl_add_rows⟩)
    (c_add_rows : PySem.W.codeIn K cd_add_rows "add_rows" = true)
    (k_add_rows : PySem.W.keepIn K (.ref f_add_rows) = true)
    (a_subtree : PySem.W.nsIn K mainGlobals "subtree" = some (some (.ref f_subtree)))
    (l_subtree : K.lookup f_subtree = some ⟨oc_subtree, od_subtree, .func (PySem.W.fnOf "subtree" "subtree" (defArgs s_subtree) (defBody s_subtree) (defScope s_subtree) .none kV_subtree dc_subtree pm_subtree an_subtree cd_subtree ct_subtree), sl_subtree⟩)
    (c_subtree : PySem.W.codeIn K cd_subtree "subtree" = true)
    (k_subtree : PySem.W.keepIn K (.ref f_subtree) = true)
    (a_Reading_init : PySem.W.findIn K (.ref C_Reading) "__init__" = some (some (.ref f_Reading_init)))
    (i_Reading_init : PySem.W.isFn K (.ref f_Reading_init) = true)
    (l_Reading_init : K.lookup f_Reading_init = some ⟨oc_Reading_init, od_Reading_init, .func (PySem.W.fnOf "__init__" "Reading.__init__" (defArgs s_Reading_init) (defBody s_Reading_init) (defScope s_Reading_init) .none kV_Reading_init dc_Reading_init pm_Reading_init an_Reading_init cd_Reading_init ct_Reading_init), sl_Reading_init⟩)
    (c_Reading_init : PySem.W.codeIn K cd_Reading_init "Reading.__init__" = true)
    (k_Reading_init : PySem.W.keepIn K (.ref f_Reading_init) = true)
    (a_Reading_tree : PySem.W.findIn K (.ref C_Reading) "tree" = some (some (.ref f_Reading_tree)))
    (i_Reading_tree : PySem.W.isFn K (.ref f_Reading_tree) = true)
    (l_Reading_tree : K.lookup f_Reading_tree = some ⟨oc_Reading_tree, od_Reading_tree, .func (PySem.W.fnOf "tree" "Reading.tree" (defArgs s_Reading_tree) (defBody s_Reading_tree) (defScope s_Reading_tree) .none kV_Reading_tree dc_Reading_tree pm_Reading_tree an_Reading_tree cd_Reading_tree ct_Reading_tree), sl_Reading_tree⟩)
    (c_Reading_tree : PySem.W.codeIn K cd_Reading_tree "Reading.tree" = true)
    (k_Reading_tree : PySem.W.keepIn K (.ref f_Reading_tree) = true)
    (a_read : PySem.W.nsIn K mainGlobals "read" = some (some (.ref f_read)))
    (l_read : K.lookup f_read = some ⟨oc_read, od_read, .func (PySem.W.fnOf "read" "read" (defArgs s_read) (defBody s_read) (defScope s_read) .none kV_read dc_read pm_read an_read cd_read ct_read), sl_read⟩)
    (c_read : PySem.W.codeIn K cd_read "read" = true)
    (k_read : PySem.W.keepIn K (.ref f_read) = true)
    (a_read_again : PySem.W.nsIn K mainGlobals "read_again" = some (some (.ref f_read_again)))
    (l_read_again : K.lookup f_read_again = some ⟨oc_read_again, od_read_again, .func (PySem.W.fnOf "read_again" "read_again" (defArgs s_read_again) (defBody s_read_again) (defScope s_read_again) .none kV_read_again dc_read_again pm_read_again an_read_again cd_read_again ct_read_again), sl_read_again⟩)
    (c_read_again : PySem.W.codeIn K cd_read_again "read_again" = true)
    (k_read_again : PySem.W.keepIn K (.ref f_read_again) = true)
    (a_kept : PySem.W.nsIn K mainGlobals "kept" = some (some (.ref f_kept)))
    (l_kept : K.lookup f_kept = some ⟨oc_kept, od_kept, .func (PySem.W.fnOf "kept" "kept" (defArgs s_kept) (defBody s_kept) (defScope s_kept) .none kV_kept dc_kept pm_kept an_kept cd_kept ct_kept), sl_kept⟩)
    (c_kept : PySem.W.codeIn K cd_kept "kept" = true)
    (k_kept : PySem.W.keepIn K (.ref f_kept) = true)
    (a_law_draws : PySem.W.nsIn K mainGlobals "_law_draws" = some (some (.ref f_law_draws)))
    (l_law_draws : K.lookup f_law_draws = some ⟨oc_law_draws, od_law_draws, .func (PySem.W.fnOf "_law_draws" "_law_draws" (defArgs s_law_draws) (defBody s_law_draws) (defScope s_law_draws) .none kV_law_draws dc_law_draws pm_law_draws an_law_draws cd_law_draws ct_law_draws), sl_law_draws⟩)
    (c_law_draws : PySem.W.codeIn K cd_law_draws "_law_draws" = true)
    (k_law_draws : PySem.W.keepIn K (.ref f_law_draws) = true)
    (a_law_draw : PySem.W.nsIn K mainGlobals "_law_draw" = some (some (.ref f_law_draw)))
    (l_law_draw : K.lookup f_law_draw = some ⟨oc_law_draw, od_law_draw, .func (PySem.W.fnOf "_law_draw" "_law_draw" (defArgs s_law_draw) (defBody s_law_draw) (defScope s_law_draw) .none kV_law_draw dc_law_draw pm_law_draw an_law_draw cd_law_draw ct_law_draw), sl_law_draw⟩)
    (c_law_draw : PySem.W.codeIn K cd_law_draw "_law_draw" = true)
    (k_law_draw : PySem.W.keepIn K (.ref f_law_draw) = true)
    (a_law_same : PySem.W.nsIn K mainGlobals "_law_same" = some (some (.ref f_law_same)))
    (l_law_same : K.lookup f_law_same = some ⟨oc_law_same, od_law_same, .func (PySem.W.fnOf "_law_same" "_law_same" (defArgs s_law_same) (defBody s_law_same) (defScope s_law_same) .none kV_law_same dc_law_same pm_law_same an_law_same cd_law_same ct_law_same), sl_law_same⟩)
    (c_law_same : PySem.W.codeIn K cd_law_same "_law_same" = true)
    (k_law_same : PySem.W.keepIn K (.ref f_law_same) = true)
    (a_law_grammar : PySem.W.nsIn K mainGlobals "_law_grammar" = some (some (.ref f_law_grammar)))
    (l_law_grammar : K.lookup f_law_grammar = some ⟨oc_law_grammar, od_law_grammar, .func (PySem.W.fnOf "_law_grammar" "_law_grammar" (defArgs s_law_grammar) (defBody s_law_grammar) (defScope s_law_grammar) .none kV_law_grammar dc_law_grammar pm_law_grammar an_law_grammar cd_law_grammar ct_law_grammar), sl_law_grammar⟩)
    (c_law_grammar : PySem.W.codeIn K cd_law_grammar "_law_grammar" = true)
    (k_law_grammar : PySem.W.keepIn K (.ref f_law_grammar) = true)
    (a_law_run : PySem.W.nsIn K mainGlobals "_law_run" = some (some (.ref f_law_run)))
    (l_law_run : K.lookup f_law_run = some ⟨oc_law_run, od_law_run, .func (PySem.W.fnOf "_law_run" "_law_run" (defArgs s_law_run) (defBody s_law_run) (defScope s_law_run) .none kV_law_run dc_law_run pm_law_run an_law_run cd_law_run ct_law_run), sl_law_run⟩)
    (c_law_run : PySem.W.codeIn K cd_law_run "_law_run" = true)
    (k_law_run : PySem.W.keepIn K (.ref f_law_run) = true)
    (a_law_item : PySem.W.nsIn K mainGlobals "_law_item" = some (some (.ref f_law_item)))
    (l_law_item : K.lookup f_law_item = some ⟨oc_law_item, od_law_item, .func (PySem.W.fnOf "_law_item" "_law_item" (defArgs s_law_item) (defBody s_law_item) (defScope s_law_item) .none kV_law_item dc_law_item pm_law_item an_law_item cd_law_item ct_law_item), sl_law_item⟩)
    (c_law_item : PySem.W.codeIn K cd_law_item "_law_item" = true)
    (k_law_item : PySem.W.keepIn K (.ref f_law_item) = true)
    (a_law_list : PySem.W.nsIn K mainGlobals "_law_list" = some (some (.ref f_law_list)))
    (l_law_list : K.lookup f_law_list = some ⟨oc_law_list, od_law_list, .func (PySem.W.fnOf "_law_list" "_law_list" (defArgs s_law_list) (defBody s_law_list) (defScope s_law_list) .none kV_law_list dc_law_list pm_law_list an_law_list cd_law_list ct_law_list), sl_law_list⟩)
    (c_law_list : PySem.W.codeIn K cd_law_list "_law_list" = true)
    (k_law_list : PySem.W.keepIn K (.ref f_law_list) = true)
    (a_law_read : PySem.W.nsIn K mainGlobals "_law_read" = some (some (.ref f_law_read)))
    (l_law_read : K.lookup f_law_read = some ⟨oc_law_read, od_law_read, .func (PySem.W.fnOf "_law_read" "_law_read" (defArgs s_law_read) (defBody s_law_read) (defScope s_law_read) .none kV_law_read dc_law_read pm_law_read an_law_read cd_law_read ct_law_read), sl_law_read⟩)
    (c_law_read : PySem.W.codeIn K cd_law_read "_law_read" = true)
    (k_law_read : PySem.W.keepIn K (.ref f_law_read) = true)
    (a_law_ways : PySem.W.nsIn K mainGlobals "_law_ways" = some (some (.ref f_law_ways)))
    (l_law_ways : K.lookup f_law_ways = some ⟨oc_law_ways, od_law_ways, .func (PySem.W.fnOf "_law_ways" "_law_ways" (defArgs s_law_ways) (defBody s_law_ways) (defScope s_law_ways) .none kV_law_ways dc_law_ways pm_law_ways an_law_ways cd_law_ways ct_law_ways), sl_law_ways⟩)
    (c_law_ways : PySem.W.codeIn K cd_law_ways "_law_ways" = true)
    (k_law_ways : PySem.W.keepIn K (.ref f_law_ways) = true)
    (a_law_size : PySem.W.nsIn K mainGlobals "_law_size" = some (some (.ref f_law_size)))
    (l_law_size : K.lookup f_law_size = some ⟨oc_law_size, od_law_size, .func (PySem.W.fnOf "_law_size" "_law_size" (defArgs s_law_size) (defBody s_law_size) (defScope s_law_size) .none kV_law_size dc_law_size pm_law_size an_law_size cd_law_size ct_law_size), sl_law_size⟩)
    (c_law_size : PySem.W.codeIn K cd_law_size "_law_size" = true)
    (k_law_size : PySem.W.keepIn K (.ref f_law_size) = true)
    (a_law_nodes : PySem.W.nsIn K mainGlobals "_law_nodes" = some (some (.ref f_law_nodes)))
    (l_law_nodes : K.lookup f_law_nodes = some ⟨oc_law_nodes, od_law_nodes, .func (PySem.W.fnOf "_law_nodes" "_law_nodes" (defArgs s_law_nodes) (defBody s_law_nodes) (defScope s_law_nodes) .none kV_law_nodes dc_law_nodes pm_law_nodes an_law_nodes cd_law_nodes ct_law_nodes), sl_law_nodes⟩)
    (c_law_nodes : PySem.W.codeIn K cd_law_nodes "_law_nodes" = true)
    (k_law_nodes : PySem.W.keepIn K (.ref f_law_nodes) = true)
    (a_law_kept : PySem.W.nsIn K mainGlobals "_law_kept" = some (some (.ref f_law_kept)))
    (l_law_kept : K.lookup f_law_kept = some ⟨oc_law_kept, od_law_kept, .func (PySem.W.fnOf "_law_kept" "_law_kept" (defArgs s_law_kept) (defBody s_law_kept) (defScope s_law_kept) .none kV_law_kept dc_law_kept pm_law_kept an_law_kept cd_law_kept ct_law_kept), sl_law_kept⟩)
    (c_law_kept : PySem.W.codeIn K cd_law_kept "_law_kept" = true)
    (k_law_kept : PySem.W.keepIn K (.ref f_law_kept) = true)
    (a_law_tree : PySem.W.nsIn K mainGlobals "_law_tree" = some (some (.ref f_law_tree)))
    (l_law_tree : K.lookup f_law_tree = some ⟨oc_law_tree, od_law_tree, .func (PySem.W.fnOf "_law_tree" "_law_tree" (defArgs s_law_tree) (defBody s_law_tree) (defScope s_law_tree) .none kV_law_tree dc_law_tree pm_law_tree an_law_tree cd_law_tree ct_law_tree), sl_law_tree⟩)
    (c_law_tree : PySem.W.codeIn K cd_law_tree "_law_tree" = true)
    (k_law_tree : PySem.W.keepIn K (.ref f_law_tree) = true)
    (a_law_items : PySem.W.nsIn K mainGlobals "_law_items" = some (some (.ref f_law_items)))
    (l_law_items : K.lookup f_law_items = some ⟨oc_law_items, od_law_items, .func (PySem.W.fnOf "_law_items" "_law_items" (defArgs s_law_items) (defBody s_law_items) (defScope s_law_items) .none kV_law_items dc_law_items pm_law_items an_law_items cd_law_items ct_law_items), sl_law_items⟩)
    (c_law_items : PySem.W.codeIn K cd_law_items "_law_items" = true)
    (k_law_items : PySem.W.keepIn K (.ref f_law_items) = true)
    (a_law_edit : PySem.W.nsIn K mainGlobals "_law_edit" = some (some (.ref f_law_edit)))
    (l_law_edit : K.lookup f_law_edit = some ⟨oc_law_edit, od_law_edit, .func (PySem.W.fnOf "_law_edit" "_law_edit" (defArgs s_law_edit) (defBody s_law_edit) (defScope s_law_edit) .none kV_law_edit dc_law_edit pm_law_edit an_law_edit cd_law_edit ct_law_edit), sl_law_edit⟩)
    (c_law_edit : PySem.W.codeIn K cd_law_edit "_law_edit" = true)
    (k_law_edit : PySem.W.keepIn K (.ref f_law_edit) = true)
    (a_law : PySem.W.nsIn K mainGlobals "law" = some (some (.ref f_law)))
    (l_law : K.lookup f_law = some ⟨oc_law, od_law, .func (PySem.W.fnOf "law" "law" (defArgs s_law) (defBody s_law) (defScope s_law) .none kV_law dc_law pm_law an_law cd_law ct_law), sl_law⟩)
    (c_law : PySem.W.codeIn K cd_law "law" = true)
    (k_law : PySem.W.keepIn K (.ref f_law) = true)
    (zz_len : PySem.W.nsIn K mainGlobals "len" = some none)
    (zz_sorted : PySem.W.nsIn K mainGlobals "sorted" = some none)
    (zz_all : PySem.W.nsIn K mainGlobals "all" = some none)
    (zz_any : PySem.W.nsIn K mainGlobals "any" = some none)
    (zz_sum : PySem.W.nsIn K mainGlobals "sum" = some none)
    (zz_min : PySem.W.nsIn K mainGlobals "min" = some none)
    (zz_isinstance : PySem.W.nsIn K mainGlobals "isinstance" = some none)
    (zz_enumerate : PySem.W.nsIn K mainGlobals "enumerate" = some none)
    (zz_range : PySem.W.nsIn K mainGlobals "range" = some none)
    (zz_list : PySem.W.nsIn K mainGlobals "list" = some none)
    (zz_int : PySem.W.nsIn K mainGlobals "int" = some none)
    (zz_tuple : PySem.W.nsIn K mainGlobals "tuple" = some none)
    (zz_set : PySem.W.nsIn K mainGlobals "set" = some none)
    (zz_str : PySem.W.nsIn K mainGlobals "str" = some none)
    (zz_bool : PySem.W.nsIn K mainGlobals "bool" = some none)
    (xE : PySem.W.excIn K C_TreeError [.type "ValueError", .type "Exception", .type "BaseException", .type "object"] "ValueError.__new__" = true)
    (kE : PySem.W.keepIn K (.ref C_TreeError) = true)
    (bE : PySem.W.subIn K (.ref C_TreeError) (.type "BaseException") = some true)
    (tE_ : PySem.W.typeIn K (.ref C_TreeError) = some (.type "type"))
    (iE : PySem.W.isClsIn K C_TreeError = true)
    (sE : PySem.W.subIn K (.ref C_TreeError) (.ref C_TreeError) = some true)
    : ∃ fd : FuncData, (∀ (s : Shared) (u : Value), BindsTo s fd ⟨[u], []⟩ [("_law_script", u)]) ∧ ∀ base : Heap, K.In base → base.Ns mainGlobals mg → FnOk P w K mg base CX0 206 fa fd ["_law_script"] (spLaw K) := by
  have e := hfa.symm.trans (PySem.W.mg_of X G a_law)
  cases e
  have F_check_edit := fun_mk (st := s_check_edit) l_check_edit c_check_edit k_check_edit
  have F_applied := fun_mk (st := s_applied) l_applied c_applied k_applied
  have F_nullable := fun_mk (st := s_nullable) l_nullable c_nullable k_nullable
  have F_Spans_init := fun_mk (st := s_Spans_init) l_Spans_init c_Spans_init k_Spans_init
  have F_Spans_add_item := fun_mk (st := s_Spans_add_item) l_Spans_add_item c_Spans_add_item k_Spans_add_item
  have F_Spans_predict := fun_mk (st := s_Spans_predict) l_Spans_predict c_Spans_predict k_Spans_predict
  have F_Spans_scan := fun_mk (st := s_Spans_scan) l_Spans_scan c_Spans_scan k_Spans_scan
  have F_Spans_complete := fun_mk (st := s_Spans_complete) l_Spans_complete c_Spans_complete k_Spans_complete
  have F_Spans_wait := fun_mk (st := s_Spans_wait) l_Spans_wait c_Spans_wait k_Spans_wait
  have F_Spans_fill := fun_mk (st := s_Spans_fill) l_Spans_fill c_Spans_fill k_Spans_fill
  have F_Spans_take_over := fun_mk (st := s_Spans_take_over) l_Spans_take_over c_Spans_take_over k_Spans_take_over
  have F_Spans_ends := fun_mk (st := s_Spans_ends) l_Spans_ends c_Spans_ends k_Spans_ends
  have F_spans_of := fun_mk (st := s_spans_of) l_spans_of c_spans_of k_spans_of
  have F_cuts_of := fun_mk (st := s_cuts_of) l_cuts_of c_cuts_of k_cuts_of
  have F_Table_init := fun_mk (st := s_Table_init) l_Table_init c_Table_init k_Table_init
  have F_Table_allowed := fun_mk (st := s_Table_allowed) l_Table_allowed c_Table_allowed k_Table_allowed
  have F_Table_kid_keys := fun_mk (st := s_Table_kid_keys) l_Table_kid_keys c_Table_kid_keys k_Table_kid_keys
  have F_Table_alternatives := fun_mk (st := s_Table_alternatives) l_Table_alternatives c_Table_alternatives k_Table_alternatives
  have F_table_of := fun_mk (st := s_table_of) l_table_of c_table_of k_table_of
  have F_counted := fun_mk (st := s_counted) l_counted c_counted k_counted
  have F_count := fun_mk (st := s_count) l_count c_count k_count
  have F_built := fun_mk (st := s_built) l_built c_built k_built
  have F_tree := fun_mk (st := s_tree) l_tree c_tree k_tree
  have F_nodes := fun_mk (st := s_nodes) l_nodes c_nodes k_nodes
  have F_add_rows := fun_mk (st := s_add_rows) l_add_rows c_add_rows k_add_rows
  have F_subtree := fun_mk (st := s_subtree) l_subtree c_subtree k_subtree
  have F_Reading_init := fun_mk (st := s_Reading_init) l_Reading_init c_Reading_init k_Reading_init
  have F_Reading_tree := fun_mk (st := s_Reading_tree) l_Reading_tree c_Reading_tree k_Reading_tree
  have F_read := fun_mk (st := s_read) l_read c_read k_read
  have F_read_again := fun_mk (st := s_read_again) l_read_again c_read_again k_read_again
  have F_kept := fun_mk (st := s_kept) l_kept c_kept k_kept
  have F_law_draws := fun_mk (st := s_law_draws) l_law_draws c_law_draws k_law_draws
  have F_law_draw := fun_mk (st := s_law_draw) l_law_draw c_law_draw k_law_draw
  have F_law_same := fun_mk (st := s_law_same) l_law_same c_law_same k_law_same
  have F_law_grammar := fun_mk (st := s_law_grammar) l_law_grammar c_law_grammar k_law_grammar
  have F_law_run := fun_mk (st := s_law_run) l_law_run c_law_run k_law_run
  have F_law_item := fun_mk (st := s_law_item) l_law_item c_law_item k_law_item
  have F_law_list := fun_mk (st := s_law_list) l_law_list c_law_list k_law_list
  have F_law_read := fun_mk (st := s_law_read) l_law_read c_law_read k_law_read
  have F_law_ways := fun_mk (st := s_law_ways) l_law_ways c_law_ways k_law_ways
  have F_law_size := fun_mk (st := s_law_size) l_law_size c_law_size k_law_size
  have F_law_nodes := fun_mk (st := s_law_nodes) l_law_nodes c_law_nodes k_law_nodes
  have F_law_kept := fun_mk (st := s_law_kept) l_law_kept c_law_kept k_law_kept
  have F_law_tree := fun_mk (st := s_law_tree) l_law_tree c_law_tree k_law_tree
  have F_law_items := fun_mk (st := s_law_items) l_law_items c_law_items k_law_items
  have F_law_edit := fun_mk (st := s_law_edit) l_law_edit c_law_edit k_law_edit
  have F_law := fun_mk (st := s_law) l_law c_law k_law
  let T : TX K mg := {
    C_ScribeError := C_ScribeError,
    mC_ScribeError := PySem.W.mg_of X G aC_ScribeError,
    C_TreeError := C_TreeError,
    mC_TreeError := PySem.W.mg_of X G aC_TreeError,
    C_EditError := C_EditError,
    mC_EditError := PySem.W.mg_of X G aC_EditError,
    C_Spans := C_Spans,
    mC_Spans := PySem.W.mg_of X G aC_Spans,
    cl_Spans := ⟨pg_Spans, hd_Spans, po_Spans, sa_Spans⟩,
    n_Spans_grammar := n_Spans_grammar,
    n_Spans_text := n_Spans_text,
    n_Spans_empty := n_Spans_empty,
    n_Spans_by_name := n_Spans_by_name,
    n_Spans_rows := n_Spans_rows,
    n_Spans_states := n_Spans_states,
    n_Spans_there := n_Spans_there,
    n_Spans_waiting := n_Spans_waiting,
    n_Spans_made := n_Spans_made,
    C_Table := C_Table,
    mC_Table := PySem.W.mg_of X G aC_Table,
    cl_Table := ⟨pg_Table, hd_Table, po_Table, sa_Table⟩,
    n_Table_grammar := n_Table_grammar,
    n_Table_filters := n_Table_filters,
    n_Table_spans := n_Table_spans,
    n_Table_rows := n_Table_rows,
    C_Reading := C_Reading,
    mC_Reading := PySem.W.mg_of X G aC_Reading,
    cl_Reading := ⟨pg_Reading, hd_Reading, po_Reading, sa_Reading⟩,
    n_Reading_grammar := n_Reading_grammar,
    n_Reading_filters := n_Reading_filters,
    n_Reading_text := n_Reading_text,
    n_Reading_spans := n_Reading_spans,
    n_Reading_made := n_Reading_made,
    f_check_edit := f_check_edit, d_check_edit := _, F_check_edit := F_check_edit, b_check_edit := F_check_edit.binds (ps := ["text", "edit"]) fun _ _ _ _ _ _ us hl => match us, hl with | [_, _], _ => rfl,
    m_check_edit := PySem.W.mg_of X G a_check_edit,
    f_applied := f_applied, d_applied := _, F_applied := F_applied, b_applied := F_applied.binds (ps := ["text", "edit"]) fun _ _ _ _ _ _ us hl => match us, hl with | [_, _], _ => rfl,
    m_applied := PySem.W.mg_of X G a_applied,
    f_nullable := f_nullable, d_nullable := _, F_nullable := F_nullable, b_nullable := F_nullable.binds (ps := ["grammar"]) fun _ _ _ _ _ _ us hl => match us, hl with | [_], _ => rfl,
    m_nullable := PySem.W.mg_of X G a_nullable,
    f_Spans_init := f_Spans_init, d_Spans_init := _, F_Spans_init := F_Spans_init, b_Spans_init := F_Spans_init.binds (ps := ["self", "grammar", "text"]) fun _ _ _ _ _ _ us hl => match us, hl with | [_, _, _], _ => rfl,
    mk_Spans := ⟨mk_Spans, a_Spans_init, i_Spans_init, kc_Spans⟩,
    f_Spans_add_item := f_Spans_add_item, d_Spans_add_item := _, F_Spans_add_item := F_Spans_add_item, b_Spans_add_item := F_Spans_add_item.binds (ps := ["self", "at", "item"]) fun _ _ _ _ _ _ us hl => match us, hl with | [_, _, _], _ => rfl,
    me_Spans_add_item := ⟨a_Spans_add_item, i_Spans_add_item, k_Spans_add_item⟩,
    f_Spans_predict := f_Spans_predict, d_Spans_predict := _, F_Spans_predict := F_Spans_predict, b_Spans_predict := F_Spans_predict.binds (ps := ["self", "at", "name"]) fun _ _ _ _ _ _ us hl => match us, hl with | [_, _, _], _ => rfl,
    me_Spans_predict := ⟨a_Spans_predict, i_Spans_predict, k_Spans_predict⟩,
    f_Spans_scan := f_Spans_scan, d_Spans_scan := _, F_Spans_scan := F_Spans_scan, b_Spans_scan := F_Spans_scan.binds (ps := ["self", "at", "item", "symbol"]) fun _ _ _ _ _ _ us hl => match us, hl with | [_, _, _, _], _ => rfl,
    me_Spans_scan := ⟨a_Spans_scan, i_Spans_scan, k_Spans_scan⟩,
    f_Spans_complete := f_Spans_complete, d_Spans_complete := _, F_Spans_complete := F_Spans_complete, b_Spans_complete := F_Spans_complete.binds (ps := ["self", "at", "item"]) fun _ _ _ _ _ _ us hl => match us, hl with | [_, _, _], _ => rfl,
    me_Spans_complete := ⟨a_Spans_complete, i_Spans_complete, k_Spans_complete⟩,
    f_Spans_wait := f_Spans_wait, d_Spans_wait := _, F_Spans_wait := F_Spans_wait, b_Spans_wait := F_Spans_wait.binds (ps := ["self", "at", "item", "name"]) fun _ _ _ _ _ _ us hl => match us, hl with | [_, _, _, _], _ => rfl,
    me_Spans_wait := ⟨a_Spans_wait, i_Spans_wait, k_Spans_wait⟩,
    f_Spans_fill := f_Spans_fill, d_Spans_fill := _, F_Spans_fill := F_Spans_fill, b_Spans_fill := F_Spans_fill.binds (ps := ["self", "at"]) fun _ _ _ _ _ _ us hl => match us, hl with | [_, _], _ => rfl,
    me_Spans_fill := ⟨a_Spans_fill, i_Spans_fill, k_Spans_fill⟩,
    f_Spans_take_over := f_Spans_take_over, d_Spans_take_over := _, F_Spans_take_over := F_Spans_take_over, b_Spans_take_over := F_Spans_take_over.binds (ps := ["self", "other", "last"]) fun _ _ _ _ _ _ us hl => match us, hl with | [_, _, _], _ => rfl,
    me_Spans_take_over := ⟨a_Spans_take_over, i_Spans_take_over, k_Spans_take_over⟩,
    f_Spans_ends := f_Spans_ends, d_Spans_ends := _, F_Spans_ends := F_Spans_ends, b_Spans_ends := F_Spans_ends.binds (ps := ["self", "symbol", "at"]) fun _ _ _ _ _ _ us hl => match us, hl with | [_, _, _], _ => rfl,
    me_Spans_ends := ⟨a_Spans_ends, i_Spans_ends, k_Spans_ends⟩,
    f_spans_of := f_spans_of, d_spans_of := _, F_spans_of := F_spans_of, b_spans_of := F_spans_of.binds (ps := ["grammar", "text"]) fun _ _ _ _ _ _ us hl => match us, hl with | [_, _], _ => rfl,
    m_spans_of := PySem.W.mg_of X G a_spans_of,
    f_cuts_of := f_cuts_of, d_cuts_of := _, F_cuts_of := F_cuts_of, b_cuts_of := F_cuts_of.binds (ps := ["spans", "symbols", "start", "end"]) fun _ _ _ _ _ _ us hl => match us, hl with | [_, _, _, _], _ => rfl,
    m_cuts_of := PySem.W.mg_of X G a_cuts_of,
    f_Table_init := f_Table_init, d_Table_init := _, F_Table_init := F_Table_init, b_Table_init := F_Table_init.binds (ps := ["self", "grammar", "filters", "spans"]) fun _ _ _ _ _ _ us hl => match us, hl with | [_, _, _, _], _ => rfl,
    mk_Table := ⟨mk_Table, a_Table_init, i_Table_init, kc_Table⟩,
    f_Table_allowed := f_Table_allowed, d_Table_allowed := _, F_Table_allowed := F_Table_allowed, b_Table_allowed := F_Table_allowed.binds (ps := ["self", "key"]) fun _ _ _ _ _ _ us hl => match us, hl with | [_, _], _ => rfl,
    me_Table_allowed := ⟨a_Table_allowed, i_Table_allowed, k_Table_allowed⟩,
    f_Table_kid_keys := f_Table_kid_keys, d_Table_kid_keys := _, F_Table_kid_keys := F_Table_kid_keys, b_Table_kid_keys := F_Table_kid_keys.binds (ps := ["self", "k", "cuts"]) fun _ _ _ _ _ _ us hl => match us, hl with | [_, _, _], _ => rfl,
    me_Table_kid_keys := ⟨a_Table_kid_keys, i_Table_kid_keys, k_Table_kid_keys⟩,
    f_Table_alternatives := f_Table_alternatives, d_Table_alternatives := _, F_Table_alternatives := F_Table_alternatives, b_Table_alternatives := F_Table_alternatives.binds (ps := ["self", "key"]) fun _ _ _ _ _ _ us hl => match us, hl with | [_, _], _ => rfl,
    me_Table_alternatives := ⟨a_Table_alternatives, i_Table_alternatives, k_Table_alternatives⟩,
    f_table_of := f_table_of, d_table_of := _, F_table_of := F_table_of, b_table_of := F_table_of.binds (ps := ["grammar", "filters", "spans"]) fun _ _ _ _ _ _ us hl => match us, hl with | [_, _, _], _ => rfl,
    m_table_of := PySem.W.mg_of X G a_table_of,
    f_counted := f_counted, d_counted := _, F_counted := F_counted, b_counted := F_counted.binds (ps := ["table", "key", "known"]) fun _ _ _ _ _ _ us hl => match us, hl with | [_, _, _], _ => rfl,
    m_counted := PySem.W.mg_of X G a_counted,
    f_count := f_count, d_count := _, F_count := F_count, b_count := F_count.binds (ps := ["grammar", "filters", "text"]) fun _ _ _ _ _ _ us hl => match us, hl with | [_, _, _], _ => rfl,
    m_count := PySem.W.mg_of X G a_count,
    f_built := f_built, d_built := _, F_built := F_built, b_built := F_built.binds (ps := ["table", "key", "number", "known"]) fun _ _ _ _ _ _ us hl => match us, hl with | [_, _, _, _], _ => rfl,
    m_built := PySem.W.mg_of X G a_built,
    f_tree := f_tree, d_tree := _, F_tree := F_tree, b_tree := F_tree.binds (ps := ["grammar", "filters", "text", "number"]) fun _ _ _ _ _ _ us hl => match us, hl with | [_, _, _, _], _ => rfl,
    m_tree := PySem.W.mg_of X G a_tree,
    f_nodes := f_nodes, d_nodes := _, F_nodes := F_nodes, b_nodes := F_nodes.binds (ps := ["tree"]) fun _ _ _ _ _ _ us hl => match us, hl with | [_], _ => rfl,
    m_nodes := PySem.W.mg_of X G a_nodes,
    f_add_rows := f_add_rows, d_add_rows := _, F_add_rows := F_add_rows, b_add_rows := F_add_rows.binds (ps := ["rows", "tree", "path", "start"]) fun _ _ _ _ _ _ us hl => match us, hl with | [_, _, _, _], _ => rfl,
    m_add_rows := PySem.W.mg_of X G a_add_rows,
    f_subtree := f_subtree, d_subtree := _, F_subtree := F_subtree, b_subtree := F_subtree.binds (ps := ["tree", "path"]) fun _ _ _ _ _ _ us hl => match us, hl with | [_, _], _ => rfl,
    m_subtree := PySem.W.mg_of X G a_subtree,
    f_Reading_init := f_Reading_init, d_Reading_init := _, F_Reading_init := F_Reading_init, b_Reading_init := F_Reading_init.binds (ps := ["self", "grammar", "filters", "spans"]) fun _ _ _ _ _ _ us hl => match us, hl with | [_, _, _, _], _ => rfl,
    mk_Reading := ⟨mk_Reading, a_Reading_init, i_Reading_init, kc_Reading⟩,
    f_Reading_tree := f_Reading_tree, d_Reading_tree := _, F_Reading_tree := F_Reading_tree, b_Reading_tree := F_Reading_tree.binds (ps := ["self", "number"]) fun _ _ _ _ _ _ us hl => match us, hl with | [_, _], _ => rfl,
    me_Reading_tree := ⟨a_Reading_tree, i_Reading_tree, k_Reading_tree⟩,
    f_read := f_read, d_read := _, F_read := F_read, b_read := F_read.binds (ps := ["grammar", "filters", "text"]) fun _ _ _ _ _ _ us hl => match us, hl with | [_, _, _], _ => rfl,
    m_read := PySem.W.mg_of X G a_read,
    f_read_again := f_read_again, d_read_again := _, F_read_again := F_read_again, b_read_again := F_read_again.binds (ps := ["reading", "edit"]) fun _ _ _ _ _ _ us hl => match us, hl with | [_, _], _ => rfl,
    m_read_again := PySem.W.mg_of X G a_read_again,
    f_kept := f_kept, d_kept := _, F_kept := F_kept, b_kept := F_kept.binds (ps := ["old", "new", "edit"]) fun _ _ _ _ _ _ us hl => match us, hl with | [_, _, _], _ => rfl,
    m_kept := PySem.W.mg_of X G a_kept,
    f_law_draws := f_law_draws, d_law_draws := _, F_law_draws := F_law_draws, b_law_draws := F_law_draws.binds (ps := ["_law_script"]) fun _ _ _ _ _ _ us hl => match us, hl with | [_], _ => rfl,
    m_law_draws := PySem.W.mg_of X G a_law_draws,
    f_law_draw := f_law_draw, d_law_draw := _, F_law_draw := F_law_draw, b_law_draw := F_law_draw.binds (ps := ["_law_draws_here", "_law_limit"]) fun _ _ _ _ _ _ us hl => match us, hl with | [_, _], _ => rfl,
    m_law_draw := PySem.W.mg_of X G a_law_draw,
    f_law_same := f_law_same, d_law_same := _, F_law_same := F_law_same, b_law_same := F_law_same.binds (ps := ["_law_actual", "_law_expected"]) fun _ _ _ _ _ _ us hl => match us, hl with | [_, _], _ => rfl,
    m_law_same := PySem.W.mg_of X G a_law_same,
    f_law_grammar := f_law_grammar, d_law_grammar := _, F_law_grammar := F_law_grammar, b_law_grammar := F_law_grammar.binds (ps := ["_law_loose"]) fun _ _ _ _ _ _ us hl => match us, hl with | [_], _ => rfl,
    m_law_grammar := PySem.W.mg_of X G a_law_grammar,
    f_law_run := f_law_run, d_law_run := _, F_law_run := F_law_run, b_law_run := F_law_run.binds (ps := ["_law_text", "_law_at", "_law_chars"]) fun _ _ _ _ _ _ us hl => match us, hl with | [_, _, _], _ => rfl,
    m_law_run := PySem.W.mg_of X G a_law_run,
    f_law_item := f_law_item, d_law_item := _, F_law_item := F_law_item, b_law_item := F_law_item.binds (ps := ["_law_text", "_law_at"]) fun _ _ _ _ _ _ us hl => match us, hl with | [_, _], _ => rfl,
    m_law_item := PySem.W.mg_of X G a_law_item,
    f_law_list := f_law_list, d_law_list := _, F_law_list := F_law_list, b_law_list := F_law_list.binds (ps := ["_law_text", "_law_at"]) fun _ _ _ _ _ _ us hl => match us, hl with | [_, _], _ => rfl,
    m_law_list := PySem.W.mg_of X G a_law_list,
    f_law_read := f_law_read, d_law_read := _, F_law_read := F_law_read, b_law_read := F_law_read.binds (ps := ["_law_text"]) fun _ _ _ _ _ _ us hl => match us, hl with | [_], _ => rfl,
    m_law_read := PySem.W.mg_of X G a_law_read,
    f_law_ways := f_law_ways, d_law_ways := _, F_law_ways := F_law_ways, b_law_ways := F_law_ways.binds (ps := ["_law_one"]) fun _ _ _ _ _ _ us hl => match us, hl with | [_], _ => rfl,
    m_law_ways := PySem.W.mg_of X G a_law_ways,
    f_law_size := f_law_size, d_law_size := _, F_law_size := F_law_size, b_law_size := F_law_size.binds (ps := ["_law_one"]) fun _ _ _ _ _ _ us hl => match us, hl with | [_], _ => rfl,
    m_law_size := PySem.W.mg_of X G a_law_size,
    f_law_nodes := f_law_nodes, d_law_nodes := _, F_law_nodes := F_law_nodes, b_law_nodes := F_law_nodes.binds (ps := ["_law_one", "_law_path", "_law_start"]) fun _ _ _ _ _ _ us hl => match us, hl with | [_, _, _], _ => rfl,
    m_law_nodes := PySem.W.mg_of X G a_law_nodes,
    f_law_kept := f_law_kept, d_law_kept := _, F_law_kept := F_law_kept, b_law_kept := F_law_kept.binds (ps := ["_law_old", "_law_new", "_law_edit_here"]) fun _ _ _ _ _ _ us hl => match us, hl with | [_, _, _], _ => rfl,
    m_law_kept := PySem.W.mg_of X G a_law_kept,
    f_law_tree := f_law_tree, d_law_tree := _, F_law_tree := F_law_tree, b_law_tree := F_law_tree.binds (ps := ["_law_reading", "_law_number"]) fun _ _ _ _ _ _ us hl => match us, hl with | [_, _], _ => rfl,
    m_law_tree := PySem.W.mg_of X G a_law_tree,
    f_law_items := f_law_items, d_law_items := _, F_law_items := F_law_items, b_law_items := F_law_items.binds (ps := ["_law_draws_here", "_law_deep"]) fun _ _ _ _ _ _ us hl => match us, hl with | [_, _], _ => rfl,
    m_law_items := PySem.W.mg_of X G a_law_items,
    f_law_edit := f_law_edit, d_law_edit := _, F_law_edit := F_law_edit, b_law_edit := F_law_edit.binds (ps := ["_law_draws_here", "_law_text"]) fun _ _ _ _ _ _ us hl => match us, hl with | [_, _], _ => rfl,
    m_law_edit := PySem.W.mg_of X G a_law_edit,
    f_law := fa, d_law := _, F_law := F_law, b_law := F_law.binds (ps := ["_law_script"]) fun _ _ _ _ _ _ us hl => match us, hl with | [_], _ => rfl,
    m_law := PySem.W.mg_of X G a_law,
    z_len := PySem.W.mg_none_of X G zz_len,
    z_sorted := PySem.W.mg_none_of X G zz_sorted,
    z_all := PySem.W.mg_none_of X G zz_all,
    z_any := PySem.W.mg_none_of X G zz_any,
    z_sum := PySem.W.mg_none_of X G zz_sum,
    z_min := PySem.W.mg_none_of X G zz_min,
    z_isinstance := PySem.W.mg_none_of X G zz_isinstance,
    z_enumerate := PySem.W.mg_none_of X G zz_enumerate,
    z_range := PySem.W.mg_none_of X G zz_range,
    z_list := PySem.W.mg_none_of X G zz_list,
    z_int := PySem.W.mg_none_of X G zz_int,
    z_tuple := PySem.W.mg_none_of X G zz_tuple,
    z_set := PySem.W.mg_none_of X G zz_set,
    z_str := PySem.W.mg_none_of X G zz_str,
    z_bool := PySem.W.mg_none_of X G zz_bool }
  exact ⟨T.d_law, fun s u => .of_eq rfl, fun base _ _ => all_ok T ⟨xE, kE, bE, tE_, exm_self' bE iE tE_ sE⟩⟩
theorem walk_law {l : PySem.W.OpenLaw} {q : Program} {loose : List Str} {XP : (Str → Option Value) → Heap → Prop} {YP : World → Heap → Prop} {d : DefRec} {K : Params → PySem.W.Frag} (hn : l.most = some 63) (hdf : d.params.defaults = [])
    (hY : ∀ (w : World) (h : Heap), YP w h → (K w.params).In h)
    (F : ∀ (w : World) (mg : Str → Option Value) (fa : Addr) (h : Heap), (K w.params).In h → h.Ns mainGlobals mg → mg d.name = some (.ref fa) →
      ∃ fd : FuncData, (∀ (s : Shared) (u : Value), BindsTo s fd ⟨[u], []⟩ [("_law_script", u)]) ∧ ∀ base : Heap, (K w.params).In base → base.Ns mainGlobals mg → FnOk l.prog w (K w.params) mg base CX0 206 fa fd ["_law_script"] (spLaw (K w.params))) :
    PySem.W.WalkO q loose XP YP l.row.toRowW d [] (fun f vs => PySem.call f vs) :=
  L2.walk_of (n := 63) (k := 206) (x := "_law_script") (CX := fun _ => CX0) (sp := fun w => spLaw (K w.params)) hn (by decide) hdf ⟨rfl, by decide, by decide⟩ hY F (fun _ _ a ns hl _ hS => ⟨a, ns, rfl, hS, hl, fun _ => rfl⟩) fun _ _ _ _ _ z => z
end K38
open PySem PySem.W PyProof.Rows
set_option maxRecDepth 100000 in
set_option maxHeartbeats 0 in
theorem PySem.Challenge.cw_scribeself_k38_whole_long_readings_holds : PySem.Challenge.rw_scribeself_k38_whole_long_readings.Holds := by
  w_on; o_law; k_head; (case hw => w_witness2)
  k_fill
  refine K38.walk_law (l := PySem.Challenge.rw_scribeself_k38_whole_long_readings) rfl rfl (fun w h Y => PySem.W.kIn_of Y) ?F
  case F =>
    intro w mg fa h KX G hmg
    refine' K38.all_mk KX G hmg ?aC_ScribeError ?aC_TreeError ?aC_EditError ?aC_Spans ?pg_Spans ?hd_Spans ?po_Spans ?sa_Spans ?mk_Spans ?kc_Spans ?n_Spans_grammar ?n_Spans_text ?n_Spans_empty ?n_Spans_by_name ?n_Spans_rows ?n_Spans_states ?n_Spans_there ?n_Spans_waiting ?n_Spans_made ?aC_Table ?pg_Table ?hd_Table ?po_Table ?sa_Table ?mk_Table ?kc_Table ?n_Table_grammar ?n_Table_filters ?n_Table_spans ?n_Table_rows ?aC_Reading ?pg_Reading ?hd_Reading ?po_Reading ?sa_Reading ?mk_Reading ?kc_Reading ?n_Reading_grammar ?n_Reading_filters ?n_Reading_text ?n_Reading_spans ?n_Reading_made ?a_check_edit ?l_check_edit ?c_check_edit ?k_check_edit ?a_applied ?l_applied ?c_applied ?k_applied ?a_nullable ?l_nullable ?c_nullable ?k_nullable ?a_Spans_init ?i_Spans_init ?l_Spans_init ?c_Spans_init ?k_Spans_init ?a_Spans_add_item ?i_Spans_add_item ?l_Spans_add_item ?c_Spans_add_item ?k_Spans_add_item ?a_Spans_predict ?i_Spans_predict ?l_Spans_predict ?c_Spans_predict ?k_Spans_predict ?a_Spans_scan ?i_Spans_scan ?l_Spans_scan ?c_Spans_scan ?k_Spans_scan ?a_Spans_complete ?i_Spans_complete ?l_Spans_complete ?c_Spans_complete ?k_Spans_complete ?a_Spans_wait ?i_Spans_wait ?l_Spans_wait ?c_Spans_wait ?k_Spans_wait ?a_Spans_fill ?i_Spans_fill ?l_Spans_fill ?c_Spans_fill ?k_Spans_fill ?a_Spans_take_over ?i_Spans_take_over ?l_Spans_take_over ?c_Spans_take_over ?k_Spans_take_over ?a_Spans_ends ?i_Spans_ends ?l_Spans_ends ?c_Spans_ends ?k_Spans_ends ?a_spans_of ?l_spans_of ?c_spans_of ?k_spans_of ?a_cuts_of ?l_cuts_of ?c_cuts_of ?k_cuts_of ?a_Table_init ?i_Table_init ?l_Table_init ?c_Table_init ?k_Table_init ?a_Table_allowed ?i_Table_allowed ?l_Table_allowed ?c_Table_allowed ?k_Table_allowed ?a_Table_kid_keys ?i_Table_kid_keys ?l_Table_kid_keys ?c_Table_kid_keys ?k_Table_kid_keys ?a_Table_alternatives ?i_Table_alternatives ?l_Table_alternatives ?c_Table_alternatives ?k_Table_alternatives ?a_table_of ?l_table_of ?c_table_of ?k_table_of ?a_counted ?l_counted ?c_counted ?k_counted ?a_count ?l_count ?c_count ?k_count ?a_built ?l_built ?c_built ?k_built ?a_tree ?l_tree ?c_tree ?k_tree ?a_nodes ?l_nodes ?c_nodes ?k_nodes ?a_add_rows ?l_add_rows ?c_add_rows ?k_add_rows ?a_subtree ?l_subtree ?c_subtree ?k_subtree ?a_Reading_init ?i_Reading_init ?l_Reading_init ?c_Reading_init ?k_Reading_init ?a_Reading_tree ?i_Reading_tree ?l_Reading_tree ?c_Reading_tree ?k_Reading_tree ?a_read ?l_read ?c_read ?k_read ?a_read_again ?l_read_again ?c_read_again ?k_read_again ?a_kept ?l_kept ?c_kept ?k_kept ?a_law_draws ?l_law_draws ?c_law_draws ?k_law_draws ?a_law_draw ?l_law_draw ?c_law_draw ?k_law_draw ?a_law_same ?l_law_same ?c_law_same ?k_law_same ?a_law_grammar ?l_law_grammar ?c_law_grammar ?k_law_grammar ?a_law_run ?l_law_run ?c_law_run ?k_law_run ?a_law_item ?l_law_item ?c_law_item ?k_law_item ?a_law_list ?l_law_list ?c_law_list ?k_law_list ?a_law_read ?l_law_read ?c_law_read ?k_law_read ?a_law_ways ?l_law_ways ?c_law_ways ?k_law_ways ?a_law_size ?l_law_size ?c_law_size ?k_law_size ?a_law_nodes ?l_law_nodes ?c_law_nodes ?k_law_nodes ?a_law_kept ?l_law_kept ?c_law_kept ?k_law_kept ?a_law_tree ?l_law_tree ?c_law_tree ?k_law_tree ?a_law_items ?l_law_items ?c_law_items ?k_law_items ?a_law_edit ?l_law_edit ?c_law_edit ?k_law_edit ?a_law ?l_law ?c_law ?k_law ?zz_len ?zz_sorted ?zz_all ?zz_any ?zz_sum ?zz_min ?zz_isinstance ?zz_enumerate ?zz_range ?zz_list ?zz_int ?zz_tuple ?zz_set ?zz_str ?zz_bool ?xE ?kE ?bE ?tE_ ?iE ?sE
    (case aC_ScribeError => k_is)
    (case aC_TreeError => k_is)
    (case aC_EditError => k_is)
    (case aC_Spans => k_is)
    (case pg_Spans => k_is)
    (case hd_Spans => k_is)
    (case po_Spans => k_is)
    (case sa_Spans => k_is)
    (case mk_Spans => k_is)
    (case kc_Spans => k_is)
    (case n_Spans_grammar => k_is)
    (case n_Spans_text => k_is)
    (case n_Spans_empty => k_is)
    (case n_Spans_by_name => k_is)
    (case n_Spans_rows => k_is)
    (case n_Spans_states => k_is)
    (case n_Spans_there => k_is)
    (case n_Spans_waiting => k_is)
    (case n_Spans_made => k_is)
    (case aC_Table => k_is)
    (case pg_Table => k_is)
    (case hd_Table => k_is)
    (case po_Table => k_is)
    (case sa_Table => k_is)
    (case mk_Table => k_is)
    (case kc_Table => k_is)
    (case n_Table_grammar => k_is)
    (case n_Table_filters => k_is)
    (case n_Table_spans => k_is)
    (case n_Table_rows => k_is)
    (case aC_Reading => k_is)
    (case pg_Reading => k_is)
    (case hd_Reading => k_is)
    (case po_Reading => k_is)
    (case sa_Reading => k_is)
    (case mk_Reading => k_is)
    (case kc_Reading => k_is)
    (case n_Reading_grammar => k_is)
    (case n_Reading_filters => k_is)
    (case n_Reading_text => k_is)
    (case n_Reading_spans => k_is)
    (case n_Reading_made => k_is)
    (case a_check_edit => k_is)
    (case l_check_edit => k_is)
    (case c_check_edit => k_is)
    (case k_check_edit => k_is)
    (case a_applied => k_is)
    (case l_applied => k_is)
    (case c_applied => k_is)
    (case k_applied => k_is)
    (case a_nullable => k_is)
    (case l_nullable => k_is)
    (case c_nullable => k_is)
    (case k_nullable => k_is)
    (case a_Spans_init => k_is)
    (case i_Spans_init => k_is)
    (case l_Spans_init => k_is)
    (case c_Spans_init => k_is)
    (case k_Spans_init => k_is)
    (case a_Spans_add_item => k_is)
    (case i_Spans_add_item => k_is)
    (case l_Spans_add_item => k_is)
    (case c_Spans_add_item => k_is)
    (case k_Spans_add_item => k_is)
    (case a_Spans_predict => k_is)
    (case i_Spans_predict => k_is)
    (case l_Spans_predict => k_is)
    (case c_Spans_predict => k_is)
    (case k_Spans_predict => k_is)
    (case a_Spans_scan => k_is)
    (case i_Spans_scan => k_is)
    (case l_Spans_scan => k_is)
    (case c_Spans_scan => k_is)
    (case k_Spans_scan => k_is)
    (case a_Spans_complete => k_is)
    (case i_Spans_complete => k_is)
    (case l_Spans_complete => k_is)
    (case c_Spans_complete => k_is)
    (case k_Spans_complete => k_is)
    (case a_Spans_wait => k_is)
    (case i_Spans_wait => k_is)
    (case l_Spans_wait => k_is)
    (case c_Spans_wait => k_is)
    (case k_Spans_wait => k_is)
    (case a_Spans_fill => k_is)
    (case i_Spans_fill => k_is)
    (case l_Spans_fill => k_is)
    (case c_Spans_fill => k_is)
    (case k_Spans_fill => k_is)
    (case a_Spans_take_over => k_is)
    (case i_Spans_take_over => k_is)
    (case l_Spans_take_over => k_is)
    (case c_Spans_take_over => k_is)
    (case k_Spans_take_over => k_is)
    (case a_Spans_ends => k_is)
    (case i_Spans_ends => k_is)
    (case l_Spans_ends => k_is)
    (case c_Spans_ends => k_is)
    (case k_Spans_ends => k_is)
    (case a_spans_of => k_is)
    (case l_spans_of => k_is)
    (case c_spans_of => k_is)
    (case k_spans_of => k_is)
    (case a_cuts_of => k_is)
    (case l_cuts_of => k_is)
    (case c_cuts_of => k_is)
    (case k_cuts_of => k_is)
    (case a_Table_init => k_is)
    (case i_Table_init => k_is)
    (case l_Table_init => k_is)
    (case c_Table_init => k_is)
    (case k_Table_init => k_is)
    (case a_Table_allowed => k_is)
    (case i_Table_allowed => k_is)
    (case l_Table_allowed => k_is)
    (case c_Table_allowed => k_is)
    (case k_Table_allowed => k_is)
    (case a_Table_kid_keys => k_is)
    (case i_Table_kid_keys => k_is)
    (case l_Table_kid_keys => k_is)
    (case c_Table_kid_keys => k_is)
    (case k_Table_kid_keys => k_is)
    (case a_Table_alternatives => k_is)
    (case i_Table_alternatives => k_is)
    (case l_Table_alternatives => k_is)
    (case c_Table_alternatives => k_is)
    (case k_Table_alternatives => k_is)
    (case a_table_of => k_is)
    (case l_table_of => k_is)
    (case c_table_of => k_is)
    (case k_table_of => k_is)
    (case a_counted => k_is)
    (case l_counted => k_is)
    (case c_counted => k_is)
    (case k_counted => k_is)
    (case a_count => k_is)
    (case l_count => k_is)
    (case c_count => k_is)
    (case k_count => k_is)
    (case a_built => k_is)
    (case l_built => k_is)
    (case c_built => k_is)
    (case k_built => k_is)
    (case a_tree => k_is)
    (case l_tree => k_is)
    (case c_tree => k_is)
    (case k_tree => k_is)
    (case a_nodes => k_is)
    (case l_nodes => k_is)
    (case c_nodes => k_is)
    (case k_nodes => k_is)
    (case a_add_rows => k_is)
    (case l_add_rows => k_is)
    (case c_add_rows => k_is)
    (case k_add_rows => k_is)
    (case a_subtree => k_is)
    (case l_subtree => k_is)
    (case c_subtree => k_is)
    (case k_subtree => k_is)
    (case a_Reading_init => k_is)
    (case i_Reading_init => k_is)
    (case l_Reading_init => k_is)
    (case c_Reading_init => k_is)
    (case k_Reading_init => k_is)
    (case a_Reading_tree => k_is)
    (case i_Reading_tree => k_is)
    (case l_Reading_tree => k_is)
    (case c_Reading_tree => k_is)
    (case k_Reading_tree => k_is)
    (case a_read => k_is)
    (case l_read => k_is)
    (case c_read => k_is)
    (case k_read => k_is)
    (case a_read_again => k_is)
    (case l_read_again => k_is)
    (case c_read_again => k_is)
    (case k_read_again => k_is)
    (case a_kept => k_is)
    (case l_kept => k_is)
    (case c_kept => k_is)
    (case k_kept => k_is)
    (case a_law_draws => k_is)
    (case l_law_draws => k_is)
    (case c_law_draws => k_is)
    (case k_law_draws => k_is)
    (case a_law_draw => k_is)
    (case l_law_draw => k_is)
    (case c_law_draw => k_is)
    (case k_law_draw => k_is)
    (case a_law_same => k_is)
    (case l_law_same => k_is)
    (case c_law_same => k_is)
    (case k_law_same => k_is)
    (case a_law_grammar => k_is)
    (case l_law_grammar => k_is)
    (case c_law_grammar => k_is)
    (case k_law_grammar => k_is)
    (case a_law_run => k_is)
    (case l_law_run => k_is)
    (case c_law_run => k_is)
    (case k_law_run => k_is)
    (case a_law_item => k_is)
    (case l_law_item => k_is)
    (case c_law_item => k_is)
    (case k_law_item => k_is)
    (case a_law_list => k_is)
    (case l_law_list => k_is)
    (case c_law_list => k_is)
    (case k_law_list => k_is)
    (case a_law_read => k_is)
    (case l_law_read => k_is)
    (case c_law_read => k_is)
    (case k_law_read => k_is)
    (case a_law_ways => k_is)
    (case l_law_ways => k_is)
    (case c_law_ways => k_is)
    (case k_law_ways => k_is)
    (case a_law_size => k_is)
    (case l_law_size => k_is)
    (case c_law_size => k_is)
    (case k_law_size => k_is)
    (case a_law_nodes => k_is)
    (case l_law_nodes => k_is)
    (case c_law_nodes => k_is)
    (case k_law_nodes => k_is)
    (case a_law_kept => k_is)
    (case l_law_kept => k_is)
    (case c_law_kept => k_is)
    (case k_law_kept => k_is)
    (case a_law_tree => k_is)
    (case l_law_tree => k_is)
    (case c_law_tree => k_is)
    (case k_law_tree => k_is)
    (case a_law_items => k_is)
    (case l_law_items => k_is)
    (case c_law_items => k_is)
    (case k_law_items => k_is)
    (case a_law_edit => k_is)
    (case l_law_edit => k_is)
    (case c_law_edit => k_is)
    (case k_law_edit => k_is)
    (case a_law => k_is)
    (case l_law => k_is)
    (case c_law => k_is)
    (case k_law => k_is)
    (case zz_len => k_is)
    (case zz_sorted => k_is)
    (case zz_all => k_is)
    (case zz_any => k_is)
    (case zz_sum => k_is)
    (case zz_min => k_is)
    (case zz_isinstance => k_is)
    (case zz_enumerate => k_is)
    (case zz_range => k_is)
    (case zz_list => k_is)
    (case zz_int => k_is)
    (case zz_tuple => k_is)
    (case zz_set => k_is)
    (case zz_str => k_is)
    (case zz_bool => k_is)
    (case xE => k_exc)
    (case kE => k_is)
    (case bE => k_is)
    (case tE_ => k_is)
    (case iE => k_is)
    (case sE => first | rfl | k_is)
