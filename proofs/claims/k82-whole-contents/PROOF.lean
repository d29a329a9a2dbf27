import PyProof.Rows.All
import Wide.All
import OpenK.AllK
import Wide.FinOn
import KE.KSetDisp
import KE.KFromBytes
import KE.KLam
import KE.KNest
import KE.KStateDown
import KE.SortData
import KE.KDictCopyH
import KE.KDictWalk
import KE.KExcHand
import KE.KEqNest
import HandS.ForMost
import HandS.ForExc
import HandS.Defaults
import HandS.Deep
import HandS.SetKeys
import HandS.SortKw
import KE.DataMinMax
import HandS.Strs
import HandS.StrMore
import HandS.Conv
import HandS.Flow
import HandS.Style
import HandS.IsInst
import HandS.FStr
import HandS.TupLe
import HandS.TupLen
import HandS.TupAny
import HandS.DictComp
import HandS.DictTup
import HandS.Zip
import HandS.Codes
import HandS.More
import HandS.Wide
import HandS.AnyAll
import HandS.GenOver
import HandS.Walk
import HandS.ExcOwn
import HandS.ExcInit
import HandS.ExcField
import HandS.TryMany
import HandS.Head0
import HandS.Head1
import HandS.Head2
import HandS.HeadEnd
import HandS.HeadHook1
import HandS.HeadHook2
import HandS.HeadHook3
import HandS.HeadHook4
import HandS.HeadWalk
import HandS.Lambda
import HandS.EndTab
import KE.DataEq
import HandS.ExcSuper
import KE.KExcSuper
import KE.KSuper
import PySem.Challenge.RW_authsync_k82_whole_contents
set_option Elab.async false
set_option linter.all false
set_option maxRecDepth 100000
/-! Authsync: the defs of the text by their places, the facts of the top. -/
namespace Au
open PySem PySem.Spec PyProof.Rows L2
/-- a statement of the top -/
def top (i : Nat) : Stmt := PySem.Challenge.pw_authsync_k82_whole_contents.main.body.getD i (.Pass ⟨0, 0, 0, 0⟩)
abbrev s_difference : Stmt := top 6
abbrev s_applies : Stmt := top 7
abbrev s_apply_change : Stmt := top 8
abbrev s_is_sign : Stmt := top 12
abbrev s_is_word : Stmt := top 13
abbrev s_is_identifier : Stmt := top 14
abbrev s_type_of : Stmt := top 15
abbrev s_split_reference : Stmt := top 16
abbrev s_token_of : Stmt := top 17
abbrev s_split_token : Stmt := top 18
abbrev s_Line_init : Stmt := inClass (top 25) 0
abbrev s_Line_next_part : Stmt := inClass (top 25) 2
abbrev s_Line_take : Stmt := inClass (top 25) 3
abbrev s_Line_expect : Stmt := inClass (top 25) 4
abbrev s_Line_name : Stmt := inClass (top 25) 5
abbrev s_Line_accepts : Stmt := inClass (top 25) 6
abbrev s_Line_finish : Stmt := inClass (top 25) 7
abbrev s_parts_of_line : Stmt := top 26
abbrev s_read_subject : Stmt := top 27
abbrev s_read_relation : Stmt := top 28
abbrev s_read_term : Stmt := top 29
abbrev s_read_permission : Stmt := top 30
abbrev s_read_line : Stmt := top 31
abbrev s_check_duplicates : Stmt := top 32
abbrev s_entry_of : Stmt := top 33
abbrev s_definition : Stmt := top 34
abbrev s_led_types : Stmt := top 35
abbrev s_is_known : Stmt := top 36
abbrev s_needs_of : Stmt := top 37
abbrev s_strata : Stmt := top 38
abbrev s_read_schema : Stmt := top 39
abbrev s_conforms : Stmt := top 41
abbrev s_check_relationships : Stmt := top 42
abbrev s_check_question : Stmt := top 43
abbrev s_Graph_init : Stmt := inClass (top 44) 0
abbrev s_Graph_subjects_of : Stmt := inClass (top 44) 1
abbrev s_Graph_stratum_of : Stmt := inClass (top 44) 2
abbrev s_Graph_pairs_of : Stmt := inClass (top 44) 3
abbrev s_Graph_depends_on : Stmt := inClass (top 44) 4
abbrev s_count_of : Stmt := top 45
abbrev s_least : Stmt := top 46
abbrev s_both : Stmt := top 47
abbrev s_rule_count : Stmt := top 48
abbrev s_names_by_stratum : Stmt := top 49
abbrev s_ranks_for : Stmt := top 50
abbrev s_ranked : Stmt := top 51
abbrev s_evaluate : Stmt := top 52
abbrev s_Revision_init : Stmt := inClass (top 56) 0
abbrev s_Primary_init : Stmt := inClass (top 57) 0
abbrev s_Primary_store_id : Stmt := inClass (top 57) 1
abbrev s_Primary_revision : Stmt := inClass (top 57) 2
abbrev s_Primary_token : Stmt := inClass (top 57) 4
abbrev s_Primary_check_room : Stmt := inClass (top 57) 5
abbrev s_Primary_check_update : Stmt := inClass (top 57) 6
abbrev s_Primary_after_updates : Stmt := inClass (top 57) 7
abbrev s_Primary_write : Stmt := inClass (top 57) 9
abbrev s_Primary_number_at : Stmt := inClass (top 57) 13
abbrev s_Primary_check_revision : Stmt := inClass (top 57) 14
abbrev s_Primary_at_number : Stmt := inClass (top 57) 15
abbrev s_Primary_relationships : Stmt := inClass (top 57) 16
abbrev s_Primary_grants : Stmt := inClass (top 57) 18
abbrev s_Primary_snapshot : Stmt := inClass (top 57) 19
abbrev s_Primary_check : Stmt := inClass (top 57) 20
abbrev s_Primary_entry : Stmt := inClass (top 57) 21
abbrev s_Primary_compact : Stmt := inClass (top 57) 23
abbrev s_ContentStore_init : Stmt := inClass (top 60) 0
abbrev s_ContentStore_put : Stmt := inClass (top 60) 1
abbrev s_ContentStore_version : Stmt := inClass (top 60) 2
abbrev s_ContentStore_token : Stmt := inClass (top 60) 3
abbrev s_ContentStore_read : Stmt := inClass (top 60) 4
abbrev s_Replica_init : Stmt := inClass (top 64) 0
abbrev s_Replica_store_id : Stmt := inClass (top 64) 1
abbrev s_Replica_revision : Stmt := inClass (top 64) 2
abbrev s_Replica_fits : Stmt := inClass (top 64) 3
abbrev s_Replica_check_entry : Stmt := inClass (top 64) 4
abbrev s_Replica_receive : Stmt := inClass (top 64) 5
abbrev s_Replica_take_waiting : Stmt := inClass (top 64) 6
abbrev s_Replica_check : Stmt := inClass (top 64) 9
abbrev s__law_cell : Stmt := top 66
abbrev s__law_draws : Stmt := top 67
abbrev s__law_same : Stmt := top 68
abbrev s__law_store : Stmt := top 69
abbrev s__law_put : Stmt := top 72
abbrev s__law_read : Stmt := top 73
abbrev s__law_is_put : Stmt := top 74
abbrev s__law_is_read : Stmt := top 75
abbrev s_law : Stmt := top 76
/-! ### the defs as data -/
def d_difference : He.DefD := ⟨("difference", none), "difference", "difference", defArgs s_difference, defBody s_difference, defScope s_difference, [], []⟩
def d_applies : He.DefD := ⟨("applies", none), "applies", "applies", defArgs s_applies, defBody s_applies, defScope s_applies, [], []⟩
def d_apply_change : He.DefD := ⟨("apply_change", none), "apply_change", "apply_change", defArgs s_apply_change, defBody s_apply_change, defScope s_apply_change, [], []⟩
def d_is_sign : He.DefD := ⟨("is_sign", none), "is_sign", "is_sign", defArgs s_is_sign, defBody s_is_sign, defScope s_is_sign, [], []⟩
def d_is_word : He.DefD := ⟨("is_word", none), "is_word", "is_word", defArgs s_is_word, defBody s_is_word, defScope s_is_word, [], []⟩
def d_is_identifier : He.DefD := ⟨("is_identifier", none), "is_identifier", "is_identifier", defArgs s_is_identifier, defBody s_is_identifier, defScope s_is_identifier, [], []⟩
def d_type_of : He.DefD := ⟨("type_of", none), "type_of", "type_of", defArgs s_type_of, defBody s_type_of, defScope s_type_of, [], []⟩
def d_split_reference : He.DefD := ⟨("split_reference", none), "split_reference", "split_reference", defArgs s_split_reference, defBody s_split_reference, defScope s_split_reference, [], []⟩
def d_token_of : He.DefD := ⟨("token_of", none), "token_of", "token_of", defArgs s_token_of, defBody s_token_of, defScope s_token_of, [], []⟩
def d_split_token : He.DefD := ⟨("split_token", none), "split_token", "split_token", defArgs s_split_token, defBody s_split_token, defScope s_split_token, [], []⟩
def d_Line_init : He.DefD := ⟨("Line", some "__init__"), "__init__", "Line.__init__", defArgs s_Line_init, defBody s_Line_init, defScope s_Line_init, [], []⟩
def d_Line_next_part : He.DefD := ⟨("Line", some "next_part"), "next_part", "Line.next_part", defArgs s_Line_next_part, defBody s_Line_next_part, defScope s_Line_next_part, [], []⟩
def d_Line_take : He.DefD := ⟨("Line", some "take"), "take", "Line.take", defArgs s_Line_take, defBody s_Line_take, defScope s_Line_take, [], []⟩
def d_Line_expect : He.DefD := ⟨("Line", some "expect"), "expect", "Line.expect", defArgs s_Line_expect, defBody s_Line_expect, defScope s_Line_expect, [], []⟩
def d_Line_name : He.DefD := ⟨("Line", some "name"), "name", "Line.name", defArgs s_Line_name, defBody s_Line_name, defScope s_Line_name, [], []⟩
def d_Line_accepts : He.DefD := ⟨("Line", some "accepts"), "accepts", "Line.accepts", defArgs s_Line_accepts, defBody s_Line_accepts, defScope s_Line_accepts, [], []⟩
def d_Line_finish : He.DefD := ⟨("Line", some "finish"), "finish", "Line.finish", defArgs s_Line_finish, defBody s_Line_finish, defScope s_Line_finish, [], []⟩
def d_parts_of_line : He.DefD := ⟨("parts_of_line", none), "parts_of_line", "parts_of_line", defArgs s_parts_of_line, defBody s_parts_of_line, defScope s_parts_of_line, [], []⟩
def d_read_subject : He.DefD := ⟨("read_subject", none), "read_subject", "read_subject", defArgs s_read_subject, defBody s_read_subject, defScope s_read_subject, [], []⟩
def d_read_relation : He.DefD := ⟨("read_relation", none), "read_relation", "read_relation", defArgs s_read_relation, defBody s_read_relation, defScope s_read_relation, [], []⟩
def d_read_term : He.DefD := ⟨("read_term", none), "read_term", "read_term", defArgs s_read_term, defBody s_read_term, defScope s_read_term, [], []⟩
def d_read_permission : He.DefD := ⟨("read_permission", none), "read_permission", "read_permission", defArgs s_read_permission, defBody s_read_permission, defScope s_read_permission, [], []⟩
def d_read_line : He.DefD := ⟨("read_line", none), "read_line", "read_line", defArgs s_read_line, defBody s_read_line, defScope s_read_line, [], []⟩
def d_check_duplicates : He.DefD := ⟨("check_duplicates", none), "check_duplicates", "check_duplicates", defArgs s_check_duplicates, defBody s_check_duplicates, defScope s_check_duplicates, [], []⟩
def d_entry_of : He.DefD := ⟨("entry_of", none), "entry_of", "entry_of", defArgs s_entry_of, defBody s_entry_of, defScope s_entry_of, [], []⟩
def d_definition : He.DefD := ⟨("definition", none), "definition", "definition", defArgs s_definition, defBody s_definition, defScope s_definition, [], []⟩
def d_led_types : He.DefD := ⟨("led_types", none), "led_types", "led_types", defArgs s_led_types, defBody s_led_types, defScope s_led_types, [], []⟩
def d_is_known : He.DefD := ⟨("is_known", none), "is_known", "is_known", defArgs s_is_known, defBody s_is_known, defScope s_is_known, [], []⟩
def d_needs_of : He.DefD := ⟨("needs_of", none), "needs_of", "needs_of", defArgs s_needs_of, defBody s_needs_of, defScope s_needs_of, [], []⟩
def d_strata : He.DefD := ⟨("strata", none), "strata", "strata", defArgs s_strata, defBody s_strata, defScope s_strata, [], []⟩
def d_read_schema : He.DefD := ⟨("read_schema", none), "read_schema", "read_schema", defArgs s_read_schema, defBody s_read_schema, defScope s_read_schema, [], []⟩
def d_conforms : He.DefD := ⟨("conforms", none), "conforms", "conforms", defArgs s_conforms, defBody s_conforms, defScope s_conforms, [], []⟩
def d_check_relationships : He.DefD := ⟨("check_relationships", none), "check_relationships", "check_relationships", defArgs s_check_relationships, defBody s_check_relationships, defScope s_check_relationships, [], []⟩
def d_check_question : He.DefD := ⟨("check_question", none), "check_question", "check_question", defArgs s_check_question, defBody s_check_question, defScope s_check_question, [], []⟩
def d_Graph_init : He.DefD := ⟨("Graph", some "__init__"), "__init__", "Graph.__init__", defArgs s_Graph_init, defBody s_Graph_init, defScope s_Graph_init, [], []⟩
def d_Graph_subjects_of : He.DefD := ⟨("Graph", some "subjects_of"), "subjects_of", "Graph.subjects_of", defArgs s_Graph_subjects_of, defBody s_Graph_subjects_of, defScope s_Graph_subjects_of, [], []⟩
def d_Graph_stratum_of : He.DefD := ⟨("Graph", some "stratum_of"), "stratum_of", "Graph.stratum_of", defArgs s_Graph_stratum_of, defBody s_Graph_stratum_of, defScope s_Graph_stratum_of, [], []⟩
def d_Graph_pairs_of : He.DefD := ⟨("Graph", some "pairs_of"), "pairs_of", "Graph.pairs_of", defArgs s_Graph_pairs_of, defBody s_Graph_pairs_of, defScope s_Graph_pairs_of, [], []⟩
def d_Graph_depends_on : He.DefD := ⟨("Graph", some "depends_on"), "depends_on", "Graph.depends_on", defArgs s_Graph_depends_on, defBody s_Graph_depends_on, defScope s_Graph_depends_on, [], []⟩
def d_count_of : He.DefD := ⟨("count_of", none), "count_of", "count_of", defArgs s_count_of, defBody s_count_of, defScope s_count_of, [], []⟩
def d_least : He.DefD := ⟨("least", none), "least", "least", defArgs s_least, defBody s_least, defScope s_least, [], []⟩
def d_both : He.DefD := ⟨("both", none), "both", "both", defArgs s_both, defBody s_both, defScope s_both, [], []⟩
def d_rule_count : He.DefD := ⟨("rule_count", none), "rule_count", "rule_count", defArgs s_rule_count, defBody s_rule_count, defScope s_rule_count, [], []⟩
def d_names_by_stratum : He.DefD := ⟨("names_by_stratum", none), "names_by_stratum", "names_by_stratum", defArgs s_names_by_stratum, defBody s_names_by_stratum, defScope s_names_by_stratum, [], []⟩
def d_ranks_for : He.DefD := ⟨("ranks_for", none), "ranks_for", "ranks_for", defArgs s_ranks_for, defBody s_ranks_for, defScope s_ranks_for, [], []⟩
def d_ranked : He.DefD := ⟨("ranked", none), "ranked", "ranked", defArgs s_ranked, defBody s_ranked, defScope s_ranked, [], []⟩
def d_evaluate : He.DefD := ⟨("evaluate", none), "evaluate", "evaluate", defArgs s_evaluate, defBody s_evaluate, defScope s_evaluate, [], []⟩
def d_Revision_init : He.DefD := ⟨("Revision", some "__init__"), "__init__", "Revision.__init__", defArgs s_Revision_init, defBody s_Revision_init, defScope s_Revision_init, [], []⟩
def d_Primary_init : He.DefD := ⟨("Primary", some "__init__"), "__init__", "Primary.__init__", defArgs s_Primary_init, defBody s_Primary_init, defScope s_Primary_init, [.adr (He.dflAt ("Primary", some "__init__") 0)], []⟩
def d_Primary_store_id : He.DefD := ⟨("Primary", some "store_id"), "store_id", "Primary.store_id", defArgs s_Primary_store_id, defBody s_Primary_store_id, defScope s_Primary_store_id, [], []⟩
def d_Primary_revision : He.DefD := ⟨("Primary", some "revision"), "revision", "Primary.revision", defArgs s_Primary_revision, defBody s_Primary_revision, defScope s_Primary_revision, [], []⟩
def d_Primary_token : He.DefD := ⟨("Primary", some "token"), "token", "Primary.token", defArgs s_Primary_token, defBody s_Primary_token, defScope s_Primary_token, [], []⟩
def d_Primary_check_room : He.DefD := ⟨("Primary", some "check_room"), "check_room", "Primary.check_room", defArgs s_Primary_check_room, defBody s_Primary_check_room, defScope s_Primary_check_room, [], []⟩
def d_Primary_check_update : He.DefD := ⟨("Primary", some "check_update"), "check_update", "Primary.check_update", defArgs s_Primary_check_update, defBody s_Primary_check_update, defScope s_Primary_check_update, [], []⟩
def d_Primary_after_updates : He.DefD := ⟨("Primary", some "after_updates"), "after_updates", "Primary.after_updates", defArgs s_Primary_after_updates, defBody s_Primary_after_updates, defScope s_Primary_after_updates, [], []⟩
def d_Primary_write : He.DefD := ⟨("Primary", some "write"), "write", "Primary.write", defArgs s_Primary_write, defBody s_Primary_write, defScope s_Primary_write, [], []⟩
def d_Primary_number_at : He.DefD := ⟨("Primary", some "number_at"), "number_at", "Primary.number_at", defArgs s_Primary_number_at, defBody s_Primary_number_at, defScope s_Primary_number_at, [], []⟩
def d_Primary_check_revision : He.DefD := ⟨("Primary", some "check_revision"), "check_revision", "Primary.check_revision", defArgs s_Primary_check_revision, defBody s_Primary_check_revision, defScope s_Primary_check_revision, [], []⟩
def d_Primary_at_number : He.DefD := ⟨("Primary", some "at_number"), "at_number", "Primary.at_number", defArgs s_Primary_at_number, defBody s_Primary_at_number, defScope s_Primary_at_number, [], []⟩
def d_Primary_relationships : He.DefD := ⟨("Primary", some "relationships"), "relationships", "Primary.relationships", defArgs s_Primary_relationships, defBody s_Primary_relationships, defScope s_Primary_relationships, [], []⟩
def d_Primary_grants : He.DefD := ⟨("Primary", some "grants"), "grants", "Primary.grants", defArgs s_Primary_grants, defBody s_Primary_grants, defScope s_Primary_grants, [], []⟩
def d_Primary_snapshot : He.DefD := ⟨("Primary", some "snapshot"), "snapshot", "Primary.snapshot", defArgs s_Primary_snapshot, defBody s_Primary_snapshot, defScope s_Primary_snapshot, [], []⟩
def d_Primary_check : He.DefD := ⟨("Primary", some "check"), "check", "Primary.check", defArgs s_Primary_check, defBody s_Primary_check, defScope s_Primary_check, [], []⟩
def d_Primary_entry : He.DefD := ⟨("Primary", some "entry"), "entry", "Primary.entry", defArgs s_Primary_entry, defBody s_Primary_entry, defScope s_Primary_entry, [], []⟩
def d_Primary_compact : He.DefD := ⟨("Primary", some "compact"), "compact", "Primary.compact", defArgs s_Primary_compact, defBody s_Primary_compact, defScope s_Primary_compact, [], []⟩
def d_ContentStore_init : He.DefD := ⟨("ContentStore", some "__init__"), "__init__", "ContentStore.__init__", defArgs s_ContentStore_init, defBody s_ContentStore_init, defScope s_ContentStore_init, [], []⟩
def d_ContentStore_put : He.DefD := ⟨("ContentStore", some "put"), "put", "ContentStore.put", defArgs s_ContentStore_put, defBody s_ContentStore_put, defScope s_ContentStore_put, [], []⟩
def d_ContentStore_version : He.DefD := ⟨("ContentStore", some "version"), "version", "ContentStore.version", defArgs s_ContentStore_version, defBody s_ContentStore_version, defScope s_ContentStore_version, [], []⟩
def d_ContentStore_token : He.DefD := ⟨("ContentStore", some "token"), "token", "ContentStore.token", defArgs s_ContentStore_token, defBody s_ContentStore_token, defScope s_ContentStore_token, [], []⟩
def d_ContentStore_read : He.DefD := ⟨("ContentStore", some "read"), "read", "ContentStore.read", defArgs s_ContentStore_read, defBody s_ContentStore_read, defScope s_ContentStore_read, [], []⟩
def d_Replica_init : He.DefD := ⟨("Replica", some "__init__"), "__init__", "Replica.__init__", defArgs s_Replica_init, defBody s_Replica_init, defScope s_Replica_init, [], []⟩
def d_Replica_store_id : He.DefD := ⟨("Replica", some "store_id"), "store_id", "Replica.store_id", defArgs s_Replica_store_id, defBody s_Replica_store_id, defScope s_Replica_store_id, [], []⟩
def d_Replica_revision : He.DefD := ⟨("Replica", some "revision"), "revision", "Replica.revision", defArgs s_Replica_revision, defBody s_Replica_revision, defScope s_Replica_revision, [], []⟩
def d_Replica_fits : He.DefD := ⟨("Replica", some "fits"), "fits", "Replica.fits", defArgs s_Replica_fits, defBody s_Replica_fits, defScope s_Replica_fits, [], []⟩
def d_Replica_check_entry : He.DefD := ⟨("Replica", some "check_entry"), "check_entry", "Replica.check_entry", defArgs s_Replica_check_entry, defBody s_Replica_check_entry, defScope s_Replica_check_entry, [], []⟩
def d_Replica_receive : He.DefD := ⟨("Replica", some "receive"), "receive", "Replica.receive", defArgs s_Replica_receive, defBody s_Replica_receive, defScope s_Replica_receive, [], []⟩
def d_Replica_take_waiting : He.DefD := ⟨("Replica", some "take_waiting"), "take_waiting", "Replica.take_waiting", defArgs s_Replica_take_waiting, defBody s_Replica_take_waiting, defScope s_Replica_take_waiting, [], []⟩
def d_Replica_check : He.DefD := ⟨("Replica", some "check"), "check", "Replica.check", defArgs s_Replica_check, defBody s_Replica_check, defScope s_Replica_check, [], []⟩
def d__law_cell : He.DefD := ⟨("_law_cell", none), "_law_cell", "_law_cell", defArgs s__law_cell, defBody s__law_cell, defScope s__law_cell, [], []⟩
def d__law_draws : He.DefD := ⟨("_law_draws", none), "_law_draws", "_law_draws", defArgs s__law_draws, defBody s__law_draws, defScope s__law_draws, [], []⟩
def d__law_same : He.DefD := ⟨("_law_same", none), "_law_same", "_law_same", defArgs s__law_same, defBody s__law_same, defScope s__law_same, [], []⟩
def d__law_store : He.DefD := ⟨("_law_store", none), "_law_store", "_law_store", defArgs s__law_store, defBody s__law_store, defScope s__law_store, [], []⟩
def d__law_put : He.DefD := ⟨("_law_put", none), "_law_put", "_law_put", defArgs s__law_put, defBody s__law_put, defScope s__law_put, [], []⟩
def d__law_read : He.DefD := ⟨("_law_read", none), "_law_read", "_law_read", defArgs s__law_read, defBody s__law_read, defScope s__law_read, [], []⟩
def d__law_is_put : He.DefD := ⟨("_law_is_put", none), "_law_is_put", "_law_is_put", defArgs s__law_is_put, defBody s__law_is_put, defScope s__law_is_put, [], []⟩
def d__law_is_read : He.DefD := ⟨("_law_is_read", none), "_law_is_read", "_law_is_read", defArgs s__law_is_read, defBody s__law_is_read, defScope s__law_is_read, [], []⟩
def d_law : He.DefD := ⟨("law", none), "law", "law", defArgs s_law, defBody s_law, defScope s_law, [], []⟩
def fns : List He.DefD := [d_difference, d_applies, d_apply_change, d_is_sign, d_is_word, d_is_identifier, d_type_of, d_split_reference, d_token_of, d_split_token, d_Line_init, d_Line_next_part, d_Line_take, d_Line_expect, d_Line_name, d_Line_accepts, d_Line_finish, d_parts_of_line, d_read_subject, d_read_relation, d_read_term, d_read_permission, d_read_line, d_check_duplicates, d_entry_of, d_definition, d_led_types, d_is_known, d_needs_of, d_strata, d_read_schema, d_conforms, d_check_relationships, d_check_question, d_Graph_init, d_Graph_subjects_of, d_Graph_stratum_of, d_Graph_pairs_of, d_Graph_depends_on, d_count_of, d_least, d_both, d_rule_count, d_names_by_stratum, d_ranks_for, d_ranked, d_evaluate, d_Revision_init, d_Primary_init, d_Primary_store_id, d_Primary_revision, d_Primary_token, d_Primary_check_room, d_Primary_check_update, d_Primary_after_updates, d_Primary_write, d_Primary_number_at, d_Primary_check_revision, d_Primary_at_number, d_Primary_relationships, d_Primary_grants, d_Primary_snapshot, d_Primary_check, d_Primary_entry, d_Primary_compact, d_ContentStore_init, d_ContentStore_put, d_ContentStore_version, d_ContentStore_token, d_ContentStore_read, d_Replica_init, d_Replica_store_id, d_Replica_revision, d_Replica_fits, d_Replica_check_entry, d_Replica_receive, d_Replica_take_waiting, d_Replica_check, d__law_cell, d__law_draws, d__law_same, d__law_store, d__law_put, d__law_read, d__law_is_put, d__law_is_read, d_law]
def fas : List He.Fa := [.glo "difference", .glo "applies", .glo "apply_change", .glo "is_sign", .glo "is_word", .glo "is_identifier", .glo "type_of", .glo "split_reference", .glo "token_of", .glo "split_token", .glo "parts_of_line", .glo "read_subject", .glo "read_relation", .glo "read_term", .glo "read_permission", .glo "read_line", .glo "check_duplicates", .glo "entry_of", .glo "definition", .glo "led_types", .glo "is_known", .glo "needs_of", .glo "strata", .glo "read_schema", .glo "conforms", .glo "check_relationships", .glo "check_question", .glo "count_of", .glo "least", .glo "both", .glo "rule_count", .glo "names_by_stratum", .glo "ranks_for", .glo "ranked", .glo "evaluate", .glo "_law_cell", .glo "_law_draws", .glo "_law_same", .glo "_law_store", .glo "_law_put", .glo "_law_read", .glo "_law_is_put", .glo "_law_is_read", .glo "law", .glo "Refused", .glo "Line", .glo "Graph", .glo "Revision", .glo "Primary", .glo "ContentStore", .glo "Replica", .int "MOST" 20, .int "REVISION_MOST" 1000, .int "TYPES_MOST" 8, .int "NAMES_MOST" 8, .int "SUBJECTS_MOST" 8, .int "TERMS_MOST" 16, .int "MOST_REVISIONS" 40, .int "MOST_RELATIONSHIPS" 40, .int "VERSIONS_MOST" 30, .int "MOST_GRANTS" 12800, .int "MOST_AHEAD" 40, .free "sorted", .free "list", .free "len", .free "all", .free "any", .free "int", .free "str", .free "bool", .free "tuple", .free "range", .free "max", .free "min", .free "enumerate", .free "isinstance", .free "super", .cls "Line", .mkr "Line", .noat "Line" "number", .noat "Line" "parts", .noat "Line" "at", .meth "Line" "next_part", .meth "Line" "take", .meth "Line" "expect", .meth "Line" "name", .meth "Line" "accepts", .meth "Line" "finish", .cls "Graph", .mkr "Graph", .noat "Graph" "schema", .noat "Graph" "strata", .noat "Graph" "subjects", .noat "Graph" "objects", .noat "Graph" "people", .meth "Graph" "subjects_of", .meth "Graph" "stratum_of", .meth "Graph" "pairs_of", .meth "Graph" "depends_on", .cls "Revision", .mkr "Revision", .noat "Revision" "schema", .noat "Revision" "relationships", .noat "Revision" "table", .cls "Primary", .mkr "Primary", .noat "Primary" "name", .noat "Primary" "first", .noat "Primary" "revisions", .meth "Primary" "store_id", .meth "Primary" "revision", .meth "Primary" "token", .meth "Primary" "check_room", .meth "Primary" "check_update", .meth "Primary" "after_updates", .meth "Primary" "write", .meth "Primary" "number_at", .meth "Primary" "check_revision", .meth "Primary" "at_number", .meth "Primary" "relationships", .meth "Primary" "grants", .meth "Primary" "snapshot", .meth "Primary" "check", .meth "Primary" "entry", .meth "Primary" "compact", .cls "ContentStore", .mkr "ContentStore", .noat "ContentStore" "primary", .noat "ContentStore" "versions", .noat "ContentStore" "count", .meth "ContentStore" "put", .meth "ContentStore" "version", .meth "ContentStore" "token", .meth "ContentStore" "read", .cls "Replica", .mkr "Replica", .noat "Replica" "name", .noat "Replica" "number", .noat "Replica" "table", .noat "Replica" "later", .meth "Replica" "store_id", .meth "Replica" "revision", .meth "Replica" "fits", .meth "Replica" "check_entry", .meth "Replica" "receive", .meth "Replica" "take_waiting", .meth "Replica" "check", .keep "Refused"]
/-- the defs that hold a generator expression -/
def tfs : List He.Defn := [("is_word", none), ("split_token", none), ("applies", none), ("check_duplicates", none), ("is_known", none)]
/-- what the top has left -/
structure Top (K : PySem.W.Frag) (mg : Str → Option Value) (base : Heap) : Prop where
  c : He.SaysD fas fns K
  kin : K.In base
  ns : base.Ns mainGlobals mg
  tab : ∀ p ∈ tfs, GxR.TabB base mg (He.cT K p).1 (He.cT K p).2
  ops : ∃ a, mg "OPERATORS" = some (.ref a) ∧ ∀ H : L2.Hp, L2.SqT K H a [.str "|", .str "&", .str "-"]
  dfl : ∀ H : L2.Hp, L2.SqT K H (He.dflAt ("Primary", some "__init__") 0 K) []
section
variable {K : PySem.W.Frag} {mg : Str → Option Value} {base : Heap}
namespace Top
theorem g_difference (T : Top K mg base) : mg "difference" = some (.ref (He.ga K "difference")) := He.glo_ok T.kin T.ns (T.c.fact 0 rfl)
theorem g_applies (T : Top K mg base) : mg "applies" = some (.ref (He.ga K "applies")) := He.glo_ok T.kin T.ns (T.c.fact 1 rfl)
theorem g_apply_change (T : Top K mg base) : mg "apply_change" = some (.ref (He.ga K "apply_change")) := He.glo_ok T.kin T.ns (T.c.fact 2 rfl)
theorem g_is_sign (T : Top K mg base) : mg "is_sign" = some (.ref (He.ga K "is_sign")) := He.glo_ok T.kin T.ns (T.c.fact 3 rfl)
theorem g_is_word (T : Top K mg base) : mg "is_word" = some (.ref (He.ga K "is_word")) := He.glo_ok T.kin T.ns (T.c.fact 4 rfl)
theorem g_is_identifier (T : Top K mg base) : mg "is_identifier" = some (.ref (He.ga K "is_identifier")) := He.glo_ok T.kin T.ns (T.c.fact 5 rfl)
theorem g_type_of (T : Top K mg base) : mg "type_of" = some (.ref (He.ga K "type_of")) := He.glo_ok T.kin T.ns (T.c.fact 6 rfl)
theorem g_split_reference (T : Top K mg base) : mg "split_reference" = some (.ref (He.ga K "split_reference")) := He.glo_ok T.kin T.ns (T.c.fact 7 rfl)
theorem g_token_of (T : Top K mg base) : mg "token_of" = some (.ref (He.ga K "token_of")) := He.glo_ok T.kin T.ns (T.c.fact 8 rfl)
theorem g_split_token (T : Top K mg base) : mg "split_token" = some (.ref (He.ga K "split_token")) := He.glo_ok T.kin T.ns (T.c.fact 9 rfl)
theorem g_parts_of_line (T : Top K mg base) : mg "parts_of_line" = some (.ref (He.ga K "parts_of_line")) := He.glo_ok T.kin T.ns (T.c.fact 10 rfl)
theorem g_read_subject (T : Top K mg base) : mg "read_subject" = some (.ref (He.ga K "read_subject")) := He.glo_ok T.kin T.ns (T.c.fact 11 rfl)
theorem g_read_relation (T : Top K mg base) : mg "read_relation" = some (.ref (He.ga K "read_relation")) := He.glo_ok T.kin T.ns (T.c.fact 12 rfl)
theorem g_read_term (T : Top K mg base) : mg "read_term" = some (.ref (He.ga K "read_term")) := He.glo_ok T.kin T.ns (T.c.fact 13 rfl)
theorem g_read_permission (T : Top K mg base) : mg "read_permission" = some (.ref (He.ga K "read_permission")) := He.glo_ok T.kin T.ns (T.c.fact 14 rfl)
theorem g_read_line (T : Top K mg base) : mg "read_line" = some (.ref (He.ga K "read_line")) := He.glo_ok T.kin T.ns (T.c.fact 15 rfl)
theorem g_check_duplicates (T : Top K mg base) : mg "check_duplicates" = some (.ref (He.ga K "check_duplicates")) := He.glo_ok T.kin T.ns (T.c.fact 16 rfl)
theorem g_entry_of (T : Top K mg base) : mg "entry_of" = some (.ref (He.ga K "entry_of")) := He.glo_ok T.kin T.ns (T.c.fact 17 rfl)
theorem g_definition (T : Top K mg base) : mg "definition" = some (.ref (He.ga K "definition")) := He.glo_ok T.kin T.ns (T.c.fact 18 rfl)
theorem g_led_types (T : Top K mg base) : mg "led_types" = some (.ref (He.ga K "led_types")) := He.glo_ok T.kin T.ns (T.c.fact 19 rfl)
theorem g_is_known (T : Top K mg base) : mg "is_known" = some (.ref (He.ga K "is_known")) := He.glo_ok T.kin T.ns (T.c.fact 20 rfl)
theorem g_needs_of (T : Top K mg base) : mg "needs_of" = some (.ref (He.ga K "needs_of")) := He.glo_ok T.kin T.ns (T.c.fact 21 rfl)
theorem g_strata (T : Top K mg base) : mg "strata" = some (.ref (He.ga K "strata")) := He.glo_ok T.kin T.ns (T.c.fact 22 rfl)
theorem g_read_schema (T : Top K mg base) : mg "read_schema" = some (.ref (He.ga K "read_schema")) := He.glo_ok T.kin T.ns (T.c.fact 23 rfl)
theorem g_conforms (T : Top K mg base) : mg "conforms" = some (.ref (He.ga K "conforms")) := He.glo_ok T.kin T.ns (T.c.fact 24 rfl)
theorem g_check_relationships (T : Top K mg base) : mg "check_relationships" = some (.ref (He.ga K "check_relationships")) := He.glo_ok T.kin T.ns (T.c.fact 25 rfl)
theorem g_check_question (T : Top K mg base) : mg "check_question" = some (.ref (He.ga K "check_question")) := He.glo_ok T.kin T.ns (T.c.fact 26 rfl)
theorem g_count_of (T : Top K mg base) : mg "count_of" = some (.ref (He.ga K "count_of")) := He.glo_ok T.kin T.ns (T.c.fact 27 rfl)
theorem g_least (T : Top K mg base) : mg "least" = some (.ref (He.ga K "least")) := He.glo_ok T.kin T.ns (T.c.fact 28 rfl)
theorem g_both (T : Top K mg base) : mg "both" = some (.ref (He.ga K "both")) := He.glo_ok T.kin T.ns (T.c.fact 29 rfl)
theorem g_rule_count (T : Top K mg base) : mg "rule_count" = some (.ref (He.ga K "rule_count")) := He.glo_ok T.kin T.ns (T.c.fact 30 rfl)
theorem g_names_by_stratum (T : Top K mg base) : mg "names_by_stratum" = some (.ref (He.ga K "names_by_stratum")) := He.glo_ok T.kin T.ns (T.c.fact 31 rfl)
theorem g_ranks_for (T : Top K mg base) : mg "ranks_for" = some (.ref (He.ga K "ranks_for")) := He.glo_ok T.kin T.ns (T.c.fact 32 rfl)
theorem g_ranked (T : Top K mg base) : mg "ranked" = some (.ref (He.ga K "ranked")) := He.glo_ok T.kin T.ns (T.c.fact 33 rfl)
theorem g_evaluate (T : Top K mg base) : mg "evaluate" = some (.ref (He.ga K "evaluate")) := He.glo_ok T.kin T.ns (T.c.fact 34 rfl)
theorem g__law_cell (T : Top K mg base) : mg "_law_cell" = some (.ref (He.ga K "_law_cell")) := He.glo_ok T.kin T.ns (T.c.fact 35 rfl)
theorem g__law_draws (T : Top K mg base) : mg "_law_draws" = some (.ref (He.ga K "_law_draws")) := He.glo_ok T.kin T.ns (T.c.fact 36 rfl)
theorem g__law_same (T : Top K mg base) : mg "_law_same" = some (.ref (He.ga K "_law_same")) := He.glo_ok T.kin T.ns (T.c.fact 37 rfl)
theorem g__law_store (T : Top K mg base) : mg "_law_store" = some (.ref (He.ga K "_law_store")) := He.glo_ok T.kin T.ns (T.c.fact 38 rfl)
theorem g__law_put (T : Top K mg base) : mg "_law_put" = some (.ref (He.ga K "_law_put")) := He.glo_ok T.kin T.ns (T.c.fact 39 rfl)
theorem g__law_read (T : Top K mg base) : mg "_law_read" = some (.ref (He.ga K "_law_read")) := He.glo_ok T.kin T.ns (T.c.fact 40 rfl)
theorem g__law_is_put (T : Top K mg base) : mg "_law_is_put" = some (.ref (He.ga K "_law_is_put")) := He.glo_ok T.kin T.ns (T.c.fact 41 rfl)
theorem g__law_is_read (T : Top K mg base) : mg "_law_is_read" = some (.ref (He.ga K "_law_is_read")) := He.glo_ok T.kin T.ns (T.c.fact 42 rfl)
theorem g_law (T : Top K mg base) : mg "law" = some (.ref (He.ga K "law")) := He.glo_ok T.kin T.ns (T.c.fact 43 rfl)
theorem g_Refused (T : Top K mg base) : mg "Refused" = some (.ref (He.ga K "Refused")) := He.glo_ok T.kin T.ns (T.c.fact 44 rfl)
theorem g_Line (T : Top K mg base) : mg "Line" = some (.ref (He.ga K "Line")) := He.glo_ok T.kin T.ns (T.c.fact 45 rfl)
theorem g_Graph (T : Top K mg base) : mg "Graph" = some (.ref (He.ga K "Graph")) := He.glo_ok T.kin T.ns (T.c.fact 46 rfl)
theorem g_Revision (T : Top K mg base) : mg "Revision" = some (.ref (He.ga K "Revision")) := He.glo_ok T.kin T.ns (T.c.fact 47 rfl)
theorem g_Primary (T : Top K mg base) : mg "Primary" = some (.ref (He.ga K "Primary")) := He.glo_ok T.kin T.ns (T.c.fact 48 rfl)
theorem g_ContentStore (T : Top K mg base) : mg "ContentStore" = some (.ref (He.ga K "ContentStore")) := He.glo_ok T.kin T.ns (T.c.fact 49 rfl)
theorem g_Replica (T : Top K mg base) : mg "Replica" = some (.ref (He.ga K "Replica")) := He.glo_ok T.kin T.ns (T.c.fact 50 rfl)
theorem i_MOST (T : Top K mg base) : ∃ t, mg "MOST" = some (.int 20 t) := He.int_ok T.kin T.ns (T.c.fact 51 rfl)
theorem i_REVISION_MOST (T : Top K mg base) : ∃ t, mg "REVISION_MOST" = some (.int 1000 t) := He.int_ok T.kin T.ns (T.c.fact 52 rfl)
theorem i_TYPES_MOST (T : Top K mg base) : ∃ t, mg "TYPES_MOST" = some (.int 8 t) := He.int_ok T.kin T.ns (T.c.fact 53 rfl)
theorem i_NAMES_MOST (T : Top K mg base) : ∃ t, mg "NAMES_MOST" = some (.int 8 t) := He.int_ok T.kin T.ns (T.c.fact 54 rfl)
theorem i_SUBJECTS_MOST (T : Top K mg base) : ∃ t, mg "SUBJECTS_MOST" = some (.int 8 t) := He.int_ok T.kin T.ns (T.c.fact 55 rfl)
theorem i_TERMS_MOST (T : Top K mg base) : ∃ t, mg "TERMS_MOST" = some (.int 16 t) := He.int_ok T.kin T.ns (T.c.fact 56 rfl)
theorem i_MOST_REVISIONS (T : Top K mg base) : ∃ t, mg "MOST_REVISIONS" = some (.int 40 t) := He.int_ok T.kin T.ns (T.c.fact 57 rfl)
theorem i_MOST_RELATIONSHIPS (T : Top K mg base) : ∃ t, mg "MOST_RELATIONSHIPS" = some (.int 40 t) := He.int_ok T.kin T.ns (T.c.fact 58 rfl)
theorem i_VERSIONS_MOST (T : Top K mg base) : ∃ t, mg "VERSIONS_MOST" = some (.int 30 t) := He.int_ok T.kin T.ns (T.c.fact 59 rfl)
theorem i_MOST_GRANTS (T : Top K mg base) : ∃ t, mg "MOST_GRANTS" = some (.int 12800 t) := He.int_ok T.kin T.ns (T.c.fact 60 rfl)
theorem i_MOST_AHEAD (T : Top K mg base) : ∃ t, mg "MOST_AHEAD" = some (.int 40 t) := He.int_ok T.kin T.ns (T.c.fact 61 rfl)
theorem f_sorted (T : Top K mg base) : mg "sorted" = none := He.free_ok T.kin T.ns (T.c.fact 62 rfl)
theorem f_list (T : Top K mg base) : mg "list" = none := He.free_ok T.kin T.ns (T.c.fact 63 rfl)
theorem f_len (T : Top K mg base) : mg "len" = none := He.free_ok T.kin T.ns (T.c.fact 64 rfl)
theorem f_all (T : Top K mg base) : mg "all" = none := He.free_ok T.kin T.ns (T.c.fact 65 rfl)
theorem f_any (T : Top K mg base) : mg "any" = none := He.free_ok T.kin T.ns (T.c.fact 66 rfl)
theorem f_int (T : Top K mg base) : mg "int" = none := He.free_ok T.kin T.ns (T.c.fact 67 rfl)
theorem f_str (T : Top K mg base) : mg "str" = none := He.free_ok T.kin T.ns (T.c.fact 68 rfl)
theorem f_bool (T : Top K mg base) : mg "bool" = none := He.free_ok T.kin T.ns (T.c.fact 69 rfl)
theorem f_tuple (T : Top K mg base) : mg "tuple" = none := He.free_ok T.kin T.ns (T.c.fact 70 rfl)
theorem f_range (T : Top K mg base) : mg "range" = none := He.free_ok T.kin T.ns (T.c.fact 71 rfl)
theorem f_max (T : Top K mg base) : mg "max" = none := He.free_ok T.kin T.ns (T.c.fact 72 rfl)
theorem f_min (T : Top K mg base) : mg "min" = none := He.free_ok T.kin T.ns (T.c.fact 73 rfl)
theorem f_enumerate (T : Top K mg base) : mg "enumerate" = none := He.free_ok T.kin T.ns (T.c.fact 74 rfl)
theorem f_isinstance (T : Top K mg base) : mg "isinstance" = none := He.free_ok T.kin T.ns (T.c.fact 75 rfl)
theorem f_super (T : Top K mg base) : mg "super" = none := He.free_ok T.kin T.ns (T.c.fact 76 rfl)
theorem c_Line (T : Top K mg base) : Cls K (He.ga K "Line") := He.cls_ok (T.c.fact 77 rfl)
theorem k_Line (T : Top K mg base) : Mk K (He.ga K "Line") (He.ma K (He.ga K "Line") "__init__") := He.mkr_ok (T.c.fact 78 rfl)
theorem n_Line_number (T : Top K mg base) : NoAttr K (He.ga K "Line") "number" := He.noat_ok (T.c.fact 79 rfl)
theorem n_Line_parts (T : Top K mg base) : NoAttr K (He.ga K "Line") "parts" := He.noat_ok (T.c.fact 80 rfl)
theorem n_Line_at (T : Top K mg base) : NoAttr K (He.ga K "Line") "at" := He.noat_ok (T.c.fact 81 rfl)
theorem m_Line_next_part (T : Top K mg base) : Meth K (He.ga K "Line") "next_part" (He.ma K (He.ga K "Line") "next_part") := He.meth_ok (T.c.fact 82 rfl)
theorem m_Line_take (T : Top K mg base) : Meth K (He.ga K "Line") "take" (He.ma K (He.ga K "Line") "take") := He.meth_ok (T.c.fact 83 rfl)
theorem m_Line_expect (T : Top K mg base) : Meth K (He.ga K "Line") "expect" (He.ma K (He.ga K "Line") "expect") := He.meth_ok (T.c.fact 84 rfl)
theorem m_Line_name (T : Top K mg base) : Meth K (He.ga K "Line") "name" (He.ma K (He.ga K "Line") "name") := He.meth_ok (T.c.fact 85 rfl)
theorem m_Line_accepts (T : Top K mg base) : Meth K (He.ga K "Line") "accepts" (He.ma K (He.ga K "Line") "accepts") := He.meth_ok (T.c.fact 86 rfl)
theorem m_Line_finish (T : Top K mg base) : Meth K (He.ga K "Line") "finish" (He.ma K (He.ga K "Line") "finish") := He.meth_ok (T.c.fact 87 rfl)
theorem c_Graph (T : Top K mg base) : Cls K (He.ga K "Graph") := He.cls_ok (T.c.fact 88 rfl)
theorem k_Graph (T : Top K mg base) : Mk K (He.ga K "Graph") (He.ma K (He.ga K "Graph") "__init__") := He.mkr_ok (T.c.fact 89 rfl)
theorem n_Graph_schema (T : Top K mg base) : NoAttr K (He.ga K "Graph") "schema" := He.noat_ok (T.c.fact 90 rfl)
theorem n_Graph_strata (T : Top K mg base) : NoAttr K (He.ga K "Graph") "strata" := He.noat_ok (T.c.fact 91 rfl)
theorem n_Graph_subjects (T : Top K mg base) : NoAttr K (He.ga K "Graph") "subjects" := He.noat_ok (T.c.fact 92 rfl)
theorem n_Graph_objects (T : Top K mg base) : NoAttr K (He.ga K "Graph") "objects" := He.noat_ok (T.c.fact 93 rfl)
theorem n_Graph_people (T : Top K mg base) : NoAttr K (He.ga K "Graph") "people" := He.noat_ok (T.c.fact 94 rfl)
theorem m_Graph_subjects_of (T : Top K mg base) : Meth K (He.ga K "Graph") "subjects_of" (He.ma K (He.ga K "Graph") "subjects_of") := He.meth_ok (T.c.fact 95 rfl)
theorem m_Graph_stratum_of (T : Top K mg base) : Meth K (He.ga K "Graph") "stratum_of" (He.ma K (He.ga K "Graph") "stratum_of") := He.meth_ok (T.c.fact 96 rfl)
theorem m_Graph_pairs_of (T : Top K mg base) : Meth K (He.ga K "Graph") "pairs_of" (He.ma K (He.ga K "Graph") "pairs_of") := He.meth_ok (T.c.fact 97 rfl)
theorem m_Graph_depends_on (T : Top K mg base) : Meth K (He.ga K "Graph") "depends_on" (He.ma K (He.ga K "Graph") "depends_on") := He.meth_ok (T.c.fact 98 rfl)
theorem c_Revision (T : Top K mg base) : Cls K (He.ga K "Revision") := He.cls_ok (T.c.fact 99 rfl)
theorem k_Revision (T : Top K mg base) : Mk K (He.ga K "Revision") (He.ma K (He.ga K "Revision") "__init__") := He.mkr_ok (T.c.fact 100 rfl)
theorem n_Revision_schema (T : Top K mg base) : NoAttr K (He.ga K "Revision") "schema" := He.noat_ok (T.c.fact 101 rfl)
theorem n_Revision_relationships (T : Top K mg base) : NoAttr K (He.ga K "Revision") "relationships" := He.noat_ok (T.c.fact 102 rfl)
theorem n_Revision_table (T : Top K mg base) : NoAttr K (He.ga K "Revision") "table" := He.noat_ok (T.c.fact 103 rfl)
theorem c_Primary (T : Top K mg base) : Cls K (He.ga K "Primary") := He.cls_ok (T.c.fact 104 rfl)
theorem k_Primary (T : Top K mg base) : Mk K (He.ga K "Primary") (He.ma K (He.ga K "Primary") "__init__") := He.mkr_ok (T.c.fact 105 rfl)
theorem n_Primary_name (T : Top K mg base) : NoAttr K (He.ga K "Primary") "name" := He.noat_ok (T.c.fact 106 rfl)
theorem n_Primary_first (T : Top K mg base) : NoAttr K (He.ga K "Primary") "first" := He.noat_ok (T.c.fact 107 rfl)
theorem n_Primary_revisions (T : Top K mg base) : NoAttr K (He.ga K "Primary") "revisions" := He.noat_ok (T.c.fact 108 rfl)
theorem m_Primary_store_id (T : Top K mg base) : Meth K (He.ga K "Primary") "store_id" (He.ma K (He.ga K "Primary") "store_id") := He.meth_ok (T.c.fact 109 rfl)
theorem m_Primary_revision (T : Top K mg base) : Meth K (He.ga K "Primary") "revision" (He.ma K (He.ga K "Primary") "revision") := He.meth_ok (T.c.fact 110 rfl)
theorem m_Primary_token (T : Top K mg base) : Meth K (He.ga K "Primary") "token" (He.ma K (He.ga K "Primary") "token") := He.meth_ok (T.c.fact 111 rfl)
theorem m_Primary_check_room (T : Top K mg base) : Meth K (He.ga K "Primary") "check_room" (He.ma K (He.ga K "Primary") "check_room") := He.meth_ok (T.c.fact 112 rfl)
theorem m_Primary_check_update (T : Top K mg base) : Meth K (He.ga K "Primary") "check_update" (He.ma K (He.ga K "Primary") "check_update") := He.meth_ok (T.c.fact 113 rfl)
theorem m_Primary_after_updates (T : Top K mg base) : Meth K (He.ga K "Primary") "after_updates" (He.ma K (He.ga K "Primary") "after_updates") := He.meth_ok (T.c.fact 114 rfl)
theorem m_Primary_write (T : Top K mg base) : Meth K (He.ga K "Primary") "write" (He.ma K (He.ga K "Primary") "write") := He.meth_ok (T.c.fact 115 rfl)
theorem m_Primary_number_at (T : Top K mg base) : Meth K (He.ga K "Primary") "number_at" (He.ma K (He.ga K "Primary") "number_at") := He.meth_ok (T.c.fact 116 rfl)
theorem m_Primary_check_revision (T : Top K mg base) : Meth K (He.ga K "Primary") "check_revision" (He.ma K (He.ga K "Primary") "check_revision") := He.meth_ok (T.c.fact 117 rfl)
theorem m_Primary_at_number (T : Top K mg base) : Meth K (He.ga K "Primary") "at_number" (He.ma K (He.ga K "Primary") "at_number") := He.meth_ok (T.c.fact 118 rfl)
theorem m_Primary_relationships (T : Top K mg base) : Meth K (He.ga K "Primary") "relationships" (He.ma K (He.ga K "Primary") "relationships") := He.meth_ok (T.c.fact 119 rfl)
theorem m_Primary_grants (T : Top K mg base) : Meth K (He.ga K "Primary") "grants" (He.ma K (He.ga K "Primary") "grants") := He.meth_ok (T.c.fact 120 rfl)
theorem m_Primary_snapshot (T : Top K mg base) : Meth K (He.ga K "Primary") "snapshot" (He.ma K (He.ga K "Primary") "snapshot") := He.meth_ok (T.c.fact 121 rfl)
theorem m_Primary_check (T : Top K mg base) : Meth K (He.ga K "Primary") "check" (He.ma K (He.ga K "Primary") "check") := He.meth_ok (T.c.fact 122 rfl)
theorem m_Primary_entry (T : Top K mg base) : Meth K (He.ga K "Primary") "entry" (He.ma K (He.ga K "Primary") "entry") := He.meth_ok (T.c.fact 123 rfl)
theorem m_Primary_compact (T : Top K mg base) : Meth K (He.ga K "Primary") "compact" (He.ma K (He.ga K "Primary") "compact") := He.meth_ok (T.c.fact 124 rfl)
theorem c_ContentStore (T : Top K mg base) : Cls K (He.ga K "ContentStore") := He.cls_ok (T.c.fact 125 rfl)
theorem k_ContentStore (T : Top K mg base) : Mk K (He.ga K "ContentStore") (He.ma K (He.ga K "ContentStore") "__init__") := He.mkr_ok (T.c.fact 126 rfl)
theorem n_ContentStore_primary (T : Top K mg base) : NoAttr K (He.ga K "ContentStore") "primary" := He.noat_ok (T.c.fact 127 rfl)
theorem n_ContentStore_versions (T : Top K mg base) : NoAttr K (He.ga K "ContentStore") "versions" := He.noat_ok (T.c.fact 128 rfl)
theorem n_ContentStore_count (T : Top K mg base) : NoAttr K (He.ga K "ContentStore") "count" := He.noat_ok (T.c.fact 129 rfl)
theorem m_ContentStore_put (T : Top K mg base) : Meth K (He.ga K "ContentStore") "put" (He.ma K (He.ga K "ContentStore") "put") := He.meth_ok (T.c.fact 130 rfl)
theorem m_ContentStore_version (T : Top K mg base) : Meth K (He.ga K "ContentStore") "version" (He.ma K (He.ga K "ContentStore") "version") := He.meth_ok (T.c.fact 131 rfl)
theorem m_ContentStore_token (T : Top K mg base) : Meth K (He.ga K "ContentStore") "token" (He.ma K (He.ga K "ContentStore") "token") := He.meth_ok (T.c.fact 132 rfl)
theorem m_ContentStore_read (T : Top K mg base) : Meth K (He.ga K "ContentStore") "read" (He.ma K (He.ga K "ContentStore") "read") := He.meth_ok (T.c.fact 133 rfl)
theorem c_Replica (T : Top K mg base) : Cls K (He.ga K "Replica") := He.cls_ok (T.c.fact 134 rfl)
theorem k_Replica (T : Top K mg base) : Mk K (He.ga K "Replica") (He.ma K (He.ga K "Replica") "__init__") := He.mkr_ok (T.c.fact 135 rfl)
theorem n_Replica_name (T : Top K mg base) : NoAttr K (He.ga K "Replica") "name" := He.noat_ok (T.c.fact 136 rfl)
theorem n_Replica_number (T : Top K mg base) : NoAttr K (He.ga K "Replica") "number" := He.noat_ok (T.c.fact 137 rfl)
theorem n_Replica_table (T : Top K mg base) : NoAttr K (He.ga K "Replica") "table" := He.noat_ok (T.c.fact 138 rfl)
theorem n_Replica_later (T : Top K mg base) : NoAttr K (He.ga K "Replica") "later" := He.noat_ok (T.c.fact 139 rfl)
theorem m_Replica_store_id (T : Top K mg base) : Meth K (He.ga K "Replica") "store_id" (He.ma K (He.ga K "Replica") "store_id") := He.meth_ok (T.c.fact 140 rfl)
theorem m_Replica_revision (T : Top K mg base) : Meth K (He.ga K "Replica") "revision" (He.ma K (He.ga K "Replica") "revision") := He.meth_ok (T.c.fact 141 rfl)
theorem m_Replica_fits (T : Top K mg base) : Meth K (He.ga K "Replica") "fits" (He.ma K (He.ga K "Replica") "fits") := He.meth_ok (T.c.fact 142 rfl)
theorem m_Replica_check_entry (T : Top K mg base) : Meth K (He.ga K "Replica") "check_entry" (He.ma K (He.ga K "Replica") "check_entry") := He.meth_ok (T.c.fact 143 rfl)
theorem m_Replica_receive (T : Top K mg base) : Meth K (He.ga K "Replica") "receive" (He.ma K (He.ga K "Replica") "receive") := He.meth_ok (T.c.fact 144 rfl)
theorem m_Replica_take_waiting (T : Top K mg base) : Meth K (He.ga K "Replica") "take_waiting" (He.ma K (He.ga K "Replica") "take_waiting") := He.meth_ok (T.c.fact 145 rfl)
theorem m_Replica_check (T : Top K mg base) : Meth K (He.ga K "Replica") "check" (He.ma K (He.ga K "Replica") "check") := He.meth_ok (T.c.fact 146 rfl)
theorem x_Refused (T : Top K mg base) : PySem.W.keepIn K (.ref (He.ga K "Refused")) = true := He.keep_ok (T.c.fact 147 rfl)
end Top
/-- a def of the text as it stands behind the top -/
abbrev FunOf (K : PySem.W.Frag) (d : He.DefD) (fd : FuncData) : Prop := FunD K d.name d.qual d.params d.body d.scope (d.dvs K) (d.kws K) (He.fAd K d.at_) fd
theorem Top.d_difference (T : Top K mg base) : ∃ fd, FunOf K Au.d_difference fd := T.c.def_ 0 rfl
theorem Top.d_applies (T : Top K mg base) : ∃ fd, FunOf K Au.d_applies fd := T.c.def_ 1 rfl
theorem Top.d_apply_change (T : Top K mg base) : ∃ fd, FunOf K Au.d_apply_change fd := T.c.def_ 2 rfl
theorem Top.d_is_sign (T : Top K mg base) : ∃ fd, FunOf K Au.d_is_sign fd := T.c.def_ 3 rfl
theorem Top.d_is_word (T : Top K mg base) : ∃ fd, FunOf K Au.d_is_word fd := T.c.def_ 4 rfl
theorem Top.d_is_identifier (T : Top K mg base) : ∃ fd, FunOf K Au.d_is_identifier fd := T.c.def_ 5 rfl
theorem Top.d_type_of (T : Top K mg base) : ∃ fd, FunOf K Au.d_type_of fd := T.c.def_ 6 rfl
theorem Top.d_split_reference (T : Top K mg base) : ∃ fd, FunOf K Au.d_split_reference fd := T.c.def_ 7 rfl
theorem Top.d_token_of (T : Top K mg base) : ∃ fd, FunOf K Au.d_token_of fd := T.c.def_ 8 rfl
theorem Top.d_split_token (T : Top K mg base) : ∃ fd, FunOf K Au.d_split_token fd := T.c.def_ 9 rfl
theorem Top.d_Line_init (T : Top K mg base) : ∃ fd, FunOf K Au.d_Line_init fd := T.c.def_ 10 rfl
theorem Top.d_Line_next_part (T : Top K mg base) : ∃ fd, FunOf K Au.d_Line_next_part fd := T.c.def_ 11 rfl
theorem Top.d_Line_take (T : Top K mg base) : ∃ fd, FunOf K Au.d_Line_take fd := T.c.def_ 12 rfl
theorem Top.d_Line_expect (T : Top K mg base) : ∃ fd, FunOf K Au.d_Line_expect fd := T.c.def_ 13 rfl
theorem Top.d_Line_name (T : Top K mg base) : ∃ fd, FunOf K Au.d_Line_name fd := T.c.def_ 14 rfl
theorem Top.d_Line_accepts (T : Top K mg base) : ∃ fd, FunOf K Au.d_Line_accepts fd := T.c.def_ 15 rfl
theorem Top.d_Line_finish (T : Top K mg base) : ∃ fd, FunOf K Au.d_Line_finish fd := T.c.def_ 16 rfl
theorem Top.d_parts_of_line (T : Top K mg base) : ∃ fd, FunOf K Au.d_parts_of_line fd := T.c.def_ 17 rfl
theorem Top.d_read_subject (T : Top K mg base) : ∃ fd, FunOf K Au.d_read_subject fd := T.c.def_ 18 rfl
theorem Top.d_read_relation (T : Top K mg base) : ∃ fd, FunOf K Au.d_read_relation fd := T.c.def_ 19 rfl
theorem Top.d_read_term (T : Top K mg base) : ∃ fd, FunOf K Au.d_read_term fd := T.c.def_ 20 rfl
theorem Top.d_read_permission (T : Top K mg base) : ∃ fd, FunOf K Au.d_read_permission fd := T.c.def_ 21 rfl
theorem Top.d_read_line (T : Top K mg base) : ∃ fd, FunOf K Au.d_read_line fd := T.c.def_ 22 rfl
theorem Top.d_check_duplicates (T : Top K mg base) : ∃ fd, FunOf K Au.d_check_duplicates fd := T.c.def_ 23 rfl
theorem Top.d_entry_of (T : Top K mg base) : ∃ fd, FunOf K Au.d_entry_of fd := T.c.def_ 24 rfl
theorem Top.d_definition (T : Top K mg base) : ∃ fd, FunOf K Au.d_definition fd := T.c.def_ 25 rfl
theorem Top.d_led_types (T : Top K mg base) : ∃ fd, FunOf K Au.d_led_types fd := T.c.def_ 26 rfl
theorem Top.d_is_known (T : Top K mg base) : ∃ fd, FunOf K Au.d_is_known fd := T.c.def_ 27 rfl
theorem Top.d_needs_of (T : Top K mg base) : ∃ fd, FunOf K Au.d_needs_of fd := T.c.def_ 28 rfl
theorem Top.d_strata (T : Top K mg base) : ∃ fd, FunOf K Au.d_strata fd := T.c.def_ 29 rfl
theorem Top.d_read_schema (T : Top K mg base) : ∃ fd, FunOf K Au.d_read_schema fd := T.c.def_ 30 rfl
theorem Top.d_conforms (T : Top K mg base) : ∃ fd, FunOf K Au.d_conforms fd := T.c.def_ 31 rfl
theorem Top.d_check_relationships (T : Top K mg base) : ∃ fd, FunOf K Au.d_check_relationships fd := T.c.def_ 32 rfl
theorem Top.d_check_question (T : Top K mg base) : ∃ fd, FunOf K Au.d_check_question fd := T.c.def_ 33 rfl
theorem Top.d_Graph_init (T : Top K mg base) : ∃ fd, FunOf K Au.d_Graph_init fd := T.c.def_ 34 rfl
theorem Top.d_Graph_subjects_of (T : Top K mg base) : ∃ fd, FunOf K Au.d_Graph_subjects_of fd := T.c.def_ 35 rfl
theorem Top.d_Graph_stratum_of (T : Top K mg base) : ∃ fd, FunOf K Au.d_Graph_stratum_of fd := T.c.def_ 36 rfl
theorem Top.d_Graph_pairs_of (T : Top K mg base) : ∃ fd, FunOf K Au.d_Graph_pairs_of fd := T.c.def_ 37 rfl
theorem Top.d_Graph_depends_on (T : Top K mg base) : ∃ fd, FunOf K Au.d_Graph_depends_on fd := T.c.def_ 38 rfl
theorem Top.d_count_of (T : Top K mg base) : ∃ fd, FunOf K Au.d_count_of fd := T.c.def_ 39 rfl
theorem Top.d_least (T : Top K mg base) : ∃ fd, FunOf K Au.d_least fd := T.c.def_ 40 rfl
theorem Top.d_both (T : Top K mg base) : ∃ fd, FunOf K Au.d_both fd := T.c.def_ 41 rfl
theorem Top.d_rule_count (T : Top K mg base) : ∃ fd, FunOf K Au.d_rule_count fd := T.c.def_ 42 rfl
theorem Top.d_names_by_stratum (T : Top K mg base) : ∃ fd, FunOf K Au.d_names_by_stratum fd := T.c.def_ 43 rfl
theorem Top.d_ranks_for (T : Top K mg base) : ∃ fd, FunOf K Au.d_ranks_for fd := T.c.def_ 44 rfl
theorem Top.d_ranked (T : Top K mg base) : ∃ fd, FunOf K Au.d_ranked fd := T.c.def_ 45 rfl
theorem Top.d_evaluate (T : Top K mg base) : ∃ fd, FunOf K Au.d_evaluate fd := T.c.def_ 46 rfl
theorem Top.d_Revision_init (T : Top K mg base) : ∃ fd, FunOf K Au.d_Revision_init fd := T.c.def_ 47 rfl
theorem Top.d_Primary_init (T : Top K mg base) : ∃ fd, FunOf K Au.d_Primary_init fd := T.c.def_ 48 rfl
theorem Top.d_Primary_store_id (T : Top K mg base) : ∃ fd, FunOf K Au.d_Primary_store_id fd := T.c.def_ 49 rfl
theorem Top.d_Primary_revision (T : Top K mg base) : ∃ fd, FunOf K Au.d_Primary_revision fd := T.c.def_ 50 rfl
theorem Top.d_Primary_token (T : Top K mg base) : ∃ fd, FunOf K Au.d_Primary_token fd := T.c.def_ 51 rfl
theorem Top.d_Primary_check_room (T : Top K mg base) : ∃ fd, FunOf K Au.d_Primary_check_room fd := T.c.def_ 52 rfl
theorem Top.d_Primary_check_update (T : Top K mg base) : ∃ fd, FunOf K Au.d_Primary_check_update fd := T.c.def_ 53 rfl
theorem Top.d_Primary_after_updates (T : Top K mg base) : ∃ fd, FunOf K Au.d_Primary_after_updates fd := T.c.def_ 54 rfl
theorem Top.d_Primary_write (T : Top K mg base) : ∃ fd, FunOf K Au.d_Primary_write fd := T.c.def_ 55 rfl
theorem Top.d_Primary_number_at (T : Top K mg base) : ∃ fd, FunOf K Au.d_Primary_number_at fd := T.c.def_ 56 rfl
theorem Top.d_Primary_check_revision (T : Top K mg base) : ∃ fd, FunOf K Au.d_Primary_check_revision fd := T.c.def_ 57 rfl
theorem Top.d_Primary_at_number (T : Top K mg base) : ∃ fd, FunOf K Au.d_Primary_at_number fd := T.c.def_ 58 rfl
theorem Top.d_Primary_relationships (T : Top K mg base) : ∃ fd, FunOf K Au.d_Primary_relationships fd := T.c.def_ 59 rfl
theorem Top.d_Primary_grants (T : Top K mg base) : ∃ fd, FunOf K Au.d_Primary_grants fd := T.c.def_ 60 rfl
theorem Top.d_Primary_snapshot (T : Top K mg base) : ∃ fd, FunOf K Au.d_Primary_snapshot fd := T.c.def_ 61 rfl
theorem Top.d_Primary_check (T : Top K mg base) : ∃ fd, FunOf K Au.d_Primary_check fd := T.c.def_ 62 rfl
theorem Top.d_Primary_entry (T : Top K mg base) : ∃ fd, FunOf K Au.d_Primary_entry fd := T.c.def_ 63 rfl
theorem Top.d_Primary_compact (T : Top K mg base) : ∃ fd, FunOf K Au.d_Primary_compact fd := T.c.def_ 64 rfl
theorem Top.d_ContentStore_init (T : Top K mg base) : ∃ fd, FunOf K Au.d_ContentStore_init fd := T.c.def_ 65 rfl
theorem Top.d_ContentStore_put (T : Top K mg base) : ∃ fd, FunOf K Au.d_ContentStore_put fd := T.c.def_ 66 rfl
theorem Top.d_ContentStore_version (T : Top K mg base) : ∃ fd, FunOf K Au.d_ContentStore_version fd := T.c.def_ 67 rfl
theorem Top.d_ContentStore_token (T : Top K mg base) : ∃ fd, FunOf K Au.d_ContentStore_token fd := T.c.def_ 68 rfl
theorem Top.d_ContentStore_read (T : Top K mg base) : ∃ fd, FunOf K Au.d_ContentStore_read fd := T.c.def_ 69 rfl
theorem Top.d_Replica_init (T : Top K mg base) : ∃ fd, FunOf K Au.d_Replica_init fd := T.c.def_ 70 rfl
theorem Top.d_Replica_store_id (T : Top K mg base) : ∃ fd, FunOf K Au.d_Replica_store_id fd := T.c.def_ 71 rfl
theorem Top.d_Replica_revision (T : Top K mg base) : ∃ fd, FunOf K Au.d_Replica_revision fd := T.c.def_ 72 rfl
theorem Top.d_Replica_fits (T : Top K mg base) : ∃ fd, FunOf K Au.d_Replica_fits fd := T.c.def_ 73 rfl
theorem Top.d_Replica_check_entry (T : Top K mg base) : ∃ fd, FunOf K Au.d_Replica_check_entry fd := T.c.def_ 74 rfl
theorem Top.d_Replica_receive (T : Top K mg base) : ∃ fd, FunOf K Au.d_Replica_receive fd := T.c.def_ 75 rfl
theorem Top.d_Replica_take_waiting (T : Top K mg base) : ∃ fd, FunOf K Au.d_Replica_take_waiting fd := T.c.def_ 76 rfl
theorem Top.d_Replica_check (T : Top K mg base) : ∃ fd, FunOf K Au.d_Replica_check fd := T.c.def_ 77 rfl
theorem Top.d__law_cell (T : Top K mg base) : ∃ fd, FunOf K Au.d__law_cell fd := T.c.def_ 78 rfl
theorem Top.d__law_draws (T : Top K mg base) : ∃ fd, FunOf K Au.d__law_draws fd := T.c.def_ 79 rfl
theorem Top.d__law_same (T : Top K mg base) : ∃ fd, FunOf K Au.d__law_same fd := T.c.def_ 80 rfl
theorem Top.d__law_store (T : Top K mg base) : ∃ fd, FunOf K Au.d__law_store fd := T.c.def_ 81 rfl
theorem Top.d__law_put (T : Top K mg base) : ∃ fd, FunOf K Au.d__law_put fd := T.c.def_ 82 rfl
theorem Top.d__law_read (T : Top K mg base) : ∃ fd, FunOf K Au.d__law_read fd := T.c.def_ 83 rfl
theorem Top.d__law_is_put (T : Top K mg base) : ∃ fd, FunOf K Au.d__law_is_put fd := T.c.def_ 84 rfl
theorem Top.d__law_is_read (T : Top K mg base) : ∃ fd, FunOf K Au.d__law_is_read fd := T.c.def_ 85 rfl
theorem Top.d_law (T : Top K mg base) : ∃ fd, FunOf K Au.d_law fd := T.c.def_ 86 rfl
end
end Au
/-! Authsync: words for what stays, triples of texts, sorted lists of them. -/
namespace Au
open PySem PySem.Spec PyProof.Rows L2
/-- a def that may be called by its name or as a method, with the promise sp -/
structure Cal (P : Program) (w : World) (K : PySem.W.Frag) (mg : Str → Option Value) (base : Heap) (CX : CXT) (k : Nat) (d : Str × Option Str) (ps : List Str) (sp : Sp) : Prop where
  ex : ∃ fd, FnOk P w K mg base CX k (He.fAd K d) fd ps sp ∧ Binds K fd ps []
  kp : PySem.W.keepIn K (.ref (He.fAd K d)) = true
/-! ### what stays -/
/-- all that is tracked stays, but what S names; the tables of code objects may grow -/
structure Kp (S : Addr → Prop) (H H' : Hp) : Prop where
  old : ∀ b o, H b = some o → ¬ S b → (∀ ps, o ≠ .tbl ps) → H' b = some o
  tab : ∀ P, GxR.TabG H P → GxR.TabG H' P
  fr : ∀ b, H' b = none → H b = none
abbrev Nil : Addr → Prop := fun _ => False
theorem Kp.refl {S : Addr → Prop} {H : Hp} : Kp S H H := ⟨fun _ _ h _ _ => h, fun _ h => h, fun _ h => h⟩
theorem Kp.trans {S : Addr → Prop} {H H1 H2 : Hp} (a : Kp S H H1) (b : Kp S H1 H2) : Kp S H H2 :=
  ⟨fun c o h n t => b.old c o (a.old c o h n t) n t, fun P h => b.tab P (a.tab P h), fun c h => a.fr c (b.fr c h)⟩
theorem Kp.mono {S S' : Addr → Prop} {H H' : Hp} (a : Kp S H H') (h : ∀ b, S b → S' b) : Kp S' H H' := ⟨fun b o e n t => a.old b o e (fun z => n (h b z)) t, a.tab, a.fr⟩
theorem Kp.any {S : Addr → Prop} {H H' : Hp} (a : Kp Nil H H') : Kp S H H' := a.mono fun _ z => z.elim
/-- what is new ahead is no matter behind -/
theorem Kp.less {S S' : Addr → Prop} {H H1 H2 : Hp} (a : Kp S H H1) (b : Kp S' H1 H2) (h : ∀ c, S' c → S c ∨ H c = none) : Kp S H H2 :=
  ⟨fun c o e n t => b.old c o (a.old c o e n t) (fun z => (h c z).elim n fun q => by rw [e] at q; cases q) t, fun P q => b.tab P (a.tab P q), fun c q => a.fr c (b.fr c q)⟩
theorem tabG_upd {H : Hp} {p P : Addr} {o : HO} (h : GxR.TabG H P) (n : p ≠ P) : GxR.TabG (upd H p o) P := by
  obtain ⟨ps, e, t⟩ := h
  exact ⟨ps, by rw [upd_ne (Ne.symm n)]; exact e, t⟩
theorem Kp.new {S : Addr → Prop} {H : Hp} {p : Addr} {o : HO} (h : H p = none) : Kp S H (upd H p o) :=
  ⟨fun b u e _ _ => (by rw [upd_ne (ne_of_none e h)]; exact e), fun P q => tabG_upd q fun e => (by obtain ⟨ps, e2, _⟩ := q; rw [← e, h] at e2; cases e2), fun b q => by
    by_cases e : b = p
    · rw [e]; exact h
    · rw [upd_ne e] at q; exact q⟩
theorem Kp.put {S : Addr → Prop} {H : Hp} {p : Addr} {o u : HO} (h : H p = some u) (hu : ∀ ps, u ≠ .tbl ps) (hp : S p) : Kp S H (upd H p o) :=
  ⟨fun b v e n _ => (by rw [upd_ne (fun z => n (by rw [z]; exact hp))]; exact e), fun P q => tabG_upd q fun e => (by obtain ⟨ps, e2, _⟩ := q; rw [← e, h] at e2; exact hu ps (Option.some.inj e2)), fun b q => by
    by_cases e : b = p
    · rw [e, upd_same] at q; cases q
    · rw [upd_ne e] at q; exact q⟩
theorem Kp.same {S : Addr → Prop} {H H' : Hp} (h : Same H H') : Kp S H H' := ⟨fun b o e _ _ => h b o e, fun P ⟨ps, e, t⟩ => ⟨ps, h _ _ e, t⟩, fun b q => h.free q⟩
theorem Kp.tabbed {S : Addr → Prop} {H H' : Hp} {P : Addr} (hP : GxR.TabG H P) (h : GxR.Tabbed P H H') : Kp S H H' :=
  by
  refine ⟨fun b o e _ t => ?_, fun Q q => ?_, fun b q => ?_⟩
  · have n : b ≠ P := fun z => by
      obtain ⟨ps, e2, _⟩ := hP
      rw [z, e2] at e
      exact t ps (Option.some.inj e).symm
    rw [h.2 b n]
    exact e
  · by_cases e : Q = P
    · rw [e]
      exact h.1
    · obtain ⟨ps, e2, t⟩ := q
      exact ⟨ps, by rw [h.2 Q e]; exact e2, t⟩
  · by_cases e : b = P
    · obtain ⟨ps, e2, _⟩ := h.1
      rw [e, e2] at q
      cases q
    · rw [← h.2 b e]
      exact q
theorem same_new {H : Hp} {p : Addr} {o : HO} (h : H p = none) : Same H (upd H p o) := fun b u e => by rw [upd_ne (ne_of_none e h)]; exact e
/-- an old object behind a new one -/
theorem o1 {H : Hp} {p b : Addr} {o u : HO} (e : H b = some u) (h : H p = none) : upd H p o b = some u := by rw [upd_ne (ne_of_none e h)]; exact e
theorem o2 {H : Hp} {p b : Addr} {o : HO} {r : Option HO} (e : H b = r) (h : b ≠ p) : upd H p o b = r := by rw [upd_ne h]; exact e
theorem f1 {H : Hp} {p q : Addr} {o : HO} (h : upd H p o q = none) : H q = none := by
  by_cases e : q = p
  · rw [e, upd_same] at h
    cases h
  · rw [upd_ne e] at h
    exact h
theorem f1n {H : Hp} {p q : Addr} {o : HO} (h : upd H p o q = none) : q ≠ p := fun e => by rw [e, upd_same] at h; cases h
theorem nt_tup {xs : List V} : ∀ ps, HO.tup xs ≠ .tbl ps := fun _ z => by cases z
theorem nt_lst {xs : List V} : ∀ ps, HO.lst xs ≠ .tbl ps := fun _ z => by cases z
theorem nt_dK {kvs : List (Key × V)} : ∀ ps, HO.dK kvs ≠ .tbl ps := fun _ z => by cases z
theorem nt_dT {kvs : List (List Key × V)} : ∀ ps, HO.dT kvs ≠ .tbl ps := fun _ z => by cases z
theorem nt_ins {C dx : Addr} {fs : List (Str × V)} : ∀ ps, HO.ins C dx fs ≠ .tbl ps := fun _ z => by cases z
theorem Kp.tup {S : Addr → Prop} {H H' : Hp} (a : Kp S H H') {b : Addr} {xs : List V} (e : H b = some (.tup xs)) (n : ¬ S b) : H' b = some (.tup xs) := a.old b _ e n nt_tup
theorem Kp.tup0 {H H' : Hp} (a : Kp Nil H H') {b : Addr} {xs : List V} (e : H b = some (.tup xs)) : H' b = some (.tup xs) := a.old b _ e id nt_tup
theorem Kp.lst0 {H H' : Hp} (a : Kp Nil H H') {b : Addr} {xs : List V} (e : H b = some (.lst xs)) : H' b = some (.lst xs) := a.old b _ e id nt_lst
theorem Kp.dK0 {H H' : Hp} (a : Kp Nil H H') {b : Addr} {xs : List (Key × V)} (e : H b = some (.dK xs)) : H' b = some (.dK xs) := a.old b _ e id nt_dK
theorem Kp.dT0 {H H' : Hp} (a : Kp Nil H H') {b : Addr} {xs : List (List Key × V)} (e : H b = some (.dT xs)) : H' b = some (.dT xs) := a.old b _ e id nt_dT
theorem Kp.ins0 {H H' : Hp} (a : Kp Nil H H') {b C dx : Addr} {fs : List (Str × V)} (e : H b = some (.ins C dx fs)) : H' b = some (.ins C dx fs) := a.old b _ e id nt_ins
/-! ### pairs of lists -/
section
variable {α β γ : Type} {F G : α → β → Prop}
theorem pair_get {l₁ : List α} {l₂ : List β} (h : Paired F l₁ l₂) : ∀ {i : Nat} {a : α}, l₁[i]? = some a → ∃ b, l₂[i]? = some b ∧ F a b := by
  induction h with
  | nil => intro i a e; simp at e
  | cons r t ih =>
    intro i a e
    cases i with
    | zero => simp at e; subst e; exact ⟨_, rfl, r⟩
    | succ i => obtain ⟨b, e1, e2⟩ := ih (i := i) (a := a) (by simpa using e); exact ⟨b, by simpa using e1, e2⟩
theorem pair_getR {l₁ : List α} {l₂ : List β} (h : Paired F l₁ l₂) : ∀ {i : Nat} {b : β}, l₂[i]? = some b → ∃ a, l₁[i]? = some a ∧ F a b := by
  induction h with
  | nil => intro i a e; simp at e
  | cons r t ih =>
    intro i a e
    cases i with
    | zero => simp at e; subst e; exact ⟨_, rfl, r⟩
    | succ i => obtain ⟨b, e1, e2⟩ := ih (i := i) (b := a) (by simpa using e); exact ⟨b, by simpa using e1, e2⟩
theorem pair_append {a a' : List α} {b b' : List β} (h : Paired F a b) (h' : Paired F a' b') : Paired F (a ++ a') (b ++ b') := by
  induction h with
  | nil => exact h'
  | cons r t ih => exact .cons r ih
theorem pair_take {a : List α} {b : List β} (h : Paired F a b) : ∀ n : Nat, Paired F (a.take n) (b.take n) := by
  induction h with
  | nil => intro n; simp; exact .nil
  | cons r t ih => intro n; cases n with
    | zero => exact .nil
    | succ n => exact .cons r (ih n)
theorem pair_drop {a : List α} {b : List β} (h : Paired F a b) : ∀ n : Nat, Paired F (a.drop n) (b.drop n) := by
  induction h with
  | nil => intro n; simp; exact .nil
  | cons r t ih => intro n; cases n with
    | zero => exact .cons r t
    | succ n => exact ih n
theorem pair_left {l₁ : List α} {l₂ : List β} (h : Paired F l₁ l₂) : ∀ a ∈ l₁, ∃ b ∈ l₂, F a b := by
  induction h with
  | nil => intro a z; cases z
  | cons r t ih =>
    intro a z
    rcases List.mem_cons.mp z with z | z
    · subst z; exact ⟨_, List.mem_cons_self .., r⟩
    · obtain ⟨b, hb, q⟩ := ih a z; exact ⟨b, List.mem_cons_of_mem _ hb, q⟩
theorem pair_of {l₁ : List α} (f : α → β) (h : ∀ a ∈ l₁, F a (f a)) : Paired F l₁ (l₁.map f) := by
  induction l₁ with
  | nil => exact .nil
  | cons a t ih => exact .cons (h a (List.mem_cons_self ..)) (ih fun b z => h b (List.mem_cons_of_mem _ z))
end
/-! ### triples of texts -/
abbrev T3 : Type := Str × Str × Str
def t3 (t : T3) : List V := [.str t.1, .str t.2.1, .str t.2.2]
def key3 (t : T3) : List Key := [.inr t.1, .inr t.2.1, .inr t.2.2]
theorem key3_v (t : T3) : (key3 t).map kV = t3 t := rfl
theorem key3_inj {s t : T3} (h : key3 s = key3 t) : s = t := by
  obtain ⟨a, b, c⟩ := s
  obtain ⟨a', b', c'⟩ := t
  injection h with h1 h
  injection h with h2 h
  injection h with h3 _
  have g1 : a = a' := Sum.inr.inj h1
  have g2 : b = b' := Sum.inr.inj h2
  have g3 : c = c' := Sum.inr.inj h3
  rw [g1, g2, g3]
/-- the triple t stands as a tuple -/
def Tri (H : Hp) (v : V) (t : T3) : Prop := ∃ p, v = .ref p ∧ H p = some (.tup (t3 t))
/-- a list of triples stands at l -/
def TriL (H : Hp) (l : Addr) (ts : List T3) : Prop := ∃ vs, H l = some (.lst vs) ∧ Paired (Tri H) vs ts
theorem Tri.kp {S : Addr → Prop} {H H' : Hp} (a : Kp S H H') (n : ∀ b xs, H b = some (.tup xs) → ¬ S b) {v : V} {t : T3} (h : Tri H v t) : Tri H' v t := by
  obtain ⟨p, rfl, e⟩ := h
  exact ⟨p, rfl, a.tup e (n _ _ e)⟩
theorem Tri.kp0 {H H' : Hp} (a : Kp Nil H H') {v : V} {t : T3} (h : Tri H v t) : Tri H' v t := h.kp a fun _ _ _ => id
theorem Tri.prs {H H' : Hp} (a : Kp Nil H H') {vs : List V} {ts : List T3} (h : Paired (Tri H) vs ts) : Paired (Tri H') vs ts := Paired.mapP h fun _ _ q => q.kp0 a
theorem TriL.kp0 {H H' : Hp} (a : Kp Nil H H') {l : Addr} {ts : List T3} (h : TriL H l ts) : TriL H' l ts := by
  obtain ⟨vs, e, r⟩ := h
  exact ⟨vs, a.lst0 e, Tri.prs a r⟩
def encT (t : T3) : PyData := .tuple [.str t.1, .str t.2.1, .str t.2.2]
theorem Tri.dp {K : PySem.W.Frag} {H : Hp} {v : V} {t : T3} (h : Tri H v t) : Dp K H v (encT t) := by
  obtain ⟨p, rfl, e⟩ := h
  exact .tup (SqT.of e) (.cons (.str _) (.cons (.str _) (.cons (.str _) .nil)))
/-- in ascending order -/
def sortT (ts : List T3) : List T3 := ts.mergeSort (PySem.W.dataLe false encT)
theorem sortT_perm (ts : List T3) : (sortT ts).Perm ts := List.mergeSort_perm ..
theorem sortT_mem {ts : List T3} {t : T3} : t ∈ sortT ts ↔ t ∈ ts := (sortT_perm ts).mem_iff
theorem sortT_len (ts : List T3) : (sortT ts).length = ts.length := (sortT_perm ts).length_eq
theorem sortT_nodup {ts : List T3} (h : ts.Nodup) : (sortT ts).Nodup := (sortT_perm ts).nodup_iff.mpr h
/-! ### sorted(a list of triples) -/
def refV : Value → V
  | .ref a => .ref a
  | _ => .non
def rSortT (K : PySem.W.Frag) : List V → Hp → VK → Prop := fun vs H Q => ∃ (a : Addr) (xs : List V) (ts : List T3), vs = [.ref a] ∧ SqL K H a xs ∧ Paired (Tri H) xs ts ∧
  ∀ (ys : List V) (p : Addr), Paired (Tri H) ys (sortT ts) → H p = none → Q (.ref p) (upd H p (.lst ys))
def TriV (H : Hp) (v : Value) (t : T3) : Prop := ∃ p, v = .ref p ∧ H p = some (.tup (t3 t))
theorem tri_each {H : Hp} : ∀ {xs : List V} {its : List Value} {ts : List T3}, Vals xs its → Paired (Tri H) xs ts → PySem.W.EachIs (TriV H) its ts
  | _, _, _, .nil, .nil => .nil
  | _, _, _, .cons a r, .cons ⟨p, e, q⟩ c => by
    subst e
    cases a
    exact .cons ⟨p, rfl, q⟩ (tri_each r c)
theorem each_tri {H : Hp} {out : List Value} {ts : List T3} (h : PySem.W.EachIs (TriV H) out ts) : Vals (out.map refV) out ∧ Paired (Tri H) (out.map refV) ts := by
  induction h with
  | nil => exact ⟨.nil, .nil⟩
  | cons r _ ih =>
    obtain ⟨p, rfl, e⟩ := r
    exact ⟨.cons rfl ih.1, .cons ⟨p, rfl, e⟩ ih.2⟩
theorem triv_reads {X : Cx} {pins : List (Addr × Obj)} {σ : L2.St} {H : Hp} {s : Shared} (I : Inv X pins σ H s) {v : Value} {t : T3} (h : TriV H v t) : ∃ as, Reads s.heap v (encT t) as := by
  obtain ⟨p, rfl, e⟩ := h
  exact Dp.reads I (encT t) (.ref p) (.ref p) (Tri.dp ⟨p, rfl, e⟩) rfl
theorem alike_T (ts : List T3) : PySem.W.AllAlike (ts.map encT) := PySem.W.AllAlike.of fun a b => by
  show PySem.W.alikeAll [.str a.1, .str a.2.1, .str a.2.2] [.str b.1, .str b.2.1, .str b.2.2] = true
  simp [PySem.W.alikeAll, PySem.W.alike]
theorem sortable_T (ts : List T3) : PySem.W.Sortable (ts.map encT) := PySem.W.Sortable.tuples fun b => ⟨_, _, rfl⟩
theorem depth_T (t : T3) : (encT t).depth ≤ 2 := by
  show PyData.depth (.tuple [.str t.1, .str t.2.1, .str t.2.2]) ≤ 2
  simp [PyData.depth, PyData.depthAll]
section
variable {X : Cx}
theorem cr_sortT (hu : X.A.units + 64 < cLine) : CallR X (.builtin "sorted") (rSortT X.K) := by
  intro pins s σ H xs us Q I r h
  obtain ⟨a, vs, ts, rfl, hs, hp, q⟩ := h
  obtain ⟨its, rv, hl, hz⟩ := I.list hs
  rw [Vals.ref1 r]
  have e1 := tri_each rv hp
  have hlen : vs.length = ts.length := hp.length
  refine PySem.W.sorted_data hl.isList e1 (e1.mono fun _ _ z => triv_reads I z) (alike_T ts) (sortable_T ts) (by rw [← hlen]; exact hz) (fun b _ => by have := depth_T b; omega) fun out h1 h2 => ?_
  obtain ⟨k1, k2⟩ := each_tri h2
  obtain ⟨ep, he'⟩ := PyProof.Rows.sortedAll_at s.heap its out.toArray
  refine ⟨.ref _, upd H (s.heap.objs.size + 1) (.lst (out.map refV)), I.laid (t' := s.toks) (fun _ _ => PyProof.Rows.sortedAll_old) (Nat.le_succ _) ⟨?_, out, ep, k1, he'⟩, rfl, q _ _ k2 (I.hok.fresh (Nat.le_succ _))⟩
  rw [List.length_map, h1, ← hlen]
  exact hz
end
end Au
/-! Authsync: sorted(a dict whose keys are triples). -/
namespace Au
open PySem PySem.Spec PyProof.Rows L2
theorem each_of {R : Value → T3 → Prop} : ∀ {vs : List Value} {ts : List T3}, vs.length = ts.length → (∀ (i : Nat) v t, vs[i]? = some v → ts[i]? = some t → R v t) → PySem.W.EachIs R vs ts
  | [], [], _, _ => .nil
  | [], _ :: _, h, _ => by cases h
  | _ :: _, [], h, _ => by cases h
  | v :: vs, t :: ts, h, g => .cons (g 0 v t rfl rfl) (each_of (Nat.succ.inj h) fun i a b e1 e2 => g (i + 1) a b (by simpa using e1) (by simpa using e2))
theorem reads_nil {h : Heap} {v : Value} {t : T3} {as : List Addr} (r : Reads h v (encT t) as) : as = [] := by
  unfold encT at r
  cases r with
  | tuple h1 h2 h3 h4 =>
    generalize Array.toList _ = l at h4
    cases h4 with
    | cons a b =>
      cases a
      cases b with
      | cons a b =>
        cases a
        cases b with
        | cons a b =>
          cases a
          cases b
          rfl
def rSortTD : List V → Hp → VK → Prop := fun vs H Q => ∃ (a : Addr) (kvs : List (List Key × V)) (ts : List T3), vs = [.ref a] ∧ H a = some (.dT kvs) ∧ kvs.map (·.1) = ts.map key3 ∧
  ∀ (ys : List V) (p : Addr), Paired (Tri H) ys (sortT ts) → H p = none → Q (.ref p) (upd H p (.lst ys))
section
variable {X : Cx}
theorem cr_sortTD (hc : X.calm = true) (hu : X.A.units + 64 < cLine) : CallR X (.builtin "sorted") rSortTD := by
  intro pins s σ H xs us Q I r h
  obtain ⟨a, kvs, ts, rfl, hd, hk, q⟩ := h
  rw [Vals.ref1 r]
  obtain ⟨z, lo, xs, rel, o, es, ep, ho, hex, hdat, hes, hnd⟩ := I.hok a _ hd
  have raw : s.heap.DictRaw a es ep := ⟨o, ho, hex, hdat⟩
  have hlt : kvs.length = ts.length := by
    have e := congrArg List.length hk
    rw [List.length_map, List.length_map] at e
    exact e
  have hxs : kvs.length = xs.length := rel.length
  have hsz : es.size = ts.length := by
    have e := congrArg List.length hes
    rw [List.length_map, Array.length_toList] at e
    omega
  refine Calls.call_function_entry PyProof.Rows.kind_sorted PyProof.Rows.plain_sorted PyProof.Rows.entry_sorted (PyProof.Rows.args_sorted1 _) ?_
  unfold Builtin.«sorted»
  refine wpAny_bind (m := checkCount "sorted" 1 1 _) (wpAny_pure ?_)
  refine wpAny_bind (PySem.W.kdu_collect (A := X.A.in1) (KdlSrc.rawDict (es := es) (ep := ep) lo) (I.ok.hd hc) raw (by omega) fun h' tk acc kp hacc => ?_)
  have hal : acc.toList.length = ts.length := by rw [Array.length_toList, hacc.1, hsz]
  have e1 : PySem.W.EachIs (TriV H) acc.toList ts := each_of hal fun i v t e1 e2 => by
    obtain ⟨hi, ev⟩ := hacc.2 i v (by rw [← Array.getElem?_toList]; exact e1)
    have e3 : (kvs.map (·.1))[i]? = some (key3 t) := by rw [hk, List.getElem?_map, e2]; rfl
    rw [List.getElem?_map] at e3
    cases e4 : kvs[i]? with
    | none => rw [e4] at e3; cases e3
    | some kv =>
      rw [e4] at e3
      have e5 : kv.1 = key3 t := Option.some.inj e3
      obtain ⟨x, e6, e7, e8, e9⟩ := pair_get rel e4
      have e10 : es.toList[i]? = some (entryOfKey (tupleKind (mixKind X.prog X.w)) x) := by rw [hes, List.getElem?_map, e6]; rfl
      rw [Array.getElem?_toList, Array.getElem?_eq_getElem hi] at e10
      refine ⟨x.2.1, ?_, ?_⟩
      · rw [ev, Option.some.inj e10]
        rfl
      · rw [e8, e5]
        rfl
  have I1 : Inv X pins σ H { s with heap := h', toks := tk } := I.kept kp
  refine wpAny_bind (wpAny_newList ?_ (by rw [hal]; omega))
  have hoL : (h'.push (seqObj "list" acc.toList.toArray 0)).get? h'.objs.size = some (seqObj "list" acc.toList.toArray 0) := Heap.get?_push_size _ rfl
  have kp2 : ∀ b u, h'.get? b = some u → (h'.push (seqObj "list" acc.toList.toArray 0)).get? b = some u := fun b u e => Heap.get?_push_of_some _ e
  have I2 : Inv X pins σ H { s with heap := h'.push (seqObj "list" acc.toList.toArray 0), toks := tk } := I.kept fun b u e => kp2 b u (kp b u e)
  show wpAny _ _ _ _ _ { s with heap := h'.push (seqObj "list" acc.toList.toArray 0), toks := tk }
  refine wpAny_bind (wpAny_holding (PySem.W.list_sort_data (s := { s with heap := h'.push (seqObj "list" acc.toList.toArray 0), toks := tk }) hoL e1 ?_ (alike_T ts) (sortable_T ts) (by omega) (fun b _ => ?_) fun out h1 h2 => ?_))
  · refine e1.mono fun v t z => ?_
    obtain ⟨as, r⟩ := triv_reads I1 z
    refine ⟨as, PyProof.Rows.Reads.keeps (fun b o e => kp2 b o e) r, ?_⟩
    rw [reads_nil r]
    exact List.not_mem_nil
  · have := depth_T b
    show X.A.units + 1 + 1 + _ < _
    omega
  · obtain ⟨k1, k2⟩ := each_tri h2
    obtain ⟨e', he'⟩ := PyProof.Rows.sortedHeap_at (vs := acc.toList) (out := out.toArray) hoL
    refine wpAny_pure ⟨_, rfl, .ref h'.objs.size, upd H h'.objs.size (.lst (out.map refV)), I1.laid (t' := tk) (fun b u e => ?_) (Nat.le_refl _)
      (show ObjOk X.prog X.w _ _ _ (.lst (out.map refV)) from ⟨?_, out, e', k1, he'⟩), rfl, q _ _ k2 (I1.hok.fresh (Nat.le_refl _))⟩
    · have hb : b < h'.objs.size := Heap.lt_size e
      rw [PyProof.Rows.sortedHeap_old (Nat.ne_of_lt hb) (by rw [Heap.size_push]; exact Nat.lt_succ_of_lt hb)]
      exact kp2 b u e
    · rw [List.length_map, h1]
      omega
end
end Au
/-! Authsync: {x: True for x in xs} where the items are tuples. -/
namespace Au
open PySem PySem.Spec PyProof.Rows L2
/-- the dict at D takes the key that stands at b -/
theorem dictSetT {X : Cx} {pins : List (Addr × Obj)} {σ : L2.St} {H : Hp} {s : Shared} {E : Value → Shared → Prop} {D b : Addr} {kvs : List (List Key × V)} {k : List Key} {v : V} {r : Value} {Q : Unit → Shared → Prop}
    (hu : X.A.units + 1 < cLine) (I : Inv X pins σ H s) (hD : H D = some (.dT kvs)) (hz : kvs.length < sizeLine) (hb : H b = some (.tup (k.map kV))) (rv : RelV v r)
    (h : ∀ s', Inv X pins σ (upd H D (.dT (putK kvs k v))) s' → Q () s') : wpAny (model X.prog X.w) X.A (dictSet D (.ref b) r) Q E s := by
  obtain ⟨_, hd, xs, rel, dd⟩ := dt_of I.hok hD
  have hx : kvs.length = xs.length := Paired.length rel
  have hl : (putK kvs k v).length ≤ kvs.length + 1 := length_putK kvs k v
  have room : (tupleKind (mixKind X.prog X.w)).room X.A := Nat.lt_of_succ_lt hu
  refine wpAny_dictSet_heap (hsz := by omega) room (key_of I.hok hb) dd fun h' dd' same => h _ ?_
  obtain ⟨q, es, ep, hq, h2, h3, h4, _, h5⟩ := dd'
  have kt : KT (upd H D (.dT (putK kvs k v))) (putK kvs k v) (storedH xs k b r) := (rel.put k hb rv).keeps fun c ys ec => o2 ec (ne_of ec hD fun z => by cases z)
  exact d_write I (by rw [hD]; trivial) same ⟨q, hq⟩ ⟨by omega, hd, _, kt, q, es, ep, hq, h2, h3, h4, h5⟩
section
variable {X : Cx}
/-- {k: v for target in iter}: the keys tuples; D the new dict -/
def tDcT (wi : TI) (g : TG) (tk tv : TE) (vs : List Nat) : TE := fun σ H Q => wi σ H fun J H1 => ∀ D, H1 D = none → ∃ W : Nat → Nat → Hp → Prop, (∃ m, W 0 m (upd H1 D (.dT []))) ∧ ∀ i m H, W i m H →
  (J.stop i H ∧ Q (.ref D) H) ∨ (J.go i H ∧ ∃ N : Hp → Prop, (∀ H', N H' → ∃ m', m' < m ∧ W (i + 1) m' H') ∧ ∀ x H', J.yld i H x H' → g x (wipe σ vs) H' fun σ2 H2 => wipe σ2 vs = wipe σ vs ∧
    tk σ2 H2 fun y H4 => tv σ2 H4 fun z H5 => ∃ kvs k b, y = .ref b ∧ H5 b = some (.tup (k.map kV)) ∧ H5 D = some (.dT kvs) ∧ kvs.length < sizeLine ∧ N (upd H5 D (.dT (putK kvs k z))))
theorem pe_dcT {kx vx tg iter : Expr} {scope : Scope} {own : List (Str × Nat)} {pos : Pos} {wi : TI} {g : TG} {tk tv : TE} (hu : X.A.units + 1 < cLine) (hc : X.calm = true) (hN : X.N.Nodup) (hi : PI X tg iter wi) (ok : BlkOk X.N X.env.scope scope own)
    (hg : ∀ (s : Shared) (H : Hp) (C : Addr) (cl : List (Str × Addr)) (fp : List Addr), PG (X.blk s H scope (compEnvC scope cl C X.env) fp) tg g)
    (hk : ∀ (s : Shared) (H : Hp) (C : Addr) (cl : List (Str × Addr)) (fp : List Addr), PE (X.blk s H scope (compEnvC scope cl C X.env) fp) kx tk)
    (he : ∀ (s : Shared) (H : Hp) (C : Addr) (cl : List (Str × Addr)) (fp : List Addr), PE (X.blk s H scope (compEnvC scope cl C X.env) fp) vx tv) (hs : ∀ x, foldedSetIterable iter X.env x = pure x := by intro _; rfl) :
    PE X (.DictComp kx vx [⟨tg, iter, [], 0⟩] scope pos) (tDcT wi g tk tv (own.map (·.2))) := by
  refine ⟨fun pins s σ H Q I h => ?_⟩
  rw [arm_eval_DictComp]
  have cells : ∀ y ∈ scope.names, y.2 = .free → ∃ c, X.env.cells.lookup y.1 = some c := fun y hy e => (ok.free y hy e).elim (fun z => I.ok.has _ (.inl z)) fun z => I.ok.has _ (.inr z)
  refine wpAny_comprehension_free rfl hs (closure_ok cells) ok.kind (fun y hy e => by rw [ok.uniq y hy, e]) ?_
  refine thn (hi.run pins s σ H _ I h) fun xv s1 hx => thn hx fun itv s2 h2 => ?_
  obtain ⟨it, fp, tn, J, H2, rfl, I2, T, st2, f2, q⟩ := h2
  refine wpAny_newObj_type (newEnv_comp ?_)
  -- the dict that is filled
  have hDn : H2 s2.heap.objs.size = none := I2.hok.fresh (Nat.le_refl _)
  obtain ⟨W, ⟨m0, w0⟩, turn⟩ := q s2.heap.objs.size hDn
  have I3 : Inv X pins σ (upd H2 s2.heap.objs.size (.dT [])) { s2 with heap := s2.heap.push { cls := .type "dict", data := .dict #[] } } :=
    I2.laid (t' := s2.toks) (fun b o e => Heap.get?_push_of_some _ e) (Nat.le_refl _) (dt_empty s2.heap I2.big)
  have small : ∀ b ∈ fp, b < s2.heap.objs.size := fun b hb => let ⟨_, e, _⟩ := T.obj _ _ st2 b hb; Heap.lt_size e
  have f3 : ∀ b ∈ fp, FpOk X pins (upd H2 s2.heap.objs.size (.dT [])) b ∧ b < (s2.heap.push { cls := .type "dict", data := .dict #[] }).objs.size := fun b hb =>
    ⟨⟨o2 (f2 b hb).1 (Nat.ne_of_lt (small b hb)), (f2 b hb).2⟩, by rw [Heap.size_push]; exact Nat.lt_succ_of_lt (small b hb)⟩
  have st3 : tn 0 (s2.heap.push { cls := .type "dict", data := .dict #[] }) := T.keep _ _ _ st2 fun b _ o e => Heap.get?_push_of_some _ e
  have I4 := block_start I3 ok hN f3
  generalize hs3 : ({ s2 with heap := s2.heap.push { cls := .type "dict", data := .dict #[] } } : Shared) = s3 at I3 I4
  have e3 : s3.heap = s2.heap.push { cls := .type "dict", data := .dict #[] } := by rw [← hs3]
  rw [← e3] at st3 f3
  generalize hH3 : upd H2 s2.heap.objs.size (.dT []) = H3 at I3 I4 w0 f3
  generalize hcl : cellsFrom (s3.heap.objs.size + 1) scope.names (cloFrom X.env.cells scope.names []) = cl at I4
  have pg := hg s3 H3 s3.heap.objs.size cl fp
  have pk := hk s3 H3 s3.heap.objs.size cl fp
  have pe := he s3 H3 s3.heap.objs.size cl fp
  show codeAny _ _ (.compStart (.DictComp kx vx [⟨tg, iter, [], 0⟩] scope pos) 0 (.ref it) (.ref s2.heap.objs.size) (compEnvC scope cl s3.heap.objs.size X.env)) (compPost (model X.prog X.w) X.A X.xe none (EP X pins σ Q) (.ref s2.heap.objs.size) s3.heap.objs.size) { s3 with heap := pushCells (s3.heap.push { cls := .type "dict", data := .dict #[] }) scope.names }
  generalize s2.heap.objs.size = D at turn hDn hH3 ⊢
  generalize hs4 : ({ s3 with heap := pushCells (s3.heap.push { cls := .type "dict", data := .dict #[] }) scope.names } : Shared) = s4 at I4 ⊢
  have st4 : tn 0 s4.heap := T.keep _ _ _ st3 fun b _ o e => by rw [← hs4]; exact pushCells_keeps _ _ _ _ (Heap.get?_push_of_some _ e)
  generalize hce : compEnvC scope cl s3.heap.objs.size X.env = ce at I4 pg pk pe ⊢
  have cL : ce.locals = s3.heap.objs.size := by subst hce; rfl
  -- the iterator's own objects, seen from the block
  have seen : ∀ {σ' : L2.St} {H' : Hp} {s' : Shared}, Inv (X.blk s3 H3 scope ce fp) [] σ' H' s' → (∀ b ∈ fp, H' b = none) → ∀ b ∈ fp, FpOk (X.blk s3 H3 scope ce fp) [] H' b := fun {σ' H' s'} I' hn b hb =>
    ⟨hn b hb, (I'.ok.exf b hb).1, I'.ok.exfs b hb, .inl hb, fun x c e => (I'.ok.exf b hb).2 x c e, fun p hp => by cases hp⟩
  have loop : codeAny (model X.prog X.w) X.A (.compLoop (.DictComp kx vx [⟨tg, iter, [], 0⟩] scope pos) 0 (.ref it) (.ref D) ce) (compPost (model X.prog X.w) X.A X.xe none (EP X pins σ Q) (.ref D) s3.heap.objs.size) s4 := by
    refine compLoop_anyD (fun n s' => ∃ i H', Inv (X.blk s3 H3 scope ce fp) [] (wipe σ (own.map (·.2))) H' s' ∧ tn i s'.heap ∧ (∀ b ∈ fp, H' b = none) ∧ W i n H') ?_ m0 ⟨0, H3, I4, st4, fun b hb => (f3 b hb).1.1, w0⟩
    rintro n s5 ⟨i, H5, I5, st5, n5, w5⟩
    rcases turn i n H5 w5 with ⟨stop, qq⟩ | ⟨go, N, hNx, step⟩
    · refine thnF (T.done (X.blk s3 H3 scope ce fp) rfl rfl rfl hc i [] s5 _ H5 (fun _ _ => False) I5 (seen I5 n5) st5 stop) fun r s6 hr => ?_
      obtain ⟨rfl, I6⟩ := hr
      have I7 : Inv X pins σ H5 s6 := I3.call' (ch := fp) I6.os I6.base I6.hok I6.bare fun b hb => ⟨(f3 b hb).1.2.2.2.1, (f3 b hb).1.2.1, (f3 b hb).1.2.2.2.2.1, (f3 b hb).1.2.2.2.2.2⟩
      have nC : H5 s3.heap.objs.size = none := by rw [← cL]; exact I6.free
      obtain ⟨m, hn, _⟩ := I6.loc
      have hn : s6.heap.Ns s3.heap.objs.size m := by rw [← cL]; exact hn
      obtain ⟨g0, g1, g2, g3, g4, g5⟩ := I3.fpOk (Nat.le_refl _) nC
      exact ⟨m, hn, fun h'' sb => ⟨.ref D, H5, I7.turned (t' := s6.toks) (fun b o hb e => (sb.2 b hb).trans e) g0 g1 g3 g4 g5, rfl, qq⟩⟩
    · refine thnF (T.item (X.blk s3 H3 scope ce fp) rfl rfl rfl hc i [] s5 _ H5 (fun _ _ => False) I5 (seen I5 n5) st5 go) fun r s6 hr => ?_
      obtain ⟨u, rfl, h6⟩ := hr
      refine thnF h6 fun _ s7 h7 => ?_
      obtain ⟨x, H7, I7, r7, y7, st7, n7⟩ := h7
      have I7' := I7.pinned (seen I7 n7) (T.obj _ _ st7)
      refine thnF (pg.run _ s7 _ H7 x u _ I7' r7 (step x H7 y7)) fun _ s8 h8 => ?_
      obtain ⟨σ8, H8, I8, hw8, q8⟩ := h8
      simp only [List.forIn_nil]
      refine wpAny_pure ?_
      rw [if_pos rfl]
      refine thnF (pk.run _ s8 σ8 H8 _ I8 q8) fun z s10 h10 => ?_
      obtain ⟨yk, H10, I10, r10, q10⟩ := h10
      refine thnF (pe.run _ s10 σ8 H10 _ I10 q10) fun z2 s11 h11 => ?_
      obtain ⟨yv, H11, I11, r11, kvs, k, b, rfl, hb11, hD11, hz11, nx⟩ := h11
      cases r10
      refine dictSetT (X := X.blk s3 H3 scope ce fp) hu I11 hD11 hz11 hb11 r11 fun s12 I12 => ?_
      obtain ⟨m', hm, w'⟩ := hNx _ nx
      have back : ∀ c ∈ fp, ∀ o, s7.heap.get? c = some o → s12.heap.get? c = some o ∧ upd H11 D (.dT (putK kvs k yv)) c = none := fun c hc o e =>
        let z := I12.pin (c, o) (List.mem_append_right _ (List.mem_append_right _ (mem_pinsAt hc e)))
        ⟨z.1, z.2.1⟩
      have hl : (wipe σ (own.map (·.2))).length = σ8.length := by rw [← hw8, wipe_length]
      refine ⟨m', hm, i + 1, _, (I12.unpinned (pins := [])).weak hl (fun j v e => ?_), T.keep _ _ _ st7 fun c hc o e => (back c hc o e).1, fun c hc => ?_, w'⟩
      · rw [← hw8] at e
        exact (wipe_some e).1
      · obtain ⟨o, e, _⟩ := T.obj _ _ st7 c hc
        exact (back c hc o e).2
  exact codeAny_compStart_dict loop (T.self X.A 0 _ _ _ st4 loop)
/-- over a list that stays -/
theorem dcT_list {K : PySem.W.Frag} {a : Addr} {xs : List V} {g : TG} {tk tv : TE} {vs : List Nat} {σ : L2.St} {H1 : Hp} {D : Addr} {Qd : Hp → Prop} (Pv : Nat → Hp → Prop) (h0 : Pv 0 (upd H1 D (.dT []))) (hl : ∀ i H, i ≤ xs.length → Pv i H → SqL K H a xs)
    (hs : ∀ i x H, xs[i]? = some x → Pv i H → g x (wipe σ vs) H fun σ2 H2 => wipe σ2 vs = wipe σ vs ∧ tk σ2 H2 fun y H4 => tv σ2 H4 fun z H5 => ∃ kvs k b, y = .ref b ∧ H5 b = some (.tup (k.map kV)) ∧ H5 D = some (.dT kvs) ∧ kvs.length < sizeLine ∧ Pv (i + 1) (upd H5 D (.dT (putK kvs k z))))
    (hd : ∀ H, Pv xs.length H → Qd H) :
    ∃ W : Nat → Nat → Hp → Prop, (∃ m, W 0 m (upd H1 D (.dT []))) ∧ ∀ i m H, W i m H →
      ((Itl K a).stop i H ∧ Qd H) ∨ ((Itl K a).go i H ∧ ∃ N : Hp → Prop, (∀ H', N H' → ∃ m', m' < m ∧ W (i + 1) m' H') ∧ ∀ x H', (Itl K a).yld i H x H' → g x (wipe σ vs) H' fun σ2 H2 => wipe σ2 vs = wipe σ vs ∧
        tk σ2 H2 fun y H4 => tv σ2 H4 fun z H5 => ∃ kvs k b, y = .ref b ∧ H5 b = some (.tup (k.map kV)) ∧ H5 D = some (.dT kvs) ∧ kvs.length < sizeLine ∧ N (upd H5 D (.dT (putK kvs k z)))) := by
  refine ⟨fun i m H => m = xs.length - i ∧ i ≤ xs.length ∧ Pv i H, ⟨xs.length, rfl, Nat.zero_le _, h0⟩, ?_⟩
  intro i m H ⟨em, hi, p⟩
  have stand := hl i H hi p
  rcases Nat.lt_or_ge i xs.length with lt | ge
  · refine .inr ⟨⟨xs, xs[i], stand, List.getElem?_eq_getElem lt⟩, Pv (i + 1), fun H' p' => ⟨xs.length - (i + 1), by omega, rfl, lt, p'⟩, fun x H' y => ?_⟩
    obtain ⟨rfl, y⟩ := y
    exact hs i x _ (y xs stand) p
  · have e : i = xs.length := Nat.le_antisymm hi ge
    subst e
    exact .inl ⟨⟨xs, stand, Nat.le_refl _⟩, hd H p⟩
end
end Au
/-! Authsync: further rules: setdefault with tuples as keys, attributes as targets. -/
namespace Au
open PySem PySem.Spec PyProof.Rows L2
/-- d.setdefault(y, z), the keys of d tuples -/
def tDSetdT (td ty tx : TE) : TE := fun σ H Q => td σ H fun x H1 => ∃ a, x = .ref a ∧ IsD H1 a ∧ ty σ H1 fun y H2 => tx σ H2 fun z H3 => ∃ (kvs : List (List Key × V)) (k : List Key) (b : Addr), H3 a = some (.dT kvs) ∧ y = .ref b ∧ H3 b = some (.tup (k.map kV)) ∧ kvs.length < sizeLine ∧
  ∃ PRE : V → Hp → Prop, (∀ v, valV kvs k = some v → PRE v H3) ∧ (valV kvs k = none → PRE z (upd H3 a (.dT (putK kvs k z)))) ∧ ∀ v H5, PRE v H5 → Q v H5
section
variable {X : Cx} {o e f : Expr} {td ty tx : TE} {apos cpos : Pos}
theorem pe_dsetdT (hu : X.A.units + 1 < cLine) (ho : PE X o td) (he : PE X e ty) (hf : PE X f tx) (m : M2 X o "setdefault" apos e f cpos) : PE X (.Call (.Attribute o "setdefault" apos) [e, f] [] cpos) (tDSetdT td ty tx) := by
  refine ⟨fun pins s σ H Q I h => ?_⟩
  refine wpAny_Call_method m.base m.few m.line PySem.F.plainAttrs_dict PySem.F.slot_dict_setdefault PySem.F.type_dict_setdefault ?_
  refine thn (ho.run pins s σ H _ I h) fun u s1 h1 => ?_
  obtain ⟨x, H1, I1, rx, a, rfl, d, q1⟩ := h1
  obtain rfl : u = Value.ref a := rx
  obtain ⟨t1, t2, _⟩ := isD_at I1 d
  refine ⟨t1, t2, ?_⟩
  rw [m.trees]
  refine Calls.callWith_builtin rfl (Calls.evalArgs_plain (Calls.spliced_cons ?_))
  refine thn (he.run pins s1 σ H1 _ I1 q1) fun iv s2 h2 => Calls.spliced_cons ?_
  obtain ⟨y, H2, I2, ry, q2⟩ := h2
  refine thn (hf.run pins s2 σ H2 _ I2 q2) fun fv s3 h3 => Calls.spliced_nil ?_
  obtain ⟨z, H3, I3, rz, kvs, k, b, ea, rfl, eb, hl, PRE, p3, p4, pq⟩ := h3
  have q3 := fun v e => pq v _ (p3 v e)
  have q4 := fun e => pq z _ (p4 e)
  obtain rfl : iv = Value.ref b := ry
  obtain ⟨_, hd, xs, rel, dd⟩ := dt_of I3.hok ea
  have hx : kvs.length = xs.length := Paired.length rel
  have hlp : (putK kvs k z).length ≤ kvs.length + 1 := length_putK kvs k z
  have hrel := KT.val rel k
  refine call_setdefault_heap (hsz := by omega) (knd := tupleKind (mixKind X.prog X.w)) (tupleKind_room_in1 hu) (key_of I3.hok eb) hd dd (fun p hp => ?_) fun hn h' dd' same => ?_
  · rw [hp] at hrel
    cases q0 : valV kvs k with
    | none => rw [q0] at hrel; exact (show False from hrel).elim
    | some v => rw [q0] at hrel; exact ⟨v, H3, I3.tok _, hrel, q3 v q0⟩
  · rw [hn] at hrel
    cases q0 : valV kvs k with
    | some v => rw [q0] at hrel; exact (show False from hrel).elim
    | none =>
      obtain ⟨q, es, ep, hq, g2, g3, g4, _, g5⟩ := dd'
      have kt : KT (upd H3 a (.dT (putK kvs k z))) (putK kvs k z) (storedH xs k b fv) := (rel.put k eb rz).keeps fun c ys ec => o2 ec (ne_of ec ea fun z => by cases z)
      exact ⟨z, upd H3 a (.dT (putK kvs k z)), d_write I3 (by rw [ea]; trivial) same ⟨q, hq⟩ ⟨by omega, hd, _, kt, q, es, ep, hq, g2, g3, g4, g5⟩, rz, q4 q0⟩
end
/-- o.f = .. as a target -/
def gFld (K : PySem.W.Frag) (to : TE) (f : Str) : TG := fun v σ H Q => to σ H fun x H1 => ∃ a C dx fs, x = .ref a ∧ H1 a = some (.ins C dx fs) ∧ Cls K C ∧ NoAttr K C f ∧ fs.length < 1000 ∧ Q σ (upd H1 a (.ins C dx (putF f v fs)))
theorem pg_fld {X : Cx} {o : Expr} {f : Str} {pos : Pos} {to : TE} (ho : PE X o to)
    (ha : ∀ v, assign (.Attribute o f pos) X.env v = (do let ov ← holding [v] (eval o X.env); standAt pos.atName; holding [v, ov] (setAttr ov f v); release [v, ov] []) := by intro _; rfl) : PG X (.Attribute o f pos) (gFld X.K to f) := by
  refine ⟨fun pins s σ H v u Q I r h => ?_⟩
  rw [ha]
  refine wpAny_bind (wpAny_holding (thn (ho.run pins s σ H _ I h) fun ov s1 h1 => ?_))
  obtain ⟨x, H1, I1, r1, a, C, dx, fs, rfl, e, c, n, l, q⟩ := h1
  obtain rfl : ov = Value.ref a := r1
  refine wpAny_bind (wpAny_standAt (wpAny_bind (wpAny_holding ?_)))
  refine setattr_ok I1 e c n l r fun s2 I2 => ?_
  exact wpAny_release ⟨σ, _, I2, q⟩
end Au
/-! Authsync: min(xs, default=d), max(xs, default=d) of whole numbers. -/
namespace Au
open PySem PySem.Spec PyProof.Rows L2
theorem ints_reads {h : Heap} : ∀ {ns : List Int} {its : List Value}, Vals (ns.map V.int) its → ReadsAll h its (ns.map .int) []
  | [], _, .nil => .nil
  | n :: ns, _, .cons ⟨t, e⟩ r => by
    subst e
    exact ReadsAll.cons (as := []) (bs := []) (Reads.int n t) (ints_reads r)
theorem ints_alike (ns : List Int) : PySem.W.AlikeAll (ns.map PyData.int) := ⟨fun x hx y hy => by
    obtain ⟨a, _, rfl⟩ := List.mem_map.mp hx
    obtain ⟨b, _, rfl⟩ := List.mem_map.mp hy
    simp [PySem.W.alike], fun x hx => by
    obtain ⟨a, _, rfl⟩ := List.mem_map.mp hx
    intro z
    cases z⟩
theorem ints_depth : ∀ ns : List Int, PyData.depthAll (ns.map PyData.int) = 0
  | [] => by simp [PyData.depthAll]
  | n :: ns => by
    show PyData.depthAll (.int n :: ns.map .int) = 0
    rw [PyData.depthAll, ints_depth ns]
    simp [PyData.depth]
def rMinD (K : PySem.W.Frag) : List V → List V → Hp → VK → Prop := fun vs zs H Q => ∃ (a : Addr) (ns : List Int) (d : V), vs = [.ref a] ∧ zs = [d] ∧ SqL K H a (ns.map V.int) ∧ (ns = [] → Q d H) ∧ ∀ n r, ns = n :: r → Q (.int (r.foldl min n)) H
def rMaxD (K : PySem.W.Frag) : List V → List V → Hp → VK → Prop := fun vs zs H Q => ∃ (a : Addr) (ns : List Int) (d : V), vs = [.ref a] ∧ zs = [d] ∧ SqL K H a (ns.map V.int) ∧ (ns = [] → Q d H) ∧ ∀ n r, ns = n :: r → Q (.int (r.foldl max n)) H
theorem reads_int_is {h : Heap} {v : Value} {i : Int} {bs : List Addr} (r : Reads h v (.int i) bs) : RelV (.int i) v := by
  cases r
  exact ⟨_, rfl⟩
section
variable {X : Cx}
theorem cr_minD (hc : X.calm = true) (hu : X.A.units + 64 < cLine) : CallRK X (.builtin "min") [Str.ofString "default"] (rMinD X.K) := by
  intro pins s σ H vs zs us ws Q I r rz h
  obtain ⟨a, ns, d, rfl, rfl, hs, h0, h1⟩ := h
  rw [Vals.ref1 r]
  obtain ⟨dv, rfl, rd⟩ := vals1 rz
  obtain ⟨its, rv, hl, hz⟩ := I.list hs
  refine PySem.W.min_list_default (I.ok.hd hc) hl.isList (ints_reads rv) (ints_alike ns) (by rw [ints_depth]; omega) (fun e h' tk kp => ?_) fun y ys i v h' tk bs e _ rr kp => ?_
  · have e' : ns = [] := by cases ns with
      | nil => rfl
      | cons => cases e
    exact ⟨d, H, I.kept kp, rd, h0 e'⟩
  · cases ns with
    | nil => cases e
    | cons n r =>
      injection e with e1 e2
      subst e1 e2
      rw [PySem.W.minD_ints] at rr
      exact ⟨_, H, I.kept kp, reads_int_is rr, h1 n r rfl⟩
theorem cr_maxD (hc : X.calm = true) (hu : X.A.units + 64 < cLine) : CallRK X (.builtin "max") [Str.ofString "default"] (rMaxD X.K) := by
  intro pins s σ H vs zs us ws Q I r rz h
  obtain ⟨a, ns, d, rfl, rfl, hs, h0, h1⟩ := h
  rw [Vals.ref1 r]
  obtain ⟨dv, rfl, rd⟩ := vals1 rz
  obtain ⟨its, rv, hl, hz⟩ := I.list hs
  refine PySem.W.max_list_default (I.ok.hd hc) hl.isList (ints_reads rv) (ints_alike ns) (by rw [ints_depth]; omega) (fun e h' tk kp => ?_) fun y ys i v h' tk bs e _ rr kp => ?_
  · have e' : ns = [] := by cases ns with
      | nil => rfl
      | cons => cases e
    exact ⟨d, H, I.kept kp, rd, h0 e'⟩
  · cases ns with
    | nil => cases e
    | cons n r =>
      injection e with e1 e2
      subst e1 e2
      rw [PySem.W.maxD_ints] at rr
      exact ⟨_, H, I.kept kp, reads_int_is rr, h1 n r rfl⟩
end
end Au
/-! Authsync: == of two dicts whose keys are tuples, the values whole numbers. -/
namespace Au
open PySem PySem.Spec PyProof.Rows L2
section
variable {prog : Program} {w : World} {A : Around} {E : Value → Shared → Prop} {s : Shared} {κ : Type} [DecidableEq κ] {knd : HeapKind prog w κ}
theorem same_pairs {nm : String} {a b : Addr} {xs ys : List (κ × Addr × Value)} {Q : Bool → Shared → Prop} (hu : knd.room A) (ha : (a == sysModules) = false) (hb : (b == sysModules) = false)
    (da : s.heap.DictOfH knd a xs) (db : s.heap.DictOfH knd b ys) (hl : xs.length = ys.length) (same : κ × Addr × Value → Bool)
    (hs : ∀ x ∈ xs, ∃ i t j u q, x.2.2 = .int i t ∧ atKey ys x.1 = some (q, .int j u) ∧ same x = (i == j)) (h : Q (xs.all same) s) : wpAny (model prog w) A (Builtin.Dict.samePairs nm a b) Q E s := by
  obtain ⟨oa, es, ep, hoa, _, hda, hea, hia, _⟩ := da
  obtain ⟨ob, fs, ep', hob, _, hdb, heb, hib, hnb⟩ := db
  have za : es.size = xs.length := size_of_entries hea
  have zb : fs.size = ys.length := size_of_entries heb
  unfold Builtin.Dict.samePairs Builtin.Dict.showsAll
  rw [if_neg (show ¬ (a == sysModules) = true by rw [ha]; exact Bool.false_ne_true), if_neg (show ¬ (b == sysModules) = true by rw [hb]; exact Bool.false_ne_true)]
  refine wpAny_bind (wpAny_pure (wpAny_bind (wpAny_pure (wpAny_bind (wpAny_dictEntries hoa hda ?_)))))
  refine wpAny_bind (wpAny_dictEntries hob hdb ?_)
  rw [if_neg (by rw [za, zb, hl]; simp)]
  refine wpAny_bind (wpAny_dictEpoch hoa hda (wpAny_bind ?_))
  rw [Std.Legacy.Range.forIn_eq_forIn_range']
  simp only [Std.Legacy.Range.size, Nat.sub_zero, Nat.add_sub_cancel, Nat.div_one]
  refine wpAny_forIn_list _
    (fun rest q s' => s' = s ∧ q = (none, ()) ∧ ∃ i, rest = List.range' i (es.size - i) ∧ i ≤ es.size ∧ (xs.take i).all same = true) _ ?_ ?_ _ _ ⟨rfl, rfl, 0, by simp, Nat.zero_le _, rfl⟩
  · rintro n rest q s' ⟨rfl, rfl, i, hr, hi, hpre⟩
    have lt : i < es.size := by
      rcases Nat.lt_or_ge i es.size with z | z
      · exact z
      · rw [Nat.sub_eq_zero_of_le z] at hr
        cases hr
    have split : List.range' i (es.size - i) = i :: List.range' (i + 1) (es.size - (i + 1)) := by
      rw [show es.size - i = (es.size - (i + 1)) + 1 by omega, List.range'_succ]
    rw [split] at hr
    injection hr with hn hrest
    subst hn
    have ltx : n < xs.length := by omega
    obtain ⟨x, hx⟩ : ∃ x, xs[n]? = some x := ⟨xs[n], List.getElem?_eq_getElem ltx⟩
    have mem : x ∈ xs := List.mem_of_getElem? hx
    have ent : es[n]? = some (entryOfKey knd x) := by rw [entry_at hea n, hx]; rfl
    obtain ⟨vi, ti, vj, uj, q, e1, e2, e3⟩ := hs x mem
    have step : xs.take (n + 1) = xs.take n ++ [x] := by rw [List.take_add_one, hx]; rfl
    refine wpAny_bind (wpAny_dictEntries hoa hda ?_)
    rw [ent]
    show wpAny _ _ (holding [(Value.ref x.2.1), x.2.2] _ >>= _) _ _ _
    refine wpAny_bind (wpAny_holding (wpAny_bind (wpAny_dictFind_heap hu (hia x mem) hob hdb heb hib hnb (fun hno => ?_) fun j p hj => ?_)))
    · rw [atKey_none_of_get hno] at e2
      cases e2
    · have e4 := atKey_of_get hnb hj
      rw [e2] at e4
      obtain rfl := Option.some.inj e4
      refine wpAny_bind (wpAny_dictEntries hob hdb ?_)
      rw [entry_at heb j, hj]
      show wpAny _ _ (holding [Value.int vj uj] (eqBool x.2.2 (.int vj uj))) _ _ _
      rw [e1]
      refine wpAny_holding (wpAny_eqBool_int ?_)
      cases hij : (vi == vj) with
      | false =>
        rw [if_pos (by decide)]
        refine wpAny_pure (wpAny_pure ?_)
        have : xs.all same = false := by
          rw [List.all_eq_false]
          exact ⟨x, mem, by rw [e3, hij]; decide⟩
        rw [this] at h
        exact h
      | true =>
        rw [if_neg (by decide)]
        refine wpAny_bind (wpAny_dictEpoch hoa hda ?_)
        rw [if_neg (by simp)]
        refine wpAny_pure ⟨rfl, rfl, n + 1, hrest, lt, ?_⟩
        rw [step, List.all_append, hpre, List.all_cons, e3, hij]
        rfl
  · rintro q s' ⟨rfl, rfl, i, hr, hi, hpre⟩
    have full : i = es.size := by
      rcases Nat.lt_or_ge i es.size with z | z
      · rw [show es.size - i = (es.size - (i + 1)) + 1 by omega, List.range'_succ] at hr
        cases hr
      · omega
    refine wpAny_pure ?_
    rw [full, za, List.take_length] at hpre
    rw [hpre] at h
    exact h
theorem eq_dictT {a b : Addr} {xs ys : List (κ × Addr × Value)} {Q : Value → Shared → Prop} (hu : knd.room A.in1) (hu' : A.units < cLine) (ha : (a == sysModules) = false) (hb : (b == sysModules) = false)
    (da : s.heap.DictOfH knd a xs) (db : s.heap.DictOfH knd b ys) (hl : xs.length = ys.length) (same : κ × Addr × Value → Bool)
    (hs : ∀ x ∈ xs, ∃ i t j u q, x.2.2 = .int i t ∧ atKey ys x.1 = some (q, .int j u) ∧ same x = (i == j)) (h : Q (.bool (xs.all same)) s) : wpAny (model prog w) A (compareOp .Eq (.ref a) (.ref b)) Q E s := by
  refine wpAny_richCompare_same_room (op := .Eq) da.typeIs db.typeIs PySem.F.slot_dict_eq (wpAny_call_entry PySem.F.slot_dict_eq da.typeIs PySem.F.entry_dict_eq ?_ (PySem.F.args_dict_eq_2 _ _)) hu'
  show wpAny _ _ (Builtin.Dict.dictSlotArgs "__eq__" ⟨[.ref a, .ref b], []⟩ >>= _) _ _ s
  unfold Builtin.Dict.dictSlotArgs
  refine wpAny_bind (wpAny_bind (wpAny_notOrdered_dict da.typeIs ?_))
  show wpAny _ _ (pure (Value.ref a, Value.ref b)) _ _ s
  refine wpAny_pure (wpAny_bind (wpAny_isInstance (T := "dict") db.typeIs PySem.F.sub_dict_dict ?_))
  simp only [Bool.not_true, Bool.false_eq_true, if_false]
  refine wpAny_bind (wpAny_pure (wpAny_bind (wpAny_pure (wpAny_bind (same_pairs hu ha hb da db hl same hs ?_)))))
  refine wpAny_pure ⟨_, rfl, ?_, ?_⟩
  · exact fun z => nomatch z
  · simpa using h
end
def sameI (ls : List (List Key × V)) (x : List Key × Addr × Value) : Bool := match x.2.2, valV ls x.1 with
  | .int i _, some (.int j) => i == j
  | _, _ => false
theorem all_same {H : Hp} {ls : List (List Key × V)} : ∀ {ks : List (List Key × V)} {xs : List (List Key × Addr × Value)}, KT H ks xs → (∀ p ∈ ks, ∃ i j : Int, p.2 = .int i ∧ valV ls p.1 = some (.int j)) →
    xs.all (sameI ls) = ks.all fun p => decide (valV ls p.1 = some p.2)
  | _, _, .nil, _ => rfl
  | p :: ks, x :: xs, .cons r t, h => by
    obtain ⟨r1, r2, r3⟩ := r
    obtain ⟨i, j, e1, e2⟩ := h p (List.mem_cons_self ..)
    rw [List.all_cons, List.all_cons, all_same t fun q hq => h q (List.mem_cons_of_mem _ hq)]
    rw [e1] at r3
    obtain ⟨tk, e3⟩ := r3
    have e4 : sameI ls x = (i == j) := by
      unfold sameI
      rw [e3, ← r1, e2]
    rw [e4, e2, e1]
    congr 1
    by_cases z : i = j
    · subst z
      simp
    · rw [decide_eq_false (fun q => z (V.int.inj (Option.some.inj q)).symm)]
      simpa using z
def rEqDT : R2 := fun x y H Q => ∃ a b ks ls, x = .ref a ∧ y = .ref b ∧ H a = some (.dT ks) ∧ H b = some (.dT ls) ∧ ks.length = ls.length ∧ (∀ p ∈ ks, ∃ i j : Int, p.2 = .int i ∧ valV ls p.1 = some (.int j)) ∧
  Q (.bl (ks.all fun p => decide (valV ls p.1 = some p.2))) H
theorem op_eqDT {X : Cx} (hu : X.A.units + 1 < cLine) : OpR X (compareOp .Eq) rEqDT := by
  intro pins s σ H x y v u Q I rx ry h
  obtain ⟨a, b, ks, ls, rfl, rfl, ea, eb, hlen, hp, q⟩ := h
  obtain rfl : v = Value.ref a := rx
  obtain rfl : u = Value.ref b := ry
  obtain ⟨_, ya, xs, ra, da⟩ := dt_of I.hok ea
  obtain ⟨_, yb, ys, rb, db⟩ := dt_of I.hok eb
  refine eq_dictT (knd := tupleKind (mixKind X.prog X.w)) (tupleKind_room_in1 hu) (by omega) ya yb da db (by rw [← Paired.length ra, ← Paired.length rb, hlen]) (sameI ls) (fun x hx => ?_) ⟨.bl _, H, I, rfl, ?_⟩
  · obtain ⟨p, hp', q1, q2, q3⟩ : ∃ p ∈ ks, p.1 = x.1 ∧ H x.2.1 = some (.tup (p.1.map kV)) ∧ RelV p.2 x.2.2 := by
      obtain ⟨n, hn, e⟩ := List.getElem_of_mem hx
      obtain ⟨p, e1, e2⟩ := pair_getR ra (i := n) (b := x) (by rw [List.getElem?_eq_getElem hn, e])
      exact ⟨p, List.mem_of_getElem? e1, e2⟩
    obtain ⟨i, j, e1, e2⟩ := hp p hp'
    have hv := KT.val rb x.1
    rw [← q1, e2, q1] at hv
    rw [e1] at q3
    obtain ⟨t, e3⟩ := q3
    cases e4 : atKey ys x.1 with
    | none => rw [e4] at hv; exact hv.elim
    | some z =>
      rw [e4] at hv
      obtain ⟨u, e5⟩ : ∃ u, z.2 = Value.int j u := hv
      refine ⟨i, t, j, u, z.1, e3, by rw [← e5], ?_⟩
      unfold sameI
      rw [e3, ← q1, e2]
  · rw [all_same ra hp]
    exact q
end Au
set_option maxHeartbeats 1000000
/-! Authsync: all(test for x in xs), any(test for x in xs): the generator's own turns. -/
namespace Au
open PySem PySem.Spec PyProof.Rows L2
/-- the generator expression's own context -/
abbrev gcx (X : Cx) (s : Shared) (H : Hp) (cenv : Env) (A : Around) (fp : List Addr) (pn : List (Addr × Obj)) : Cx :=
  { X with A := A, s_0 := s, H_0 := H, env := cenv, outer := X.stack, stack := cenv :: X.stack, ex := fp, fn := fun _ => false, pn := pn, xe := fun _ _ => False }
/-- between an item and the next one: only the generators' states have changed -/
structure Rest (s s' : Shared) : Prop where
  heap : s'.heap = s.heap
  os : s'.os = s.os
  bare : AllBare s'.gens
theorem rest_inv {X : Cx} {pins : List (Addr × Obj)} {σ : L2.St} {H : Hp} {s s' : Shared} (I : Inv X pins σ H s) (r : Rest s s') : Inv X pins σ H s' :=
  I.call' (ch := []) r.os (Un.kept fun b o e => by rw [r.heap]; exact e) (I.hok.kept fun b o e => by rw [r.heap]; exact e) r.bare fun b z => by cases z
/-- the generator has come to its end -/
def GEnd (X : Cx) (σ : L2.St) (Qe : Hp → Prop) : GenEnd := fun _ _ r s => r = .ok .next ∧ ∃ H, Inv X [] σ H s ∧ Qe H
/-- it hands out a truth value; with e it goes on -/
def GPro (X : Cx) (e : Bool) (Qx : Hp → Prop) : Protocol := fun _ _ v s kap => ∃ (c : Bool) (pins : List (Addr × Obj)) (σ : L2.St) (H : Hp), v = .bool c ∧ Inv X pins σ H s ∧ (c = e → ∀ s', Rest s s' → kap (.send .none) s') ∧ (c ≠ e → Qx H)
/-- what is asked of a turn -/
def GTurn (J : It) (g : TG) (te : TE) (σ : L2.St) (e : Bool) (Qe Qx : Hp → Prop) (W : Nat → Nat → Hp → Prop) : Prop := ∀ i m H, W i m H →
  (J.stop i H ∧ Qe H) ∨ (J.go i H ∧ ∃ N : Hp → Prop, (∀ H', N H' → ∃ m', m' < m ∧ W (i + 1) m' H') ∧ ∀ x H', J.yld i H x H' → g x σ H' fun σ2 H2 => (σ.length = σ2.length ∧ ∀ (j : Nat) v, σ[j]? = some (some v) → σ2[j]? = some (some v)) ∧
    te σ2 H2 fun y H3 => ∃ c, y = .bl c ∧ (c = e → N H3) ∧ (c ≠ e → Qx H3))
section
variable {X : Cx} {B : Around} {elt tg iter : Expr} {scope : Scope} {pos : Pos} {it : Addr} {fp : List Addr} {tn : Nat → Heap → Prop} {J : It} {g : TG} {te : TE} {σ : L2.St} {e : Bool} {Qe Qx : Hp → Prop} {W : Nat → Nat → Hp → Prop}
theorem seg_gturns (hA : B.over (.compLoop (.GeneratorExp elt [⟨tg, iter, [], 0⟩] scope pos) 0 (.ref it) .none X.env) [] = X.A) (hc : X.calm = true) (hx : X.xe = fun _ _ => False) (hco : X.env.scope.isCoroutine = false) (hpn : ∀ b ∈ fp, ∀ p ∈ X.pn, p.1 ≠ b) (hex : ∀ b ∈ fp, b ∈ X.ex)
    (T : Turn X.prog X.w X.K tg J fp it tn) (pg : PG X tg g) (pe : PE X elt te) (turn : GTurn J g te σ e Qe Qx W) : ∀ (m n i : Nat) (s₀ s : Shared) (H : Hp), m < n → W i m H → Inv X [] σ H s → tn i s.heap → (∀ b ∈ fp, H b = none) →
    Seg (model X.prog X.w) B (GEnd X σ Qe) (GPro X e Qx) n s₀ (.compLoop (.GeneratorExp elt [⟨tg, iter, [], 0⟩] scope pos) 0 (.ref it) .none X.env) ((model X.prog X.w).den (.compLoop (.GeneratorExp elt [⟨tg, iter, [], 0⟩] scope pos) 0 (.ref it) .none X.env)) [] s := by
  intro m
  induction m using Nat.strongRecOn with
  | ind m ih =>
    intro n i s₀ s H hmn w I st hn
    have seen : ∀ {pins : List (Addr × Obj)} {σ' : L2.St} {H' : Hp} {s' : Shared}, Inv X pins σ' H' s' → (∀ p ∈ pins, ∀ b ∈ fp, p.1 ≠ b) → (∀ b ∈ fp, H' b = none) → ∀ b ∈ fp, FpOk X pins H' b := fun {pins σ' H' s'} I' hp h' b hb =>
      ⟨h' b hb, (I'.ok.exf b (hex b hb)).1, I'.ok.exfs b (hex b hb), .inl (hex b hb), fun x c z => (I'.ok.exf b (hex b hb)).2 x c z, fun p hp' => (List.mem_append.mp hp').elim (hpn b hb p) fun z => hp p z b hb⟩
    show Seg _ B _ _ _ s₀ _ ((compTurn (.GeneratorExp elt [⟨tg, iter, [], 0⟩] scope pos) 0 (.ref it) .none X.env).onRaise (leaving X.env)) [] s
    rw [compTurn_gen, Sem.onRaise_eq_wrap]
    refine seg_bind_wrap (wpAny_standAt ?_)
    rcases turn i m H w with ⟨stop, q⟩ | ⟨go, N, hN, step⟩
    · refine seg_bind_wrap ?_
      rw [hA]
      refine wpAny_mono (T.done X rfl rfl rfl hc i [] s σ H (fun _ _ => False) I (seen I (fun p hp => by cases hp) hn) st stop) (fun r s1 hr => ?_) fun _ _ z => z.elim
      obtain ⟨rfl, I1⟩ := hr
      exact seg_end (.ok .next) ⟨rfl, H, I1, q⟩
    · refine seg_bind_wrap ?_
      rw [hA]
      refine wpAny_mono (T.item X rfl rfl rfl hc i [] s σ H (fun _ _ => False) I (seen I (fun p hp => by cases hp) hn) st go) (fun r s1 hr => ?_) fun _ _ z => z.elim
      obtain ⟨u, rfl, h1⟩ := hr
      refine seg_bind_wrap ?_
      rw [hA]
      refine wpAny_mono h1 (fun _ s2 h2 => ?_) fun _ _ z => z.elim
      obtain ⟨x, H2, I2, r2, y2, st2, n2⟩ := h2
      have I2' := I2.pinned (seen I2 (fun p hp => by cases hp) n2) (T.obj _ _ st2)
      refine seg_bind_wrap ?_
      rw [hA]
      refine wpAny_mono (pg.run _ s2 σ H2 x u _ I2' r2 (step x H2 y2)) (fun _ s3 h3 => ?_) fun _ _ z => by rw [hx] at z; exact z.elim
      obtain ⟨σ3, H3, I3, ⟨hl3, hw3⟩, q3⟩ := h3
      refine seg_bind_wrap ?_
      simp only [List.forIn_nil]
      refine wpAny_pure ?_
      simp only [if_true]
      have hy : ∀ v, yieldOut X.env v = yieldValue v := fun v => by simp only [yieldOut, hco, Bool.false_eq_true, if_false]
      simp only [hy]
      rw [Sem.bind_eq_wrap', Sem.bind_eq_wrap', Sem.wrap_wrap, Sem.wrap_wrap]
      refine seg_wrap ?_
      rw [hA]
      refine wpAny_mono (pe.run _ s3 σ3 H3 _ I3 q3) (fun y s4 h4 => ?_) fun _ _ z => by rw [hx] at z; exact z.elim
      obtain ⟨v, H4, I4, r4, c, rfl, ge, gx⟩ := h4
      cases r4
      obtain ⟨n', rfl⟩ : ∃ n', n = n' + 1 := ⟨n - 1, by omega⟩
      refine seg_at (seg_yield rfl rfl rfl ⟨c, _, _, H4, rfl, I4, fun hce s5 rs => ?_, gx⟩)
      obtain ⟨m', hm, w'⟩ := hN H4 (ge hce)
      have pin4 : ∀ b ∈ fp, ∀ o, s2.heap.get? b = some o → s5.heap.get? b = some o ∧ H4 b = none := fun b hb o z =>
        let p := I4.pin (b, o) (List.mem_append_right _ (List.mem_append_right _ (mem_pinsAt hb z)))
        ⟨by rw [rs.heap]; exact p.1, p.2.1⟩
      have I5 : Inv X [] σ H4 s5 := rest_inv ((I4.unpinned (pins := [])).weak hl3 fun j v z => hw3 j v z) rs
      refine seg_again rfl (ih m' hm n' (i + 1) s5 s5 H4 (by omega) w' I5 (T.keep _ _ _ st2 fun b hb o z => (pin4 b hb o z).1) fun b hb => ?_)
      obtain ⟨o, z, _⟩ := T.obj _ _ st2 b hb
      exact (pin4 b hb o z).2
theorem seg_gstart (hA : B.over (.compLoop (.GeneratorExp elt [⟨tg, iter, [], 0⟩] scope pos) 0 (.ref it) .none X.env) [] = X.A) (hc : X.calm = true) (hx : X.xe = fun _ _ => False) (hco : X.env.scope.isCoroutine = false) (hpn : ∀ b ∈ fp, ∀ p ∈ X.pn, p.1 ≠ b) (hex : ∀ b ∈ fp, b ∈ X.ex)
    (T : Turn X.prog X.w X.K tg J fp it tn) (pg : PG X tg g) (pe : PE X elt te) (turn : GTurn J g te σ e Qe Qx W) {m n : Nat} {s₀ s : Shared} {H : Hp} (hmn : m < n) (w : W 0 m H) (I : Inv X [] σ H s) (st : tn 0 s.heap) (hn : ∀ b ∈ fp, H b = none) :
    Seg (model X.prog X.w) B (GEnd X σ Qe) (GPro X e Qx) n s₀ (.compStart (.GeneratorExp elt [⟨tg, iter, [], 0⟩] scope pos) 0 (.ref it) .none X.env) ((model X.prog X.w).den (.compStart (.GeneratorExp elt [⟨tg, iter, [], 0⟩] scope pos) 0 (.ref it) .none X.env)) [] s := by
  have loop := seg_gturns hA hc hx hco hpn hex T pg pe turn m n 0 s₀ s H hmn w I st hn
  show Seg _ B _ _ _ s₀ _ ((compStart (.GeneratorExp elt [⟨tg, iter, [], 0⟩] scope pos) 0 (.ref it) .none X.env).onRaise (leaving X.env)) [] s
  unfold compStart
  rw [Sem.onRaise_eq_wrap]
  show Seg _ B _ _ _ s₀ _ ((ask >>= _).wrap _ _ _ _) [] s
  refine seg_bind_wrap (wpAny_askSetting ?_)
  split
  · exact seg_again rfl loop
  · refine seg_bind_wrap (wpAny_rule ?_)
    show Seg _ B _ _ _ s₀ _ ((standAt iter.pos >>= _).wrap _ _ _ _) [] s
    exact seg_bind_wrap (wpAny_standAt (seg_bind_wrap (T.self _ 0 s _ _ st (seg_again rfl loop))))
end
end Au
/-! Authsync: all(..), any(..) of a generator expression: who asks it, and how it is made. -/
namespace Au
open PySem PySem.Spec PyProof.Rows L2
theorem bare_set {gens : Array GenState} {g : Nat} {x : GenState} (h : AllBare gens) (hx : x.bare = true) : AllBare (gens.setIfInBounds g x) := fun y hy => by
  rcases Array.mem_or_eq_of_mem_setIfInBounds hy with z | z
  · exact h y z
  · rw [z]; exact hx
theorem bare_setGen {s : Shared} {g : Nat} {x : GenState} (h : AllBare s.gens) (hx : x.bare = true) : AllBare (s.setGen g x).gens := bare_set h hx
/-- the generator g at a stands ready -/
structure Awake (X : Cx) (B : Around) (σ : L2.St) (e : Bool) (Qe Qx : Hp → Prop) (a : Addr) (g n : Nat) (s : Shared) : Prop where
  gen : s.heap.IsGen a g
  lim : s.heap.NoLimit
  bare : AllBare s.gens
  go : ∃ gs, s.gens[g]? = some gs ∧ ∀ s', Rest s s' → gs.Goes (model X.prog X.w) B (GEnd X σ Qe) (GPro X e Qx) n (.send .none) s'
/-- what may stand behind it -/
def Over (X : Cx) (Qe Qx : Hp → Prop) (e : Bool) (R : Bool → Shared → Prop) : Prop := ∀ (pins : List (Addr × Obj)) (σ : L2.St) (H : Hp) (s s' : Shared), Inv X pins σ H s → (∀ b o, s.heap.get? b = some o → s'.heap.get? b = some o) → s'.os = s.os → AllBare s'.gens →
  (Qe H → R e s') ∧ (Qx H → R (!e) s')
section
variable {X : Cx} {A : Around} {σ : L2.St} {e : Bool} {Qe Qx : Hp → Prop} {a : Addr} {g : Nat} {go : Obj}
/-- one asking -/
theorem ask_gen {Q : Option Value → Shared → Prop} {E : Value → Shared → Prop} {n : Nat} {s : Shared} (hh : A.handled = none) (hd : A.depth < recursionLimit) (hgo : go.cls = .type "generator") (nm qn : Value) (hgd : go.data = .fields #[.int g 0, nm, qn]) (hgs : go.slots = #[])
    (hpn : (a, go) ∈ X.pn) (W : Awake X A.in1 σ e Qe Qx a g n s) (hend : ∀ H s1, Inv X [] σ H s1 → Qe H → ∀ s', (∀ b o, s1.heap.get? b = some o → s'.heap.get? b = some o) → s'.os = s1.os → AllBare s'.gens → Q none s')
    (hout : ∀ (c : Bool) pins σ' H s1 s', Inv X pins σ' H s1 → s'.heap = s1.heap → s'.os = s1.os → AllBare s'.gens → (c ≠ e → Qx H) → (c = e → ∃ n', n' < n ∧ Awake X A.in1 σ e Qe Qx a g n' s') → Q (some (.bool c)) s') :
    wpAny (model X.prog X.w) A (pyNext (.ref a)) Q E s := by
  obtain ⟨gs, e1, goes⟩ := W.go
  have rn : Rest s (s.setGen g .running) := ⟨rfl, rfl, bare_setGen W.bare rfl⟩
  have lt0 : g < s.gens.size := (Array.getElem?_eq_some_iff.mp e1).1
  refine GenW.wpAny_gsz (n := g + 1) lt0 ?_
  refine wpAny_pyNext_genexpQ (P := fun _ _ s1 => ∃ H, Inv X [] σ H s1 ∧ Qe H) hh W.lim hd W.gen e1 (goes _ rn) (fun v s1 gs' hb hv => ?_) fun s1 hp h' hk => ?_
  · intro hsz
    obtain ⟨c, pins, σ', H, rfl, I, hc, hx⟩ := hv
    refine hout c pins σ' H s1 _ I rfl rfl (bare_setGen I.bare hb) hx fun hce => ?_
    cases n with
    | zero => exact (hc hce s1 ⟨rfl, rfl, I.bare⟩).elim
    | succ n' =>
      have lt : g < s1.gens.size := by
        have z : g + 1 ≤ (s1.setGen g gs').gens.size := hsz
        rw [GenW.setGen_size] at z
        exact z
      refine ⟨n', Nat.lt_succ_self _, ⟨go, nm, qn, (I.pin (a, go) (List.mem_append_left _ hpn)).1, hgo, hgd, hgs⟩, I.nolimit, bare_setGen I.bare hb, gs', by simp [Shared.setGen, lt], fun s' r => ?_⟩
      exact hc hce s' ⟨r.heap, r.os, r.bare⟩
  · intro _
    obtain ⟨H, I, q⟩ := hp
    exact hend H s1 I q _ hk rfl (bare_setGen I.bare rfl)
theorem all_asks {R : Result → Shared → Prop} (hh : A.handled = none) (hd : A.depth < recursionLimit) (hgo : go.cls = .type "generator") (nm qn : Value) (hgd : go.data = .fields #[.int g 0, nm, qn]) (hgs : go.slots = #[]) (hpn : (a, go) ∈ X.pn)
    (Fn : Over X Qe Qx true fun b s' => R (.ok (.ret (.bool b))) s') : ∀ (n : Nat) (s : Shared), Awake X A.in1.in1 σ true Qe Qx a g n s → codeAny (model X.prog X.w) A (.builtin "all.loop" ⟨[.ref a], []⟩) R s := by
  intro n
  induction n using Nat.strongRecOn with
  | ind n ih =>
    intro s W
    refine codeAny_builtin PySem.F.entry_all_loop ?_
    rw [Around.under_plainId PySem.F.plain_all_loop _]
    show wpAny _ A.in1 (pyNext (.ref a) >>= _) _ _ s
    refine wpAny_bind (ask_gen (A := A.in1) hh hd hgo nm qn hgd hgs hpn W (fun H s1 I q s' k os bare => ?_) fun c pins σ' H s1 s' I eh eo bare hx hc => ?_)
    · exact wpAny_bind (wpAny_rule (wpAny_pure ((Fn [] σ H s1 s' I k os bare).1 q)))
    · refine wpAny_bind (wpAny_holding (wpAny_truthy_bool (wpAny_bind (wpAny_letGo ?_))))
      cases c with
      | true =>
        obtain ⟨n', lt, W'⟩ := hc rfl
        simp only [if_true]
        exact wpAny_pure ⟨plainId_quiet PySem.F.plain_all_loop _, ih n' lt s' W'⟩
      | false =>
        simp only [Bool.false_eq_true, if_false]
        exact wpAny_bind (wpAny_rule (wpAny_pure ((Fn pins σ' H s1 s' I (fun b o z => by rw [eh]; exact z) eo bare).2 (hx (by decide)))))
theorem any_asks {R : Result → Shared → Prop} (hh : A.handled = none) (hd : A.depth < recursionLimit) (hgo : go.cls = .type "generator") (nm qn : Value) (hgd : go.data = .fields #[.int g 0, nm, qn]) (hgs : go.slots = #[]) (hpn : (a, go) ∈ X.pn)
    (Fn : Over X Qe Qx false fun b s' => R (.ok (.ret (.bool b))) s') : ∀ (n : Nat) (s : Shared), Awake X A.in1.in1 σ false Qe Qx a g n s → codeAny (model X.prog X.w) A (.builtin "any.loop" ⟨[.ref a], []⟩) R s := by
  intro n
  induction n using Nat.strongRecOn with
  | ind n ih =>
    intro s W
    refine codeAny_builtin PySem.F.entry_any_loop ?_
    rw [Around.under_plainId PySem.F.plain_any_loop _]
    show wpAny _ A.in1 (pyNext (.ref a) >>= _) _ _ s
    refine wpAny_bind (ask_gen (A := A.in1) hh hd hgo nm qn hgd hgs hpn W (fun H s1 I q s' k os bare => ?_) fun c pins σ' H s1 s' I eh eo bare hx hc => ?_)
    · exact wpAny_bind (wpAny_rule (wpAny_pure ((Fn [] σ H s1 s' I k os bare).1 q)))
    · refine wpAny_bind (wpAny_holding (wpAny_truthy_bool (wpAny_bind (wpAny_letGo ?_))))
      cases c with
      | false =>
        obtain ⟨n', lt, W'⟩ := hc rfl
        simp only [Bool.false_eq_true, if_false]
        exact wpAny_pure ⟨plainId_quiet PySem.F.plain_any_loop _, ih n' lt s' W'⟩
      | true =>
        simp only [if_true]
        exact wpAny_bind (wpAny_rule (wpAny_pure ((Fn pins σ' H s1 s' I (fun b o z => by rw [eh]; exact z) eo bare).2 (hx (by decide)))))
end
end Au
set_option maxHeartbeats 2000000
/-! Authsync: all(test for x in xs), any(test for x in xs): the rules. -/
namespace Au
open PySem PySem.Spec PyProof.Rows L2
/-- the generator expression's frame -/
abbrev gEnv (X : Cx) (scope : Scope) (C : Addr) (code : Value) : Env := genEnv scope (cloFrom X.env.cells scope.names []) C code builtinsNs X.env
/-- its scope: its own names, what it captures -/
structure GScp (N : List Str) (sc scope : Scope) (own : List (Str × Nat)) : Prop where
  ok : BlkOk N sc scope own
  cell : ∀ y ∈ scope.names, y.2 ≠ .cell
  co : scope.isCoroutine = false
  dot : scope.names.lookup (".0" : Str) = some NameKind.local
section
variable {X : Cx} {pins : List (Addr × Obj)} {σ : L2.St} {H : Hp} {s : Shared}
theorem gcells {scope : Scope} {own : List (Str × Nat)} (G : GScp X.N X.env.scope scope own) (I : Inv X pins σ H s) : ∀ {y c}, (cloFrom X.env.cells scope.names []).lookup y = some c → X.env.cells.lookup y = some c ∧ c < s.heap.objs.size := fun {y c} h => by
  rcases cloFrom_mem (PySem.mem_of_lookup h) with hm | ⟨h1, rfl⟩
  · cases hm
  · obtain ⟨c, hc⟩ : ∃ c, X.env.cells.lookup y = some c := (G.ok.free _ h1 rfl).elim (fun z => I.ok.has _ (.inl z)) fun z => I.ok.has _ (.inr z)
    rw [hc]
    obtain ⟨w, z⟩ := I.cell _ _ hc
    exact ⟨rfl, z.lt⟩
theorem glook {scope : Scope} {own : List (Str × Nat)} (G : GScp X.N X.env.scope scope own) (I : Inv X pins σ H s) {y : Str} (hl : scope.names.lookup y = some .free) : ∃ c, (cloFrom X.env.cells scope.names []).lookup y = some c ∧ X.env.cells.lookup y = some c := by
  obtain ⟨c', e'⟩ := mem_lookup (cloFrom_has (cells := X.env.cells) (acc := []) (PySem.mem_of_lookup hl))
  exact ⟨c', e', (gcells G I e').1⟩
/-- the generator's own state as it begins -/
theorem gen_inv {scope : Scope} {own : List (Str × Nat)} {fp : List Addr} {A : Around} {code : Value} {a : Addr} {go : Obj} {m : Str → Option Value} {s' : Shared} (G : GScp X.N X.env.scope scope own) (hN : X.N.Nodup) (I : Inv X pins σ H s)
    (hfp : ∀ b ∈ fp, FpOk X pins H b ∧ b < s.heap.objs.size) (hA : A.frames = some (gEnv X scope s.heap.objs.size code :: X.stack)) (hh : A.handled = none) (ha : s.heap.objs.size < a) (kp : ∀ b o, s.heap.get? b = some o → s'.heap.get? b = some o) (ho : s'.os = s.os) (hb : AllBare s'.gens)
    (hn : s'.heap.Ns s.heap.objs.size m) (hg : s'.heap.get? a = some go) (hgc : ∀ v, go.data ≠ .cell v) : Inv (gcx X s H (gEnv X scope s.heap.objs.size code) A fp [(a, go)]) [] (wipe σ (own.map (·.2))) H s' := by
  have young : ∀ b, s.heap.objs.size ≤ b → H b = none ∧ b ∉ frs X.stack := fun b hb => ⟨I.hok.fresh hb, fun z => by
    obtain ⟨_, o, ho, _⟩ := I.stack.mem z
    exact absurd (Nat.lt_of_lt_of_le (Heap.lt_size ho) hb) (Nat.lt_irrefl _)⟩
  have okG : (gcx X s H (gEnv X scope s.heap.objs.size code) A fp [(a, go)]).Ok := by
    refine ⟨I.ok.mod, G.ok.kind, I.ok.glob, rfl, Nat.le_refl _, fun y z c e1 e2 => I.ok.inj y z c (gcells G I e1).1 (gcells G I e2).1, fun y hy => ?_, fun y c z e => (by cases z), fun _ => hh, hA, .inr ⟨rfl, rfl⟩, fun b hb => ⟨Nat.ne_of_lt (hfp b hb).2, fun y c e z => ?_⟩, I.bs, Nat.le_trans I.ok.bsz I.sz, fun b o e hb => ?_, fun b hb z => ?_, I.stack, I.stkFree⟩
    · have hy : scope.names.lookup y = some .cell ∨ scope.names.lookup y = some .free := hy
      rcases hy with hy | hy
      · exact absurd rfl (G.cell _ (PySem.mem_of_lookup hy))
      · obtain ⟨c, e, _⟩ := glook G I hy
        exact ⟨c, e⟩
    · exact (hfp b hb).1.2.2.2.2.1 y c (gcells G I e).1 z
    · rcases (hfp b hb).1.2.2.2.1 with z | z
      · exact I.ok.noex b o e z
      · exact absurd (Nat.lt_of_lt_of_le (Heap.lt_size e) (Nat.le_trans I.ok.bsz z)) (Nat.lt_irrefl _)
    · rcases List.mem_cons.mp (I.stkSub b z) with z | z
      · exact (hfp b hb).1.2.1 z
      · exact (hfp b hb).1.2.2.1 z
  refine ⟨okG, ho, hb, Un.kept kp, ⟨m, hn, fun i y v e1 e2 e3 => ?_⟩, fun y c e => ?_, (young _ (Nat.le_refl _)).1, fun y c e => I.freeC y c (gcells G I e).1, fun p hp => ?_, I.hok.kept kp, by rw [wipe_length]; exact I.len⟩
  · obtain ⟨e2, hne⟩ := wipe_some e2
    have notOwn : ¬ (scope.names.lookup y = some .local) := fun z => by
      rcases G.ok.own _ (PySem.mem_of_lookup z) (.inl rfl) with e' | e'
      · obtain ⟨p, hp, hpy⟩ := List.mem_map.mp e'
        have hpy : p.1 = y := hpy
        have e3 := G.ok.ix p hp
        rw [hpy] at e3
        exact hne (List.mem_map.mpr ⟨p, hp, nodup_ix hN e3 e1⟩)
      · exact e' (List.mem_of_getElem? e1)
    have e3 : scope.names.lookup y = some .local ∨ scope.names.lookup y = some .cell ∨ scope.names.lookup y = some .free := e3
    have hfr : scope.names.lookup y = some .free := by
      rcases e3 with z | z | z
      · exact absurd z notOwn
      · exact absurd rfl (G.cell _ (PySem.mem_of_lookup z))
      · exact z
    have capt := G.ok.free _ (PySem.mem_of_lookup hfr) rfl
    obtain ⟨m0, hn0, hl⟩ := I.loc
    obtain ⟨w, r, q⟩ := hl i y v e1 e2 (capt.elim (fun k => .inr (.inl k)) fun k => .inr (.inr k))
    refine ⟨w, r, .inr ⟨.inr hfr, ?_⟩⟩
    obtain ⟨c, h1, h2⟩ := glook G I hfr
    rcases q with ⟨k, _⟩ | ⟨_, c', e', z⟩
    · have k : X.env.scope.names.lookup y = some .local := k
      rcases capt with k' | k' <;> rw [show X.env.scope.names.lookup y = _ from k'] at k <;> cases k
    · rw [h2] at e'
      cases e'
      obtain ⟨o, ho, hd⟩ := z
      exact ⟨c, h1, o, kp _ _ ho, hd⟩
  · obtain ⟨v, o, ho, hd⟩ := I.cell y c (gcells G I e).1
    exact ⟨v, o, kp _ _ ho, hd⟩
  · have hp : p = (a, go) := by simpa using hp
    subst hp
    exact ⟨hg, (young a (Nat.le_of_lt ha)).1, Nat.ne_of_gt ha, (young a (Nat.le_of_lt ha)).2, hgc⟩
end
section
variable {X : Cx} {pins : List (Addr × Obj)} {σ : L2.St} {H : Hp} {s : Shared} {e : Bool}
/-- what the reading of all(..), any(..) asks -/
def tGen (e : Bool) (P : Addr) (wi : TI) (g : TG) (te : TE) (vs : List Nat) : TE := fun σ H Q => wi σ H fun J H1 => GxR.TabG H1 P ∧ ∃ (W : Nat → Nat → Hp → Prop) (Qe Qx : Hp → Prop), (∀ H2, GxR.Tabbed P H1 H2 → ∃ m, W 0 m H2) ∧ GTurn J g te (wipe σ vs) e Qe Qx W ∧ (∀ H', Qe H' → Q (.bl e) H') ∧ ∀ H', Qx H' → Q (.bl (!e)) H'
/-- a generator that is made, and how it may be asked -/
def Made (X : Cx) (pins : List (Addr × Obj)) (σ : L2.St) (e : Bool) (Q : VK) (a : Addr) (s : Shared) : Prop := ∃ (X' : Cx) (σ' : L2.St) (Qe Qx : Hp → Prop) (g n : Nat) (go : Obj) (nm qn : Value), X'.prog = X.prog ∧ X'.w = X.w ∧ go.cls = .type "generator" ∧ go.data = .fields #[.int g 0, nm, qn] ∧ go.slots = #[] ∧ (a, go) ∈ X'.pn ∧
  Awake X' X.A.in1.in1 σ' e Qe Qx a g n s ∧ Over X' Qe Qx e fun b s' => EP X pins σ Q (.bool b) s'
theorem gen_made {c P : Addr} {elt tg iter : Expr} {scope : Scope} {gpos : Pos} {own : List (Str × Nat)} {wi : TI} {g : TG} {te : TE} {k : Nat} {Q : VK} {Q' : Value → Shared → Prop} (hr : Room (k + 1) X.A) (TB : GxR.TabB X.base X.mg c P) (hcode : X.env.code = .ref c)
    (G : GScp X.N X.env.scope scope own) (hN : X.N.Nodup) (hc : X.calm = true) (hi : PI X tg iter wi)
    (pg : ∀ (s : Shared) (H : Hp) (C : Addr) (code : Value) (A : Around) (fp : List Addr) (pn : List (Addr × Obj)), Room k A → PG (gcx X s H (gEnv X scope C code) A fp pn) tg g)
    (pe : ∀ (s : Shared) (H : Hp) (C : Addr) (code : Value) (A : Around) (fp : List Addr) (pn : List (Addr × Obj)), Room k A → PE (gcx X s H (gEnv X scope C code) A fp pn) elt te)
    (hs : ∀ v, genFold iter X.env v = pure v) (I : Inv X pins σ H s) (h : tGen e P wi g te (own.map (·.2)) σ H Q) (hQ : ∀ a s5, Made X pins σ e Q a s5 → Q' (.ref a) s5) :
    wpAny (model X.prog X.w) X.A (eval (.GeneratorExp elt [⟨tg, iter, [], 0⟩] scope gpos) X.env) Q' X.xe s := by
  have cells : ∀ y ∈ scope.names, y.2 = .free → ∃ c, X.env.cells.lookup y.1 = some c := fun y hy e => (G.ok.free y hy e).elim (fun z => I.ok.has _ (.inl z)) fun z => I.ok.has _ (.inr z)
  refine wpAny_GeneratorExp_make G.co (closure_ok cells) G.cell G.dot G.ok.kind (by have := hr.dp; omega) ?_ hs
  refine thn (hi.run pins s σ H _ I h) fun xv s1 hx => thn hx fun itv s2 h2 => ?_
  obtain ⟨it, fp, tn, J, H1, rfl, I2, T, st2, f2, ⟨ps, hP, ht⟩, W, Qe, Qx, w0, turn, qe, qx⟩ := h2
  have hPs : s2.heap.get? P = some { cls := .none, data := .fields ps } := I2.hok P _ hP
  have cd : PySem.W.CodeHd s2.heap c P := TB.code.keeps fun b u e => I2.bk b u e
  have cont : ∀ (code : Value) (h3 : Heap) (tk : Nat) (ps' : Array Value), Heap.ExtBut P s2.heap h3 → s2.heap.objs.size ≤ h3.objs.size → h3.get? P = some { cls := .none, data := .fields ps' } → (∃ more, ps' = ps ++ more) → TriplesOk ps'.toList →
      wpAny (model X.prog X.w) X.A (builtinsFor X.env.globals X.env.builtins) (fun bi s4 => ∀ h', h'.Ns s4.heap.objs.size (fun y => if y = ".0" then some (Value.ref it) else none) → Heap.SameBut s4.heap.objs.size (s4.heap.push { cls := .type "frame", data := .dict #[] }) h' →
          Q' (.ref h'.objs.size) { s4 with
            gens := s4.gens.push (.fresh (.compStart (.GeneratorExp elt [⟨tg, iter, [], 0⟩] scope gpos) 0 (.ref it) .none (genEnv scope (cloFrom X.env.cells scope.names []) s4.heap.objs.size code bi X.env))),
            toks := s4.toks + 1 + 1 + 1,
            heap := h'.push { cls := .type "generator", data := .fields #[.int s4.gens.size 0, .str "<genexpr>" (s4.toks + 1), .str (X.env.qual ++ "<genexpr>") (s4.toks + 1 + 1)] } }) X.xe { s2 with heap := h3, toks := tk } := by
    intro code h3 tk ps' hx hsz hP3 ⟨more, em⟩ ht3
    subst em
    obtain ⟨bm, ob, e1, e2, e3, e4, e5, e6, e7, e8⟩ := TB.bm
    have keep3 : ∀ b u, b ≠ P → s2.heap.get? b = some u → h3.get? b = some u := fun b u hb e => hx b u hb e
    refine wpAny_builtinsFor (m := X.mg) (by rw [I2.ok.glob]; exact (I2.mod.glob.keeps I2.bk).extBut hx TB.gP) e1 e2 (keep3 _ _ e4 (I2.bk _ _ e5)) e6 e7 e8 ?_
    intro h' hn' sb'
    have I3 : Inv X pins σ (upd H1 P (.tbl (ps ++ more))) { s2 with heap := h3, toks := tk } := GxR.inv_tab (g' := s2.gens) (d' := s2.drawn) I2 hP keep3 hP3 I2.bare
    have tabd : GxR.Tabbed P H1 (upd H1 P (.tbl (ps ++ more))) := ⟨⟨_, upd_same, ht3⟩, fun b hb => upd_ne hb⟩
    generalize hs4 : ({ s2 with heap := h3, toks := tk } : Shared) = s4 at I3 hn' sb' ⊢
    have eh4 : s4.heap = h3 := by rw [← hs4]
    have eo4 : s4.os = s2.os := by rw [← hs4]
    generalize hH2 : upd H1 P (.tbl (ps ++ more)) = H2 at I3 tabd
    have zC : h'.objs.size = s4.heap.objs.size + 1 := by rw [sb'.1, Heap.size_push]
    have kp : ∀ b o, s4.heap.get? b = some o → h'.get? b = some o := fun b o z => sb'.extBut b o (Nat.ne_of_lt (Heap.lt_size z)) (Heap.get?_push_of_some _ z)
    have nP : ∀ b ∈ fp, b ≠ P := fun b hb z => by
      have q := (f2 b hb).1
      rw [z, hP] at q
      cases q
    have st4 : tn 0 s4.heap := T.keep _ _ _ st2 fun b hb o z => by rw [eh4]; exact keep3 b o (nP b hb) z
    have hfp : ∀ b ∈ fp, FpOk X pins H2 b ∧ b < s4.heap.objs.size := fun b hb => by
      obtain ⟨o, z, _⟩ := T.obj _ _ st4 b hb
      refine ⟨⟨?_, (f2 b hb).2⟩, Heap.lt_size z⟩
      rw [tabd.2 b (nP b hb)]
      exact (f2 b hb).1
    obtain ⟨m0, w0'⟩ := w0 H2 tabd
    -- the generator's object, its frame's around
    generalize hgo : ({ cls := .type "generator", data := .fields #[.int s4.gens.size 0, .str "<genexpr>" (s4.toks + 1), .str (X.env.qual ++ "<genexpr>") (s4.toks + 1 + 1)] } : Obj) = go
    have g1 : go.cls = .type "generator" := by rw [← hgo]
    have g2 : go.data = .fields #[.int s4.gens.size 0, .str "<genexpr>" (s4.toks + 1), .str (X.env.qual ++ "<genexpr>") (s4.toks + 1 + 1)] := by rw [← hgo]
    have g3 : go.slots = #[] := by rw [← hgo]
    have atGo : (h'.push go).get? h'.objs.size = some go := by rw [← hgo]; exact Heap.get?_push_size _ rfl
    have kp5 : ∀ b o, s4.heap.get? b = some o → (h'.push go).get? b = some o := fun b o z => Heap.get?_push_of_some _ (kp b o z)
    have hB : (X.A.in1.in1.over (.compLoop (.GeneratorExp elt [⟨tg, iter, [], 0⟩] scope gpos) 0 (.ref it) .none (gEnv X scope s4.heap.objs.size code)) []).frames = some (gEnv X scope s4.heap.objs.size code :: X.stack) := by
      have z : X.A.in1.in1.frames = some X.stack := I.ok.frames
      unfold Around.over
      rw [z]
      rfl
    have rA : Room k (X.A.in1.in1.over (.compLoop (.GeneratorExp elt [⟨tg, iter, [], 0⟩] scope gpos) 0 (.ref it) .none (gEnv X scope s4.heap.objs.size code)) []) := by
      have d1 : (X.A.in1.in1.over (.compLoop (.GeneratorExp elt [⟨tg, iter, [], 0⟩] scope gpos) 0 (.ref it) .none (gEnv X scope s4.heap.objs.size code)) []).depth ≤ X.A.depth + 1 := Nat.le_of_eq rfl
      have d2 : (X.A.in1.in1.over (.compLoop (.GeneratorExp elt [⟨tg, iter, [], 0⟩] scope gpos) 0 (.ref it) .none (gEnv X scope s4.heap.objs.size code)) []).units ≤ X.A.units + 5 := Nat.le_of_eq rfl
      have := hr.dp
      have := hr.un
      exact ⟨hr.hd, by omega, by omega⟩
    have start : ∀ s6 : Shared, s6.heap = h'.push go → s6.os = s4.os → AllBare s6.gens → Inv (gcx X s4 H2 (gEnv X scope s4.heap.objs.size code) (X.A.in1.in1.over (.compLoop (.GeneratorExp elt [⟨tg, iter, [], 0⟩] scope gpos) 0 (.ref it) .none (gEnv X scope s4.heap.objs.size code)) []) fp [(h'.objs.size, go)]) [] (wipe σ (own.map (·.2))) H2 s6 := fun s6 z1 z2 z3 =>
      gen_inv G hN I3 hfp hB rA.hd (by rw [zC]; exact Nat.lt_succ_self _) (fun b o q => by rw [z1]; exact kp5 b o q) z2 z3 (by rw [z1]; exact hn'.push _) (by rw [z1]; exact atGo) fun v q => by rw [g2] at q; cases q
    have b5 : AllBare (s4.gens.push (.fresh (.compStart (.GeneratorExp elt [⟨tg, iter, [], 0⟩] scope gpos) 0 (.ref it) .none (gEnv X scope s4.heap.objs.size code)))) := I3.bare.push rfl
    refine hQ h'.objs.size _ ⟨gcx X s4 H2 (gEnv X scope s4.heap.objs.size code) (X.A.in1.in1.over (.compLoop (.GeneratorExp elt [⟨tg, iter, [], 0⟩] scope gpos) 0 (.ref it) .none (gEnv X scope s4.heap.objs.size code)) []) fp [(h'.objs.size, go)], wipe σ (own.map (·.2)), Qe, Qx, s4.gens.size, m0 + 1, go, _, _, rfl, rfl, g1, g2, g3, List.mem_singleton.mpr rfl, ⟨⟨go, _, _, atGo, g1, g2, g3⟩, I3.nolimit.keeps kp5, b5, _, Array.getElem?_push_size .., fun s6 r => ⟨rfl, ?_⟩⟩, fun pins' σ' H' s6 s7 I6 k67 o67 b67 => ?_⟩
    · have I6 := start s6 r.heap r.os r.bare
      refine seg_gstart (X := gcx X s4 H2 (gEnv X scope s4.heap.objs.size code) (X.A.in1.in1.over (.compLoop (.GeneratorExp elt [⟨tg, iter, [], 0⟩] scope gpos) 0 (.ref it) .none (gEnv X scope s4.heap.objs.size code)) []) fp [(h'.objs.size, go)]) rfl hc rfl G.co (fun b hb p hp => ?_) (fun b hb => hb) T (pg _ _ _ _ _ _ _ rA) (pe _ _ _ _ _ _ _ rA) turn (Nat.lt_succ_self m0) w0' I6 (T.keep _ _ _ st4 fun b hb o q => by rw [r.heap]; exact kp5 b o q) fun b hb => (hfp b hb).1.1
      have hp : p = (h'.objs.size, go) := by simpa using hp
      rw [hp]
      exact Nat.ne_of_gt (Nat.lt_trans (hfp b hb).2 (by rw [zC]; exact Nat.lt_succ_self _))
    · have back : Inv X pins σ H' s7 := I3.call' (ch := fp) (o67.trans I6.os) ((I6.base : Un (frs X.stack) fp H2 H' s4.heap s6.heap).trans (Un.kept k67)) (I6.hok.kept k67) b67 fun b hb => ⟨(hfp b hb).1.2.2.2.1, (hfp b hb).1.2.1, (hfp b hb).1.2.2.2.2.1, (hfp b hb).1.2.2.2.2.2⟩
      exact ⟨fun q => ⟨.bl e, H', back, rfl, qe H' q⟩, fun q => ⟨.bl (!e), H', back, rfl, qx H' q⟩⟩
  refine ⟨I2.nolimit, ?_⟩
  cases hf : codeAmong gpos ps.toList with
  | none =>
    refine wpAny_genexprCodeX hcode (cd.code hPs ht) (cd.tab hPs) hf fun c' h' tk hx hge hlt hco' _ htab' _ => ?_
    obtain ⟨o1, vs, f1, tf, fl, tg, inF, tx, tt, op, _, _, _, _, _, _, _, _, _, htr, _⟩ := hco'
    exact cont _ h' tk _ hx (Nat.le_trans hge (Nat.le_of_lt hlt)) htab'.2 ⟨_, rfl⟩ htr
  | some cv =>
    refine wpAny_genexprCode_hit hcode (cd.code hPs ht) hf ?_
    exact cont cv s2.heap s2.toks ps (Heap.ExtBut.refl _ _) (Nat.le_refl _) hPs ⟨#[], by simp⟩ ht
theorem pe_allG {c P : Addr} {elt tg iter : Expr} {scope : Scope} {p pos gpos : Pos} {own : List (Str × Nat)} {wi : TI} {g : TG} {te : TE} {k : Nat} (hr : Room (k + 1) X.A) (hg : Gl X "all") (hm : X.mg "all" = none) (TB : GxR.TabB X.base X.mg c P) (hcode : X.env.code = .ref c)
    (G : GScp X.N X.env.scope scope own) (hN : X.N.Nodup) (hc : X.calm = true) (hi : PI X tg iter wi)
    (pg : ∀ (s : Shared) (H : Hp) (C : Addr) (code : Value) (A : Around) (fp : List Addr) (pn : List (Addr × Obj)), Room k A → PG (gcx X s H (gEnv X scope C code) A fp pn) tg g)
    (pe : ∀ (s : Shared) (H : Hp) (C : Addr) (code : Value) (A : Around) (fp : List Addr) (pn : List (Addr × Obj)), Room k A → PE (gcx X s H (gEnv X scope C code) A fp pn) elt te)
    (hs : ∀ v, genFold iter X.env v = pure v := by intro _; rfl)
    (he : starEach [.GeneratorExp elt [⟨tg, iter, [], 0⟩] scope gpos] X.env = (false, eval (.GeneratorExp elt [⟨tg, iter, [], 0⟩] scope gpos) X.env) :: starEach [] X.env := by rfl) :
    PE X (.Call (.Name "all" p) [.GeneratorExp elt [⟨tg, iter, [], 0⟩] scope gpos] [] pos) (tGen true P wi g te (own.map (·.2))) := by
  refine ⟨fun pins s σ H Q I h => ?_⟩
  refine wpAny_Call_Name_kw (ld_blt I hg hm (by decide +kernel : bootBuiltins "all" = some (.builtin "all")) ?_)
  refine PyProof.Rows.callWith_builtin1 ?_ he (by rfl)
  rw [he]
  show wpAny _ _ (spliced ((false, eval (.GeneratorExp elt [⟨tg, iter, [], 0⟩] scope gpos) X.env) :: backTo pos (starEach [] X.env))) _ _ s
  refine Calls.spliced_cons (gen_made hr TB hcode G hN hc hi pg pe hs I h fun a s5 M => Calls.spliced_nil ?_)
  obtain ⟨X', σ', Qe, Qx, gi, n, go, nm, qn, ep, ew, g1, g2, g3, hpn, aw, ov⟩ := M
  refine call_function_tree PySem.F.kind_all PySem.F.plain_all PySem.F.entry_all (PySem.F.args_all1 _) ?_
  unfold Builtin.«all»
  refine wpAny_bind (m := oneArg "all" _) (wpAny_pure ?_)
  refine wpAny_bind (wpAny_pyIter_gen aw.gen (wpAny_pure ⟨plainId_quiet PySem.F.plain_all_loop _, ?_⟩))
  rw [← ep, ← ew]
  exact all_asks hr.hd (by have := hr.dp; omega) g1 nm qn g2 g3 hpn ov n s5 aw
theorem pe_anyG {c P : Addr} {elt tg iter : Expr} {scope : Scope} {p pos gpos : Pos} {own : List (Str × Nat)} {wi : TI} {g : TG} {te : TE} {k : Nat} (hr : Room (k + 1) X.A) (hg : Gl X "any") (hm : X.mg "any" = none) (TB : GxR.TabB X.base X.mg c P) (hcode : X.env.code = .ref c)
    (G : GScp X.N X.env.scope scope own) (hN : X.N.Nodup) (hc : X.calm = true) (hi : PI X tg iter wi)
    (pg : ∀ (s : Shared) (H : Hp) (C : Addr) (code : Value) (A : Around) (fp : List Addr) (pn : List (Addr × Obj)), Room k A → PG (gcx X s H (gEnv X scope C code) A fp pn) tg g)
    (pe : ∀ (s : Shared) (H : Hp) (C : Addr) (code : Value) (A : Around) (fp : List Addr) (pn : List (Addr × Obj)), Room k A → PE (gcx X s H (gEnv X scope C code) A fp pn) elt te)
    (hs : ∀ v, genFold iter X.env v = pure v := by intro _; rfl)
    (he : starEach [.GeneratorExp elt [⟨tg, iter, [], 0⟩] scope gpos] X.env = (false, eval (.GeneratorExp elt [⟨tg, iter, [], 0⟩] scope gpos) X.env) :: starEach [] X.env := by rfl) :
    PE X (.Call (.Name "any" p) [.GeneratorExp elt [⟨tg, iter, [], 0⟩] scope gpos] [] pos) (tGen false P wi g te (own.map (·.2))) := by
  refine ⟨fun pins s σ H Q I h => ?_⟩
  refine wpAny_Call_Name_kw (ld_blt I hg hm boot_any ?_)
  refine PyProof.Rows.callWith_builtin1 ?_ he (by rfl)
  rw [he]
  show wpAny _ _ (spliced ((false, eval (.GeneratorExp elt [⟨tg, iter, [], 0⟩] scope gpos) X.env) :: backTo pos (starEach [] X.env))) _ _ s
  refine Calls.spliced_cons (gen_made hr TB hcode G hN hc hi pg pe hs I h fun a s5 M => Calls.spliced_nil ?_)
  obtain ⟨X', σ', Qe, Qx, gi, n, go, nm, qn, ep, ew, g1, g2, g3, hpn, aw, ov⟩ := M
  refine call_function_tree PySem.F.kind_any PySem.F.plain_any PySem.F.entry_any (PySem.F.args_any1 _) ?_
  unfold Builtin.«any»
  refine wpAny_bind (m := oneArg "any" _) (wpAny_pure ?_)
  refine wpAny_bind (wpAny_pyIter_gen aw.gen (wpAny_pure ⟨plainId_quiet PySem.F.plain_any_loop _, ?_⟩))
  rw [← ep, ← ew]
  exact any_asks hr.hd (by have := hr.dp; omega) g1 nm qn g2 g3 hpn ov n s5 aw
end
/-- the turns over a walk: f tells the test's answer -/
theorem gen_it {J : It} {n : Nat} {G : Hp → Prop} {Y : Nat → Hp → V → Hp → Prop} (w : Walk J n G Y) {g : TG} {te : TE} {σ : L2.St} {e : Bool} (f : Nat → Bool) (Pv : Nat → Hp → Prop) (hG : ∀ i H, i ≤ n → Pv i H → G H)
    (hs : ∀ i x H H' (R : V → Hp → Prop), i < n → Pv i H → Y i H x H' → (∀ H3, Pv (i + 1) H3 → R (.bl (f i)) H3) → g x σ H' fun σ2 H2 => (σ.length = σ2.length ∧ ∀ (j : Nat) v, σ[j]? = some (some v) → σ2[j]? = some (some v)) ∧ te σ2 H2 R) :
    ∃ (W : Nat → Nat → Hp → Prop) (Qe Qx : Hp → Prop), (∀ H, Pv 0 H → ∃ m, W 0 m H) ∧ GTurn J g te σ e Qe Qx W ∧ (∀ H, Qe H → Pv n H ∧ ∀ i, i < n → f i = e) ∧ ∀ H, Qx H → ∃ i, i < n ∧ f i ≠ e ∧ Pv (i + 1) H := by
  refine ⟨fun i m H => m = n - i ∧ i ≤ n ∧ Pv i H ∧ ∀ j, j < i → f j = e, fun H => Pv n H ∧ ∀ i, i < n → f i = e, fun H => ∃ i, i < n ∧ f i ≠ e ∧ Pv (i + 1) H, fun H p => ⟨n, rfl, Nat.zero_le _, p, fun j hj => absurd hj (Nat.not_lt_zero _)⟩, ?_, fun H q => q, fun H q => q⟩
  intro i m H ⟨em, hi, p, hf⟩
  have q := hG i H hi p
  rcases Nat.lt_or_ge i n with lt | ge
  · refine .inr ⟨w.goes i H lt q, fun H' => Pv (i + 1) H' ∧ f i = e, fun H' p' => ⟨n - (i + 1), by omega, rfl, lt, p'.1, fun j hj => ?_⟩, fun x H' y => hs i x H H' _ lt p (w.yields i H x H' lt q y) fun H3 p3 => ⟨f i, rfl, fun ee => ⟨p3, ee⟩, fun ne => ⟨i, lt, ne, p3⟩⟩⟩
    by_cases z : j = i
    · rw [z]; exact p'.2
    · exact hf j (by omega)
  · have ei : i = n := Nat.le_antisymm hi ge
    subst ei
    exact .inl ⟨w.stops H q, p, hf⟩
theorem itb {b : Bool} {A B : Prop} (h1 : b = true → A) (h2 : b = false → B) : if b = true then A else B := by
  cases b with
  | true => exact h1 rfl
  | false => exact h2 rfl
end Au
set_option maxHeartbeats 1000000
/-! Authsync: names. -/
namespace Au
open PySem PySem.Spec PyProof.Rows L2
/-- a def whose own code object is told: it holds a generator expression -/
theorem funD_okC {P : Program} {w : World} {K : PySem.W.Frag} {mg : Str → Option Value} {base : Heap} {CX : CXT} {N ps : List Str} {k : Nat} {sp : Sp} {d : He.DefD} {fd : FuncData} (F : FunOf K d fd) (S : FnScope N ps d.scope) (len : ∀ vs H Q E, sp vs H Q E → vs.length = ps.length)
    (hbody : ∀ (A : Around) (outer : List Env) (s : Shared) (H : Hp) (vs : List V) (Q : VK) (E : XK), Room k (A.deeper (envOfC d.qual d.scope s.heap.objs.size (He.fAd K d.at_) (.ref (He.codeOf K d.at_)))) → sp vs H Q E →
      ∃ t, PSs (cxOf CX P w K mg base N d.qual d.scope (He.fAd K d.at_) (.ref (He.codeOf K d.at_)) A outer s H E) d.body t ∧ t { nx := fun _ H' => Q .non H', rt := Q } (start N vs) H) : FnOk P w K mg base CX (k + 1) (He.fAd K d.at_) fd ps sp := by
  obtain ⟨oc, od, dV, kV, doc, pm, an, cdv, ct, osl, e, lk, hcd, _, _⟩ := F.ex
  obtain ⟨c, rfl⟩ := He.codeIn_ref hcd
  have ec : He.codeOf K d.at_ = c := He.codeOf_eq lk (by rw [e])
  subst e
  refine fn_of lk hcd S len fun A outer s H vs Q E hr hsp => ?_
  rw [← ec] at hr ⊢
  exact hbody A outer s H vs Q E hr hsp
abbrev tb (K : PySem.W.Frag) (x : Str) : Addr := (He.cT K (x, none)).2
/-- the tables of the five defs stand -/
def Tabs (K : PySem.W.Frag) (H : Hp) : Prop := ∀ p ∈ tfs, GxR.TabG H (He.cT K p).2
theorem Tabs.kp {K : PySem.W.Frag} {S : Addr → Prop} {H H' : Hp} (h : Tabs K H) (k : Kp S H H') : Tabs K H' := fun p hp => k.tab _ (h p hp)
theorem Tabs.word {K : PySem.W.Frag} {H : Hp} (h : Tabs K H) : GxR.TabG H (tb K "is_word") := h _ (List.mem_cons_self ..)
theorem Tabs.token {K : PySem.W.Frag} {H : Hp} (h : Tabs K H) : GxR.TabG H (tb K "split_token") := h _ (List.mem_cons_of_mem _ (List.mem_cons_self ..))
theorem Tabs.appl {K : PySem.W.Frag} {H : Hp} (h : Tabs K H) : GxR.TabG H (tb K "applies") := h _ (List.mem_cons_of_mem _ (List.mem_cons_of_mem _ (List.mem_cons_self ..)))
theorem Tabs.dup {K : PySem.W.Frag} {H : Hp} (h : Tabs K H) : GxR.TabG H (tb K "check_duplicates") := h _ (List.mem_cons_of_mem _ (List.mem_cons_of_mem _ (List.mem_cons_of_mem _ (List.mem_cons_self ..))))
theorem Tabs.known {K : PySem.W.Frag} {H : Hp} (h : Tabs K H) : GxR.TabG H (tb K "is_known") := h _ (List.mem_cons_of_mem _ (List.mem_cons_of_mem _ (List.mem_cons_of_mem _ (List.mem_cons_of_mem _ (List.mem_cons_self ..)))))
section
variable {P : Program} {w : World} {K : PySem.W.Frag} {mg : Str → Option Value} {base : Heap}
theorem Top.tabWord (T : Top K mg base) : GxR.TabB base mg (He.codeOf K ("is_word", none)) (tb K "is_word") := T.tab _ (List.mem_cons_self ..)
theorem Top.tabToken (T : Top K mg base) : GxR.TabB base mg (He.codeOf K ("split_token", none)) (tb K "split_token") := T.tab _ (List.mem_cons_of_mem _ (List.mem_cons_self ..))
theorem Top.tabAppl (T : Top K mg base) : GxR.TabB base mg (He.codeOf K ("applies", none)) (tb K "applies") := T.tab _ (List.mem_cons_of_mem _ (List.mem_cons_of_mem _ (List.mem_cons_self ..)))
theorem Top.tabDup (T : Top K mg base) : GxR.TabB base mg (He.codeOf K ("check_duplicates", none)) (tb K "check_duplicates") := T.tab _ (List.mem_cons_of_mem _ (List.mem_cons_of_mem _ (List.mem_cons_of_mem _ (List.mem_cons_self ..))))
theorem Top.tabKnown (T : Top K mg base) : GxR.TabB base mg (He.codeOf K ("is_known", none)) (tb K "is_known") := T.tab _ (List.mem_cons_of_mem _ (List.mem_cons_of_mem _ (List.mem_cons_of_mem _ (List.mem_cons_of_mem _ (List.mem_cons_self ..)))))
/-! ### type_of -/
def ty (z : Str) : Str := (Txt.partition z ":").1
def spTypeOf : Sp := fun vs H Q _ => ∃ z : Str, vs = [.str z] ∧ z.length ≤ sizeLine ∧ ∀ H', Kp Nil H H' → Q (.str (ty z)) H'
theorem sc_type_of : FnScope ["thing"] ["thing"] (defScope s_type_of) := ⟨rfl, rfl, rfl, by decide +kernel, rfl, by decide +kernel, by decide +kernel⟩
theorem ok_type_of (T : Top K mg base) : Cal P w K mg base CX0 1 ("type_of", none) ["thing"] spTypeOf := by
  obtain ⟨fd, F⟩ := T.d_type_of
  refine ⟨⟨fd, FunD.ok F sc_type_of (fun vs H Q E h => ?_) (fun cdv A outer s H vs Q E hr h => ?_), FunD.bindsN F fun _ _ _ _ _ _ us hl => match us, hl with | [_], _ => rfl⟩, F.kp⟩
  · obtain ⟨z, rfl, _⟩ := h
    rfl
  · obtain ⟨z, rfl, hz, k⟩ := h
    refine ⟨_, pss_one (ps_ret (pe_ix ix_tup (pe_partition (pv 0) pe_str) pe_int (fun _ _ => rfl))), ?_⟩
    refine ⟨_, rfl, ⟨_, rfl⟩, _, _, rfl, rfl, by decide +kernel, hz, fun p hp => ?_⟩
    exact ⟨p, _, _, _, rfl, rfl, SqT.of upd_same, rfl, k _ (Kp.new hp)⟩
/-! ### split_reference -/
def sr (z : Str) : Str × Str := ((Txt.partition z "#").1, (Txt.partition z "#").2.2)
def spSplitRef : Sp := fun vs H Q _ => ∃ z : Str, vs = [.str z] ∧ z.length ≤ sizeLine ∧ ∀ H' p, Kp Nil H H' → H p = none → H' p = some (.tup [.str (sr z).1, .str (sr z).2]) → Q (.ref p) H'
theorem sc_split_reference : FnScope ["reference", "thing", "sign", "name"] ["reference"] (defScope s_split_reference) := ⟨rfl, rfl, rfl, by decide +kernel, rfl, by decide +kernel, by decide +kernel⟩
theorem ok_split_reference (T : Top K mg base) : Cal P w K mg base CX0 1 ("split_reference", none) ["reference"] spSplitRef := by
  obtain ⟨fd, F⟩ := T.d_split_reference
  refine ⟨⟨fd, FunD.ok F sc_split_reference (fun vs H Q E h => ?_) (fun cdv A outer s H vs Q E hr h => ?_), FunD.bindsN F fun _ _ _ _ _ _ us hl => match us, hl with | [_], _ => rfl⟩, F.kp⟩
  · obtain ⟨z, rfl, _⟩ := h
    rfl
  · obtain ⟨z, rfl, hz, k⟩ := h
    have nd := sc_split_reference.nd
    refine ⟨_, pss_cons (ps_asg (pe_partition (pv 0) pe_str) (pg_tup rfl (pgs_cons (pg_name (i := 1) nd rfl (.inl rfl)) (pgs_cons (pg_name (i := 2) nd rfl (.inl rfl)) (pgs_cons (pg_name (i := 3) nd rfl (.inl rfl)) pgs_nil)))))
      (pss_one (ps_ret (pe_tup (pa_cons (pv 1) (pa_cons (pv 3) pa_nil))))), ?_⟩
    refine ⟨_, rfl, ⟨_, rfl⟩, _, _, rfl, rfl, by decide +kernel, hz, fun p hp => ?_⟩
    refine ⟨p, _, rfl, SqT.of upd_same, rfl, _, _, rfl, _, _, rfl, _, _, rfl, rfl, ?_⟩
    refine ⟨_, rfl, _, rfl, (by show 2 ≤ sizeLine; decide), fun q hq => ?_⟩
    exact k _ q ((Kp.new hp).trans (Kp.new hq)) (f1 hq) upd_same
/-! ### token_of -/
def tokS (z : Str) (n : Int) : Str := Str.empty ++ z ++ "@" ++ (toString n : Str)
def spTokenOf : Sp := fun vs H Q _ => ∃ (z : Str) (n : Int), vs = [.str z, .int n] ∧ z.length ≤ 1000 ∧ 0 ≤ n ∧ n ≤ 1000 ∧ Q (.str (tokS z n)) H
theorem sc_token_of : FnScope ["store", "revision"] ["store", "revision"] (defScope s_token_of) := ⟨rfl, rfl, rfl, by decide +kernel, rfl, by decide +kernel, by decide +kernel⟩
theorem le_line {n : Nat} (h : n ≤ 5000) : n ≤ sizeLine := Nat.le_trans h (by decide)
theorem int_len {n : Int} (h0 : 0 ≤ n) (h1 : n ≤ 1000) : (Str.ofString (toString n)).length ≤ 5 := by
  have e := int_text_length_le10 (k := 4) (a := n) (by decide) (by omega)
  rw [PySem.ofString_length]
  omega
theorem len_empty : Str.empty.length = 0 := rfl
theorem len_at : ("@" : Str).length = 1 := by decide +kernel
theorem ok_token_of (T : Top K mg base) : Cal P w K mg base CX0 1 ("token_of", none) ["store", "revision"] spTokenOf := by
  obtain ⟨fd, F⟩ := T.d_token_of
  refine ⟨⟨fd, FunD.ok F sc_token_of (fun vs H Q E h => ?_) (fun cdv A outer s H vs Q E hr h => ?_), FunD.bindsN F fun _ _ _ _ _ _ us hl => match us, hl with | [_, _], _ => rfl⟩, F.kp⟩
  · obtain ⟨z, n, rfl, _⟩ := h
    rfl
  · obtain ⟨z, n, rfl, hz, h0, h1, k⟩ := h
    have hu := hu_of hr
    have il := int_len h0 h1
    refine ⟨_, pss_one (ps_ret (pe_joined (.cons (pe_fmt (pv 0)) (.cons pe_str (.cons (pe_fmt (pv 1)) .nil))))), ?_⟩
    refine ⟨_, rfl, .inl ⟨z, rfl, le_line (by omega), z, rfl, ?_, _, rfl, ?_, _, rfl, .inr ⟨n, rfl, ?_, _, rfl, ?_, k⟩⟩⟩
    · exact le_line (by rw [Str.length_append, len_empty]; omega)
    · exact le_line (by rw [Str.length_append, Str.length_append, len_empty, len_at]; omega)
    · exact Nat.lt_of_le_of_lt (Nat.log2_le_self _) (by omega)
    · exact le_line (by rw [Str.length_append, Str.length_append, Str.length_append, len_empty, len_at]; exact Nat.le_trans (Nat.add_le_add_left il _) (by omega))
/-! ### is_sign -/
def leS (a b : Str) : Bool := !decide (b.cps.toList < a.cps.toList)
def isSign (z : Str) : Bool := (leS "a" z && leS z "z") || (leS "0" z && leS z "9") || decide (z = "_")
def spIsSign : Sp := fun vs H Q _ => ∃ z : Str, vs = [.str z] ∧ Q (.bl (isSign z)) H
theorem sc_is_sign : FnScope ["sign"] ["sign"] (defScope s_is_sign) := ⟨rfl, rfl, rfl, by decide +kernel, rfl, by decide +kernel, by decide +kernel⟩
theorem ok_is_sign (T : Top K mg base) : Cal P w K mg base CX0 1 ("is_sign", none) ["sign"] spIsSign := by
  obtain ⟨fd, F⟩ := T.d_is_sign
  refine ⟨⟨fd, FunD.ok F sc_is_sign (fun vs H Q E h => ?_) (fun cdv A outer s H vs Q E hr h => ?_), FunD.bindsN F fun _ _ _ _ _ _ us hl => match us, hl with | [_], _ => rfl⟩, F.kp⟩
  · obtain ⟨z, rfl, _⟩ := h
    rfl
  · obtain ⟨z, rfl, k⟩ := h
    refine ⟨_, pss_one (ps_ret (pe_or (pe_chain op_le_str op_le_str pe_str (pv 0) pe_str) (pe_or (pe_chain op_le_str op_le_str pe_str (pv 0) pe_str) (pe_one (pe_cmpR op_eq (pv 0) pe_str (nomark _)))))), ?_⟩
    refine ⟨_, rfl, _, _, rfl, rfl, leS "a" z, rfl, ?_⟩
    have last : ∀ b : Bool, isSign z = (b || decide (z = "_")) → b = false → Q (.bl (decide (V.str z = V.str "_"))) H := fun b e1 e2 => by
      have e3 : decide (V.str z = V.str "_") = isSign z := by
        rw [e1, e2, Bool.false_or]
        by_cases q : z = "_"
        · rw [q]
          simp
        · rw [decide_eq_false q, decide_eq_false fun r => q (V.str.inj r)]
      rw [e3]
      exact k
    have yes : isSign z = true → Q (.bl true) H := fun e => by
      rw [e] at k
      exact k
    cases h1 : leS "a" z with
    | true =>
      refine iteT ⟨_, _, rfl, rfl, leS z "z", rfl, ?_⟩
      cases h2 : leS z "z" with
      | true => exact iteT (yes (by unfold isSign; rw [h1, h2]; rfl))
      | false =>
        refine iteF ⟨_, rfl, _, _, rfl, rfl, leS "0" z, rfl, ?_⟩
        cases h3 : leS "0" z with
        | true =>
          refine iteT ⟨_, _, rfl, rfl, leS z "9", rfl, ?_⟩
          cases h4 : leS z "9" with
          | true => exact iteT (yes (by unfold isSign; rw [h3, h4]; simp))
          | false => exact iteF ⟨_, rfl, rfl, last false (by unfold isSign; rw [h1, h2, h3, h4]; rfl) rfl⟩
        | false => exact iteF ⟨_, rfl, iteF ⟨_, rfl, rfl, last false (by unfold isSign; rw [h1, h2, h3]; rfl) rfl⟩⟩
    | false =>
      refine iteF ⟨_, rfl, iteF ⟨_, rfl, _, _, rfl, rfl, leS "0" z, rfl, ?_⟩⟩
      cases h3 : leS "0" z with
      | true =>
        refine iteT ⟨_, _, rfl, rfl, leS z "9", rfl, ?_⟩
        cases h4 : leS z "9" with
        | true => exact iteT (yes (by unfold isSign; rw [h3, h4]; simp))
        | false => exact iteF ⟨_, rfl, rfl, last false (by unfold isSign; rw [h1, h3, h4]; rfl) rfl⟩
      | false => exact iteF ⟨_, rfl, iteF ⟨_, rfl, rfl, last false (by unfold isSign; rw [h1, h3]; rfl) rfl⟩⟩
theorem iteY {b : Bool} {A B : Prop} (hb : b = true) (h : A) : if b = true then A else B := by rw [hb]; exact iteT h
theorem iteN {b : Bool} {A B : Prop} (hb : b = false) (h : B) : if b = true then A else B := by rw [hb]; exact iteF h
/-! ### is_word -/
theorem all_cps (z : Str) (f : Nat → Bool) : z.cps.toList.all f = true ↔ ∀ i, i < z.cps.size → f (z.cps.getD i 0) = true := by
  rw [List.all_eq_true]
  constructor
  · intro h i hi
    have e : z.cps.getD i 0 = z.cps[i] := by rw [Array.getD_eq_getD_getElem?, Array.getElem?_eq_getElem hi]; rfl
    rw [e]
    exact h _ (Array.getElem_mem_toList hi)
  · intro h x hx
    obtain ⟨i, hi, e⟩ := List.getElem_of_mem hx
    rw [Array.length_toList] at hi
    have e2 : z.cps.getD i 0 = x := by rw [Array.getD_eq_getD_getElem?, Array.getElem?_eq_getElem hi, ← e]; rfl
    rw [← e2]
    exact h i hi
def isWord (z : Str) : Bool := decide (1 ≤ z.length) && (decide (z.length ≤ 20) && z.cps.toList.all fun c => isSign ⟨#[c]⟩)
/-- a def that answers with a truth value of its text -/
def spTest (K : PySem.W.Frag) (f : Str → Bool) : Sp := fun vs H Q _ => ∃ z : Str, vs = [.str z] ∧ z.length ≤ sizeLine ∧ Tabs K H ∧ ∀ H', Kp Nil H H' → Q (.bl (f z)) H'
theorem sc_is_word : FnScope ["text", "sign"] ["text"] (defScope s_is_word) := ⟨rfl, rfl, rfl, by decide +kernel, rfl, by decide +kernel, by decide +kernel⟩
theorem Gscp_of {N : List Str} {sc scope : Scope} {own : List (Str × Nat)} (h : BlkOk N sc scope own) (h1 : ∀ y ∈ scope.names, y.2 ≠ .cell) (h2 : scope.isCoroutine = false) (h3 : scope.names.lookup (".0" : Str) = some NameKind.local) : GScp N sc scope own := ⟨h, h1, h2, h3⟩
theorem ok_is_word (T : Top K mg base) : Cal P w K mg base CX0 4 ("is_word", none) ["text"] (spTest K isWord) := by
  obtain ⟨fd, F⟩ := T.d_is_word
  have cs := ok_is_sign (P := P) (w := w) T
  obtain ⟨fd1, F1, b1⟩ := cs.ex
  obtain ⟨tm, em⟩ := T.i_MOST
  refine ⟨⟨fd, funD_okC F sc_is_word (fun vs H Q E h => ?_) (fun A outer s H vs Q E hr h => ?_), FunD.bindsN F fun _ _ _ _ _ _ us hl => match us, hl with | [_], _ => rfl⟩, F.kp⟩
  · obtain ⟨z, rfl, _⟩ := h
    rfl
  · obtain ⟨z, rfl, hz, ht, k⟩ := h
    have nd := sc_is_word.nd
    refine ⟨_, pss_one (ps_ret (pe_and (pe_chain op_le op_le pe_int (pe_callB call_len_str (by rfl) T.f_len PySem.boot_len (pa_cons (pv 0) pa_nil)) (pe_glob (v := .int 20) rfl em ⟨_, rfl⟩))
      (pe_one (pe_allG (k := 1) (own := [("sign", 1)]) (hr.mono (by decide)) (by rfl) T.f_all T.tabWord rfl (Gscp_of (blkOk_by (own := [("sign", 1)]) (N := ["text", "sign"]) (sc := defScope s_is_word) (by decide +kernel)) (by decide +kernel) rfl (by decide +kernel)) nd rfl (pi_str (pv 0))
        (fun _ _ _ _ _ _ _ _ => pg_name (i := 1) nd rfl (.inl rfl)) (fun _ _ _ _ _ _ _ hr' => pe_call F1 hr' rfl T.g_is_sign cs.kp b1 .nil pass0 (pa_cons (pv 1) pa_nil)))))), ?_⟩
    refine ⟨_, rfl, _, rfl, hz, _, _, rfl, rfl, _, rfl, itb (fun e1 => ?_) fun e1 => ⟨_, rfl, itb (fun z => by cases z) fun _ => ?_⟩⟩
    · refine ⟨_, _, rfl, rfl, _, rfl, itb (fun e2 => ?_) fun e2 => ?_⟩
      · obtain ⟨W, Qe, Qx, w0, turn, qe, qx⟩ := gen_it (walk_str (z := z)) (g := gName 1) (te := tCall spIsSign [] E0 (tCons (tVar 1) tNil)) (σ := [some (.str z), none]) (e := true) (fun i => isSign ⟨#[z.cps.getD i 0]⟩) (fun _ H' => Kp Nil H H') (fun _ _ _ _ => trivial)
          (fun i x H1 H2 R hi kp y hR => by
            obtain ⟨rfl, c, hc, rfl⟩ := y
            refine ⟨⟨rfl, fun j v e => ?_⟩, _, rfl, _, rfl, ?_⟩
            · match j, e with
              | 0, e => exact e
              | 1, e => cases e
              | j + 2, e => simp at e
            · have ec : z.cps.getD i 0 = c := by rw [Array.getD_eq_getD_getElem?, hc]; rfl
              rw [← ec]
              exact hR _ kp)
        have hw : isWord z = z.cps.toList.all fun c => isSign ⟨#[c]⟩ := by
          unfold isWord
          rw [show decide (1 ≤ z.length) = true from decide_eq_true (by have := of_decide_eq_true e1; omega), show decide (z.length ≤ 20) = true from decide_eq_true (by have := of_decide_eq_true e2; omega)]
          rfl
        refine ⟨_, rfl, z, rfl, ht.word, W, Qe, Qx, fun H2 t => w0 H2 (Kp.tabbed ht.word t), turn, fun H' q => ?_, fun H' q => ?_⟩
        · obtain ⟨q1, q2⟩ := qe H' q
          have := k H' q1
          rw [hw, (all_cps z fun c => isSign ⟨#[c]⟩).mpr q2] at this
          exact this
        · obtain ⟨i, hi, q1, q2⟩ := qx H' q
          have := k H' q2
          rw [hw] at this
          cases e3 : z.cps.toList.all fun c => isSign ⟨#[c]⟩ with
          | true => exact absurd ((all_cps z fun c => isSign ⟨#[c]⟩).mp e3 i hi) q1
          | false => rw [e3] at this; exact this
      · have := k H Kp.refl
        have hw : isWord z = false := by
          unfold isWord
          rw [show decide (z.length ≤ 20) = false from decide_eq_false (by have := of_decide_eq_false e2; omega)]
          simp
        rw [hw] at this
        exact this
    · have := k H Kp.refl
      have hw : isWord z = false := by
        unfold isWord
        rw [show decide (1 ≤ z.length) = false from decide_eq_false (by have := of_decide_eq_false e1; omega)]
        rfl
      rw [hw] at this
      exact this
/-! ### is_identifier -/
def sgn (z : Str) (i : Nat) : Str := ⟨#[z.cps.getD i 0]⟩
def isIdent (z : Str) : Bool := isWord z && (leS "a" (sgn z 0) && leS (sgn z 0) "z")
theorem isWord_len {z : Str} (h : isWord z = true) : 1 ≤ z.length := by
  unfold isWord at h
  exact of_decide_eq_true (Bool.and_eq_true_iff.mp h).1
theorem at_sign {z : Str} {i : Nat} (h : i < z.length) : atI z.cps.toList (i : Int) = some (z.cps.getD i 0) := by
  have hi : i < z.cps.size := h
  have e : z.cps.toList[i]? = some (z.cps.getD i 0) := by
    rw [Array.getElem?_toList, Array.getElem?_eq_getElem hi, Array.getD_eq_getD_getElem?, Array.getElem?_eq_getElem hi]
    rfl
  exact atI_nat e
theorem sc_is_identifier : FnScope ["text"] ["text"] (defScope s_is_identifier) := ⟨rfl, rfl, rfl, by decide +kernel, rfl, by decide +kernel, by decide +kernel⟩
theorem ok_is_identifier (T : Top K mg base) : Cal P w K mg base CX0 5 ("is_identifier", none) ["text"] (spTest K isIdent) := by
  obtain ⟨fd, F⟩ := T.d_is_identifier
  have cs := ok_is_word (P := P) (w := w) T
  obtain ⟨fd1, F1, b1⟩ := cs.ex
  refine ⟨⟨fd, FunD.ok F sc_is_identifier (fun vs H Q E h => ?_) (fun cdv A outer s H vs Q E hr h => ?_), FunD.bindsN F fun _ _ _ _ _ _ us hl => match us, hl with | [_], _ => rfl⟩, F.kp⟩
  · obtain ⟨z, rfl, _⟩ := h
    rfl
  · obtain ⟨z, rfl, hz, ht, k⟩ := h
    refine ⟨_, pss_one (ps_ret (pe_and (pe_call F1 hr rfl T.g_is_word cs.kp b1 .nil pass0 (pa_cons (pv 0) pa_nil)) (pe_one (pe_chain op_le_str op_le_str pe_str (pe_ix ix_str (pv 0) pe_int (fun _ _ => rfl)) pe_str)))), ?_⟩
    refine ⟨_, rfl, z, rfl, hz, ht, fun H1 kp => ⟨_, rfl, itb (fun e1 => ?_) fun e1 => ?_⟩⟩
    · refine ⟨_, rfl, z, 0, _, rfl, rfl, hz, at_sign (i := 0) (isWord_len e1), _, _, rfl, rfl, leS "a" (sgn z 0), rfl, itb (fun e2 => ?_) fun e2 => ?_⟩
      · refine ⟨_, _, rfl, rfl, ?_⟩
        have := k H1 kp
        unfold isIdent at this
        rw [e1, e2] at this
        exact this
      · have := k H1 kp
        unfold isIdent at this
        rw [e1, e2] at this
        exact this
    · have := k H1 kp
      unfold isIdent at this
      rw [e1] at this
      exact this
/-! ### split_token -/
def tok (n : Nat) : Str := tokS "main" n
def dig (n : Nat) : Str := Str.ofString (toString (n : Int))
structure TokOk (n : Nat) : Prop where
  part : Txt.partition (tok n) "@" = (("main" : Str), ("@" : Str), dig n)
  len : 1 ≤ (dig n).length ∧ (dig n).length ≤ 4
  all : (dig n).cps.toList.all (fun c => leS "0" ⟨#[c]⟩ && leS ⟨#[c]⟩ "9") = true
  lead : sgn (dig n) 0 = "0" → dig n = "0"
  val : PySem.intText? (dig n) = some (n : Int)
  line : (tok n).length ≤ 100
theorem tok_ok {n : Nat} (h : n ≤ 40) : TokOk n := by
  have h1 : ∀ n, n < 41 → Txt.partition (tok n) "@" = (("main" : Str), ("@" : Str), dig n) := by decide +kernel
  have h2 : ∀ n, n < 41 → (1 ≤ (dig n).length ∧ (dig n).length ≤ 4) := by decide +kernel
  have h3 : ∀ n, n < 41 → (dig n).cps.toList.all (fun c => leS "0" ⟨#[c]⟩ && leS ⟨#[c]⟩ "9") = true := by decide +kernel
  have h4 : ∀ n, n < 41 → (sgn (dig n) 0 = "0" → dig n = "0") := by decide +kernel
  have h5 : ∀ n, n < 41 → PySem.intText? (dig n) = some (n : Int) := by decide +kernel
  have h6 : ∀ n, n < 41 → (tok n).length ≤ 100 := by decide +kernel
  exact ⟨h1 n (by omega), h2 n (by omega), h3 n (by omega), h4 n (by omega), h5 n (by omega), h6 n (by omega)⟩
def spSplitTok (K : PySem.W.Frag) : Sp := fun vs H Q _ => ∃ n : Nat, vs = [.str (tok n)] ∧ n ≤ 40 ∧ Tabs K H ∧ ∀ H' p, Kp Nil H H' → H' p = some (.tup [.str "main", .int (n : Int)]) → Q (.ref p) H'
theorem sc_split_token : FnScope ["text", "store", "sign", "digits"] ["text"] (defScope s_split_token) := ⟨rfl, rfl, rfl, by decide +kernel, rfl, by decide +kernel, by decide +kernel⟩
theorem ok_split_token (T : Top K mg base) : Cal P w K mg base CX0 6 ("split_token", none) ["text"] (spSplitTok K) := by
  obtain ⟨fd, F⟩ := T.d_split_token
  have cs := ok_is_identifier (P := P) (w := w) T
  obtain ⟨fd1, F1, b1⟩ := cs.ex
  obtain ⟨tm, em⟩ := T.i_REVISION_MOST
  refine ⟨⟨fd, funD_okC F sc_split_token (fun vs H Q E h => ?_) (fun A outer s H vs Q E hr h => ?_), FunD.bindsN F fun _ _ _ _ _ _ us hl => match us, hl with | [_], _ => rfl⟩, F.kp⟩
  · obtain ⟨n, rfl, _⟩ := h
    rfl
  · obtain ⟨n, rfl, hn, ht, k⟩ := h
    have ok := tok_ok hn
    have nd := sc_split_token.nd
    refine ⟨_, pss_cons (ps_asg (pe_partition (pv 0) pe_str) (pg_tup rfl (pgs_cons (pg_name (i := 1) nd rfl (.inl rfl)) (pgs_cons (pg_name (i := 2) nd rfl (.inl rfl)) (pgs_cons (pg_name (i := 3) nd rfl (.inl rfl)) pgs_nil)))))
      (pss_cons (ps_if (PW.pt (pw_or (pt_not (pt_val (pe_call F1 hr rfl T.g_is_identifier cs.kp b1 .nil pass0 (pa_cons (pv 1) pa_nil))))
          (pw_or (pt_not (pt_chain op_le op_le pe_int (pe_callB call_len_str (by rfl) T.f_len PySem.boot_len (pa_cons (pv 3) pa_nil)) pe_int))
          (pw_or1 (pt_not (pt_val (pe_allG (k := 1) (own := [("sign", 2)]) (hr.mono (by decide)) (by rfl) T.f_all T.tabToken rfl (Gscp_of (blkOk_by (own := [("sign", 2)]) (N := ["text", "store", "sign", "digits"]) (sc := defScope s_split_token) (by decide +kernel)) (by decide +kernel) rfl (by decide +kernel)) nd rfl (pi_str (pv 3))
            (fun _ _ _ _ _ _ _ _ => pg_name (i := 2) nd rfl (.inl rfl)) (fun _ _ _ _ _ _ _ _ => pe_chain op_le_str op_le_str pe_str (pv 2) pe_str)))))))) (pss_one ps_never) pss_nil)
      (pss_cons (ps_if (PW.pt (pw_or (PW.pt (pw_and (pt_cmpR op_eq (pe_ix ix_str (pv 3) pe_int (fun _ _ => rfl)) pe_str (nomark _)) (pw_and1 (pt_cmpR op_ne (pv 3) pe_str (nomark _))))) (pw_or1 (pt_cmpR op_gt (pe_callTy call_int_str (by rfl) T.f_int (by decide +kernel) (pa_cons (pv 3) pa_nil)) (pe_glob (v := .int 1000) rfl em ⟨_, rfl⟩) (nomark _))))) (pss_one ps_never) pss_nil)
      (pss_one (ps_ret (pe_tup (pa_cons (pv 1) (pa_cons (pe_callTy call_int_str (by rfl) T.f_int (by decide +kernel) (pa_cons (pv 3) pa_nil)) pa_nil))))))), ?_⟩
    refine ⟨_, rfl, ⟨_, rfl⟩, _, _, rfl, rfl, by decide +kernel, le_line (Nat.le_trans ok.line (by decide)), fun p hp => ?_⟩
    rw [ok.part]
    refine ⟨p, _, rfl, SqT.of upd_same, rfl, _, _, rfl, _, _, rfl, _, _, rfl, rfl, ?_⟩
    have kp1 : Kp Nil H (upd H p (.tup [.str "main", .str "@", .str (dig n)])) := Kp.new hp
    refine ⟨_, rfl, "main", rfl, by decide +kernel, ht.kp kp1, fun H1 kp2 => ⟨_, rfl, ?_⟩⟩
    rw [show isIdent "main" = true from by decide +kernel]
    refine iteF ⟨_, rfl, _, rfl, le_line (Nat.le_trans ok.len.2 (by decide)), _, _, rfl, rfl, _, rfl, iteY (decide_eq_true (by have := ok.len.1; show (1 : Int) ≤ ((dig n).length : Int); omega)) ⟨_, _, rfl, rfl, _, rfl, ?_⟩⟩
    rw [show decide (((dig n).length : Int) ≤ 4) = true from decide_eq_true (by have := ok.len.2; omega)]
    refine iteF ?_
    have kp3 := kp1.trans kp2
    obtain ⟨W, Qe, Qx, w0, turn, qe, qx⟩ := gen_it (walk_str (z := dig n)) (g := gName 2) (te := tChain (fun x y H Q => ∃ i j, x = V.str i ∧ y = V.str j ∧ Q (V.bl !decide (j.cps.toList < i.cps.toList)) H) (fun x y H Q => ∃ i j, x = V.str i ∧ y = V.str j ∧ Q (V.bl !decide (j.cps.toList < i.cps.toList)) H) (tC (V.str "0")) (tVar 2) (tC (V.str "9")))
      (σ := [some (.str (tok n)), some (.str "main"), none, some (.str (dig n))]) (e := true) (fun i => leS "0" ⟨#[(dig n).cps.getD i 0]⟩ && leS ⟨#[(dig n).cps.getD i 0]⟩ "9") (fun _ H' => Kp Nil H H') (fun _ _ _ _ => trivial)
      (fun i x H1 H2 R hi kp y hR => by
        obtain ⟨rfl, c, hc, rfl⟩ := y
        have ec : (dig n).cps.getD i 0 = c := by rw [Array.getD_eq_getD_getElem?, hc]; rfl
        rw [ec] at hR
        have hR := hR _ kp
        refine ⟨⟨rfl, fun j v e => ?_⟩, _, rfl, _, _, rfl, rfl, leS "0" ⟨#[c]⟩, rfl, itb (fun e1 => ⟨_, _, rfl, rfl, ?_⟩) fun e1 => ?_⟩
        · match j, e with
          | 0, e => exact e
          | 1, e => exact e
          | 2, e => cases e
          | 3, e => exact e
          | j + 4, e => simp at e
        · rw [e1, Bool.true_and] at hR
          exact hR
        · rw [e1, Bool.false_and] at hR
          exact hR)
    refine ⟨_, rfl, dig n, rfl, (ht.kp kp3).token, W, Qe, Qx, fun H2 t => w0 H2 (kp3.trans (Kp.tabbed (ht.kp kp3).token t)), turn, fun H4 q => ⟨true, rfl, ?_⟩, fun H4 q => ?_⟩
    · obtain ⟨kp4, _⟩ := qe H4 q
      refine iteF ?_
      have l640 : (dig n).length ≤ 640 := Nat.le_trans ok.len.2 (by decide)
      refine ⟨_, rfl, dig n, 0, _, rfl, rfl, le_line (Nat.le_trans ok.len.2 (by decide)), at_sign (i := 0) ok.len.1, rfl, _, rfl, itb (fun e1 => ?_) fun e1 => ?_⟩
      · have e2 : dig n = "0" := ok.lead (V.str.inj (of_decide_eq_true e1))
        refine ⟨_, rfl, rfl, _, rfl, iteN (by show (!decide (V.str (dig n) = V.str "0")) = false; rw [e2]; simp) ?_⟩
        refine ⟨_, rfl, dig n, (n : Int), rfl, ok.val, l640, _, _, rfl, rfl, _, rfl, iteN (decide_eq_false (by omega)) ?_⟩
        refine ⟨_, rfl, _, rfl, dig n, (n : Int), rfl, ok.val, l640, (by show 2 ≤ sizeLine; decide), fun q hq => ?_⟩
        exact k _ q (kp4.trans (Kp.new hq)) upd_same
      · refine iteF ⟨_, rfl, dig n, (n : Int), rfl, ok.val, l640, _, _, rfl, rfl, _, rfl, iteN (decide_eq_false (by omega)) ?_⟩
        refine ⟨_, rfl, _, rfl, dig n, (n : Int), rfl, ok.val, l640, (by show 2 ≤ sizeLine; decide), fun q hq => ?_⟩
        exact k _ q (kp4.trans (Kp.new hq)) upd_same
    · obtain ⟨i, hi, q1, _⟩ := qx H4 q
      exact absurd ((all_cps (dig n) fun c => leS "0" ⟨#[c]⟩ && leS ⟨#[c]⟩ "9").mp ok.all i hi) q1
end
end Au
/-! Authsync: changes. -/
namespace Au
open PySem PySem.Spec PyProof.Rows L2
/-- what is new ahead may be filled -/
theorem Kp.fill {S : Addr → Prop} {H H5 : Hp} {D : Addr} {o : HO} (k : Kp S H H5) (hD : H D = none) : Kp S H (upd H5 D o) := by
  refine ⟨fun b u e n t => o2 (k.old b u e n t) (ne_of_none e hD), fun P q => tabG_upd (k.tab P q) fun z => ?_, fun b q => ?_⟩
  · obtain ⟨ps, e, _⟩ := q
    rw [← z, hD] at e
    cases e
  · by_cases z : b = D
    · rw [z]
      exact hD
    · rw [upd_ne z] at q
      exact k.fr b q
/-- under a lock -/
theorem Kp.lock {S : Addr → Prop} {H H' : Hp} {d : Addr} {u f : HO} (hu : H d = some u) (nt : ∀ ps, u ≠ .tbl ps) (k : Kp S (upd H d f) H') : Kp S H (upd H' d u) := by
  refine ⟨fun b o e n t => ?_, fun P q => ?_, fun b q => ?_⟩
  · by_cases z : b = d
    · rw [z, hu] at e
      rw [z, upd_same, e]
    · exact o2 (k.old b o (o2 e z) n t) z
  · have z : d ≠ P := fun z => by
      obtain ⟨ps, e, _⟩ := q
      rw [← z, hu] at e
      exact nt ps (Option.some.inj e)
    exact tabG_upd (k.tab P (tabG_upd q z)) z
  · by_cases z : b = d
    · rw [z, upd_same] at q
      cases q
    · rw [upd_ne z] at q
      have := k.fr b q
      rw [upd_ne z] at this
      exact this
/-! ### dicts with triples as keys -/
def dictOf (ts : List T3) : List (List Key × V) := ts.map fun t => (key3 t, V.bl true)
theorem dictOf_len (ts : List T3) : (dictOf ts).length = ts.length := List.length_map ..
theorem dictOf_keys (ts : List T3) : (dictOf ts).map (·.1) = ts.map key3 := by
  unfold dictOf
  rw [List.map_map]
  rfl
theorem dictOf_at (t : T3) : ∀ ts : List T3, valV (dictOf ts) (key3 t) = if t ∈ ts then some (V.bl true) else none
  | [] => rfl
  | u :: ts => by
    show valV ((key3 u, V.bl true) :: dictOf ts) (key3 t) = _
    by_cases e : u = t
    · rw [valV_pos (by rw [e]), if_pos (by rw [e]; exact List.mem_cons_self ..)]
    · rw [valV_neg (fun z => e (key3_inj z)), dictOf_at t ts]
      by_cases m : t ∈ ts
      · rw [if_pos m, if_pos (List.mem_cons_of_mem _ m)]
      · rw [if_neg m, if_neg fun z => (List.mem_cons.mp z).elim (fun q => e q.symm) m]
theorem dictOf_some (t : T3) (ts : List T3) : (valV (dictOf ts) (key3 t)).isSome = decide (t ∈ ts) := by
  rw [dictOf_at]
  by_cases m : t ∈ ts
  · rw [if_pos m]; simp [m]
  · rw [if_neg m]; simp [m]
theorem dictOf_put {ts : List T3} {t : T3} (h : t ∉ ts) : putK (dictOf ts) (key3 t) (.bl true) = dictOf (ts ++ [t]) := by
  rw [putK_new _ (by rw [dictOf_at, if_neg h])]
  unfold dictOf
  rw [List.map_append]
  rfl
theorem take_next {α : Type} {xs : List α} {i : Nat} {x : α} (h : xs[i]? = some x) : xs.take (i + 1) = xs.take i ++ [x] := by rw [List.take_add_one, h]; rfl
theorem not_taken {ts : List T3} (h : ts.Nodup) {i : Nat} {t : T3} (e : ts[i]? = some t) : t ∉ ts.take i := fun z => by
  have n := h.sublist (List.take_sublist (i + 1) ts)
  rw [take_next e] at n
  exact (List.nodup_append.mp n).2.2 t z t (List.mem_singleton.mpr rfl) rfl
/-! ### {x: True for x in xs}: the reading -/
def tTrue (i : Nat) (tl : TE) (K : PySem.W.Frag) : TE := tDcT (iList K tl) (gName i) (tVar i) (tC (.bl true)) [i]
theorem rd_true {K : PySem.W.Frag} {i : Nat} {tl : TE} {σ : L2.St} {H : Hp} {R : VK} (hi : i < σ.length) (h : tl σ H fun x H1 => ∃ a ts, x = .ref a ∧ TriL H1 a ts ∧ ts.Nodup ∧ ts.length ≤ 1000000 ∧ ∀ D H', H1 D = none → Kp Nil H1 H' → H' D = some (.dT (dictOf ts)) → R (.ref D) H') (mono : ∀ (Q Q' : VK), (∀ x H1, Q x H1 → Q' x H1) → tl σ H Q → tl σ H Q') :
    tTrue i tl K σ H R := by
  refine mono _ _ (fun x H1 q => ?_) h
  obtain ⟨a, ts, rfl, ⟨vs, ea, pr⟩, nd, hl, k⟩ := q
  refine ⟨a, rfl, ⟨_, SqL.of ea⟩, fun D hD => ?_⟩
  have hlen : vs.length = ts.length := pr.length
  refine dcT_list (K := K) (a := a) (xs := vs) (fun n H' => Kp Nil H1 H' ∧ H' D = some (.dT (dictOf (ts.take n)))) ⟨Kp.new hD, upd_same⟩ (fun n H' _ p => SqL.of (p.1.lst0 ea)) (fun n x H' hx p => ?_) fun H' p => ?_
  · obtain ⟨kp, hd⟩ := p
    obtain ⟨t, ht, q, rfl, eq⟩ := pair_get pr hx
    refine ⟨?_, _, List.getElem?_set_self (by rw [wipe_length]; exact hi), dictOf (ts.take n), key3 t, q, rfl, kp.tup0 eq, hd, ?_, kp.fill hD, ?_⟩
    · show ((σ.set i none).set i (some (.ref q))).set i none = (σ.set i none)
      rw [List.set_set, List.set_set]
    · rw [dictOf_len, List.length_take, sizeLine_eq]
      omega
    · rw [upd_same, dictOf_put (not_taken nd ht), take_next ht]
  · obtain ⟨kp, hd⟩ := p
    rw [hlen, List.take_length] at hd
    exact k D H' hD kp hd
/-! ### [x for x in d if x not in e]: the reading -/
def tNotIn (i j k : Nat) : TE := tLockE (tLc (iKeys (tVar j)) (gName i) (tB (tDNotIn (tVar i) (tVar k))) (tVar i) [i])
theorem rd_notIn {i j k : Nat} {σ : L2.St} {H : Hp} {R : VK} {dn dO : Addr} {us ts : List T3} (hi : i < σ.length) (ij : i ≠ j) (ik : i ≠ k) (hj : σ[j]? = some (some (.ref dn))) (hk : σ[k]? = some (some (.ref dO))) (hn : H dn = some (.dT (dictOf us))) (ho : H dO = some (.dT (dictOf ts))) (ne : dO ≠ dn) (hl : us.length ≤ 1000000)
    (h : ∀ p H' ys, Kp Nil H H' → H' p = some (.lst ys) → Paired (Tri H') ys (us.filter fun t => decide (t ∉ ts)) → R (.ref p) H') : tNotIn i j k σ H R := by
  refine ⟨dn, _, hn, trivial, fun od => ⟨_, hj, dn, od, rfl, .inr ⟨dictOf us, upd_same, fun D hD => ?_⟩⟩⟩
  refine lc_it walk_keysT (fun n H' => Kp Nil (upd H dn (.frz od (.dT (dictOf us)))) H' ∧ ∃ ys, H' D = some (.lst ys) ∧ Paired (Tri H') ys ((us.take n).filter fun t => decide (t ∉ ts))) ⟨Kp.new hD, [], upd_same, .nil⟩ (fun n H' _ p => p.1.old dn _ upd_same id fun ps z => by cases z) (fun n x H1 H2 hn' p y => ?_) fun H' p => ?_
  · obtain ⟨kp, ys, hD1, pr⟩ := p
    obtain ⟨rfl, key, v, q, e1, rfl, e2⟩ := y
    obtain ⟨t, ht, rfl⟩ : ∃ t, us[n]? = some t ∧ key = key3 t := by
      unfold dictOf at e1
      rw [List.getElem?_map] at e1
      cases e : us[n]? with
      | none => rw [e] at e1; cases e1
      | some t => rw [e] at e1; exact ⟨t, rfl, (congrArg Prod.fst (Option.some.inj e1)).symm⟩
    have wk : wipe σ [i] = σ.set i none := rfl
    refine ⟨by rw [wk]; show ((σ.set i none).set i (some (.ref q))).set i none = _; rw [List.set_set, List.set_set], ?_⟩
    refine ⟨_, List.getElem?_set_self (by rw [wipe_length]; exact hi), _, (by rw [wk, List.getElem?_set_ne ik, List.getElem?_set_ne ik]; exact hk), dO, valV (dictOf ts) (key3 t), rfl, .inr ⟨dictOf ts, key3 t, q, .inl (kp.dT0 (o2 ho ne)), rfl, e2, rfl⟩, _, rfl, ?_⟩
    have step : (us.take (n + 1)).filter (fun t => decide (t ∉ ts)) = (us.take n).filter (fun t => decide (t ∉ ts)) ++ if t ∈ ts then [] else [t] := by
      rw [take_next ht, List.filter_append]
      congr 1
      by_cases m : t ∈ ts
      · rw [if_pos m]; simp [m]
      · rw [if_neg m]; simp [m]
    rw [dictOf_some]
    by_cases m : t ∈ ts
    · rw [if_pos m, List.append_nil] at step
      refine iteN (by simp [m]) ⟨kp, ys, hD1, ?_⟩
      rw [step]
      exact pr
    · rw [if_neg m] at step
      have small : ys.length ≤ us.length := by
        rw [pr.length]
        exact Nat.le_trans (List.length_filter_le _ _) (by rw [List.length_take]; omega)
      refine iteY (by simp [m]) ⟨_, List.getElem?_set_self (by rw [wipe_length]; exact hi), ys, hD1, by rw [sizeLine_eq]; omega, kp.fill hD, _, upd_same, ?_⟩
      rw [step]
      have nD : ∀ {b xs}, _root_.id H2 b = some (.tup xs) → b ≠ D := fun e => ne_of e hD1 fun z => by cases z
      exact pair_append (Paired.mapP pr fun a b r => by
        obtain ⟨p, rfl, e⟩ := r
        exact ⟨p, rfl, o2 e (nD e)⟩) (.cons ⟨q, rfl, o2 e2 (nD e2)⟩ .nil)
  · obtain ⟨kp, ys, hD1, pr⟩ := p
    have hd : H' dn = some (.frz od (.dT (dictOf us))) := kp.old dn _ upd_same id fun ps z => by cases z
    rw [dictOf_len, List.take_length] at pr
    have nd : D ≠ dn := ne_of hD1 hd fun z => by cases z
    exact ⟨hd, h D _ ys (Kp.lock hn nt_dT kp) (o2 hD1 nd) (Paired.mapP pr fun a b r => by
      obtain ⟨p, rfl, e⟩ := r
      exact ⟨p, rfl, o2 e (ne_of e hd fun z => by cases z)⟩)⟩
section
variable {P : Program} {w : World} {K : PySem.W.Frag} {mg : Str → Option Value} {base : Heap}
theorem _root_.L2.Room.u1 {k : Nat} {A : Around} (r : Room k A) : A.units + 1 < cLine := by have := r.un; omega
/-! ### difference -/
def without (us ts : List T3) : List T3 := us.filter fun t => decide (t ∉ ts)
structure Grants (H : Hp) (a : Addr) (ts : List T3) : Prop where
  at_ : TriL H a ts
  nd : ts.Nodup
  len : ts.length ≤ 20000
theorem Grants.kp0 {H H' : Hp} {a : Addr} {ts : List T3} (k : Kp Nil H H') (g : Grants H a ts) : Grants H' a ts := ⟨g.at_.kp0 k, g.nd, g.len⟩
def spDiff : Sp := fun vs H Q _ => ∃ a b ts us, vs = [.ref a, .ref b] ∧ Grants H a ts ∧ Grants H b us ∧
  ∀ H' p g l, Kp Nil H H' → H' p = some (.tup [.ref g, .ref l]) → TriL H' g (sortT (without us ts)) → TriL H' l (sortT (without ts us)) → Q (.ref p) H'
theorem sc_difference : FnScope ["before", "after", "old", "new", "grant"] ["before", "after"] (defScope s_difference) := ⟨rfl, rfl, rfl, by decide +kernel, rfl, by decide +kernel, by decide +kernel⟩
theorem ok_difference (T : Top K mg base) : Cal P w K mg base CX0 1 ("difference", none) ["before", "after"] spDiff := by
  obtain ⟨fd, F⟩ := T.d_difference
  refine ⟨⟨fd, FunD.ok F sc_difference (fun vs H Q E h => ?_) (fun cdv A outer s H vs Q E hr h => ?_), FunD.bindsN F fun _ _ _ _ _ _ us hl => match us, hl with | [_, _], _ => rfl⟩, F.kp⟩
  · obtain ⟨a, b, ts, us, rfl, _⟩ := h
    rfl
  · obtain ⟨a, b, ts, us, rfl, ga, gb, k⟩ := h
    have nd := sc_difference.nd
    refine ⟨_, pss_cons (ps_set (i := 2) nd rfl (.inr rfl) (pe_dcT (own := [("grant", 4)]) hr.u1 rfl nd (pi_list (pv 0)) (blkOk_by (N := ["before", "after", "old", "new", "grant"]) (sc := defScope s_difference) (by decide +kernel))
        (fun _ _ _ _ _ => pg_name (i := 4) nd rfl (.inl rfl)) (fun _ _ _ _ _ => pv 4) (fun _ _ _ _ _ => pe_bl)))
      (pss_cons (ps_set (i := 3) nd rfl (.inr rfl) (pe_dcT (own := [("grant", 4)]) hr.u1 rfl nd (pi_list (pv 1)) (blkOk_by (N := ["before", "after", "old", "new", "grant"]) (sc := defScope s_difference) (by decide +kernel))
        (fun _ _ _ _ _ => pg_name (i := 4) nd rfl (.inl rfl)) (fun _ _ _ _ _ => pv 4) (fun _ _ _ _ _ => pe_bl)))
      (pss_one (ps_ret (pe_tup (pa_cons (pe_callB (cr_sortT hr.units) (by rfl) T.f_sorted (by decide +kernel) (pa_cons (pe_lock (pe_lc (own := [("grant", 4)]) rfl nd (pi_keys (pv 3)) (blkOk_by (N := ["before", "after", "old", "new", "grant"]) (sc := defScope s_difference) (by decide +kernel))
          (fun _ _ _ _ _ => pg_name (i := 4) nd rfl (.inl rfl)) (fun _ _ _ _ _ => pts_one (pt_cmp (pc_dnotin hr.u1 (pv 4) (pv 2)))) (fun _ _ _ _ _ => pv 4))) pa_nil))
        (pa_cons (pe_callB (cr_sortT hr.units) (by rfl) T.f_sorted (by decide +kernel) (pa_cons (pe_lock (pe_lc (own := [("grant", 4)]) rfl nd (pi_keys (pv 2)) (blkOk_by (N := ["before", "after", "old", "new", "grant"]) (sc := defScope s_difference) (by decide +kernel))
          (fun _ _ _ _ _ => pg_name (i := 4) nd rfl (.inl rfl)) (fun _ _ _ _ _ => pts_one (pt_cmp (pc_dnotin hr.u1 (pv 4) (pv 3)))) (fun _ _ _ _ _ => pv 4))) pa_nil)) pa_nil)))))), ?_⟩
    refine rd_true (tl := tVar 0) (by show 4 < 5; decide) ⟨_, rfl, a, ts, rfl, ga.at_, ga.nd, by have := ga.len; omega, fun D1 H1 hD1 kp1 hd1 => ?_⟩ fun Q Q' m q => by
      obtain ⟨v, e, q⟩ := q
      exact ⟨v, e, m _ _ q⟩
    have gb1 := gb.kp0 kp1
    delta gName tSeq tAsg; dsimp only
    refine rd_true (i := 4) (tl := tVar 1) (σ := [some (.ref a), some (.ref b), some (.ref D1), none, none]) (by show 4 < 5; decide) ⟨_, rfl, b, us, rfl, gb1.at_, gb1.nd, by have := gb.len; omega, fun D2 H2 hD2 kp2 hd2 => ?_⟩ fun Q Q' m q => by
      obtain ⟨v, e, q⟩ := q
      exact ⟨v, e, m _ _ q⟩
    have hd1' := kp2.dT0 hd1
    have n12 : D1 ≠ D2 := ne_of_none hd1 hD2
    refine rd_notIn (i := 4) (j := 3) (k := 2) (σ := [some (.ref a), some (.ref b), some (.ref D1), some (.ref D2), none]) (us := us) (ts := ts) (dn := D2) (dO := D1) (by show 4 < 5; decide) (by decide) (by decide) rfl rfl hd2 hd1' n12 (by have := gb.len; omega) fun p H3 ys kp3 hp pr => ?_
    refine ⟨p, ys, _, rfl, SqL.of hp, pr, fun ys1 p1 pr1 hp1 => ?_⟩
    have kp4 : Kp Nil H3 (upd H3 p1 (.lst ys1)) := Kp.new hp1
    have kp34 := kp3.trans kp4
    refine rd_notIn (i := 4) (j := 2) (k := 3) (σ := [some (.ref a), some (.ref b), some (.ref D1), some (.ref D2), none]) (us := ts) (ts := us) (dn := D1) (dO := D2) (by show 4 < 5; decide) (by decide) (by decide) rfl rfl (kp34.dT0 hd1') (kp34.dT0 hd2) n12.symm (by have := ga.len; omega) fun p5 H5 zs kp5 hp5 pr5 => ?_
    refine ⟨p5, zs, _, rfl, SqL.of hp5, pr5, fun zs1 p6 pr6 hp6 => ?_⟩
    have kp6 : Kp Nil H5 (upd H5 p6 (.lst zs1)) := Kp.new hp6
    refine ⟨by show 2 ≤ sizeLine; decide, fun p7 hp7 => ?_⟩
    have kp7 : Kp Nil (upd H5 p6 (.lst zs1)) (upd (upd H5 p6 (.lst zs1)) p7 (.tup [.ref p1, .ref p6])) := Kp.new hp7
    have kp57 := kp5.trans (kp6.trans kp7)
    exact k _ p7 p1 p6 (kp1.trans (kp2.trans (kp34.trans kp57))) upd_same (TriL.kp0 kp57 ⟨ys1, upd_same, Tri.prs kp4 pr1⟩) (TriL.kp0 kp7 ⟨zs1, upd_same, Tri.prs kp6 pr6⟩)
/-! ### all(x in d for x in l) -/
theorem rd_allT {P : Addr} {i k : Nat} {tl te : TE} {σ : L2.St} {H : Hp} {Q : VK} {l dO : Addr} {gs ts : List T3} (f : T3 → Bool) (hi : i < σ.length) (hv : σ[i]? = some none) (ik : i ≠ k) (hk : σ[k]? = some (some (.ref dO)))
    (htl : ∀ R : V → Hp → Prop, R (.ref l) H → tl σ H R) (hl : TriL H l gs) (hd : H dO = some (.dT (dictOf ts))) (hP : GxR.TabG H P)
    (hte : ∀ σ H q t R, σ[i]? = some (some (V.ref q)) → H q = some (.tup (t3 t)) → σ[k]? = some (some (V.ref dO)) → H dO = some (.dT (dictOf ts)) → R (.bl (f t)) H → te σ H R)
    (h : ∀ H', Kp Nil H H' → Q (.bl (gs.all f)) H') : tGen true P (iList K tl) (gName i) te [i] σ H Q := by
  obtain ⟨vs, ea, pr⟩ := hl
  have hlen : vs.length = gs.length := pr.length
  refine htl _ ⟨l, rfl, ⟨_, SqL.of ea⟩, hP, ?_⟩
  have wk : wipe σ [i] = σ.set i none := rfl
  obtain ⟨W, Qe, Qx, w0, turn, qe, qx⟩ := gen_it (walk_list (K := K) (a := l) (xs := vs)) (g := gName i) (te := te) (σ := wipe σ [i]) (e := true) (fun n => match gs[n]? with | some t => f t | none => true) (fun _ H' => Kp Nil H H') (fun _ H' _ kp => SqL.of (kp.lst0 ea))
    (fun n x H1 H2 R hn kp y hR => by
      obtain ⟨rfl, hx⟩ := y
      obtain ⟨t, ht, q, rfl, eq⟩ := pair_get pr hx
      have hR := hR _ kp
      simp only [ht] at hR
      refine ⟨⟨by simp, fun j v e => ?_⟩, hte _ _ q t _ (List.getElem?_set_self (by rw [wipe_length]; exact hi)) (kp.tup0 eq) (by rw [wk, List.getElem?_set_ne ik, List.getElem?_set_ne ik]; exact hk) (kp.dT0 hd) hR⟩
      by_cases z : j = i
      · subst z
        rw [wk, List.getElem?_set_self hi] at e
        cases e
      · rw [List.getElem?_set_ne (Ne.symm z)]
        exact e)
  refine ⟨W, Qe, Qx, fun H2 t => w0 H2 (Kp.tabbed hP t), turn, fun H4 q => ?_, fun H4 q => ?_⟩
  · obtain ⟨kp, al⟩ := qe H4 q
    have : gs.all f = true := List.all_eq_true.mpr fun t ht => by
      obtain ⟨n, hn⟩ := List.getElem?_of_mem ht
      have lt : n < vs.length := by
        rw [hlen]
        exact (List.getElem?_eq_some_iff.mp hn).1
      have := al n lt
      simp only [hn] at this
      exact this
    rw [← this]
    exact h H4 kp
  · obtain ⟨n, hn, ne, kp⟩ := qx H4 q
    have : gs.all f = false := by
      cases e : gs.all f with
      | false => rfl
      | true =>
        exfalso
        apply ne
        have lt : n < gs.length := by omega
        rw [List.getElem?_eq_getElem lt]
        exact List.all_eq_true.mp e _ (List.getElem_mem lt)
    have hq := h H4 kp
    rw [this] at hq
    exact hq
/-! ### applies -/
def appl (ts gs ls : List T3) : Bool := gs.all (fun t => decide (t ∉ ts)) && ls.all (fun t => decide (t ∈ ts))
structure Chg (H : Hp) (c : Addr) (gs ls : List T3) : Prop where
  ex : ∃ g l, H c = some (.tup [.ref g, .ref l]) ∧ Grants H g gs ∧ Grants H l ls
theorem Chg.kp0 {H H' : Hp} {c : Addr} {gs ls : List T3} (k : Kp Nil H H') (h : Chg H c gs ls) : Chg H' c gs ls := by
  obtain ⟨g, l, e, a, b⟩ := h
  exact ⟨g, l, k.tup0 e, a.kp0 k, b.kp0 k⟩
def spAppl (K : PySem.W.Frag) : Sp := fun vs H Q _ => ∃ a c ts gs ls, vs = [.ref a, .ref c] ∧ Grants H a ts ∧ Chg H c gs ls ∧ Tabs K H ∧ ∀ H', Kp Nil H H' → Q (.bl (appl ts gs ls)) H'
theorem sc_applies : FnScope ["grants", "change", "known", "grant"] ["grants", "change"] (defScope s_applies) := ⟨rfl, rfl, rfl, by decide +kernel, rfl, by decide +kernel, by decide +kernel⟩
theorem gs_applies : GScp ["grants", "change", "known", "grant"] (defScope s_applies) { kind := .function, names := [(".0", .local), ("grant", .local), ("known", .free)], isGenerator := true, isCoroutine := false } [("grant", 3)] :=
  Gscp_of (blkOk_by (by decide +kernel)) (by decide +kernel) rfl (by decide +kernel)
theorem ok_applies (T : Top K mg base) : Cal P w K mg base CX0 4 ("applies", none) ["grants", "change"] (spAppl K) := by
  obtain ⟨fd, F⟩ := T.d_applies
  refine ⟨⟨fd, funD_okC F sc_applies (fun vs H Q E h => ?_) (fun A outer s H vs Q E hr h => ?_), FunD.bindsN F fun _ _ _ _ _ _ us hl => match us, hl with | [_, _], _ => rfl⟩, F.kp⟩
  · obtain ⟨a, c, ts, gs, ls, rfl, _⟩ := h
    rfl
  · obtain ⟨a, c, ts, gs, ls, rfl, ga, ⟨g, l, ec, gg, gl⟩, ht, k⟩ := h
    have nd := sc_applies.nd
    refine ⟨_, pss_cons (ps_set (i := 2) nd rfl (.inr rfl) (pe_dcT (own := [("grant", 3)]) hr.u1 rfl nd (pi_list (pv 0)) (blkOk_by (N := ["grants", "change", "known", "grant"]) (sc := defScope s_applies) (by decide +kernel))
        (fun _ _ _ _ _ => pg_name (i := 3) nd rfl (.inl rfl)) (fun _ _ _ _ _ => pv 3) (fun _ _ _ _ _ => pe_bl)))
      (pss_one (ps_ret (pe_and (pe_allG (k := 1) (own := [("grant", 3)]) (hr.mono (by decide)) (by rfl) T.f_all T.tabAppl rfl gs_applies nd rfl (pi_list (pe_ix ix_tup (pv 1) pe_int (fun _ _ => rfl)))
            (fun _ _ _ _ _ _ _ _ => pg_name (i := 3) nd rfl (.inl rfl)) (fun _ _ _ _ _ _ _ hr' => pe_cmp (pc_dnotin hr'.u1 (pv 3) (pv 2))))
          (pe_one (pe_allG (k := 1) (own := [("grant", 3)]) (hr.mono (by decide)) (by rfl) T.f_all T.tabAppl rfl gs_applies nd rfl (pi_list (pe_ix ix_tup (pv 1) pe_int (fun _ _ => rfl)))
            (fun _ _ _ _ _ _ _ _ => pg_name (i := 3) nd rfl (.inl rfl)) (fun _ _ _ _ _ _ _ hr' => pe_cmp (pc_din hr'.u1 (pv 3) (pv 2)))))))), ?_⟩
    refine rd_true (tl := tVar 0) (by show 3 < 4; decide) ⟨_, rfl, a, ts, rfl, ga.at_, ga.nd, by have := ga.len; omega, fun D1 H1 hD1 kp1 hd1 => ?_⟩ fun Q Q' m q => by
      obtain ⟨v, e, q⟩ := q
      exact ⟨v, e, m _ _ q⟩
    delta gName tSeq tAsg tRet tAndV; dsimp only
    have gg1 := gg.kp0 kp1
    refine rd_allT (i := 3) (k := 2) (dO := D1) (gs := gs) (ts := ts) (l := g) (fun t => decide (t ∉ ts)) (σ := [some (.ref a), some (.ref c), some (.ref D1), none]) (by show 3 < 4; decide) rfl (by decide) rfl (fun R q => ⟨_, rfl, c, _, 0, .ref g, rfl, rfl, SqT.of (kp1.tup0 ec), rfl, q⟩) gg1.at_ hd1 (ht.kp kp1).appl (fun σ H q t R e1 e2 e3 e4 q1 => ?_) fun H2 kp2 => ?_
    · refine ⟨_, e1, _, e3, D1, valV (dictOf ts) (key3 t), rfl, .inr ⟨dictOf ts, key3 t, q, .inl e4, rfl, e2, rfl⟩, ?_⟩
      rw [dictOf_some]
      rw [decide_not] at q1
      exact q1
    · have k2 := kp1.trans kp2
      refine ⟨_, rfl, itb (fun e1 => ?_) fun e1 => ?_⟩
      · refine rd_allT (i := 3) (k := 2) (dO := D1) (gs := ls) (ts := ts) (l := l) (fun t => decide (t ∈ ts)) (σ := [some (.ref a), some (.ref c), some (.ref D1), none]) (by show 3 < 4; decide) rfl (by decide) rfl (fun R q => ⟨_, rfl, c, _, 1, .ref l, rfl, rfl, SqT.of (k2.tup0 ec), rfl, q⟩) (gl.kp0 k2).at_ (kp2.dT0 hd1) (ht.kp k2).appl (fun σ H q t R e1 e2 e3 e4 q1 => ?_) fun H3 kp3 => ?_
        · refine ⟨_, e1, _, e3, D1, valV (dictOf ts) (key3 t), rfl, .inr ⟨dictOf ts, key3 t, q, .inl e4, rfl, e2, rfl⟩, ?_⟩
          rw [dictOf_some]
          exact q1
        · have := k H3 (k2.trans kp3)
          unfold appl at this
          rw [e1, Bool.true_and] at this
          exact this
      · have := k H2 k2
        unfold appl at this
        rw [e1, Bool.false_and] at this
        exact this
/-! ### apply_change -/
def after (ts gs ls : List T3) : List T3 := sortT (without ts ls ++ gs)
def spAfter (K : PySem.W.Frag) : Sp := fun vs H Q _ => ∃ a c ts gs ls, vs = [.ref a, .ref c] ∧ Grants H a ts ∧ Chg H c gs ls ∧ Tabs K H ∧ appl ts gs ls = true ∧
  ∀ H' p, Kp Nil H H' → H p = none → TriL H' p (after ts gs ls) → Q (.ref p) H'
theorem sc_apply_change : FnScope ["grants", "change", "lost", "grant"] ["grants", "change"] (defScope s_apply_change) := ⟨rfl, rfl, rfl, by decide +kernel, rfl, by decide +kernel, by decide +kernel⟩
theorem rd_lcNot {i j k : Nat} {σ : L2.St} {H : Hp} {R : VK} {a dO : Addr} {us ts : List T3} (hi : i < σ.length) (ik : i ≠ k) (hj : σ[j]? = some (some (.ref a))) (hk : σ[k]? = some (some (.ref dO))) (hl : TriL H a us) (ho : H dO = some (.dT (dictOf ts))) (hn : us.length ≤ 1000000)
    (h : ∀ p H' ys, Kp Nil H H' → H' p = some (.lst ys) → Paired (Tri H') ys (without us ts) → R (.ref p) H') : tLc (iList K (tVar j)) (gName i) (tB (tDNotIn (tVar i) (tVar k))) (tVar i) [i] σ H R := by
  obtain ⟨vs, ea, pr⟩ := hl
  have hlen : vs.length = us.length := pr.length
  refine ⟨_, hj, a, rfl, ⟨_, SqL.of ea⟩, fun D hD => ?_⟩
  refine lc_it (walk_list (K := K) (a := a) (xs := vs)) (fun n H' => Kp Nil H H' ∧ ∃ ys, H' D = some (.lst ys) ∧ Paired (Tri H') ys (without (us.take n) ts)) ⟨Kp.new hD, [], upd_same, .nil⟩ (fun n H' _ p => SqL.of (p.1.lst0 ea)) (fun n x H1 H2 hn' p y => ?_) fun H' p => ?_
  · obtain ⟨kp, ys, hD1, pr1⟩ := p
    obtain ⟨rfl, hx⟩ := y
    obtain ⟨t, ht, q, rfl, e2⟩ := pair_get pr hx
    have e2 := kp.tup0 e2
    have wk : wipe σ [i] = σ.set i none := rfl
    refine ⟨by rw [wk]; show ((σ.set i none).set i (some (.ref q))).set i none = _; rw [List.set_set, List.set_set], ?_⟩
    refine ⟨_, List.getElem?_set_self (by rw [wipe_length]; exact hi), _, (by rw [wk, List.getElem?_set_ne ik, List.getElem?_set_ne ik]; exact hk), dO, valV (dictOf ts) (key3 t), rfl, .inr ⟨dictOf ts, key3 t, q, .inl (kp.dT0 ho), rfl, e2, rfl⟩, _, rfl, ?_⟩
    have step : without (us.take (n + 1)) ts = without (us.take n) ts ++ if t ∈ ts then [] else [t] := by
      unfold without
      rw [take_next ht, List.filter_append]
      congr 1
      by_cases m : t ∈ ts
      · rw [if_pos m]; simp [m]
      · rw [if_neg m]; simp [m]
    rw [dictOf_some]
    by_cases m : t ∈ ts
    · rw [if_pos m, List.append_nil] at step
      refine iteN (by simp [m]) ⟨kp, ys, hD1, ?_⟩
      rw [step]
      exact pr1
    · rw [if_neg m] at step
      have small : ys.length ≤ us.length := by
        rw [pr1.length]
        exact Nat.le_trans (List.length_filter_le _ _) (by rw [List.length_take]; omega)
      refine iteY (by simp [m]) ⟨_, List.getElem?_set_self (by rw [wipe_length]; exact hi), ys, hD1, by rw [sizeLine_eq]; omega, kp.fill hD, _, upd_same, ?_⟩
      rw [step]
      have nD : ∀ {b xs}, _root_.id H2 b = some (.tup xs) → b ≠ D := fun e => ne_of e hD1 fun z => by cases z
      exact pair_append (Paired.mapP pr1 fun a b r => by
        obtain ⟨p, rfl, e⟩ := r
        exact ⟨p, rfl, o2 e (nD e)⟩) (.cons ⟨q, rfl, o2 e2 (nD e2)⟩ .nil)
  · obtain ⟨kp, ys, hD1, pr1⟩ := p
    rw [hlen, List.take_length] at pr1
    exact h D _ ys kp hD1 pr1
theorem without_len (ts ls : List T3) : (without ts ls).length ≤ ts.length := List.length_filter_le _ _
theorem ok_apply_change (T : Top K mg base) : Cal P w K mg base CX0 5 ("apply_change", none) ["grants", "change"] (spAfter K) := by
  obtain ⟨fd, F⟩ := T.d_apply_change
  have cs := ok_applies (P := P) (w := w) T
  obtain ⟨fd1, F1, b1⟩ := cs.ex
  refine ⟨⟨fd, FunD.ok F sc_apply_change (fun vs H Q E h => ?_) (fun cdv A outer s H vs Q E hr h => ?_), FunD.bindsN F fun _ _ _ _ _ _ us hl => match us, hl with | [_, _], _ => rfl⟩, F.kp⟩
  · obtain ⟨a, c, ts, gs, ls, rfl, _⟩ := h
    rfl
  · obtain ⟨a, c, ts, gs, ls, rfl, ga, hc, ht, al, k⟩ := h
    have nd := sc_apply_change.nd
    refine ⟨_, pss_cons (ps_if (pt_not (pt_val (pe_call F1 hr rfl T.g_applies cs.kp b1 .nil pass0 (pa_cons (pv 0) (pa_cons (pv 1) pa_nil))))) (pss_one ps_never) pss_nil)
      (pss_cons (ps_set (i := 2) nd rfl (.inr rfl) (pe_dcT (own := [("grant", 3)]) hr.u1 rfl nd (pi_list (pe_ix ix_tup (pv 1) pe_int (fun _ _ => rfl))) (blkOk_by (N := ["grants", "change", "lost", "grant"]) (sc := defScope s_apply_change) (by decide +kernel))
        (fun _ _ _ _ _ => pg_name (i := 3) nd rfl (.inl rfl)) (fun _ _ _ _ _ => pv 3) (fun _ _ _ _ _ => pe_bl)))
      (pss_one (ps_ret (pe_callB (cr_sortT hr.units) (by rfl) T.f_sorted (by decide +kernel) (pa_cons (pe_op op_cat
        (pe_lc (own := [("grant", 3)]) rfl nd (pi_list (pv 0)) (blkOk_by (N := ["grants", "change", "lost", "grant"]) (sc := defScope s_apply_change) (by decide +kernel)) (fun _ _ _ _ _ => pg_name (i := 3) nd rfl (.inl rfl)) (fun _ _ _ _ _ => pts_one (pt_cmp (pc_dnotin hr.u1 (pv 3) (pv 2)))) (fun _ _ _ _ _ => pv 3))
        (pe_callTy call_list_of (by rfl) T.f_list (by decide +kernel) (pa_cons (pe_ix ix_tup (pv 1) pe_int (fun _ _ => rfl)) pa_nil))) pa_nil))))), ?_⟩
    obtain ⟨g, l, ec, gg, gl⟩ := id hc
    refine ⟨_, rfl, _, rfl, a, c, ts, gs, ls, rfl, ga, hc, ht, fun H0 kp0 => ?_⟩
    rw [al]
    refine ⟨_, rfl, iteN rfl ?_⟩
    have gl0 := gl.kp0 kp0
    delta tNext gName tSeq tAsg tRet; dsimp only
    refine rd_true (tl := tOp (rIxT K) (tVar 1) (tC (.int 1))) (i := 3) (σ := [some (.ref a), some (.ref c), none, none]) (by show 3 < 4; decide) ⟨_, rfl, c, _, 1, .ref l, rfl, rfl, SqT.of (kp0.tup0 ec), rfl, l, ls, rfl, gl0.at_, gl0.nd, by have := gl.len; omega, fun D1 H1 hD1 kp1 hd1 => ?_⟩ fun Q Q' m q => by
      obtain ⟨v, e, p, xs, i, v3, e3, e4, e5, e6, q⟩ := q
      exact ⟨v, e, p, xs, i, v3, e3, e4, e5, e6, m _ _ q⟩
    have k1 := kp0.trans kp1
    have ga1 := ga.kp0 k1
    delta tCB tCons tOp; dsimp only
    refine rd_lcNot (K := K) (i := 3) (j := 0) (k := 2) (σ := [some (.ref a), some (.ref c), some (.ref D1), none]) (us := ts) (ts := ls) (by show 3 < 4; decide) (by decide) rfl rfl ga1.at_ hd1 (by have := ga.len; omega) fun p H2 ys kp2 hp pr => ?_
    have k2 := k1.trans kp2
    obtain ⟨vs, eg, prg⟩ := (gg.kp0 k2).at_
    refine ⟨_, rfl, c, _, 0, .ref g, rfl, rfl, SqT.of (k2.tup0 ec), rfl, g, vs, rfl, .inl (SqL.of eg), fun q hq => ?_⟩
    have kp3 : Kp Nil H2 (upd H2 q (.lst vs)) := Kp.new hq
    have len : ys.length + vs.length ≤ sizeLine := by
      have a1 : ys.length = (without ts ls).length := pr.length
      have a2 : vs.length = gs.length := prg.length
      have a3 := without_len ts ls
      have a4 := ga.len
      have a5 := gg.len
      rw [sizeLine_eq]
      omega
    refine ⟨p, q, ys, vs, rfl, rfl, kp3.lst0 hp, upd_same, len, fun r hr3 => ?_⟩
    have kp4 : Kp Nil _ (upd (upd H2 q (.lst vs)) r (.lst (ys ++ vs))) := Kp.new hr3
    refine ⟨r, ys ++ vs, without ts ls ++ gs, rfl, SqL.of upd_same, Tri.prs (kp3.trans kp4) (pair_append pr prg), fun zs z prz hz => ?_⟩
    have kp5 : Kp Nil _ (upd (upd (upd H2 q (.lst vs)) r (.lst (ys ++ vs))) z (.lst zs)) := Kp.new hz
    exact k _ z (k2.trans (kp3.trans (kp4.trans kp5))) ((k2.trans (kp3.trans kp4)).fr _ hz) ⟨zs, upd_same, Tri.prs kp5 prz⟩
end
end Au
/-! Authsync: a list comprehension read at once. -/
namespace Au
open PySem PySem.Spec PyProof.Rows L2
/-- tuples aren't touched -/
def TupFree (S : Addr → Prop) (H : Hp) : Prop := ∀ b xs, H b = some (.tup xs) → ¬ S b
theorem tupFree_nil {H : Hp} : TupFree Nil H := fun _ _ _ => id
/-- what holds of a value by tuples alone -/
def Stays {α : Type} (F : Hp → V → α → Prop) : Prop := ∀ (S : Addr → Prop) H H' v a, Kp S H H' → TupFree S H → F H v a → F H' v a
theorem range_sel {α β : Type} (xs : List α) (f : α → Option β) : (List.range xs.length).filterMap (fun i => xs[i]?.bind f) = xs.filterMap f := by
  induction xs with
  | nil => rfl
  | cons x xs ih =>
    rw [List.length_cons, List.range_succ_eq_map, List.filterMap_cons, List.filterMap_map, List.filterMap_cons]
    have e : ((fun i => (x :: xs)[i]?.bind f) ∘ Nat.succ) = fun i => xs[i]?.bind f := by
      funext i
      simp
    rw [e, ih]
    rfl
theorem range_next {β : Type} (sel : Nat → Option β) (n : Nat) : (List.range (n + 1)).filterMap sel = (List.range n).filterMap sel ++ (sel n).toList := by
  rw [List.range_succ, List.filterMap_append]
  cases e : sel n <;> simp [List.filterMap_cons, e]
theorem lc_sel {α : Type} {J : It} {n : Nat} {G : Hp → Prop} {Y : Nat → Hp → V → Hp → Prop} (w : Walk J n G Y) (F : Hp → V → α → Prop) (hF : Stays F) (sel : Nat → Option α) {g : TG} {tt : TT} {te : TE} {vs : List Nat} {σ : L2.St} {H1 : Hp} {D : Addr} {Qd : Hp → Prop}
    (hD : H1 D = none) (hn : n ≤ 1000000) (hG : ∀ H, Kp Nil H1 H → G H)
    (hs : ∀ i x H H' (N : V → Hp → Prop) (M : Hp → Prop), i < n → Kp Nil H1 H → Y i H x H' → (∀ y H4 a, Kp Nil H H4 → sel i = some a → F H4 y a → N y H4) → (∀ H4, Kp Nil H H4 → sel i = none → M H4) →
      g x (wipe σ vs) H' fun σ2 H2 => wipe σ2 vs = wipe σ vs ∧ tt σ2 H2 fun b H3 => if b = true then te σ2 H3 N else M H3)
    (hd : ∀ H ys, Kp Nil H1 H → H D = some (.lst ys) → Paired (F H) ys ((List.range n).filterMap sel) → Qd H) :
    ∃ W : Nat → Nat → Hp → Prop, (∃ m, W 0 m (upd H1 D (.lst []))) ∧ ∀ i m H, W i m H →
      (J.stop i H ∧ Qd H) ∨ (J.go i H ∧ ∃ Nx : Hp → Prop, (∀ H', Nx H' → ∃ m', m' < m ∧ W (i + 1) m' H') ∧ ∀ x H', J.yld i H x H' → g x (wipe σ vs) H' fun σ2 H2 => wipe σ2 vs = wipe σ vs ∧ tt σ2 H2 fun b H3 =>
        if b = true then te σ2 H3 fun y H4 => ∃ acc, H4 D = some (.lst acc) ∧ acc.length < sizeLine ∧ Nx (upd H4 D (.lst (acc ++ [y]))) else Nx H3) := by
  refine lc_it w (fun i H => Kp Nil H1 H ∧ ∃ ys, H D = some (.lst ys) ∧ ys.length ≤ i ∧ Paired (F H) ys ((List.range i).filterMap sel)) ⟨Kp.new hD, [], upd_same, Nat.zero_le _, .nil⟩ (fun i H _ p => hG H p.1) (fun i x H H' hi p y => ?_) fun H p => ?_
  · obtain ⟨kp, ys, e, hl, pr⟩ := p
    refine hs i x H H' _ _ hi kp y (fun v H4 a k4 sa fa => ?_) fun H4 k4 sa => ?_
    · have e4 := k4.lst0 e
      refine ⟨ys, e4, by rw [sizeLine_eq]; omega, (kp.trans k4).fill hD, _, upd_same, by rw [List.length_append]; show ys.length + 1 ≤ i + 1; omega, ?_⟩
      have kd : Kp (fun b => b = D) H4 (upd H4 D (.lst (ys ++ [v]))) := Kp.put e4 (fun _ z => by cases z) rfl
      have td : TupFree (fun b => b = D) H4 := fun b xs z zb => by rw [zb, e4] at z; cases z
      rw [range_next, sa]
      exact pair_append (Paired.mapP pr fun _ _ z => hF _ _ _ _ _ kd td (hF _ _ _ _ _ k4 tupFree_nil z)) (.cons (hF _ _ _ _ _ kd td fa) .nil)
    · refine ⟨kp.trans k4, ys, k4.lst0 e, by omega, ?_⟩
      rw [range_next, sa]
      show Paired _ _ (_ ++ [])
      rw [List.append_nil]
      exact Paired.mapP pr fun _ _ z => hF _ _ _ _ _ k4 tupFree_nil z
  · obtain ⟨kp, ys, e, hl, pr⟩ := p
    exact hd H ys kp e pr
end Au
/-! Authsync: schema as it lies in the heap; entry_of, definition. -/
namespace Au
open PySem PySem.Spec PyProof.Rows L2
/-- an entry of a type: its name, a relation or a permission, and its parts (pairs or triples of texts) -/
structure Ent where
  name : Str
  rel : Bool
  parts : List (List Str)
  deriving DecidableEq
def Ent.kind (e : Ent) : Str := if e.rel then "relation" else "permission"
abbrev Sch := List (Str × List Ent)
def PartAt (H : Hp) (v : V) (p : List Str) : Prop := ∃ a, v = .ref a ∧ H a = some (.tup (p.map V.str))
def EntAt (H : Hp) (v : V) (e : Ent) : Prop := ∃ p q ws, v = .ref p ∧ H p = some (.tup [.str e.name, .str e.kind, .ref q]) ∧ H q = some (.tup ws) ∧ Paired (PartAt H) ws e.parts
def TypAt (H : Hp) (v : V) (t : Str × List Ent) : Prop := ∃ p q ws, v = .ref p ∧ H p = some (.tup [.str t.1, .ref q]) ∧ H q = some (.tup ws) ∧ Paired (EntAt H) ws t.2
def SchAt (H : Hp) (a : Addr) (S : Sch) : Prop := ∃ vs, H a = some (.tup vs) ∧ Paired (TypAt H) vs S
section
variable {S : Addr → Prop} {H H' : Hp} (k : Kp S H H') (n : TupFree S H)
include k n
theorem PartAt.kp {v : V} {p : List Str} (h : PartAt H v p) : PartAt H' v p := by
  obtain ⟨a, rfl, e⟩ := h
  exact ⟨a, rfl, k.tup e (n _ _ e)⟩
theorem EntAt.kp {v : V} {e : Ent} (h : EntAt H v e) : EntAt H' v e := by
  obtain ⟨p, q, ws, rfl, e1, e2, pr⟩ := h
  exact ⟨p, q, ws, rfl, k.tup e1 (n _ _ e1), k.tup e2 (n _ _ e2), Paired.mapP pr fun _ _ z => z.kp k n⟩
theorem TypAt.kp {v : V} {t : Str × List Ent} (h : TypAt H v t) : TypAt H' v t := by
  obtain ⟨p, q, ws, rfl, e1, e2, pr⟩ := h
  exact ⟨p, q, ws, rfl, k.tup e1 (n _ _ e1), k.tup e2 (n _ _ e2), Paired.mapP pr fun _ _ z => z.kp k n⟩
theorem SchAt.kp {a : Addr} {T : Sch} (h : SchAt H a T) : SchAt H' a T := by
  obtain ⟨ws, e1, pr⟩ := h
  exact ⟨ws, k.tup e1 (n _ _ e1), Paired.mapP pr fun _ _ z => z.kp k n⟩
end
theorem SchAt.kp0 {H H' : Hp} (k : Kp Nil H H') {a : Addr} {T : Sch} (h : SchAt H a T) : SchAt H' a T := h.kp k tupFree_nil
theorem EntAt.kp0 {H H' : Hp} (k : Kp Nil H H') {v : V} {e : Ent} (h : EntAt H v e) : EntAt H' v e := h.kp k tupFree_nil
theorem TypAt.kp0 {H H' : Hp} (k : Kp Nil H H') {v : V} {t : Str × List Ent} (h : TypAt H v t) : TypAt H' v t := h.kp k tupFree_nil
theorem PartAt.kp0 {H H' : Hp} (k : Kp Nil H H') {v : V} {e : List Str} (h : PartAt H v e) : PartAt H' v e := h.kp k tupFree_nil
/-- code that isn't come to -/
theorem pe_never {X : Cx} {e : Expr} : PE X e (fun _ _ _ => False) := ⟨fun _ _ _ _ _ _ h => h.elim⟩
theorem pt_never {X : Cx} {e : Expr} : PT X e (fun _ _ _ => False) := ⟨fun _ _ _ _ _ _ h => h.elim⟩
/-! ### entry_of -/
def entIn (es : List Ent) (n : Str) : Option Ent := es.find? fun e => decide (e.name = n)
def findE : Sch → Str → Str → Option Ent
  | [], _, _ => none
  | t :: r, k, n => if t.1 = k then (match entIn t.2 n with | some e => some e | none => findE r k n) else findE r k n
theorem findE_cons (t : Str × List Ent) (r : Sch) (k n : Str) : findE (t :: r) k n = if t.1 = k then (match entIn t.2 n with | some e => some e | none => findE r k n) else findE r k n := rfl
theorem entIn_cons (e : Ent) (es : List Ent) (n : Str) : entIn (e :: es) n = if e.name = n then some e else entIn es n := by
  unfold entIn
  rw [List.find?_cons]
  by_cases h : e.name = n
  · rw [if_pos h, decide_eq_true h]
  · rw [if_neg h, decide_eq_false h]
theorem drop_next {α : Type} {xs : List α} {i : Nat} {x : α} (h : xs[i]? = some x) : xs.drop i = x :: xs.drop (i + 1) := by
  obtain ⟨lt, e⟩ := List.getElem?_eq_some_iff.mp h
  rw [← e]
  exact List.drop_eq_getElem_cons lt
def spEntryOf : Sp := fun vs H Q _ => ∃ a S k n, vs = [.ref a, .str k, .str n] ∧ SchAt H a S ∧ ∀ H', Kp Nil H H' → (findE S k n = none → Q .non H') ∧ ∀ v e, findE S k n = some e → EntAt H' v e → Q v H'
section
variable {P : Program} {w : World} {K : PySem.W.Frag} {mg : Str → Option Value} {base : Heap}
theorem sc_entry_of : FnScope ["schema", "kind", "name", "other", "entries", "entry"] ["schema", "kind", "name"] (defScope s_entry_of) := ⟨rfl, rfl, rfl, by decide +kernel, rfl, by decide +kernel, by decide +kernel⟩
theorem ok_entry_of (T : Top K mg base) : Cal P w K mg base CX0 1 ("entry_of", none) ["schema", "kind", "name"] spEntryOf := by
  obtain ⟨fd, F⟩ := T.d_entry_of
  refine ⟨⟨fd, FunD.ok F sc_entry_of (fun vs H Q E h => ?_) (fun cdv A outer s H vs Q E hr h => ?_), FunD.bindsN F fun _ _ _ _ _ _ us hl => match us, hl with | [_, _, _], _ => rfl⟩, F.kp⟩
  · obtain ⟨a, S, k, n, rfl, _⟩ := h
    rfl
  · obtain ⟨a, S, k, n, rfl, ⟨vs, ea, pr⟩, q⟩ := h
    have nd := sc_entry_of.nd
    refine ⟨_, pss_cons (ps_for (passes_of rfl) rfl (pi_tup (pv 0)) (pg_tup rfl (pgs_cons (pg_name (i := 3) nd rfl (.inl rfl)) (pgs_cons (pg_name (i := 4) nd rfl (.inl rfl)) pgs_nil)))
        (pss_one (ps_if (pt_cmpR op_eq (pv 3) (pv 1) (nomark _))
          (pss_one (ps_for (passes_of rfl) rfl (pi_tup (pv 4)) (pg_name (i := 5) nd rfl (.inl rfl))
            (pss_one (ps_if (pt_cmpR op_eq (pe_ix ix_tup (pv 5) pe_int (fun _ _ => rfl)) (pv 2) (nomark _)) (pss_one (ps_ret (pv 5))) pss_nil)))) pss_nil)))
      (pss_one (ps_ret pe_non)), ?_⟩
    have hlen : vs.length = S.length := pr.length
    refine ⟨_, rfl, a, rfl, ⟨_, SqT.of ea⟩, ?_⟩
    refine for_it (walk_tup (K := K) (a := a) (xs := vs)) (fun i σ H' => H' = H ∧ findE (S.drop i) k n = findE S k n ∧ ∃ x y z, σ = [some (.ref a), some (.str k), some (.str n), x, y, z]) ⟨rfl, rfl, _, _, _, rfl⟩ (fun i σ H' _ p => by rw [p.1]; exact SqT.of ea) (fun i x σ H1 H2 hi p y => ?_) fun σ H' p => ?_
    · obtain ⟨rfl, hx⟩ := y
      obtain ⟨rfl, hf, x1, x2, x3, rfl⟩ := p
      obtain ⟨t, ht, p, c, ws, rfl, e1, e2, pr2⟩ := pair_get pr hx
      rw [drop_next ht, findE_cons] at hf
      refine ⟨p, _, rfl, SqT.of e1, rfl, _, _, rfl, _, _, rfl, rfl, ?_⟩
      refine ⟨_, rfl, _, rfl, rfl, _, rfl, itb (fun c1 => ?_) fun c1 => ?_⟩
      · have c1 : t.1 = k := V.str.inj (of_decide_eq_true c1)
        rw [if_pos c1] at hf
        refine ⟨_, rfl, c, rfl, ⟨_, SqT.of e2⟩, ?_⟩
        have hlen2 : ws.length = t.2.length := pr2.length
        refine for_it (walk_tup (K := K) (a := c) (xs := ws)) (fun j σ H' => H' = H2 ∧ entIn (t.2.drop j) n = entIn t.2 n ∧ ∃ z, σ = [some (.ref a), some (.str k), some (.str n), some (.str t.1), some (.ref c), z]) ⟨rfl, rfl, _, rfl⟩ (fun i σ H' _ p => by rw [p.1]; exact SqT.of e2) (fun j x σ H1 H3 hj p y => ?_) fun σ H' p => ?_
        · obtain ⟨rfl, hx⟩ := y
          obtain ⟨rfl, hf2, x4, rfl⟩ := p
          obtain ⟨e, he, u, c2, ws2, rfl, e3, e4, pr4⟩ := pair_get pr2 hx
          rw [drop_next he, entIn_cons] at hf2
          refine ⟨_, rfl, u, _, 0, _, rfl, rfl, SqT.of e3, rfl, _, rfl, rfl, _, rfl, itb (fun c1 => ?_) fun c1 => ?_⟩
          · have c1 : e.name = n := V.str.inj (of_decide_eq_true c1)
            rw [if_pos c1] at hf2
            refine ⟨_, rfl, (q H3 Kp.refl).2 _ e ?_ ⟨u, c2, ws2, rfl, e3, e4, pr4⟩⟩
            rw [← hf, ← hf2]
          · have c1 : ¬ e.name = n := fun z => of_decide_eq_false c1 (by rw [z])
            rw [if_neg c1] at hf2
            exact ⟨rfl, hf2, _, rfl⟩
        · obtain ⟨rfl, hf2, x4, rfl⟩ := p
          refine ⟨rfl, ?_, _, _, _, rfl⟩
          rw [← hf]
          rw [hlen2, List.drop_length] at hf2
          rw [← hf2]
          rfl
      · have c1 : ¬ t.1 = k := fun z => of_decide_eq_false c1 (by rw [z])
        rw [if_neg c1] at hf
        exact ⟨rfl, hf, _, _, _, rfl⟩
    · obtain ⟨rfl, hf, _⟩ := p
      rw [hlen, List.drop_length] at hf
      exact (q H' Kp.refl).1 hf.symm
/-! ### definition -/
def DefAt (H : Hp) (v : V) (e : Ent) : Prop := ∃ p q ws, v = .ref p ∧ H p = some (.tup [.str e.kind, .ref q]) ∧ H q = some (.tup ws) ∧ Paired (PartAt H) ws e.parts
theorem DefAt.kp0 {H H' : Hp} (k : Kp Nil H H') {v : V} {e : Ent} (h : DefAt H v e) : DefAt H' v e := by
  obtain ⟨p, q, ws, rfl, e1, e2, pr⟩ := h
  exact ⟨p, q, ws, rfl, k.tup0 e1, k.tup0 e2, Paired.mapP pr fun _ _ z => z.kp0 k⟩
def spDefinition : Sp := fun vs H Q _ => ∃ a S k n, vs = [.ref a, .str k, .str n] ∧ SchAt H a S ∧ ∀ H', Kp Nil H H' → (findE S k n = none → Q .non H') ∧ ∀ v e, findE S k n = some e → DefAt H' v e → Q v H'
theorem sc_definition : FnScope ["schema", "kind", "name", "entry"] ["schema", "kind", "name"] (defScope s_definition) := ⟨rfl, rfl, rfl, by decide +kernel, rfl, by decide +kernel, by decide +kernel⟩
theorem ok_definition (T : Top K mg base) : Cal P w K mg base CX0 2 ("definition", none) ["schema", "kind", "name"] spDefinition := by
  obtain ⟨fd, F⟩ := T.d_definition
  have cs := ok_entry_of (P := P) (w := w) T
  obtain ⟨fd1, F1, b1⟩ := cs.ex
  refine ⟨⟨fd, FunD.ok F sc_definition (fun vs H Q E h => ?_) (fun cdv A outer s H vs Q E hr h => ?_), FunD.bindsN F fun _ _ _ _ _ _ us hl => match us, hl with | [_, _, _], _ => rfl⟩, F.kp⟩
  · obtain ⟨a, S, k, n, rfl, _⟩ := h
    rfl
  · obtain ⟨a, S, k, n, rfl, hs, q⟩ := h
    have nd := sc_definition.nd
    refine ⟨_, pss_cons (ps_set (i := 3) nd rfl (.inl rfl) (pe_call F1 hr rfl T.g_entry_of cs.kp b1 .nil pass0 (pa_cons (pv 0) (pa_cons (pv 1) (pa_cons (pv 2) pa_nil)))))
      (pss_one (ps_ret (pe_ifExp (pt_cmp (pc_isN (pv 3))) pe_non (pe_tup (pa_cons (pe_ix ix_tup (pv 3) pe_int (fun _ _ => rfl)) (pa_cons (pe_ix ix_tup (pv 3) pe_int (fun _ _ => rfl)) pa_nil)))))), ?_⟩
    refine ⟨_, rfl, _, rfl, _, rfl, a, S, k, n, rfl, hs, fun H1 k1 => ⟨fun hf => ?_, fun v e hf he => ?_⟩⟩
    · exact ⟨_, rfl, _, rfl, (q H1 k1).1 hf⟩
    · obtain ⟨p, c, ws, rfl, e1, e2, pr⟩ := he
      refine ⟨_, rfl, _, rfl, _, rfl, p, _, 1, _, rfl, rfl, SqT.of e1, rfl, _, rfl, p, _, 2, _, rfl, rfl, SqT.of e1, rfl, by show 2 ≤ sizeLine; decide, fun r hr => ?_⟩
      have k2 : Kp Nil H1 (upd H1 r (.tup [.str e.kind, .ref c])) := Kp.new hr
      exact (q _ (k1.trans k2)).2 _ e hf ⟨r, c, ws, rfl, upd_same, k2.tup0 e2, Paired.mapP pr fun _ _ z => z.kp0 k2⟩
/-! ### needs_of -/
abbrev Need := Str × Str × Bool
def NeedAt (H : Hp) (v : V) (n : Need) : Prop := ∃ a, v = .ref a ∧ H a = some (.tup [.str n.1, .str n.2.1, .bl n.2.2])
theorem NeedAt.kp0 {H H' : Hp} (k : Kp Nil H H') {v : V} {n : Need} (h : NeedAt H v n) : NeedAt H' v n := by
  obtain ⟨a, rfl, e⟩ := h
  exact ⟨a, rfl, k.tup0 e⟩
theorem NeedAt.stays : Stays NeedAt := fun _ H H' v n k t h => by
  obtain ⟨a, rfl, e⟩ := h
  exact ⟨a, rfl, k.tup e (t _ _ e)⟩
def needR : List Str → Option Need
  | [o, i] => if i = "" then none else some (o, i, false)
  | _ => none
def needP (k : Str) : List Str → Option Need
  | [op, _, n] => some (k, n, decide (op = "-"))
  | _ => none
def needsL (k : Str) (e : Ent) : List Need := if e.rel then e.parts.filterMap needR else e.parts.filterMap (needP k)
/-- as in our schema: pairs; terms of the type's own names -/
def Ent.Plain (e : Ent) : Prop := if e.rel then ∀ p ∈ e.parts, ∃ o i, p = [o, i] else ∀ p ∈ e.parts, ∃ op n, p = [op, ("" : Str), n]
def NeedL (H : Hp) (l : Addr) (ns : List Need) : Prop := ∃ vs, H l = some (.lst vs) ∧ Paired (NeedAt H) vs ns
def spNeeds : Sp := fun vs H Q _ => ∃ a k v e, vs = [.ref a, .str k, v] ∧ EntAt H v e ∧ e.Plain ∧ e.parts.length ≤ 100 ∧ ∀ H' l, Kp Nil H H' → NeedL H' l (needsL k e) → Q (.ref l) H'
theorem sc_needs_of : FnScope ["schema", "kind", "entry", "found", "operator", "relation", "name", "kinds", "other", "inner"] ["schema", "kind", "entry"] (defScope s_needs_of) := ⟨rfl, rfl, rfl, by decide +kernel, rfl, by decide +kernel, by decide +kernel⟩
theorem ok_needs_of (T : Top K mg base) : Cal P w K mg base CX0 2 ("needs_of", none) ["schema", "kind", "entry"] spNeeds := by
  obtain ⟨fd, F⟩ := T.d_needs_of
  refine ⟨⟨fd, FunD.ok F sc_needs_of (fun vs H Q E h => ?_) (fun cdv A outer s H vs Q E hr h => ?_), FunD.bindsN F fun _ _ _ _ _ _ us hl => match us, hl with | [_, _, _], _ => rfl⟩, F.kp⟩
  · obtain ⟨a, k, v, e, rfl, _⟩ := h
    rfl
  · obtain ⟨a, k, v, e, rfl, he, hp, hl, q⟩ := h
    have nd := sc_needs_of.nd
    refine ⟨_, pss_cons (ps_if (pt_cmpR op_eq (pe_ix ix_tup (pv 2) pe_int (fun _ _ => rfl)) pe_str (nomark _))
        (pss_one (ps_ret (pe_lc (g := gTup K 2 (gCons (gName 8) (gCons (gName 9) gNil))) (own := [("other", 8), ("inner", 9)]) rfl nd (pi_tup (pe_ix ix_tup (pv 2) pe_int (fun _ _ => rfl))) (blkOk_by (N := ["schema", "kind", "entry", "found", "operator", "relation", "name", "kinds", "other", "inner"]) (sc := defScope s_needs_of) (by decide +kernel))
          (fun _ _ _ _ _ => pg_tup rfl (pgs_cons (pg_name (i := 8) nd rfl (.inl rfl) (.inr rfl)) (pgs_cons (pg_name (i := 9) nd rfl (.inl rfl) (.inr rfl)) pgs_nil)))
          (fun _ _ _ _ _ => pts_one (pt_cmpR op_ne (pv 9) pe_str (nomark _)))
          (fun _ _ _ _ _ => pe_tup (pa_cons (pv 8) (pa_cons (pv 9) (pa_cons pe_bl pa_nil))))))) pss_nil)
      (pss_cons (ps_set (i := 3) nd rfl (.inl rfl) (pe_lst pa_nil))
      (pss_cons (ps_for (passes_of rfl) rfl (pi_tup (pe_ix ix_tup (pv 2) pe_int (fun _ _ => rfl))) (pg_tup rfl (pgs_cons (pg_name (i := 4) nd rfl (.inr rfl)) (pgs_cons (pg_name (i := 5) nd rfl (.inl rfl)) (pgs_cons (pg_name (i := 6) nd rfl (.inr rfl)) pgs_nil))))
        (pss_cons (ps_set (i := 7) nd rfl (.inl rfl) (pe_ifExp (pt_cmpR op_eq (pv 5) pe_str (nomark _)) (pe_lst (pa_cons (pv 1) pa_nil)) pe_never))
        (pss_one (ps_expr (pe_bm PySem.F.plainAttrs_list PySem.F.slot_list_extend PySem.F.type_list_extend mt_extend (pv 3) (pa_cons
          (pe_lc (own := [("other", 8)]) rfl nd (pi_list (pv 7)) (blkOk_by (N := ["schema", "kind", "entry", "found", "operator", "relation", "name", "kinds", "other", "inner"]) (sc := defScope s_needs_of) (by decide +kernel))
            (fun _ _ _ _ _ => pg_name (i := 8) nd rfl (.inl rfl)) (fun _ _ _ _ _ => pts_nil)
            (fun _ _ _ _ _ => pe_tup (pa_cons (pv 8) (pa_cons (pv 6) (pa_cons (pe_cmpR op_eq (pv 4) pe_str (nomark _)) pa_nil))))) pa_nil))))))
      (pss_one (ps_ret (pv 3))))), ?_⟩
    obtain ⟨p, c, ws, rfl, e1, e2, pr⟩ := he
    have hlen : ws.length = e.parts.length := pr.length
    refine ⟨_, rfl, p, _, 1, _, rfl, rfl, SqT.of e1, rfl, rfl, _, rfl, itb (fun c1 => ?_) fun c1 => ?_⟩
    · have er : e.rel = true := by
        cases z : e.rel with
        | true => rfl
        | false =>
          have : e.kind = "relation" := V.str.inj (of_decide_eq_true c1)
          unfold Ent.kind at this
          rw [z] at this
          exact absurd this (by decide +kernel)
      unfold Ent.Plain at hp
      rw [if_pos er] at hp
      refine ⟨_, rfl, p, _, 2, _, rfl, rfl, SqT.of e1, rfl, c, rfl, ⟨_, SqT.of e2⟩, fun D hD => ?_⟩
      refine lc_sel (walk_tup (K := K) (a := c) (xs := ws)) NeedAt NeedAt.stays (fun i => e.parts[i]?.bind needR) hD (by omega) (fun H' k' => SqT.of (k'.tup0 e2)) (fun i x H1 H2 N M hi k1 y hN hM => ?_) fun H1 ys k1 hd pr2 => ?_
      · obtain ⟨rfl, hx⟩ := y
        obtain ⟨pt, hpt, u, rfl, e3⟩ := pair_get pr hx
        obtain ⟨o, i', rfl⟩ := hp pt (List.mem_of_getElem? hpt)
        rw [hpt] at hN hM
        refine ⟨u, _, rfl, SqT.of (k1.tup0 e3), rfl, _, _, rfl, _, _, rfl, rfl, rfl, ?_⟩
        refine ⟨_, rfl, rfl, _, rfl, itb (fun c2 => ?_) fun c2 => ?_⟩
        · have c2 : ¬ i' = "" := fun z => by rw [z] at c2; exact absurd c2 (by decide +kernel)
          refine ⟨_, rfl, _, rfl, by show 3 ≤ sizeLine; decide, fun r hr => ?_⟩
          exact hN (.ref r) _ (o, i', false) (Kp.new hr) (if_neg c2) ⟨r, rfl, upd_same⟩
        · have c2 : i' = "" := by
            by_cases z : i' = ""
            · exact z
            · rw [decide_eq_false (fun q => z (V.str.inj q))] at c2
              cases c2
          exact hM H2 Kp.refl (if_pos c2)
      · refine q H1 D k1 ⟨ys, hd, ?_⟩
        rw [hlen, range_sel] at pr2
        unfold needsL
        rw [if_pos er]
        exact pr2
    · have er : e.rel = false := by
        cases z : e.rel with
        | false => rfl
        | true =>
          unfold Ent.kind at c1
          rw [z] at c1
          exact absurd c1 (by decide +kernel)
      unfold Ent.Plain at hp
      rw [er] at hp
      have hp : ∀ p ∈ e.parts, ∃ op n, p = [op, ("" : Str), n] := hp
      refine ⟨by show 0 ≤ sizeLine; decide, fun l hl0 => ?_⟩
      refine ⟨_, rfl, p, _, 2, _, rfl, rfl, SqT.of (o1 e1 hl0), rfl, c, rfl, ⟨_, SqT.of (o1 e2 hl0)⟩, ?_⟩
      refine for_it (walk_tup (K := K) (a := c) (xs := ws)) (fun i σ H' => Kp Nil H H' ∧ (∃ ys, H' l = some (.lst ys) ∧ ys.length = i ∧ Paired (NeedAt H') ys ((e.parts.take i).filterMap (needP k))) ∧ ∃ x1 x2 x3 x4 x5 x6, σ = [some (.ref a), some (.str k), some (.ref p), some (.ref l), x1, x2, x3, x4, x5, x6])
        ⟨Kp.new hl0, ⟨[], upd_same, rfl, .nil⟩, _, _, _, _, _, _, rfl⟩ (fun i σ H' _ p => SqT.of (p.1.tup0 e2)) (fun i x σ H1 H2 hi p y => ?_) fun σ H' p => ?_
      · obtain ⟨rfl, hx⟩ := y
        obtain ⟨k1, ⟨ys, hy, hyl, pr1⟩, x1, x2, x3, x4, x5, x6, rfl⟩ := p
        obtain ⟨pt, hpt, u, rfl, e3⟩ := pair_get pr hx
        obtain ⟨op, n, rfl⟩ := hp pt (List.mem_of_getElem? hpt)
        refine ⟨u, _, rfl, SqT.of (k1.tup0 e3), rfl, _, _, rfl, _, _, rfl, _, _, rfl, rfl, ?_⟩
        refine ⟨_, rfl, rfl, _, rfl, iteY (by decide +kernel) ⟨_, rfl, by show 1 ≤ sizeLine; decide, fun m hm => ?_⟩⟩
        have k2 : Kp Nil H2 (upd H2 m (.lst [.str k])) := Kp.new hm
        refine ⟨_, rfl, .inl ⟨rfl, _, .inl (.inl (k2.lst0 hy))⟩, ?_⟩
        refine ⟨_, rfl, m, rfl, ⟨_, SqL.of upd_same⟩, fun D hD => ?_⟩
        refine lc_sel (walk_list (K := K) (a := m) (xs := [.str k])) NeedAt NeedAt.stays (fun i => needP k [op, "", n]) hD (by show 1 ≤ 1000000; decide) (fun H' k' => SqL.of (k'.lst0 upd_same)) (fun j x H3 H4 N M hj k3 y hN hM => ?_) fun H5 zs k5 hz pz => ?_
        · obtain ⟨rfl, hx⟩ := y
          have ex : x = .str k := by
            match j, hj, hx with
            | 0, _, hx => exact (Option.some.inj hx).symm
            | j + 1, hj, _ => exact absurd hj (by show ¬ j + 1 < 1; omega)
          subst ex
          refine ⟨rfl, ?_⟩
          refine ⟨_, rfl, _, rfl, _, rfl, rfl, by show 3 ≤ sizeLine; decide, fun r hr => ?_⟩
          refine hN (.ref r) _ (k, n, decide (op = "-")) (Kp.new hr) rfl ⟨r, rfl, ?_⟩
          have : decide (V.str op = V.str "-") = decide (op = "-") := by
            by_cases z : op = "-"
            · rw [z]; decide +kernel
            · rw [decide_eq_false z, decide_eq_false fun q => z (V.str.inj q)]
          show upd H4 r (.tup [.str k, .str n, .bl (decide (V.str op = V.str "-"))]) r = _
          rw [this]
          exact upd_same
        · have pz : Paired (NeedAt H5) zs [(k, n, decide (op = "-"))] := pz
          have zl : zs.length = 1 := pz.length
          have k25 := k2.trans k5
          have kl : Kp (fun b => b = l) H5 (upd H5 l (.lst (ys ++ zs))) := Kp.put (k25.lst0 hy) (fun _ z => by cases z) rfl
          have tl : TupFree (fun b => b = l) H5 := fun b xs z zb => by rw [zb, k25.lst0 hy] at z; cases z
          refine ⟨l, D, ys, zs, rfl, rfl, k25.lst0 hy, hz, by rw [sizeLine_eq]; omega, (k1.trans k25).fill hl0, ⟨_, upd_same, by rw [List.length_append]; omega, ?_⟩, _, _, _, _, _, _, rfl⟩
          rw [take_next hpt, List.filterMap_append]
          refine pair_append (Paired.mapP pr1 fun _ _ z => NeedAt.stays _ _ _ _ _ kl tl (NeedAt.stays _ _ _ _ _ k25 tupFree_nil z)) (Paired.mapP pz fun _ _ z => NeedAt.stays _ _ _ _ _ kl tl z)
      · obtain ⟨k1, ⟨ys, hy, hyl, pr1⟩, x1, x2, x3, x4, x5, x6, rfl⟩ := p
        refine ⟨_, rfl, q H' l k1 ⟨ys, hy, ?_⟩⟩
        rw [hlen, List.take_length] at pr1
        unfold needsL
        rw [er]
        exact pr1
end
end Au
/-! Authsync: strata. -/
namespace Au
open PySem PySem.Spec PyProof.Rows L2
def key2 (p : Str × Str) : List Key := [.inr p.1, .inr p.2]
theorem key2_inj {p q : Str × Str} (h : key2 p = key2 q) : p = q := by
  obtain ⟨a, b⟩ := p
  obtain ⟨c, d⟩ := q
  simp only [key2, List.cons.injEq, Sum.inr.injEq, and_true] at h
  rw [h.1, h.2]
theorem key2_v (p : Str × Str) : (key2 p).map kV = [V.str p.1, V.str p.2] := rfl
abbrev KE := Str × Ent
def keyE (t : KE) : Str × Str := (t.1, t.2.name)
def flatS (S : Sch) : List KE := S.flatMap fun t => t.2.map fun e => (t.1, e)
abbrev Lev := Str × Str → Int
def enc (E : List KE) (f : Lev) : List (List Key × V) := E.map fun t => (key2 (keyE t), V.int (f (keyE t)))
def needI (f : Lev) (n : Need) : Int := f (n.1, n.2.1) + if n.2.2 = true then 1 else 0
def rise (f : Lev) (t : KE) : Int := match (needsL t.1 t.2).map (needI f) with
  | [] => 0
  | n :: r => r.foldl max n
def riseF (E : List KE) (f : Lev) : Lev := fun p => match E.find? (fun t => decide (keyE t = p)) with
  | some t => rise f t
  | none => 0
def lev0 : Lev := fun _ => 0
def lev (S : Sch) : Lev := riseF (flatS S) lev0
structure StrOk (S : Sch) : Prop where
  nd : ((flatS S).map keyE).Nodup
  plain : ∀ t ∈ flatS S, t.2.Plain ∧ t.2.parts.length ≤ 100
  tgt : ∀ t ∈ flatS S, ∀ n ∈ needsL t.1 t.2, (n.1, n.2.1) ∈ (flatS S).map keyE
  len : (flatS S).length ≤ 1000
  first : ((flatS S).all fun t => decide (lev S (keyE t) = 0)) = false
  second : ∀ t ∈ flatS S, rise (lev S) t = lev S (keyE t)
theorem enc_len (E : List KE) (f : Lev) : (enc E f).length = E.length := List.length_map ..
theorem enc_at {E : List KE} {f : Lev} {p : Str × Str} (h : p ∈ E.map keyE) : valV (enc E f) (key2 p) = some (.int (f p)) := by
  induction E with
  | nil => cases h
  | cons t E ih =>
    by_cases e : keyE t = p
    · show valV ((key2 (keyE t), V.int (f (keyE t))) :: enc E f) _ = _
      rw [valV_pos (by rw [e])]
      rw [e]
    · show valV ((key2 (keyE t), V.int (f (keyE t))) :: enc E f) _ = _
      rw [valV_neg fun z => e (key2_inj z)]
      exact ih ((List.mem_cons.mp h).elim (fun z => absurd z.symm e) id)
theorem enc_none {E : List KE} {f : Lev} {p : Str × Str} (h : p ∉ E.map keyE) : valV (enc E f) (key2 p) = none := by
  induction E with
  | nil => rfl
  | cons t E ih =>
    show valV ((key2 (keyE t), V.int (f (keyE t))) :: enc E f) _ = _
    rw [valV_neg fun z => h (List.mem_cons.mpr (.inl (key2_inj z).symm))]
    exact ih fun z => h (List.mem_cons_of_mem _ z)
theorem enc_put {E : List KE} {f : Lev} {t : KE} (h : keyE t ∉ E.map keyE) : putK (enc E f) (key2 (keyE t)) (.int (f (keyE t))) = enc (E ++ [t]) f := by
  rw [putK_new _ (enc_none h)]
  unfold enc
  rw [List.map_append]
  rfl
theorem riseF_at {E : List KE} {f : Lev} (nd : (E.map keyE).Nodup) {t : KE} (h : t ∈ E) : riseF E f (keyE t) = rise f t := by
  unfold riseF
  have : E.find? (fun u => decide (keyE u = keyE t)) = some t := by
    induction E with
    | nil => cases h
    | cons u E ih =>
      rw [List.map_cons, List.nodup_cons] at nd
      rw [List.find?_cons]
      by_cases e : u = t
      · rw [e, decide_eq_true rfl]
      · have ht := (List.mem_cons.mp h).elim (fun z => absurd z.symm e) id
        rw [decide_eq_false fun z => nd.1 (by rw [z]; exact List.mem_map_of_mem ht)]
        exact ih nd.2 ht
  rw [this]
/-- lists aren't touched -/
def LstFree (S : Addr → Prop) (H : Hp) : Prop := ∀ b xs, H b = some (.lst xs) → ¬ S b
theorem lstFree_nil {H : Hp} : LstFree Nil H := fun _ _ _ => id
theorem dT_one {H : Hp} {d : Addr} {x : List (List Key × V)} (e : H d = some (.dT x)) (o : HO) : Kp (fun b => b = d) H (upd H d o) ∧ TupFree (fun b => b = d) H ∧ LstFree (fun b => b = d) H :=
  by
  refine ⟨Kp.put e nt_dT rfl, fun b xs z (zb : b = d) => ?_, fun b xs z (zb : b = d) => ?_⟩
  · rw [zb, e] at z
    cases z
  · rw [zb, e] at z
    cases z
theorem NeedL.kp {S : Addr → Prop} {H H' : Hp} (k : Kp S H H') (t : TupFree S H) (n : LstFree S H) {l : Addr} {ns : List Need} (h : NeedL H l ns) : NeedL H' l ns := by
  obtain ⟨vs, e, pr⟩ := h
  exact ⟨vs, k.old _ _ e (n _ _ e) nt_lst, Paired.mapP pr fun _ _ z => NeedAt.stays _ _ _ _ _ k t z⟩
/-- the dict of needs -/
def NeedsD (H : Hp) (d : Addr) (E : List KE) : Prop := ∃ nv : List (List Key × V), H d = some (.dT nv) ∧ nv.map (·.1) = E.map (fun t => key2 (keyE t)) ∧ ∀ t ∈ E, ∃ l, valV nv (key2 (keyE t)) = some (.ref l) ∧ NeedL H l (needsL t.1 t.2)
theorem NeedsD.kp {S : Addr → Prop} {H H' : Hp} (k : Kp S H H') (t : TupFree S H) (n : LstFree S H) {d : Addr} (hd : ¬ S d) {E : List KE} (h : NeedsD H d E) : NeedsD H' d E := by
  obtain ⟨nv, e, m, f⟩ := h
  refine ⟨nv, k.old _ _ e hd nt_dT, m, fun u hu => ?_⟩
  obtain ⟨l, e1, e2⟩ := f u hu
  exact ⟨l, e1, e2.kp k t n⟩
theorem valV_none {nv : List (List Key × V)} {k : List Key} (h : k ∉ nv.map (·.1)) : valV nv k = none := by
  induction nv with
  | nil => rfl
  | cons t nv ih =>
    rw [valV_neg fun z => h (List.mem_cons.mpr (.inl z.symm))]
    exact ih fun z => h (List.mem_cons_of_mem _ z)
theorem key_notin {E : List KE} {t : KE} (h : keyE t ∉ E.map keyE) : key2 (keyE t) ∉ E.map (fun t => key2 (keyE t)) := fun z => by
  obtain ⟨u, hu, e⟩ := List.mem_map.mp z
  exact h (by rw [← key2_inj e]; exact List.mem_map_of_mem hu)
theorem flat_split {S : Sch} {i j : Nat} {t : Str × List Ent} {e : Ent} (ht : S[i]? = some t) (he : t.2[j]? = some e) : ∃ rest, flatS S = (flatS (S.take i) ++ (t.2.take j).map fun e => (t.1, e)) ++ (t.1, e) :: rest := by
  have h1 : S = S.take i ++ t :: S.drop (i + 1) := by
    rw [← drop_next ht, List.take_append_drop]
  have h2 : t.2 = t.2.take j ++ e :: t.2.drop (j + 1) := by
    rw [← drop_next he, List.take_append_drop]
  refine ⟨(t.2.drop (j + 1)).map (fun e => (t.1, e)) ++ flatS (S.drop (i + 1)), ?_⟩
  have h3 : t.2.map (fun e => (t.1, e)) = (t.2.take j).map (fun e => (t.1, e)) ++ (t.1, e) :: (t.2.drop (j + 1)).map (fun e => (t.1, e)) := by
    conv => lhs; rw [h2]
    rw [List.map_append, List.map_cons]
  conv => lhs; rw [h1]
  unfold flatS
  rw [List.flatMap_append, List.flatMap_cons, h3]
  simp
theorem nodup_new {A B : List KE} {t : KE} (h : ((A ++ t :: B).map keyE).Nodup) : keyE t ∉ A.map keyE := fun z => by
  rw [List.map_append] at h
  exact (List.nodup_append.mp h).2.2 _ z _ (List.mem_cons_self ..) rfl
/-- both dicts, so far -/
structure Two (H H' : Hp) (dl dn : Addr) (E : List KE) : Prop where
  k : Kp Nil H H'
  lv : H' dl = some (.dT (enc E lev0))
  nd : NeedsD H' dn E
def IntAt : Hp → V → Int → Prop := fun _ v i => v = .int i
theorem ints_are {H : Hp} {ys : List V} {is : List Int} (h : Paired (IntAt H) ys is) : ys = is.map V.int := by
  induction h with
  | nil => rfl
  | cons r _ ih => rw [ih]; cases r; rfl
theorem Kp.under {S : Addr → Prop} {H H' : Hp} {d : Addr} {f : HO} (nf : ∀ ps, f ≠ .tbl ps) (k : Kp S H H') : Kp S (upd H d f) (upd H' d f) := by
  refine ⟨fun b o e n t => ?_, fun P q => ?_, fun b q => ?_⟩
  · by_cases z : b = d
    · rw [z, upd_same] at e
      rw [z, upd_same, e]
    · rw [upd_ne z] at e
      exact o2 (k.old b o e n t) z
  · obtain ⟨ps, e, r⟩ := q
    have z : d ≠ P := fun z => by
      rw [← z, upd_same] at e
      exact nf ps (Option.some.inj e)
    rw [upd_ne (Ne.symm z)] at e
    exact tabG_upd (k.tab P ⟨ps, e, r⟩) z
  · by_cases z : b = d
    · rw [z, upd_same] at q
      cases q
    · rw [upd_ne z] at q
      have := k.fr b q
      rw [upd_ne z]
      exact this
theorem int62 {n : Nat} (h : n ≤ 1000000) : -(2 ^ 62) ≤ (n : Int) + 1 ∧ (n : Int) + 1 < 2 ^ 62 := by
  have : (2 : Int) ^ 62 = 4611686018427387904 := by decide
  omega
def spStrata : Sp := fun vs H Q _ => ∃ a S, vs = [.ref a] ∧ SchAt H a S ∧ StrOk S ∧ ∀ H' d, Kp Nil H H' → H' d = some (.dT (enc (flatS S) (lev S))) → Q (.ref d) H'
section
variable {P : Program} {w : World} {K : PySem.W.Frag} {mg : Str → Option Value} {base : Heap}
theorem sc_strata : FnScope ["schema", "levels", "needs", "kind", "entries", "entry", "round_number", "raised", "pair", "lower", "other", "name", "is_negative"] ["schema"] (defScope s_strata) := ⟨rfl, rfl, rfl, by decide +kernel, rfl, by decide +kernel, by decide +kernel⟩
theorem ok_strata (T : Top K mg base) : Cal P w K mg base CX0 3 ("strata", none) ["schema"] spStrata := by
  obtain ⟨fd, F⟩ := T.d_strata
  have cs := ok_needs_of (P := P) (w := w) T
  obtain ⟨fd1, F1, b1⟩ := cs.ex
  refine ⟨⟨fd, FunD.ok F sc_strata (fun vs H Q E h => ?_) (fun cdv A outer s H vs Q E hr h => ?_), FunD.bindsN F fun _ _ _ _ _ _ us hl => match us, hl with | [_], _ => rfl⟩, F.kp⟩
  · obtain ⟨a, S, rfl, _⟩ := h
    rfl
  · obtain ⟨a, S, rfl, ⟨vs, ea, pr⟩, ok, q⟩ := h
    have nd := sc_strata.nd
    refine ⟨_, pss_cons (ps_set (i := 1) nd rfl (.inr rfl) pe_dnewT)
      (pss_cons (ps_set (i := 2) nd rfl (.inl rfl) pe_dnewT)
      (pss_cons (ps_for (passes_of rfl) rfl (pi_tup (pv 0)) (pg_tup rfl (pgs_cons (pg_name (i := 3) nd rfl (.inl rfl)) (pgs_cons (pg_name (i := 4) nd rfl (.inl rfl)) pgs_nil)))
        (pss_one (ps_for (passes_of rfl) rfl (pi_tup (pv 4)) (pg_name (i := 5) nd rfl (.inl rfl))
          (pss_cons (ps_dput hr.u1 (pv 1) (pe_tup (pa_cons (pv 3) (pa_cons (pe_ix ix_tup (pv 5) pe_int (fun _ _ => rfl)) pa_nil))) pe_int rfl)
          (pss_one (ps_dput hr.u1 (pv 2) (pe_tup (pa_cons (pv 3) (pa_cons (pe_ix ix_tup (pv 5) pe_int (fun _ _ => rfl)) pa_nil))) (pe_call F1 hr rfl T.g_needs_of cs.kp b1 .nil pass0 (pa_cons (pv 0) (pa_cons (pv 3) (pa_cons (pv 5) pa_nil)))) rfl))))))
      (pss_cons (ps_for (passes_of rfl) rfl (pi_range1 (by rfl) T.f_range (pa_cons (pe_add (pe_callB call_len_dT (by rfl) T.f_len PySem.boot_len (pa_cons (pv 1) pa_nil)) pe_int) pa_nil)) (pg_name (i := 6) nd rfl (.inl rfl))
        (pss_cons (ps_set (i := 7) nd rfl (.inl rfl) pe_dnewT)
        (pss_cons (ps_lock (ps_for (passes_of rfl) rfl (pi_keys (pv 1)) (pg_name (i := 8) nd rfl (.inl rfl))
          (pss_cons (ps_setLc (i := 9) (g := gTup K 3 (gCons (gName 10) (gCons (gName 11) (gCons (gName 12) gNil)))) (own := [("other", 10), ("name", 11), ("is_negative", 12)]) rfl nd rfl rfl (sw_true rfl rfl rfl rfl) (pi_list (pe_dget hr.u1 (pv 2) (pv 8) (fun _ _ => rfl)))
              (blkOk_by (N := ["schema", "levels", "needs", "kind", "entries", "entry", "round_number", "raised", "pair", "lower", "other", "name", "is_negative"]) (sc := defScope s_strata) (by decide +kernel))
              (fun _ _ _ _ _ => pg_tup rfl (pgs_cons (pg_name (i := 10) nd rfl (.inl rfl) (.inr rfl)) (pgs_cons (pg_name (i := 11) nd rfl (.inl rfl) (.inr rfl)) (pgs_cons (pg_name (i := 12) nd rfl (.inl rfl) (.inr rfl)) pgs_nil))))
              (fun _ _ _ _ _ => pts_nil)
              (fun _ _ _ _ _ => pe_add (pe_dget hr.u1 (pv 1) (pe_tup (pa_cons (pv 10) (pa_cons (pv 11) pa_nil))) (fun _ _ => rfl)) (pe_ifExp (pt_val (pv 12)) pe_int pe_int)))
          (pss_one (ps_dput hr.u1 (pv 7) (pv 8) (pe_callBK (cr_maxD rfl hr.units) (by rfl) T.f_max (by decide +kernel) (pa_cons (pv 9) pa_nil) (pk_cons pe_int pk_nil)) rfl)))))
        (pss_cons (ps_if (pt_cmpR (op_eqDT hr.u1) (pv 7) (pv 1) (nomark _)) (pss_one (ps_ret (pv 1))) pss_nil)
        (pss_one (ps_set (i := 1) nd rfl (.inr rfl) (pv 7)))))))
      (pss_one ps_never)))), ?_⟩
    refine fun dl hdl => fun dn hdn => ?_
    have nln : dl ≠ dn := ne_of_none upd_same hdn
    have hdn0 : H dn = none := f1 hdn
    have two0 : Two H (upd (upd H dl (.dT [])) dn (.dT [])) dl dn [] := ⟨(Kp.new hdl).trans (Kp.new hdn), o2 upd_same nln, ⟨[], upd_same, rfl, fun t ht => by cases ht⟩⟩
    have hlen : vs.length = S.length := pr.length
    have eaT : ∀ {H'}, Kp Nil H H' → SqT K H' a vs := fun k => SqT.of (k.tup0 ea)
    refine ⟨_, rfl, a, rfl, ⟨_, eaT two0.k⟩, ?_⟩
    refine for_it (walk_tup (K := K) (a := a) (xs := vs)) (fun i σ H' => Two H H' dl dn (flatS (S.take i)) ∧ ∃ x3 x4 x5, σ = [some (.ref a), some (.ref dl), some (.ref dn), x3, x4, x5, none, none, none, none, none, none, none])
      ⟨two0, _, _, _, rfl⟩ (fun i σ H' _ p => eaT p.1.k) (fun i x σ H1 H2 hi p y => ?_) fun σ H3 p => ?_
    · obtain ⟨rfl, hx⟩ := y
      obtain ⟨two1, x3, x4, x5, rfl⟩ := p
      obtain ⟨t, ht, pt, c, ws, rfl, e1, e2, pr2⟩ := pair_get pr hx
      have hlen2 : ws.length = t.2.length := pr2.length
      refine ⟨pt, _, rfl, SqT.of (two1.k.tup0 e1), rfl, _, _, rfl, _, _, rfl, rfl, ?_⟩
      refine ⟨_, rfl, c, rfl, ⟨_, SqT.of (two1.k.tup0 e2)⟩, ?_⟩
      refine for_it (walk_tup (K := K) (a := c) (xs := ws)) (fun j σ H' => Two H H' dl dn (flatS (S.take i) ++ (t.2.take j).map fun e => (t.1, e)) ∧ ∃ x5, σ = [some (.ref a), some (.ref dl), some (.ref dn), some (.str t.1), some (.ref c), x5, none, none, none, none, none, none, none])
        ⟨by rw [List.take_zero, List.map_nil, List.append_nil]; exact two1, _, rfl⟩ (fun j σ H' _ p => SqT.of (p.1.k.tup0 e2)) (fun j x σ H3 H4 hj p y => ?_) fun σ H3 p => ?_
      · obtain ⟨rfl, hx⟩ := y
        obtain ⟨two2, x5, rfl⟩ := p
        obtain ⟨e, he, he2⟩ := pair_get pr2 hx
        obtain ⟨rest, hsplit⟩ := flat_split ht he
        have hmem : (t.1, e) ∈ flatS S := by rw [hsplit]; exact List.mem_append_right _ (List.mem_cons_self ..)
        generalize hE : (flatS (S.take i) ++ (t.2.take j).map fun e => (t.1, e)) = E at two2 hsplit
        have hnew : keyE (t.1, e) ∉ E.map keyE := nodup_new (by rw [← hsplit]; exact ok.nd)
        have hElen : E.length ≤ 1000 := by
          have := ok.len
          rw [hsplit, List.length_append] at this
          omega
        obtain ⟨u, c2, ws2, rfl, e3, e4, pr4⟩ := id he2
        have e3' := two2.k.tup0 e3
        refine ⟨_, rfl, _, rfl, _, rfl, u, _, 0, _, rfl, rfl, SqT.of e3', rfl, by show 2 ≤ sizeLine; decide, fun r hr => ?_⟩
        refine ⟨dl, _, rfl, DPut.t (kvs := enc E lev0) (k := key2 (keyE (t.1, e))) (o1 two2.lv hr) upd_same (by rw [enc_len, sizeLine_eq]; omega), ?_⟩
        have k5 : Kp Nil H4 (upd H4 r (.tup [.str t.1, .str e.name])) := Kp.new hr
        obtain ⟨k6, t6, l6⟩ := dT_one (o1 two2.lv hr : upd H4 r (.tup [.str t.1, .str e.name]) dl = _) (.dT (putK (enc E lev0) (key2 (keyE (t.1, e))) (.int 0)))
        generalize hH6 : upd (upd H4 r (.tup [.str t.1, .str e.name])) dl (.dT (putK (enc E lev0) (key2 (keyE (t.1, e))) (.int 0))) = H6 at k6
        have kH6 : Kp Nil H H6 := by rw [← hH6]; exact (two2.k.trans k5).fill hdl
        have lv6 : H6 dl = some (.dT (enc (E ++ [(t.1, e)]) lev0)) := by
          rw [← hH6, upd_same]
          rw [← enc_put hnew]
          rfl
        have nd6 : NeedsD H6 dn E := (two2.nd.kp k5 tupFree_nil lstFree_nil id).kp k6 t6 l6 (Ne.symm nln)
        have he6 : EntAt H6 (.ref u) e := he2.kp0 kH6
        have hpl := ok.plain _ hmem
        refine ⟨_, rfl, _, rfl, _, rfl, a, t.1, .ref u, e, rfl, he6, hpl.1, hpl.2, fun H7 l k7 hl => ?_⟩
        have e37 := k7.tup0 (kH6.tup0 e3)
        refine ⟨_, rfl, _, rfl, _, rfl, u, _, 0, _, rfl, rfl, SqT.of e37, rfl, by show 2 ≤ sizeLine; decide, fun r2 hr2 => ?_⟩
        have nd7 := nd6.kp k7 tupFree_nil lstFree_nil id
        obtain ⟨nv, en, mn, fn⟩ := nd7
        have nvl : nv.length = E.length := by
          have := congrArg List.length mn
          rw [List.length_map, List.length_map] at this
          exact this
        refine ⟨dn, _, rfl, DPut.t (kvs := nv) (k := key2 (keyE (t.1, e))) (o1 en hr2) upd_same (by rw [nvl, sizeLine_eq]; omega), ?_⟩
        have k8 : Kp Nil H7 (upd H7 r2 (.tup [.str t.1, .str e.name])) := Kp.new hr2
        obtain ⟨k9, t9, l9⟩ := dT_one (o1 en hr2 : upd H7 r2 (.tup [.str t.1, .str e.name]) dn = _) (.dT (putK nv (key2 (keyE (t.1, e))) (.ref l)))
        have vnone : valV nv (key2 (keyE (t.1, e))) = none := valV_none (by rw [mn]; exact key_notin hnew)
        refine ⟨?_, _, rfl⟩
        rw [take_next he, List.map_append, ← List.append_assoc, hE]
        refine ⟨(kH6.trans (k7.trans k8)).fill hdn0, o2 (o1 (k7.dT0 lv6) hr2) nln, ⟨_, upd_same, ?_, fun v hv => ?_⟩⟩
        · rw [putK_new _ vnone, List.map_append, List.map_append, mn]
          rfl
        · rw [valV_put]
          rcases List.mem_append.mp hv with hv | hv
          · have ne : ¬ key2 (keyE v) = key2 (keyE (t.1, e)) := fun z => hnew (by rw [← key2_inj z]; exact List.mem_map_of_mem hv)
            rw [if_neg ne]
            obtain ⟨l', q1, q2⟩ := fn v hv
            exact ⟨l', q1, (q2.kp k8 tupFree_nil lstFree_nil).kp k9 t9 l9⟩
          · rw [List.mem_singleton.mp hv, if_pos rfl]
            exact ⟨l, rfl, (hl.kp k8 tupFree_nil lstFree_nil).kp k9 t9 l9⟩
      · obtain ⟨two2, x5, rfl⟩ := p
        refine ⟨?_, _, _, _, rfl⟩
        rw [hlen2, List.take_length] at two2
        rw [take_next ht]
        unfold flatS
        rw [List.flatMap_append, List.flatMap_singleton]
        exact two2
    · obtain ⟨two3, x3, x4, x5, rfl⟩ := p
      rw [hlen, List.take_length] at two3
      obtain ⟨k3, lv3, nd3⟩ := two3
      generalize hE : flatS S = E at lv3 nd3
      have hne : E ≠ [] := fun z => by
        have := ok.first
        rw [hE, z] at this
        cases this
      have hpos : 1 ≤ E.length := List.length_pos_iff.mpr hne
      have hl1000 : E.length ≤ 1000 := by rw [← hE]; exact ok.len
      have ndE : (E.map keyE).Nodup := by rw [← hE]; exact ok.nd
      let fi : Nat → Lev := fun i => if i = 0 then lev0 else lev S
      have rise_fi : ∀ i, i ≤ 1 → ∀ t ∈ E, rise (fi i) t = fi (i + 1) (keyE t) := by
        intro i hi t ht
        match i, hi with
        | 0, _ =>
          show rise lev0 t = lev S (keyE t)
          unfold lev
          rw [hE, riseF_at ndE ht]
        | 1, _ =>
          show rise (lev S) t = lev S (keyE t)
          exact ok.second t (by rw [hE]; exact ht)
      refine ⟨_, rfl, dl, _, rfl, lv3, _, _, rfl, rfl, _, rfl, (int62 (by rw [enc_len]; omega)).1, (int62 (by rw [enc_len]; omega)).2, ?_⟩
      refine for_it walk_range (fun i σ H' => i ≤ 1 ∧ Kp Nil H H' ∧ NeedsD H' dn E ∧ ∃ lA x3 x4 x5 x6 x7 x8 x9, lA ≠ dn ∧ H' lA = some (.dT (enc E (fi i))) ∧ σ = [some (.ref a), some (.ref lA), some (.ref dn), x3, x4, x5, x6, x7, x8, x9, none, none, none])
        ⟨Nat.zero_le _, k3, nd3, dl, _, _, _, _, _, _, _, nln, lv3, rfl⟩ (fun _ _ _ _ _ => trivial) (fun i x σ H1 H2 hi p y => ?_) fun σ H1 p => ?_
      · obtain ⟨rfl, rfl⟩ := y
        obtain ⟨hi1, kb, ndb, lA, x3, x4, x5, x6, x7, x8, x9, nAn, hA, rfl⟩ := p
        refine fun dR hdR => ?_
        have nAR : lA ≠ dR := ne_of_none hA hdR
        have hA1 : upd H2 dR (.dT []) lA = some (.dT (enc E (fi i))) := o1 hA hdR
        refine ⟨lA, _, hA1, trivial, fun od => ?_⟩
        refine ⟨_, rfl, lA, od, rfl, .inr ⟨enc E (fi i), upd_same, ?_⟩⟩
        have nf : ∀ ps, HO.frz od (.dT (enc E (fi i))) ≠ .tbl ps := fun ps z => by cases z
        have kL : Kp Nil (upd H2 lA (.frz od (.dT (enc E (fi i))))) (upd (upd H2 dR (.dT [])) lA (.frz od (.dT (enc E (fi i))))) := Kp.under nf (Kp.new hdR)
        have hdRL : upd H2 lA (.frz od (.dT (enc E (fi i)))) dR = none := by rw [upd_ne (Ne.symm nAR)]; exact hdR
        have ndL : NeedsD (upd H2 lA (.frz od (.dT (enc E (fi i))))) dn E := by
          obtain ⟨kk, tt, ll⟩ := dT_one hA (.frz od (.dT (enc E (fi i))))
          exact ndb.kp kk tt ll (Ne.symm nAn)
        refine for_it walk_keysT (fun j σ H' => Kp Nil (upd H2 lA (.frz od (.dT (enc E (fi i))))) H' ∧ H' dR = some (.dT (enc (E.take j) (fi (i + 1)))) ∧ ∃ x8 x9, σ = [some (.ref a), some (.ref lA), some (.ref dn), x3, x4, x5, some (.int (0 + (i : Int))), some (.ref dR), x8, x9, none, none, none])
          ⟨kL, o2 upd_same (Ne.symm nAR), _, _, rfl⟩ (fun j σ H' _ p => p.1.old lA _ upd_same id nf) (fun j x σ H3 H4 hj p y => ?_) fun σ H3 p => ?_
        · obtain ⟨kp, hR, x8, x9, rfl⟩ := p
          obtain ⟨rfl, key, v, qk, e1, rfl, e2⟩ := y
          obtain ⟨t, ht, rfl⟩ : ∃ t, E[j]? = some t ∧ key = key2 (keyE t) := by
            unfold enc at e1
            rw [List.getElem?_map] at e1
            cases e : E[j]? with
            | none => rw [e] at e1; cases e1
            | some t => rw [e] at e1; exact ⟨t, rfl, (congrArg Prod.fst (Option.some.inj e1)).symm⟩
          have htE : t ∈ E := List.mem_of_getElem? ht
          have hnew : keyE t ∉ (E.take j).map keyE := nodup_new (B := E.drop (j + 1)) (by rw [← drop_next ht, List.take_append_drop]; exact ndE)
          have ndc := ndL.kp kp tupFree_nil lstFree_nil id
          obtain ⟨nv, en, mn, fn⟩ := ndc
          obtain ⟨l, vl, vs1, el, prl⟩ := fn t htE
          have hlA : H4 lA = some (.frz od (.dT (enc E (fi i)))) := kp.old lA _ upd_same id nf
          have hnl : vs1.length = (needsL t.1 t.2).length := prl.length
          have hplain := ok.plain t (by rw [hE]; exact htE)
          have hnl2 : vs1.length ≤ 1000 := by
            rw [hnl]
            unfold needsL
            have a1 := List.length_filterMap_le needR t.2.parts
            have a2 := List.length_filterMap_le (needP t.1) t.2.parts
            have a3 := hplain.2
            split <;> omega
          refine ⟨_, rfl, _, rfl, dn, .ref l, rfl, by rw [← vl]; exact DGet.t en e2, l, rfl, ⟨_, SqL.of el⟩, fun D hD => ?_⟩
          refine lc_sel (walk_list (K := K) (a := l) (xs := vs1)) IntAt (fun _ _ _ _ _ _ _ z => z) (fun m => (needsL t.1 t.2)[m]?.bind fun n => some (needI (fi i) n)) hD (by omega) (fun H' k' => SqL.of (k'.lst0 el)) (fun m x H5 H6 N M hm k5 y hN hM => ?_) fun H5 ys k5 hys prs => ?_
          · obtain ⟨rfl, hx⟩ := y
            obtain ⟨n, hn, u, rfl, e3⟩ := pair_get prl hx
            rw [hn] at hN
            have e3 := k5.tup0 e3
            have htgt : (n.1, n.2.1) ∈ E.map keyE := by
              have := ok.tgt t (by rw [hE]; exact htE) n (List.mem_of_getElem? hn)
              rw [hE] at this
              exact this
            refine ⟨u, _, rfl, SqT.of e3, rfl, _, _, rfl, _, _, rfl, _, _, rfl, rfl, rfl, ?_⟩
            refine ⟨_, rfl, _, rfl, _, rfl, by show 2 ≤ sizeLine; decide, fun r hr2 => ?_⟩
            have hlA2 : upd H6 r (.tup [.str n.1, .str n.2.1]) lA = some (.frz od (.dT (enc E (fi i)))) := o1 (k5.old lA _ hlA id nf) hr2
            refine ⟨lA, _, rfl, .inr ⟨enc E (fi i), key2 (n.1, n.2.1), r, .inr ⟨od, hlA2⟩, rfl, upd_same, (enc_at htgt).symm⟩, ?_⟩
            refine ⟨_, rfl, n.2.2, rfl, itb (fun c1 => ?_) fun c1 => ?_⟩
            · refine ⟨_, _, rfl, rfl, hN _ _ _ (Kp.new hr2) rfl ?_⟩
              show V.int _ = V.int _
              unfold needI
              rw [c1]
              rfl
            · refine ⟨_, _, rfl, rfl, hN _ _ _ (Kp.new hr2) rfl ?_⟩
              show V.int _ = V.int _
              unfold needI
              rw [c1]
              rfl
          · rw [hnl, range_sel] at prs
            have hfm : (needsL t.1 t.2).filterMap (fun n => some (needI (fi i) n)) = (needsL t.1 t.2).map (needI (fi i)) := by
              rw [List.filterMap_eq_map']
            rw [hfm] at prs
            have eys := ints_are prs
            have kR := k5.dT0 hR
            have go : ∀ m : Int, m = rise (fi i) t → sDPut (tVar 7) (tVar 8) (fun _ H' Q => Q (.int m) H') ⟨fun σ H' => (Kp Nil (upd H2 lA (.frz od (.dT (enc E (fi i))))) H' ∧ H' dR = some (.dT (enc (E.take (j + 1)) (fi (i + 1)))) ∧ ∃ x8 x9, σ = [some (.ref a), some (.ref lA), some (.ref dn), x3, x4, x5, some (.int (0 + (i : Int))), some (.ref dR), x8, x9, none, none, none]), fun _ _ => False, fun _ _ => False, fun _ _ => False⟩ [some (.ref a), some (.ref lA), some (.ref dn), x3, x4, x5, some (.int (0 + (i : Int))), some (.ref dR), some (.ref qk), some (.ref D), none, none, none] H5 := by
              intro m em
              refine ⟨_, rfl, _, rfl, dR, _, rfl, DPut.t (kvs := enc (E.take j) (fi (i + 1))) (k := key2 (keyE t)) kR (k5.tup0 e2) (by rw [enc_len, List.length_take, sizeLine_eq]; omega), (kp.trans k5).fill hdRL, ?_, _, _, rfl⟩
              rw [upd_same, em, rise_fi i hi1 t htE, enc_put hnew, take_next ht]
            refine ⟨_, rfl, D, (needsL t.1 t.2).map (needI (fi i)), .int 0, rfl, rfl, SqL.of (by rw [← eys]; exact hys), fun z => ?_, fun n r z => ?_⟩
            · exact go 0 (by unfold rise; rw [z])
            · exact go _ (by unfold rise; rw [z])
        · obtain ⟨kp, hR, x8, x9, rfl⟩ := p
          rw [enc_len, List.take_length] at hR
          have hlA3 : H3 lA = some (.frz od (.dT (enc E (fi i)))) := kp.old lA _ upd_same id nf
          refine ⟨hlA3, ?_⟩
          have kb2 : Kp Nil H2 (upd H3 lA (.dT (enc E (fi i)))) := Kp.lock hA nt_dT kp
          have hR2 : upd H3 lA (.dT (enc E (fi i))) dR = some (.dT (enc E (fi (i + 1)))) := o2 hR (Ne.symm nAR)
          refine ⟨_, rfl, _, rfl, dR, lA, enc E (fi (i + 1)), enc E (fi i), rfl, rfl, hR2, upd_same, by rw [enc_len, enc_len], fun p hp => ?_, _, rfl, ?_⟩
          · obtain ⟨t, ht, rfl⟩ := List.mem_map.mp hp
            exact ⟨_, _, rfl, enc_at (List.mem_map_of_mem ht)⟩
          · have eqv : ((enc E (fi (i + 1))).all fun p => decide (valV (enc E (fi i)) p.1 = some p.2)) = E.all fun t => decide (fi i (keyE t) = fi (i + 1) (keyE t)) := by
              unfold enc
              rw [List.all_map, Bool.eq_iff_iff, List.all_eq_true, List.all_eq_true]
              constructor
              · intro h t ht
                have := of_decide_eq_true (h t ht)
                have e2 : valV (enc E (fi i)) (key2 (keyE t)) = some (.int (fi i (keyE t))) := enc_at (List.mem_map_of_mem ht)
                have e3 := e2.symm.trans this
                exact decide_eq_true (V.int.inj (Option.some.inj e3))
              · intro h t ht
                have := of_decide_eq_true (h t ht)
                have e2 : valV (enc E (fi i)) (key2 (keyE t)) = some (.int (fi i (keyE t))) := enc_at (List.mem_map_of_mem ht)
                refine decide_eq_true ?_
                show valV (enc E (fi i)) (key2 (keyE t)) = some (.int (fi (i + 1) (keyE t)))
                rw [e2, this]
            rw [eqv]
            match i, hi1 with
            | 0, _ =>
              refine iteN ?_ ?_
              · have := ok.first
                rw [hE] at this
                rw [Bool.eq_false_iff] at this ⊢
                intro z
                apply this
                rw [List.all_eq_true] at z ⊢
                intro t ht
                have := of_decide_eq_true (z t ht)
                exact decide_eq_true this.symm
              · refine ⟨_, rfl, Nat.le_refl _, kb.trans kb2, ndb.kp kb2 tupFree_nil lstFree_nil id, dR, _, _, _, _, _, _, _, ?_, hR2, rfl⟩
                obtain ⟨nv, en, _⟩ := ndb
                exact fun z => by rw [z] at hdR; rw [hdR] at en; cases en
            | 1, _ =>
              refine iteY ?_ ?_
              · rw [List.all_eq_true]
                intro t ht
                exact decide_eq_true rfl
              · refine ⟨_, rfl, q _ lA (kb.trans kb2) ?_⟩
                rw [hE]
                exact upd_same
      · obtain ⟨hi1, _⟩ := p
        exfalso
        rw [enc_len] at hi1
        omega
end
end Au
/-! Authsync: the reader of a line. -/
namespace Au
open PySem PySem.Spec PyProof.Rows L2
abbrev Only (a : Addr) : Addr → Prop := fun b => b = a
/-- the line's object; c: its dict and its parts -/
def LineAt (K : PySem.W.Frag) (H : Hp) (a : Addr) (c : Addr × Addr) (n : Int) (zs : List Str) (i : Nat) : Prop :=
  H a = some (.ins (He.ga K "Line") c.1 [("number", .int n), ("parts", .ref c.2), ("at", .int (i : Int))]) ∧ H c.2 = some (.lst (zs.map V.str))
theorem ins_tup {H : Hp} {a C dx : Addr} {fs : List (Str × V)} (e : H a = some (.ins C dx fs)) : TupFree (Only a) H := fun b xs z (zb : b = a) => by
  rw [zb, e] at z
  cases z
theorem ins_lst {H : Hp} {a C dx : Addr} {fs : List (Str × V)} (e : H a = some (.ins C dx fs)) : LstFree (Only a) H := fun b xs z (zb : b = a) => by
  rw [zb, e] at z
  cases z
theorem LineAt.tup {K : PySem.W.Frag} {H : Hp} {a : Addr} {c : Addr × Addr} {n : Int} {zs : List Str} {i : Nat} (h : LineAt K H a c n zs i) : TupFree (Only a) H := by
  obtain ⟨e, _⟩ := h
  exact ins_tup e
theorem LineAt.lst {K : PySem.W.Frag} {H : Hp} {a : Addr} {c : Addr × Addr} {n : Int} {zs : List Str} {i : Nat} (h : LineAt K H a c n zs i) : LstFree (Only a) H := by
  obtain ⟨e, _⟩ := h
  exact ins_lst e
theorem LineAt.kp0 {K : PySem.W.Frag} {H H' : Hp} (k : Kp Nil H H') {a : Addr} {c : Addr × Addr} {n : Int} {zs : List Str} {i : Nat} (h : LineAt K H a c n zs i) : LineAt K H' a c n zs i := by
  obtain ⟨e, e2⟩ := h
  exact ⟨k.ins0 e, k.lst0 e2⟩
def nx (zs : List Str) (i : Nat) : Str := zs.getD i ""
section
variable {P : Program} {w : World} {K : PySem.W.Frag} {mg : Str → Option Value} {base : Heap}
/-! ### __init__ -/
def spLineInit (K : PySem.W.Frag) : Sp := fun vs H Q _ => ∃ a n l dx, vs = [.ref a, .int n, .ref l] ∧ H a = some (.ins (He.ga K "Line") dx []) ∧ l ≠ a ∧
  ∀ H', Kp (Only a) H H' → H' a = some (.ins (He.ga K "Line") dx [("number", .int n), ("parts", .ref l), ("at", .int 0)]) → Q .non H'
theorem sc_Line_init : FnScope ["self", "number", "parts"] ["self", "number", "parts"] (defScope s_Line_init) := ⟨rfl, rfl, rfl, by decide +kernel, rfl, by decide +kernel, by decide +kernel⟩
theorem ok_Line_init (T : Top K mg base) : Cal P w K mg base CX0 1 ("Line", some "__init__") ["self", "number", "parts"] (spLineInit K) := by
  obtain ⟨fd, F⟩ := T.d_Line_init
  refine ⟨⟨fd, FunD.ok F sc_Line_init (fun vs H Q E h => ?_) (fun cdv A outer s H vs Q E hr h => ?_), FunD.bindsN F fun _ _ _ _ _ _ us hl => match us, hl with | [_, _, _], _ => rfl⟩, F.kp⟩
  · obtain ⟨a, n, l, dx, rfl, _⟩ := h
    rfl
  · obtain ⟨a, n, l, dx, rfl, e, ne, q⟩ := h
    refine ⟨_, pss_cons (ps_fld (pv 0) (pv 1) rfl) (pss_cons (ps_fld (pv 0) (pv 2) rfl) (pss_one (ps_fld (pv 0) pe_int rfl))), ?_⟩
    refine ⟨_, rfl, _, rfl, a, _, dx, _, rfl, e, T.c_Line, T.n_Line_number, by decide, ?_⟩
    refine ⟨_, rfl, _, rfl, a, _, dx, _, rfl, upd_same, T.c_Line, T.n_Line_parts, by show 1 < 1000; decide, ?_⟩
    refine ⟨_, rfl, a, _, dx, _, rfl, upd_same, T.c_Line, T.n_Line_at, by show 2 < 1000; decide, ?_⟩
    rw [upd_upd, upd_upd]
    exact q _ (Kp.put e nt_ins rfl) upd_same
/-! ### next_part -/
def spLineNext (K : PySem.W.Frag) : Sp := fun vs H Q _ => ∃ a c n zs i, vs = [.ref a] ∧ LineAt K H a c n zs i ∧ zs.length ≤ 1000 ∧ ∀ H', Kp Nil H H' → Q (.str (nx zs i)) H'
theorem sc_Line_next_part : FnScope ["self"] ["self"] (defScope s_Line_next_part) := ⟨rfl, rfl, rfl, by decide +kernel, rfl, by decide +kernel, by decide +kernel⟩
theorem ok_Line_next_part (T : Top K mg base) : Cal P w K mg base CX0 1 ("Line", some "next_part") ["self"] (spLineNext K) := by
  obtain ⟨fd, F⟩ := T.d_Line_next_part
  refine ⟨⟨fd, FunD.ok F sc_Line_next_part (fun vs H Q E h => ?_) (fun cdv A outer s H vs Q E hr h => ?_), FunD.bindsN F fun _ _ _ _ _ _ us hl => match us, hl with | [_], _ => rfl⟩, F.kp⟩
  · obtain ⟨a, c, n, zs, i, rfl, _⟩ := h
    rfl
  · obtain ⟨a, c, n, zs, i, rfl, ⟨e, e2⟩, hl, q⟩ := h
    refine ⟨_, pss_one (ps_ret (pe_ifExp (pt_cmpR op_lt (pe_fld (pv 0) rfl) (pe_callB call_len_seq (by rfl) T.f_len PySem.boot_len (pa_cons (pe_fld (pv 0) rfl) pa_nil)) (nomark _)) (pe_ix ix_list (pe_fld (pv 0) rfl) (pe_fld (pv 0) rfl) (fun _ _ => rfl)) pe_str)), ?_⟩
    refine ⟨_, rfl, a, _, c.1, _, _, rfl, e, T.c_Line, T.n_Line_at, rfl, _, rfl, a, _, c.1, _, _, rfl, e, T.c_Line, T.n_Line_parts, rfl, c.2, _, rfl, .inl (SqL.of e2), _, _, rfl, rfl, _, rfl, itb (fun c1 => ?_) fun c1 => ?_⟩
    · have c1 : i < zs.length := by
        have := of_decide_eq_true c1
        rw [List.length_map] at this
        omega
      refine ⟨_, rfl, a, _, c.1, _, _, rfl, e, T.c_Line, T.n_Line_parts, rfl, _, rfl, a, _, c.1, _, _, rfl, e, T.c_Line, T.n_Line_at, rfl, c.2, _, i, .str (nx zs i), rfl, rfl, SqL.of e2, atI_nat ?_, q _ Kp.refl⟩
      rw [List.getElem?_map, List.getElem?_eq_getElem c1]
      unfold nx
      rw [List.getD_eq_getElem?_getD, List.getElem?_eq_getElem c1]
      rfl
    · have c1 : zs.length ≤ i := by
        have := of_decide_eq_false c1
        rw [List.length_map] at this
        omega
      have := q H Kp.refl
      unfold nx at this
      rw [List.getD_eq_getElem?_getD, List.getElem?_eq_none c1] at this
      exact this
/-! ### take -/
theorem LineAt.step {H : Hp} {a : Addr} {c : Addr × Addr} {n : Int} {zs : List Str} {i : Nat} (e : H a = some (.ins (He.ga K "Line") c.1 [("number", .int n), ("parts", .ref c.2), ("at", .int (i : Int))])) (e2 : H c.2 = some (.lst (zs.map V.str))) :
    Kp (Only a) H (upd H a (.ins (He.ga K "Line") c.1 [("number", .int n), ("parts", .ref c.2), ("at", .int ((i : Int) + 1))])) ∧ LineAt K (upd H a (.ins (He.ga K "Line") c.1 [("number", .int n), ("parts", .ref c.2), ("at", .int ((i : Int) + 1))])) a c n zs (i + 1) :=
  ⟨Kp.put e nt_ins rfl, upd_same, o2 e2 (ne_of e2 e fun z => by cases z)⟩
def spLineTake (K : PySem.W.Frag) : Sp := fun vs H Q _ => ∃ a c n zs i, vs = [.ref a] ∧ LineAt K H a c n zs i ∧ zs.length ≤ 1000 ∧ ∀ H', Kp (Only a) H H' → LineAt K H' a c n zs (i + 1) → Q (.str (nx zs i)) H'
theorem sc_Line_take : FnScope ["self", "found"] ["self"] (defScope s_Line_take) := ⟨rfl, rfl, rfl, by decide +kernel, rfl, by decide +kernel, by decide +kernel⟩
theorem ok_Line_take (T : Top K mg base) : Cal P w K mg base CX0 2 ("Line", some "take") ["self"] (spLineTake K) := by
  obtain ⟨fd, F⟩ := T.d_Line_take
  have cs := ok_Line_next_part (P := P) (w := w) T
  obtain ⟨fd1, F1, b1⟩ := cs.ex
  refine ⟨⟨fd, FunD.ok F sc_Line_take (fun vs H Q E h => ?_) (fun cdv A outer s H vs Q E hr h => ?_), FunD.bindsN F fun _ _ _ _ _ _ us hl => match us, hl with | [_], _ => rfl⟩, F.kp⟩
  · obtain ⟨a, c, n, zs, i, rfl, _⟩ := h
    rfl
  · obtain ⟨a, c, n, zs, i, rfl, hL, hl, q⟩ := h
    have nd := sc_Line_take.nd
    refine ⟨_, pss_cons (ps_set (i := 1) nd rfl (.inl rfl) (pe_meth0 (pv 0) T.c_Line T.m_Line_next_part F1 hr b1 .nil pass0))
      (pss_cons (ps_fldaug (pv 0) pe_int in_add) (pss_one (ps_ret (pv 1)))), ?_⟩
    obtain ⟨e, e2⟩ := id hL
    refine ⟨_, rfl, a, c.1, _, rfl, e, rfl, a, c, n, zs, i, rfl, hL, hl, fun H1 k1 => ?_⟩
    have e := k1.ins0 e
    obtain ⟨k2, L2⟩ := LineAt.step e (k1.lst0 e2)
    refine ⟨_, rfl, a, _, c.1, _, _, rfl, e, T.c_Line, T.n_Line_at, rfl, _, _, rfl, rfl, _, _, e, by show 3 < 1000; decide, ?_⟩
    exact ⟨_, rfl, q _ (k1.any.trans k2) L2⟩
/-! ### expect -/
def spLineExpect (K : PySem.W.Frag) : Sp := fun vs H Q _ => ∃ a c n zs i, vs = [.ref a, .str (nx zs i)] ∧ LineAt K H a c n zs i ∧ zs.length ≤ 1000 ∧ ∀ H', Kp (Only a) H H' → LineAt K H' a c n zs (i + 1) → Q .non H'
theorem sc_Line_expect : FnScope ["self", "part"] ["self", "part"] (defScope s_Line_expect) := ⟨rfl, rfl, rfl, by decide +kernel, rfl, by decide +kernel, by decide +kernel⟩
theorem ok_Line_expect (T : Top K mg base) : Cal P w K mg base CX0 3 ("Line", some "expect") ["self", "part"] (spLineExpect K) := by
  obtain ⟨fd, F⟩ := T.d_Line_expect
  have cs := ok_Line_take (P := P) (w := w) T
  obtain ⟨fd1, F1, b1⟩ := cs.ex
  refine ⟨⟨fd, FunD.ok F sc_Line_expect (fun vs H Q E h => ?_) (fun cdv A outer s H vs Q E hr h => ?_), FunD.bindsN F fun _ _ _ _ _ _ us hl => match us, hl with | [_, _], _ => rfl⟩, F.kp⟩
  · obtain ⟨a, c, n, zs, i, rfl, _⟩ := h
    rfl
  · obtain ⟨a, c, n, zs, i, rfl, hL, hl, q⟩ := h
    have nd := sc_Line_expect.nd
    refine ⟨_, pss_one (ps_if (pt_cmpR op_ne (pe_meth0 (pv 0) T.c_Line T.m_Line_take F1 hr b1 .nil pass0) (pv 1) (nomark _)) (pss_one ps_never) pss_nil), ?_⟩
    obtain ⟨e, e2⟩ := id hL
    refine ⟨_, rfl, a, c.1, _, rfl, e, rfl, a, c, n, zs, i, rfl, hL, hl, fun H1 k1 L1 => ⟨_, rfl, rfl, _, rfl, iteN (by simp) (q H1 k1 L1)⟩⟩
/-! ### name -/
def spLineName (K : PySem.W.Frag) : Sp := fun vs H Q _ => ∃ a c n zs i, vs = [.ref a] ∧ LineAt K H a c n zs i ∧ zs.length ≤ 1000 ∧ Tabs K H ∧ isIdent (nx zs i) = true ∧ (nx zs i).length ≤ 5000 ∧ ∀ H', Kp (Only a) H H' → LineAt K H' a c n zs (i + 1) → Q (.str (nx zs i)) H'
theorem sc_Line_name : FnScope ["self", "found"] ["self"] (defScope s_Line_name) := ⟨rfl, rfl, rfl, by decide +kernel, rfl, by decide +kernel, by decide +kernel⟩
theorem ok_Line_name (T : Top K mg base) : Cal P w K mg base CX0 6 ("Line", some "name") ["self"] (spLineName K) := by
  obtain ⟨fd, F⟩ := T.d_Line_name
  have cs := ok_Line_take (P := P) (w := w) T
  obtain ⟨fd1, F1, b1⟩ := cs.ex
  have cs2 := ok_is_identifier (P := P) (w := w) T
  obtain ⟨fd2, F2, b2⟩ := cs2.ex
  refine ⟨⟨fd, FunD.ok F sc_Line_name (fun vs H Q E h => ?_) (fun cdv A outer s H vs Q E hr h => ?_), FunD.bindsN F fun _ _ _ _ _ _ us hl => match us, hl with | [_], _ => rfl⟩, F.kp⟩
  · obtain ⟨a, c, n, zs, i, rfl, _⟩ := h
    rfl
  · obtain ⟨a, c, n, zs, i, rfl, hL, hl, ht, hi, hz, q⟩ := h
    have nd := sc_Line_name.nd
    refine ⟨_, pss_cons (ps_set (i := 1) nd rfl (.inl rfl) (pe_meth0 (pv 0) T.c_Line T.m_Line_take F1 (hr.mono (by decide)) b1 .nil pass0))
      (pss_cons (ps_if (pt_not (pt_val (pe_call F2 hr rfl T.g_is_identifier cs2.kp b2 .nil pass0 (pa_cons (pv 1) pa_nil)))) (pss_one ps_never) pss_nil)
      (pss_one (ps_ret (pv 1)))), ?_⟩
    obtain ⟨e, e2⟩ := id hL
    refine ⟨_, rfl, a, c.1, _, rfl, e, rfl, a, c, n, zs, i, rfl, hL, hl, fun H1 k1 L1 => ?_⟩
    refine ⟨_, rfl, nx zs i, rfl, le_line hz, ht.kp k1, fun H2 k2 => ⟨_, rfl, ?_⟩⟩
    rw [hi]
    exact iteF ⟨_, rfl, q H2 (k1.trans k2.any) (L1.kp0 k2)⟩
/-! ### accepts -/
def spLineAcc (K : PySem.W.Frag) : Sp := fun vs H Q _ => ∃ a c n zs i z, vs = [.ref a, .str z] ∧ LineAt K H a c n zs i ∧ zs.length ≤ 1000 ∧ (nx zs i = z → ∀ H', Kp (Only a) H H' → LineAt K H' a c n zs (i + 1) → Q (.bl true) H') ∧
  (nx zs i ≠ z → ∀ H', Kp (Only a) H H' → LineAt K H' a c n zs i → Q (.bl false) H')
theorem sc_Line_accepts : FnScope ["self", "part"] ["self", "part"] (defScope s_Line_accepts) := ⟨rfl, rfl, rfl, by decide +kernel, rfl, by decide +kernel, by decide +kernel⟩
theorem ok_Line_accepts (T : Top K mg base) : Cal P w K mg base CX0 2 ("Line", some "accepts") ["self", "part"] (spLineAcc K) := by
  obtain ⟨fd, F⟩ := T.d_Line_accepts
  have cs := ok_Line_next_part (P := P) (w := w) T
  obtain ⟨fd1, F1, b1⟩ := cs.ex
  refine ⟨⟨fd, FunD.ok F sc_Line_accepts (fun vs H Q E h => ?_) (fun cdv A outer s H vs Q E hr h => ?_), FunD.bindsN F fun _ _ _ _ _ _ us hl => match us, hl with | [_, _], _ => rfl⟩, F.kp⟩
  · obtain ⟨a, c, n, zs, i, z, rfl, _⟩ := h
    rfl
  · obtain ⟨a, c, n, zs, i, z, rfl, hL, hl, q1, q2⟩ := h
    have nd := sc_Line_accepts.nd
    refine ⟨_, pss_cons (ps_if (pt_cmpR op_ne (pe_meth0 (pv 0) T.c_Line T.m_Line_next_part F1 hr b1 .nil pass0) (pv 1) (nomark _)) (pss_one (ps_ret pe_bl)) pss_nil)
      (pss_cons (ps_fldaug (pv 0) pe_int in_add) (pss_one (ps_ret pe_bl))), ?_⟩
    obtain ⟨e, e2⟩ := id hL
    refine ⟨_, rfl, a, c.1, _, rfl, e, rfl, a, c, n, zs, i, rfl, hL, hl, fun H1 k1 => ⟨_, rfl, rfl, _, rfl, itb (fun c1 => ?_) fun c1 => ?_⟩⟩
    · exact q2 (fun h => by rw [h] at c1; simp at c1) H1 k1.any (hL.kp0 k1)
    · have c1 : nx zs i = z := by
        by_cases h : nx zs i = z
        · exact h
        · rw [decide_eq_false fun q => h (V.str.inj q)] at c1
          cases c1
      have e := k1.ins0 e
      obtain ⟨k2, L2⟩ := LineAt.step e (k1.lst0 e2)
      refine ⟨_, rfl, a, _, c.1, _, _, rfl, e, T.c_Line, T.n_Line_at, rfl, _, _, rfl, rfl, _, _, e, by show 3 < 1000; decide, ?_⟩
      exact q1 c1 _ (k1.any.trans k2) L2
/-! ### finish -/
def spLineFin (K : PySem.W.Frag) : Sp := fun vs H Q _ => ∃ a c n zs i, vs = [.ref a] ∧ LineAt K H a c n zs i ∧ zs.length ≤ 1000 ∧ zs.length ≤ i ∧ ∀ H', Kp Nil H H' → Q .non H'
theorem sc_Line_finish : FnScope ["self"] ["self"] (defScope s_Line_finish) := ⟨rfl, rfl, rfl, by decide +kernel, rfl, by decide +kernel, by decide +kernel⟩
theorem ok_Line_finish (T : Top K mg base) : Cal P w K mg base CX0 1 ("Line", some "finish") ["self"] (spLineFin K) := by
  obtain ⟨fd, F⟩ := T.d_Line_finish
  refine ⟨⟨fd, FunD.ok F sc_Line_finish (fun vs H Q E h => ?_) (fun cdv A outer s H vs Q E hr h => ?_), FunD.bindsN F fun _ _ _ _ _ _ us hl => match us, hl with | [_], _ => rfl⟩, F.kp⟩
  · obtain ⟨a, c, n, zs, i, rfl, _⟩ := h
    rfl
  · obtain ⟨a, c, n, zs, i, rfl, ⟨e, e2⟩, hl, hi, q⟩ := h
    refine ⟨_, pss_one (ps_if (pt_cmpR op_lt (pe_fld (pv 0) rfl) (pe_callB call_len_seq (by rfl) T.f_len PySem.boot_len (pa_cons (pe_fld (pv 0) rfl) pa_nil)) (nomark _)) (pss_one ps_never) pss_nil), ?_⟩
    refine ⟨_, rfl, a, _, c.1, _, _, rfl, e, T.c_Line, T.n_Line_at, rfl, _, rfl, a, _, c.1, _, _, rfl, e, T.c_Line, T.n_Line_parts, rfl, c.2, _, rfl, .inl (SqL.of e2), _, _, rfl, rfl, _, rfl, iteN (decide_eq_false ?_) (q H Kp.refl)⟩
    rw [List.length_map]
    omega
end
end Au
/-! Authsync: the reader of a schema. -/
namespace Au
open PySem PySem.Spec PyProof.Rows L2
def marks : Str := ":,#=.|&-"
def partStep (st : List Str × Bool) (c : Nat) : Option (List Str × Bool) :=
  if isSign ⟨#[c]⟩ = true then some (if st.2 = true then st.1.dropLast ++ [st.1.getLast?.getD "" ++ ⟨#[c]⟩] else st.1 ++ [⟨#[c]⟩], true)
  else if c ∈ marks.cps.toList then some (st.1 ++ [⟨#[c]⟩], false)
  else if (⟨#[c]⟩ : Str) = " " then some (st.1, false) else none
def partsGo : List Str × Bool → List Nat → Option (List Str)
  | st, [] => some st.1
  | st, c :: cs => (partStep st c).bind fun st' => partsGo st' cs
def partsOf (z : Str) : Option (List Str) := partsGo ([], false) z.cps.toList
def spParts : Sp := fun vs H Q _ => ∃ (n : Int) (z : Str) (R : List Str), vs = [.int n, .str z] ∧ partsOf z = some R ∧ z.length ≤ 1000 ∧ ∀ H' l, Kp Nil H H' → H l = none → H' l = some (.lst (R.map V.str)) → Q (.ref l) H'
theorem str_len_app (a b : Str) : (a ++ b).length = a.length + b.length := by
  show (a.cps ++ b.cps).size = _
  rw [Array.size_append]
  rfl
theorem last_at {α : Type} {xs : List α} (h : xs ≠ []) (x : α) : xs[xs.length - 1]? = some (xs.getLast?.getD x) := by
  rw [List.getLast?_eq_getElem?]
  have : xs.length - 1 < xs.length := by have := List.length_pos_iff.mpr h; omega
  rw [List.getElem?_eq_getElem this]
  rfl
theorem ixN_last {α : Type} {xs : List α} (h : xs ≠ []) : ixN xs.length (-1) = some (xs.length - 1) := by
  have hp := List.length_pos_iff.mpr h
  unfold ixN
  rw [if_neg (by decide), if_pos (by omega)]
  congr 1
  omega
theorem set_last {α : Type} {xs : List α} (h : xs ≠ []) (x : α) : xs.set (xs.length - 1) x = xs.dropLast ++ [x] := by
  conv => lhs; rw [← List.dropLast_concat_getLast h]
  rw [List.length_append, List.length_singleton, Nat.add_sub_cancel, List.set_append_right _ _ (Nat.le_refl _), Nat.sub_self]
  rfl
theorem getLast_le {xs : List Str} {n : Nat} (h : ∀ p ∈ xs, p.length ≤ n) : (xs.getLast?.getD "").length ≤ n := by
  cases e : xs.getLast? with
  | none => exact Nat.zero_le _
  | some x => exact h x (List.mem_of_getLast? e)
section
variable {P : Program} {w : World} {K : PySem.W.Frag} {mg : Str → Option Value} {base : Heap}
theorem sc_parts_of_line : FnScope ["number", "text", "parts", "is_inside", "sign"] ["number", "text"] (defScope s_parts_of_line) := ⟨rfl, rfl, rfl, by decide +kernel, rfl, by decide +kernel, by decide +kernel⟩
theorem ok_parts_of_line (T : Top K mg base) : Cal P w K mg base CX0 2 ("parts_of_line", none) ["number", "text"] spParts := by
  obtain ⟨fd, F⟩ := T.d_parts_of_line
  have cs := ok_is_sign (P := P) (w := w) T
  obtain ⟨fd1, F1, b1⟩ := cs.ex
  refine ⟨⟨fd, FunD.ok F sc_parts_of_line (fun vs H Q E h => ?_) (fun cdv A outer s H vs Q E hr h => ?_), FunD.bindsN F fun _ _ _ _ _ _ us hl => match us, hl with | [_, _], _ => rfl⟩, F.kp⟩
  · obtain ⟨n, z, R, rfl, _⟩ := h
    rfl
  · obtain ⟨n, z, R, rfl, hR, hz, q⟩ := h
    have nd := sc_parts_of_line.nd
    refine ⟨_, pss_cons (ps_set (i := 2) nd rfl (.inl rfl) (pe_lst pa_nil))
      (pss_cons (ps_set (i := 3) nd rfl (.inl rfl) pe_bl)
      (pss_cons (ps_for (passes_of rfl) rfl (pi_str (pv 1)) (pg_name (i := 4) nd rfl (.inl rfl))
        (pss_cons (ps_if (pt_val (pe_call F1 hr rfl T.g_is_sign cs.kp b1 .nil pass0 (pa_cons (pv 4) pa_nil)))
          (pss_one (ps_if (pt_val (pv 3))
            (pss_one (ps_asg (pe_op op_add_str (pe_ix ix_list (pv 2) (pe_un un_neg pe_int) (fun _ _ => rfl)) (pv 4)) (pg_sub (pv 2) (pe_un un_neg pe_int) set_list)))
            (pss_one (ps_expr (pe_bm PySem.F.plainAttrs_list PySem.F.slot_list_append PySem.F.type_list_append mt_append (pv 2) (pa_cons (pv 4) pa_nil))))))
          (pss_one (ps_if (pt_cmpR op_in_sign (pv 4) pe_str rfl)
            (pss_one (ps_expr (pe_bm PySem.F.plainAttrs_list PySem.F.slot_list_append PySem.F.type_list_append mt_append (pv 2) (pa_cons (pv 4) pa_nil))))
            (pss_one (ps_if (pt_cmpR op_ne (pv 4) pe_str (nomark _)) (pss_one ps_never) pss_nil)))))
        (pss_one (ps_set (i := 3) nd rfl (.inl rfl) (pe_call F1 hr rfl T.g_is_sign cs.kp b1 .nil pass0 (pa_cons (pv 4) pa_nil))))))
      (pss_one (ps_ret (pv 2))))), ?_⟩
    refine ⟨by show 0 ≤ sizeLine; decide, fun l hl => ?_⟩
    refine ⟨_, rfl, z, rfl, ?_⟩
    refine for_it (walk_str (z := z)) (fun i σ H' => Kp Nil H H' ∧ ∃ (ps : List Str) (b : Bool) (x4 : Option V), σ = [some (.int n), some (.str z), some (.ref l), some (.bl b), x4] ∧ H' l = some (.lst (ps.map V.str)) ∧ ps.length ≤ i ∧ (∀ p ∈ ps, p.length ≤ i) ∧ (b = true → ps ≠ []) ∧ partsGo (ps, b) (z.cps.toList.drop i) = some R)
      ⟨Kp.new hl, [], false, none, rfl, upd_same, Nat.le_refl _, (fun p hp => by cases hp), (fun h => by cases h), hR⟩ (fun _ _ _ _ _ => trivial) (fun i x σ H1 H2 hi p y => ?_) fun σ H' p => ?_
    · obtain ⟨rfl, c, hc, rfl⟩ := y
      obtain ⟨kp, ps, b, x4, rfl, hps, hpl, hpp, hb, hgo⟩ := p
      have hc2 : z.cps.toList[i]? = some c := by rw [Array.getElem?_toList]; exact hc
      rw [drop_next hc2] at hgo
      have hgo : (partStep (ps, b) c).bind (fun st' => partsGo st' (z.cps.toList.drop (i + 1))) = some R := hgo
      have hi' : i < z.length := hi
      have hpsl : ps.length < sizeLine := by rw [sizeLine_eq]; omega
      refine ⟨_, rfl, ⟨#[c]⟩, rfl, _, rfl, itb (fun c1 => ?_) fun c1 => ?_⟩
      · have step : partStep (ps, b) c = some (if b = true then ps.dropLast ++ [ps.getLast?.getD "" ++ ⟨#[c]⟩] else ps ++ [⟨#[c]⟩], true) := by
          unfold partStep
          rw [if_pos c1]
        rw [step] at hgo
        refine ⟨_, rfl, b, rfl, itb (fun c2 => ?_) fun c2 => ?_⟩
        · rw [if_pos c2] at hgo
          have hne := hb c2
          have hne2 : ps.map V.str ≠ [] := fun z => hne (List.map_eq_nil_iff.mp z)
          have hlast : (ps.map V.str)[(ps.map V.str).length - 1]? = some (.str (ps.getLast?.getD "")) := by
            rw [List.length_map, List.getElem?_map, last_at hne ""]
            rfl
          refine ⟨_, rfl, _, rfl, l, _, -1, _, rfl, rfl, SqL.of hps, by unfold atI; rw [ixN_last hne2]; exact hlast, _, rfl, _, _, rfl, rfl, ?_, ?_⟩
          · have := getLast_le hpp
            show (ps.getLast?.getD "").length + 1 ≤ sizeLine
            rw [sizeLine_eq]
            omega
          · refine ⟨_, rfl, _, rfl, l, _, -1, _, rfl, rfl, hps, ixN_last hne2, ?_⟩
            refine ⟨_, rfl, ⟨#[c]⟩, rfl, kp.fill hl, ps.dropLast ++ [ps.getLast?.getD "" ++ ⟨#[c]⟩], _, _, rfl, ?_, ?_, fun p hp => ?_, fun _ => ?_, ?_⟩
            rotate_left 4
            · rw [c1]
              exact hgo
            · rw [upd_same, set_last hne2, List.map_append, List.map_dropLast]
              rfl
            · rw [List.length_append, List.length_dropLast]
              show ps.length - 1 + 1 ≤ i + 1
              omega
            · rcases List.mem_append.mp hp with hp | hp
              · have := hpp p (List.dropLast_subset _ hp)
                omega
              · rw [List.mem_singleton.mp hp, str_len_app]
                have := getLast_le hpp
                show _ + 1 ≤ i + 1
                omega
            · simp
        · rw [if_neg (by rw [c2]; decide)] at hgo
          refine ⟨_, rfl, .inl ⟨rfl, _, .inl (.inl hps)⟩, _, rfl, l, _, _, rfl, rfl, hps, by rw [List.length_map]; exact hpsl, ?_⟩
          refine ⟨_, rfl, ⟨#[c]⟩, rfl, kp.fill hl, ps ++ [⟨#[c]⟩], _, _, rfl, ?_, ?_, fun p hp => ?_, fun _ => ?_, ?_⟩
          rotate_left 4
          · rw [c1]
            exact hgo
          · rw [upd_same, List.map_append]
            rfl
          · rw [List.length_append]
            show ps.length + 1 ≤ i + 1
            omega
          · rcases List.mem_append.mp hp with hp | hp
            · have := hpp p hp
              omega
            · rw [List.mem_singleton.mp hp]
              show 1 ≤ i + 1
              omega
          · simp
      · refine ⟨_, rfl, c, marks, rfl, rfl, _, rfl, itb (fun c2 => ?_) fun c2 => ?_⟩
        · have step : partStep (ps, b) c = some (ps ++ [⟨#[c]⟩], false) := by
            unfold partStep
            rw [if_neg (by rw [c1]; decide), if_pos (of_decide_eq_true c2)]
          rw [step] at hgo
          refine ⟨_, rfl, .inl ⟨rfl, _, .inl (.inl hps)⟩, _, rfl, l, _, _, rfl, rfl, hps, by rw [List.length_map]; exact hpsl, ?_⟩
          refine ⟨_, rfl, ⟨#[c]⟩, rfl, kp.fill hl, ps ++ [⟨#[c]⟩], _, _, rfl, ?_, ?_, fun p hp => ?_, fun z => ?_, ?_⟩
          rotate_left 4
          · rw [c1]
            exact hgo
          · rw [upd_same, List.map_append]
            rfl
          · rw [List.length_append]
            show ps.length + 1 ≤ i + 1
            omega
          · rcases List.mem_append.mp hp with hp | hp
            · have := hpp p hp
              omega
            · rw [List.mem_singleton.mp hp]
              show 1 ≤ i + 1
              omega
          · simp
        · have c3 : (⟨#[c]⟩ : Str) = " " := by
            by_cases h : (⟨#[c]⟩ : Str) = " "
            · exact h
            · unfold partStep at hgo
              rw [if_neg (by rw [c1]; decide), if_neg (of_decide_eq_false c2), if_neg h] at hgo
              cases hgo
          have step : partStep (ps, b) c = some (ps, false) := by
            unfold partStep
            rw [if_neg (by rw [c1]; decide), if_neg (of_decide_eq_false c2), if_pos c3]
          rw [step] at hgo
          refine ⟨_, rfl, rfl, _, rfl, iteN (by rw [c3]; simp) ?_⟩
          refine ⟨_, rfl, ⟨#[c]⟩, rfl, kp, ps, _, _, rfl, hps, by omega, fun p hp => ?_, fun z => ?_, ?_⟩
          rotate_left 2
          · rw [c1]
            exact hgo
          · have := hpp p hp
            omega
          · rw [c1] at z
            cases z
    · obtain ⟨kp, ps, b, x4, rfl, hps, hpl, hpp, hb, hgo⟩ := p
      have e : z.cps.toList.drop z.cps.size = [] := by rw [← Array.length_toList, List.drop_length]
      rw [e] at hgo
      have hgo : ps = R := Option.some.inj hgo
      rw [hgo] at hps
      exact ⟨_, rfl, q H' l kp hl hps⟩
end
end Au
/-! Authsync: the readers of relations and permissions. -/
namespace Au
open PySem PySem.Spec PyProof.Rows L2
def Sml (zs : List Str) : Prop := zs.length ≤ 1000 ∧ ∀ p ∈ zs, p.length ≤ 1000
theorem Sml.nx {zs : List Str} (h : Sml zs) (i : Nat) : (nx zs i).length ≤ 5000 := by
  unfold Au.nx
  rw [List.getD_eq_getElem?_getD]
  cases e : zs[i]? with
  | none => exact Nat.zero_le _
  | some z => exact Nat.le_trans (h.2 z (List.mem_of_getElem? e)) (by decide)
theorem PartAt.stays : Stays PartAt := fun _ H H' v n k t h => h.kp k t
theorem EntAt.stays : Stays EntAt := fun _ H H' v n k t h => h.kp k t
def rdSub (zs : List Str) (i : Nat) : Option (List Str × Nat) :=
  if isIdent (nx zs i) = true then (if nx zs (i + 1) = "#" then (if isIdent (nx zs (i + 2)) = true then some ([nx zs i, nx zs (i + 2)], i + 3) else none) else some ([nx zs i, ""], i + 1)) else none
def spRdSub (K : PySem.W.Frag) : Sp := fun vs H Q _ => ∃ a c n zs i p j, vs = [.ref a] ∧ LineAt K H a c n zs i ∧ Sml zs ∧ Tabs K H ∧ rdSub zs i = some (p, j) ∧ ∀ H' v, Kp (Only a) H H' → LineAt K H' a c n zs j → PartAt H' v p → Q v H'
section
variable {P : Program} {w : World} {K : PySem.W.Frag} {mg : Str → Option Value} {base : Heap}
theorem sc_read_subject : FnScope ["line", "kind"] ["line"] (defScope s_read_subject) := ⟨rfl, rfl, rfl, by decide +kernel, rfl, by decide +kernel, by decide +kernel⟩
theorem ok_read_subject (T : Top K mg base) : Cal P w K mg base CX0 7 ("read_subject", none) ["line"] (spRdSub K) := by
  obtain ⟨fd, F⟩ := T.d_read_subject
  have cs := ok_Line_name (P := P) (w := w) T
  obtain ⟨fd1, F1, b1⟩ := cs.ex
  have cs2 := ok_Line_accepts (P := P) (w := w) T
  obtain ⟨fd2, F2, b2⟩ := cs2.ex
  refine ⟨⟨fd, FunD.ok F sc_read_subject (fun vs H Q E h => ?_) (fun cdv A outer s H vs Q E hr h => ?_), FunD.bindsN F fun _ _ _ _ _ _ us hl => match us, hl with | [_], _ => rfl⟩, F.kp⟩
  · obtain ⟨a, c, n, zs, i, p, j, rfl, _⟩ := h
    rfl
  · obtain ⟨a, c, n, zs, i, p, j, rfl, hL, hz, ht, hrd, q⟩ := h
    have nd := sc_read_subject.nd
    refine ⟨_, pss_cons (ps_set (i := 1) nd rfl (.inl rfl) (pe_meth0 (pv 0) T.c_Line T.m_Line_name F1 hr b1 .nil pass0))
      (pss_one (ps_ret (pe_tup (pa_cons (pv 1) (pa_cons (pe_ifExp (pt_val (pe_meth (pv 0) T.c_Line T.m_Line_accepts F2 (hr.mono (by decide)) b2 .nil pass0 (pa_cons pe_str pa_nil))) (pe_meth0 (pv 0) T.c_Line T.m_Line_name F1 hr b1 .nil pass0) pe_str) pa_nil))))), ?_⟩
    obtain ⟨e, e2⟩ := id hL
    unfold rdSub at hrd
    by_cases h1 : isIdent (nx zs i) = true
    · rw [if_pos h1] at hrd
      refine ⟨_, rfl, a, c.1, _, rfl, e, rfl, a, c, n, zs, i, rfl, hL, hz.1, ht, h1, hz.nx i, fun H1 k1 L1 => ?_⟩
      obtain ⟨e, e2⟩ := id L1
      refine ⟨_, rfl, _, rfl, a, c.1, _, rfl, e, rfl, a, c, n, zs, i + 1, "#", rfl, L1, hz.1, fun h2 H2 k2 L2 => ⟨true, rfl, iteT ?_⟩, fun h2 H2 k2 L2 => ⟨false, rfl, iteF ?_⟩⟩
      · rw [if_pos h2] at hrd
        by_cases h3 : isIdent (nx zs (i + 2)) = true
        · rw [if_pos h3] at hrd
          obtain ⟨rfl, rfl⟩ := Prod.mk.inj (Option.some.inj hrd)
          obtain ⟨e, e2⟩ := id L2
          refine ⟨_, rfl, a, c.1, _, rfl, e, rfl, a, c, n, zs, i + 2, rfl, L2, hz.1, (ht.kp k1).kp k2, h3, hz.nx _, fun H3 k3 L3 => ⟨by show 2 ≤ sizeLine; decide, fun r hr => ?_⟩⟩
          have k4 : Kp Nil H3 (upd H3 r (.tup [.str (nx zs i), .str (nx zs (i + 2))])) := Kp.new hr
          exact q _ _ (k1.trans (k2.trans (k3.trans k4.any))) (L3.kp0 k4) ⟨r, rfl, upd_same⟩
        · rw [if_neg h3] at hrd
          cases hrd
      · rw [if_neg h2] at hrd
        obtain ⟨rfl, rfl⟩ := Prod.mk.inj (Option.some.inj hrd)
        refine ⟨by show 2 ≤ sizeLine; decide, fun r hr => ?_⟩
        have k4 : Kp Nil H2 (upd H2 r (.tup [.str (nx zs i), .str ""])) := Kp.new hr
        exact q _ _ (k1.trans (k2.trans k4.any)) (L2.kp0 k4) ⟨r, rfl, upd_same⟩
    · rw [if_neg h1] at hrd
      cases hrd
/-! ### read_relation -/
def rdSubs : Nat → List Str → Nat → List (List Str) → Option (List (List Str) × Nat)
  | 0, _, _, _ => none
  | f + 1, zs, i, acc => if nx zs i = "," then (rdSub zs (i + 1)).bind fun r => rdSubs f zs r.2 (acc ++ [r.1]) else some (acc, i)
def rdRel (zs : List Str) (i : Nat) : Option (Ent × Nat) :=
  if isIdent (nx zs i) = true then (if nx zs (i + 1) = ":" then (rdSub zs (i + 2)).bind fun r => (rdSubs 20 zs r.2 [r.1]).bind fun r2 => if zs.length ≤ r2.2 then (if r2.1.length ≤ 8 then some (⟨nx zs i, true, r2.1⟩, r2.2) else none) else none else none) else none
def spRdEnt (K : PySem.W.Frag) (f : List Str → Nat → Option (Ent × Nat)) : Sp := fun vs H Q _ => ∃ a c n zs i e j, vs = [.ref a] ∧ LineAt K H a c n zs i ∧ Sml zs ∧ Tabs K H ∧ f zs i = some (e, j) ∧ ∀ H' v, Kp (Only a) H H' → LineAt K H' a c n zs j → EntAt H' v e → Q v H'
theorem sc_read_relation : FnScope ["line", "name", "subjects"] ["line"] (defScope s_read_relation) := ⟨rfl, rfl, rfl, by decide +kernel, rfl, by decide +kernel, by decide +kernel⟩
/-- a list that is filled stands for itself: tuples are not it -/
theorem lst_free {H : Hp} {l : Addr} {xs : List V} (e : H l = some (.lst xs)) : TupFree (Only l) H := fun b xs z (zb : b = l) => by
  rw [zb, e] at z
  cases z
theorem ok_read_relation (T : Top K mg base) : Cal P w K mg base CX0 8 ("read_relation", none) ["line"] (spRdEnt K rdRel) := by
  obtain ⟨fd, F⟩ := T.d_read_relation
  have cs := ok_Line_name (P := P) (w := w) T
  obtain ⟨fd1, F1, b1⟩ := cs.ex
  have cs2 := ok_Line_accepts (P := P) (w := w) T
  obtain ⟨fd2, F2, b2⟩ := cs2.ex
  have cs3 := ok_Line_expect (P := P) (w := w) T
  obtain ⟨fd3, F3, b3⟩ := cs3.ex
  have cs4 := ok_Line_finish (P := P) (w := w) T
  obtain ⟨fd4, F4, b4⟩ := cs4.ex
  have cs5 := ok_read_subject (P := P) (w := w) T
  obtain ⟨fd5, F5, b5⟩ := cs5.ex
  obtain ⟨tm, em⟩ := T.i_SUBJECTS_MOST
  refine ⟨⟨fd, FunD.ok F sc_read_relation (fun vs H Q E h => ?_) (fun cdv A outer s H vs Q E hr h => ?_), FunD.bindsN F fun _ _ _ _ _ _ us hl => match us, hl with | [_], _ => rfl⟩, F.kp⟩
  · obtain ⟨a, c, n, zs, i, p, j, rfl, _⟩ := h
    rfl
  · obtain ⟨a, c, n, zs, i, p, j, rfl, hL, hz, ht, hrd, q⟩ := h
    have nd := sc_read_relation.nd
    refine ⟨_, pss_cons (ps_set (i := 1) nd rfl (.inl rfl) (pe_meth0 (pv 0) T.c_Line T.m_Line_name F1 (hr.mono (by decide)) b1 .nil pass0))
      (pss_cons (ps_expr (pe_meth (pv 0) T.c_Line T.m_Line_expect F3 (hr.mono (by decide)) b3 .nil pass0 (pa_cons pe_str pa_nil)))
      (pss_cons (ps_set (i := 2) nd rfl (.inl rfl) (pe_lst (pa_cons (pe_call F5 hr rfl T.g_read_subject cs5.kp b5 .nil pass0 (pa_cons (pv 0) pa_nil)) pa_nil)))
      (pss_cons (ps_while (passes_of rfl) (pt_val (pe_meth (pv 0) T.c_Line T.m_Line_accepts F2 (hr.mono (by decide)) b2 .nil pass0 (pa_cons pe_str pa_nil)))
        (pss_one (ps_expr (pe_bm PySem.F.plainAttrs_list PySem.F.slot_list_append PySem.F.type_list_append mt_append (pv 2) (pa_cons (pe_call F5 hr rfl T.g_read_subject cs5.kp b5 .nil pass0 (pa_cons (pv 0) pa_nil)) pa_nil)))))
      (pss_cons (ps_expr (pe_meth0 (pv 0) T.c_Line T.m_Line_finish F4 (hr.mono (by decide)) b4 .nil pass0))
      (pss_cons (ps_if (pt_cmpR op_gt (pe_callB call_len_seq (by rfl) T.f_len PySem.boot_len (pa_cons (pv 2) pa_nil)) (pe_glob (v := .int 8) rfl em ⟨_, rfl⟩) (nomark _)) (pss_one ps_never) pss_nil)
      (pss_one (ps_ret (pe_tup (pa_cons (pv 1) (pa_cons pe_str (pa_cons (pe_callTy call_tuple_of (by rfl) T.f_tuple (by decide +kernel) (pa_cons (pv 2) pa_nil)) pa_nil))))))))))), ?_⟩
    obtain ⟨e, e2⟩ := id hL
    unfold rdRel at hrd
    by_cases h1 : isIdent (nx zs i) = true
    · rw [if_pos h1] at hrd
      by_cases h2 : nx zs (i + 1) = ":"
      · rw [if_pos h2] at hrd
        cases h3 : rdSub zs (i + 2) with
        | none => rw [h3] at hrd; cases hrd
        | some r =>
          obtain ⟨p1, j1⟩ := r
          rw [h3] at hrd
          have hrd : ((rdSubs 20 zs j1 [p1]).bind fun r2 => if zs.length ≤ r2.2 then (if r2.1.length ≤ 8 then some ((⟨nx zs i, true, r2.1⟩ : Ent), r2.2) else none) else none) = some (p, j) := hrd
          cases h4 : rdSubs 20 zs j1 [p1] with
          | none => rw [h4] at hrd; cases hrd
          | some R =>
            obtain ⟨ps, j2⟩ := R
            rw [h4] at hrd
            have hrd : (if zs.length ≤ j2 then (if ps.length ≤ 8 then some ((⟨nx zs i, true, ps⟩ : Ent), j2) else none) else none) = some (p, j) := hrd
            by_cases h5 : zs.length ≤ j2
            · rw [if_pos h5] at hrd
              by_cases h6 : ps.length ≤ 8
              · rw [if_pos h6] at hrd
                obtain ⟨rfl, rfl⟩ := Prod.mk.inj (Option.some.inj hrd)
                refine ⟨_, rfl, a, c.1, _, rfl, e, rfl, a, c, n, zs, i, rfl, hL, hz.1, ht, h1, hz.nx i, fun H1 k1 L1 => ?_⟩
                obtain ⟨e, e2⟩ := id L1
                refine ⟨_, rfl, a, c.1, _, rfl, e, rfl, a, c, n, zs, i + 1, by rw [h2]; rfl, L1, hz.1, fun H2 k2 L2 => ?_⟩
                refine ⟨_, rfl, a, c, n, zs, i + 2, p1, j1, rfl, L2, hz, (ht.kp k1).kp k2, h3, fun H3 v k3 L3 pv3 => ?_⟩
                have k123 := k1.trans (k2.trans k3)
                refine ⟨by show 1 ≤ sizeLine; decide, fun l2 hl2 => ?_⟩
                have hl20 : H l2 = none := k123.fr _ hl2
                have k4 : Kp Nil H3 (upd H3 l2 (.lst [v])) := Kp.new hl2
                refine ⟨fun f σ H' => σ = [some (.ref a), some (.str (nx zs i)), some (.ref l2)] ∧ Kp (Only a) H H' ∧ ∃ i' acc vs, LineAt K H' a c n zs i' ∧ H' l2 = some (.lst vs) ∧ Paired (PartAt H') vs acc ∧ rdSubs f zs i' acc = some (ps, j2) ∧ acc.length + f ≤ 100,
                  ⟨20, rfl, k123.trans k4.any, j1, [p1], [v], L3.kp0 k4, upd_same, .cons (pv3.kp0 k4) .nil, h4, by show 1 + 20 ≤ 100; decide⟩, ?_⟩
                intro f σ H' ⟨eσ, kp, i', acc, vs, L4, el, prs, hgo, hfl⟩
                subst eσ
                obtain ⟨e, e2⟩ := id L4
                cases f with
                | zero => cases hgo
                | succ f =>
                  have hgo : (if nx zs i' = "," then (rdSub zs (i' + 1)).bind fun r => rdSubs f zs r.2 (acc ++ [r.1]) else some (acc, i')) = some (ps, j2) := hgo
                  refine ⟨_, rfl, a, c.1, _, rfl, e, rfl, a, c, n, zs, i', ",", rfl, L4, hz.1, fun h7 H5 k5 L5 => ⟨true, rfl, iteT ?_⟩, fun h7 H5 k5 L5 => ⟨false, rfl, iteF ?_⟩⟩
                  · rw [if_pos h7] at hgo
                    cases h8 : rdSub zs (i' + 1) with
                    | none => rw [h8] at hgo; cases hgo
                    | some r =>
                      obtain ⟨p5, j5⟩ := r
                      rw [h8] at hgo
                      have hgo : rdSubs f zs j5 (acc ++ [p5]) = some (ps, j2) := hgo
                      have nal : l2 ≠ a := ne_of el e fun z => by cases z
                      have el5 := k5.old _ _ el nal nt_lst
                      refine ⟨fun σ H' => σ = [some (.ref a), some (.str (nx zs i)), some (.ref l2)] ∧ Kp (Only a) H H' ∧ ∃ i' acc vs, LineAt K H' a c n zs i' ∧ H' l2 = some (.lst vs) ∧ Paired (PartAt H') vs acc ∧ rdSubs f zs i' acc = some (ps, j2) ∧ acc.length + f ≤ 100, fun σ H' w => ⟨f, Nat.lt_succ_self _, w⟩, ?_⟩
                      refine ⟨_, rfl, .inl ⟨rfl, _, .inl (.inl el5)⟩, _, rfl, a, c, n, zs, i' + 1, p5, j5, rfl, L5, hz, (ht.kp kp).kp k5, h8, fun H6 v6 k6 L6 pv6 => ?_⟩
                      have el6 := k6.old _ _ el5 nal nt_lst
                      have ek : Kp (Only l2) H6 (upd H6 l2 (.lst (vs ++ [v6]))) := Kp.put el6 nt_lst rfl
                      have et := lst_free el6
                      obtain ⟨e6, e26⟩ := id L6
                      have vl : vs.length = acc.length := prs.length
                      refine ⟨l2, _, _, rfl, rfl, el6, by rw [sizeLine_eq]; omega, rfl, ?_, j5, acc ++ [p5], vs ++ [v6], ⟨o2 e6 (Ne.symm nal), o2 e26 (ne_of_none hL.2 hl20)⟩, upd_same, ?_, hgo, by rw [List.length_append]; show acc.length + 1 + f ≤ 100; omega⟩
                      · exact ((kp.trans (k5.trans k6))).fill hl20
                      · exact pair_append (Paired.mapP prs fun _ _ z => PartAt.stays _ _ _ _ _ ek et (PartAt.stays _ _ _ _ _ k6 L5.tup (PartAt.stays _ _ _ _ _ k5 L4.tup z))) (.cons (PartAt.stays _ _ _ _ _ ek et pv6) .nil)
                  · rw [if_neg h7] at hgo
                    obtain ⟨rfl, rfl⟩ := Prod.mk.inj (Option.some.inj hgo)
                    obtain ⟨e, e2⟩ := id L5
                    have nal : l2 ≠ a := ne_of el L4.1 fun z => by cases z
                    have el5 := k5.old _ _ el nal nt_lst
                    refine ⟨_, rfl, a, c.1, _, rfl, e, rfl, a, c, n, zs, i', rfl, L5, hz.1, h5, fun H6 k6 => ?_⟩
                    have el6 := k6.lst0 el5
                    have pr6 := Paired.mapP prs fun _ _ z => (PartAt.stays _ _ _ _ _ k5 L4.tup z).kp0 k6
                    have vl : vs.length = acc.length := prs.length
                    refine ⟨_, rfl, l2, _, rfl, .inl (SqL.of el6), _, _, rfl, rfl, _, rfl, iteN (decide_eq_false (by omega)) ?_⟩
                    refine ⟨_, rfl, _, rfl, l2, _, rfl, .inl ⟨SqL.of el6, fun t ht => ?_⟩⟩
                    refine ⟨by show 3 ≤ sizeLine; decide, fun r hr => ?_⟩
                    have k7 : Kp Nil H6 (upd H6 t (.tup vs)) := Kp.new ht
                    have k8 : Kp Nil (upd H6 t (.tup vs)) (upd (upd H6 t (.tup vs)) r (.tup [.str (nx zs i), .str "relation", .ref t])) := Kp.new hr
                    have k68 := k6.trans (k7.trans k8)
                    exact q _ _ (kp.trans (k5.trans k68.any)) (L5.kp0 k68) ⟨r, t, vs, rfl, upd_same, k8.tup0 upd_same, Paired.mapP pr6 fun _ _ z => z.kp0 (k7.trans k8)⟩
              · rw [if_neg h6] at hrd
                cases hrd
            · rw [if_neg h5] at hrd
              cases hrd
      · rw [if_neg h2] at hrd
        cases hrd
    · rw [if_neg h1] at hrd
      cases hrd
end
end Au
/-! Authsync: the readers of permissions and lines. -/
namespace Au
open PySem PySem.Spec PyProof.Rows L2
def rdTerm (zs : List Str) (op : Str) (i : Nat) : Option (List Str × Nat) :=
  if isIdent (nx zs i) = true then (if nx zs (i + 1) = "." then (if isIdent (nx zs (i + 2)) = true then some ([op, nx zs i, nx zs (i + 2)], i + 3) else none) else some ([op, "", nx zs i], i + 1)) else none
def spRdTerm (K : PySem.W.Frag) : Sp := fun vs H Q _ => ∃ a c n zs i op p j, vs = [.ref a, .str op] ∧ LineAt K H a c n zs i ∧ Sml zs ∧ Tabs K H ∧ rdTerm zs op i = some (p, j) ∧ ∀ H' v, Kp (Only a) H H' → LineAt K H' a c n zs j → PartAt H' v p → Q v H'
section
variable {P : Program} {w : World} {K : PySem.W.Frag} {mg : Str → Option Value} {base : Heap}
theorem sc_read_term : FnScope ["line", "operator", "first"] ["line", "operator"] (defScope s_read_term) := ⟨rfl, rfl, rfl, by decide +kernel, rfl, by decide +kernel, by decide +kernel⟩
theorem ok_read_term (T : Top K mg base) : Cal P w K mg base CX0 7 ("read_term", none) ["line", "operator"] (spRdTerm K) := by
  obtain ⟨fd, F⟩ := T.d_read_term
  have cs := ok_Line_name (P := P) (w := w) T
  obtain ⟨fd1, F1, b1⟩ := cs.ex
  have cs2 := ok_Line_accepts (P := P) (w := w) T
  obtain ⟨fd2, F2, b2⟩ := cs2.ex
  refine ⟨⟨fd, FunD.ok F sc_read_term (fun vs H Q E h => ?_) (fun cdv A outer s H vs Q E hr h => ?_), FunD.bindsN F fun _ _ _ _ _ _ us hl => match us, hl with | [_, _], _ => rfl⟩, F.kp⟩
  · obtain ⟨a, c, n, zs, i, op, p, j, rfl, _⟩ := h
    rfl
  · obtain ⟨a, c, n, zs, i, op, p, j, rfl, hL, hz, ht, hrd, q⟩ := h
    have nd := sc_read_term.nd
    refine ⟨_, pss_cons (ps_set (i := 2) nd rfl (.inl rfl) (pe_meth0 (pv 0) T.c_Line T.m_Line_name F1 hr b1 .nil pass0))
      (pss_cons (ps_if (pt_val (pe_meth (pv 0) T.c_Line T.m_Line_accepts F2 (hr.mono (by decide)) b2 .nil pass0 (pa_cons pe_str pa_nil)))
        (pss_one (ps_ret (pe_tup (pa_cons (pv 1) (pa_cons (pv 2) (pa_cons (pe_meth0 (pv 0) T.c_Line T.m_Line_name F1 hr b1 .nil pass0) pa_nil)))))) pss_nil)
      (pss_one (ps_ret (pe_tup (pa_cons (pv 1) (pa_cons pe_str (pa_cons (pv 2) pa_nil))))))), ?_⟩
    unfold rdTerm at hrd
    by_cases h1 : isIdent (nx zs i) = true
    · rw [if_pos h1] at hrd
      refine ⟨_, rfl, a, c.1, _, rfl, hL.1, rfl, a, c, n, zs, i, rfl, hL, hz.1, ht, h1, hz.nx i, fun H1 k1 L1 => ?_⟩
      refine ⟨_, rfl, a, c.1, _, rfl, L1.1, rfl, a, c, n, zs, i + 1, ".", rfl, L1, hz.1, fun h2 H2 k2 L2 => ⟨true, rfl, iteT ?_⟩, fun h2 H2 k2 L2 => ⟨false, rfl, iteF ?_⟩⟩
      · rw [if_pos h2] at hrd
        by_cases h3 : isIdent (nx zs (i + 2)) = true
        · rw [if_pos h3] at hrd
          obtain ⟨rfl, rfl⟩ := Prod.mk.inj (Option.some.inj hrd)
          refine ⟨_, rfl, _, rfl, _, rfl, a, c.1, _, rfl, L2.1, rfl, a, c, n, zs, i + 2, rfl, L2, hz.1, (ht.kp k1).kp k2, h3, hz.nx _, fun H3 k3 L3 => ⟨by show 3 ≤ sizeLine; decide, fun r hr => ?_⟩⟩
          have k4 : Kp Nil H3 (upd H3 r (.tup [.str op, .str (nx zs i), .str (nx zs (i + 2))])) := Kp.new hr
          exact q _ _ (k1.trans (k2.trans (k3.trans k4.any))) (L3.kp0 k4) ⟨r, rfl, upd_same⟩
        · rw [if_neg h3] at hrd
          cases hrd
      · rw [if_neg h2] at hrd
        obtain ⟨rfl, rfl⟩ := Prod.mk.inj (Option.some.inj hrd)
        refine ⟨_, rfl, _, rfl, by show 3 ≤ sizeLine; decide, fun r hr => ?_⟩
        have k4 : Kp Nil H2 (upd H2 r (.tup [.str op, .str "", .str (nx zs i)])) := Kp.new hr
        exact q _ _ (k1.trans (k2.trans k4.any)) (L2.kp0 k4) ⟨r, rfl, upd_same⟩
    · rw [if_neg h1] at hrd
      cases hrd
/-! ### read_permission -/
def isOp (z : Str) : Bool := inV (.str z) [.str "|", .str "&", .str "-"]
def rdTerms : Nat → List Str → Nat → List (List Str) → Option (List (List Str) × Nat)
  | 0, _, _, _ => none
  | f + 1, zs, i, acc => if isOp (nx zs i) = true then (rdTerm zs (nx zs i) (i + 1)).bind fun r => rdTerms f zs r.2 (acc ++ [r.1]) else some (acc, i)
def rdPer (zs : List Str) (i : Nat) : Option (Ent × Nat) :=
  if isIdent (nx zs i) = true then (if nx zs (i + 1) = "=" then (rdTerm zs "" (i + 2)).bind fun r => (rdTerms 20 zs r.2 [r.1]).bind fun r2 => if zs.length ≤ r2.2 then (if r2.1.length ≤ 16 then some (⟨nx zs i, false, r2.1⟩, r2.2) else none) else none else none) else none
theorem sc_read_permission : FnScope ["line", "name", "terms"] ["line"] (defScope s_read_permission) := ⟨rfl, rfl, rfl, by decide +kernel, rfl, by decide +kernel, by decide +kernel⟩
theorem ok_read_permission (T : Top K mg base) : Cal P w K mg base CX0 8 ("read_permission", none) ["line"] (spRdEnt K rdPer) := by
  obtain ⟨fd, F⟩ := T.d_read_permission
  have cs := ok_Line_name (P := P) (w := w) T
  obtain ⟨fd1, F1, b1⟩ := cs.ex
  have cs2 := ok_Line_next_part (P := P) (w := w) T
  obtain ⟨fd2, F2, b2⟩ := cs2.ex
  have cs3 := ok_Line_expect (P := P) (w := w) T
  obtain ⟨fd3, F3, b3⟩ := cs3.ex
  have cs4 := ok_Line_finish (P := P) (w := w) T
  obtain ⟨fd4, F4, b4⟩ := cs4.ex
  have cs5 := ok_read_term (P := P) (w := w) T
  obtain ⟨fd5, F5, b5⟩ := cs5.ex
  have cs6 := ok_Line_take (P := P) (w := w) T
  obtain ⟨fd6, F6, b6⟩ := cs6.ex
  obtain ⟨tm, em⟩ := T.i_TERMS_MOST
  obtain ⟨ao, eo, ho⟩ := T.ops
  refine ⟨⟨fd, FunD.ok F sc_read_permission (fun vs H Q E h => ?_) (fun cdv A outer s H vs Q E hr h => ?_), FunD.bindsN F fun _ _ _ _ _ _ us hl => match us, hl with | [_], _ => rfl⟩, F.kp⟩
  · obtain ⟨a, c, n, zs, i, p, j, rfl, _⟩ := h
    rfl
  · obtain ⟨a, c, n, zs, i, p, j, rfl, hL, hz, ht, hrd, q⟩ := h
    have nd := sc_read_permission.nd
    refine ⟨_, pss_cons (ps_set (i := 1) nd rfl (.inl rfl) (pe_meth0 (pv 0) T.c_Line T.m_Line_name F1 (hr.mono (by decide)) b1 .nil pass0))
      (pss_cons (ps_expr (pe_meth (pv 0) T.c_Line T.m_Line_expect F3 (hr.mono (by decide)) b3 .nil pass0 (pa_cons pe_str pa_nil)))
      (pss_cons (ps_set (i := 2) nd rfl (.inl rfl) (pe_lst (pa_cons (pe_call F5 hr rfl T.g_read_term cs5.kp b5 .nil pass0 (pa_cons (pv 0) (pa_cons pe_str pa_nil))) pa_nil)))
      (pss_cons (ps_while (passes_of rfl) (pt_cmpR op_in_seq (pe_meth0 (pv 0) T.c_Line T.m_Line_next_part F2 (hr.mono (by decide)) b2 .nil pass0) (pe_glob (v := .ref ao) rfl eo rfl) rfl)
        (pss_one (ps_expr (pe_bm PySem.F.plainAttrs_list PySem.F.slot_list_append PySem.F.type_list_append mt_append (pv 2) (pa_cons (pe_call F5 hr rfl T.g_read_term cs5.kp b5 .nil pass0 (pa_cons (pv 0) (pa_cons (pe_meth0 (pv 0) T.c_Line T.m_Line_take F6 (hr.mono (by decide)) b6 .nil pass0) pa_nil))) pa_nil)))))
      (pss_cons (ps_expr (pe_meth0 (pv 0) T.c_Line T.m_Line_finish F4 (hr.mono (by decide)) b4 .nil pass0))
      (pss_cons (ps_if (pt_cmpR op_gt (pe_callB call_len_seq (by rfl) T.f_len PySem.boot_len (pa_cons (pv 2) pa_nil)) (pe_glob (v := .int 16) rfl em ⟨_, rfl⟩) (nomark _)) (pss_one ps_never) pss_nil)
      (pss_one (ps_ret (pe_tup (pa_cons (pv 1) (pa_cons pe_str (pa_cons (pe_callTy call_tuple_of (by rfl) T.f_tuple (by decide +kernel) (pa_cons (pv 2) pa_nil)) pa_nil))))))))))), ?_⟩
    unfold rdPer at hrd
    by_cases h1 : isIdent (nx zs i) = true
    · rw [if_pos h1] at hrd
      by_cases h2 : nx zs (i + 1) = "="
      · rw [if_pos h2] at hrd
        cases h3 : rdTerm zs "" (i + 2) with
        | none => rw [h3] at hrd; cases hrd
        | some r =>
          obtain ⟨p1, j1⟩ := r
          rw [h3] at hrd
          have hrd : ((rdTerms 20 zs j1 [p1]).bind fun r2 => if zs.length ≤ r2.2 then (if r2.1.length ≤ 16 then some ((⟨nx zs i, false, r2.1⟩ : Ent), r2.2) else none) else none) = some (p, j) := hrd
          cases h4 : rdTerms 20 zs j1 [p1] with
          | none => rw [h4] at hrd; cases hrd
          | some R =>
            obtain ⟨ps, j2⟩ := R
            rw [h4] at hrd
            have hrd : (if zs.length ≤ j2 then (if ps.length ≤ 16 then some ((⟨nx zs i, false, ps⟩ : Ent), j2) else none) else none) = some (p, j) := hrd
            by_cases h5 : zs.length ≤ j2
            · rw [if_pos h5] at hrd
              by_cases h6 : ps.length ≤ 16
              · rw [if_pos h6] at hrd
                obtain ⟨rfl, rfl⟩ := Prod.mk.inj (Option.some.inj hrd)
                refine ⟨_, rfl, a, c.1, _, rfl, hL.1, rfl, a, c, n, zs, i, rfl, hL, hz.1, ht, h1, hz.nx i, fun H1 k1 L1 => ?_⟩
                refine ⟨_, rfl, a, c.1, _, rfl, L1.1, rfl, a, c, n, zs, i + 1, by rw [h2]; rfl, L1, hz.1, fun H2 k2 L2 => ?_⟩
                refine ⟨_, rfl, a, c, n, zs, i + 2, "", p1, j1, rfl, L2, hz, (ht.kp k1).kp k2, h3, fun H3 v k3 L3 pv3 => ?_⟩
                have k123 := k1.trans (k2.trans k3)
                refine ⟨by show 1 ≤ sizeLine; decide, fun l2 hl2 => ?_⟩
                have hl20 : H l2 = none := k123.fr _ hl2
                have k4 : Kp Nil H3 (upd H3 l2 (.lst [v])) := Kp.new hl2
                refine ⟨fun f σ H' => σ = [some (.ref a), some (.str (nx zs i)), some (.ref l2)] ∧ Kp (Only a) H H' ∧ ∃ i' acc vs, LineAt K H' a c n zs i' ∧ H' l2 = some (.lst vs) ∧ Paired (PartAt H') vs acc ∧ rdTerms f zs i' acc = some (ps, j2) ∧ acc.length + f ≤ 100,
                  ⟨20, rfl, k123.trans k4.any, j1, [p1], [v], L3.kp0 k4, upd_same, .cons (pv3.kp0 k4) .nil, h4, by show 1 + 20 ≤ 100; decide⟩, ?_⟩
                intro f σ H' ⟨eσ, kp, i', acc, vs, L4, el, prs, hgo, hfl⟩
                subst eσ
                cases f with
                | zero => cases hgo
                | succ f =>
                  have hgo : (if isOp (nx zs i') = true then (rdTerm zs (nx zs i') (i' + 1)).bind fun r => rdTerms f zs r.2 (acc ++ [r.1]) else some (acc, i')) = some (ps, j2) := hgo
                  refine ⟨_, rfl, a, c.1, _, rfl, L4.1, rfl, a, c, n, zs, i', rfl, L4, hz.1, fun H5 k5 => ?_⟩
                  have L5 := L4.kp0 k5
                  have nal : l2 ≠ a := ne_of el L4.1 fun z => by cases z
                  have el5 := k5.lst0 el
                  have pr5 := Paired.mapP prs fun _ _ z => PartAt.kp0 k5 z
                  refine ⟨ao, _, rfl, .inr (ho H5), rfl, rfl, _, rfl, itb (fun h7 => ?_) fun h7 => ?_⟩
                  · have h7 : isOp (nx zs i') = true := h7
                    rw [if_pos h7] at hgo
                    cases h8 : rdTerm zs (nx zs i') (i' + 1) with
                    | none => rw [h8] at hgo; cases hgo
                    | some r =>
                      obtain ⟨p5, j5⟩ := r
                      rw [h8] at hgo
                      have hgo : rdTerms f zs j5 (acc ++ [p5]) = some (ps, j2) := hgo
                      refine ⟨fun σ H' => σ = [some (.ref a), some (.str (nx zs i)), some (.ref l2)] ∧ Kp (Only a) H H' ∧ ∃ i' acc vs, LineAt K H' a c n zs i' ∧ H' l2 = some (.lst vs) ∧ Paired (PartAt H') vs acc ∧ rdTerms f zs i' acc = some (ps, j2) ∧ acc.length + f ≤ 100, fun σ H' w => ⟨f, Nat.lt_succ_self _, w⟩, ?_⟩
                      refine ⟨_, rfl, .inl ⟨rfl, _, .inl (.inl el5)⟩, _, rfl, _, rfl, a, c.1, _, rfl, L5.1, rfl, a, c, n, zs, i', rfl, L5, hz.1, fun H5b k5b L5b => ?_⟩
                      refine ⟨a, c, n, zs, i' + 1, nx zs i', p5, j5, rfl, L5b, hz, ((ht.kp kp).kp k5).kp k5b, h8, fun H6 v6 k6 L6 pv6 => ?_⟩
                      have el6 := k6.old _ _ (k5b.old _ _ el5 nal nt_lst) nal nt_lst
                      have ek : Kp (Only l2) H6 (upd H6 l2 (.lst (vs ++ [v6]))) := Kp.put el6 nt_lst rfl
                      have et := lst_free el6
                      obtain ⟨e6, e26⟩ := id L6
                      have vl : vs.length = acc.length := prs.length
                      refine ⟨l2, _, _, rfl, rfl, el6, by rw [sizeLine_eq]; omega, rfl, ?_, j5, acc ++ [p5], vs ++ [v6], ⟨o2 e6 (Ne.symm nal), o2 e26 (ne_of_none hL.2 hl20)⟩, upd_same, ?_, hgo, by rw [List.length_append]; show acc.length + 1 + f ≤ 100; omega⟩
                      · exact ((kp.trans (k5.any.trans (k5b.trans k6)))).fill hl20
                      · exact pair_append (Paired.mapP pr5 fun _ _ z => PartAt.stays _ _ _ _ _ ek et (PartAt.stays _ _ _ _ _ k6 L5b.tup (PartAt.stays _ _ _ _ _ k5b L5.tup z))) (.cons (PartAt.stays _ _ _ _ _ ek et pv6) .nil)
                  · have h7 : isOp (nx zs i') = false := h7
                    rw [if_neg (by rw [h7]; decide)] at hgo
                    obtain ⟨rfl, rfl⟩ := Prod.mk.inj (Option.some.inj hgo)
                    refine ⟨_, rfl, a, c.1, _, rfl, L5.1, rfl, a, c, n, zs, i', rfl, L5, hz.1, h5, fun H6 k6 => ?_⟩
                    have el6 := k6.lst0 el5
                    have pr6 := Paired.mapP pr5 fun _ _ z => PartAt.kp0 k6 z
                    have vl : vs.length = acc.length := prs.length
                    refine ⟨_, rfl, l2, _, rfl, .inl (SqL.of el6), _, _, rfl, rfl, _, rfl, iteN (decide_eq_false (by omega)) ?_⟩
                    refine ⟨_, rfl, _, rfl, l2, _, rfl, .inl ⟨SqL.of el6, fun t ht => ?_⟩⟩
                    refine ⟨by show 3 ≤ sizeLine; decide, fun r hr => ?_⟩
                    have k7 : Kp Nil H6 (upd H6 t (.tup vs)) := Kp.new ht
                    have k8 : Kp Nil (upd H6 t (.tup vs)) (upd (upd H6 t (.tup vs)) r (.tup [.str (nx zs i), .str "permission", .ref t])) := Kp.new hr
                    have k68 := k6.trans (k7.trans k8)
                    exact q _ _ (kp.trans (k5.any.trans k68.any)) (L5.kp0 k68) ⟨r, t, vs, rfl, upd_same, k8.tup0 upd_same, Paired.mapP pr6 fun _ _ z => z.kp0 (k7.trans k8)⟩
              · rw [if_neg h6] at hrd
                cases hrd
            · rw [if_neg h5] at hrd
              cases hrd
      · rw [if_neg h2] at hrd
        cases hrd
    · rw [if_neg h1] at hrd
      cases hrd
end
end Au
/-! Authsync: read_line. -/
namespace Au
open PySem PySem.Spec PyProof.Rows L2
abbrev TyR := Str × Int × List (Int × Ent)
def PlcAt (H : Hp) (v : V) (x : Int × Ent) : Prop := ∃ p u, v = .ref p ∧ H p = some (.tup [.int x.1, u]) ∧ EntAt H u x.2
theorem PlcAt.stays : Stays PlcAt := fun _ H H' v n k t h => by
  obtain ⟨p, u, rfl, e, e2⟩ := h
  exact ⟨p, u, rfl, k.tup e (t _ _ e), e2.kp k t⟩
def TyAt (H : Hp) (x : Addr × Addr) (t : TyR) : Prop := H x.1 = some (.tup [.str t.1, .int t.2.1, .ref x.2]) ∧ ∃ ws, H x.2 = some (.lst ws) ∧ Paired (PlcAt H) ws t.2.2
theorem TyAt.kp {S : Addr → Prop} {H H' : Hp} (k : Kp S H H') (t : TupFree S H) {x : Addr × Addr} (n : ¬ S x.2) {u : TyR} (h : TyAt H x u) : TyAt H' x u := by
  obtain ⟨e, ws, e2, pr⟩ := h
  exact ⟨k.tup e (t _ _ e), ws, k.old _ _ e2 n nt_lst, Paired.mapP pr fun _ _ z => PlcAt.stays _ _ _ _ _ k t z⟩
structure TypesAt (H : Hp) (l : Addr) (its : List (Addr × Addr)) (ts : List TyR) : Prop where
  at_ : H l = some (.lst (its.map fun x => V.ref x.1))
  nd : (its.map (·.2)).Nodup
  ne : l ∉ its.map (·.2)
  all : Paired (TyAt H) its ts
theorem paired_mem {α β : Type} {F G : α → β → Prop} {l₁ : List α} {l₂ : List β} (h : Paired F l₁ l₂) : (∀ a b, a ∈ l₁ → F a b → G a b) → Paired G l₁ l₂ := by
  induction h with
  | nil => exact fun _ => .nil
  | cons r _ ih => exact fun f => .cons (f _ _ (List.mem_cons_self ..) r) (ih fun a b m => f a b (List.mem_cons_of_mem _ m))
theorem TypesAt.kp {S : Addr → Prop} {H H' : Hp} (k : Kp S H H') (t : TupFree S H) (n : LstFree S H) {l : Addr} {its : List (Addr × Addr)} {ts : List TyR} (h : TypesAt H l its ts) : TypesAt H' l its ts :=
  ⟨k.old _ _ h.at_ (n _ _ h.at_) nt_lst, h.nd, h.ne, Paired.mapP h.all fun x u z => z.kp k t (by obtain ⟨_, ws, e, _⟩ := z; exact n _ _ e)⟩
theorem pair_snoc {α β : Type} {F : α → β → Prop} {l : List α} {m : List β} {b : β} (h : Paired F l (m ++ [b])) : ∃ l0 a, l = l0 ++ [a] ∧ Paired F l0 m ∧ F a b := by
  induction m generalizing l with
  | nil =>
    cases h with
    | cons r t => cases t with
      | nil => exact ⟨[], _, rfl, .nil, r⟩
  | cons c m ih =>
    cases h with
    | cons r t =>
      obtain ⟨l0, a, rfl, p, f⟩ := ih t
      exact ⟨_ :: l0, a, rfl, .cons r p, f⟩
theorem pair_last {α β : Type} {F : α → β → Prop} {l : List α} {a : α} {m : List β} {b : β} (h : Paired F (l ++ [a]) (m ++ [b])) : Paired F l m ∧ F a b := by
  obtain ⟨l0, a0, e, p, f⟩ := pair_snoc h
  obtain ⟨e1, e2⟩ := List.append_inj' e rfl
  cases e1
  cases e2
  exact ⟨p, f⟩
def putTy (ts : List TyR) (n : Int) (e : Ent) : Option (List TyR) := match ts.getLast? with
  | none => none
  | some t => if t.2.2.length < 8 then some (ts.dropLast ++ [(t.1, t.2.1, t.2.2 ++ [(n, e)])]) else none
theorem putTy_some {ts ts' : List TyR} {n : Int} {e : Ent} (h : putTy ts n e = some ts') : ∃ ts0 t, ts = ts0 ++ [t] ∧ t.2.2.length < 8 ∧ ts' = ts0 ++ [(t.1, t.2.1, t.2.2 ++ [(n, e)])] := by
  unfold putTy at h
  cases z : ts.getLast? with
  | none => rw [z] at h; cases h
  | some t =>
    rw [z] at h
    have h : (if t.2.2.length < 8 then some (ts.dropLast ++ [(t.1, t.2.1, t.2.2 ++ [(n, e)])]) else none) = some ts' := h
    by_cases h8 : t.2.2.length < 8
    · rw [if_pos h8] at h
      have hne : ts ≠ [] := fun q => by rw [q] at z; cases z
      refine ⟨ts.dropLast, t, ?_, h8, (Option.some.inj h).symm⟩
      have : ts.getLast hne = t := by
        rw [List.getLast?_eq_some_getLast hne] at z
        exact Option.some.inj z
      rw [← this]
      exact (List.dropLast_concat_getLast hne).symm
    · rw [if_neg h8] at h
      cases h
def rdLine (n : Int) (zs : List Str) (ts : List TyR) : Option (List TyR) :=
  if nx zs 0 = "type" then (if isIdent (nx zs 1) = true then (if zs.length ≤ 2 then (if ts.length < 8 then some (ts ++ [(nx zs 1, n, [])]) else none) else none) else none)
  else if nx zs 0 = "relation" then (rdRel zs 1).bind fun r => putTy ts n r.1
  else if nx zs 0 = "permission" then (rdPer zs 1).bind fun r => putTy ts n r.1 else none
abbrev LnS (a l : Addr) (its : List (Addr × Addr)) : Addr → Prop := fun b => b = a ∨ b = l ∨ b ∈ its.map (·.2)
def spRdLine (K : PySem.W.Frag) : Sp := fun vs H Q _ => ∃ a c n zs l its ts ts', vs = [.ref a, .ref l] ∧ LineAt K H a c n zs 0 ∧ Sml zs ∧ Tabs K H ∧ TypesAt H l its ts ∧ c.2 ≠ l ∧ c.2 ∉ its.map (·.2) ∧ rdLine n zs ts = some ts' ∧
  ∀ H' its', Kp (LnS a l its) H H' → TypesAt H' l its' ts' → (∀ b ∈ its'.map (·.2), b ∈ its.map (·.2) ∨ H b = none) → Q .non H'
section
variable {P : Program} {w : World} {K : PySem.W.Frag} {mg : Str → Option Value} {base : Heap}
theorem sc_read_line : FnScope ["line", "types", "kind", "entry"] ["line", "types"] (defScope s_read_line) := ⟨rfl, rfl, rfl, by decide +kernel, rfl, by decide +kernel, by decide +kernel⟩
theorem ok_read_line (T : Top K mg base) : Cal P w K mg base CX0 9 ("read_line", none) ["line", "types"] (spRdLine K) := by
  obtain ⟨fd, F⟩ := T.d_read_line
  have cs := ok_Line_name (P := P) (w := w) T
  obtain ⟨fd1, F1, b1⟩ := cs.ex
  have cs2 := ok_Line_take (P := P) (w := w) T
  obtain ⟨fd2, F2, b2⟩ := cs2.ex
  have cs4 := ok_Line_finish (P := P) (w := w) T
  obtain ⟨fd4, F4, b4⟩ := cs4.ex
  have cs5 := ok_read_relation (P := P) (w := w) T
  obtain ⟨fd5, F5, b5⟩ := cs5.ex
  have cs6 := ok_read_permission (P := P) (w := w) T
  obtain ⟨fd6, F6, b6⟩ := cs6.ex
  obtain ⟨tm, em⟩ := T.i_TYPES_MOST
  obtain ⟨tm2, em2⟩ := T.i_NAMES_MOST
  refine ⟨⟨fd, FunD.ok F sc_read_line (fun vs H Q E h => ?_) (fun cdv A outer s H vs Q E hr h => ?_), FunD.bindsN F fun _ _ _ _ _ _ us hl => match us, hl with | [_, _], _ => rfl⟩, F.kp⟩
  · obtain ⟨a, c, n, zs, l, its, ts, ts', rfl, _⟩ := h
    rfl
  · obtain ⟨a, c, n, zs, l, its, ts, ts', rfl, hL, hz, ht, hT, ncl, nci, hrd, q⟩ := h
    have nd := sc_read_line.nd
    refine ⟨_, pss_cons (ps_set (i := 2) nd rfl (.inl rfl) (pe_meth0 (pv 0) T.c_Line T.m_Line_take F2 (hr.mono (by decide)) b2 .nil pass0))
      (pss_cons (ps_if (pt_cmpR op_eq (pv 2) pe_str (nomark _))
        (pss_cons (ps_expr (pe_bm PySem.F.plainAttrs_list PySem.F.slot_list_append PySem.F.type_list_append mt_append (pv 1) (pa_cons (pe_tup (pa_cons (pe_meth0 (pv 0) T.c_Line T.m_Line_name F1 (hr.mono (by decide)) b1 .nil pass0) (pa_cons (pe_fld (pv 0) rfl) (pa_cons (pe_lst pa_nil) pa_nil)))) pa_nil)))
        (pss_cons (ps_expr (pe_meth0 (pv 0) T.c_Line T.m_Line_finish F4 (hr.mono (by decide)) b4 .nil pass0))
        (pss_cons (ps_if (pt_cmpR op_gt (pe_callB call_len_seq (by rfl) T.f_len PySem.boot_len (pa_cons (pv 1) pa_nil)) (pe_glob (v := .int 8) rfl em ⟨_, rfl⟩) (nomark _)) (pss_one ps_never) pss_nil)
        (pss_one ps_retN)))) pss_nil)
      (pss_cons (ps_if (PW.pt (pw_or (pt_cmpR op_notIn_seq (pv 2) (pe_tup (pa_cons pe_str (pa_cons pe_str pa_nil))) rfl) (pw_or1 (pt_not (pt_truth (pv 1) (fun _ => rfl)))))) (pss_one ps_never) pss_nil)
      (pss_cons (ps_set (i := 3) nd rfl (.inl rfl) (pe_ifExp (pt_cmpR op_eq (pv 2) pe_str (nomark _)) (pe_call F5 hr rfl T.g_read_relation cs5.kp b5 .nil pass0 (pa_cons (pv 0) pa_nil)) (pe_call F6 hr rfl T.g_read_permission cs6.kp b6 .nil pass0 (pa_cons (pv 0) pa_nil))))
      (pss_cons (ps_expr (pe_bm PySem.F.plainAttrs_list PySem.F.slot_list_append PySem.F.type_list_append mt_append (pe_ix ix_tup (pe_ix ix_list (pv 1) (pe_un un_neg pe_int) (fun _ _ => rfl)) pe_int (fun _ _ => rfl)) (pa_cons (pe_tup (pa_cons (pe_fld (pv 0) rfl) (pa_cons (pv 3) pa_nil))) pa_nil)))
      (pss_one (ps_if (pt_cmpR op_gt (pe_callB call_len_seq (by rfl) T.f_len PySem.boot_len (pa_cons (pe_ix ix_tup (pe_ix ix_list (pv 1) (pe_un un_neg pe_int) (fun _ _ => rfl)) pe_int (fun _ _ => rfl)) pa_nil)) (pe_glob (v := .int 8) rfl em2 ⟨_, rfl⟩) (nomark _)) (pss_one ps_never) pss_nil)))))), ?_⟩
    have lnS1 : ∀ b, Only a b → LnS a l its b := fun b h => .inl h
    have nla : l ≠ a := ne_of hT.at_ hL.1 fun z => by cases z
    refine ⟨_, rfl, a, c.1, _, rfl, hL.1, rfl, a, c, n, zs, 0, rfl, hL, hz.1, fun H1 k1 L1 => ?_⟩
    have T1 := hT.kp k1 hL.tup hL.lst
    have ht1 := ht.kp k1
    unfold rdLine at hrd
    refine ⟨_, rfl, rfl, _, rfl, itb (fun c1 => ?_) fun c1 => ?_⟩
    · have c1 : nx zs 0 = "type" := V.str.inj (of_decide_eq_true c1)
      rw [if_pos c1] at hrd
      by_cases h1 : isIdent (nx zs 1) = true
      · rw [if_pos h1] at hrd
        by_cases h2 : zs.length ≤ 2
        · rw [if_pos h2] at hrd
          by_cases h3 : ts.length < 8
          · rw [if_pos h3] at hrd
            have hrd := Option.some.inj hrd
            have hlen : its.length = ts.length := T1.all.length
            refine ⟨_, rfl, .inl ⟨rfl, _, .inl (.inl T1.at_)⟩, _, rfl, a, c.1, _, rfl, L1.1, rfl, a, c, n, zs, 1, rfl, L1, hz.1, ht1, h1, hz.nx _, fun H2 k2 L2 => ?_⟩
            have T2 := T1.kp k2 L1.tup L1.lst
            refine ⟨_, rfl, a, _, c.1, _, _, rfl, L2.1, T.c_Line, T.n_Line_number, rfl, by show 0 ≤ sizeLine; decide, fun q0 hq0 => ⟨by show 3 ≤ sizeLine; decide, fun p0 hp0 => ?_⟩⟩
            have k3 : Kp Nil H2 (upd H2 q0 (.lst [])) := Kp.new hq0
            have k4 : Kp Nil (upd H2 q0 (.lst [])) (upd (upd H2 q0 (.lst [])) p0 (.tup [.str (nx zs 1), .int n, .ref q0])) := Kp.new hp0
            have T4 := T2.kp (k3.trans k4) tupFree_nil lstFree_nil
            have L4 := L2.kp0 (k3.trans k4)
            have e0 : (upd (upd H2 q0 (.lst [])) p0 (.tup [.str (nx zs 1), .int n, .ref q0])) q0 = some (.lst []) := k4.lst0 upd_same
            have ep : (upd (upd H2 q0 (.lst [])) p0 (.tup [.str (nx zs 1), .int n, .ref q0])) p0 = some (.tup [.str (nx zs 1), .int n, .ref q0]) := upd_same
            generalize hH4 : upd (upd H2 q0 (.lst [])) p0 (.tup [.str (nx zs 1), .int n, .ref q0]) = H4 at k4 T4 L4 e0 ep
            refine ⟨l, _, _, rfl, rfl, T4.at_, by rw [List.length_map, sizeLine_eq]; omega, ?_⟩
            have k5 : Kp (LnS a l its) H4 (upd H4 l (.lst ((its.map fun x => V.ref x.1) ++ [.ref p0]))) := Kp.put T4.at_ nt_lst (.inr (.inl rfl))
            have k5l : Kp (Only l) H4 (upd H4 l (.lst ((its.map fun x => V.ref x.1) ++ [.ref p0]))) := Kp.put T4.at_ nt_lst rfl
            have t5 : TupFree (Only l) H4 := lst_free T4.at_
            have nq0 : q0 ∉ its.map (·.2) := fun z => by
              obtain ⟨x, hx, rfl⟩ := List.mem_map.mp z
              obtain ⟨u, _, hu⟩ := pair_left T2.all x hx
              obtain ⟨_, ws, e, _⟩ := hu
              rw [e] at hq0
              cases hq0
            have nq0l : q0 ≠ l := fun z => by
              rw [z, T2.at_] at hq0
              cases hq0
            have L5 : LineAt K (upd H4 l (.lst ((its.map fun x => V.ref x.1) ++ [.ref p0]))) a c n zs (0 + 1 + 1) := ⟨o2 L4.1 (Ne.symm nla), o2 L4.2 ncl⟩
            have T5 : TypesAt (upd H4 l (.lst ((its.map fun x => V.ref x.1) ++ [.ref p0]))) l (its ++ [(p0, q0)]) (ts ++ [(nx zs 1, n, [])]) := by
              refine ⟨?_, ?_, ?_, pair_append (paired_mem T4.all fun x u hx z => z.kp k5l t5 fun (zl : x.2 = l) => T4.ne (by rw [← zl]; exact List.mem_map_of_mem hx)) (.cons ⟨k5l.tup ep (t5 _ _ ep), [], o2 e0 nq0l, .nil⟩ .nil)⟩
              · rw [upd_same, List.map_append]
                rfl
              · rw [List.map_append]
                refine List.nodup_append.mpr ⟨T4.nd, List.nodup_cons.mpr ⟨by simp, List.nodup_nil⟩, fun x hx y hy => ?_⟩
                have hy : y = q0 := List.mem_singleton.mp hy
                exact fun z => nq0 (by rw [← hy, ← z]; exact hx)
              · rw [List.map_append, List.mem_append]
                rintro (z | z)
                · exact T4.ne z
                · exact nq0l (List.mem_singleton.mp z).symm
            refine ⟨_, rfl, a, c.1, _, rfl, L5.1, rfl, a, c, n, zs, 0 + 1 + 1, rfl, L5, hz.1, h2, fun H6 k6 => ?_⟩
            have T6 := T5.kp k6 tupFree_nil lstFree_nil
            refine ⟨_, rfl, l, _, rfl, .inl (SqL.of T6.at_), _, _, rfl, rfl, _, rfl, iteN (decide_eq_false ?_) ?_⟩
            · rw [List.length_map, List.length_append]
              show ¬ (8 : Int) < ((its.length + 1 : Nat) : Int)
              omega
            · refine q H6 (its ++ [(p0, q0)]) ?_ (hrd ▸ T6) fun b hb => ?_
              · have k34 : Kp Nil H2 H4 := k3.trans k4
                exact (k1.mono lnS1).trans ((k2.mono lnS1).trans (k34.any.trans (k5.trans k6.any)))
              · rw [List.map_append] at hb
                rcases List.mem_append.mp hb with hb | hb
                · exact .inl hb
                · rw [List.mem_singleton.mp hb]
                  exact .inr (k1.fr _ (k2.fr _ hq0))
          · rw [if_neg h3] at hrd
            cases hrd
        · rw [if_neg h2] at hrd
          cases hrd
      · rw [if_neg h1] at hrd
        cases hrd
    · have c1 : ¬ nx zs 0 = "type" := fun z => by rw [z] at c1; simp at c1
      rw [if_neg c1] at hrd
      have ex : ∃ e j, putTy ts n e = some ts' ∧ ((nx zs 0 = "relation" ∧ rdRel zs 1 = some (e, j)) ∨ (nx zs 0 = "permission" ∧ rdPer zs 1 = some (e, j))) := by
        by_cases h1 : nx zs 0 = "relation"
        · rw [if_pos h1] at hrd
          cases h2 : rdRel zs 1 with
          | none => rw [h2] at hrd; cases hrd
          | some r => rw [h2] at hrd; exact ⟨r.1, r.2, hrd, .inl ⟨h1, rfl⟩⟩
        · rw [if_neg h1] at hrd
          by_cases h3 : nx zs 0 = "permission"
          · rw [if_pos h3] at hrd
            cases h2 : rdPer zs 1 with
            | none => rw [h2] at hrd; cases hrd
            | some r => rw [h2] at hrd; exact ⟨r.1, r.2, hrd, .inr ⟨h3, rfl⟩⟩
          · rw [if_neg h3] at hrd
            cases hrd
      obtain ⟨e, j, hput, hcase⟩ := ex
      obtain ⟨ts0, t, rfl, ht8, rfl⟩ := putTy_some hput
      obtain ⟨its0, x, rfl, pr0, hx0⟩ := pair_snoc T1.all
      refine ⟨_, rfl, by show 2 ≤ sizeLine; decide, fun r0 hr0 => ?_⟩
      have k2 : Kp Nil H1 (upd H1 r0 (.tup [.str "relation", .str "permission"])) := Kp.new hr0
      have er0 : (upd H1 r0 (.tup [.str "relation", .str "permission"])) r0 = some (.tup [.str "relation", .str "permission"]) := upd_same
      generalize hH2 : upd H1 r0 (.tup [.str "relation", .str "permission"]) = H2 at k2 er0
      have T2 := T1.kp k2 tupFree_nil lstFree_nil
      have L2' := L1.kp0 k2
      refine ⟨r0, _, rfl, .inr (SqT.of er0), rfl, rfl, _, rfl, iteN ?_ ?_⟩
      · rcases hcase with ⟨h, _⟩ | ⟨h, _⟩ <;> rw [h] <;> decide +kernel
      refine ⟨_, rfl, true, .inl ⟨_, SqL.of T2.at_, ?_⟩, iteN rfl ?_⟩
      · rw [List.map_append]
        simp
      have rd : ∀ (E1 E2 : XK) (Q : VK), (∀ H3 v j, Kp (Only a) H2 H3 → LineAt K H3 a c n zs j → EntAt H3 v e → Q v H3) →
          tIf (tTest (tOp rEq (tVar 2) (tC (.str "relation")))) (tCall (spRdEnt K rdRel) [] E1 (tCons (tVar 0) tNil)) (tCall (spRdEnt K rdPer) [] E2 (tCons (tVar 0) tNil)) [some (.ref a), some (.ref l), some (.str (nx zs 0)), none] H2 Q := by
        intro E1 E2 Q hQ
        refine ⟨_, rfl, rfl, _, rfl, itb (fun c2 => ?_) fun c2 => ?_⟩
        · have c2 : nx zs 0 = "relation" := V.str.inj (of_decide_eq_true c2)
          rcases hcase with ⟨_, hr2⟩ | ⟨h, _⟩
          · exact ⟨_, rfl, a, c, n, zs, 1, e, j, rfl, L2', hz, ht1.kp k2, hr2, fun H3 v k3 L3 e3 => hQ H3 v j k3 L3 e3⟩
          · rw [h] at c2
            exact absurd c2 (by decide +kernel)
        · rcases hcase with ⟨h, _⟩ | ⟨_, hr2⟩
          · rw [h] at c2
            simp at c2
          · exact ⟨_, rfl, a, c, n, zs, 1, e, j, rfl, L2', hz, ht1.kp k2, hr2, fun H3 v k3 L3 e3 => hQ H3 v j k3 L3 e3⟩
      refine rd _ _ _ fun H3 v j3 k3 L3 e3 => ?_
      have T3 := T2.kp k3 L2'.tup L2'.lst
      have k13 : Kp (LnS a l (its0 ++ [x])) H H3 := (k1.mono lnS1).trans (k2.any.trans (k3.mono lnS1))
      have hne : ((its0 ++ [x]).map fun x => V.ref x.1) ≠ [] := by simp
      have hlast : ∀ {H4 : Hp}, TypesAt H4 l (its0 ++ [x]) (ts0 ++ [t]) → atI ((its0 ++ [x]).map fun x => V.ref x.1) (-1) = some (V.ref x.1) := fun _ => by
        unfold atI
        rw [ixN_last hne]
        simp
      obtain ⟨_, hx3⟩ := pair_last T3.all
      obtain ⟨ex1, ws, ex2, prw⟩ := hx3
      refine ⟨_, rfl, _, rfl, l, _, -1, _, rfl, rfl, SqL.of T3.at_, hlast T3, x.1, _, 2, _, rfl, rfl, SqT.of ex1, rfl, .inl ⟨rfl, _, .inl (.inl ex2)⟩, ?_⟩
      refine ⟨_, rfl, a, _, c.1, _, _, rfl, L3.1, T.c_Line, T.n_Line_number, rfl, _, rfl, by show 2 ≤ sizeLine; decide, fun p1 hp1 => ?_⟩
      have k4 : Kp Nil H3 (upd H3 p1 (.tup [.int n, v])) := Kp.new hp1
      have ep1 : (upd H3 p1 (.tup [.int n, v])) p1 = some (.tup [.int n, v]) := upd_same
      generalize hH4 : upd H3 p1 (.tup [.int n, v]) = H4 at k4 ep1
      have T4 := T3.kp k4 tupFree_nil lstFree_nil
      have ex24 := k4.lst0 ex2
      have hwl : ws.length = t.2.2.length := prw.length
      refine ⟨x.2, ws, _, rfl, rfl, ex24, by rw [sizeLine_eq]; omega, ?_⟩
      have hmem2 : x.2 ∈ (its0 ++ [x]).map (·.2) := List.mem_map_of_mem (List.mem_append_right _ (List.mem_singleton.mpr rfl))
      have k5 : Kp (LnS a l (its0 ++ [x])) H4 (upd H4 x.2 (.lst (ws ++ [.ref p1]))) := Kp.put ex24 nt_lst (.inr (.inr hmem2))
      have k5l : Kp (Only x.2) H4 (upd H4 x.2 (.lst (ws ++ [.ref p1]))) := Kp.put ex24 nt_lst rfl
      have t5 : TupFree (Only x.2) H4 := lst_free ex24
      have nxl : l ≠ x.2 := fun z => T4.ne (by rw [z]; exact hmem2)
      have nd0 := T4.nd
      rw [List.map_append] at nd0
      obtain ⟨pr4, _⟩ := pair_last T4.all
      have T5 : TypesAt (upd H4 x.2 (.lst (ws ++ [.ref p1]))) l (its0 ++ [x]) (ts0 ++ [(t.1, t.2.1, t.2.2 ++ [(n, e)])]) := by
        refine ⟨o2 T4.at_ nxl, T4.nd, T4.ne, pair_append (paired_mem pr4 fun y u hy z => z.kp k5l t5 fun (zl : y.2 = x.2) => ?_) (.cons ⟨k5l.tup (k4.tup0 ex1) (t5 _ _ (k4.tup0 ex1)), ws ++ [.ref p1], upd_same, pair_append (Paired.mapP prw fun _ _ z => PlcAt.stays _ _ _ _ _ k5l t5 (PlcAt.stays _ _ _ _ _ k4 tupFree_nil z)) (.cons ⟨p1, v, rfl, k5l.tup ep1 (t5 _ _ ep1), ?_⟩ .nil)⟩ .nil)⟩
        · exact (List.nodup_append.mp nd0).2.2 _ (List.mem_map_of_mem hy) _ (List.mem_singleton.mpr rfl) zl
        · exact (e3.kp0 k4).kp k5l t5
      refine ⟨_, rfl, _, rfl, l, _, -1, _, rfl, rfl, SqL.of T5.at_, hlast T4, x.1, _, 2, _, rfl, rfl, SqT.of (k5l.tup (k4.tup0 ex1) (t5 _ _ (k4.tup0 ex1))), rfl, x.2, _, rfl, .inl (SqL.of upd_same), _, _, rfl, rfl, _, rfl, iteN (decide_eq_false ?_) ?_⟩
      · rw [List.length_append]
        show ¬ (8 : Int) < ((ws.length + 1 : Nat) : Int)
        omega
      · exact q _ (its0 ++ [x]) (k13.trans (k4.any.trans k5)) T5 fun b hb => .inl hb
end
end Au
/-! Authsync: check_duplicates. -/
namespace Au
open PySem PySem.Spec PyProof.Rows L2
theorem cut_take {xs : List V} {i : Nat} (h : i ≤ xs.length) : cutV xs none (some (i : Int)) = xs.take i := by
  unfold cutV
  rw [HT.sIx_none, HT.sIx_nat, List.drop_zero]
  congr 1
  omega
structure TypesOk (ts : List TyR) : Prop where
  nd : (ts.map (·.1)).Nodup
  each : ∀ t ∈ ts, (t.2.2.map (·.2.name)).Nodup ∧ t.2.2.length ≤ 1000
  len : ts.length ≤ 1000
def spDup (K : PySem.W.Frag) : Sp := fun vs H Q _ => ∃ l its ts, vs = [.ref l] ∧ TypesAt H l its ts ∧ TypesOk ts ∧ Tabs K H ∧ ∀ H', Kp Nil H H' → Q .non H'
theorem nodup_take {α : Type} {xs : List α} (h : xs.Nodup) {i j : Nat} {x : α} (e : xs[i]? = some x) (hj : j < i) : xs[j]? ≠ some x := fun z => by
  have := (List.getElem?_inj (List.getElem?_eq_some_iff.mp z).1 h).mp (z.trans e.symm)
  omega
theorem inV_none {xs : List Str} {z : Str} (h : z ∉ xs) : inV (.str z) (xs.map V.str) = false := by
  unfold inV
  rw [List.any_map, Bool.eq_false_iff]
  intro q
  obtain ⟨y, hy, e⟩ := List.any_eq_true.mp q
  have e : (y == z) = true := e
  rw [beq_iff_eq] at e
  rw [e] at hy
  exact h hy
section
variable {P : Program} {w : World} {K : PySem.W.Frag} {mg : Str → Option Value} {base : Heap}
theorem sc_check_duplicates : FnScope ["types", "faults", "at", "number", "entries", "names", "entry", "name", "other"] ["types"] (defScope s_check_duplicates) := ⟨rfl, rfl, rfl, by decide +kernel, rfl, by decide +kernel, by decide +kernel⟩
theorem gs_dup : GScp ["types", "faults", "at", "number", "entries", "names", "entry", "name", "other"] (defScope s_check_duplicates) { kind := .function, names := [(".0", .local), ("other", .local), ("name", .free)], isGenerator := true, isCoroutine := false } [("other", 8)] :=
  Gscp_of (blkOk_by (by decide +kernel)) (by decide +kernel) rfl (by decide +kernel)
theorem ok_check_duplicates (T : Top K mg base) : Cal P w K mg base CX0 4 ("check_duplicates", none) ["types"] (spDup K) := by
  obtain ⟨fd, F⟩ := T.d_check_duplicates
  refine ⟨⟨fd, funD_okC F sc_check_duplicates (fun vs H Q E h => ?_) (fun A outer s H vs Q E hr h => ?_), FunD.bindsN F fun _ _ _ _ _ _ us hl => match us, hl with | [_], _ => rfl⟩, F.kp⟩
  · obtain ⟨l, its, ts, rfl, _⟩ := h
    rfl
  · obtain ⟨l, its, ts, rfl, hT, ok, ht, q⟩ := h
    have nd := sc_check_duplicates.nd
    refine ⟨_, pss_cons (ps_set (i := 1) nd rfl (.inl rfl) (pe_lst pa_nil))
      (pss_cons (ps_for (passes_of rfl) rfl (pi_enum (by rfl) T.f_enumerate (pa_cons (pv 0) pa_nil))
        (pg_tup rfl (pgs_cons (pg_name (i := 2) nd rfl (.inl rfl)) (pgs_cons (pg_tup rfl (pgs_cons (pg_name (i := 7) nd rfl (.inr rfl)) (pgs_cons (pg_name (i := 3) nd rfl (.inl rfl)) (pgs_cons (pg_name (i := 4) nd rfl (.inl rfl)) pgs_nil)))) pgs_nil)))
        (pss_cons (ps_if (pt_val (pe_anyG (k := 1) (te := tOp rEq (tVar 7) (tOp (rIxT K) (tVar 8) (tC (.int 0)))) (own := [("other", 8)]) (hr.mono (by decide)) (by rfl) T.f_any T.tabDup rfl gs_dup nd rfl (pi_list (pe_slice sl_list (pv 0) po_none (po_some (pv 2))))
            (fun _ _ _ _ _ _ _ _ => pg_name (i := 8) nd rfl (.inl rfl)) (fun _ _ _ _ _ _ _ hr' => pe_cmpR op_eq (pv 7) (pe_ix ix_tup (pv 8) pe_int (fun _ _ => rfl)) (nomark _)))) (pss_one ps_never) pss_nil)
        (pss_cons (ps_set (i := 5) nd rfl (.inl rfl) (pe_lst pa_nil))
        (pss_one (ps_for (passes_of rfl) rfl (pi_list (pv 4)) (pg_tup rfl (pgs_cons (pg_name (i := 3) nd rfl (.inl rfl)) (pgs_cons (pg_name (i := 6) nd rfl (.inl rfl)) pgs_nil)))
          (pss_cons (ps_if (pt_cmpR op_in_seq (pe_ix ix_tup (pv 6) pe_int (fun _ _ => rfl)) (pv 5) rfl) (pss_one ps_never) pss_nil)
          (pss_one (ps_expr (pe_bm PySem.F.plainAttrs_list PySem.F.slot_list_append PySem.F.type_list_append mt_append (pv 5) (pa_cons (pe_ix ix_tup (pv 6) pe_int (fun _ _ => rfl)) pa_nil))))))))))
      (pss_one (ps_if (pt_truth (pv 1) (fun _ => rfl)) (pss_one ps_never) pss_nil))), ?_⟩
    refine ⟨by show 0 ≤ sizeLine; decide, fun lf hlf => ?_⟩
    have k0 : Kp Nil H (upd H lf (.lst [])) := Kp.new hlf
    have hlen : its.length = ts.length := hT.all.length
    have hxl : (its.map fun x => V.ref x.1).length = ts.length := by rw [List.length_map, hlen]
    refine ⟨_, rfl, l, _, rfl, SqL.of (k0.lst0 hT.at_), ?_⟩
    refine for_it (walk_enum (K := K) (a := l) (xs := its.map fun x => V.ref x.1)) (fun i σ H' => Kp Nil H H' ∧ H' lf = some (.lst []) ∧ ∃ x2 x3 x4 x5 x6 x7, σ = [some (.ref l), some (.ref lf), x2, x3, x4, x5, x6, x7, none])
      ⟨k0, upd_same, _, _, _, _, _, _, rfl⟩ (fun i σ H' _ p => SqL.of (p.1.lst0 hT.at_)) (fun i x σ H1 H2 hi p y => ?_) fun σ H' p => ?_
    · obtain ⟨k1, e1, x2, x3, x4, x5, x6, x7, rfl⟩ := p
      obtain ⟨U, x, y, rfl, hU, rfl, ex, ey⟩ := y
      have ex : V.int (i : Int) = x := Option.some.inj ex
      subst ex
      have ey : (its.map fun x => V.ref x.1)[i]? = some y := ey
      rw [List.getElem?_map] at ey
      cases hit : its[i]? with
      | none => rw [hit] at ey; cases ey
      | some it =>
        rw [hit] at ey
        obtain rfl := Option.some.inj ey
        obtain ⟨t, ht2, htA⟩ := pair_get hT.all hit
        have k2 : Kp Nil H1 (upd H1 U (.tup [.int (i : Int), .ref it.1])) := Kp.new hU
        have e2 := k2.lst0 e1
        have eU : (upd H1 U (.tup [.int (i : Int), .ref it.1])) U = some (.tup [.int (i : Int), .ref it.1]) := upd_same
        generalize hH2 : upd H1 U (.tup [.int (i : Int), .ref it.1]) = H2 at k2 e2 eU
        have k02 := k1.trans k2
        obtain ⟨et, ws, ew, prw⟩ := htA
        have hwl : ws.length = t.2.2.length := prw.length
        have okt := ok.each t (List.mem_of_getElem? ht2)
        refine ⟨U, _, rfl, SqT.of eU, rfl, _, _, rfl, _, _, rfl, ⟨it.1, _, rfl, SqT.of (k02.tup0 et), rfl, _, _, rfl, _, _, rfl, _, _, rfl, rfl, ?_⟩⟩
        refine ⟨rfl, ?_⟩
        have hilt : i < ts.length := (List.getElem?_eq_some_iff.mp ht2).1
        refine ⟨_, rfl, _, rfl, _, rfl, l, _, rfl, SqL.of (k02.lst0 hT.at_), fun ls hls => ?_⟩
        have hcut : cutV (its.map fun x => V.ref x.1) none (some (i : Int)) = (its.take i).map fun x => V.ref x.1 := by
          rw [cut_take (by omega), List.map_take]
        rw [hcut]
        have k3 : Kp Nil H2 (upd H2 ls (.lst ((its.take i).map fun x => V.ref x.1))) := Kp.new hls
        have es : (upd H2 ls (.lst ((its.take i).map fun x => V.ref x.1))) ls = some (.lst ((its.take i).map fun x => V.ref x.1)) := upd_same
        generalize hH3 : upd H2 ls (.lst ((its.take i).map fun x => V.ref x.1)) = H3 at k3 es
        have k03 := k02.trans k3
        obtain ⟨W, Qe, Qx, w0, turn, qe, qx⟩ := gen_it (walk_list (K := K) (a := ls) (xs := (its.take i).map fun x => V.ref x.1)) (g := gName 8) (te := tOp rEq (tVar 7) (tOp (rIxT K) (tVar 8) (tC (.int 0))))
          (σ := [some (.ref l), some (.ref lf), some (.int (i : Int)), some (.int t.2.1), some (.ref it.2), x5, x6, some (.str t.1), none]) (e := false) (fun _ => false) (fun _ H' => Kp Nil H3 H') (fun _ H' _ k => SqL.of (k.lst0 es))
          (fun j x H4 H5 R hj k4 y hR => by
            obtain ⟨rfl, hx⟩ := y
            rw [List.getElem?_map] at hx
            cases hjt : (its.take i)[j]? with
            | none => rw [hjt] at hx; cases hx
            | some jt =>
              rw [hjt] at hx
              obtain rfl := Option.some.inj hx
              have hji : j < i := by
                have := (List.getElem?_eq_some_iff.mp hjt).1
                rw [List.length_take] at this
                omega
              rw [List.getElem?_take_of_lt hji] at hjt
              obtain ⟨u, hu, hA⟩ := pair_get hT.all hjt
              have hne : ¬ t.1 = u.1 := fun z => by
                have h1 : (ts.map (·.1))[i]? = some t.1 := by rw [List.getElem?_map, ht2]; rfl
                have h2 : (ts.map (·.1))[j]? = some t.1 := by rw [List.getElem?_map, hu, z]; rfl
                exact nodup_take ok.nd h1 hji h2
              refine ⟨⟨rfl, fun j v e => ?_⟩, _, rfl, _, rfl, jt.1, _, 0, _, rfl, rfl, SqT.of ((k03.trans k4).tup0 hA.1), rfl, rfl, ?_⟩
              · match j, e with
                | 0, e => exact e
                | 1, e => exact e
                | 2, e => exact e
                | 3, e => exact e
                | 4, e => exact e
                | 5, e => exact e
                | 6, e => exact e
                | 7, e => exact e
                | 8, e => cases e
                | j + 9, e => simp at e
              · have := hR _ k4
                rw [decide_eq_false fun z => hne (V.str.inj z)]
                exact this)
        refine ⟨ls, rfl, ⟨_, SqL.of es⟩, (ht.kp k03).dup, W, Qe, Qx, fun H4 t4 => w0 H4 (Kp.tabbed (ht.kp k03).dup t4), turn, fun H4 q4 => ⟨false, rfl, iteF ?_⟩, fun H4 q4 => ?_⟩
        · obtain ⟨k4, _⟩ := qe H4 q4
          have k04 := k03.trans k4
          have e4 := k4.lst0 (k3.lst0 e2)
          refine ⟨by show 0 ≤ sizeLine; decide, fun ln hln => ?_⟩
          have k5 : Kp Nil H4 (upd H4 ln (.lst [])) := Kp.new hln
          have hln0 : H ln = none := k04.fr _ hln
          have nfn : lf ≠ ln := ne_of_none e4 hln
          refine ⟨_, rfl, it.2, rfl, ⟨_, SqL.of ((k04.trans k5).lst0 ew)⟩, ?_⟩
          refine for_it (walk_list (K := K) (a := it.2) (xs := ws)) (fun j σ H' => Kp Nil H H' ∧ H' lf = some (.lst []) ∧ H' ln = some (.lst (((t.2.2.map (·.2.name)).take j).map V.str)) ∧ ∃ x2 x3 x4 x6 x7, σ = [some (.ref l), some (.ref lf), x2, x3, x4, some (.ref ln), x6, x7, none])
            ⟨k04.trans k5, k5.lst0 e4, upd_same, _, _, _, _, _, rfl⟩ (fun j σ H' _ p => SqL.of (p.1.lst0 ew)) (fun j x σ H6 H7 hj p y => ?_) fun σ H' p => ?_
          · obtain ⟨rfl, hx⟩ := y
            obtain ⟨k6, e6, en6, x2, x3, x4, x6, x7, rfl⟩ := p
            obtain ⟨pe, hpe, r, u, rfl, er, p2, c2, ws2, rfl, eu, _⟩ := pair_get prw hx
            refine ⟨r, _, rfl, SqT.of (k6.tup0 er), rfl, _, _, rfl, _, _, rfl, rfl, ?_⟩
            have hnm : (t.2.2.map (·.2.name))[j]? = some pe.2.name := by rw [List.getElem?_map, hpe]; rfl
            have hnin : pe.2.name ∉ (t.2.2.map (·.2.name)).take j := fun z => by
              obtain ⟨m, hm, e⟩ := List.mem_take_iff_getElem.mp z
              have lt : m < j := by omega
              exact nodup_take okt.1 hnm lt (by rw [← e]; exact List.getElem?_eq_getElem _)
            have few : ((t.2.2.map (·.2.name)).take j).length ≤ 1000 := by
              rw [List.length_take, List.length_map]
              have := okt.2
              omega
            refine ⟨_, rfl, p2, _, 0, _, rfl, rfl, SqT.of (k6.tup0 eu), rfl, _, rfl, ln, _, rfl, .inl (SqL.of en6), rfl, ?_, _, rfl, iteN (inV_none hnin) ?_⟩
            · rw [List.all_map]
              exact List.all_eq_true.mpr fun _ _ => rfl
            · refine ⟨_, rfl, .inl ⟨rfl, _, .inl (.inl en6)⟩, _, rfl, p2, _, 0, _, rfl, rfl, SqT.of (k6.tup0 eu), rfl, ln, _, _, rfl, rfl, en6, by rw [List.length_map, sizeLine_eq]; omega, k6.fill hln0, o2 e6 nfn, ?_, _, _, _, _, _, rfl⟩
              rw [upd_same, take_next hnm, List.map_append]
              rfl
          · obtain ⟨k6, e6, en6, x2, x3, x4, x6, x7, rfl⟩ := p
            exact ⟨k6, e6, _, _, _, _, _, _, rfl⟩
        · obtain ⟨_, _, z, _⟩ := qx H4 q4
          exact absurd rfl z
    · obtain ⟨k1, e1, x2, x3, x4, x5, x6, x7, rfl⟩ := p
      exact ⟨_, rfl, false, .inl ⟨_, SqL.of e1, rfl⟩, iteF (q H' k1)⟩
end
end Au
/-! Authsync: is_known. -/
namespace Au
open PySem PySem.Spec PyProof.Rows L2
def KnownOk (S : Sch) (k : Str) (e : Ent) : Prop :=
  if e.rel = true then ∀ p ∈ e.parts, ∃ o i, p = [o, i] ∧ o ∈ S.map (·.1) ∧ (i ≠ "" → (findE S o i).isSome = true) else ∀ p ∈ e.parts, ∃ op n, p = [op, ("" : Str), n] ∧ (findE S k n).isSome = true
def spKnown (K : PySem.W.Frag) : Sp := fun vs H Q _ => ∃ a S k v e, vs = [.ref a, .str k, v] ∧ SchAt H a S ∧ EntAt H v e ∧ KnownOk S k e ∧ S.length ≤ 1000 ∧ e.parts.length ≤ 100 ∧ Tabs K H ∧ ∀ H', Kp Nil H H' → Q (.bl true) H'
theorem inV_some {xs : List Str} {z : Str} (h : z ∈ xs) : inV (.str z) (xs.map V.str) = true := by
  unfold inV
  rw [List.any_map]
  refine List.any_eq_true.mpr ⟨z, h, ?_⟩
  show (z == z) = true
  exact beq_self_eq_true z
theorem flat_strs (xs : List Str) : (xs.map V.str).all flatV = true := by
  rw [List.all_map]
  exact List.all_eq_true.mpr fun _ _ => rfl
def StrAt : Hp → V → Str → Prop := fun _ v z => v = .str z
theorem strs_are {H : Hp} {ys : List V} {is : List Str} (h : Paired (StrAt H) ys is) : ys = is.map V.str := by
  induction h with
  | nil => rfl
  | cons r _ ih => rw [ih]; cases r; rfl
section
variable {P : Program} {w : World} {K : PySem.W.Frag} {mg : Str → Option Value} {base : Heap}
abbrev N_known : List Str := ["schema", "kind", "entry", "named", "is_there", "operator", "relation", "name", "types", "other", "entries", "pair", "inner"]
theorem sc_is_known : FnScope N_known ["schema", "kind", "entry"] (defScope s_is_known) := ⟨rfl, rfl, rfl, by decide +kernel, rfl, by decide +kernel, by decide +kernel⟩
theorem gs_known1 : GScp N_known (defScope s_is_known) { kind := .function, names := [(".0", .local), ("other", .local), ("inner", .local), ("types", .free)], isGenerator := true, isCoroutine := false } [("other", 9), ("inner", 12)] :=
  Gscp_of (blkOk_by (by decide +kernel)) (by decide +kernel) rfl (by decide +kernel)
theorem gs_known2 : GScp N_known (defScope s_is_known) { kind := .function, names := [(".0", .local), ("other", .local), ("inner", .local), ("schema", .free), ("entry_of", .globalImplicit)], isGenerator := true, isCoroutine := false } [("other", 9), ("inner", 12)] :=
  Gscp_of (blkOk_by (by decide +kernel)) (by decide +kernel) rfl (by decide +kernel)
theorem ok_is_known (T : Top K mg base) : Cal P w K mg base CX0 4 ("is_known", none) ["schema", "kind", "entry"] (spKnown K) := by
  obtain ⟨fd, F⟩ := T.d_is_known
  have cs := ok_entry_of (P := P) (w := w) T
  obtain ⟨fd1, F1, b1⟩ := cs.ex
  refine ⟨⟨fd, funD_okC F sc_is_known (fun vs H Q E h => ?_) (fun A outer s H vs Q E hr h => ?_), FunD.bindsN F fun _ _ _ _ _ _ us hl => match us, hl with | [_, _, _], _ => rfl⟩, F.kp⟩
  · obtain ⟨a, S, k, v, e, rfl, _⟩ := h
    rfl
  · obtain ⟨a, S, k, v, e, rfl, hS, he, hk, hsl, hpl, ht, q⟩ := h
    have nd := sc_is_known.nd
    refine ⟨_, pss_cons (ps_set (i := 8) nd rfl (.inr rfl) (pe_lc (g := gTup K 2 (gCons (gName 9) (gCons (gName 10) gNil))) (own := [("other", 9), ("entries", 10)]) rfl nd (pi_tup (pv 0)) (blkOk_by (N := N_known) (sc := defScope s_is_known) (by decide +kernel))
          (fun _ _ _ _ _ => pg_tup rfl (pgs_cons (pg_name (i := 9) nd rfl (.inl rfl) (.inr rfl)) (pgs_cons (pg_name (i := 10) nd rfl (.inl rfl) (.inr rfl)) pgs_nil)))
          (fun _ _ _ _ _ => pts_nil) (fun _ _ _ _ _ => pv 9)))
      (pss_cons (ps_if (pt_cmpR op_eq (pe_ix ix_tup (pv 2) pe_int (fun _ _ => rfl)) pe_str (nomark _))
        (pss_cons (ps_setLc (i := 3) (tt := tTest (tOp rNe (tOp (rIxT K) (tVar 11) (tC (.int 1))) (tC (.str "")))) (own := [("pair", 11)]) rfl nd rfl rfl (sw_true rfl rfl rfl rfl) (pi_tup (pe_ix ix_tup (pv 2) pe_int (fun _ _ => rfl))) (blkOk_by (N := N_known) (sc := defScope s_is_known) (by decide +kernel))
            (fun _ _ _ _ _ => pg_name (i := 11) nd rfl (.inl rfl)) (fun _ _ _ _ _ => pts_one (pt_cmpR op_ne (pe_ix ix_tup (pv 11) pe_int (fun _ _ => rfl)) pe_str (nomark _))) (fun _ _ _ _ _ => pv 11))
        (pss_cons (ps_set (i := 4) nd rfl (.inl rfl) (pe_allG (k := 2) (g := gTup K 2 (gCons (gName 9) (gCons (gName 12) gNil))) (te := tOp (rIn K false) (tVar 9) (tVar 8)) (own := [("other", 9), ("inner", 12)]) hr (by rfl) T.f_all T.tabKnown rfl gs_known1 nd rfl (pi_tup (pe_ix ix_tup (pv 2) pe_int (fun _ _ => rfl)))
            (fun _ _ _ _ _ _ _ _ => pg_tup rfl (pgs_cons (pg_name (i := 9) nd rfl (.inl rfl) (.inr rfl)) (pgs_cons (pg_name (i := 12) nd rfl (.inl rfl) (.inr rfl)) pgs_nil)))
            (fun _ _ _ _ _ _ _ hr' => pe_cmpR op_in_seq (pv 9) (pv 8) rfl)))
        (pss_one (ps_ret (pe_and (pv 4) (pe_one (pe_allG (k := 2) (g := gTup K 2 (gCons (gName 9) (gCons (gName 12) gNil))) (own := [("other", 9), ("inner", 12)]) hr (by rfl) T.f_all T.tabKnown rfl gs_known2 nd rfl (pi_list (pv 3))
            (fun _ _ _ _ _ _ _ _ => pg_tup rfl (pgs_cons (pg_name (i := 9) nd rfl (.inl rfl) (.inr rfl)) (pgs_cons (pg_name (i := 12) nd rfl (.inl rfl) (.inr rfl)) pgs_nil)))
            (fun _ _ _ _ _ _ _ hr' => pe_cmp (pc_notN (pe_call F1 (hr'.mono (by decide)) rfl T.g_entry_of cs.kp b1 .nil pass0 (pa_cons (pv 0) (pa_cons (pv 9) (pa_cons (pv 12) pa_nil)))))))))))))
        pss_nil)
      (pss_cons (ps_for (passes_of rfl) rfl (pi_tup (pe_ix ix_tup (pv 2) pe_int (fun _ _ => rfl))) (pg_tup rfl (pgs_cons (pg_name (i := 5) nd rfl (.inl rfl)) (pgs_cons (pg_name (i := 6) nd rfl (.inl rfl)) (pgs_cons (pg_name (i := 7) nd rfl (.inl rfl)) pgs_nil))))
        (pss_cons (ps_if (PW.pt (pw_and (pt_cmpR op_eq (pv 6) pe_str (nomark _)) (pw_and1 (pt_cmp (pc_isN (pe_call F1 (hr.mono (by decide)) rfl T.g_entry_of cs.kp b1 .nil pass0 (pa_cons (pv 0) (pa_cons (pv 1) (pa_cons (pv 7) pa_nil))))))))) (pss_one ps_never) pss_nil)
        (pss_one (ps_if (PW.pt (pw_and (pt_cmpR op_ne (pv 6) pe_str (nomark _)) (pw_and1 pt_never))) (pss_one ps_never) pss_nil))))
      (pss_one (ps_ret pe_bl)))), ?_⟩
    obtain ⟨vs, ea, prS⟩ := id hS
    obtain ⟨p, c, ws, rfl, e1, e2, pr⟩ := id he
    have hvl : vs.length = S.length := prS.length
    have hwl : ws.length = e.parts.length := pr.length
    refine ⟨_, rfl, a, rfl, ⟨_, SqT.of ea⟩, fun D hD => ?_⟩
    refine lc_sel (walk_tup (K := K) (a := a) (xs := vs)) StrAt (fun _ _ _ _ _ _ _ z => z) (fun i => S[i]?.bind fun t => some t.1) hD (by omega) (fun H' k' => SqT.of (k'.tup0 ea)) (fun i x H1 H2 N M hi k1 y hN hM => ?_) fun H1 ys k1 hd pr1 => ?_
    · obtain ⟨rfl, hx⟩ := y
      obtain ⟨t, ht2, u, c2, ws2, rfl, e3, _⟩ := pair_get prS hx
      rw [ht2] at hN
      exact ⟨u, _, rfl, SqT.of (k1.tup0 e3), rfl, _, _, rfl, _, _, rfl, rfl, rfl, _, rfl, hN _ _ t.1 Kp.refl rfl rfl⟩
    rw [hvl, range_sel] at pr1
    have eys : ys = (S.map (·.1)).map V.str := by
      have : S.filterMap (fun t => some t.1) = S.map (·.1) := by rw [List.filterMap_eq_map']
      rw [this] at pr1
      exact strs_are pr1
    have e11 := k1.tup0 e1
    have e21 := k1.tup0 e2
    refine ⟨_, rfl, p, _, 1, _, rfl, rfl, SqT.of e11, rfl, rfl, _, rfl, itb (fun c1 => ?_) fun c1 => ?_⟩
    · have er : e.rel = true := by
        cases z : e.rel with
        | true => rfl
        | false =>
          have : e.kind = "relation" := V.str.inj (of_decide_eq_true c1)
          unfold Ent.kind at this
          rw [z] at this
          exact absurd this (by decide +kernel)
      unfold KnownOk at hk
      rw [if_pos er] at hk
      refine ⟨_, rfl, p, _, 2, _, rfl, rfl, SqT.of e11, rfl, c, rfl, ⟨_, SqT.of e21⟩, fun D2 hD2 => ?_⟩
      refine lc_sel (walk_tup (K := K) (a := c) (xs := ws)) PartAt PartAt.stays (fun i => e.parts[i]?.bind fun t => if t.getD 1 "" = "" then none else some t) hD2 (by omega) (fun H' k' => SqT.of (k'.tup0 e21)) (fun i x H3 H4 N M hi k3 y hN hM => ?_) fun H3 zs k3 hz pz => ?_
      · obtain ⟨rfl, hx⟩ := y
        obtain ⟨pt, hpt, u, rfl, e3⟩ := pair_get pr hx
        obtain ⟨o, i', rfl, _⟩ := hk pt (List.mem_of_getElem? hpt)
        rw [hpt] at hN hM
        have e3' := (k1.trans k3).tup0 e3
        refine ⟨rfl, _, rfl, u, _, 1, _, rfl, rfl, SqT.of e3', rfl, rfl, _, rfl, itb (fun c2 => ?_) fun c2 => ?_⟩
        · have c2 : ¬ i' = "" := fun z => by rw [z] at c2; simp at c2
          exact ⟨_, rfl, hN _ _ [o, i'] Kp.refl (if_neg c2) ⟨u, rfl, e3'⟩⟩
        · have c2 : i' = "" := by
            by_cases z : i' = ""
            · exact z
            · rw [decide_eq_false fun q => z (V.str.inj q)] at c2
              cases c2
          exact hM H4 Kp.refl (if_pos c2)
      · rw [hwl, range_sel] at pz
        have k13 := k1.trans k3
        have e13 := k13.tup0 e1
        have e23 := k13.tup0 e2
        have hd3 := k3.lst0 hd
        rw [eys] at hd3
        have ht3 := ht.kp k13
        obtain ⟨W, Qe, Qx, w0, turn, qe, qx⟩ := gen_it (walk_tup (K := K) (a := c) (xs := ws)) (g := gTup K 2 (gCons (gName 9) (gCons (gName 12) gNil))) (te := tOp (rIn K false) (tVar 9) (tVar 8))
          (σ := [some (.ref a), some (.str k), some (.ref p), some (.ref D2), none, none, none, none, some (.ref D), none, none, none, none]) (e := true) (fun _ => true) (fun _ H' => Kp Nil H3 H') (fun _ H' _ k => SqT.of (k.tup0 e23))
          (fun j x H4 H5 R hj k4 y hR => by
            obtain ⟨rfl, hx⟩ := y
            obtain ⟨pt, hpt, u, rfl, e3⟩ := pair_get pr hx
            obtain ⟨o, i', rfl, ho, _⟩ := hk pt (List.mem_of_getElem? hpt)
            have e3' := (k13.trans k4).tup0 e3
            refine ⟨u, _, rfl, SqT.of e3', rfl, _, _, rfl, _, _, rfl, rfl, ⟨rfl, fun j v e => ?_⟩, _, rfl, _, rfl, D, _, rfl, .inl (SqL.of (k4.lst0 hd3)), rfl, flat_strs _, ?_⟩
            · match j, e with
              | 0, e => exact e
              | 1, e => exact e
              | 2, e => exact e
              | 3, e => exact e
              | 4, e => cases e
              | 5, e => cases e
              | 6, e => cases e
              | 7, e => cases e
              | 8, e => exact e
              | 9, e => cases e
              | 10, e => cases e
              | 11, e => cases e
              | 12, e => cases e
              | j + 13, e => simp at e
            · have := hR _ k4
              rw [inV_some ho]
              exact this)
        refine ⟨_, rfl, p, _, 2, _, rfl, rfl, SqT.of e13, rfl, c, rfl, ⟨_, SqT.of e23⟩, ht3.known, W, Qe, Qx, fun H4 t4 => w0 H4 (Kp.tabbed ht3.known t4), turn, fun H4 q4 => ?_, fun H4 q4 => ?_⟩
        · obtain ⟨k4, _⟩ := qe H4 q4
          have ht4 := ht3.kp k4
          have hz4 := k4.lst0 hz
          have pz4 := Paired.mapP pz fun _ _ z => PartAt.kp0 k4 z
          refine ⟨_, rfl, _, rfl, iteT ?_⟩
          obtain ⟨W, Qe, Qx, w0, turn, qe, qx⟩ := gen_it (walk_list (K := K) (a := D2) (xs := zs)) (g := gTup K 2 (gCons (gName 9) (gCons (gName 12) gNil))) (te := tNotN (tCall spEntryOf [] (fun _ _ _ => False) (tCons (tVar 0) (tCons (tVar 9) (tCons (tVar 12) tNil)))))
            (σ := [some (.ref a), some (.str k), some (.ref p), some (.ref D2), some (.bl true), none, none, none, some (.ref D), none, none, none, none]) (e := true) (fun _ => true) (fun _ H' => Kp Nil H4 H') (fun _ H' _ k => SqL.of (k.lst0 hz4))
            (fun j x H5 H6 R hj k5 y hR => by
              obtain ⟨rfl, hx⟩ := y
              obtain ⟨pt, hpt, u, rfl, e3⟩ := pair_get pz4 hx
              have hmem := List.mem_of_getElem? hpt
              obtain ⟨pt', hm', hs'⟩ := List.mem_filterMap.mp hmem
              obtain ⟨o, i', rfl, ho, hfi⟩ := hk pt' hm'
              have hi' : ¬ i' = "" := fun z => by
                rw [z] at hs'
                cases hs'
              rw [if_neg (show ¬ [o, i'].getD 1 "" = "" from hi')] at hs'
              obtain rfl := Option.some.inj hs'
              have e3' := k5.tup0 e3
              obtain ⟨ee, hee⟩ := Option.isSome_iff_exists.mp (hfi hi')
              refine ⟨u, _, rfl, SqT.of e3', rfl, _, _, rfl, _, _, rfl, rfl, ⟨rfl, fun j v e => ?_⟩, _, rfl, _, rfl, _, rfl, a, S, o, i', rfl, hS.kp0 (k13.trans (k4.trans k5)), fun H7 k7 => ⟨fun z => ?_, fun v e' z he' => ?_⟩⟩
              · match j, e with
                | 0, e => exact e
                | 1, e => exact e
                | 2, e => exact e
                | 3, e => exact e
                | 4, e => exact e
                | 5, e => cases e
                | 6, e => cases e
                | 7, e => cases e
                | 8, e => exact e
                | 9, e => cases e
                | 10, e => cases e
                | 11, e => cases e
                | 12, e => cases e
                | j + 13, e => simp at e
              · rw [hee] at z
                cases z
              · have := hR _ (k5.trans k7)
                obtain ⟨p7, _, _, rfl, _⟩ := he'
                exact this)
          refine ⟨_, rfl, D2, rfl, ⟨_, SqL.of hz4⟩, ht4.known, W, Qe, Qx, fun H5 t5 => w0 H5 (Kp.tabbed ht4.known t5), turn, fun H5 q5 => ?_, fun H5 q5 => ?_⟩
          · obtain ⟨k5, _⟩ := qe H5 q5
            exact q H5 (k13.trans (k4.trans k5))
          · obtain ⟨_, _, z, _⟩ := qx H5 q5
            exact absurd rfl z
        · obtain ⟨_, _, z, _⟩ := qx H4 q4
          exact absurd rfl z
    · have er : ¬ e.rel = true := fun z => by
        unfold Ent.kind at c1
        rw [z] at c1
        exact absurd c1 (by decide +kernel)
      unfold KnownOk at hk
      rw [if_neg er] at hk
      refine ⟨_, rfl, p, _, 2, _, rfl, rfl, SqT.of e11, rfl, c, rfl, ⟨_, SqT.of e21⟩, ?_⟩
      refine for_it (walk_tup (K := K) (a := c) (xs := ws)) (fun i σ H' => Kp Nil H H' ∧ ∃ x3 x4 x5 x6 x7 x9 x10 x11 x12, σ = [some (.ref a), some (.str k), some (.ref p), x3, x4, x5, x6, x7, some (.ref D), x9, x10, x11, x12])
        ⟨k1, _, _, _, _, _, _, _, _, _, rfl⟩ (fun i σ H' _ p => SqT.of (p.1.tup0 e2)) (fun i x σ H3 H4 hi p y => ?_) fun σ H' p => ?_
      · obtain ⟨rfl, hx⟩ := y
        obtain ⟨k3, x3, x4, x5, x6, x7, x9, x10, x11, x12, rfl⟩ := p
        obtain ⟨pt, hpt, u, rfl, e3⟩ := pair_get pr hx
        obtain ⟨op, n, rfl, hfn⟩ := hk pt (List.mem_of_getElem? hpt)
        obtain ⟨ee, hee⟩ := Option.isSome_iff_exists.mp hfn
        refine ⟨u, _, rfl, SqT.of (k3.tup0 e3), rfl, _, _, rfl, _, _, rfl, _, _, rfl, rfl, ?_⟩
        refine ⟨_, rfl, rfl, _, rfl, iteT ⟨_, rfl, _, rfl, _, rfl, a, S, k, n, rfl, hS.kp0 k3, fun H5 k5 => ⟨fun z => ?_, fun v e' z he' => ?_⟩⟩⟩
        · rw [hee] at z
          cases z
        · obtain ⟨p7, _, _, rfl, _⟩ := he'
          refine ⟨_, rfl, ?_⟩
          refine iteF ⟨_, rfl, rfl, _, rfl, iteF (iteF ?_)⟩
          exact ⟨k3.trans k5, _, _, _, _, _, _, _, _, _, rfl⟩
      · obtain ⟨k3, _⟩ := p
        exact q H' k3
end
end Au
/-! Authsync: our schema, read. -/
namespace Au
open PySem PySem.Spec PyProof.Rows L2
def smlB (zs : List Str) : Bool := decide (zs.length ≤ 1000) && zs.all fun p => decide (p.length ≤ 1000)
theorem smlB_ok {zs : List Str} (h : smlB zs = true) : Sml zs := by
  unfold smlB at h
  rw [Bool.and_eq_true, List.all_eq_true] at h
  exact ⟨of_decide_eq_true h.1, fun p hp => of_decide_eq_true (h.2 p hp)⟩
/-- line after line; n: the lines before -/
def rdAll : Nat → List Str → List TyR → Option (List TyR)
  | _, [], ts => some ts
  | n, z :: r, ts => if z.length ≤ 1000 then (match partsOf z with
    | none => none
    | some [] => rdAll (n + 1) r ts
    | some (p :: ps) => if smlB (p :: ps) = true then (match rdLine ((n : Int) + 1) (p :: ps) ts with
      | none => none
      | some ts' => rdAll (n + 1) r ts') else none) else none
def knownB (S : Sch) (k : Str) (e : Ent) : Bool :=
  if e.rel = true then e.parts.all fun p => match p with
    | [o, i] => decide (o ∈ S.map (·.1)) && (decide (i = "") || (findE S o i).isSome)
    | _ => false
  else e.parts.all fun p => match p with
    | [_, r, n] => decide (r = "") && (findE S k n).isSome
    | _ => false
theorem knownB_ok {S : Sch} {k : Str} {e : Ent} (h : knownB S k e = true) : KnownOk S k e := by
  unfold knownB at h
  unfold KnownOk
  by_cases er : e.rel = true
  · rw [if_pos er] at h ⊢
    intro p hp
    have := List.all_eq_true.mp h p hp
    match p, this with
    | [o, i], this =>
      rw [Bool.and_eq_true, Bool.or_eq_true] at this
      refine ⟨o, i, rfl, of_decide_eq_true this.1, fun hi => ?_⟩
      rcases this.2 with z | z
      · exact absurd (of_decide_eq_true z) hi
      · exact z
  · rw [if_neg er] at h ⊢
    intro p hp
    have := List.all_eq_true.mp h p hp
    match p, this with
    | [op, r, n], this =>
      rw [Bool.and_eq_true] at this
      exact ⟨op, n, by rw [of_decide_eq_true this.1], this.2⟩
theorem known_plain {S : Sch} {k : Str} {e : Ent} (h : KnownOk S k e) : e.Plain := by
  unfold KnownOk at h
  unfold Ent.Plain
  by_cases er : e.rel = true
  · rw [if_pos er] at h ⊢
    intro p hp
    obtain ⟨o, i, e, _⟩ := h p hp
    exact ⟨o, i, e⟩
  · rw [if_neg er] at h ⊢
    intro p hp
    obtain ⟨o, i, e, _⟩ := h p hp
    exact ⟨o, i, e⟩
def schOf (ts : List TyR) : Sch := ts.map fun t => (t.1, t.2.2.map (·.2))
def text0 : Str := "type u\ntype g\nrelation m: u, g#m\ntype d\nrelation o: u\nrelation w: u, g#m\nrelation b: u\npermission v = o | w - b"
def ts0 : List TyR := (rdAll 0 (Txt.split text0 "\n") []).getD []
def S0 : Sch := [("u", []), ("g", [⟨"m", true, [["u", ""], ["g", "m"]]⟩]), ("d", [⟨"o", true, [["u", ""]]⟩, ⟨"w", true, [["u", ""], ["g", "m"]]⟩, ⟨"b", true, [["u", ""]]⟩, ⟨"v", false, [["", "", "o"], ["|", "", "w"], ["-", "", "b"]]⟩])]
theorem ts0_read : rdAll 0 (Txt.split text0 "\n") [] = some ts0 := by decide +kernel
theorem S0_eq : schOf ts0 = S0 := by decide +kernel
theorem ts0_ok : TypesOk ts0 := by
  have h : ((ts0.map (·.1)).Nodup ∧ (∀ t ∈ ts0, (t.2.2.map (·.2.name)).Nodup ∧ t.2.2.length ≤ 1000)) ∧ ts0.length ≤ 1000 := by decide +kernel
  exact ⟨h.1.1, h.1.2, h.2⟩
theorem ts0_known : ∀ t ∈ ts0, ∀ e ∈ t.2.2, KnownOk S0 t.1 e.2 ∧ e.2.parts.length ≤ 100 := by
  have h : ∀ t ∈ ts0, ∀ e ∈ t.2.2, knownB S0 t.1 e.2 = true ∧ e.2.parts.length ≤ 100 := by decide +kernel
  exact fun t ht e he => ⟨knownB_ok (h t ht e he).1, (h t ht e he).2⟩
theorem S0_known : ∀ t ∈ flatS S0, KnownOk S0 t.1 t.2 ∧ t.2.parts.length ≤ 100 := by
  have h : ∀ t ∈ flatS S0, knownB S0 t.1 t.2 = true ∧ t.2.parts.length ≤ 100 := by decide +kernel
  exact fun t ht => ⟨knownB_ok (h t ht).1, (h t ht).2⟩
theorem S0_str : StrOk S0 := by
  refine ⟨by decide +kernel, fun t ht => ⟨known_plain (S0_known t ht).1, (S0_known t ht).2⟩, by decide +kernel, by decide +kernel, by decide +kernel, by decide +kernel⟩
theorem text0_len : text0.length + 2 ≤ 200 := by decide +kernel
theorem lines0_len : (Txt.split text0 "\n").length ≤ 20 := by decide +kernel
end Au
/-! Authsync: read_schema. -/
namespace Au
open PySem PySem.Spec PyProof.Rows L2
theorem TypAt.stays : Stays TypAt := fun _ H H' v n k t h => h.kp k t
def rTupOf (K : PySem.W.Frag) : List V → Hp → VK → Prop := fun xs H Q => ∃ p ys, xs = [V.ref p] ∧ ((SqL K H p ys ∧ ∀ l, H l = none → Q (.ref l) (upd H l (.tup ys))) ∨ (SqT K H p ys ∧ Q (.ref p) H))
def spRdSchema (K : PySem.W.Frag) : Sp := fun vs H Q _ => vs = [.str text0] ∧ Tabs K H ∧ ∀ H' p, Kp Nil H H' → SchAt H' p S0 → Q (.ref p) H'
section
variable {P : Program} {w : World} {K : PySem.W.Frag} {mg : Str → Option Value} {base : Heap}
abbrev N_rds : List Str := ["text", "types", "at", "line_text", "parts", "name", "number", "entries", "place", "entry", "schema"]
abbrev scO : Scope := { kind := .function, names := [(".0", .local), ("name", .local), ("number", .local), ("entries", .local), ("tuple", .globalImplicit)], isGenerator := false, isCoroutine := false }
theorem sc_read_schema : FnScope N_rds ["text"] (defScope s_read_schema) := ⟨rfl, rfl, rfl, by decide +kernel, rfl, by decide +kernel, by decide +kernel⟩
theorem ok_read_schema (T : Top K mg base) : Cal P w K mg base CX0 10 ("read_schema", none) ["text"] (spRdSchema K) := by
  obtain ⟨fd, F⟩ := T.d_read_schema
  have cs := ok_parts_of_line (P := P) (w := w) T
  obtain ⟨fd1, F1, b1⟩ := cs.ex
  have cs2 := ok_read_line (P := P) (w := w) T
  obtain ⟨fd2, F2, b2⟩ := cs2.ex
  have cs3 := ok_Line_init (P := P) (w := w) T
  obtain ⟨fd3, F3, b3⟩ := cs3.ex
  have cs4 := ok_check_duplicates (P := P) (w := w) T
  obtain ⟨fd4, F4, b4⟩ := cs4.ex
  have cs5 := ok_is_known (P := P) (w := w) T
  obtain ⟨fd5, F5, b5⟩ := cs5.ex
  have cs6 := ok_strata (P := P) (w := w) T
  obtain ⟨fd6, F6, b6⟩ := cs6.ex
  refine ⟨⟨fd, FunD.ok F sc_read_schema (fun vs H Q E h => ?_) (fun cdv A outer s H vs Q E hr h => ?_), FunD.bindsN F fun _ _ _ _ _ _ us hl => match us, hl with | [_], _ => rfl⟩, F.kp⟩
  · obtain ⟨rfl, _⟩ := h
    rfl
  · obtain ⟨rfl, ht, q⟩ := h
    have nd := sc_read_schema.nd
    refine ⟨_, pss_cons (ps_set (i := 1) nd rfl (.inl rfl) (pe_lst pa_nil))
      (pss_cons (ps_for (passes_of rfl) rfl (pi_enum (by rfl) T.f_enumerate (pa_cons (pe_split (pv 0) pe_str) pa_nil)) (pg_tup rfl (pgs_cons (pg_name (i := 2) nd rfl (.inl rfl)) (pgs_cons (pg_name (i := 3) nd rfl (.inl rfl)) pgs_nil)))
        (pss_cons (ps_set (i := 4) nd rfl (.inl rfl) (pe_call F1 (hr.mono (by decide)) rfl T.g_parts_of_line cs.kp b1 .nil pass0 (pa_cons (pe_op op_add (pv 2) pe_int) (pa_cons (pv 3) pa_nil))))
        (pss_one (ps_if (pt_truth (pv 4) (fun _ => rfl))
          (pss_one (ps_expr (pe_call F2 hr rfl T.g_read_line cs2.kp b2 .nil pass0 (pa_cons (pe_make T.k_Line F3 (hr.mono (by decide)) rfl T.g_Line b3 .nil pass0 (pa_cons (pe_op op_add (pv 2) pe_int) (pa_cons (pv 4) pa_nil))) (pa_cons (pv 1) pa_nil))))) pss_nil))))
      (pss_cons (ps_expr (pe_call F4 (hr.mono (by decide)) rfl T.g_check_duplicates cs4.kp b4 .nil pass0 (pa_cons (pv 1) pa_nil)))
      (pss_cons (ps_set (i := 10) nd rfl (.inl rfl) (pe_callTy call_tuple_of (by rfl) T.f_tuple (by decide +kernel) (pa_cons
          (pe_lc (g := gTup K 3 (gCons (gName 5) (gCons (gName 6) (gCons (gName 7) gNil)))) (te := tTup (tCons (tVar 5) (tCons (tCB (rTupOf K) (tCons (tLc (iList K (tVar 7)) (gTup K 2 (gCons (gName 8) (gCons (gName 9) gNil))) tYes (tVar 9) [8, 9]) tNil)) tNil)))
            (own := [("name", 5), ("number", 6), ("entries", 7)]) rfl nd (pi_list (pv 1)) (blkOk_by (N := N_rds) (sc := defScope s_read_schema) (by decide +kernel))
            (fun _ _ _ _ _ => pg_tup rfl (pgs_cons (pg_name (i := 5) nd rfl (.inl rfl) (.inr rfl)) (pgs_cons (pg_name (i := 6) nd rfl (.inl rfl) (.inr rfl)) (pgs_cons (pg_name (i := 7) nd rfl (.inl rfl) (.inr rfl)) pgs_nil))))
            (fun _ _ _ _ _ => pts_nil)
            (fun _ _ _ _ _ => pe_tup (pa_cons (pv 5) (pa_cons (pe_callTy call_tuple_of (by rfl) T.f_tuple (by decide +kernel) (pa_cons
              (pe_lc (g := gTup K 2 (gCons (gName 8) (gCons (gName 9) gNil))) (own := [("place", 8), ("entry", 9)]) rfl nd (pi_list (pv 7)) (blkOk_by (N := N_rds) (sc := scO) (by decide +kernel))
                (fun _ _ _ _ _ => pg_tup rfl (pgs_cons (pg_name (i := 8) nd rfl (.inl rfl) (.inr rfl)) (pgs_cons (pg_name (i := 9) nd rfl (.inl rfl) (.inr rfl)) pgs_nil)))
                (fun _ _ _ _ _ => pts_nil) (fun _ _ _ _ _ => pv 9)) pa_nil)) pa_nil)))) pa_nil)))
      (pss_cons (ps_for (passes_of rfl) rfl (pi_list (pv 1)) (pg_tup rfl (pgs_cons (pg_name (i := 5) nd rfl (.inl rfl)) (pgs_cons (pg_name (i := 6) nd rfl (.inl rfl)) (pgs_cons (pg_name (i := 7) nd rfl (.inl rfl)) pgs_nil))))
        (pss_one (ps_for (passes_of rfl) rfl (pi_list (pv 7)) (pg_tup rfl (pgs_cons (pg_name (i := 8) nd rfl (.inl rfl)) (pgs_cons (pg_name (i := 9) nd rfl (.inl rfl)) pgs_nil)))
          (pss_one (ps_if (pt_not (pt_val (pe_call F5 (hr.mono (by decide)) rfl T.g_is_known cs5.kp b5 .nil pass0 (pa_cons (pv 10) (pa_cons (pv 5) (pa_cons (pv 9) pa_nil)))))) (pss_one ps_never) pss_nil)))))
      (pss_cons (ps_expr (pe_call F6 (hr.mono (by decide)) rfl T.g_strata cs6.kp b6 .nil pass0 (pa_cons (pv 10) pa_nil)))
      (pss_one (ps_ret (pv 10)))))))), ?_⟩
    refine ⟨by show 0 ≤ sizeLine; decide, fun l hl => ?_⟩
    have k0 : Kp Nil H (upd H l (.lst [])) := Kp.new hl
    refine ⟨_, rfl, ⟨_, rfl⟩, text0, "\n", rfl, rfl, by decide +kernel, by have := text0_len; rw [sizeLine_eq]; omega, fun ls hls => ?_⟩
    have k1 : Kp Nil (upd H l (.lst [])) (upd (upd H l (.lst [])) ls (.lst ((Txt.split text0 "\n").map V.str))) := Kp.new hls
    have el : (upd (upd H l (.lst [])) ls (.lst ((Txt.split text0 "\n").map V.str))) l = some (.lst []) := k1.lst0 upd_same
    have els : (upd (upd H l (.lst [])) ls (.lst ((Txt.split text0 "\n").map V.str))) ls = some (.lst ((Txt.split text0 "\n").map V.str)) := upd_same
    have nll : ls ≠ l := fun z => by rw [z, upd_same] at hls; cases hls
    have hls0 : H ls = none := k0.fr _ hls
    have k01 := k0.trans k1
    generalize hH1 : upd (upd H l (.lst [])) ls (.lst ((Txt.split text0 "\n").map V.str)) = H1 at k1 el els k01
    have hread := ts0_read
    generalize hz : Txt.split text0 "\n" = zs at els hread
    have hzl : zs.length ≤ 20 := by rw [← hz]; exact lines0_len
    refine ⟨ls, _, rfl, SqL.of els, ?_⟩
    refine for_it (walk_enum (K := K) (a := ls) (xs := zs.map V.str)) (fun i σ H' => Kp Nil H H' ∧ H' ls = some (.lst (zs.map V.str)) ∧ (∃ its ts, TypesAt H' l its ts ∧ ls ∉ its.map (·.2) ∧ (∀ b ∈ its.map (·.2), H b = none) ∧ rdAll i (zs.drop i) ts = some ts0) ∧ ∃ x2 x3 x4, σ = [some (.str text0), some (.ref l), x2, x3, x4, none, none, none, none, none, none])
      ⟨k01, els, ⟨[], [], ⟨el, .nil, (fun z => by cases z), .nil⟩, (fun z => by cases z), (fun b hb => by cases hb), hread⟩, _, _, _, rfl⟩ (fun i σ H' _ p => SqL.of p.2.1) (fun i x σ H2 H3 hi p y => ?_) fun σ H' p => ?_
    · obtain ⟨k2, els2, ⟨its, ts, hT, hlsn, hfr, hgo⟩, x2, x3, x4, rfl⟩ := p
      obtain ⟨U, x, y, rfl, hU, rfl, ex, ey⟩ := y
      have ex : V.int (i : Int) = x := Option.some.inj ex
      subst ex
      have ey : (zs.map V.str)[i]? = some y := ey
      rw [List.getElem?_map] at ey
      cases hzi : zs[i]? with
      | none => rw [hzi] at ey; cases ey
      | some z =>
        rw [hzi] at ey
        obtain rfl := Option.some.inj ey
        rw [drop_next hzi] at hgo
        have k3 : Kp Nil H2 (upd H2 U (.tup [.int (i : Int), .str z])) := Kp.new hU
        have eU : (upd H2 U (.tup [.int (i : Int), .str z])) U = some (.tup [.int (i : Int), .str z]) := upd_same
        generalize hH3 : upd H2 U (.tup [.int (i : Int), .str z]) = H3 at k3 eU
        have k03 := k2.trans k3
        have hT3 := hT.kp k3 tupFree_nil lstFree_nil
        refine ⟨U, _, rfl, SqT.of eU, rfl, _, _, rfl, _, _, rfl, rfl, ?_⟩
        unfold rdAll at hgo
        by_cases hzl : z.length ≤ 1000
        · rw [if_pos hzl] at hgo
          cases hp : partsOf z with
          | none => rw [hp] at hgo; cases hgo
          | some R =>
            rw [hp] at hgo
            refine ⟨_, rfl, _, _, rfl, rfl, _, rfl, (i : Int) + 1, z, R, rfl, hp, hzl, fun H4 lp k4 hlp0 elp => ?_⟩
            have k04 := k03.trans k4
            have hT4 := hT3.kp k4 tupFree_nil lstFree_nil
            have els4 := k4.lst0 (k3.lst0 els2)
            refine ⟨_, rfl, !(R.map V.str).isEmpty, .inl ⟨_, SqL.of elp, rfl⟩, ?_⟩
            cases R with
            | nil =>
              have hgo : rdAll (i + 1) (zs.drop (i + 1)) ts = some ts0 := hgo
              exact iteF ⟨k04, els4, ⟨its, ts, hT4, hlsn, hfr, hgo⟩, _, _, _, rfl⟩
            | cons r rs =>
              have hgo : (if smlB (r :: rs) = true then (match rdLine ((i : Int) + 1) (r :: rs) ts with
                | none => none
                | some ts' => rdAll (i + 1) (zs.drop (i + 1)) ts') else none) = some ts0 := hgo
              refine iteT ?_
              by_cases hsm : smlB (r :: rs) = true
              · rw [if_pos hsm] at hgo
                cases hrl : rdLine ((i : Int) + 1) (r :: rs) ts with
                | none => rw [hrl] at hgo; cases hgo
                | some ts' =>
                  rw [hrl] at hgo
                  have hgo : rdAll (i + 1) (zs.drop (i + 1)) ts' = some ts0 := hgo
                  refine ⟨_, rfl, _, _, rfl, rfl, _, rfl, fun x dx hx hdx ndx => ?_⟩
                  have k5 : Kp Nil H4 (upd H4 dx (.own x)) := Kp.new hdx
                  have hx' : (upd H4 dx (.own x)) x = none := by rw [upd_ne (Ne.symm ndx)]; exact hx
                  have k6 : Kp Nil (upd H4 dx (.own x)) (upd (upd H4 dx (.own x)) x (.ins (He.ga K "Line") dx [])) := Kp.new hx'
                  have k56 := k5.trans k6
                  have e6 : (upd (upd H4 dx (.own x)) x (.ins (He.ga K "Line") dx [])) x = some (.ins (He.ga K "Line") dx []) := upd_same
                  generalize hH6 : upd (upd H4 dx (.own x)) x (.ins (He.ga K "Line") dx []) = H6 at k56 e6
                  refine ⟨x, (i : Int) + 1, lp, dx, rfl, e6, ne_of_none elp hx, fun H7 k7 e7 => ⟨rfl, ?_⟩⟩
                  have k47 : Kp Nil H4 H7 := k56.less k7 fun c (hc : c = x) => .inr (by rw [hc]; exact hx)
                  have hT7 := hT4.kp k47 tupFree_nil lstFree_nil
                  have elp7 := k47.lst0 elp
                  have ncl : lp ≠ l := Ne.symm (ne_of_none hT3.at_ hlp0)
                  refine ⟨_, rfl, x, (dx, lp), (i : Int) + 1, r :: rs, l, its, ts, ts', rfl, ⟨e7, elp7⟩, smlB_ok hsm, (ht.kp k04).kp k47, hT7, ncl, ?_, hrl, fun H8 its' k8 hT8 hfr8 => ?_⟩
                  · intro z
                    obtain ⟨y, hy, e⟩ := List.mem_map.mp z
                    obtain ⟨u, _, hu⟩ := pair_left hT3.all y hy
                    obtain ⟨_, ws, e2, _⟩ := hu
                    have e : y.2 = lp := e
                    rw [e, hlp0] at e2
                    cases e2
                  · have k08 : Kp Nil H H8 := (k04.trans k47).less k8 fun c hc => by
                      rcases hc with hc | hc | hc
                      · rw [hc]; exact .inr (k04.fr _ hx)
                      · rw [hc]; exact .inr hl
                      · exact .inr (hfr c hc)
                    have els7 := k47.lst0 els4
                    have nlx : ls ≠ x := ne_of els7 e7 fun z => by cases z
                    refine ⟨k08, k8.old _ _ els7 (fun hc => ?_) nt_lst, ⟨its', ts', hT8, fun hc => ?_, fun b hb => ?_, hgo⟩, _, _, _, rfl⟩
                    · rcases hc with hc | hc | hc
                      · exact nlx hc
                      · exact nll hc
                      · exact hlsn hc
                    · rcases hfr8 _ hc with hc | hc
                      · exact hlsn hc
                      · rw [els7] at hc
                        cases hc
                    · rcases hfr8 _ hb with hc | hc
                      · exact hfr b hc
                      · exact k04.fr _ (k47.fr _ hc)
              · rw [if_neg hsm] at hgo
                cases hgo
        · rw [if_neg hzl] at hgo
          cases hgo
    · obtain ⟨k2, els2, ⟨its, ts, hT, hlsn, hfr, hgo⟩, x2, x3, x4, rfl⟩ := p
      rw [List.length_map, List.drop_length] at hgo
      obtain rfl : ts = ts0 := Option.some.inj hgo
      refine ⟨_, rfl, l, its, ts0, rfl, hT, ts0_ok, ht.kp k2, fun H3 k3 => ?_⟩
      have k03 := k2.trans k3
      have hT3 := hT.kp k3 tupFree_nil lstFree_nil
      have htl : its.length = ts0.length := hT3.all.length
      have hts : ts0.length ≤ 1000 := ts0_ok.len
      refine ⟨_, rfl, l, rfl, ⟨_, SqL.of hT3.at_⟩, fun D hD => ?_⟩
      refine lc_sel (walk_list (K := K) (a := l) (xs := its.map fun x => V.ref x.1)) TypAt TypAt.stays (fun i => ts0[i]?.bind fun t => some (t.1, t.2.2.map (·.2))) hD (by rw [List.length_map]; omega) (fun H' k' => SqL.of (k'.lst0 hT3.at_)) (fun i x H4 H5 N M hi k4 y hN hM => ?_) fun H4 ys k4 hd4 pr4 => ?_
      · obtain ⟨rfl, hx⟩ := y
        rw [List.getElem?_map] at hx
        cases hit : its[i]? with
        | none => rw [hit] at hx; cases hx
        | some it =>
          rw [hit] at hx
          obtain rfl := Option.some.inj hx
          obtain ⟨t, ht2, et, ws, ew, prw⟩ := pair_get hT3.all hit
          rw [ht2] at hN
          have hwl : ws.length = t.2.2.length := prw.length
          have h1000 := (ts0_ok.each t (List.mem_of_getElem? ht2)).2
          have ew4 := k4.lst0 ew
          refine ⟨it.1, _, rfl, SqT.of (k4.tup0 et), rfl, _, _, rfl, _, _, rfl, _, _, rfl, rfl, rfl, ?_⟩
          refine ⟨_, rfl, _, rfl, it.2, rfl, ⟨_, SqL.of ew4⟩, fun D2 hD2 => ?_⟩
          refine lc_sel (walk_list (K := K) (a := it.2) (xs := ws)) EntAt EntAt.stays (fun j => t.2.2[j]?.bind fun e => some e.2) hD2 (by omega) (fun H' k' => SqL.of (k'.lst0 ew4)) (fun j x H6 H7 N2 M2 hj k6 y hN2 hM2 => ?_) fun H6 zs6 k6 hd6 pr6 => ?_
          · obtain ⟨rfl, hx⟩ := y
            obtain ⟨pe, hpe, r, u, rfl, er, eu⟩ := pair_get prw hx
            rw [hpe] at hN2
            have k46 := k4.trans k6
            exact ⟨r, _, rfl, SqT.of (k46.tup0 er), rfl, _, _, rfl, _, _, rfl, rfl, rfl, _, rfl, hN2 _ _ pe.2 Kp.refl rfl (eu.kp0 k46)⟩
          · rw [hwl, range_sel] at pr6
            have : t.2.2.filterMap (fun e => some e.2) = t.2.2.map (·.2) := by rw [List.filterMap_eq_map']
            rw [this] at pr6
            refine ⟨D2, zs6, rfl, .inl ⟨SqL.of hd6, fun tp htp => ⟨by show 2 ≤ sizeLine; decide, fun r hr => ?_⟩⟩⟩
            have k7 : Kp Nil H6 (upd H6 tp (.tup zs6)) := Kp.new htp
            have k8 : Kp Nil (upd H6 tp (.tup zs6)) (upd (upd H6 tp (.tup zs6)) r (.tup [.str t.1, .ref tp])) := Kp.new hr
            refine hN _ _ (t.1, t.2.2.map (·.2)) (k6.trans (k7.trans k8)) rfl ⟨r, tp, zs6, rfl, upd_same, k8.tup0 upd_same, Paired.mapP pr6 fun _ _ z => z.kp0 (k7.trans k8)⟩
      · rw [List.length_map, htl, range_sel] at pr4
        have hS : ts0.filterMap (fun t => some (t.1, t.2.2.map (·.2))) = S0 := by
          rw [List.filterMap_eq_map']
          exact S0_eq
        rw [hS] at pr4
        refine ⟨D, ys, rfl, .inl ⟨SqL.of hd4, fun sp hsp => ?_⟩⟩
        have k5 : Kp Nil H4 (upd H4 sp (.tup ys)) := Kp.new hsp
        have hSch : SchAt (upd H4 sp (.tup ys)) sp S0 := ⟨ys, upd_same, Paired.mapP pr4 fun _ _ z => z.kp0 k5⟩
        have k05 := k03.trans (k4.trans k5)
        have hT5 := hT3.kp (k4.trans k5) tupFree_nil lstFree_nil
        generalize hH5 : upd H4 sp (.tup ys) = H5 at k5 hSch k05 hT5
        refine ⟨_, rfl, l, rfl, ⟨_, SqL.of hT5.at_⟩, ?_⟩
        refine for_it (walk_list (K := K) (a := l) (xs := its.map fun x => V.ref x.1)) (fun i σ H' => Kp Nil H5 H' ∧ ∃ x2 x3 x4 x5 x6 x7 x8 x9, σ = [some (.str text0), some (.ref l), x2, x3, x4, x5, x6, x7, x8, x9, some (.ref sp)])
          ⟨Kp.refl, _, _, _, _, _, _, _, _, rfl⟩ (fun i σ H' _ p => SqL.of (p.1.lst0 hT5.at_)) (fun i x σ H6 H7 hi p y => ?_) fun σ H' p => ?_
        · obtain ⟨rfl, hx⟩ := y
          obtain ⟨k6, x2, x3, x4, x5, x6, x7, x8, x9, rfl⟩ := p
          rw [List.getElem?_map] at hx
          cases hit : its[i]? with
          | none => rw [hit] at hx; cases hx
          | some it =>
            rw [hit] at hx
            obtain rfl := Option.some.inj hx
            obtain ⟨t, ht2, et, ws, ew, prw⟩ := pair_get hT5.all hit
            have htm := List.mem_of_getElem? ht2
            refine ⟨it.1, _, rfl, SqT.of (k6.tup0 et), rfl, _, _, rfl, _, _, rfl, _, _, rfl, rfl, ?_⟩
            refine ⟨_, rfl, it.2, rfl, ⟨_, SqL.of (k6.lst0 ew)⟩, ?_⟩
            refine for_it (walk_list (K := K) (a := it.2) (xs := ws)) (fun j σ H' => Kp Nil H5 H' ∧ ∃ x2 x3 x4 x6 x7 x8 x9, σ = [some (.str text0), some (.ref l), x2, x3, x4, some (.str t.1), x6, x7, x8, x9, some (.ref sp)])
              ⟨k6, _, _, _, _, _, _, _, rfl⟩ (fun i σ H' _ p => SqL.of (p.1.lst0 ew)) (fun j x σ H8 H9 hj p y => ?_) fun σ H' p => ?_
            · obtain ⟨rfl, hx⟩ := y
              obtain ⟨k8, x2, x3, x4, x6, x7, x8, x9, rfl⟩ := p
              obtain ⟨pe, hpe, r, u, rfl, er, eu⟩ := pair_get prw hx
              obtain ⟨hkn, hkl⟩ := ts0_known t htm pe (List.mem_of_getElem? hpe)
              refine ⟨r, _, rfl, SqT.of (k8.tup0 er), rfl, _, _, rfl, _, _, rfl, rfl, ?_⟩
              refine ⟨_, rfl, _, rfl, _, rfl, sp, S0, t.1, u, pe.2, rfl, hSch.kp0 k8, eu.kp0 k8, hkn, by decide, hkl, (ht.kp k05).kp k8, fun H10 k10 => ⟨true, rfl, iteF ⟨k8.trans k10, _, _, _, _, _, _, _, rfl⟩⟩⟩
            · obtain ⟨k8, x2, x3, x4, x6, x7, x8, x9, rfl⟩ := p
              exact ⟨k8, _, _, _, _, _, _, _, _, rfl⟩
        · obtain ⟨k6, x2, x3, x4, x5, x6, x7, x8, x9, rfl⟩ := p
          refine ⟨_, rfl, sp, S0, rfl, hSch.kp0 k6, S0_str, fun H7 d k7 hd7 => ⟨_, rfl, q H7 sp (k05.trans (k6.trans k7)) ((hSch.kp0 k6).kp0 k7)⟩⟩
end
end Au
/-! Authsync: is a tuple of texts in a list, in a tuple; are two changes the same. -/
namespace Au
open PySem PySem.Spec PyProof.Rows L2
def encP (p : List Str) : PyData := .tuple (p.map .str)
theorem eqvAll_map {α : Type} [DecidableEq α] (e : α → PyData) (h : ∀ x y, PyData.eqv (e x) (e y) = decide (x = y)) : ∀ xs ys : List α, PyData.eqvAll (xs.map e) (ys.map e) = decide (xs = ys)
  | [], [] => by simp [PyData.eqvAll]
  | [], y :: ys => by simp [PyData.eqvAll]
  | x :: xs, [] => by simp [PyData.eqvAll]
  | x :: xs, y :: ys => by
    rw [List.map_cons, List.map_cons]
    show (PyData.eqv (e x) (e y) && PyData.eqvAll (xs.map e) (ys.map e)) = _
    rw [h, eqvAll_map e h xs ys, Bool.eq_iff_iff, Bool.and_eq_true, decide_eq_true_iff, decide_eq_true_iff, decide_eq_true_iff, List.cons.injEq]
theorem encP_eqv (p q : List Str) : PyData.eqv (encP p) (encP q) = decide (p = q) := by
  unfold encP
  rw [show PyData.eqv (.tuple (p.map .str)) (.tuple (q.map .str)) = PyData.eqvAll (p.map .str) (q.map .str) by simp only [PyData.eqv]]
  exact eqvAll_map PyData.str (fun x y => by
    show (x == y) = _
    rw [Bool.eq_iff_iff, beq_iff_eq, decide_eq_true_iff]) p q
theorem strs_lay : ∀ p : List Str, PyData.plainAll (p.map .str) = true
  | [] => by simp [PyData.plainAll]
  | x :: p => by simp [PyData.plainAll, PyData.plain, strs_lay p]
theorem strs_depth : ∀ p : List Str, PyData.depthAll (p.map .str) = 0
  | [] => by simp [PyData.depthAll]
  | x :: p => by simp [PyData.depthAll, PyData.depth, strs_depth p]
theorem encP_lay (p : List Str) : (encP p).plain = true := by
  unfold encP
  simp only [PyData.plain]
  exact strs_lay p
theorem encP_depth (p : List Str) : (encP p).depth = 1 := by
  unfold encP
  simp only [PyData.depth, strs_depth p]
theorem encPs_lay : ∀ ps : List (List Str), PyData.plainAll (ps.map encP) = true
  | [] => by simp [PyData.plainAll]
  | p :: ps => by simp [PyData.plainAll, encP_lay p, encPs_lay ps]
theorem encPs_depth : ∀ ps : List (List Str), PyData.depthAll (ps.map encP) ≤ 1
  | [] => by simp [PyData.depthAll]
  | p :: ps => by
    have h1 := encPs_depth ps
    have h2 := encP_depth p
    simp only [List.map_cons, PyData.depthAll]
    omega
section
variable {X : Cx}
theorem dpAll_strs {K : PySem.W.Frag} {H : Hp} : ∀ p : List Str, DpAll K H (p.map V.str) (p.map .str)
  | [] => .nil
  | x :: p => .cons (.str x) (dpAll_strs p)
theorem PartAt.dp {K : PySem.W.Frag} {H : Hp} {v : V} {p : List Str} (h : PartAt H v p) : Dp K H v (encP p) := by
  obtain ⟨a, rfl, e⟩ := h
  exact .tup (SqT.of e) (dpAll_strs p)
theorem parts_dp {K : PySem.W.Frag} {H : Hp} {ws : List V} {ps : List (List Str)} (h : Paired (PartAt H) ws ps) : DpAll K H ws (ps.map encP) := by
  induction h with
  | nil => exact .nil
  | cons r _ ih => exact .cons r.dp ih
/-- x in a list or a tuple of tuples of texts -/
def rInP (K : PySem.W.Frag) (neg : Bool) : R2 := fun x y H Q => ∃ b ws ps q, PartAt H x q ∧ y = .ref b ∧ (SqL K H b ws ∨ SqT K H b ws) ∧ Paired (PartAt H) ws ps ∧ Q (.bl (if neg = true then !decide (q ∈ ps) else decide (q ∈ ps))) H
theorem any_encP (q : List Str) (ps : List (List Str)) : ((ps.map encP).any fun y => PyData.eqv y (encP q)) = decide (q ∈ ps) := by
  rw [List.any_map, Bool.eq_iff_iff, List.any_eq_true, decide_eq_true_iff]
  constructor
  · rintro ⟨p, hp, e⟩
    have e : PyData.eqv (encP p) (encP q) = true := e
    rw [encP_eqv, decide_eq_true_iff] at e
    rw [← e]
    exact hp
  · intro h
    exact ⟨q, h, by show PyData.eqv (encP q) (encP q) = true; rw [encP_eqv]; exact decide_eq_true rfl⟩
theorem room_P {A : Around} {ps : List (List Str)} {q : List Str} (hu : A.units + 64 < cLine) : A.units + 1 + min (PyData.depthAll (ps.map encP)) (encP q).depth < cLine := by
  have := encP_depth q
  omega
theorem op_inP (hu : X.A.units + 64 < cLine) : OpR X (compareOp .In) (rInP X.K false) := by
  intro pins s σ H x y v u Q I rx ry h
  obtain ⟨b, ws, ps, q, hx, rfl, hy, pr, hq⟩ := h
  obtain ⟨as, r1⟩ := Dp.reads I _ x v hx.dp rx
  rcases hy with hy | hy
  · obtain ⟨bs, r2⟩ := Dp.reads I _ _ u (.lst hy (parts_dp pr)) ry
    exact SeqAt.in_list_data r2 r1 (encPs_lay ps) (encP_lay q) (room_P hu) ⟨.bl _, H, I, rfl, by rw [any_encP]; exact hq⟩
  · obtain ⟨bs, r2⟩ := Dp.reads I _ _ u (.tup hy (parts_dp pr)) ry
    exact SeqAt.in_tuple_data r2 r1 (encPs_lay ps) (encP_lay q) (room_P hu) ⟨.bl _, H, I, rfl, by rw [any_encP]; exact hq⟩
theorem op_notInP (hu : X.A.units + 64 < cLine) : OpR X (compareOp .NotIn) (rInP X.K true) := by
  intro pins s σ H x y v u Q I rx ry h
  obtain ⟨b, ws, ps, q, hx, rfl, hy, pr, hq⟩ := h
  obtain ⟨as, r1⟩ := Dp.reads I _ x v hx.dp rx
  rcases hy with hy | hy
  · obtain ⟨bs, r2⟩ := Dp.reads I _ _ u (.lst hy (parts_dp pr)) ry
    exact SeqAt.notIn_list_data r2 r1 (encPs_lay ps) (encP_lay q) (room_P hu) ⟨.bl _, H, I, rfl, by rw [any_encP]; exact hq⟩
  · obtain ⟨bs, r2⟩ := Dp.reads I _ _ u (.tup hy (parts_dp pr)) ry
    exact SeqAt.notIn_tuple_data r2 r1 (encPs_lay ps) (encP_lay q) (room_P hu) ⟨.bl _, H, I, rfl, by rw [any_encP]; exact hq⟩
/-- two tuples of texts -/
def rEqP : R2 := fun x y H Q => ∃ p q, PartAt H x p ∧ PartAt H y q ∧ Q (.bl (decide (p = q))) H
theorem op_eqP (hu : X.A.units + 64 < cLine) : OpR X (compareOp .Eq) rEqP := by
  intro pins s σ H x y v u Q I rx ry h
  obtain ⟨p, q, hx, hy, hq⟩ := h
  obtain ⟨as, r1⟩ := Dp.reads I _ x v hx.dp rx
  obtain ⟨bs, r2⟩ := Dp.reads I _ y u hy.dp ry
  have d1 := encP_depth p
  have d2 := encP_depth q
  exact SeqAt.eq_plain r1 r2 (encP_lay p) (encP_lay q) (by omega) ⟨.bl _, H, I, rfl, by rw [encP_eqv]; exact hq⟩
def l3 (t : T3) : List Str := [t.1, t.2.1, t.2.2]
theorem l3_inj {s t : T3} (h : l3 s = l3 t) : s = t := by
  obtain ⟨a, b, c⟩ := s
  obtain ⟨a', b', c'⟩ := t
  simp only [l3, List.cons.injEq, and_true] at h
  rw [h.1, h.2.1, h.2.2]
theorem Tri.part {H : Hp} {v : V} {t : T3} (h : Tri H v t) : PartAt H v (l3 t) := h
theorem tris_part {H : Hp} {vs : List V} {ts : List T3} (h : Paired (Tri H) vs ts) : Paired (PartAt H) vs (ts.map l3) := by
  induction h with
  | nil => exact .nil
  | cons r _ ih => exact .cons r.part ih
theorem mem_l3 {t : T3} {ts : List T3} : decide (l3 t ∈ ts.map l3) = decide (t ∈ ts) := by
  rw [Bool.eq_iff_iff, decide_eq_true_iff, decide_eq_true_iff]
  constructor
  · intro h
    obtain ⟨u, hu, e⟩ := List.mem_map.mp h
    rw [← l3_inj e]
    exact hu
  · exact fun h => List.mem_map_of_mem h
/-! ### changes -/
abbrev Chn := List T3 × List T3
def encTs (ts : List T3) : PyData := .list (ts.map fun t => encP (l3 t))
def encC (c : Chn) : PyData := .tuple [encTs c.1, encTs c.2]
theorem encTs_eqv (p q : List T3) : PyData.eqv (encTs p) (encTs q) = decide (p = q) := by
  unfold encTs
  rw [show PyData.eqv (.list (p.map fun t => encP (l3 t))) (.list (q.map fun t => encP (l3 t))) = PyData.eqvAll (p.map fun t => encP (l3 t)) (q.map fun t => encP (l3 t)) by simp only [PyData.eqv]]
  exact eqvAll_map (fun t : T3 => encP (l3 t)) (fun x y => by
    rw [encP_eqv, Bool.eq_iff_iff, decide_eq_true_iff, decide_eq_true_iff]
    exact ⟨l3_inj, fun h => by rw [h]⟩) p q
theorem encC_eqv (c d : Chn) : PyData.eqv (encC c) (encC d) = decide (c = d) := by
  have e : PyData.eqv (encC c) (encC d) = (PyData.eqv (encTs c.1) (encTs d.1) && (PyData.eqv (encTs c.2) (encTs d.2) && true)) := by simp only [encC, PyData.eqv, PyData.eqvAll]
  rw [e, encTs_eqv, encTs_eqv, Bool.eq_iff_iff, Bool.and_true, Bool.and_eq_true, decide_eq_true_iff, decide_eq_true_iff, decide_eq_true_iff]
  exact ⟨fun h => Prod.ext h.1 h.2, fun h => by rw [h]; exact ⟨rfl, rfl⟩⟩
theorem encTs_lay (ts : List T3) : (encTs ts).plain = true := by
  unfold encTs
  simp only [PyData.plain]
  have := encPs_lay (ts.map l3)
  rw [List.map_map] at this
  exact this
theorem encTs_depth (ts : List T3) : (encTs ts).depth ≤ 2 := by
  unfold encTs
  have := encPs_depth (ts.map l3)
  rw [List.map_map] at this
  have this : PyData.depthAll (ts.map fun t => encP (l3 t)) ≤ 1 := this
  simp only [PyData.depth]
  omega
theorem encC_lay (c : Chn) : (encC c).plain = true := by
  simp [encC, PyData.plain, PyData.plainAll, encTs_lay]
theorem encC_depth (c : Chn) : (encC c).depth ≤ 3 := by
  have h1 := encTs_depth c.1
  have h2 := encTs_depth c.2
  simp only [encC, PyData.depth, PyData.depthAll]
  omega
theorem TriL.dp {K : PySem.W.Frag} {H : Hp} {l : Addr} {ts : List T3} (h : TriL H l ts) : Dp K H (.ref l) (encTs ts) := by
  obtain ⟨vs, e, pr⟩ := h
  have := parts_dp (K := K) (tris_part pr)
  rw [List.map_map] at this
  exact .lst (SqL.of e) this
def ChgV (H : Hp) (v : V) (c : Chn) : Prop := ∃ a g l, v = .ref a ∧ H a = some (.tup [.ref g, .ref l]) ∧ TriL H g c.1 ∧ TriL H l c.2
theorem ChgV.dp {K : PySem.W.Frag} {H : Hp} {v : V} {c : Chn} (h : ChgV H v c) : Dp K H v (encC c) := by
  obtain ⟨a, g, l, rfl, e, hg, hl⟩ := h
  exact .tup (SqT.of e) (.cons hg.dp (.cons hl.dp .nil))
/-- a change or nothing against a change -/
def rEqC : R2 := fun x y H Q => ∃ d, ChgV H y d ∧ ((x = .non ∧ Q (.bl false) H) ∨ ∃ c, ChgV H x c ∧ Q (.bl (decide (c = d))) H)
theorem op_eqC (hu : X.A.units + 64 < cLine) : OpR X (compareOp .Eq) rEqC := by
  intro pins s σ H x y v u Q I rx ry h
  obtain ⟨d, hy, h⟩ := h
  obtain ⟨bs, r2⟩ := Dp.reads I _ y u hy.dp ry
  have d2 := encC_depth d
  rcases h with ⟨rfl, hq⟩ | ⟨c, hx, hq⟩
  · obtain ⟨as, r1⟩ := Dp.reads I _ _ v (.non (K := X.K) (H := H)) rx
    refine SeqAt.eq_plain r1 r2 (by simp [PyData.plain]) (encC_lay d) (by omega) ⟨.bl _, H, I, rfl, ?_⟩
    have : PyData.eqv .none (encC d) = false := by simp [encC, PyData.eqv]
    rw [this]
    exact hq
  · obtain ⟨as, r1⟩ := Dp.reads I _ x v hx.dp rx
    have d1 := encC_depth c
    exact SeqAt.eq_plain r1 r2 (encC_lay c) (encC_lay d) (by omega) ⟨.bl _, H, I, rfl, by rw [encC_eqv]; exact hq⟩
end
end Au
/-! Authsync: tables: conforms, check_relationships, check_question. -/
namespace Au
open PySem PySem.Spec PyProof.Rows L2
def things : List Str := ["d:p", "d:q"]
def people : List Str := ["u:a", "u:b", "u:c"]
/-- all lines that are ever written -/
def mk3 (a b c : Str) : T3 := (a, b, c)
def U : List T3 := (things.flatMap fun d => (people.flatMap fun u => [mk3 d "o" u, mk3 d "w" u, mk3 d "b" u]) ++ [mk3 d "w" "g:x#m"]) ++ people.map fun u => mk3 "g:x" "m" u
def confB (t : T3) : Bool := match findE S0 (ty t.1) t.2.1 with
  | none => false
  | some e => e.rel && decide ([ty (sr t.2.2).1, (sr t.2.2).2] ∈ e.parts)
structure Conf (t : T3) : Prop where
  ex : ∃ e, findE S0 (ty t.1) t.2.1 = some e ∧ e.rel = true ∧ [ty (sr t.2.2).1, (sr t.2.2).2] ∈ e.parts
  l1 : t.1.length ≤ 1000
  l2 : t.2.2.length ≤ 1000
  l3 : (sr t.2.2).1.length ≤ 1000
theorem conf_U : ∀ t ∈ U, Conf t := by
  have h : ∀ t ∈ U, confB t = true ∧ t.1.length ≤ 1000 ∧ t.2.2.length ≤ 1000 ∧ (sr t.2.2).1.length ≤ 1000 := by decide +kernel
  intro t ht
  obtain ⟨h1, h2, h3, h4⟩ := h t ht
  refine ⟨?_, h2, h3, h4⟩
  unfold confB at h1
  cases e : findE S0 (ty t.1) t.2.1 with
  | none => rw [e] at h1; cases h1
  | some x =>
    rw [e] at h1
    have h1 := Bool.and_eq_true_iff.mp h1
    exact ⟨x, rfl, h1.1, of_decide_eq_true h1.2⟩
theorem line5 {n : Nat} (h : n ≤ 1000) : n ≤ sizeLine := le_line (Nat.le_trans h (by decide))
def spConf : Sp := fun vs H Q _ => ∃ a v t, vs = [.ref a, v] ∧ SchAt H a S0 ∧ Tri H v t ∧ Conf t ∧ ∀ H', Kp Nil H H' → Q (.bl true) H'
section
variable {P : Program} {w : World} {K : PySem.W.Frag} {mg : Str → Option Value} {base : Heap}
theorem sc_conforms : FnScope ["schema", "relationship", "found", "target", "name"] ["schema", "relationship"] (defScope s_conforms) := ⟨rfl, rfl, rfl, by decide +kernel, rfl, by decide +kernel, by decide +kernel⟩
theorem ok_conforms (T : Top K mg base) : Cal P w K mg base CX0 3 ("conforms", none) ["schema", "relationship"] spConf := by
  obtain ⟨fd, F⟩ := T.d_conforms
  have cs := ok_definition (P := P) (w := w) T
  obtain ⟨fd1, F1, b1⟩ := cs.ex
  have cs2 := ok_type_of (P := P) (w := w) T
  obtain ⟨fd2, F2, b2⟩ := cs2.ex
  have cs3 := ok_split_reference (P := P) (w := w) T
  obtain ⟨fd3, F3, b3⟩ := cs3.ex
  refine ⟨⟨fd, FunD.ok F sc_conforms (fun vs H Q E h => ?_) (fun cdv A outer s H vs Q E hr h => ?_), FunD.bindsN F fun _ _ _ _ _ _ us hl => match us, hl with | [_, _], _ => rfl⟩, F.kp⟩
  · obtain ⟨a, v, t, rfl, _⟩ := h
    rfl
  · obtain ⟨a, v, t, rfl, hS, ⟨r, rfl, er⟩, hc, q⟩ := h
    have nd := sc_conforms.nd
    refine ⟨_, pss_cons (ps_set (i := 2) nd rfl (.inl rfl) (pe_call F1 hr rfl T.g_definition cs.kp b1 .nil pass0 (pa_cons (pv 0) (pa_cons (pe_call F2 (hr.mono (by decide)) rfl T.g_type_of cs2.kp b2 .nil pass0 (pa_cons (pe_ix ix_tup (pv 1) pe_int (fun _ _ => rfl)) pa_nil)) (pa_cons (pe_ix ix_tup (pv 1) pe_int (fun _ _ => rfl)) pa_nil)))))
      (pss_cons (ps_if (PW.pt (pw_or (pt_cmp (pc_isN (pv 2))) (pw_or1 (pt_cmpR op_ne (pe_ix ix_tup (pv 2) pe_int (fun _ _ => rfl)) pe_str (nomark _))))) (pss_one ps_never) pss_nil)
      (pss_cons (ps_asg (pe_call F3 (hr.mono (by decide)) rfl T.g_split_reference cs3.kp b3 .nil pass0 (pa_cons (pe_ix ix_tup (pv 1) pe_int (fun _ _ => rfl)) pa_nil)) (pg_tup rfl (pgs_cons (pg_name (i := 3) nd rfl (.inl rfl)) (pgs_cons (pg_name (i := 4) nd rfl (.inl rfl)) pgs_nil))))
      (pss_one (ps_ret (pe_cmpR (op_inP hr.units) (pe_tup (pa_cons (pe_call F2 (hr.mono (by decide)) rfl T.g_type_of cs2.kp b2 .nil pass0 (pa_cons (pv 3) pa_nil)) (pa_cons (pv 4) pa_nil))) (pe_ix ix_tup (pv 2) pe_int (fun _ _ => rfl)) rfl))))), ?_⟩
    obtain ⟨e, hf, hrel, hin⟩ := hc.ex
    refine ⟨_, rfl, _, rfl, r, _, 0, _, rfl, rfl, SqT.of er, rfl, t.1, rfl, line5 hc.l1, fun H1 k1 => ?_⟩
    have er1 := k1.tup0 er
    refine ⟨_, rfl, r, _, 1, _, rfl, rfl, SqT.of er1, rfl, a, S0, ty t.1, t.2.1, rfl, hS.kp0 k1, fun H2 k2 => ⟨fun z => ?_, fun v e' z hd => ?_⟩⟩
    · rw [hf] at z
      cases z
    · obtain rfl : e = e' := Option.some.inj (hf.symm.trans z)
      obtain ⟨p, c, ws, rfl, e1, e2, pr⟩ := hd
      have er2 := k2.tup0 er1
      refine ⟨_, rfl, _, rfl, iteF ⟨_, rfl, p, _, 0, _, rfl, rfl, SqT.of e1, rfl, rfl, _, rfl, iteN ?_ ?_⟩⟩
      · unfold Ent.kind
        rw [if_pos hrel]
        simp
      · refine ⟨_, rfl, r, _, 2, _, rfl, rfl, SqT.of er2, rfl, t.2.2, rfl, line5 hc.l2, fun H3 p3 k3 hp3 ep3 => ?_⟩
        refine ⟨p3, _, rfl, SqT.of ep3, rfl, _, _, rfl, _, _, rfl, rfl, ?_⟩
        refine ⟨_, rfl, _, rfl, line5 hc.l3, fun H4 k4 => ⟨_, rfl, by show 2 ≤ sizeLine; decide, fun p4 hp4 => ?_⟩⟩
        have k5 : Kp Nil H4 (upd H4 p4 (.tup [.str (ty (sr t.2.2).1), .str (sr t.2.2).2])) := Kp.new hp4
        have k35 := k3.trans (k4.trans k5)
        refine ⟨_, rfl, p, _, 1, _, rfl, rfl, SqT.of (k35.tup0 e1), rfl, c, ws, e.parts, [ty (sr t.2.2).1, (sr t.2.2).2], ⟨p4, rfl, upd_same⟩, rfl, .inr (SqT.of (k35.tup0 e2)), Paired.mapP pr fun _ _ z => z.kp0 k35, ?_⟩
        rw [decide_eq_true hin]
        exact q _ (k1.trans (k2.trans k35))
/-! ### check_relationships -/
def spChkRel : Sp := fun vs H Q _ => ∃ a l ts, vs = [.ref a, .ref l] ∧ SchAt H a S0 ∧ Grants H l ts ∧ (∀ t ∈ ts, Conf t) ∧ ∀ H', Kp Nil H H' → Q .non H'
theorem sc_check_relationships : FnScope ["schema", "relationships", "index", "relationship"] ["schema", "relationships"] (defScope s_check_relationships) := ⟨rfl, rfl, rfl, by decide +kernel, rfl, by decide +kernel, by decide +kernel⟩
theorem ok_check_relationships (T : Top K mg base) : Cal P w K mg base CX0 4 ("check_relationships", none) ["schema", "relationships"] spChkRel := by
  obtain ⟨fd, F⟩ := T.d_check_relationships
  have cs := ok_conforms (P := P) (w := w) T
  obtain ⟨fd1, F1, b1⟩ := cs.ex
  refine ⟨⟨fd, FunD.ok F sc_check_relationships (fun vs H Q E h => ?_) (fun cdv A outer s H vs Q E hr h => ?_), FunD.bindsN F fun _ _ _ _ _ _ us hl => match us, hl with | [_, _], _ => rfl⟩, F.kp⟩
  · obtain ⟨a, l, ts, rfl, _⟩ := h
    rfl
  · obtain ⟨a, l, ts, rfl, hS, hg, hc, q⟩ := h
    have nd := sc_check_relationships.nd
    refine ⟨_, pss_cons (ps_for (passes_of rfl) rfl (pi_enum (by rfl) T.f_enumerate (pa_cons (pv 1) pa_nil)) (pg_tup rfl (pgs_cons (pg_name (i := 2) nd rfl (.inl rfl)) (pgs_cons (pg_name (i := 3) nd rfl (.inl rfl)) pgs_nil)))
        (pss_one (ps_if (pt_not (pt_val (pe_call F1 hr rfl T.g_conforms cs.kp b1 .nil pass0 (pa_cons (pv 0) (pa_cons (pv 3) pa_nil))))) (pss_one ps_never) pss_nil)))
      (pss_one (ps_if (pt_cmpR op_lt (pe_callB call_len_dT (by rfl) T.f_len PySem.boot_len (pa_cons (pe_dcT (own := [("relationship", 3)]) hr.u1 rfl nd (pi_list (pv 1)) (blkOk_by (N := ["schema", "relationships", "index", "relationship"]) (sc := defScope s_check_relationships) (by decide +kernel))
          (fun _ _ _ _ _ => pg_name (i := 3) nd rfl (.inl rfl)) (fun _ _ _ _ _ => pv 3) (fun _ _ _ _ _ => pe_bl)) pa_nil)) (pe_callB call_len_seq (by rfl) T.f_len PySem.boot_len (pa_cons (pv 1) pa_nil)) (nomark _)) (pss_one ps_never) pss_nil)), ?_⟩
    obtain ⟨vs, ev, pr⟩ := hg.at_
    refine ⟨_, rfl, l, vs, rfl, SqL.of ev, ?_⟩
    refine for_it (walk_enum (K := K) (a := l) (xs := vs)) (fun i σ H' => Kp Nil H H' ∧ ∃ x2 x3, σ = [some (.ref a), some (.ref l), x2, x3]) ⟨Kp.refl, _, _, rfl⟩ (fun i σ H' _ p => SqL.of (p.1.lst0 ev)) (fun i x σ H1 H2 hi p y => ?_) fun σ H1 p => ?_
    · obtain ⟨k1, x2, x3, rfl⟩ := p
      obtain ⟨V1, x, y, rfl, hV, rfl, ex, ey⟩ := y
      obtain rfl := Option.some.inj ex
      obtain ⟨t, ht, htr⟩ := pair_get pr ey
      have k2 : Kp Nil H1 (upd H1 V1 (.tup [.int (i : Int), y])) := Kp.new hV
      have k12 := k1.trans k2
      refine ⟨V1, _, rfl, SqT.of upd_same, rfl, _, _, rfl, _, _, rfl, rfl, ?_⟩
      refine ⟨_, rfl, _, rfl, a, y, t, rfl, hS.kp0 k12, htr.kp0 k12, hc t (List.mem_of_getElem? ht), fun H3 k3 => ⟨true, rfl, iteF ⟨k12.trans k3, _, _, rfl⟩⟩⟩
    · obtain ⟨k1, x2, x3, rfl⟩ := p
      have hg1 := hg.kp0 k1
      delta tIfS tTest tOp tCB tCons; dsimp only
      refine rd_true (K := K) (i := 3) (tl := tVar 1) (σ := [some (.ref a), some (.ref l), x2, x3]) (by show 3 < 4; decide) ⟨_, rfl, l, ts, rfl, hg1.at_, hg1.nd, by have := hg.len; omega, fun D H2 hD k2 hd2 => ?_⟩ fun Q Q' m q => by
        obtain ⟨v, e, q⟩ := q
        exact ⟨v, e, m _ _ q⟩
      refine ⟨D, _, rfl, hd2, _, rfl, l, vs, rfl, .inl (SqL.of ((k1.trans k2).lst0 ev)), _, _, rfl, rfl, _, rfl, iteN (decide_eq_false ?_) (q _ (k1.trans k2))⟩
      rw [dictOf_len, pr.length]
      omega
/-! ### check_question -/
structure Quest (d n u : Str) : Prop where
  t1 : ty d ∈ S0.map (·.1)
  t2 : ty u ∈ S0.map (·.1)
  f : (findE S0 (ty d) n).isSome = true
  l1 : d.length ≤ 1000
  l2 : u.length ≤ 1000
def spChkQ : Sp := fun vs H Q _ => ∃ a d n u, vs = [.ref a, .str d, .str n, .str u] ∧ SchAt H a S0 ∧ Quest d n u ∧ ∀ H', Kp Nil H H' → Q .non H'
theorem sc_check_question : FnScope ["schema", "target", "name", "subject", "types", "line"] ["schema", "target", "name", "subject"] (defScope s_check_question) := ⟨rfl, rfl, rfl, by decide +kernel, rfl, by decide +kernel, by decide +kernel⟩
theorem ok_check_question (T : Top K mg base) : Cal P w K mg base CX0 3 ("check_question", none) ["schema", "target", "name", "subject"] spChkQ := by
  obtain ⟨fd, F⟩ := T.d_check_question
  have cs := ok_definition (P := P) (w := w) T
  obtain ⟨fd1, F1, b1⟩ := cs.ex
  have cs2 := ok_type_of (P := P) (w := w) T
  obtain ⟨fd2, F2, b2⟩ := cs2.ex
  refine ⟨⟨fd, FunD.ok F sc_check_question (fun vs H Q E h => ?_) (fun cdv A outer s H vs Q E hr h => ?_), FunD.bindsN F fun _ _ _ _ _ _ us hl => match us, hl with | [_, _, _, _], _ => rfl⟩, F.kp⟩
  · obtain ⟨a, d, n, u, rfl, _⟩ := h
    rfl
  · obtain ⟨a, d, n, u, rfl, hS, hq, q⟩ := h
    have nd := sc_check_question.nd
    refine ⟨_, pss_cons (ps_setLc (i := 4) (te := tOp (rIxT K) (tVar 5) (tC (.int 0))) (own := [("line", 5)]) rfl nd rfl rfl (sw_true rfl rfl rfl rfl) (pi_tup (pv 0)) (blkOk_by (N := ["schema", "target", "name", "subject", "types", "line"]) (sc := defScope s_check_question) (by decide +kernel))
          (fun _ _ _ _ _ => pg_name (i := 5) nd rfl (.inl rfl)) (fun _ _ _ _ _ => pts_nil) (fun _ _ _ _ _ => pe_ix ix_tup (pv 5) pe_int (fun _ _ => rfl)))
      (pss_cons (ps_if (PW.pt (pw_or (pt_cmpR op_notIn_seq (pe_call F2 (hr.mono (by decide)) rfl T.g_type_of cs2.kp b2 .nil pass0 (pa_cons (pv 1) pa_nil)) (pv 4) rfl)
          (pw_or1 (pt_cmpR op_notIn_seq (pe_call F2 (hr.mono (by decide)) rfl T.g_type_of cs2.kp b2 .nil pass0 (pa_cons (pv 3) pa_nil)) (pv 4) rfl)))) (pss_one ps_never) pss_nil)
      (pss_one (ps_if (pt_cmp (pc_isN (pe_call F1 hr rfl T.g_definition cs.kp b1 .nil pass0 (pa_cons (pv 0) (pa_cons (pe_call F2 (hr.mono (by decide)) rfl T.g_type_of cs2.kp b2 .nil pass0 (pa_cons (pv 1) pa_nil)) (pa_cons (pv 2) pa_nil)))))) (pss_one ps_never) pss_nil))), ?_⟩
    obtain ⟨vs, ea, pr⟩ := id hS
    have hvl : vs.length = S0.length := pr.length
    refine ⟨_, rfl, a, rfl, ⟨_, SqT.of ea⟩, fun D hD => ?_⟩
    refine lc_sel (walk_tup (K := K) (a := a) (xs := vs)) StrAt (fun _ _ _ _ _ _ _ z => z) (fun i => S0[i]?.bind fun t => some t.1) hD (by rw [hvl]; decide) (fun H' k' => SqT.of (k'.tup0 ea)) (fun i x H1 H2 N M hi k1 y hN hM => ?_) fun H1 ys k1 hd pr1 => ?_
    · obtain ⟨rfl, hx⟩ := y
      obtain ⟨t, ht2, u, c2, ws2, rfl, e3, _⟩ := pair_get pr hx
      rw [ht2] at hN
      exact ⟨rfl, _, rfl, u, _, 0, _, rfl, rfl, SqT.of (k1.tup0 e3), rfl, hN _ _ t.1 Kp.refl rfl rfl⟩
    · rw [hvl, range_sel] at pr1
      have eys : ys = (S0.map (·.1)).map V.str := by
        have : S0.filterMap (fun t => some t.1) = S0.map (·.1) := by rw [List.filterMap_eq_map']
        rw [this] at pr1
        exact strs_are pr1
      rw [eys] at hd
      refine ⟨_, rfl, d, rfl, line5 hq.l1, fun H2 k2 => ⟨_, rfl, D, _, rfl, .inl (SqL.of (k2.lst0 hd)), rfl, flat_strs _, _, rfl, iteN (by rw [inV_some hq.t1]; rfl) ?_⟩⟩
      refine ⟨_, rfl, u, rfl, line5 hq.l2, fun H3 k3 => ⟨_, rfl, D, _, rfl, .inl (SqL.of ((k2.trans k3).lst0 hd)), rfl, flat_strs _, _, rfl, iteN (by rw [inV_some hq.t2]; rfl) ?_⟩⟩
      have k13 := k1.trans (k2.trans k3)
      refine ⟨_, rfl, _, rfl, d, rfl, line5 hq.l1, fun H4 k4 => ⟨_, rfl, a, S0, ty d, n, rfl, hS.kp0 (k13.trans k4), fun H5 k5 => ⟨fun z => ?_, fun v e z hdf => ?_⟩⟩⟩
      · have := hq.f
        rw [z] at this
        cases this
      · obtain ⟨p, _, _, rfl, _⟩ := hdf
        exact ⟨_, rfl, iteF (q H5 (k13.trans (k4.trans k5)))⟩
end
end Au
/-! Authsync: Graph(..). -/
namespace Au
open PySem PySem.Spec PyProof.Rows L2
def O6 : List Str := ["d:p", "d:q", "g:x", "u:a", "u:b", "u:c"]
structure InU (t : T3) : Prop where
  o : t.1 ∈ O6
  s : (sr t.2.2).1 ∈ O6
  p : (sr t.2.2).2 = "" → t.2.2 ∈ people
theorem in_U : ∀ t ∈ U, InU t := by
  have h : ∀ t ∈ U, t.1 ∈ O6 ∧ (sr t.2.2).1 ∈ O6 ∧ ((sr t.2.2).2 = "" → t.2.2 ∈ people) := by decide +kernel
  exact fun t ht => ⟨(h t ht).1, (h t ht).2.1, (h t ht).2.2⟩
theorem O6_len : ∀ z ∈ O6, z.length ≤ 1000 := by decide +kernel
theorem people_len : ∀ z ∈ people, z.length ≤ 1000 := by decide +kernel
theorem nodup_le {α : Type} [DecidableEq α] : ∀ {l m : List α}, l.Nodup → (∀ x ∈ l, x ∈ m) → l.length ≤ m.length
  | [], m, _, _ => Nat.zero_le _
  | x :: l, m, h, s => by
    rw [List.nodup_cons] at h
    have hx : x ∈ m := s x (List.mem_cons_self ..)
    have : l.length ≤ (m.erase x).length := nodup_le h.2 fun y hy => (List.mem_erase_of_ne fun z => h.1 (by rw [← z]; exact hy)).mpr (s y (List.mem_cons_of_mem _ hy))
    rw [List.length_erase_of_mem hx] at this
    have := List.length_pos_of_mem hx
    show l.length + 1 ≤ m.length
    omega
theorem putK_keys {κ : Type} [DecidableEq κ] (kvs : List (κ × V)) (k : κ) (v : V) : (putK kvs k v).map (·.1) = if k ∈ kvs.map (·.1) then kvs.map (·.1) else kvs.map (·.1) ++ [k] := by
  unfold putK
  have hany : (kvs.any fun kv => decide (kv.1 = k)) = decide (k ∈ kvs.map (·.1)) := by
    rw [Bool.eq_iff_iff, List.any_eq_true, decide_eq_true_iff, List.mem_map]
    constructor
    · rintro ⟨x, hx, e⟩
      exact ⟨x, hx, of_decide_eq_true e⟩
    · rintro ⟨x, hx, e⟩
      exact ⟨x, hx, decide_eq_true e⟩
  rw [hany]
  by_cases h : k ∈ kvs.map (·.1)
  · rw [if_pos h, if_pos (decide_eq_true h), List.map_map]
    refine List.map_congr_left fun x _ => ?_
    show (if x.1 = k then (x.1, v) else x).1 = x.1
    split <;> rfl
  · rw [if_neg h, if_neg (by rw [decide_eq_false h]; decide), List.map_append]
    rfl
/-- a dict of texts, by its keys -/
def DKeys (H : Hp) (d : Addr) (zs : List Str) : Prop := ∃ kvs, H d = some (.dK kvs) ∧ kvs.map (·.1) = zs.map Sum.inr
def addK {α : Type} [DecidableEq α] (zs : List α) (z : α) : List α := if z ∈ zs then zs else zs ++ [z]
theorem addK_nodup {α : Type} [DecidableEq α] {zs : List α} {z : α} (h : zs.Nodup) : (addK zs z).Nodup := by
  unfold addK
  by_cases m : z ∈ zs
  · rw [if_pos m]; exact h
  · rw [if_neg m]
    refine List.nodup_append.mpr ⟨h, List.nodup_cons.mpr ⟨by simp, List.nodup_nil⟩, fun x hx y hy => ?_⟩
    have : y = z := List.mem_singleton.mp hy
    exact fun e => m (by rw [← this, ← e]; exact hx)
theorem addK_mem {α : Type} [DecidableEq α] {zs : List α} {z x : α} (h : x ∈ addK zs z) : x ∈ zs ∨ x = z := by
  unfold addK at h
  by_cases m : z ∈ zs
  · rw [if_pos m] at h; exact .inl h
  · rw [if_neg m] at h
    rcases List.mem_append.mp h with h | h
    · exact .inl h
    · exact .inr (List.mem_singleton.mp h)
theorem DKeys.put {kvs : List (Key × V)} {zs : List Str} (h : kvs.map (·.1) = zs.map Sum.inr) (z : Str) (v : V) : (putK kvs (.inr z) v).map (·.1) = (addK zs z).map Sum.inr := by
  rw [putK_keys, h]
  unfold addK
  have : ((Sum.inr z : Key) ∈ zs.map Sum.inr) ↔ z ∈ zs := by
    constructor
    · intro q
      obtain ⟨y, hy, e⟩ := List.mem_map.mp q
      cases e
      exact hy
    · exact fun q => List.mem_map_of_mem q
  by_cases m : z ∈ zs
  · rw [if_pos (this.mpr m), if_pos m]
  · rw [if_neg fun q => m (this.mp q), if_neg m, List.map_append]
    rfl
/-- the lists of the subjects -/
def PairOk (p : List Str) : Prop := ∃ o m, p = [o, m] ∧ o ∈ O6
def SubsAt (F : Addr → Prop) (H : Hp) (d : Addr) (n : Nat) : Prop := ∃ kvs : List (List Key × V), H d = some (.dT kvs) ∧ kvs.length ≤ n ∧
  ∀ k v, valV kvs k = some v → ∃ l ws ps, v = .ref l ∧ F l ∧ H l = some (.lst ws) ∧ Paired (PartAt H) ws ps ∧ ps.length ≤ n ∧ ∀ p ∈ ps, PairOk p
theorem SubsAt.kp {F : Addr → Prop} {S : Addr → Prop} {H H' : Hp} (k : Kp S H H') (t : TupFree S H) (n : LstFree S H) {d : Addr} (hd : ¬ S d) {m : Nat} (h : SubsAt F H d m) : SubsAt F H' d m := by
  obtain ⟨kvs, e, hl, f⟩ := h
  refine ⟨kvs, k.old _ _ e hd nt_dT, hl, fun key v hv => ?_⟩
  obtain ⟨l, ws, ps, rfl, hF, el, pr, hps, hok⟩ := f key v hv
  exact ⟨l, ws, ps, rfl, hF, k.old _ _ el (n _ _ el) nt_lst, Paired.mapP pr fun _ _ z => PartAt.stays _ _ _ _ _ k t z, hps, hok⟩
theorem SubsAt.mono {F G : Addr → Prop} {H : Hp} {d : Addr} {m n : Nat} (h : SubsAt F H d m) (hm : m ≤ n) (hF : ∀ l, F l → G l) : SubsAt G H d n := by
  obtain ⟨kvs, e, hl, f⟩ := h
  refine ⟨kvs, e, Nat.le_trans hl hm, fun key v hv => ?_⟩
  obtain ⟨l, ws, ps, rfl, a, el, pr, hps, hok⟩ := f key v hv
  exact ⟨l, ws, ps, rfl, hF l a, el, pr, Nat.le_trans hps hm, hok⟩
theorem SubsAt.app {F : Addr → Prop} {H : Hp} {d l : Addr} {n : Nat} {ws : List V} {r : V} {p : List Str} (h : SubsAt F H d n) (el : H l = some (.lst ws)) (hr : PartAt H r p) (hp : PairOk p) : SubsAt F (upd H l (.lst (ws ++ [r]))) d (n + 1) := by
  obtain ⟨kvs, e, hl, f⟩ := h
  have kl : Kp (Only l) H (upd H l (.lst (ws ++ [r]))) := Kp.put el nt_lst rfl
  have tl : TupFree (Only l) H := fun b xs z (zb : b = l) => by
    rw [zb, el] at z
    cases z
  refine ⟨kvs, o2 e (ne_of e el fun z => by cases z), by omega, fun key v hv => ?_⟩
  obtain ⟨l', ws', ps, rfl, a, el', pr, hps, hok⟩ := f key v hv
  by_cases z : l' = l
  · subst z
    obtain rfl : ws = ws' := by
      rw [el] at el'
      cases el'
      rfl
    refine ⟨l', ws ++ [r], ps ++ [p], rfl, a, upd_same, pair_append (Paired.mapP pr fun _ _ z => PartAt.stays _ _ _ _ _ kl tl z) (.cons (PartAt.stays _ _ _ _ _ kl tl hr) .nil), by rw [List.length_append]; show ps.length + 1 ≤ n + 1; omega, fun x hx => ?_⟩
    rcases List.mem_append.mp hx with hx | hx
    · exact hok x hx
    · rw [List.mem_singleton.mp hx]
      exact hp
  · exact ⟨l', ws', ps, rfl, a, o2 el' z, Paired.mapP pr fun _ _ z => PartAt.stays _ _ _ _ _ kl tl z, by omega, hok⟩
theorem SubsAt.put {F : Addr → Prop} {H : Hp} {d l : Addr} {n : Nat} {kvs : List (List Key × V)} {k : List Key} (h : SubsAt F H d n) (e : H d = some (.dT kvs)) (el : H l = some (.lst [])) (hF : F l) : SubsAt F (upd H d (.dT (putK kvs k (.ref l)))) d (n + 1) := by
  obtain ⟨kvs', e', hl, f⟩ := h
  obtain rfl : kvs = kvs' := by
    rw [e] at e'
    cases e'
    rfl
  obtain ⟨kd, td, ld⟩ := dT_one e (.dT (putK kvs k (.ref l)))
  refine ⟨_, upd_same, Nat.le_trans (length_putK _ _ _) (by omega), fun key v hv => ?_⟩
  rw [valV_put] at hv
  by_cases z : key = k
  · rw [if_pos z] at hv
    obtain rfl := Option.some.inj hv
    exact ⟨l, [], [], rfl, hF, o2 el (ne_of el e fun z => by cases z), .nil, Nat.zero_le _, fun x hx => by cases hx⟩
  · rw [if_neg z] at hv
    obtain ⟨l', ws', ps, rfl, a, el', pr, hps, hok⟩ := f key v hv
    exact ⟨l', ws', ps, rfl, a, kd.old _ _ el' (ld _ _ el') nt_lst, Paired.mapP pr fun _ _ z => PartAt.stays _ _ _ _ _ kd td z, by omega, hok⟩
structure GraphAt (K : PySem.W.Frag) (H : Hp) (g : Addr) : Prop where
  ex : ∃ dx sc st sb ob pe, ∃ os ps : List Str, H g = some (.ins (He.ga K "Graph") dx [("schema", .ref sc), ("strata", .ref st), ("subjects", .ref sb), ("objects", .ref ob), ("people", .ref pe)]) ∧ SchAt H sc S0 ∧
    H st = some (.dT (enc (flatS S0) (lev S0))) ∧ SubsAt (fun _ => True) H sb 100 ∧ H ob = some (.lst (os.map V.str)) ∧ (∀ z ∈ os, z ∈ O6) ∧ os.length ≤ 10 ∧ H pe = some (.lst (ps.map V.str)) ∧ (∀ z ∈ ps, z ∈ people) ∧ ps.length ≤ 10
theorem GraphAt.kp0 {K : PySem.W.Frag} {H H' : Hp} (k : Kp Nil H H') {g : Addr} (h : GraphAt K H g) : GraphAt K H' g := by
  obtain ⟨dx, sc, st, sb, ob, pe, os, ps, e, hs, e2, hb, e3, o1, o2, e4, p1, p2⟩ := h.ex
  exact ⟨dx, sc, st, sb, ob, pe, os, ps, k.ins0 e, hs.kp0 k, k.dT0 e2, hb.kp k tupFree_nil lstFree_nil id, k.lst0 e3, o1, o2, k.lst0 e4, p1, p2⟩
/-- while it is made -/
structure GI (K : PySem.W.Frag) (H H' : Hp) (g dx a st sb od pd : Addr) (n : Nat) (os ps : List Str) : Prop where
  k : Kp (Only g) H H'
  eg : H' g = some (.ins (He.ga K "Graph") dx [("schema", .ref a), ("strata", .ref st), ("subjects", .ref sb)])
  est : H' st = some (.dT (enc (flatS S0) (lev S0)))
  sub : SubsAt (fun l => H l = none) H' sb n
  ob : DKeys H' od os
  pe : DKeys H' pd ps
  ond : os.Nodup
  pnd : ps.Nodup
  o6 : ∀ z ∈ os, z ∈ O6
  p3 : ∀ z ∈ ps, z ∈ people
theorem DKeys.kp {S : Addr → Prop} {H H' : Hp} (k : Kp S H H') {d : Addr} (n : ¬ S d) {zs : List Str} (h : DKeys H d zs) : DKeys H' d zs := by
  obtain ⟨kvs, e, m⟩ := h
  exact ⟨kvs, k.old _ _ e n nt_dK, m⟩
theorem GI.kp0 {K : PySem.W.Frag} {H H' H2 : Hp} {g dx a st sb od pd : Addr} {n : Nat} {os ps : List Str} (k : Kp Nil H' H2) (h : GI K H H' g dx a st sb od pd n os ps) : GI K H H2 g dx a st sb od pd n os ps :=
  ⟨h.k.trans k.any, k.ins0 h.eg, k.dT0 h.est, h.sub.kp k tupFree_nil lstFree_nil id, h.ob.kp k id, h.pe.kp k id, h.ond, h.pnd, h.o6, h.p3⟩
theorem GI.mono {K : PySem.W.Frag} {H H' : Hp} {g dx a st sb od pd : Addr} {n m : Nat} {os ps : List Str} (h : GI K H H' g dx a st sb od pd n os ps) (hm : n ≤ m) : GI K H H' g dx a st sb od pd m os ps :=
  ⟨h.k, h.eg, h.est, h.sub.mono hm fun _ => id, h.ob, h.pe, h.ond, h.pnd, h.o6, h.p3⟩
/-- a key more in the dict of objects -/
theorem GI.obj {K : PySem.W.Frag} {H H' : Hp} {g dx a st sb od pd : Addr} {n : Nat} {os ps : List Str} (h : GI K H H' g dx a st sb od pd n os ps) (hod : H od = none) (ne : pd ≠ od) {kvs : List (Key × V)} (e : H' od = some (.dK kvs)) {z : Str} (hz : z ∈ O6) (v : V) :
    GI K H (upd H' od (.dK (putK kvs (.inr z) v))) g dx a st sb od pd n (addK os z) ps := by
  obtain ⟨kvs', e', m⟩ := h.ob
  obtain rfl : kvs = kvs' := by
    rw [e] at e'
    cases e'
    rfl
  have kd : Kp (Only od) H' (upd H' od (.dK (putK kvs (.inr z) v))) := Kp.put e nt_dK rfl
  have td : TupFree (Only od) H' := fun b xs q (zb : b = od) => by rw [zb, e] at q; cases q
  have ld : LstFree (Only od) H' := fun b xs q (zb : b = od) => by rw [zb, e] at q; cases q
  refine ⟨h.k.fill hod, o2 h.eg (ne_of h.eg e fun z => by cases z), o2 h.est (ne_of h.est e fun z => by cases z), h.sub.kp kd td ld ?_, ⟨_, upd_same, DKeys.put m z v⟩, h.pe.kp kd ne, addK_nodup h.ond, h.pnd, fun x hx => ?_, h.p3⟩
  · obtain ⟨kv, e2, _⟩ := h.sub
    exact ne_of e2 e fun z => by cases z
  · rcases addK_mem hx with hx | hx
    · exact h.o6 x hx
    · rw [hx]; exact hz
theorem GI.ppl {K : PySem.W.Frag} {H H' : Hp} {g dx a st sb od pd : Addr} {n : Nat} {os ps : List Str} (h : GI K H H' g dx a st sb od pd n os ps) (hpd : H pd = none) (ne : od ≠ pd) {kvs : List (Key × V)} (e : H' pd = some (.dK kvs)) {z : Str} (hz : z ∈ people) (v : V) :
    GI K H (upd H' pd (.dK (putK kvs (.inr z) v))) g dx a st sb od pd n os (addK ps z) := by
  obtain ⟨kvs', e', m⟩ := h.pe
  obtain rfl : kvs = kvs' := by
    rw [e] at e'
    cases e'
    rfl
  have kd : Kp (Only pd) H' (upd H' pd (.dK (putK kvs (.inr z) v))) := Kp.put e nt_dK rfl
  have td : TupFree (Only pd) H' := fun b xs q (zb : b = pd) => by rw [zb, e] at q; cases q
  have ld : LstFree (Only pd) H' := fun b xs q (zb : b = pd) => by rw [zb, e] at q; cases q
  refine ⟨h.k.fill hpd, o2 h.eg (ne_of h.eg e fun z => by cases z), o2 h.est (ne_of h.est e fun z => by cases z), h.sub.kp kd td ld ?_, h.ob.kp kd ne, ⟨_, upd_same, DKeys.put m z v⟩, h.ond, addK_nodup h.pnd, h.o6, fun x hx => ?_⟩
  · obtain ⟨kv, e2, _⟩ := h.sub
    exact ne_of e2 e fun z => by cases z
  · rcases addK_mem hx with hx | hx
    · exact h.p3 x hx
    · rw [hx]; exact hz
theorem keys_len {kvs : List (Key × V)} {zs : List Str} (h : kvs.map (·.1) = zs.map Sum.inr) : kvs.length = zs.length := by
  have := congrArg List.length h
  rw [List.length_map, List.length_map] at this
  exact this
def spGraphInit (K : PySem.W.Frag) : Sp := fun vs H Q _ => ∃ g a l dx ts, vs = [.ref g, .ref a, .ref l] ∧ H g = some (.ins (He.ga K "Graph") dx []) ∧ SchAt H a S0 ∧ TriL H l ts ∧ (∀ t ∈ ts, t ∈ U) ∧ ts.length ≤ 50 ∧
  ∀ H', Kp (Only g) H H' → GraphAt K H' g → Q .non H'
section
variable {P : Program} {w : World} {K : PySem.W.Frag} {mg : Str → Option Value} {base : Heap}
theorem sc_Graph_init : FnScope ["self", "schema", "relationships", "objects", "people", "target", "relation", "subject"] ["self", "schema", "relationships"] (defScope s_Graph_init) := ⟨rfl, rfl, rfl, by decide +kernel, rfl, by decide +kernel, by decide +kernel⟩
theorem ok_Graph_init (T : Top K mg base) : Cal P w K mg base CX0 4 ("Graph", some "__init__") ["self", "schema", "relationships"] (spGraphInit K) := by
  obtain ⟨fd, F⟩ := T.d_Graph_init
  have cs := ok_strata (P := P) (w := w) T
  obtain ⟨fd1, F1, b1⟩ := cs.ex
  have cs2 := ok_split_reference (P := P) (w := w) T
  obtain ⟨fd2, F2, b2⟩ := cs2.ex
  refine ⟨⟨fd, FunD.ok F sc_Graph_init (fun vs H Q E h => ?_) (fun cdv A outer s H vs Q E hr h => ?_), FunD.bindsN F fun _ _ _ _ _ _ us hl => match us, hl with | [_, _, _], _ => rfl⟩, F.kp⟩
  · obtain ⟨g, a, l, dx, ts, rfl, _⟩ := h
    rfl
  · obtain ⟨g, a, l, dx, ts, rfl, eg, hS, hT, hU, htl, q⟩ := h
    have nd := sc_Graph_init.nd
    refine ⟨_, pss_cons (ps_fld (pv 0) (pv 1) rfl)
      (pss_cons (ps_fld (pv 0) (pe_call F1 hr rfl T.g_strata cs.kp b1 .nil pass0 (pa_cons (pv 1) pa_nil)) rfl)
      (pss_cons (ps_fld (pv 0) pe_dnewT rfl)
      (pss_cons (ps_set (i := 3) nd rfl (.inl rfl) pe_dnewK)
      (pss_cons (ps_set (i := 4) nd rfl (.inl rfl) pe_dnewK)
      (pss_cons (ps_for (passes_of rfl) rfl (pi_list (pv 2)) (pg_tup rfl (pgs_cons (pg_name (i := 5) nd rfl (.inl rfl)) (pgs_cons (pg_name (i := 6) nd rfl (.inl rfl)) (pgs_cons (pg_name (i := 7) nd rfl (.inl rfl)) pgs_nil))))
        (pss_cons (ps_expr (pe_bm PySem.F.plainAttrs_list PySem.F.slot_list_append PySem.F.type_list_append mt_append
            (pe_dsetdT hr.u1 (pe_fld (pv 0) rfl) (pe_tup (pa_cons (pv 5) (pa_cons (pv 6) pa_nil))) (pe_lst pa_nil) ⟨rfl, rfl, rfl, rfl⟩)
            (pa_cons (pe_call F2 (hr.mono (by decide)) rfl T.g_split_reference cs2.kp b2 .nil pass0 (pa_cons (pv 7) pa_nil)) pa_nil)))
        (pss_cons (ps_dput hr.u1 (pv 3) (pv 5) pe_bl rfl)
        (pss_cons (ps_dput hr.u1 (pv 3) (pe_ix ix_tup (pe_call F2 (hr.mono (by decide)) rfl T.g_split_reference cs2.kp b2 .nil pass0 (pa_cons (pv 7) pa_nil)) pe_int (fun _ _ => rfl)) pe_bl rfl)
        (pss_one (ps_if (pt_cmpR op_eq (pe_ix ix_tup (pe_call F2 (hr.mono (by decide)) rfl T.g_split_reference cs2.kp b2 .nil pass0 (pa_cons (pv 7) pa_nil)) pe_int (fun _ _ => rfl)) pe_str (nomark _))
          (pss_one (ps_dput hr.u1 (pv 4) (pv 7) pe_bl rfl)) pss_nil))))))
      (pss_cons (ps_fld (pv 0) (pe_callB (call_sortedD rfl) (by rfl) T.f_sorted (by decide +kernel) (pa_cons (pv 3) pa_nil)) rfl)
      (pss_one (ps_fld (pv 0) (pe_callB (call_sortedD rfl) (by rfl) T.f_sorted (by decide +kernel) (pa_cons (pv 4) pa_nil)) rfl)))))))), ?_⟩
    obtain ⟨vs, ev, prT⟩ := id hT
    have hvl : vs.length = ts.length := prT.length
    refine ⟨_, rfl, _, rfl, g, _, dx, _, rfl, eg, T.c_Graph, T.n_Graph_schema, by decide, ?_⟩
    have k1 : Kp (Only g) H (upd H g (.ins (He.ga K "Graph") dx (putF "schema" (.ref a) []))) := Kp.put eg nt_ins rfl
    have e1 : (upd H g (.ins (He.ga K "Graph") dx (putF "schema" (.ref a) []))) g = some (.ins (He.ga K "Graph") dx [("schema", .ref a)]) := upd_same
    have hS1 := hS.kp k1 (ins_tup eg)
    generalize hH1 : upd H g (.ins (He.ga K "Graph") dx (putF "schema" (.ref a) [])) = H1 at k1 e1 hS1
    refine ⟨_, rfl, a, S0, rfl, hS1, S0_str, fun H2 st k2 est => ?_⟩
    have e2 := k2.ins0 e1
    refine ⟨_, rfl, g, _, dx, _, rfl, e2, T.c_Graph, T.n_Graph_strata, by show 1 < 1000; decide, ?_⟩
    have k3 : Kp (Only g) H2 (upd H2 g (.ins (He.ga K "Graph") dx (putF "strata" (.ref st) [("schema", .ref a)]))) := Kp.put e2 nt_ins rfl
    have e3 : (upd H2 g (.ins (He.ga K "Graph") dx (putF "strata" (.ref st) [("schema", .ref a)]))) g = some (.ins (He.ga K "Graph") dx [("schema", .ref a), ("strata", .ref st)]) := upd_same
    have est3 : (upd H2 g (.ins (He.ga K "Graph") dx (putF "strata" (.ref st) [("schema", .ref a)]))) st = some (.dT (enc (flatS S0) (lev S0))) := o2 est (ne_of est e2 fun z => by cases z)
    have k03 := k1.trans (k2.any.trans k3)
    generalize hH3 : upd H2 g (.ins (He.ga K "Graph") dx (putF "strata" (.ref st) [("schema", .ref a)])) = H3 at k03 e3 est3
    refine fun sb hsb => ?_
    have e4 : upd H3 sb (.dT []) g = some (.ins (He.ga K "Graph") dx [("schema", .ref a), ("strata", .ref st)]) := o1 e3 hsb
    refine ⟨_, rfl, g, _, dx, _, rfl, e4, T.c_Graph, T.n_Graph_subjects, by show 2 < 1000; decide, ?_⟩
    have nsb : sb ≠ g := ne_of_none e3 hsb |>.symm
    have k5 : Kp (Only g) H (upd (upd H3 sb (.dT [])) g (.ins (He.ga K "Graph") dx (putF "subjects" (.ref sb) [("schema", .ref a), ("strata", .ref st)]))) := (k03.trans (Kp.new hsb)).trans (Kp.put e4 nt_ins rfl)
    have e5 : (upd (upd H3 sb (.dT [])) g (.ins (He.ga K "Graph") dx (putF "subjects" (.ref sb) [("schema", .ref a), ("strata", .ref st)]))) g = some (.ins (He.ga K "Graph") dx [("schema", .ref a), ("strata", .ref st), ("subjects", .ref sb)]) := upd_same
    have esb5 : (upd (upd H3 sb (.dT [])) g (.ins (He.ga K "Graph") dx (putF "subjects" (.ref sb) [("schema", .ref a), ("strata", .ref st)]))) sb = some (.dT []) := o2 upd_same nsb
    have est5 : (upd (upd H3 sb (.dT [])) g (.ins (He.ga K "Graph") dx (putF "subjects" (.ref sb) [("schema", .ref a), ("strata", .ref st)]))) st = some (.dT (enc (flatS S0) (lev S0))) := o2 (o1 est3 hsb) (ne_of est3 e3 fun z => by cases z)
    have nst : st ≠ sb := ne_of_none est3 hsb
    have hsb0 : H sb = none := k03.fr _ hsb
    generalize hH5 : upd (upd H3 sb (.dT [])) g (.ins (He.ga K "Graph") dx (putF "subjects" (.ref sb) [("schema", .ref a), ("strata", .ref st)])) = H5 at k5 e5 esb5 est5
    refine fun od hod => fun pd hpd => ?_
    have nop : od ≠ pd := ne_of_none upd_same hpd
    have hod0 : H od = none := k5.fr _ hod
    have k6 : Kp Nil H5 (upd (upd H5 od (.dK [])) pd (.dK [])) := (Kp.new hod).trans (Kp.new hpd)
    have hpd0 : H pd = none := k5.fr _ (f1 hpd)
    have G0 : GI K H (upd (upd H5 od (.dK [])) pd (.dK [])) g dx a st sb od pd (2 * 0) [] [] :=
      ⟨k5.trans k6.any, k6.ins0 e5, k6.dT0 est5, ⟨[], k6.dT0 esb5, Nat.le_refl _, fun _ _ h => by cases h⟩, ⟨[], o2 upd_same nop, rfl⟩, ⟨[], upd_same, rfl⟩, .nil, .nil, (fun _ h => by cases h), (fun _ h => by cases h)⟩
    have ltup : TupFree (Only g) H := ins_tup eg
    have llst : LstFree (Only g) H := ins_lst eg
    refine ⟨_, rfl, l, rfl, ⟨_, SqL.of (G0.k.old _ _ ev (llst _ _ ev) nt_lst)⟩, ?_⟩
    refine for_it (walk_list (K := K) (a := l) (xs := vs)) (fun i σ H' => ∃ os ps x5 x6 x7, GI K H H' g dx a st sb od pd (2 * i) os ps ∧ σ = [some (.ref g), some (.ref a), some (.ref l), some (.ref od), some (.ref pd), x5, x6, x7])
      ⟨[], [], _, _, _, G0, rfl⟩ (fun i σ H' _ ⟨_, _, _, _, _, G, _⟩ => SqL.of (G.k.old _ _ ev (llst _ _ ev) nt_lst)) (fun i x σ H6 H7 hi p y => ?_) fun σ H' p => ?_
    · obtain ⟨os, ps, x5, x6, x7, G, rfl⟩ := p
      obtain ⟨rfl, hx⟩ := y
      obtain ⟨t, ht, tp, rfl, etp⟩ := pair_get prT hx
      have hu := in_U t (hU t (List.mem_of_getElem? ht))
      have hcf := conf_U t (hU t (List.mem_of_getElem? ht))
      have etp7 := G.k.tup etp (ltup _ _ etp)
      refine ⟨tp, _, rfl, SqT.of etp7, rfl, _, _, rfl, _, _, rfl, _, _, rfl, rfl, ?_⟩
      obtain ⟨kvs, ekv, hkl, hkf⟩ := id G.sub
      have hilt : i < ts.length := by omega
      refine ⟨_, rfl, g, _, dx, _, _, rfl, G.eg, T.c_Graph, T.n_Graph_subjects, rfl, sb, rfl, .inr ⟨kvs, .inl ekv⟩, _, rfl, _, rfl, by show 2 ≤ sizeLine; decide, fun kt hkt => ⟨by show 0 ≤ sizeLine; decide, fun ln hln => ?_⟩⟩
      have k8 : Kp Nil H7 (upd H7 kt (.tup [.str t.1, .str t.2.1])) := Kp.new hkt
      have k9 : Kp Nil (upd H7 kt (.tup [.str t.1, .str t.2.1])) (upd (upd H7 kt (.tup [.str t.1, .str t.2.1])) ln (.lst [])) := Kp.new hln
      have ekt : (upd (upd H7 kt (.tup [.str t.1, .str t.2.1])) ln (.lst [])) kt = some (.tup [.str t.1, .str t.2.1]) := k9.tup0 upd_same
      have eln : (upd (upd H7 kt (.tup [.str t.1, .str t.2.1])) ln (.lst [])) ln = some (.lst []) := upd_same
      have k89 := k8.trans k9
      have hln0 : H ln = none := G.k.fr _ (f1 hln)
      generalize hH9 : upd (upd H7 kt (.tup [.str t.1, .str t.2.1])) ln (.lst []) = H9 at k89 ekt eln
      have G9 := G.kp0 k89
      have ekv9 := k89.dT0 ekv
      refine ⟨kvs, key2 (t.1, t.2.1), kt, ekv9, rfl, ekt, by rw [sizeLine_eq]; omega, fun v H' => ∃ l', v = .ref l' ∧ H l' = none ∧ GI K H H' g dx a st sb od pd (2 * i + 1) os ps ∧ ∃ ws, H' l' = some (.lst ws) ∧ ws.length ≤ 100, fun v hv => ?_, fun hn => ?_, fun v H10 hp => ?_⟩
      · obtain ⟨l', ws', pps, rfl, hF, el', pr', hps', _⟩ := hkf _ v hv
        exact ⟨l', rfl, hF, G9.mono (Nat.le_succ _), ws', k89.lst0 el', by rw [pr'.length]; omega⟩
      · obtain ⟨kd, td, ld⟩ := dT_one ekv9 (.dT (putK kvs (key2 (t.1, t.2.1)) (.ref ln)))
        refine ⟨ln, rfl, hln0, ⟨G9.k.fill hsb0, o2 G9.eg (Ne.symm nsb), o2 G9.est nst, G9.sub.put ekv9 eln hln0, G9.ob.kp kd (fun z => ?_), G9.pe.kp kd (fun z => ?_), G9.ond, G9.pnd, G9.o6, G9.p3⟩, [], o2 eln (ne_of eln ekv9 fun z => by cases z), Nat.zero_le _⟩
        · have z : od = sb := z
          obtain ⟨kv, e, _⟩ := G9.ob
          rw [z, ekv9] at e
          cases e
        · have z : pd = sb := z
          obtain ⟨kv, e, _⟩ := G9.pe
          rw [z, ekv9] at e
          cases e
      · obtain ⟨l', rfl, hl'0, G10, ws, el', hwl⟩ := hp
        refine ⟨.inl ⟨rfl, _, .inl (.inl el')⟩, _, rfl, t.2.2, rfl, line5 hcf.l2, fun H11 p11 k11 hp11 e11 => ?_⟩
        have G11 := G10.kp0 k11
        have el11 := k11.lst0 el'
        refine ⟨l', ws, _, rfl, rfl, el11, by rw [sizeLine_eq]; omega, ?_⟩
        have kl : Kp (Only l') H11 (upd H11 l' (.lst (ws ++ [.ref p11]))) := Kp.put el11 nt_lst rfl
        have G12 : GI K H (upd H11 l' (.lst (ws ++ [.ref p11]))) g dx a st sb od pd (2 * (i + 1)) os ps := by
          refine ⟨G11.k.fill hl'0, o2 G11.eg (ne_of G11.eg el11 fun z => by cases z), o2 G11.est (ne_of G11.est el11 fun z => by cases z), G11.sub.app (p := [(sr t.2.2).1, (sr t.2.2).2]) el11 ⟨p11, rfl, e11⟩ ⟨_, _, rfl, hu.s⟩, G11.ob.kp kl (fun z => ?_), G11.pe.kp kl (fun z => ?_), G11.ond, G11.pnd, G11.o6, G11.p3⟩
          · have z : od = l' := z
            obtain ⟨kv, e, _⟩ := G11.ob
            rw [z, el11] at e
            cases e
          · have z : pd = l' := z
            obtain ⟨kv, e, _⟩ := G11.pe
            rw [z, el11] at e
            cases e
        generalize hH12 : upd H11 l' (.lst (ws ++ [.ref p11])) = H12 at G12
        obtain ⟨ok1, eo1, mo1⟩ := id G12.ob
        have ol1 : os.length ≤ 6 := nodup_le G12.ond G12.o6
        refine ⟨_, rfl, _, rfl, od, _, rfl, DPut.k (k := .inr t.1) eo1 (by rw [keys_len mo1, sizeLine_eq]; omega), ?_⟩
        have G13 := G12.obj hod0 (Ne.symm nop) eo1 hu.o (.bl true)
        generalize hH13 : upd H12 od (.dK (putK ok1 (.inr t.1) (.bl true))) = H13 at G13
        refine ⟨_, rfl, _, rfl, t.2.2, rfl, line5 hcf.l2, fun H14 p14 k14 hp14 e14 => ?_⟩
        have G14 := G13.kp0 k14
        obtain ⟨ok2, eo2, mo2⟩ := id G14.ob
        have ol2 : (addK os t.1).length ≤ 6 := nodup_le G14.ond G14.o6
        refine ⟨p14, _, 0, _, rfl, rfl, SqT.of e14, rfl, od, _, rfl, DPut.k (k := .inr (sr t.2.2).1) eo2 (by rw [keys_len mo2, sizeLine_eq]; omega), ?_⟩
        have G15 := G14.obj hod0 (Ne.symm nop) eo2 hu.s (.bl true)
        generalize hH15 : upd H14 od (.dK (putK ok2 (.inr (sr t.2.2).1) (.bl true))) = H15 at G15
        refine ⟨_, rfl, t.2.2, rfl, line5 hcf.l2, fun H16 p16 k16 hp16 e16 => ?_⟩
        have G16 := G15.kp0 k16
        refine ⟨p16, _, 1, _, rfl, rfl, SqT.of e16, rfl, rfl, _, rfl, itb (fun c1 => ?_) fun c1 => ?_⟩
        · have c1 : (sr t.2.2).2 = "" := V.str.inj (of_decide_eq_true c1)
          obtain ⟨pk, ep, mp⟩ := id G16.pe
          have pl : ps.length ≤ 3 := nodup_le G16.pnd G16.p3
          refine ⟨_, rfl, _, rfl, pd, _, rfl, DPut.k (k := .inr t.2.2) ep (by rw [keys_len mp, sizeLine_eq]; omega), ?_⟩
          exact ⟨_, _, _, _, _, G16.ppl hpd0 nop ep (hu.p c1) (.bl true), rfl⟩
        · exact ⟨_, _, _, _, _, G16, rfl⟩
    · obtain ⟨os, ps, x5, x6, x7, G, rfl⟩ := p
      have ol : os.length ≤ 6 := nodup_le G.ond G.o6
      have pl : ps.length ≤ 3 := nodup_le G.pnd G.p3
      obtain ⟨ok1, eo1, mo1⟩ := id G.ob
      refine ⟨_, rfl, od, ok1, os, rfl, .inl eo1, mo1, by omega, fun os2 lo po _ hlo => ?_⟩
      have G1 : GI K H (upd H' lo (.lst (os2.map V.str))) g dx a st sb od pd (2 * vs.length) os ps := G.kp0 (Kp.new hlo)
      have elo : (upd H' lo (.lst (os2.map V.str))) lo = some (.lst (os2.map V.str)) := upd_same
      generalize hH1 : upd H' lo (.lst (os2.map V.str)) = H17 at G1 elo
      refine ⟨_, rfl, g, _, dx, _, rfl, G1.eg, T.c_Graph, T.n_Graph_objects, by show 3 < 1000; decide, ?_⟩
      have ngl : lo ≠ g := ne_of elo G1.eg fun z => by cases z
      have kg : Kp (Only g) H17 (upd H17 g (.ins (He.ga K "Graph") dx (putF "objects" (.ref lo) [("schema", .ref a), ("strata", .ref st), ("subjects", .ref sb)]))) := Kp.put G1.eg nt_ins rfl
      have tg : TupFree (Only g) H17 := ins_tup G1.eg
      have lg : LstFree (Only g) H17 := ins_lst G1.eg
      have eg2 : (upd H17 g (.ins (He.ga K "Graph") dx (putF "objects" (.ref lo) [("schema", .ref a), ("strata", .ref st), ("subjects", .ref sb)]))) g = some (.ins (He.ga K "Graph") dx [("schema", .ref a), ("strata", .ref st), ("subjects", .ref sb), ("objects", .ref lo)]) := upd_same
      have est2 : (upd H17 g (.ins (He.ga K "Graph") dx (putF "objects" (.ref lo) [("schema", .ref a), ("strata", .ref st), ("subjects", .ref sb)]))) st = _ := o2 G1.est (ne_of G1.est G1.eg fun z => by cases z)
      have sub2 := G1.sub.kp kg tg lg nsb
      have pe2 := G1.pe.kp kg (fun (z : pd = g) => by
        obtain ⟨kv, e, _⟩ := G1.pe
        rw [z, G1.eg] at e
        cases e)
      have elo2 : (upd H17 g (.ins (He.ga K "Graph") dx (putF "objects" (.ref lo) [("schema", .ref a), ("strata", .ref st), ("subjects", .ref sb)]))) lo = _ := o2 elo ngl
      have kk := G1.k.trans kg
      generalize hH18 : upd H17 g (.ins (He.ga K "Graph") dx (putF "objects" (.ref lo) [("schema", .ref a), ("strata", .ref st), ("subjects", .ref sb)])) = H18 at kg eg2 est2 sub2 pe2 elo2 kk
      obtain ⟨pk, ep, mp⟩ := id pe2
      refine ⟨_, rfl, pd, pk, ps, rfl, .inl ep, mp, by omega, fun ps2 lp pp _ hlp => ?_⟩
      have k19 : Kp Nil H18 (upd H18 lp (.lst (ps2.map V.str))) := Kp.new hlp
      have elp : (upd H18 lp (.lst (ps2.map V.str))) lp = some (.lst (ps2.map V.str)) := upd_same
      generalize hH19 : upd H18 lp (.lst (ps2.map V.str)) = H19 at k19 elp
      have eg19 := k19.ins0 eg2
      refine ⟨_, rfl, g, _, dx, _, rfl, eg19, T.c_Graph, T.n_Graph_people, by show 4 < 1000; decide, ?_⟩
      have kz : Kp (Only g) H19 (upd H19 g (.ins (He.ga K "Graph") dx (putF "people" (.ref lp) [("schema", .ref a), ("strata", .ref st), ("subjects", .ref sb), ("objects", .ref lo)]))) := Kp.put eg19 nt_ins rfl
      have kf := kk.trans (k19.any.trans kz)
      refine q _ kf ⟨⟨dx, a, st, sb, lo, lp, os2, ps2, upd_same, hS.kp kf ltup, o2 (k19.dT0 est2) (ne_of est2 eg2 fun z => by cases z), ?_, o2 (k19.lst0 elo2) ngl, fun z hz => G.o6 z (po.mem_iff.mp hz), by rw [po.length_eq]; omega, o2 elp (ne_of elp eg19 fun z => by cases z), fun z hz => G.p3 z (pp.mem_iff.mp hz), by rw [pp.length_eq]; omega⟩⟩
      exact ((sub2.kp k19 tupFree_nil lstFree_nil id).kp kz (ins_tup eg19) (ins_lst eg19) nsb).mono (by omega) fun _ _ => trivial
end
end Au
/-! Authsync: the methods of Graph; count_of, least, both. -/
namespace Au
open PySem PySem.Spec PyProof.Rows L2
/-- a list of pairs -/
def PrsAt (H : Hp) (v : V) : Prop := ∃ l ws ps, v = .ref l ∧ H l = some (.lst ws) ∧ Paired (PartAt H) ws ps ∧ ps.length ≤ 100 ∧ ∀ p ∈ ps, PairOk p
theorem PrsAt.kp0 {H H' : Hp} (k : Kp Nil H H') {v : V} (h : PrsAt H v) : PrsAt H' v := by
  obtain ⟨l, ws, ps, rfl, e, pr, a, b⟩ := h
  exact ⟨l, ws, ps, rfl, k.lst0 e, Paired.mapP pr fun _ _ z => z.kp0 k, a, b⟩
def OptInt (x : V) : Prop := x = .non ∨ ∃ i, x = .int i
theorem enc_val {E : List KE} {f : Lev} {k : List Key} {v : V} (h : valV (enc E f) k = some v) : ∃ i, v = .int i := by
  induction E with
  | nil => cases h
  | cons t E ih =>
    by_cases e : key2 (keyE t) = k
    · have h : valV ((key2 (keyE t), V.int (f (keyE t))) :: enc E f) k = some v := h
      rw [valV_pos e] at h
      exact ⟨_, (Option.some.inj h).symm⟩
    · have h : valV ((key2 (keyE t), V.int (f (keyE t))) :: enc E f) k = some v := h
      rw [valV_neg e] at h
      exact ih h
def spSubs (K : PySem.W.Frag) : Sp := fun vs H Q _ => ∃ g d n, vs = [.ref g, .str d, .str n] ∧ GraphAt K H g ∧ ∀ H' v, Kp Nil H H' → PrsAt H' v → Q v H'
section
variable {P : Program} {w : World} {K : PySem.W.Frag} {mg : Str → Option Value} {base : Heap}
theorem sc_subjects_of : FnScope ["self", "target", "relation"] ["self", "target", "relation"] (defScope s_Graph_subjects_of) := ⟨rfl, rfl, rfl, by decide +kernel, rfl, by decide +kernel, by decide +kernel⟩
theorem ok_subjects_of (T : Top K mg base) : Cal P w K mg base CX0 1 ("Graph", some "subjects_of") ["self", "target", "relation"] (spSubs K) := by
  obtain ⟨fd, F⟩ := T.d_Graph_subjects_of
  refine ⟨⟨fd, FunD.ok F sc_subjects_of (fun vs H Q E h => ?_) (fun cdv A outer s H vs Q E hr h => ?_), FunD.bindsN F fun _ _ _ _ _ _ us hl => match us, hl with | [_, _, _], _ => rfl⟩, F.kp⟩
  · obtain ⟨g, d, n, rfl, _⟩ := h
    rfl
  · obtain ⟨g, d, n, rfl, hG, q⟩ := h
    refine ⟨_, pss_one (ps_ret (pe_dget2 hr.u1 (pe_fld (pv 0) rfl) (pe_tup (pa_cons (pv 1) (pa_cons (pv 2) pa_nil))) (pe_lst pa_nil) ⟨rfl, rfl, rfl, rfl⟩)), ?_⟩
    obtain ⟨dx, sc, st, sb, ob, pe, os, ps, e, hs, e2, hb, e3, o1, o2, e4, p1, p2⟩ := hG.ex
    obtain ⟨kvs, ek, hkl, hkf⟩ := hb
    refine ⟨_, rfl, g, _, dx, _, _, rfl, e, T.c_Graph, T.n_Graph_subjects, rfl, sb, rfl, .inr ⟨kvs, .inl ek⟩, _, rfl, _, rfl, by show 2 ≤ sizeLine; decide, fun kt hkt => ⟨by show 0 ≤ sizeLine; decide, fun ln hln => ?_⟩⟩
    have k1 : Kp Nil H (upd H kt (.tup [.str d, .str n])) := Kp.new hkt
    have k2 : Kp Nil (upd H kt (.tup [.str d, .str n])) (upd (upd H kt (.tup [.str d, .str n])) ln (.lst [])) := Kp.new hln
    have k12 := k1.trans k2
    refine ⟨valV kvs (key2 (d, n)), DGet.t (k12.dT0 ek) (k2.tup0 upd_same), ?_⟩
    cases hv : valV kvs (key2 (d, n)) with
    | none => exact q _ _ k12 ⟨ln, [], [], rfl, upd_same, .nil, Nat.zero_le _, fun _ h => by cases h⟩
    | some v =>
      obtain ⟨l, ws, ps, rfl, _, el, pr, hl, hok⟩ := hkf _ _ hv
      exact q _ _ k12 ⟨l, ws, ps, rfl, k12.lst0 el, Paired.mapP pr fun _ _ z => z.kp0 k12, hl, hok⟩
/-! ### stratum_of -/
def spStr (K : PySem.W.Frag) : Sp := fun vs H Q _ => ∃ g d n, vs = [.ref g, .str d, .str n] ∧ GraphAt K H g ∧ d.length ≤ 1000 ∧ ∀ H' i, Kp Nil H H' → Q (.int i) H'
theorem sc_stratum_of : FnScope ["self", "target", "name"] ["self", "target", "name"] (defScope s_Graph_stratum_of) := ⟨rfl, rfl, rfl, by decide +kernel, rfl, by decide +kernel, by decide +kernel⟩
theorem ok_stratum_of (T : Top K mg base) : Cal P w K mg base CX0 2 ("Graph", some "stratum_of") ["self", "target", "name"] (spStr K) := by
  obtain ⟨fd, F⟩ := T.d_Graph_stratum_of
  have cs := ok_type_of (P := P) (w := w) T
  obtain ⟨fd1, F1, b1⟩ := cs.ex
  refine ⟨⟨fd, FunD.ok F sc_stratum_of (fun vs H Q E h => ?_) (fun cdv A outer s H vs Q E hr h => ?_), FunD.bindsN F fun _ _ _ _ _ _ us hl => match us, hl with | [_, _, _], _ => rfl⟩, F.kp⟩
  · obtain ⟨g, d, n, rfl, _⟩ := h
    rfl
  · obtain ⟨g, d, n, rfl, hG, hd, q⟩ := h
    refine ⟨_, pss_one (ps_ret (pe_dget2 hr.u1 (pe_fld (pv 0) rfl) (pe_tup (pa_cons (pe_call F1 hr rfl T.g_type_of cs.kp b1 .nil pass0 (pa_cons (pv 1) pa_nil)) (pa_cons (pv 2) pa_nil))) (pe_un un_neg pe_int) ⟨rfl, rfl, rfl, rfl⟩)), ?_⟩
    obtain ⟨dx, sc, st, sb, ob, pe, os, ps, e, hs, e2, hb, e3, o1, o2, e4, p1, p2⟩ := hG.ex
    refine ⟨_, rfl, g, _, dx, _, _, rfl, e, T.c_Graph, T.n_Graph_strata, rfl, st, rfl, .inr ⟨_, .inl e2⟩, _, rfl, d, rfl, line5 hd, fun H1 k1 => ⟨_, rfl, by show 2 ≤ sizeLine; decide, fun kt hkt => ⟨_, rfl, ?_⟩⟩⟩
    have k2 : Kp Nil H1 (upd H1 kt (.tup [.str (ty d), .str n])) := Kp.new hkt
    have k12 := k1.trans k2
    refine ⟨valV (enc (flatS S0) (lev S0)) (key2 (ty d, n)), DGet.t (k12.dT0 e2) upd_same, ?_⟩
    cases hv : valV (enc (flatS S0) (lev S0)) (key2 (ty d, n)) with
    | none => exact q _ _ k12
    | some v =>
      obtain ⟨i, rfl⟩ := enc_val hv
      exact q _ _ k12
/-! ### pairs_of -/
def spPairs (K : PySem.W.Frag) : Sp := fun vs H Q _ => ∃ g d v op n, vs = [.ref g, .str d, v] ∧ PartAt H v [op, ("" : Str), n] ∧ d ∈ O6 ∧ ∀ H' v, Kp Nil H H' → PrsAt H' v → Q v H'
theorem sc_pairs_of : FnScope ["self", "target", "part", "operator", "relation", "name", "found", "other", "other_name"] ["self", "target", "part"] (defScope s_Graph_pairs_of) := ⟨rfl, rfl, rfl, by decide +kernel, rfl, by decide +kernel, by decide +kernel⟩
theorem ok_pairs_of (T : Top K mg base) : Cal P w K mg base CX0 1 ("Graph", some "pairs_of") ["self", "target", "part"] (spPairs K) := by
  obtain ⟨fd, F⟩ := T.d_Graph_pairs_of
  refine ⟨⟨fd, FunD.ok F sc_pairs_of (fun vs H Q E h => ?_) (fun cdv A outer s H vs Q E hr h => ?_), FunD.bindsN F fun _ _ _ _ _ _ us hl => match us, hl with | [_, _, _], _ => rfl⟩, F.kp⟩
  · obtain ⟨g, d, v, op, n, rfl, _⟩ := h
    rfl
  · obtain ⟨g, d, v, op, n, rfl, ⟨r, rfl, er⟩, hd, q⟩ := h
    have nd := sc_pairs_of.nd
    refine ⟨_, pss_cons (ps_asg (pv 2) (pg_tup rfl (pgs_cons (pg_name (i := 3) nd rfl (.inl rfl)) (pgs_cons (pg_name (i := 4) nd rfl (.inl rfl)) (pgs_cons (pg_name (i := 5) nd rfl (.inl rfl)) pgs_nil)))))
      (pss_cons (ps_if (pt_cmpR op_eq (pv 4) pe_str (nomark _)) (pss_one (ps_ret (pe_lst (pa_cons (pe_tup (pa_cons (pv 1) (pa_cons (pv 5) pa_nil))) pa_nil)))) pss_nil) pss_never), ?_⟩
    refine ⟨_, rfl, r, _, rfl, SqT.of er, rfl, _, _, rfl, _, _, rfl, _, _, rfl, rfl, ?_⟩
    refine ⟨_, rfl, rfl, _, rfl, iteT ⟨_, rfl, _, rfl, by show 2 ≤ sizeLine; decide, fun p hp => ⟨by show 1 ≤ sizeLine; decide, fun l hl => ?_⟩⟩⟩
    have k1 : Kp Nil H (upd H p (.tup [.str d, .str n])) := Kp.new hp
    have k2 : Kp Nil (upd H p (.tup [.str d, .str n])) (upd (upd H p (.tup [.str d, .str n])) l (.lst [.ref p])) := Kp.new hl
    exact q _ _ (k1.trans k2) ⟨l, _, [[d, n]], rfl, upd_same, .cons ⟨p, rfl, k2.tup0 upd_same⟩ .nil, by show 1 ≤ 100; decide, fun x hx => by rw [List.mem_singleton.mp hx]; exact ⟨d, n, rfl, hd⟩⟩
/-! ### depends_on -/
def spDep (K : PySem.W.Frag) : Sp := fun vs H Q _ => ∃ g d n e, vs = [.ref g, .str d, .str n] ∧ GraphAt K H g ∧ d.length ≤ 1000 ∧ findE S0 (ty d) n = some e ∧ e.rel = true ∧ ∀ H' v, Kp Nil H H' → PrsAt H' v → Q v H'
theorem sc_depends_on : FnScope ["self", "target", "name", "found", "pairs", "part", "pair"] ["self", "target", "name"] (defScope s_Graph_depends_on) := ⟨rfl, rfl, rfl, by decide +kernel, rfl, by decide +kernel, by decide +kernel⟩
theorem ok_depends_on (T : Top K mg base) : Cal P w K mg base CX0 3 ("Graph", some "depends_on") ["self", "target", "name"] (spDep K) := by
  obtain ⟨fd, F⟩ := T.d_Graph_depends_on
  have cs := ok_type_of (P := P) (w := w) T
  obtain ⟨fd1, F1, b1⟩ := cs.ex
  have cs2 := ok_definition (P := P) (w := w) T
  obtain ⟨fd2, F2, b2⟩ := cs2.ex
  have cs3 := ok_subjects_of (P := P) (w := w) T
  obtain ⟨fd3, F3, b3⟩ := cs3.ex
  refine ⟨⟨fd, FunD.ok F sc_depends_on (fun vs H Q E h => ?_) (fun cdv A outer s H vs Q E hr h => ?_), FunD.bindsN F fun _ _ _ _ _ _ us hl => match us, hl with | [_, _, _], _ => rfl⟩, F.kp⟩
  · obtain ⟨g, d, n, e, rfl, _⟩ := h
    rfl
  · obtain ⟨g, d, n, en, rfl, hG, hd, hf, hrel, q⟩ := h
    have nd := sc_depends_on.nd
    refine ⟨_, pss_cons (ps_set (i := 3) nd rfl (.inl rfl) (pe_call F2 hr rfl T.g_definition cs2.kp b2 .nil pass0 (pa_cons (pe_fld (pv 0) rfl) (pa_cons (pe_call F1 (hr.mono (by decide)) rfl T.g_type_of cs.kp b1 .nil pass0 (pa_cons (pv 1) pa_nil)) (pa_cons (pv 2) pa_nil)))))
      (pss_cons (ps_if (pt_cmp (pc_isN (pv 3))) (pss_one ps_never) pss_nil)
      (pss_cons (ps_if (pt_cmpR op_eq (pe_ix ix_tup (pv 3) pe_int (fun _ _ => rfl)) pe_str (nomark _))
        (pss_one (ps_ret (pe_lc (tt := tTest (tOp rNe (tOp (rIxT K) (tVar 6) (tC (.int 1))) (tC (.str "")))) (own := [("pair", 6)]) rfl nd (pi_list (pe_meth (pv 0) T.c_Graph T.m_Graph_subjects_of F3 (hr.mono (by decide)) b3 .nil pass0 (pa_cons (pv 1) (pa_cons (pv 2) pa_nil))))
          (blkOk_by (N := ["self", "target", "name", "found", "pairs", "part", "pair"]) (sc := defScope s_Graph_depends_on) (by decide +kernel))
          (fun _ _ _ _ _ => pg_name (i := 6) nd rfl (.inl rfl)) (fun _ _ _ _ _ => pts_one (pt_cmpR op_ne (pe_ix ix_tup (pv 6) pe_int (fun _ _ => rfl)) pe_str (nomark _))) (fun _ _ _ _ _ => pv 6)))) pss_nil) pss_never)), ?_⟩
    obtain ⟨dx, sc, st, sb, ob, pe, os, ps, e, hs, e2, hb, e3, o1, o2, e4, p1, p2⟩ := hG.ex
    refine ⟨_, rfl, g, _, dx, _, _, rfl, e, T.c_Graph, T.n_Graph_schema, rfl, _, rfl, d, rfl, line5 hd, fun H1 k1 => ⟨_, rfl, sc, S0, ty d, n, rfl, hs.kp0 k1, fun H2 k2 => ⟨fun z => ?_, fun v e' z hdf => ?_⟩⟩⟩
    · rw [hf] at z
      cases z
    · obtain rfl : en = e' := Option.some.inj (hf.symm.trans z)
      obtain ⟨p, c, ws, rfl, ep, _, _⟩ := hdf
      refine ⟨_, rfl, _, rfl, iteF ⟨_, rfl, p, _, 0, _, rfl, rfl, SqT.of ep, rfl, rfl, _, rfl, iteY ?_ ?_⟩⟩
      · unfold Ent.kind
        rw [if_pos hrel]
        exact decide_eq_true rfl
      have k12 := k1.trans k2
      refine ⟨_, rfl, g, dx, _, rfl, k12.ins0 e, rfl, _, rfl, _, rfl, g, d, n, rfl, hG.kp0 k12, fun H3 v k3 hv => ?_⟩
      obtain ⟨l, ws, pps, rfl, el, pr, hl, hok⟩ := hv
      have hwl : ws.length = pps.length := pr.length
      refine ⟨l, rfl, ⟨_, SqL.of el⟩, fun D hD => ?_⟩
      refine lc_sel (walk_list (K := K) (a := l) (xs := ws)) PartAt PartAt.stays (fun i => pps[i]?.bind fun t => if t.getD 1 "" = "" then none else some t) hD (by omega) (fun H' k' => SqL.of (k'.lst0 el)) (fun i x H4 H5 N M hi k4 y hN hM => ?_) fun H4 ys k4 hd4 pr4 => ?_
      · obtain ⟨rfl, hx⟩ := y
        obtain ⟨pp, hpp, u, rfl, eu⟩ := pair_get pr hx
        obtain ⟨o, m, rfl, _⟩ := hok pp (List.mem_of_getElem? hpp)
        rw [hpp] at hN hM
        have eu4 := k4.tup0 eu
        refine ⟨rfl, _, rfl, u, _, 1, _, rfl, rfl, SqT.of eu4, rfl, rfl, _, rfl, itb (fun c2 => ?_) fun c2 => ?_⟩
        · have c2 : ¬ m = "" := fun z => by rw [z] at c2; simp at c2
          exact ⟨_, rfl, hN _ _ [o, m] Kp.refl (if_neg c2) ⟨u, rfl, eu4⟩⟩
        · have c2 : m = "" := by
            by_cases z : m = ""
            · exact z
            · rw [decide_eq_false fun q => z (V.str.inj q)] at c2
              cases c2
          exact hM H5 Kp.refl (if_pos c2)
      · rw [hwl, range_sel] at pr4
        refine q H4 _ (k12.trans (k3.trans k4)) ⟨D, ys, _, rfl, hd4, pr4, Nat.le_trans (List.length_filterMap_le _ _) hl, fun x hx => ?_⟩
        obtain ⟨y, hy, e⟩ := List.mem_filterMap.mp hx
        split at e
        · cases e
        · rw [← Option.some.inj e]
          exact hok y hy
/-! ### count_of -/
/-- the ranks found -/
structure RanksAt (H : Hp) (r : Addr) (zs : List (Str × Str)) : Prop where
  ex : ∃ kvs : List (List Key × V), H r = some (.dT kvs) ∧ kvs.map (·.1) = zs.map key2 ∧ ∀ k v, valV kvs k = some v → ∃ i, v = .int i
theorem RanksAt.kp {S : Addr → Prop} {H H' : Hp} (k : Kp S H H') {r : Addr} (n : ¬ S r) {zs : List (Str × Str)} (h : RanksAt H r zs) : RanksAt H' r zs := by
  obtain ⟨kvs, e, m, f⟩ := h.ex
  exact ⟨⟨kvs, k.old _ _ e n nt_dT, m, f⟩⟩
def spCount (K : PySem.W.Frag) : Sp := fun vs H Q _ => ∃ g d n v r o m zs, vs = [.ref g, .str d, .str n, v, .ref r] ∧ GraphAt K H g ∧ d.length ≤ 1000 ∧ PartAt H v [o, m] ∧ o ∈ O6 ∧ RanksAt H r zs ∧ ∀ H' x, Kp Nil H H' → OptInt x → Q x H'
theorem sc_count_of : FnScope ["graph", "target", "name", "pair", "ranks", "rank"] ["graph", "target", "name", "pair", "ranks"] (defScope s_count_of) := ⟨rfl, rfl, rfl, by decide +kernel, rfl, by decide +kernel, by decide +kernel⟩
theorem ok_count_of (T : Top K mg base) : Cal P w K mg base CX0 3 ("count_of", none) ["graph", "target", "name", "pair", "ranks"] (spCount K) := by
  obtain ⟨fd, F⟩ := T.d_count_of
  have cs := ok_stratum_of (P := P) (w := w) T
  obtain ⟨fd1, F1, b1⟩ := cs.ex
  refine ⟨⟨fd, FunD.ok F sc_count_of (fun vs H Q E h => ?_) (fun cdv A outer s H vs Q E hr h => ?_), FunD.bindsN F fun _ _ _ _ _ _ us hl => match us, hl with | [_, _, _, _, _], _ => rfl⟩, F.kp⟩
  · obtain ⟨g, d, n, v, r, o, m, zs, rfl, _⟩ := h
    rfl
  · obtain ⟨g, d, n, v, r, o, m, zs, rfl, hG, hd, ⟨u, rfl, eu⟩, ho, hR, q⟩ := h
    have nd := sc_count_of.nd
    refine ⟨_, pss_cons (ps_set (i := 5) nd rfl (.inl rfl) (pe_dget2 hr.u1 (pv 4) (pv 3) pe_int ⟨rfl, rfl, rfl, rfl⟩))
      (pss_cons (ps_if (pt_cmpR op_eq (pv 5) pe_int (nomark _)) (pss_one (ps_ret pe_non)) pss_nil)
      (pss_one (ps_ret (pe_ifExp (pt_cmpR op_eq (pe_meth (pv 0) T.c_Graph T.m_Graph_stratum_of F1 hr b1 .nil pass0 (pa_cons (pe_ix ix_tup (pv 3) pe_int (fun _ _ => rfl)) (pa_cons (pe_ix ix_tup (pv 3) pe_int (fun _ _ => rfl)) pa_nil)))
        (pe_meth (pv 0) T.c_Graph T.m_Graph_stratum_of F1 hr b1 .nil pass0 (pa_cons (pv 1) (pa_cons (pv 2) pa_nil))) (nomark _)) (pv 5) pe_int)))), ?_⟩
    obtain ⟨dx, sc, st, sb, ob, pe, os, ps, e, _⟩ := hG.ex
    obtain ⟨kvs, ek, _, hkf⟩ := hR.ex
    refine ⟨_, rfl, r, rfl, .inr ⟨_, .inl ek⟩, _, rfl, valV kvs (key2 (o, m)), DGet.t ek eu, ?_⟩
    have ⟨i, ei⟩ : ∃ i, (valV kvs (key2 (o, m))).getD (.int 0) = .int i := by
      cases hv : valV kvs (key2 (o, m)) with
      | none => exact ⟨0, rfl⟩
      | some v => exact hkf _ _ hv
    rw [ei]
    refine ⟨_, rfl, rfl, _, rfl, itb (fun c1 => ?_) fun c1 => ?_⟩
    · exact q H _ Kp.refl (.inl rfl)
    · refine ⟨_, rfl, g, dx, _, rfl, e, rfl, _, rfl, u, _, 0, _, rfl, rfl, SqT.of eu, rfl, _, rfl, u, _, 1, _, rfl, rfl, SqT.of eu, rfl, g, o, m, rfl, hG, O6_len o ho, fun H1 i1 k1 => ?_⟩
      refine ⟨_, rfl, g, dx, _, rfl, k1.ins0 e, rfl, _, rfl, _, rfl, g, d, n, rfl, hG.kp0 k1, hd, fun H2 i2 k2 => ⟨rfl, _, rfl, itb (fun c2 => ?_) fun c2 => ?_⟩⟩
      · exact ⟨_, rfl, q H2 _ (k1.trans k2) (.inr ⟨_, rfl⟩)⟩
      · exact q H2 _ (k1.trans k2) (.inr ⟨_, rfl⟩)
/-! ### least, both -/
def spLeast : Sp := fun vs H Q _ => ∃ l xs, vs = [.ref l] ∧ H l = some (.lst xs) ∧ (∀ x ∈ xs, OptInt x) ∧ xs.length ≤ 1000 ∧ ∀ H' x, Kp Nil H H' → OptInt x → Q x H'
theorem sc_least : FnScope ["counts", "count"] ["counts"] (defScope s_least) := ⟨rfl, rfl, rfl, by decide +kernel, rfl, by decide +kernel, by decide +kernel⟩
def intOf : V → Option Int
  | .int i => some i
  | _ => none
theorem ok_least (T : Top K mg base) : Cal P w K mg base CX0 1 ("least", none) ["counts"] spLeast := by
  obtain ⟨fd, F⟩ := T.d_least
  refine ⟨⟨fd, FunD.ok F sc_least (fun vs H Q E h => ?_) (fun cdv A outer s H vs Q E hr h => ?_), FunD.bindsN F fun _ _ _ _ _ _ us hl => match us, hl with | [_], _ => rfl⟩, F.kp⟩
  · obtain ⟨l, xs, rfl, _⟩ := h
    rfl
  · obtain ⟨l, xs, rfl, el, hx, hl, q⟩ := h
    have nd := sc_least.nd
    refine ⟨_, pss_one (ps_ret (pe_callBK (cr_minD rfl hr.units) (by rfl) T.f_min (by decide +kernel) (pa_cons (pe_lc (own := [("count", 1)]) rfl nd (pi_list (pv 0)) (blkOk_by (N := ["counts", "count"]) (sc := defScope s_least) (by decide +kernel))
        (fun _ _ _ _ _ => pg_name (i := 1) nd rfl (.inl rfl)) (fun _ _ _ _ _ => pts_one (pt_cmp (pc_notN (pv 1)))) (fun _ _ _ _ _ => pv 1)) pa_nil) (pk_cons pe_non pk_nil))), ?_⟩
    refine ⟨_, rfl, l, rfl, ⟨_, SqL.of el⟩, fun D hD => ?_⟩
    refine lc_sel (walk_list (K := K) (a := l) (xs := xs)) IntAt (fun _ _ _ _ _ _ _ z => z) (fun i => xs[i]?.bind intOf) hD (by omega) (fun H' k' => SqL.of (k'.lst0 el)) (fun i x H1 H2 N M hi k1 y hN hM => ?_) fun H1 ys k1 hd pr => ?_
    · obtain ⟨rfl, hxi⟩ := y
      rw [hxi] at hN hM
      refine ⟨rfl, _, rfl, _, rfl, ?_⟩
      rcases hx x (List.mem_of_getElem? hxi) with rfl | ⟨j, rfl⟩
      · exact iteF (hM H2 Kp.refl rfl)
      · exact iteT ⟨_, rfl, hN _ _ j Kp.refl rfl rfl⟩
    · rw [range_sel] at pr
      have := ints_are pr
      rw [this] at hd
      refine ⟨D, xs.filterMap intOf, .non, rfl, rfl, SqL.of hd, fun _ => q H1 _ k1 (.inl rfl), fun n r _ => q H1 _ k1 (.inr ⟨_, rfl⟩)⟩
def spBoth : Sp := fun vs H Q _ => ∃ op x y, vs = [.str op, x, y] ∧ (op = "|" ∨ op = "-") ∧ OptInt x ∧ OptInt y ∧ ∀ H' x, Kp Nil H H' → OptInt x → Q x H'
theorem sc_both : FnScope ["operator", "one", "other"] ["operator", "one", "other"] (defScope s_both) := ⟨rfl, rfl, rfl, by decide +kernel, rfl, by decide +kernel, by decide +kernel⟩
theorem ok_both (T : Top K mg base) : Cal P w K mg base CX0 2 ("both", none) ["operator", "one", "other"] spBoth := by
  obtain ⟨fd, F⟩ := T.d_both
  have cs := ok_least (P := P) (w := w) T
  obtain ⟨fd1, F1, b1⟩ := cs.ex
  refine ⟨⟨fd, FunD.ok F sc_both (fun vs H Q E h => ?_) (fun cdv A outer s H vs Q E hr h => ?_), FunD.bindsN F fun _ _ _ _ _ _ us hl => match us, hl with | [_, _, _], _ => rfl⟩, F.kp⟩
  · obtain ⟨op, x, y, rfl, _⟩ := h
    rfl
  · obtain ⟨op, x, y, rfl, hop, hx, hy, q⟩ := h
    refine ⟨_, pss_cons (ps_if (pt_cmpR op_eq (pv 0) pe_str (nomark _)) (pss_one (ps_ret (pe_call F1 hr rfl T.g_least cs.kp b1 .nil pass0 (pa_cons (pe_lst (pa_cons (pv 1) (pa_cons (pv 2) pa_nil))) pa_nil)))) pss_nil)
      (pss_cons (ps_if (pt_cmpR op_eq (pv 0) pe_str (nomark _)) (pss_one (ps_ret (pe_ifExp (pt_cmp (pc_isN (pv 2))) (pv 1) pe_non))) pss_nil) pss_never), ?_⟩
    refine ⟨_, rfl, rfl, _, rfl, itb (fun c1 => ?_) fun c1 => ?_⟩
    · refine ⟨_, rfl, _, rfl, by show 2 ≤ sizeLine; decide, fun l hl => ⟨l, _, rfl, upd_same, fun z hz => ?_, by show 2 ≤ 1000; decide, fun H' x k hx => q H' x ((Kp.new hl).trans k) hx⟩⟩
      rcases List.mem_cons.mp hz with hz | hz
      · rw [hz]; exact hx
      · rw [List.mem_singleton.mp hz]; exact hy
    · have hop2 : op = "-" := by
        rcases hop with h | h
        · rw [h] at c1; simp at c1
        · exact h
      refine ⟨_, rfl, rfl, _, rfl, iteY (by rw [hop2]; exact decide_eq_true rfl) ⟨_, rfl, _, rfl, itb (fun c2 => ?_) fun c2 => ?_⟩⟩
      · exact ⟨_, rfl, q H _ Kp.refl hx⟩
      · exact q H _ Kp.refl (.inl rfl)
end
end Au
/-! Authsync: rule_count. -/
namespace Au
open PySem PySem.Spec PyProof.Rows L2
theorem findE_mem {S : Sch} {k n : Str} {e : Ent} (h : findE S k n = some e) : ∃ t ∈ S, e ∈ t.2 := by
  induction S with
  | nil => cases h
  | cons t S ih =>
    rw [findE_cons] at h
    by_cases c : t.1 = k
    · rw [if_pos c] at h
      cases z : entIn t.2 n with
      | none =>
        rw [z] at h
        obtain ⟨u, hu, he⟩ := ih h
        exact ⟨u, List.mem_cons_of_mem _ hu, he⟩
      | some e' =>
        rw [z] at h
        obtain rfl := Option.some.inj h
        exact ⟨t, List.mem_cons_self .., List.mem_of_find?_eq_some z⟩
    · rw [if_neg c] at h
      obtain ⟨u, hu, he⟩ := ih h
      exact ⟨u, List.mem_cons_of_mem _ hu, he⟩
def termB (p : List Str) : Bool := match p with
  | [op, r, _] => decide (r = "") && (decide (op = "") || decide (op = "|") || decide (op = "-"))
  | _ => false
theorem S0_terms {k n : Str} {e : Ent} (h : findE S0 k n = some e) : (e.rel = false → ∀ p ∈ e.parts, ∃ op m, p = [op, ("" : Str), m] ∧ (op = "" ∨ op = "|" ∨ op = "-")) ∧ e.parts.length ≤ 100 := by
  obtain ⟨t, ht, he⟩ := findE_mem h
  have all : ∀ t ∈ S0, ∀ e ∈ t.2, (e.rel = true ∨ e.parts.all termB = true) ∧ e.parts.length ≤ 100 := by decide +kernel
  obtain ⟨a, b⟩ := all t ht e he
  refine ⟨fun hr p hp => ?_, b⟩
  rcases a with a | a
  · rw [hr] at a
    cases a
  · have := List.all_eq_true.mp a p hp
    unfold termB at this
    match p, this with
    | [op, r, m], this =>
      simp only [Bool.and_eq_true, Bool.or_eq_true, decide_eq_true_eq] at this
      refine ⟨op, m, by rw [this.1], ?_⟩
      rcases this.2 with (z | z) | z
      · exact .inl z
      · exact .inr (.inl z)
      · exact .inr (.inr z)
def OptAt : Hp → V → V → Prop := fun _ v x => v = x ∧ OptInt x
theorem opts_are {H : Hp} {ys xs : List V} (h : Paired (OptAt H) ys xs) : ∀ y ∈ ys, OptInt y := by
  induction h with
  | nil => exact fun _ h => by cases h
  | cons r _ ih =>
    intro y hy
    rcases List.mem_cons.mp hy with hy | hy
    · rw [hy, r.1]
      exact r.2
    · exact ih y hy
def spRule (K : PySem.W.Frag) : Sp := fun vs H Q _ => ∃ g d n u r zs, vs = [.ref g, .str d, .str n, .str u, .ref r] ∧ GraphAt K H g ∧ d ∈ O6 ∧ RanksAt H r zs ∧ ∀ H' x, Kp Nil H H' → OptInt x → Q x H'
section
variable {P : Program} {w : World} {K : PySem.W.Frag} {mg : Str → Option Value} {base : Heap}
abbrev N_rc : List Str := ["graph", "target", "name", "subject", "ranks", "found", "counts", "total", "part", "count", "pair"]
theorem sc_rule_count : FnScope N_rc ["graph", "target", "name", "subject", "ranks"] (defScope s_rule_count) := ⟨rfl, rfl, rfl, by decide +kernel, rfl, by decide +kernel, by decide +kernel⟩
/-- [count_of(graph, target, name, pair, ranks) for pair in l] -/
theorem rd_counts {K : PySem.W.Frag} {σ : L2.St} {H : Hp} {E : XK} {g r : Addr} {d n : Str} {v : V} {zs : List (Str × Str)} {Q : VK} {tl : TE} (hσ : σ.length = 11) (s0 : σ[0]? = some (some (.ref g))) (s1 : σ[1]? = some (some (.str d))) (s2 : σ[2]? = some (some (.str n))) (s4 : σ[4]? = some (some (.ref r)))
    (htl : ∀ R : VK, (∀ H1 v, Kp Nil H H1 → PrsAt H1 v → R v H1) → tl σ H R) (hG : GraphAt K H g) (hd : d ∈ O6) (hR : RanksAt H r zs)
    (h : ∀ H' D xs, Kp Nil H H' → H D = none → H' D = some (.lst xs) → (∀ x ∈ xs, OptInt x) → xs.length ≤ 100 → Q (.ref D) H') :
    tLc (iList K tl) (gName 10) tYes (tCall (spCount K) [] E (tCons (tVar 0) (tCons (tVar 1) (tCons (tVar 2) (tCons (tVar 10) (tCons (tVar 4) tNil)))))) [10] σ H Q := by
  refine htl _ fun H1 v k1 hv => ?_
  obtain ⟨l, ws, ps, rfl, el, pr, hl, hok⟩ := hv
  have hwl : ws.length = ps.length := pr.length
  refine ⟨l, rfl, ⟨_, SqL.of el⟩, fun D hD => ?_⟩
  have wk : ∀ (j : Nat) (hj : 10 ≠ j) x, ((wipe σ [10]).set 10 (some x))[j]? = σ[j]? := fun j hj x => by
    rw [List.getElem?_set_ne hj]
    show (σ.set 10 none)[j]? = _
    rw [List.getElem?_set_ne hj]
  have k1D : ∀ {H'}, Kp Nil H1 H' → Kp Nil H H' := fun k => k1.trans k
  refine lc_it (walk_list (K := K) (a := l) (xs := ws)) (fun i H' => Kp Nil H1 H' ∧ ∃ xs, H' D = some (.lst xs) ∧ (∀ x ∈ xs, OptInt x) ∧ xs.length ≤ i) ⟨Kp.new hD, [], upd_same, (fun _ h => by cases h), Nat.zero_le _⟩ (fun i H' _ p => SqL.of (p.1.lst0 el)) (fun i x H2 H3 hi p y => ?_) fun H2 p => ?_
  · obtain ⟨k2, xs, eD, hx, hxl⟩ := p
    obtain ⟨rfl, hxi⟩ := y
    obtain ⟨pp, hpp, hpa⟩ := pair_get pr hxi
    obtain ⟨o, m, rfl, ho⟩ := hok pp (List.mem_of_getElem? hpp)
    refine ⟨?_, ?_⟩
    · show ((σ.set 10 none).set 10 (some x)).set 10 none = σ.set 10 none
      rw [List.set_set, List.set_set]
    refine ⟨_, (wk 0 (by decide) x).trans s0, _, (wk 1 (by decide) x).trans s1, _, (wk 2 (by decide) x).trans s2, _, List.getElem?_set_self (by rw [wipe_length, hσ]; decide), _, (wk 4 (by decide) x).trans s4, g, d, n, x, r, o, m, zs, rfl, hG.kp0 (k1D k2), O6_len d hd, hpa.kp0 k2, ho, hR.kp (k1D k2) id, fun H4 c k4 hc => ?_⟩
    refine ⟨xs, k4.lst0 eD, by rw [sizeLine_eq]; omega, (k2.trans k4).fill hD, _, upd_same, fun z hz => ?_, by rw [List.length_append]; show xs.length + 1 ≤ i + 1; omega⟩
    rcases List.mem_append.mp hz with hz | hz
    · exact hx z hz
    · rw [List.mem_singleton.mp hz]
      exact hc
  · obtain ⟨k2, xs, eD, hx, hxl⟩ := p
    exact h H2 D xs (k1D k2) (k1.fr _ hD) eD hx (by omega)
theorem ok_rule_count (T : Top K mg base) : Cal P w K mg base CX0 4 ("rule_count", none) ["graph", "target", "name", "subject", "ranks"] (spRule K) := by
  obtain ⟨fd, F⟩ := T.d_rule_count
  have cs := ok_type_of (P := P) (w := w) T
  obtain ⟨fd1, F1, b1⟩ := cs.ex
  have cs2 := ok_definition (P := P) (w := w) T
  obtain ⟨fd2, F2, b2⟩ := cs2.ex
  have cs3 := ok_subjects_of (P := P) (w := w) T
  obtain ⟨fd3, F3, b3⟩ := cs3.ex
  have cs4 := ok_depends_on (P := P) (w := w) T
  obtain ⟨fd4, F4, b4⟩ := cs4.ex
  have cs5 := ok_count_of (P := P) (w := w) T
  obtain ⟨fd5, F5, b5⟩ := cs5.ex
  have cs6 := ok_least (P := P) (w := w) T
  obtain ⟨fd6, F6, b6⟩ := cs6.ex
  have cs7 := ok_both (P := P) (w := w) T
  obtain ⟨fd7, F7, b7⟩ := cs7.ex
  have cs8 := ok_pairs_of (P := P) (w := w) T
  obtain ⟨fd8, F8, b8⟩ := cs8.ex
  refine ⟨⟨fd, FunD.ok F sc_rule_count (fun vs H Q E h => ?_) (fun cdv A outer s H vs Q E hr h => ?_), FunD.bindsN F fun _ _ _ _ _ _ us hl => match us, hl with | [_, _, _, _, _], _ => rfl⟩, F.kp⟩
  · obtain ⟨g, d, n, u, r, zs, rfl, _⟩ := h
    rfl
  · obtain ⟨g, d, n, u, r, zs, rfl, hG, hd, hR, q⟩ := h
    have nd := sc_rule_count.nd
    refine ⟨_, pss_cons (ps_set (i := 5) nd rfl (.inl rfl) (pe_call F2 (hr.mono (by decide)) rfl T.g_definition cs2.kp b2 .nil pass0 (pa_cons (pe_fld (pv 0) rfl) (pa_cons (pe_call F1 (hr.mono (by decide)) rfl T.g_type_of cs.kp b1 .nil pass0 (pa_cons (pv 1) pa_nil)) (pa_cons (pv 2) pa_nil)))))
      (pss_cons (ps_if (pt_cmp (pc_isN (pv 5))) (pss_one (ps_ret pe_non)) pss_nil)
      (pss_cons (ps_if (pt_cmpR op_eq (pe_ix ix_tup (pv 5) pe_int (fun _ _ => rfl)) pe_str (nomark _))
        (pss_cons (ps_setLc (i := 6) (own := [("pair", 10)]) rfl nd rfl rfl (sw_true rfl rfl rfl rfl) (pi_list (pe_meth (pv 0) T.c_Graph T.m_Graph_subjects_of F3 (hr.mono (by decide)) b3 .nil pass0 (pa_cons (pv 1) (pa_cons (pv 2) pa_nil))))
            (blkOk_by (N := N_rc) (sc := defScope s_rule_count) (by decide +kernel)) (fun _ _ _ _ _ => pg_name (i := 10) nd rfl (.inl rfl)) (fun _ _ _ _ _ => pts_one (pt_cmpR (op_eqP hr.units) (pv 10) (pe_tup (pa_cons (pv 3) (pa_cons pe_str pa_nil))) (nomark _))) (fun _ _ _ _ _ => pe_int))
        (pss_cons (ps_expr (pe_bm PySem.F.plainAttrs_list PySem.F.slot_list_extend PySem.F.type_list_extend mt_extend (pv 6) (pa_cons
            (pe_lc (own := [("pair", 10)]) rfl nd (pi_list (pe_meth (pv 0) T.c_Graph T.m_Graph_depends_on F4 hr b4 .nil pass0 (pa_cons (pv 1) (pa_cons (pv 2) pa_nil)))) (blkOk_by (N := N_rc) (sc := defScope s_rule_count) (by decide +kernel)) (fun _ _ _ _ _ => pg_name (i := 10) nd rfl (.inl rfl)) (fun _ _ _ _ _ => pts_nil)
              (fun _ _ _ _ _ => pe_call F5 hr rfl T.g_count_of cs5.kp b5 .nil pass0 (pa_cons (pv 0) (pa_cons (pv 1) (pa_cons (pv 2) (pa_cons (pv 10) (pa_cons (pv 4) pa_nil))))))) pa_nil)))
        (pss_one (ps_ret (pe_call F6 (hr.mono (by decide)) rfl T.g_least cs6.kp b6 .nil pass0 (pa_cons (pv 6) pa_nil)))))) pss_nil)
      (pss_cons (ps_set (i := 7) nd rfl (.inl rfl) pe_non)
      (pss_cons (ps_for (passes_of rfl) rfl (pi_tup (pe_ix ix_tup (pv 5) pe_int (fun _ _ => rfl))) (pg_name (i := 8) nd rfl (.inl rfl))
        (pss_cons (ps_set (i := 9) nd rfl (.inl rfl) (pe_call F6 (hr.mono (by decide)) rfl T.g_least cs6.kp b6 .nil pass0 (pa_cons
            (pe_lc (own := [("pair", 10)]) rfl nd (pi_list (pe_meth (pv 0) T.c_Graph T.m_Graph_pairs_of F8 (hr.mono (by decide)) b8 .nil pass0 (pa_cons (pv 1) (pa_cons (pv 8) pa_nil)))) (blkOk_by (N := N_rc) (sc := defScope s_rule_count) (by decide +kernel)) (fun _ _ _ _ _ => pg_name (i := 10) nd rfl (.inl rfl)) (fun _ _ _ _ _ => pts_nil)
              (fun _ _ _ _ _ => pe_call F5 hr rfl T.g_count_of cs5.kp b5 .nil pass0 (pa_cons (pv 0) (pa_cons (pv 1) (pa_cons (pv 2) (pa_cons (pv 10) (pa_cons (pv 4) pa_nil))))))) pa_nil)))
        (pss_one (ps_set (i := 7) nd rfl (.inl rfl) (pe_ifExp (pt_cmpR op_eq (pe_ix ix_tup (pv 8) pe_int (fun _ _ => rfl)) pe_str (nomark _)) (pv 9) (pe_call F7 (hr.mono (by decide)) rfl T.g_both cs7.kp b7 .nil pass0 (pa_cons (pe_ix ix_tup (pv 8) pe_int (fun _ _ => rfl)) (pa_cons (pv 7) (pa_cons (pv 9) pa_nil)))))))))
      (pss_one (ps_ret (pv 7))))))), ?_⟩
    obtain ⟨dx, sc, st, sb, ob, pe, os, pps, e, hs, _⟩ := id hG.ex
    refine ⟨_, rfl, g, _, dx, _, _, rfl, e, T.c_Graph, T.n_Graph_schema, rfl, _, rfl, d, rfl, line5 (O6_len d hd), fun H1 k1 => ⟨_, rfl, sc, S0, ty d, n, rfl, hs.kp0 k1, fun H2 k2 => ⟨fun z => ?_, fun v en hf hdf => ?_⟩⟩⟩
    · exact ⟨_, rfl, _, rfl, iteT (q H2 _ (k1.trans k2) (.inl rfl))⟩
    · have k12 := k1.trans k2
      obtain ⟨hterms, hplen⟩ := S0_terms hf
      obtain ⟨p, c, ws, rfl, ep, ec, prp⟩ := hdf
      have hwl : ws.length = en.parts.length := prp.length
      refine ⟨_, rfl, _, rfl, iteF ⟨_, rfl, p, _, 0, _, rfl, rfl, SqT.of ep, rfl, rfl, _, rfl, itb (fun c1 => ?_) fun c1 => ?_⟩⟩
      · have hrel : en.rel = true := by
          cases z : en.rel with
          | true => rfl
          | false =>
            have : en.kind = "relation" := V.str.inj (of_decide_eq_true c1)
            unfold Ent.kind at this
            rw [z] at this
            exact absurd this (by decide +kernel)
        refine ⟨_, rfl, g, dx, _, rfl, k12.ins0 e, rfl, _, rfl, _, rfl, g, d, n, rfl, hG.kp0 k12, fun H3 v k3 hv => ?_⟩
        obtain ⟨l, us, pp, rfl, el, pr, hl, hok⟩ := hv
        have hul : us.length = pp.length := pr.length
        have k13 := k12.trans k3
        refine ⟨l, rfl, ⟨_, SqL.of el⟩, fun D hD => ?_⟩
        refine lc_sel (walk_list (K := K) (a := l) (xs := us)) OptAt (fun _ _ _ _ _ _ _ z => z) (fun i => pp[i]?.bind fun t => if t = [u, ""] then some (.int 0) else none) hD (by omega) (fun H' k' => SqL.of (k'.lst0 el)) (fun i x H4 H5 N M hi k4 y hN hM => ?_) fun H4 ys k4 hd4 pr4 => ?_
        · obtain ⟨rfl, hx⟩ := y
          obtain ⟨p1, hp1, hpa⟩ := pair_get pr hx
          rw [hp1] at hN hM
          refine ⟨rfl, _, rfl, _, rfl, by show 2 ≤ sizeLine; decide, fun t ht => ⟨p1, [u, ""], PartAt.kp0 ((k4.trans (Kp.new ht))) hpa, ⟨t, rfl, upd_same⟩, _, rfl, itb (fun c2 => ?_) fun c2 => ?_⟩⟩
          · exact hN _ _ _ (Kp.new ht) (if_pos (of_decide_eq_true c2)) ⟨rfl, .inr ⟨_, rfl⟩⟩
          · exact hM _ (Kp.new ht) (if_neg (of_decide_eq_false c2))
        · rw [hul, range_sel] at pr4
          have hys := opts_are pr4
          have hyl : ys.length ≤ 100 := by
            rw [pr4.length]
            exact Nat.le_trans (List.length_filterMap_le _ _) hl
          have k14 := k13.trans k4
          refine ⟨_, rfl, .inl ⟨rfl, _, .inl (.inl hd4)⟩, ?_⟩
          delta tCons tNil; dsimp only
          refine rd_counts (K := K) (E := E0) (g := g) (r := r) (d := d) (n := n) (v := .non) (zs := zs) (by rfl) rfl rfl rfl rfl (fun R hR2 => ⟨_, rfl, g, dx, _, rfl, k14.ins0 e, rfl, _, rfl, _, rfl, g, d, n, en, rfl, hG.kp0 k14, O6_len d hd, hf, hrel, fun H5 v k5 hv => hR2 H5 v k5 hv⟩) (hG.kp0 k14) hd (hR.kp k14 id) fun H5 D2 xs k5 hD2 eD2 hxs hxl => ?_
          have nDD : D ≠ D2 := ne_of_none hd4 hD2
          refine ⟨D, D2, ys, xs, rfl, rfl, k5.lst0 hd4, eD2, by rw [sizeLine_eq]; omega, ?_⟩
          have kD : Kp Nil H (upd H5 D (.lst (ys ++ xs))) := (k14.trans k5).fill (k13.fr _ hD)
          refine ⟨_, rfl, D, _, rfl, upd_same, fun z hz => ?_, by rw [List.length_append]; omega, fun H' x k hx => q H' x (kD.trans k) hx⟩
          rcases List.mem_append.mp hz with hz | hz
          · exact hys z hz
          · exact hxs z hz
      · have hrel : en.rel = false := by
          cases z : en.rel with
          | false => rfl
          | true =>
            unfold Ent.kind at c1
            rw [z] at c1
            exact absurd c1 (by decide +kernel)
        have hterms := hterms hrel
        refine ⟨_, rfl, p, _, 1, _, rfl, rfl, SqT.of ep, rfl, c, rfl, ⟨_, SqT.of ec⟩, ?_⟩
        refine for_it (walk_tup (K := K) (a := c) (xs := ws)) (fun i σ H' => Kp Nil H2 H' ∧ ∃ x, OptInt x ∧ ∃ x8 x9, σ = [some (.ref g), some (.str d), some (.str n), some (.str u), some (.ref r), some (.ref p), none, some x, x8, x9, none]) ⟨Kp.refl, .non, .inl rfl, _, _, rfl⟩ (fun i σ H' _ p => SqT.of (p.1.tup0 ec)) (fun i x σ H3 H4 hi p y => ?_) fun σ H' p => ?_
        · obtain ⟨k3, x7, hx7, x8, x9, rfl⟩ := p
          obtain ⟨rfl, hx⟩ := y
          obtain ⟨pt, hpt, up, rfl, eup⟩ := pair_get prp hx
          obtain ⟨op, m, rfl, hop⟩ := hterms pt (List.mem_of_getElem? hpt)
          have k13 := k12.trans k3
          have eup3 := k3.tup0 eup
          delta gName tSeq tAsg tCall tCons tNil; dsimp only
          refine rd_counts (K := K) (E := E0) (g := g) (r := r) (d := d) (n := n) (v := .non) (zs := zs) (by rfl) rfl rfl rfl rfl (fun R hR2 => ⟨_, rfl, g, dx, _, rfl, k13.ins0 e, rfl, _, rfl, _, rfl, g, d, _, op, m, rfl, ⟨up, rfl, eup3⟩, hd, fun H5 v k5 hv => hR2 H5 v k5 hv⟩) (hG.kp0 k13) hd (hR.kp k13 id) fun H5 D2 xs k5 hD2 eD2 hxs hxl => ?_
          refine ⟨D2, xs, rfl, eD2, hxs, by omega, fun H6 x k6 hx6 => ?_⟩
          have k36 := k3.trans (k5.trans k6)
          refine ⟨_, rfl, up, _, 0, _, rfl, rfl, SqT.of ((k5.trans k6).tup0 eup3), rfl, rfl, _, rfl, itb (fun c2 => ?_) fun c2 => ?_⟩
          · exact ⟨_, rfl, k36, x, hx6, _, _, rfl⟩
          · have hop2 : op = "|" ∨ op = "-" := by
              rcases hop with h | h
              · rw [h] at c2; simp at c2
              · exact h
            exact ⟨_, rfl, up, _, 0, _, rfl, rfl, SqT.of ((k5.trans k6).tup0 eup3), rfl, _, rfl, _, rfl, op, x7, x, rfl, hop2, hx7, hx6, fun H7 y k7 hy => ⟨k36.trans k7, y, hy, _, _, rfl⟩⟩
        · obtain ⟨k3, x7, hx7, x8, x9, rfl⟩ := p
          exact ⟨_, rfl, q H' x7 (k12.trans k3) hx7⟩
end
end Au
/-! Authsync: names_by_stratum. -/
namespace Au
open PySem PySem.Spec PyProof.Rows L2
def names5 : List Str := ["m", "o", "w", "b", "v"]
def NmOk (p : List Str) : Prop := ∃ o m, p = [o, m] ∧ o ∈ O6 ∧ m ∈ names5
/-- lists of names; F: what their lists are -/
def NamesAt (F : Addr → Prop) (H : Hp) (l : Addr) (n : Nat) : Prop := ∃ fs : List Addr, H l = some (.lst (fs.map V.ref)) ∧ fs.length = 2 ∧ l ∉ fs ∧ ∀ f ∈ fs, F f ∧ ∃ ws ps, H f = some (.lst ws) ∧ Paired (PartAt H) ws ps ∧ ps.length ≤ n ∧ ∀ p ∈ ps, NmOk p
theorem NamesAt.kp {F : Addr → Prop} {S : Addr → Prop} {H H' : Hp} (k : Kp S H H') (t : TupFree S H) (n : LstFree S H) {l : Addr} {m : Nat} (h : NamesAt F H l m) : NamesAt F H' l m := by
  obtain ⟨fs, e, a, b, f⟩ := h
  refine ⟨fs, k.old _ _ e (n _ _ e) nt_lst, a, b, fun x hx => ?_⟩
  obtain ⟨hF, ws, ps, el, pr, hl, ho⟩ := f x hx
  exact ⟨hF, ws, ps, k.old _ _ el (n _ _ el) nt_lst, Paired.mapP pr fun _ _ z => PartAt.stays _ _ _ _ _ k t z, hl, ho⟩
theorem NamesAt.kp0 {F : Addr → Prop} {H H' : Hp} (k : Kp Nil H H') {l : Addr} {m : Nat} (h : NamesAt F H l m) : NamesAt F H' l m := h.kp k tupFree_nil lstFree_nil
theorem NamesAt.mono {F G : Addr → Prop} {H : Hp} {l : Addr} {m n : Nat} (h : NamesAt F H l m) (hm : m ≤ n) (hG : ∀ a, F a → G a) : NamesAt G H l n := by
  obtain ⟨fs, e, a, b, f⟩ := h
  refine ⟨fs, e, a, b, fun x hx => ?_⟩
  obtain ⟨hF, ws, ps, el, pr, hl, ho⟩ := f x hx
  exact ⟨hG x hF, ws, ps, el, pr, by omega, ho⟩
theorem NamesAt.app {F : Addr → Prop} {H : Hp} {l f : Addr} {m : Nat} {ws : List V} {r : V} {p : List Str} (h : NamesAt F H l m) (ne : l ≠ f) (el : H f = some (.lst ws)) (hr : PartAt H r p) (hp : NmOk p) : NamesAt F (upd H f (.lst (ws ++ [r]))) l (m + 1) := by
  obtain ⟨fs, e, a, b, g⟩ := h
  have kl : Kp (Only f) H (upd H f (.lst (ws ++ [r]))) := Kp.put el nt_lst rfl
  have tl : TupFree (Only f) H := lst_free el
  refine ⟨fs, o2 e ne, a, b, fun x hx => ?_⟩
  obtain ⟨hF, ws', ps, el', pr, hl, ho⟩ := g x hx
  by_cases z : x = f
  · subst z
    obtain rfl : ws = ws' := by
      rw [el] at el'
      cases el'
      rfl
    refine ⟨hF, _, ps ++ [p], upd_same, pair_append (Paired.mapP pr fun _ _ z => PartAt.stays _ _ _ _ _ kl tl z) (.cons (PartAt.stays _ _ _ _ _ kl tl hr) .nil), by rw [List.length_append]; show ps.length + 1 ≤ m + 1; omega, fun y hy => ?_⟩
    rcases List.mem_append.mp hy with hy | hy
    · exact ho y hy
    · rw [List.mem_singleton.mp hy]
      exact hp
  · exact ⟨hF, ws', ps, o2 el' z, Paired.mapP pr fun _ _ z => PartAt.stays _ _ _ _ _ kl tl z, by omega, ho⟩
theorem levs_eq : (flatS S0).map (fun t => lev S0 (keyE t)) = [0, 0, 0, 0, 1] := by decide +kernel
theorem lev_01 : ∀ t ∈ flatS S0, (lev S0 (keyE t) = 0 ∨ lev S0 (keyE t) = 1) ∧ t.2.name ∈ names5 := by decide +kernel
theorem flat_len : (flatS S0).length = 5 := by decide +kernel
def spNames (K : PySem.W.Frag) : Sp := fun vs H Q _ => ∃ g, vs = [.ref g] ∧ GraphAt K H g ∧ ∀ H' l, Kp Nil H H' → NamesAt (fun _ => True) H' l 100 → Q (.ref l) H'
section
variable {P : Program} {w : World} {K : PySem.W.Frag} {mg : Str → Option Value} {base : Heap}
abbrev N_nb : List Str := ["graph", "most", "found", "target", "kind", "name", "key", "number"]
theorem sc_names_by_stratum : FnScope N_nb ["graph"] (defScope s_names_by_stratum) := ⟨rfl, rfl, rfl, by decide +kernel, rfl, by decide +kernel, by decide +kernel⟩
theorem ok_names_by_stratum (T : Top K mg base) : Cal P w K mg base CX0 2 ("names_by_stratum", none) ["graph"] (spNames K) := by
  obtain ⟨fd, F⟩ := T.d_names_by_stratum
  have cs := ok_type_of (P := P) (w := w) T
  obtain ⟨fd1, F1, b1⟩ := cs.ex
  refine ⟨⟨fd, FunD.ok F sc_names_by_stratum (fun vs H Q E h => ?_) (fun cdv A outer s H vs Q E hr h => ?_), FunD.bindsN F fun _ _ _ _ _ _ us hl => match us, hl with | [_], _ => rfl⟩, F.kp⟩
  · obtain ⟨g, rfl, _⟩ := h
    rfl
  · obtain ⟨g, rfl, hG, q⟩ := h
    have nd := sc_names_by_stratum.nd
    refine ⟨_, pss_cons (ps_set (i := 1) nd rfl (.inl rfl) (pe_callBK (cr_maxD rfl hr.units) (by rfl) T.f_max (by decide +kernel) (pa_cons
          (pe_lock (pe_lc (te := tDGet (tFld K (tVar 0) "strata") (tVar 6)) (own := [("key", 6)]) rfl nd (pi_keys (pe_fld (pv 0) rfl)) (blkOk_by (N := N_nb) (sc := defScope s_names_by_stratum) (by decide +kernel)) (fun _ _ _ _ _ => pg_name (i := 6) nd rfl (.inl rfl)) (fun _ _ _ _ _ => pts_nil)
            (fun _ _ _ _ _ => pe_dget hr.u1 (pe_fld (pv 0) rfl) (pv 6) (fun _ _ => rfl)))) pa_nil) (pk_cons (pe_un un_neg pe_int) pk_nil)))
      (pss_cons (ps_setLc (i := 2) (own := [("number", 7)]) rfl nd rfl rfl (sw_true rfl rfl rfl rfl) (pi_range1 (by rfl) T.f_range (pa_cons (pe_add (pv 1) pe_int) pa_nil)) (blkOk_by (N := N_nb) (sc := defScope s_names_by_stratum) (by decide +kernel)) (fun _ _ _ _ _ => pg_name (i := 7) nd rfl (.inl rfl)) (fun _ _ _ _ _ => pts_nil) (fun _ _ _ _ _ => pe_lst pa_nil))
      (pss_cons (ps_for (passes_of rfl) rfl (pi_list (pe_fld (pv 0) rfl)) (pg_name (i := 3) nd rfl (.inl rfl))
        (pss_one (ps_lock (ps_for (passes_of rfl) rfl (pi_keys (pe_fld (pv 0) rfl)) (pg_tup rfl (pgs_cons (pg_name (i := 4) nd rfl (.inl rfl)) (pgs_cons (pg_name (i := 5) nd rfl (.inl rfl)) pgs_nil)))
          (pss_one (ps_if (pt_cmpR op_eq (pv 4) (pe_call F1 hr rfl T.g_type_of cs.kp b1 .nil pass0 (pa_cons (pv 3) pa_nil)) (nomark _))
            (pss_one (ps_expr (pe_bm PySem.F.plainAttrs_list PySem.F.slot_list_append PySem.F.type_list_append mt_append
              (pe_ix ix_list (pv 2) (pe_dget hr.u1 (pe_fld (pv 0) rfl) (pe_tup (pa_cons (pv 4) (pa_cons (pv 5) pa_nil))) (fun _ _ => rfl)) (fun _ _ => rfl)) (pa_cons (pe_tup (pa_cons (pv 3) (pa_cons (pv 5) pa_nil))) pa_nil)))) pss_nil))))))
      (pss_one (ps_ret (pv 2))))), ?_⟩
    obtain ⟨dx, sc, st, sb, ob, pe, os, pps, eg, hs, est, hb, eob, ho6, hol, _⟩ := id hG.ex
    generalize hE : flatS S0 = E at est
    generalize hf : lev S0 = f at est
    have hlen5 : E.length = 5 := by rw [← hE]; exact flat_len
    have hlv : E.map (fun t => f (keyE t)) = [0, 0, 0, 0, 1] := by rw [← hE, ← hf]; exact levs_eq
    have h01 : ∀ t ∈ E, (f (keyE t) = 0 ∨ f (keyE t) = 1) ∧ t.2.name ∈ names5 := by rw [← hE, ← hf]; exact lev_01
    have ngst : g ≠ st := ne_of eg est fun z => by cases z
    have nf : ∀ (od : Obj) ps, HO.frz od (.dT (enc E f)) ≠ .tbl ps := fun od ps z => by cases z
    refine ⟨st, _, est, trivial, fun od => ?_⟩
    have egL : upd H st (.frz od (.dT (enc E f))) g = _ := o2 eg ngst
    refine ⟨_, rfl, g, _, dx, _, _, rfl, egL, T.c_Graph, T.n_Graph_strata, rfl, st, od, rfl, .inr ⟨enc E f, upd_same, fun D hD => ?_⟩⟩
    refine lc_sel walk_keysT IntAt (fun _ _ _ _ _ _ _ z => z) (fun i => E[i]?.bind fun t => some (f (keyE t))) hD (by rw [enc_len]; omega) (fun H' k' => k'.old st _ upd_same id (nf od)) (fun i x H1 H2 N M hi k1 y hN hM => ?_) fun H1 ys k1 hd pr => ?_
    · obtain ⟨rfl, key, v, qk, e1, rfl, e2⟩ := y
      obtain ⟨t, ht, rfl⟩ : ∃ t, E[i]? = some t ∧ key = key2 (keyE t) := by
        unfold enc at e1
        rw [List.getElem?_map] at e1
        cases e : E[i]? with
        | none => rw [e] at e1; cases e1
        | some t => rw [e] at e1; exact ⟨t, rfl, (congrArg Prod.fst (Option.some.inj e1)).symm⟩
      rw [ht] at hN
      have htE : t ∈ E := List.mem_of_getElem? ht
      exact ⟨rfl, _, rfl, g, _, dx, _, _, rfl, k1.ins0 egL, T.c_Graph, T.n_Graph_strata, rfl, _, rfl, st, .int (f (keyE t)), rfl, .inr ⟨enc E f, key2 (keyE t), qk, .inr ⟨od, k1.old st _ upd_same id (nf od)⟩, rfl, e2, (enc_at (List.mem_map_of_mem htE)).symm⟩, hN _ _ _ Kp.refl rfl rfl⟩
    · rw [enc_len, range_sel] at pr
      have hfm : E.filterMap (fun t => some (f (keyE t))) = E.map (fun t => f (keyE t)) := by rw [List.filterMap_eq_map']
      rw [hfm, hlv] at pr
      have eys := ints_are pr
      have est1 : H1 st = some (.frz od (.dT (enc E f))) := k1.old st _ upd_same id (nf od)
      refine ⟨est1, ?_⟩
      have kb : Kp Nil H (upd H1 st (.dT (enc E f))) := Kp.lock est nt_dT k1
      have nDst : D ≠ st := fun z => by rw [z, upd_same] at hD; cases hD
      refine ⟨_, rfl, D, [0, 0, 0, 0, 1], .int (-1), rfl, rfl, SqL.of (by rw [← eys]; exact o2 hd nDst), (fun z => by cases z), fun n r hnr => ?_⟩
      obtain ⟨rfl, rfl⟩ : n = 0 ∧ r = [0, 0, 0, 1] := by
        have := List.cons.inj hnr
        exact ⟨this.1.symm, this.2.symm⟩
      generalize hHb : upd H1 st (.dT (enc E f)) = Hb at kb
      refine ⟨_, rfl, _, _, rfl, rfl, 2, rfl, by decide, by decide, fun lf hlf => ?_⟩
      have hlf0 : H lf = none := kb.fr _ hlf
      refine lc_it walk_range (fun i H' => Kp Nil Hb H' ∧ ∃ fs : List Addr, H' lf = some (.lst (fs.map V.ref)) ∧ fs.length = i ∧ lf ∉ fs ∧ ∀ a ∈ fs, Hb a = none ∧ H' a = some (.lst [])) ⟨Kp.new hlf, [], upd_same, rfl, (fun z => by cases z), (fun _ z => by cases z)⟩ (fun _ _ _ _ => trivial) (fun i x H3 H4 hi p y => ?_) fun H3 p => ?_
      · obtain ⟨k3, fs, e3, hfl, hnl, hfs⟩ := p
        obtain ⟨rfl, rfl⟩ := y
        refine ⟨rfl, by show 0 ≤ sizeLine; decide, fun a ha => ?_⟩
        have k4 : Kp Nil H4 (upd H4 a (.lst [])) := Kp.new ha
        have nal : lf ≠ a := ne_of_none e3 ha
        refine ⟨fs.map V.ref, k4.lst0 e3, by rw [List.length_map, hfl, sizeLine_eq]; have : i < 2 := hi; omega, (k3.trans k4).fill hlf, fs ++ [a], by rw [upd_same, List.map_append]; rfl, by rw [List.length_append, hfl]; rfl, fun z => ?_, fun b hb => ?_⟩
        · rcases List.mem_append.mp z with z | z
          · exact hnl z
          · exact nal (List.mem_singleton.mp z)
        · rcases List.mem_append.mp hb with hb | hb
          · obtain ⟨h1, h2⟩ := hfs b hb
            exact ⟨h1, o2 (k4.lst0 h2) fun z => hnl (by rw [← z]; exact hb)⟩
          · rw [List.mem_singleton.mp hb]
            exact ⟨k3.fr _ ha, o2 upd_same (Ne.symm nal)⟩
      · obtain ⟨k3, fs, e3, hfl, hnl, hfs⟩ := p
        have k03 := kb.trans k3
        have N0 : NamesAt (fun a => H a = none) H3 lf (5 * 0) := ⟨fs, e3, hfl, hnl, fun a ha => ⟨kb.fr _ (hfs a ha).1, [], [], (hfs a ha).2, .nil, Nat.le_refl _, fun _ z => by cases z⟩⟩
        refine ⟨_, rfl, g, _, dx, _, _, rfl, k03.ins0 eg, T.c_Graph, T.n_Graph_objects, rfl, ob, rfl, ⟨_, SqL.of (k03.lst0 eob)⟩, ?_⟩
        refine for_it (walk_list (K := K) (a := ob) (xs := os.map V.str)) (fun i σ H' => Kp Nil H H' ∧ NamesAt (fun a => H a = none) H' lf (5 * i) ∧ ∃ x1 x3 x4 x5, σ = [some (.ref g), x1, some (.ref lf), x3, x4, x5, none, none]) ⟨k03, N0, _, _, _, _, rfl⟩ (fun i σ H' _ p => SqL.of (p.1.lst0 eob)) (fun i x σ H5 H6 hi p y => ?_) fun σ H5 p => ?_
        · obtain ⟨rfl, hx⟩ := y
          obtain ⟨k5, N5, x1, x3, x4, x5, rfl⟩ := p
          rw [List.getElem?_map] at hx
          cases hoi : os[i]? with
          | none => rw [hoi] at hx; cases hx
          | some d =>
            rw [hoi] at hx
            obtain rfl := Option.some.inj hx
            have hd6 := ho6 d (List.mem_of_getElem? hoi)
            have hilt := (List.getElem?_eq_some_iff.mp hoi).1
            have est6 := k5.dT0 est
            refine ⟨st, _, est6, trivial, fun od2 => ?_⟩
            have kL : Kp Nil (upd H st (.frz od2 (.dT (enc E f)))) (upd H6 st (.frz od2 (.dT (enc E f)))) := Kp.under (nf od2) k5
            obtain ⟨ks6, ts6, ls6⟩ := dT_one est6 (.frz od2 (.dT (enc E f)))
            have N6 := N5.kp ks6 ts6 ls6
            have egL2 : upd H st (.frz od2 (.dT (enc E f))) g = _ := o2 eg ngst
            have frL : ∀ a, H a = none → upd H st (.frz od2 (.dT (enc E f))) a = none := fun a ha => by
              rw [upd_ne (Ne.symm (ne_of_none est ha))]
              exact ha
            have estL : ∀ {H'}, Kp Nil (upd H st (.frz od2 (.dT (enc E f)))) H' → H' st = some (.frz od2 (.dT (enc E f))) := fun k => k.old st _ upd_same id (nf od2)
            refine ⟨_, rfl, g, _, dx, _, _, rfl, kL.ins0 egL2, T.c_Graph, T.n_Graph_strata, rfl, st, od2, rfl, .inr ⟨enc E f, upd_same, ?_⟩⟩
            refine for_it walk_keysT (fun j σ H' => Kp Nil (upd H st (.frz od2 (.dT (enc E f)))) H' ∧ NamesAt (fun a => H a = none) H' lf (5 * i + j) ∧ ∃ x1 x4 x5, σ = [some (.ref g), x1, some (.ref lf), some (.str d), x4, x5, none, none]) ⟨kL, N6, _, _, _, rfl⟩ (fun j σ H' _ p => estL p.1) (fun j x σ H7 H8 hj p y => ?_) fun σ H7 p => ?_
            · obtain ⟨k7, N7, x1, x4, x5, rfl⟩ := p
              obtain ⟨rfl, key, v, qk, e1, rfl, e2⟩ := y
              obtain ⟨t, ht, rfl⟩ : ∃ t, E[j]? = some t ∧ key = key2 (keyE t) := by
                unfold enc at e1
                rw [List.getElem?_map] at e1
                cases e : E[j]? with
                | none => rw [e] at e1; cases e1
                | some t => rw [e] at e1; exact ⟨t, rfl, (congrArg Prod.fst (Option.some.inj e1)).symm⟩
              have htE : t ∈ E := List.mem_of_getElem? ht
              have hjlt : j < 5 := by
                have := (List.getElem?_eq_some_iff.mp ht).1
                omega
              obtain ⟨h01t, hnm⟩ := h01 t htE
              refine ⟨qk, _, rfl, SqT.of e2, rfl, _, _, rfl, _, _, rfl, rfl, ?_⟩
              refine ⟨_, rfl, _, rfl, d, rfl, line5 (O6_len d hd6), fun H9 k9 => ⟨rfl, _, rfl, itb (fun c1 => ?_) fun c1 => ?_⟩⟩
              · have k79 := k7.trans k9
                have N9 := N7.kp0 k9
                obtain ⟨fs, e9, hfl, hnl, hfs⟩ := id N9
                refine ⟨_, rfl, _, rfl, g, _, dx, _, _, rfl, k79.ins0 egL2, T.c_Graph, T.n_Graph_strata, rfl, _, rfl, _, rfl, by show 2 ≤ sizeLine; decide, fun r hr => ?_⟩
                have k10 : Kp Nil H9 (upd H9 r (.tup [kV (Sum.inr (keyE t).1), kV (Sum.inr (keyE t).2)])) := Kp.new hr
                have er : (upd H9 r (.tup [kV (Sum.inr (keyE t).1), kV (Sum.inr (keyE t).2)])) r = some (.tup ((key2 (keyE t)).map kV)) := upd_same
                generalize hH10 : upd H9 r (.tup [kV (Sum.inr (keyE t).1), kV (Sum.inr (keyE t).2)]) = H10 at k10 er
                have k710 := k79.trans k10
                have N10 := N9.kp0 k10
                obtain ⟨ix, hix, eix⟩ : ∃ ix : Nat, f (keyE t) = (ix : Int) ∧ ix < 2 := by
                  rcases h01t with h | h
                  · exact ⟨0, h, by decide⟩
                  · exact ⟨1, h, by decide⟩
                have hfx : ix < fs.length := by rw [hfl]; exact eix
                have e10 := k10.lst0 e9
                have hmem : fs[ix] ∈ fs := List.getElem_mem hfx
                obtain ⟨hF, ws, ps, el, prw, hpl, hok⟩ := hfs _ hmem
                have el10 := k10.lst0 el
                refine ⟨st, .int (f (keyE t)), rfl, .inr ⟨enc E f, key2 (keyE t), r, .inr ⟨od2, estL k710⟩, rfl, er, (enc_at (List.mem_map_of_mem htE)).symm⟩, lf, _, f (keyE t), .ref fs[ix], rfl, rfl, SqL.of e10, by rw [hix]; exact atI_nat (by rw [List.getElem?_map, List.getElem?_eq_getElem hfx]; rfl), ?_⟩
                refine ⟨.inl ⟨rfl, _, .inl (.inl el10)⟩, _, rfl, _, rfl, by show 2 ≤ sizeLine; decide, fun r2 hr2 => ?_⟩
                have k11 : Kp Nil H10 (upd H10 r2 (.tup [.str d, kV (Sum.inr (keyE t).2)])) := Kp.new hr2
                have er2 : (upd H10 r2 (.tup [.str d, kV (Sum.inr (keyE t).2)])) r2 = some (.tup [.str d, .str t.2.name]) := upd_same
                generalize hH11 : upd H10 r2 (.tup [.str d, kV (Sum.inr (keyE t).2)]) = H11 at k11 er2
                have N11 := N10.kp0 k11
                have el11 := k11.lst0 el10
                have hwl : ws.length = ps.length := prw.length
                refine ⟨fs[ix], ws, _, rfl, rfl, el11, by rw [sizeLine_eq]; omega, (k710.trans k11).fill (frL _ hF), ?_, _, _, _, rfl⟩
                exact N11.app (p := [d, t.2.name]) (fun z => hnl (by rw [z]; exact hmem)) el11 ⟨r2, rfl, er2⟩ ⟨_, _, rfl, hd6, hnm⟩
              · exact ⟨k7.trans k9, (N7.kp0 k9).mono (Nat.le_succ _) fun _ => id, _, _, _, rfl⟩
            · obtain ⟨k7, N7, x1, x4, x5, rfl⟩ := p
              have est7 := estL k7
              refine ⟨est7, Kp.lock est nt_dT k7, ?_, _, _, _, _, rfl⟩
              have kk : Kp (Only st) H7 (upd H7 st (.dT (enc E f))) := Kp.put est7 (nf od2) rfl
              rw [enc_len, hlen5] at N7
              exact N7.kp kk (fun b xs z (zb : b = st) => by rw [zb, est7] at z; cases z) fun b xs z (zb : b = st) => by rw [zb, est7] at z; cases z
        · obtain ⟨k5, N5, x1, x3, x4, x5, rfl⟩ := p
          refine ⟨_, rfl, q H5 lf k5 (N5.mono ?_ fun _ _ => trivial)⟩
          rw [List.length_map]
          omega
end
end Au
/-! Authsync: ranks_for, ranked, evaluate. -/
namespace Au
open PySem PySem.Spec PyProof.Rows L2
theorem refs_inj : ∀ {a b : List Addr}, a.map V.ref = b.map V.ref → a = b
  | [], [], _ => rfl
  | [], _ :: _, h => by cases h
  | _ :: _, [], h => by cases h
  | x :: a, y :: b, h => by
    have h := List.cons.inj h
    rw [V.ref.inj h.1, refs_inj h.2]
def PU : List (Str × Str) := O6.flatMap fun o => names5.map fun m => (o, m)
theorem PU_len : PU.length = 30 := by decide +kernel
theorem PU_mem {o m : Str} (ho : o ∈ O6) (hm : m ∈ names5) : (o, m) ∈ PU := List.mem_flatMap.mpr ⟨o, ho, List.mem_map_of_mem hm⟩
theorem PU_of {z : Str × Str} (h : z ∈ PU) : z.1 ∈ O6 ∧ z.2 ∈ names5 := by
  obtain ⟨o, ho, h⟩ := List.mem_flatMap.mp h
  obtain ⟨m, hm, rfl⟩ := List.mem_map.mp h
  exact ⟨ho, hm⟩
def l2 (z : Str × Str) : List Str := [z.1, z.2]
theorem valV_mem {κ : Type} [DecidableEq κ] {nv : List (κ × V)} {k : κ} (h : k ∈ nv.map (·.1)) : (valV nv k).isSome = true := by
  induction nv with
  | nil => cases h
  | cons t nv ih =>
    by_cases e : t.1 = k
    · rw [valV_pos e]
      rfl
    · rw [valV_neg e]
      exact ih ((List.mem_cons.mp h).elim (fun z => absurd z.symm e) id)
structure Ranks (H : Hp) (r : Addr) (zs : List (Str × Str)) : Prop where
  at_ : RanksAt H r zs
  nd : zs.Nodup
  sub : ∀ z ∈ zs, z ∈ PU
theorem Ranks.kp0 {H H' : Hp} (k : Kp Nil H H') {r : Addr} {zs : List (Str × Str)} (h : Ranks H r zs) : Ranks H' r zs := ⟨h.at_.kp k id, h.nd, h.sub⟩
theorem Ranks.len {H : Hp} {r : Addr} {zs : List (Str × Str)} (h : Ranks H r zs) : zs.length ≤ 30 := by
  have := nodup_le h.nd h.sub
  rw [PU_len] at this
  exact this
theorem key2s_mem {zs : List (Str × Str)} {z : Str × Str} : key2 z ∈ zs.map key2 ↔ z ∈ zs := by
  constructor
  · intro h
    obtain ⟨y, hy, e⟩ := List.mem_map.mp h
    rw [← key2_inj e]
    exact hy
  · exact fun h => List.mem_map_of_mem h
theorem Ranks.put {H : Hp} {r : Addr} {zs : List (Str × Str)} (h : Ranks H r zs) {kvs : List (List Key × V)} (e : H r = some (.dT kvs)) {z : Str × Str} (hz : z ∈ PU) (i : Int) : Ranks (upd H r (.dT (putK kvs (key2 z) (.int i)))) r (addK zs z) := by
  obtain ⟨kvs', e', m, f⟩ := h.at_.ex
  obtain rfl : kvs = kvs' := by
    rw [e] at e'
    cases e'
    rfl
  refine ⟨⟨⟨_, upd_same, ?_, fun k v hv => ?_⟩⟩, addK_nodup h.nd, fun x hx => ?_⟩
  · rw [putK_keys, m]
    unfold addK
    by_cases c : z ∈ zs
    · rw [if_pos (key2s_mem.mpr c), if_pos c]
    · rw [if_neg fun q => c (key2s_mem.mp q), if_neg c, List.map_append]
      rfl
  · rw [valV_put] at hv
    split at hv
    · exact ⟨i, (Option.some.inj hv).symm⟩
    · exact f k v hv
  · rcases addK_mem hx with hx | hx
    · exact h.sub x hx
    · rw [hx]
      exact hz
theorem addK_len {α : Type} [DecidableEq α] (zs : List α) (z : α) : zs.length ≤ (addK zs z).length ∧ (z ∉ zs → zs.length < (addK zs z).length) := by
  unfold addK
  by_cases c : z ∈ zs
  · rw [if_pos c]
    exact ⟨Nat.le_refl _, fun h => absurd c h⟩
  · rw [if_neg c, List.length_append]
    exact ⟨Nat.le_add_right _ _, fun _ => Nat.lt_succ_self _⟩
def spRanksFor (K : PySem.W.Frag) : Sp := fun vs H Q _ => ∃ g u, vs = [.ref g, .str u] ∧ GraphAt K H g ∧ ∀ H' r zs, Kp Nil H H' → H r = none → Ranks H' r zs → Q (.ref r) H'
section
variable {P : Program} {w : World} {K : PySem.W.Frag} {mg : Str → Option Value} {base : Heap}
abbrev N_rf : List Str := ["graph", "subject", "ranks", "pairs", "going", "rank", "new", "pair"]
theorem sc_ranks_for : FnScope N_rf ["graph", "subject"] (defScope s_ranks_for) := ⟨rfl, rfl, rfl, by decide +kernel, rfl, by decide +kernel, by decide +kernel⟩
theorem ok_ranks_for (T : Top K mg base) : Cal P w K mg base CX0 5 ("ranks_for", none) ["graph", "subject"] (spRanksFor K) := by
  obtain ⟨fd, F⟩ := T.d_ranks_for
  have cs := ok_names_by_stratum (P := P) (w := w) T
  obtain ⟨fd1, F1, b1⟩ := cs.ex
  have cs2 := ok_rule_count (P := P) (w := w) T
  obtain ⟨fd2, F2, b2⟩ := cs2.ex
  refine ⟨⟨fd, FunD.ok F sc_ranks_for (fun vs H Q E h => ?_) (fun cdv A outer s H vs Q E hr h => ?_), FunD.bindsN F fun _ _ _ _ _ _ us hl => match us, hl with | [_, _], _ => rfl⟩, F.kp⟩
  · obtain ⟨g, u, rfl, _⟩ := h
    rfl
  · obtain ⟨g, u, rfl, hG, q⟩ := h
    have nd := sc_ranks_for.nd
    refine ⟨_, pss_cons (ps_set (i := 2) nd rfl (.inl rfl) pe_dnewT)
      (pss_cons (ps_for (passes_of rfl) rfl (pi_list (pe_call F1 (hr.mono (by decide)) rfl T.g_names_by_stratum cs.kp b1 .nil pass0 (pa_cons (pv 0) pa_nil))) (pg_name (i := 3) nd rfl (.inl rfl))
        (pss_cons (ps_set (i := 4) nd rfl (.inl rfl) pe_bl)
        (pss_cons (ps_set (i := 5) nd rfl (.inl rfl) pe_int)
        (pss_one (ps_while (passes_of rfl) (pt_val (pv 4))
          (pss_cons (ps_set (i := 5) nd rfl (.inl rfl) (pe_op op_add (pv 5) pe_int))
          (pss_cons (ps_set (i := 6) nd rfl (.inl rfl) (pe_lst pa_nil))
          (pss_cons (ps_for (passes_of rfl) rfl (pi_list (pv 3)) (pg_name (i := 7) nd rfl (.inl rfl))
            (pss_one (ps_if (PW.pt (pw_and (pt_cmp (pc_dnotin hr.u1 (pv 7) (pv 2))) (pw_and1 (pt_cmp (pc_notN (pe_call F2 hr rfl T.g_rule_count cs2.kp b2 .nil pass0
                (pa_cons (pv 0) (pa_cons (pe_ix ix_tup (pv 7) pe_int (fun _ _ => rfl)) (pa_cons (pe_ix ix_tup (pv 7) pe_int (fun _ _ => rfl)) (pa_cons (pv 1) (pa_cons (pv 2) pa_nil))))))))))) 
              (pss_one (ps_expr (pe_bm PySem.F.plainAttrs_list PySem.F.slot_list_append PySem.F.type_list_append mt_append (pv 6) (pa_cons (pv 7) pa_nil)))) pss_nil)))
          (pss_cons (ps_for (passes_of rfl) rfl (pi_list (pv 6)) (pg_name (i := 7) nd rfl (.inl rfl))
            (pss_one (ps_dput hr.u1 (pv 2) (pv 7) (pv 5) rfl)))
          (pss_one (ps_set (i := 4) nd rfl (.inl rfl) (pe_cmpR op_gt (pe_callB call_len_seq (by rfl) T.f_len PySem.boot_len (pa_cons (pv 6) pa_nil)) pe_int (nomark _)))))))))))))
      (pss_one (ps_ret (pv 2)))), ?_⟩
    refine fun r hr0 => ?_
    have k1 : Kp Nil H (upd H r (.dT [])) := Kp.new hr0
    have R1 : Ranks (upd H r (.dT [])) r [] := ⟨⟨⟨[], upd_same, rfl, fun _ _ h => by cases h⟩⟩, .nil, fun _ h => by cases h⟩
    refine ⟨_, rfl, g, rfl, hG.kp0 k1, fun H2 lf k2 hN => ?_⟩
    have R2 := R1.kp0 k2
    have k12 := k1.trans k2
    obtain ⟨fs, ef, hfl, hnl, hfs⟩ := id hN
    refine ⟨lf, rfl, ⟨_, SqL.of ef⟩, ?_⟩
    refine for_it (walk_list (K := K) (a := lf) (xs := fs.map V.ref)) (fun i σ H' => Kp Nil H H' ∧ NamesAt (fun _ => True) H' lf 100 ∧ H' lf = some (.lst (fs.map V.ref)) ∧ (∃ zs, Ranks H' r zs) ∧ ∃ x3 x4 x5 x6 x7, σ = [some (.ref g), some (.str u), some (.ref r), x3, x4, x5, x6, x7])
      ⟨k12, hN, ef, ⟨_, R2⟩, _, _, _, _, _, rfl⟩ (fun i σ H' _ p => SqL.of p.2.2.1) (fun i x σ H3 H4 hi p y => ?_) fun σ H3 p => ?_
    · obtain ⟨rfl, hx⟩ := y
      obtain ⟨k3, N3, e3, ⟨zs0, R3⟩, x3, x4, x5, x6, x7, rfl⟩ := p
      rw [List.getElem?_map] at hx
      cases hfi : fs[i]? with
      | none => rw [hfi] at hx; cases hx
      | some f =>
        rw [hfi] at hx
        obtain rfl := Option.some.inj hx
        have hfm : f ∈ fs := List.mem_of_getElem? hfi
        refine ⟨fun m σ H' => ∃ (zs : List (Str × Str)) (b : Bool) (rk : Int) (x6 x7 : Option V), σ = [some (.ref g), some (.str u), some (.ref r), some (.ref f), some (.bl b), some (.int rk), x6, x7] ∧ Kp Nil H H' ∧ NamesAt (fun _ => True) H' lf 100 ∧ H' lf = some (.lst (fs.map V.ref)) ∧ Ranks H' r zs ∧ m = if b = true then 2 + (30 - zs.length) else 1,
          ⟨_, zs0, true, 0, _, _, rfl, k3, N3, e3, R3, rfl⟩, ?_⟩
        intro m σ H5 ⟨zs, b, rk, x6, x7, eσ, k5, N5, e5, R5, em⟩
        subst eσ
        refine ⟨_, rfl, b, rfl, itb (fun hb => ?_) fun hb => ?_⟩
        · rw [if_pos hb] at em
          refine ⟨fun σ' H' => ∃ m', m' < m ∧ ∃ (zs : List (Str × Str)) (b : Bool) (rk : Int) (x6 x7 : Option V), σ' = [some (.ref g), some (.str u), some (.ref r), some (.ref f), some (.bl b), some (.int rk), x6, x7] ∧ Kp Nil H H' ∧ NamesAt (fun _ => True) H' lf 100 ∧ H' lf = some (.lst (fs.map V.ref)) ∧ Ranks H' r zs ∧ m' = if b = true then 2 + (30 - zs.length) else 1, fun _ _ h => h, ?_⟩
          refine ⟨_, rfl, _, _, rfl, rfl, by show 0 ≤ sizeLine; decide, fun ln hln => ?_⟩
          have hln0 : H ln = none := k5.fr _ hln
          have k6 : Kp Nil H5 (upd H5 ln (.lst [])) := Kp.new hln
          have eln : (upd H5 ln (.lst [])) ln = some (.lst []) := upd_same
          generalize hH6 : upd H5 ln (.lst []) = H6 at k6 eln
          obtain ⟨fs', ef', _, _, hfs'⟩ := id N5
          obtain rfl : fs = fs' := by
            rw [e5] at ef'
            have := HO.lst.inj (Option.some.inj ef')
            exact refs_inj this
          obtain ⟨_, ws, ps, el, pr, hpl, hok⟩ := hfs' f hfm
          have hwl : ws.length = ps.length := pr.length
          have nfl : f ≠ ln := ne_of_none el hln
          have nlfl : lf ≠ ln := ne_of_none e5 hln
          have k56 := k5.trans k6
          refine ⟨_, rfl, f, rfl, ⟨_, SqL.of (k6.lst0 el)⟩, ?_⟩
          refine for_it (walk_list (K := K) (a := f) (xs := ws)) (fun j σ H' => Kp Nil H H' ∧ Kp (Only ln) H6 H' ∧ (∃ vs ns, H' ln = some (.lst vs) ∧ Paired (PartAt H') vs (ns.map l2) ∧ (∀ z ∈ ns, z ∈ PU ∧ z ∉ zs) ∧ ns.length ≤ j) ∧ ∃ x7, σ = [some (.ref g), some (.str u), some (.ref r), some (.ref f), some (.bl b), some (.int (rk + 1)), some (.ref ln), x7])
            ⟨k56, Kp.refl, ⟨[], [], eln, .nil, (fun _ h => by cases h), Nat.le_refl _⟩, _, rfl⟩ (fun j σ H' _ p => SqL.of (p.2.1.old _ _ (k6.lst0 el) nfl nt_lst)) (fun j x σ H7 H8 hj p y => ?_) fun σ H7 p => ?_
          · obtain ⟨rfl, hx⟩ := y
            obtain ⟨k7, kk7, ⟨vs, ns, evs, pvs, hns, hnl2⟩, x7, rfl⟩ := p
            obtain ⟨pt, hpt, hpa⟩ := pair_get pr hx
            obtain ⟨o, mm, rfl, ho, hmm⟩ := hok pt (List.mem_of_getElem? hpt)
            obtain ⟨up, rfl, eup⟩ := hpa
            have eup8 : H8 up = some (.tup ([o, mm].map V.str)) := kk7.tup (k6.tup0 eup) (lst_free eln _ _ (k6.tup0 eup))
            have R8 : RanksAt H8 r zs := (R5.kp0 k6).at_.kp kk7 (fun (z : r = ln) => by
              obtain ⟨kv, e, _⟩ := (R5.kp0 k6).at_.ex
              rw [z, eln] at e
              cases e)
            obtain ⟨kvs, ek, mk, _⟩ := id R8.ex
            refine ⟨_, rfl, _, rfl, r, valV kvs (key2 (o, mm)), rfl, DGet.t ek eup8, _, rfl, itb (fun c1 => ?_) fun c1 => ?_⟩
            · have hznot : (o, mm) ∉ zs := fun hz => by
                have := valV_mem (nv := kvs) (k := key2 (o, mm)) (by rw [mk]; exact List.mem_map_of_mem hz)
                rw [this] at c1
                cases c1
              refine ⟨_, rfl, _, rfl, up, _, 0, _, rfl, rfl, SqT.of eup8, rfl, _, rfl, up, _, 1, _, rfl, rfl, SqT.of eup8, rfl, _, rfl, _, rfl, g, o, mm, u, r, zs, rfl, hG.kp0 k7, ho, R8, fun H9 x k9 hx9 => ⟨_, rfl, itb (fun c2 => ?_) fun c2 => ?_⟩⟩
              · have evs9 := k9.lst0 evs
                have vl : vs.length = ns.length := by rw [pvs.length, List.length_map]
                refine ⟨_, rfl, .inl ⟨rfl, _, .inl (.inl evs9)⟩, _, rfl, ln, vs, _, rfl, rfl, evs9, by rw [sizeLine_eq]; omega, ?_⟩
                have kl : Kp (Only ln) H9 (upd H9 ln (.lst (vs ++ [.ref up]))) := Kp.put evs9 nt_lst rfl
                have tl : TupFree (Only ln) H9 := lst_free evs9
                refine ⟨(k7.trans k9).fill hln0, kk7.trans (k9.any.trans kl), ⟨_, ns ++ [(o, mm)], upd_same, ?_, fun z hz => ?_, by rw [List.length_append]; show ns.length + 1 ≤ j + 1; omega⟩, _, rfl⟩
                · rw [List.map_append]
                  exact pair_append (Paired.mapP pvs fun _ _ z => PartAt.stays _ _ _ _ _ kl tl (z.kp0 k9)) (.cons ⟨up, rfl, kl.tup (k9.tup0 eup8) (tl _ _ (k9.tup0 eup8))⟩ .nil)
                · rcases List.mem_append.mp hz with hz | hz
                  · exact hns z hz
                  · rw [List.mem_singleton.mp hz]
                    exact ⟨PU_mem ho hmm, hznot⟩
              · exact ⟨k7.trans k9, kk7.trans k9.any, ⟨vs, ns, k9.lst0 evs, Paired.mapP pvs fun _ _ z => z.kp0 k9, hns, by omega⟩, _, rfl⟩
            · exact ⟨k7, kk7, ⟨vs, ns, evs, pvs, hns, by omega⟩, _, rfl⟩
          · obtain ⟨k7, kk7, ⟨vs, ns, evs, pvs, hns, hnl2⟩, x7, rfl⟩ := p
            have vl : vs.length = ns.length := by rw [pvs.length, List.length_map]
            have tln : TupFree (Only ln) H6 := lst_free eln
            have N7 : NamesAt (fun _ => True) H7 lf 100 := by
              obtain ⟨gs, e, a1, a2, a3⟩ := N5.kp0 k6
              refine ⟨gs, kk7.old _ _ e nlfl nt_lst, a1, a2, fun y hy => ?_⟩
              obtain ⟨q1, ws', ps', el', pr', q2, q3⟩ := a3 y hy
              have hgf : gs = fs := by
                have e5' := k6.lst0 e5
                rw [e] at e5'
                have := HO.lst.inj (Option.some.inj e5')
                exact refs_inj this
              obtain ⟨_, ws2, ps2, el2, _⟩ := hfs' y (by rw [← hgf]; exact hy)
              exact ⟨q1, ws', ps', kk7.old _ _ el' (ne_of_none el2 hln) nt_lst, Paired.mapP pr' fun _ _ z => PartAt.stays _ _ _ _ _ kk7 tln z, q2, q3⟩
            have e7 : H7 lf = some (.lst (fs.map V.ref)) := kk7.old _ _ (k6.lst0 e5) nlfl nt_lst
            have R7 : Ranks H7 r zs := ⟨(R5.kp0 k6).at_.kp kk7 (fun (z : r = ln) => by
              obtain ⟨kv, e, _⟩ := (R5.kp0 k6).at_.ex
              rw [z, eln] at e
              cases e), R5.nd, R5.sub⟩
            refine ⟨_, rfl, ln, rfl, ⟨_, SqL.of evs⟩, ?_⟩
            refine for_it (walk_list (K := K) (a := ln) (xs := vs)) (fun j σ H' => Kp Nil H H' ∧ Kp (Only r) H7 H' ∧ NamesAt (fun _ => True) H' lf 100 ∧ H' lf = some (.lst (fs.map V.ref)) ∧ H' ln = some (.lst vs) ∧ (∃ zs', Ranks H' r zs' ∧ zs.length ≤ zs'.length ∧ (j = 0 → zs' = zs) ∧ (0 < j → zs.length < zs'.length)) ∧ ∃ x7, σ = [some (.ref g), some (.str u), some (.ref r), some (.ref f), some (.bl b), some (.int (rk + 1)), some (.ref ln), x7])
              ⟨k7, Kp.refl, N7, e7, evs, ⟨zs, R7, Nat.le_refl _, (fun _ => rfl), fun h => absurd h (Nat.lt_irrefl _)⟩, _, rfl⟩ (fun j σ H' _ p => SqL.of p.2.2.2.2.1) (fun j x σ H8 H9 hj p y => ?_) fun σ H8 p => ?_
            · obtain ⟨rfl, hx⟩ := y
              obtain ⟨k8, kr8, N8, e8, evs8, ⟨zs', R8, hle, h0, hlt⟩, x7, rfl⟩ := p
              obtain ⟨p2, hp2, hpa⟩ := pair_get pvs hx
              rw [List.getElem?_map] at hp2
              cases hnz : ns[j]? with
              | none => rw [hnz] at hp2; cases hp2
              | some z =>
                rw [hnz] at hp2
                obtain rfl := Option.some.inj hp2
                obtain ⟨hzP, hzn⟩ := hns z (List.mem_of_getElem? hnz)
                obtain ⟨kvs, ek, mk, _⟩ := id R8.at_.ex
                obtain ⟨up, rfl, eup⟩ := hpa
                have tr : TupFree (Only r) H7 := fun b xs q (zb : b = r) => by
                  obtain ⟨kv, e, _⟩ := R7.at_.ex
                  rw [zb, e] at q
                  cases q
                have eup9 := kr8.tup eup (tr _ _ eup)
                have hkl : kvs.length ≤ 30 := by
                  have := congrArg List.length mk
                  rw [List.length_map, List.length_map] at this
                  have := R8.len
                  omega
                obtain ⟨kd, td, ld⟩ := dT_one ek (.dT (putK kvs (key2 z) (.int (rk + 1))))
                refine ⟨_, rfl, _, rfl, _, rfl, r, _, rfl, DPut.t (k := key2 z) ek eup9 (by rw [sizeLine_eq]; omega), k8.fill hr0, kr8.trans kd, N8.kp kd td ld, kd.old _ _ e8 (ld _ _ e8) nt_lst, kd.old _ _ evs8 (ld _ _ evs8) nt_lst, ⟨addK zs' z, R8.put ek hzP (rk + 1), Nat.le_trans hle (addK_len zs' z).1, (fun h => by cases h), fun _ => ?_⟩, _, rfl⟩
                by_cases hj0 : j = 0
                · have := h0 hj0
                  subst this
                  exact (addK_len zs' z).2 hzn
                · exact Nat.lt_of_lt_of_le (hlt (Nat.pos_of_ne_zero hj0)) (addK_len zs' z).1
            · obtain ⟨k8, kr8, N8, e8, evs8, ⟨zs', R8, hle, h0, hlt⟩, x7, rfl⟩ := p
              refine ⟨_, rfl, ln, _, rfl, .inl (SqL.of evs8), _, _, rfl, rfl, ?_⟩
              refine ⟨_, ?_, zs', _, rk + 1, _, _, rfl, k8, N8, e8, R8, rfl⟩
              by_cases hv : vs.length = 0
              · rw [hv, if_neg (by decide)]
                omega
              · have := hlt (Nat.pos_of_ne_zero hv)
                have h30 := R8.len
                rw [if_pos (decide_eq_true (by omega))]
                omega
        · exact ⟨k5, N5, e5, ⟨zs, R5⟩, _, _, _, _, _, rfl⟩
    · obtain ⟨k3, N3, e3, ⟨zs0, R3⟩, x3, x4, x5, x6, x7, rfl⟩ := p
      exact ⟨_, rfl, q H3 r zs0 k3 hr0 R3⟩
end
end Au
/-! Authsync: ranked, evaluate. -/
namespace Au
open PySem PySem.Spec PyProof.Rows L2
def UT : List T3 := O6.flatMap fun o => names5.flatMap fun m => people.map fun u => (o, m, u)
theorem UT_len : UT.length = 90 := by decide +kernel
theorem UT_mem {o m u : Str} (ho : o ∈ O6) (hm : m ∈ names5) (hu : u ∈ people) : (o, m, u) ∈ UT := List.mem_flatMap.mpr ⟨o, ho, List.mem_flatMap.mpr ⟨m, hm, List.mem_map_of_mem hu⟩⟩
theorem key3s_mem {ts : List T3} {t : T3} : key3 t ∈ ts.map key3 ↔ t ∈ ts := by
  constructor
  · intro h
    obtain ⟨y, hy, e⟩ := List.mem_map.mp h
    rw [← key3_inj e]
    exact hy
  · exact fun h => List.mem_map_of_mem h
/-- the grants found -/
def FoundAt (H : Hp) (d : Addr) (us : List T3) : Prop := (∃ kvs : List (List Key × V), H d = some (.dT kvs) ∧ kvs.map (·.1) = us.map key3) ∧ us.Nodup ∧ ∀ t ∈ us, t ∈ UT
theorem FoundAt.kp {S : Addr → Prop} {H H' : Hp} (k : Kp S H H') {d : Addr} (n : ¬ S d) {us : List T3} (h : FoundAt H d us) : FoundAt H' d us := by
  obtain ⟨⟨kvs, e, m⟩, a, b⟩ := h
  exact ⟨⟨kvs, k.old _ _ e n nt_dT, m⟩, a, b⟩
theorem FoundAt.len {H : Hp} {d : Addr} {us : List T3} (h : FoundAt H d us) : us.length ≤ 90 := by
  have := nodup_le h.2.1 h.2.2
  rw [UT_len] at this
  exact this
theorem FoundAt.put {H : Hp} {d : Addr} {us : List T3} (h : FoundAt H d us) {kvs : List (List Key × V)} (e : H d = some (.dT kvs)) {t : T3} (ht : t ∈ UT) (v : V) : FoundAt (upd H d (.dT (putK kvs (key3 t) v))) d (addK us t) := by
  obtain ⟨⟨kvs', e', m⟩, a, b⟩ := h
  obtain rfl : kvs = kvs' := by
    rw [e] at e'
    cases e'
    rfl
  refine ⟨⟨_, upd_same, ?_⟩, addK_nodup a, fun x hx => ?_⟩
  · rw [putK_keys, m]
    unfold addK
    by_cases c : t ∈ us
    · rw [if_pos (key3s_mem.mpr c), if_pos c]
    · rw [if_neg fun q => c (key3s_mem.mp q), if_neg c, List.map_append]
      rfl
  · rcases addK_mem hx with hx | hx
    · exact b x hx
    · rw [hx]
      exact ht
def spRanked (K : PySem.W.Frag) : Sp := fun vs H Q _ => ∃ a l ts, vs = [.ref a, .ref l] ∧ SchAt H a S0 ∧ TriL H l ts ∧ (∀ t ∈ ts, t ∈ U) ∧ ts.length ≤ 50 ∧ ∀ H' d us, Kp Nil H H' → FoundAt H' d us → Q (.ref d) H'
section
variable {P : Program} {w : World} {K : PySem.W.Frag} {mg : Str → Option Value} {base : Heap}
abbrev N_rk : List Str := ["schema", "relationships", "graph", "found", "subject", "ranks", "target", "name"]
theorem sc_ranked : FnScope N_rk ["schema", "relationships"] (defScope s_ranked) := ⟨rfl, rfl, rfl, by decide +kernel, rfl, by decide +kernel, by decide +kernel⟩
theorem ok_ranked (T : Top K mg base) : Cal P w K mg base CX0 6 ("ranked", none) ["schema", "relationships"] (spRanked K) := by
  obtain ⟨fd, F⟩ := T.d_ranked
  have cs := ok_Graph_init (P := P) (w := w) T
  obtain ⟨fd1, F1, b1⟩ := cs.ex
  have cs2 := ok_ranks_for (P := P) (w := w) T
  obtain ⟨fd2, F2, b2⟩ := cs2.ex
  refine ⟨⟨fd, FunD.ok F sc_ranked (fun vs H Q E h => ?_) (fun cdv A outer s H vs Q E hr h => ?_), FunD.bindsN F fun _ _ _ _ _ _ us hl => match us, hl with | [_, _], _ => rfl⟩, F.kp⟩
  · obtain ⟨a, l, ts, rfl, _⟩ := h
    rfl
  · obtain ⟨a, l, ts, rfl, hS, hT, hU, hl, q⟩ := h
    have nd := sc_ranked.nd
    refine ⟨_, pss_cons (ps_set (i := 2) nd rfl (.inl rfl) (pe_make T.k_Graph F1 hr rfl T.g_Graph b1 .nil pass0 (pa_cons (pv 0) (pa_cons (pv 1) pa_nil))))
      (pss_cons (ps_set (i := 3) nd rfl (.inl rfl) pe_dnewT)
      (pss_cons (ps_for (passes_of rfl) rfl (pi_list (pe_fld (pv 2) rfl)) (pg_name (i := 4) nd rfl (.inl rfl))
        (pss_cons (ps_set (i := 5) nd rfl (.inl rfl) (pe_call F2 hr rfl T.g_ranks_for cs2.kp b2 .nil pass0 (pa_cons (pv 2) (pa_cons (pv 4) pa_nil))))
        (pss_one (ps_lock (ps_for (passes_of rfl) rfl (pi_keys (pv 5)) (pg_tup rfl (pgs_cons (pg_name (i := 6) nd rfl (.inl rfl)) (pgs_cons (pg_name (i := 7) nd rfl (.inl rfl)) pgs_nil)))
          (pss_one (ps_dput hr.u1 (pv 3) (pe_tup (pa_cons (pv 6) (pa_cons (pv 7) (pa_cons (pv 4) pa_nil)))) (pe_dget hr.u1 (pv 5) (pe_tup (pa_cons (pv 6) (pa_cons (pv 7) pa_nil))) (fun _ _ => rfl)) rfl)))))))
      (pss_one (ps_ret (pv 3))))), ?_⟩
    refine ⟨_, rfl, _, rfl, fun g dx hg hdx ndx => ?_⟩
    have k1 : Kp Nil H (upd H dx (.own g)) := Kp.new hdx
    have hg' : (upd H dx (.own g)) g = none := by rw [upd_ne (Ne.symm ndx)]; exact hg
    have k2 : Kp Nil (upd H dx (.own g)) (upd (upd H dx (.own g)) g (.ins (He.ga K "Graph") dx [])) := Kp.new hg'
    have k12 := k1.trans k2
    have e2 : (upd (upd H dx (.own g)) g (.ins (He.ga K "Graph") dx [])) g = some (.ins (He.ga K "Graph") dx []) := upd_same
    generalize hH2 : upd (upd H dx (.own g)) g (.ins (He.ga K "Graph") dx []) = H2 at k12 e2
    refine ⟨g, a, l, dx, ts, rfl, e2, hS.kp0 k12, hT.kp0 k12, hU, hl, fun H3 k3 hG => ⟨rfl, ?_⟩⟩
    have k13 : Kp Nil H H3 := k12.less k3 fun c (hc : c = g) => .inr (by rw [hc]; exact hg)
    refine fun d hd => ?_
    have hd0 : H d = none := k13.fr _ hd
    have k4 : Kp Nil H3 (upd H3 d (.dT [])) := Kp.new hd
    have hG4 := hG.kp0 k4
    have F4 : FoundAt (upd H3 d (.dT [])) d [] := ⟨⟨[], upd_same, rfl⟩, .nil, fun _ h => by cases h⟩
    generalize hH4 : upd H3 d (.dT []) = H4 at k4 hG4 F4
    obtain ⟨dx2, sc, st, sb, ob, pe, os, ps, eg, hs, est, hb, eob, ho6, hol, epe, hp3, hpl⟩ := id hG.ex
    refine ⟨_, rfl, g, _, dx2, _, _, rfl, k4.ins0 eg, T.c_Graph, T.n_Graph_people, rfl, pe, rfl, ⟨_, SqL.of (k4.lst0 epe)⟩, ?_⟩
    refine for_it (walk_list (K := K) (a := pe) (xs := ps.map V.str)) (fun i σ H' => Kp Nil H3 H' ∧ (∃ us, FoundAt H' d us) ∧ ∃ x4 x5 x6 x7, σ = [some (.ref a), some (.ref l), some (.ref g), some (.ref d), x4, x5, x6, x7])
      ⟨k4, ⟨_, F4⟩, _, _, _, _, rfl⟩ (fun i σ H' _ p => SqL.of (p.1.lst0 epe)) (fun i x σ H5 H6 hi p y => ?_) fun σ H5 p => ?_
    · obtain ⟨rfl, hx⟩ := y
      obtain ⟨k5, ⟨us, F5⟩, x4, x5, x6, x7, rfl⟩ := p
      rw [List.getElem?_map] at hx
      cases hpi : ps[i]? with
      | none => rw [hpi] at hx; cases hx
      | some u =>
        rw [hpi] at hx
        obtain rfl := Option.some.inj hx
        have hu := hp3 u (List.mem_of_getElem? hpi)
        refine ⟨_, rfl, _, rfl, g, u, rfl, hG.kp0 k5, fun H7 r zs k7 hr0 R7 => ?_⟩
        have k17 := k5.trans k7
        have F7 := F5.kp k7 id
        have hr00 : H3 r = none := k5.fr _ hr0
        obtain ⟨kvs, ek, mk, hkf⟩ := id R7.at_.ex
        have ndr : d ≠ r := fun z => by
          obtain ⟨⟨kv, e, _⟩, _⟩ := F5
          rw [z, hr0] at e
          cases e
        refine ⟨r, _, ek, trivial, fun od => ?_⟩
        have nf : ∀ ps, HO.frz od (.dT kvs) ≠ .tbl ps := fun ps z => by cases z
        obtain ⟨kr, tr, lr⟩ := dT_one ek (.frz od (.dT kvs))
        refine ⟨_, rfl, r, od, rfl, .inr ⟨kvs, upd_same, ?_⟩⟩
        refine for_it walk_keysT (fun j σ H' => Kp Nil H3 H' ∧ H' r = some (.frz od (.dT kvs)) ∧ (∃ us, FoundAt H' d us) ∧ ∃ x6 x7, σ = [some (.ref a), some (.ref l), some (.ref g), some (.ref d), some (.str u), some (.ref r), x6, x7])
          ⟨k17.fill hr00, upd_same, ⟨us, F7.kp kr (fun z => ndr z)⟩, _, _, rfl⟩ (fun j σ H' _ p => p.2.1) (fun j x σ H8 H9 hj p y => ?_) fun σ H8 p => ?_
        · obtain ⟨k8, er8, ⟨us8, F8⟩, x6, x7, rfl⟩ := p
          obtain ⟨rfl, key, v, qk, e1, rfl, e2⟩ := y
          have hkm : key ∈ kvs.map (·.1) := List.mem_map.mpr ⟨_, List.mem_of_getElem? e1, rfl⟩
          obtain ⟨z, hz, rfl⟩ : ∃ z, z ∈ zs ∧ key = key2 z := by
            rw [mk] at hkm
            obtain ⟨z, hz, e⟩ := List.mem_map.mp hkm
            exact ⟨z, hz, e.symm⟩
          obtain ⟨hzo, hzm⟩ := PU_of (R7.sub z hz)
          obtain ⟨v2, hv2⟩ := Option.isSome_iff_exists.mp (valV_mem hkm)
          refine ⟨qk, _, rfl, SqT.of e2, rfl, _, _, rfl, _, _, rfl, rfl, ?_⟩
          refine ⟨_, rfl, _, rfl, _, rfl, by show 2 ≤ sizeLine; decide, fun t2 ht2 => ?_⟩
          have k9 : Kp Nil H9 (upd H9 t2 (.tup [kV (Sum.inr z.1), kV (Sum.inr z.2)])) := Kp.new ht2
          have er9 : (upd H9 t2 (.tup [kV (Sum.inr z.1), kV (Sum.inr z.2)])) r = _ := o1 er8 ht2
          have et2 : (upd H9 t2 (.tup [kV (Sum.inr z.1), kV (Sum.inr z.2)])) t2 = some (.tup ((key2 z).map kV)) := upd_same
          have F9 := F8.kp k9 id
          generalize hH10 : upd H9 t2 (.tup [kV (Sum.inr z.1), kV (Sum.inr z.2)]) = H10 at k9 er9 et2 F9
          refine ⟨r, v2, rfl, .inr ⟨kvs, key2 z, t2, .inr ⟨od, er9⟩, rfl, et2, hv2.symm⟩, ?_⟩
          refine ⟨_, rfl, _, rfl, _, rfl, _, rfl, by show 3 ≤ sizeLine; decide, fun t3 ht3 => ?_⟩
          have k10 : Kp Nil H10 (upd H10 t3 (.tup [kV (Sum.inr z.1), kV (Sum.inr z.2), .str u])) := Kp.new ht3
          have et3 : (upd H10 t3 (.tup [kV (Sum.inr z.1), kV (Sum.inr z.2), .str u])) t3 = some (.tup ((key3 (z.1, z.2, u)).map kV)) := upd_same
          have F10 := F9.kp k10 id
          have er10 : (upd H10 t3 (.tup [kV (Sum.inr z.1), kV (Sum.inr z.2), .str u])) r = _ := o1 er9 ht3
          generalize hH11 : upd H10 t3 (.tup [kV (Sum.inr z.1), kV (Sum.inr z.2), .str u]) = H11 at k10 et3 F10 er10
          obtain ⟨⟨fk, efk, mfk⟩, _⟩ := id F10
          have hfl : fk.length ≤ 90 := by
            have := congrArg List.length mfk
            rw [List.length_map, List.length_map] at this
            have := F10.len
            omega
          have kd : Kp (Only d) H11 (upd H11 d (.dT (putK fk (key3 (z.1, z.2, u)) v2))) := Kp.put efk nt_dT rfl
          refine ⟨d, _, rfl, DPut.t (k := key3 (z.1, z.2, u)) efk et3 (by rw [sizeLine_eq]; omega), ((k8.trans k9).trans k10).fill hd, o2 er10 (Ne.symm ndr), ⟨_, F10.put efk (UT_mem hzo hzm hu) v2⟩, _, _, rfl⟩
        · obtain ⟨k8, er8, ⟨us8, F8⟩, x6, x7, rfl⟩ := p
          exact ⟨er8, k8.fill hr00, ⟨us8, F8.kp (S := Only r) (Kp.put er8 nf rfl) ndr⟩, _, _, _, _, rfl⟩
    · obtain ⟨k5, ⟨us, F5⟩, x4, x5, x6, x7, rfl⟩ := p
      exact ⟨_, rfl, q H5 d us (k13.trans k5) F5⟩
end
end Au
/-! Authsync: evaluate, Revision. -/
namespace Au
open PySem PySem.Spec PyProof.Rows L2
theorem U_len : U.length = 23 := by decide +kernel
def spEval (K : PySem.W.Frag) : Sp := fun vs H Q _ => ∃ a l ts, vs = [.ref a, .ref l] ∧ SchAt H a S0 ∧ Grants H l ts ∧ (∀ t ∈ ts, t ∈ U) ∧ ∀ H' p us, Kp Nil H H' → H p = none → TriL H' p us → us.Nodup → us.length ≤ 90 → Q (.ref p) H'
structure RevOk (r : List T3 × List T3) : Prop where
  nd : r.1.Nodup
  sub : ∀ t ∈ r.1, t ∈ U
  tnd : r.2.Nodup
  tl : r.2.length ≤ 90
theorem RevOk.len {r : List T3 × List T3} (h : RevOk r) : r.1.length ≤ 23 := by
  have := nodup_le h.nd h.sub
  rw [U_len] at this
  exact this
/-- a revision; D: what is never changed -/
def RevAt (K : PySem.W.Frag) (D : Addr → Prop) (H : Hp) (v : V) (r : List T3 × List T3) : Prop := ∃ x dx sc rl tb, v = .ref x ∧ D x ∧ D rl ∧ D tb ∧ H x = some (.ins (He.ga K "Revision") dx [("schema", .ref sc), ("relationships", .ref rl), ("table", .ref tb)]) ∧ SchAt H sc S0 ∧ TriL H rl r.1 ∧ TriL H tb r.2
theorem TriL.kp {S : Addr → Prop} {H H' : Hp} (k : Kp S H H') (t : TupFree S H) {l : Addr} (n : ¬ S l) {ts : List T3} (h : TriL H l ts) : TriL H' l ts := by
  obtain ⟨vs, e, pr⟩ := h
  exact ⟨vs, k.old _ _ e n nt_lst, Paired.mapP pr fun _ _ z => z.kp k t⟩
theorem RevAt.kp {K : PySem.W.Frag} {D S : Addr → Prop} {H H' : Hp} (k : Kp S H H') (t : TupFree S H) (n : ∀ b, S b → ¬ D b) {v : V} {r : List T3 × List T3} (h : RevAt K D H v r) : RevAt K D H' v r := by
  obtain ⟨x, dx, sc, rl, tb, rfl, d1, d2, d3, e, hs, h1, h2⟩ := h
  exact ⟨x, dx, sc, rl, tb, rfl, d1, d2, d3, k.old _ _ e (fun z => n _ z d1) nt_ins, hs.kp k t, h1.kp k t (fun z => n _ z d2), h2.kp k t fun z => n _ z d3⟩
theorem RevAt.kp0 {K : PySem.W.Frag} {D : Addr → Prop} {H H' : Hp} (k : Kp Nil H H') {v : V} {r : List T3 × List T3} (h : RevAt K D H v r) : RevAt K D H' v r := h.kp k tupFree_nil fun _ z => z.elim
theorem RevAt.mono {K : PySem.W.Frag} {D D' : Addr → Prop} {H : Hp} (n : ∀ b, D b → D' b) {v : V} {r : List T3 × List T3} (h : RevAt K D H v r) : RevAt K D' H v r := by
  obtain ⟨x, dx, sc, rl, tb, rfl, d1, d2, d3, q⟩ := h
  exact ⟨x, dx, sc, rl, tb, rfl, n _ d1, n _ d2, n _ d3, q⟩
def spRevInit (K : PySem.W.Frag) : Sp := fun vs H Q _ => ∃ x a l dx ts, vs = [.ref x, .ref a, .ref l] ∧ H x = some (.ins (He.ga K "Revision") dx []) ∧ SchAt H a S0 ∧ Grants H l ts ∧ (∀ t ∈ ts, t ∈ U) ∧
  ∀ H' r, Kp (Only x) H H' → RevAt K (fun b => b = x ∨ H b = none) H' (.ref x) r → RevOk r → r.1 = sortT ts → Q .non H'
section
variable {P : Program} {w : World} {K : PySem.W.Frag} {mg : Str → Option Value} {base : Heap}
theorem sc_evaluate : FnScope ["schema", "relationships"] ["schema", "relationships"] (defScope s_evaluate) := ⟨rfl, rfl, rfl, by decide +kernel, rfl, by decide +kernel, by decide +kernel⟩
theorem ok_evaluate (T : Top K mg base) : Cal P w K mg base CX0 7 ("evaluate", none) ["schema", "relationships"] (spEval K) := by
  obtain ⟨fd, F⟩ := T.d_evaluate
  have cs := ok_check_relationships (P := P) (w := w) T
  obtain ⟨fd1, F1, b1⟩ := cs.ex
  have cs2 := ok_ranked (P := P) (w := w) T
  obtain ⟨fd2, F2, b2⟩ := cs2.ex
  refine ⟨⟨fd, FunD.ok F sc_evaluate (fun vs H Q E h => ?_) (fun cdv A outer s H vs Q E hr h => ?_), FunD.bindsN F fun _ _ _ _ _ _ us hl => match us, hl with | [_, _], _ => rfl⟩, F.kp⟩
  · obtain ⟨a, l, ts, rfl, _⟩ := h
    rfl
  · obtain ⟨a, l, ts, rfl, hS, hg, hU, q⟩ := h
    refine ⟨_, pss_cons (ps_expr (pe_call F1 (hr.mono (by decide)) rfl T.g_check_relationships cs.kp b1 .nil pass0 (pa_cons (pv 0) (pa_cons (pv 1) pa_nil))))
      (pss_one (ps_ret (pe_callB (cr_sortTD rfl hr.units) (by rfl) T.f_sorted (by decide +kernel) (pa_cons (pe_call F2 hr rfl T.g_ranked cs2.kp b2 .nil pass0 (pa_cons (pv 0) (pa_cons (pv 1) pa_nil))) pa_nil)))), ?_⟩
    have hl : ts.length ≤ 23 := by
      have := nodup_le hg.nd hU
      rw [U_len] at this
      exact this
    refine ⟨_, rfl, _, rfl, a, l, ts, rfl, hS, hg, fun t ht => conf_U t (hU t ht), fun H1 k1 => ?_⟩
    refine ⟨_, rfl, _, rfl, a, l, ts, rfl, hS.kp0 k1, hg.at_.kp0 k1, hU, by omega, fun H2 d us k2 hF => ?_⟩
    obtain ⟨⟨kvs, e, m⟩, nd, sub⟩ := id hF
    refine ⟨d, kvs, us, rfl, e, m, fun ys p pr hp => ?_⟩
    have k3 : Kp Nil H2 (upd H2 p (.lst ys)) := Kp.new hp
    exact q _ p (sortT us) (k1.trans (k2.trans k3)) ((k1.trans k2).fr _ hp) ⟨ys, upd_same, Tri.prs k3 pr⟩ (sortT_nodup nd) (by rw [sortT_len]; exact hF.len)
theorem sc_Revision_init : FnScope ["self", "schema", "relationships"] ["self", "schema", "relationships"] (defScope s_Revision_init) := ⟨rfl, rfl, rfl, by decide +kernel, rfl, by decide +kernel, by decide +kernel⟩
theorem ok_Revision_init (T : Top K mg base) : Cal P w K mg base CX0 8 ("Revision", some "__init__") ["self", "schema", "relationships"] (spRevInit K) := by
  obtain ⟨fd, F⟩ := T.d_Revision_init
  have cs := ok_evaluate (P := P) (w := w) T
  obtain ⟨fd1, F1, b1⟩ := cs.ex
  refine ⟨⟨fd, FunD.ok F sc_Revision_init (fun vs H Q E h => ?_) (fun cdv A outer s H vs Q E hr h => ?_), FunD.bindsN F fun _ _ _ _ _ _ us hl => match us, hl with | [_, _, _], _ => rfl⟩, F.kp⟩
  · obtain ⟨x, a, l, dx, ts, rfl, _⟩ := h
    rfl
  · obtain ⟨x, a, l, dx, ts, rfl, e, hS, hg, hU, q⟩ := h
    refine ⟨_, pss_cons (ps_fld (pv 0) (pv 1) rfl) (pss_cons (ps_fld (pv 0) (pe_callB (cr_sortT hr.units) (by rfl) T.f_sorted (by decide +kernel) (pa_cons (pv 2) pa_nil)) rfl)
      (pss_one (ps_fld (pv 0) (pe_call F1 hr rfl T.g_evaluate cs.kp b1 .nil pass0 (pa_cons (pv 1) (pa_cons (pe_fld (pv 0) rfl) pa_nil))) rfl))), ?_⟩
    refine ⟨_, rfl, _, rfl, x, _, dx, _, rfl, e, T.c_Revision, T.n_Revision_schema, by decide, ?_⟩
    have k1 : Kp (Only x) H (upd H x (.ins (He.ga K "Revision") dx (putF "schema" (.ref a) []))) := Kp.put e nt_ins rfl
    have e1 : (upd H x (.ins (He.ga K "Revision") dx (putF "schema" (.ref a) []))) x = some (.ins (He.ga K "Revision") dx [("schema", .ref a)]) := upd_same
    generalize hH1 : upd H x (.ins (He.ga K "Revision") dx (putF "schema" (.ref a) [])) = H1 at k1 e1
    have tx := ins_tup e
    have lx := ins_lst e
    have nlx : l ≠ x := fun z => by
      obtain ⟨vs, ev, _⟩ := hg.at_
      exact lx _ _ ev z
    obtain ⟨vs, ev, pr⟩ := hg.at_.kp k1 tx nlx
    refine ⟨_, rfl, l, vs, ts, rfl, SqL.of ev, pr, fun ys rl prs hrl => ?_⟩
    have k2 : Kp Nil H1 (upd H1 rl (.lst ys)) := Kp.new hrl
    have erl : TriL (upd H1 rl (.lst ys)) rl (sortT ts) := ⟨ys, upd_same, Tri.prs k2 prs⟩
    have nrx : rl ≠ x := Ne.symm (ne_of_none e1 hrl)
    generalize hH2 : upd H1 rl (.lst ys) = H2 at k2 erl
    have e2 := k2.ins0 e1
    refine ⟨_, rfl, x, _, dx, _, rfl, e2, T.c_Revision, T.n_Revision_relationships, by show 1 < 1000; decide, ?_⟩
    have k3 : Kp (Only x) H2 (upd H2 x (.ins (He.ga K "Revision") dx (putF "relationships" (.ref rl) [("schema", .ref a)]))) := Kp.put e2 nt_ins rfl
    have e3 : (upd H2 x (.ins (He.ga K "Revision") dx (putF "relationships" (.ref rl) [("schema", .ref a)]))) x = some (.ins (He.ga K "Revision") dx [("schema", .ref a), ("relationships", .ref rl)]) := upd_same
    have erl3 := erl.kp k3 (ins_tup e2) nrx
    have k03 := k1.trans (k2.any.trans k3)
    generalize hH3 : upd H2 x (.ins (He.ga K "Revision") dx (putF "relationships" (.ref rl) [("schema", .ref a)])) = H3 at k03 e3 erl3
    have hS3 := hS.kp k03 tx
    refine ⟨_, rfl, _, rfl, x, _, dx, _, _, rfl, e3, T.c_Revision, T.n_Revision_relationships, rfl, a, rl, sortT ts, rfl, hS3, ⟨erl3, sortT_nodup hg.nd, by rw [sortT_len]; exact hg.len⟩, fun t ht => hU t (sortT_mem.mp ht), fun H4 tb us k4 htb0 htb und ul => ?_⟩
    have e4 := k4.ins0 e3
    refine ⟨_, rfl, x, _, dx, _, rfl, e4, T.c_Revision, T.n_Revision_table, by show 2 < 1000; decide, ?_⟩
    have k5 : Kp (Only x) H4 (upd H4 x (.ins (He.ga K "Revision") dx (putF "table" (.ref tb) [("schema", .ref a), ("relationships", .ref rl)]))) := Kp.put e4 nt_ins rfl
    have t4 := ins_tup e4
    have ntx : tb ≠ x := fun z => by
      obtain ⟨vs, ev, _⟩ := htb
      exact ins_lst e4 _ _ ev z
    have k05 := k03.trans (k4.any.trans k5)
    exact q _ (sortT ts, us) k05 ⟨x, dx, a, rl, tb, rfl, .inl rfl, .inr (k1.fr _ hrl), .inr (k03.fr _ htb0), upd_same, (hS3.kp0 k4).kp k5 t4, (erl3.kp0 k4).kp k5 t4 nrx, htb.kp k5 t4 ntx⟩ ⟨sortT_nodup hg.nd, fun t ht => hU t (sortT_mem.mp ht), und, ul⟩ rfl
end
end Au
/-! Authsync: the primary's readers. -/
namespace Au
open PySem PySem.Spec PyProof.Rows L2
abbrev Rev := List T3 × List T3
structure PrimAt (K : PySem.W.Frag) (D : Addr → Prop) (H : Hp) (p : Addr) (c : Addr × Addr) (f : Nat) (rs : List Rev) : Prop where
  ob : H p = some (.ins (He.ga K "Primary") c.1 [("name", .str "main"), ("first", .int (f : Int)), ("revisions", .ref c.2)])
  ls : ∃ xs, H c.2 = some (.lst xs) ∧ Paired (RevAt K D H) xs rs
structure PrimOk (f : Nat) (rs : List Rev) : Prop where
  ne : rs ≠ []
  ok : ∀ r ∈ rs, RevOk r
  le : f + rs.length ≤ 41
def rv (f : Nat) (rs : List Rev) : Nat := f + rs.length - 1
theorem PrimOk.pos {f : Nat} {rs : List Rev} (h : PrimOk f rs) : 1 ≤ rs.length := List.length_pos_iff.mpr h.ne
theorem PrimOk.rv_int {f : Nat} {rs : List Rev} (h : PrimOk f rs) : (f : Int) + (rs.length : Int) - 1 = (rv f rs : Int) := by
  have := h.pos
  unfold rv
  omega
theorem PrimOk.rv_le {f : Nat} {rs : List Rev} (h : PrimOk f rs) : f ≤ rv f rs ∧ rv f rs ≤ 40 := by
  have := h.pos
  have := h.le
  unfold rv
  omega
theorem PrimAt.kp {K : PySem.W.Frag} {D S : Addr → Prop} {H H' : Hp} (k : Kp S H H') (t : TupFree S H) (n : ∀ b, S b → ¬ D b) {p : Addr} {c : Addr × Addr} {f : Nat} {rs : List Rev} (hp : ¬ S p) (hc : ¬ S c.2) (h : PrimAt K D H p c f rs) : PrimAt K D H' p c f rs := by
  obtain ⟨xs, e, pr⟩ := h.ls
  exact ⟨k.old _ _ h.ob hp nt_ins, xs, k.old _ _ e hc nt_lst, Paired.mapP pr fun _ _ z => z.kp k t n⟩
theorem PrimAt.kp0 {K : PySem.W.Frag} {D : Addr → Prop} {H H' : Hp} (k : Kp Nil H H') {p : Addr} {c : Addr × Addr} {f : Nat} {rs : List Rev} (h : PrimAt K D H p c f rs) : PrimAt K D H' p c f rs := h.kp k tupFree_nil (fun _ z => z.elim) id id
theorem PrimAt.revs {K : PySem.W.Frag} {D : Addr → Prop} {H : Hp} {p : Addr} {c : Addr × Addr} {f : Nat} {rs : List Rev} (h : PrimAt K D H p c f rs) {n : Nat} {r : Rev} (e : rs[n]? = some r) : ∃ xs v, H c.2 = some (.lst xs) ∧ xs.length = rs.length ∧ xs[n]? = some v ∧ RevAt K D H v r := by
  obtain ⟨xs, ex, pr⟩ := h.ls
  obtain ⟨v, hv, hr⟩ := pair_getR pr e
  exact ⟨xs, v, ex, pr.length, hv, hr⟩
def spStore (K : PySem.W.Frag) : Sp := fun vs H Q _ => ∃ p D c f rs, vs = [.ref p] ∧ PrimAt K D H p c f rs ∧ ∀ H', Kp Nil H H' → Q (.str "main") H'
def spRevNo (K : PySem.W.Frag) : Sp := fun vs H Q _ => ∃ p D c f rs, vs = [.ref p] ∧ PrimAt K D H p c f rs ∧ PrimOk f rs ∧ ∀ H', Kp Nil H H' → Q (.int (rv f rs : Int)) H'
section
variable {P : Program} {w : World} {K : PySem.W.Frag} {mg : Str → Option Value} {base : Heap}
theorem sc_Primary_store_id : FnScope ["self"] ["self"] (defScope s_Primary_store_id) := ⟨rfl, rfl, rfl, by decide +kernel, rfl, by decide +kernel, by decide +kernel⟩
theorem ok_Primary_store_id (T : Top K mg base) : Cal P w K mg base CX0 1 ("Primary", some "store_id") ["self"] (spStore K) := by
  obtain ⟨fd, F⟩ := T.d_Primary_store_id
  refine ⟨⟨fd, FunD.ok F sc_Primary_store_id (fun vs H Q E h => ?_) (fun cdv A outer s H vs Q E hr h => ?_), FunD.bindsN F fun _ _ _ _ _ _ us hl => match us, hl with | [_], _ => rfl⟩, F.kp⟩
  · obtain ⟨p, D, c, f, rs, rfl, _⟩ := h
    rfl
  · obtain ⟨p, D, c, f, rs, rfl, hP, q⟩ := h
    refine ⟨_, pss_one (ps_ret (pe_fld (pv 0) rfl)), ?_⟩
    exact ⟨_, rfl, p, _, c.1, _, _, rfl, hP.ob, T.c_Primary, T.n_Primary_name, rfl, q H Kp.refl⟩
theorem sc_Primary_revision : FnScope ["self"] ["self"] (defScope s_Primary_revision) := ⟨rfl, rfl, rfl, by decide +kernel, rfl, by decide +kernel, by decide +kernel⟩
theorem ok_Primary_revision (T : Top K mg base) : Cal P w K mg base CX0 1 ("Primary", some "revision") ["self"] (spRevNo K) := by
  obtain ⟨fd, F⟩ := T.d_Primary_revision
  refine ⟨⟨fd, FunD.ok F sc_Primary_revision (fun vs H Q E h => ?_) (fun cdv A outer s H vs Q E hr h => ?_), FunD.bindsN F fun _ _ _ _ _ _ us hl => match us, hl with | [_], _ => rfl⟩, F.kp⟩
  · obtain ⟨p, D, c, f, rs, rfl, _⟩ := h
    rfl
  · obtain ⟨p, D, c, f, rs, rfl, hP, hO, q⟩ := h
    refine ⟨_, pss_one (ps_ret (pe_op op_sub (pe_op op_add (pe_fld (pv 0) rfl) (pe_callB call_len_seq (by rfl) T.f_len PySem.boot_len (pa_cons (pe_fld (pv 0) rfl) pa_nil))) pe_int)), ?_⟩
    obtain ⟨xs, ex, pr⟩ := hP.ls
    refine ⟨_, rfl, p, _, c.1, _, _, rfl, hP.ob, T.c_Primary, T.n_Primary_first, rfl, _, rfl, p, _, c.1, _, _, rfl, hP.ob, T.c_Primary, T.n_Primary_revisions, rfl, c.2, xs, rfl, .inl (SqL.of ex), _, _, rfl, rfl, _, _, rfl, rfl, ?_⟩
    have e : ((f : Int) + (xs.length : Int)) - 1 = (rv f rs : Int) := by rw [pr.length]; exact hO.rv_int
    have q1 := q H Kp.refl
    rw [← e] at q1
    exact q1
/-! ### token -/
def spTok (K : PySem.W.Frag) : Sp := fun vs H Q _ => ∃ p D c f rs, vs = [.ref p] ∧ PrimAt K D H p c f rs ∧ PrimOk f rs ∧ ∀ H', Kp Nil H H' → Q (.str (tok (rv f rs))) H'
theorem sc_Primary_token : FnScope ["self"] ["self"] (defScope s_Primary_token) := ⟨rfl, rfl, rfl, by decide +kernel, rfl, by decide +kernel, by decide +kernel⟩
theorem ok_Primary_token (T : Top K mg base) : Cal P w K mg base CX0 2 ("Primary", some "token") ["self"] (spTok K) := by
  obtain ⟨fd, F⟩ := T.d_Primary_token
  have cs := ok_Primary_revision (P := P) (w := w) T
  obtain ⟨fd1, F1, b1⟩ := cs.ex
  have cs2 := ok_token_of (P := P) (w := w) T
  obtain ⟨fd2, F2, b2⟩ := cs2.ex
  refine ⟨⟨fd, FunD.ok F sc_Primary_token (fun vs H Q E h => ?_) (fun cdv A outer s H vs Q E hr h => ?_), FunD.bindsN F fun _ _ _ _ _ _ us hl => match us, hl with | [_], _ => rfl⟩, F.kp⟩
  · obtain ⟨p, D, c, f, rs, rfl, _⟩ := h
    rfl
  · obtain ⟨p, D, c, f, rs, rfl, hP, hO, q⟩ := h
    refine ⟨_, pss_one (ps_ret (pe_call F2 hr rfl T.g_token_of cs2.kp b2 .nil pass0 (pa_cons (pe_fld (pv 0) rfl) (pa_cons (pe_meth0 (pv 0) T.c_Primary T.m_Primary_revision F1 hr b1 .nil pass0) pa_nil)))), ?_⟩
    have hle := hO.rv_le
    exact ⟨_, rfl, p, _, c.1, _, _, rfl, hP.ob, T.c_Primary, T.n_Primary_name, rfl, _, rfl, p, c.1, _, rfl, hP.ob, rfl, p, D, c, f, rs, rfl, hP, hO, fun H1 k1 => ⟨"main", _, rfl, by decide +kernel, by omega, by omega, q H1 k1⟩⟩
/-! ### check_room, check_revision -/
def spRoom (K : PySem.W.Frag) : Sp := fun vs H Q _ => ∃ p D c f rs, vs = [.ref p] ∧ PrimAt K D H p c f rs ∧ PrimOk f rs ∧ rv f rs < 40 ∧ ∀ H', Kp Nil H H' → Q .non H'
theorem sc_Primary_check_room : FnScope ["self"] ["self"] (defScope s_Primary_check_room) := ⟨rfl, rfl, rfl, by decide +kernel, rfl, by decide +kernel, by decide +kernel⟩
theorem ok_Primary_check_room (T : Top K mg base) : Cal P w K mg base CX0 2 ("Primary", some "check_room") ["self"] (spRoom K) := by
  obtain ⟨fd, F⟩ := T.d_Primary_check_room
  have cs := ok_Primary_revision (P := P) (w := w) T
  obtain ⟨fd1, F1, b1⟩ := cs.ex
  obtain ⟨tm, em⟩ := T.i_MOST_REVISIONS
  refine ⟨⟨fd, FunD.ok F sc_Primary_check_room (fun vs H Q E h => ?_) (fun cdv A outer s H vs Q E hr h => ?_), FunD.bindsN F fun _ _ _ _ _ _ us hl => match us, hl with | [_], _ => rfl⟩, F.kp⟩
  · obtain ⟨p, D, c, f, rs, rfl, _⟩ := h
    rfl
  · obtain ⟨p, D, c, f, rs, rfl, hP, hO, hlt, q⟩ := h
    refine ⟨_, pss_one (ps_if (pt_cmpR op_ge (pe_meth0 (pv 0) T.c_Primary T.m_Primary_revision F1 hr b1 .nil pass0) (pe_glob (v := .int 40) rfl em ⟨_, rfl⟩) (nomark _)) (pss_one ps_never) pss_nil), ?_⟩
    refine ⟨_, rfl, p, c.1, _, rfl, hP.ob, rfl, p, D, c, f, rs, rfl, hP, hO, fun H1 k1 => ⟨_, _, rfl, rfl, _, rfl, iteN (decide_eq_false (by omega)) (q H1 k1)⟩⟩
def spChkRev (K : PySem.W.Frag) : Sp := fun vs H Q _ => ∃ p D c f rs, ∃ n l : Nat, vs = [.ref p, .int (n : Int), .int (l : Int)] ∧ PrimAt K D H p c f rs ∧ PrimOk f rs ∧ l ≤ n ∧ n ≤ rv f rs ∧ ∀ H', Kp Nil H H' → Q .non H'
theorem sc_Primary_check_revision : FnScope ["self", "number", "least"] ["self", "number", "least"] (defScope s_Primary_check_revision) := ⟨rfl, rfl, rfl, by decide +kernel, rfl, by decide +kernel, by decide +kernel⟩
theorem ok_Primary_check_revision (T : Top K mg base) : Cal P w K mg base CX0 2 ("Primary", some "check_revision") ["self", "number", "least"] (spChkRev K) := by
  obtain ⟨fd, F⟩ := T.d_Primary_check_revision
  have cs := ok_Primary_revision (P := P) (w := w) T
  obtain ⟨fd1, F1, b1⟩ := cs.ex
  refine ⟨⟨fd, FunD.ok F sc_Primary_check_revision (fun vs H Q E h => ?_) (fun cdv A outer s H vs Q E hr h => ?_), FunD.bindsN F fun _ _ _ _ _ _ us hl => match us, hl with | [_, _, _], _ => rfl⟩, F.kp⟩
  · obtain ⟨p, D, c, f, rs, n, l, rfl, _⟩ := h
    rfl
  · obtain ⟨p, D, c, f, rs, n, l, rfl, hP, hO, hl, hn, q⟩ := h
    refine ⟨_, pss_one (ps_if (pt_not (pt_chain op_le op_le (pv 2) (pv 1) (pe_meth0 (pv 0) T.c_Primary T.m_Primary_revision F1 hr b1 .nil pass0))) (pss_one ps_never) pss_nil), ?_⟩
    refine ⟨_, rfl, _, rfl, _, _, rfl, rfl, _, rfl, iteY (decide_eq_true (by omega)) ⟨_, rfl, p, c.1, _, rfl, hP.ob, rfl, p, D, c, f, rs, rfl, hP, hO, fun H1 k1 => ⟨_, _, rfl, rfl, _, rfl, iteN ?_ (q H1 k1)⟩⟩⟩
    rw [decide_eq_true (show (n : Int) ≤ (rv f rs : Int) by omega)]
    rfl
/-! ### number_at, at_number -/
theorem tok_ne : ∀ n, n < 41 → tok n ≠ "" := by decide +kernel
/-- how a revision is named: not at all, or by its token -/
def AtIs (at_ : Str) (f : Nat) (rs : List Rev) (n : Nat) : Prop := (at_ = "" ∧ n = rv f rs) ∨ (at_ = tok n ∧ f ≤ n ∧ n ≤ rv f rs)
theorem AtIs.le {at_ : Str} {f : Nat} {rs : List Rev} {n : Nat} (h : AtIs at_ f rs n) (hO : PrimOk f rs) : f ≤ n ∧ n ≤ rv f rs ∧ n ≤ 40 := by
  have := hO.rv_le
  rcases h with ⟨_, h⟩ | ⟨_, h1, h2⟩ <;> omega
def spNumAt (K : PySem.W.Frag) : Sp := fun vs H Q _ => ∃ p D c f rs at_ n, vs = [.ref p, .str at_] ∧ PrimAt K D H p c f rs ∧ PrimOk f rs ∧ AtIs at_ f rs n ∧ Tabs K H ∧ ∀ H', Kp Nil H H' → Q (.int (n : Int)) H'
theorem sc_Primary_number_at : FnScope ["self", "at", "name", "number"] ["self", "at"] (defScope s_Primary_number_at) := ⟨rfl, rfl, rfl, by decide +kernel, rfl, by decide +kernel, by decide +kernel⟩
theorem ok_Primary_number_at (T : Top K mg base) : Cal P w K mg base CX0 7 ("Primary", some "number_at") ["self", "at"] (spNumAt K) := by
  obtain ⟨fd, F⟩ := T.d_Primary_number_at
  have cs := ok_Primary_revision (P := P) (w := w) T
  obtain ⟨fd1, F1, b1⟩ := cs.ex
  have cs2 := ok_split_token (P := P) (w := w) T
  obtain ⟨fd2, F2, b2⟩ := cs2.ex
  have cs3 := ok_Primary_check_revision (P := P) (w := w) T
  obtain ⟨fd3, F3, b3⟩ := cs3.ex
  refine ⟨⟨fd, FunD.ok F sc_Primary_number_at (fun vs H Q E h => ?_) (fun cdv A outer s H vs Q E hr h => ?_), FunD.bindsN F fun _ _ _ _ _ _ us hl => match us, hl with | [_, _], _ => rfl⟩, F.kp⟩
  · obtain ⟨p, D, c, f, rs, at_, n, rfl, _⟩ := h
    rfl
  · obtain ⟨p, D, c, f, rs, at_, n, rfl, hP, hO, hA, ht, q⟩ := h
    have nd := sc_Primary_number_at.nd
    refine ⟨_, pss_cons (ps_if (pt_cmpR op_eq (pv 1) pe_str (nomark _)) (pss_one (ps_ret (pe_meth0 (pv 0) T.c_Primary T.m_Primary_revision F1 (hr.mono (by decide)) b1 .nil pass0))) pss_nil)
      (pss_cons (ps_asg (pe_call F2 hr rfl T.g_split_token cs2.kp b2 .nil pass0 (pa_cons (pv 1) pa_nil)) (pg_tup rfl (pgs_cons (pg_name (i := 2) nd rfl (.inl rfl)) (pgs_cons (pg_name (i := 3) nd rfl (.inl rfl)) pgs_nil))))
      (pss_cons (ps_if (pt_cmpR op_ne (pv 2) (pe_fld (pv 0) rfl) (nomark _)) (pss_one ps_never) pss_nil)
      (pss_cons (ps_expr (pe_meth (pv 0) T.c_Primary T.m_Primary_check_revision F3 (hr.mono (by decide)) b3 .nil pass0 (pa_cons (pv 3) (pa_cons (pe_fld (pv 0) rfl) pa_nil))))
      (pss_one (ps_ret (pv 3)))))), ?_⟩
    have hle := hA.le hO
    refine ⟨_, rfl, rfl, _, rfl, itb (fun c1 => ?_) fun c1 => ?_⟩
    · have c1 : at_ = "" := V.str.inj (of_decide_eq_true c1)
      rcases hA with ⟨_, h⟩ | ⟨h, _⟩
      · rw [h] at q
        exact ⟨_, rfl, p, c.1, _, rfl, hP.ob, rfl, p, D, c, f, rs, rfl, hP, hO, q⟩
      · rw [c1] at h
        exact absurd h.symm (tok_ne n (by omega))
    · have hA2 : at_ = tok n := by
        rcases hA with ⟨h, _⟩ | ⟨h, _⟩
        · rw [h] at c1; simp at c1
        · exact h
      subst hA2
      refine ⟨_, rfl, n, rfl, hle.2.2, ht, fun H1 t k1 et => ?_⟩
      refine ⟨t, _, rfl, SqT.of et, rfl, _, _, rfl, _, _, rfl, rfl, ?_⟩
      have P1 := hP.kp0 k1
      refine ⟨_, rfl, _, rfl, p, _, c.1, _, _, rfl, P1.ob, T.c_Primary, T.n_Primary_name, rfl, rfl, _, rfl, iteN (by simp) ?_⟩
      refine ⟨_, rfl, p, c.1, _, rfl, P1.ob, rfl, _, rfl, _, rfl, p, _, c.1, _, _, rfl, P1.ob, T.c_Primary, T.n_Primary_first, rfl, p, D, c, f, rs, n, f, rfl, P1, hO, hle.1, hle.2.1, fun H2 k2 => ⟨_, rfl, q H2 (k1.trans k2)⟩⟩
def spAtNum (K : PySem.W.Frag) : Sp := fun vs H Q _ => ∃ p D c f rs, ∃ n : Nat, ∃ r, vs = [.ref p, .int (n : Int)] ∧ PrimAt K D H p c f rs ∧ f ≤ n ∧ rs[n - f]? = some r ∧ ∀ H' v, Kp Nil H H' → RevAt K D H' v r → Q v H'
theorem sc_Primary_at_number : FnScope ["self", "number"] ["self", "number"] (defScope s_Primary_at_number) := ⟨rfl, rfl, rfl, by decide +kernel, rfl, by decide +kernel, by decide +kernel⟩
theorem ok_Primary_at_number (T : Top K mg base) : Cal P w K mg base CX0 1 ("Primary", some "at_number") ["self", "number"] (spAtNum K) := by
  obtain ⟨fd, F⟩ := T.d_Primary_at_number
  refine ⟨⟨fd, FunD.ok F sc_Primary_at_number (fun vs H Q E h => ?_) (fun cdv A outer s H vs Q E hr h => ?_), FunD.bindsN F fun _ _ _ _ _ _ us hl => match us, hl with | [_, _], _ => rfl⟩, F.kp⟩
  · obtain ⟨p, D, c, f, rs, n, r, rfl, _⟩ := h
    rfl
  · obtain ⟨p, D, c, f, rs, n, r, rfl, hP, hf, hn, q⟩ := h
    refine ⟨_, pss_one (ps_ret (pe_ix ix_list (pe_fld (pv 0) rfl) (pe_op op_sub (pv 1) (pe_fld (pv 0) rfl)) (fun _ _ => rfl))), ?_⟩
    obtain ⟨xs, v, ex, hl, hv, hr2⟩ := hP.revs hn
    refine ⟨_, rfl, p, _, c.1, _, _, rfl, hP.ob, T.c_Primary, T.n_Primary_revisions, rfl, _, rfl, _, rfl, p, _, c.1, _, _, rfl, hP.ob, T.c_Primary, T.n_Primary_first, rfl, _, _, rfl, rfl, c.2, xs, _, v, rfl, rfl, SqL.of ex, ?_, q H v Kp.refl hr2⟩
    rw [show (n : Int) - (f : Int) = ((n - f : Nat) : Int) by omega]
    exact atI_nat hv
/-! ### relationships, grants, snapshot -/
def spRels (K : PySem.W.Frag) (sel : Rev → List T3) : Sp := fun vs H Q _ => ∃ p D c f rs at_ n r, vs = [.ref p, .str at_] ∧ PrimAt K D H p c f rs ∧ PrimOk f rs ∧ AtIs at_ f rs n ∧ rs[n - f]? = some r ∧ Tabs K H ∧ ∀ H' l, Kp Nil H H' → H l = none → TriL H' l (sel r) → Q (.ref l) H'
theorem sc_Primary_relationships : FnScope ["self", "at"] ["self", "at"] (defScope s_Primary_relationships) := ⟨rfl, rfl, rfl, by decide +kernel, rfl, by decide +kernel, by decide +kernel⟩
theorem ok_Primary_relationships (T : Top K mg base) : Cal P w K mg base CX0 8 ("Primary", some "relationships") ["self", "at"] (spRels K (·.1)) := by
  obtain ⟨fd, F⟩ := T.d_Primary_relationships
  have cs := ok_Primary_number_at (P := P) (w := w) T
  obtain ⟨fd1, F1, b1⟩ := cs.ex
  have cs2 := ok_Primary_at_number (P := P) (w := w) T
  obtain ⟨fd2, F2, b2⟩ := cs2.ex
  refine ⟨⟨fd, FunD.ok F sc_Primary_relationships (fun vs H Q E h => ?_) (fun cdv A outer s H vs Q E hr h => ?_), FunD.bindsN F fun _ _ _ _ _ _ us hl => match us, hl with | [_, _], _ => rfl⟩, F.kp⟩
  · obtain ⟨p, D, c, f, rs, at_, n, r, rfl, _⟩ := h
    rfl
  · obtain ⟨p, D, c, f, rs, at_, n, r, rfl, hP, hO, hA, hn, ht, q⟩ := h
    refine ⟨_, pss_one (ps_ret (pe_callTy call_list_of (by rfl) T.f_list (by decide +kernel) (pa_cons (pe_fld (pe_meth (pv 0) T.c_Primary T.m_Primary_at_number F2 (hr.mono (by decide)) b2 .nil pass0 (pa_cons (pe_meth (pv 0) T.c_Primary T.m_Primary_number_at F1 hr b1 .nil pass0 (pa_cons (pv 1) pa_nil)) pa_nil)) rfl) pa_nil))), ?_⟩
    have hle := hA.le hO
    refine ⟨_, rfl, p, c.1, _, rfl, hP.ob, rfl, _, rfl, p, c.1, _, rfl, hP.ob, rfl, _, rfl, p, D, c, f, rs, at_, n, rfl, hP, hO, hA, ht, fun H1 k1 => ?_⟩
    refine ⟨p, D, c, f, rs, n, r, rfl, hP.kp0 k1, hle.1, hn, fun H2 v k2 hv => ?_⟩
    obtain ⟨x, dx, sc, rl, tb, rfl, _, _, _, ex, hs, ⟨vs, ev, pr⟩, htb⟩ := hv
    refine ⟨x, _, dx, _, _, rfl, ex, T.c_Revision, T.n_Revision_relationships, rfl, rl, vs, rfl, .inl (SqL.of ev), fun l hl => ?_⟩
    have k3 : Kp Nil H2 (upd H2 l (.lst vs)) := Kp.new hl
    exact q _ l (k1.trans (k2.trans k3)) ((k1.trans k2).fr _ hl) ⟨vs, upd_same, Tri.prs k3 pr⟩
theorem sc_Primary_grants : FnScope ["self", "at"] ["self", "at"] (defScope s_Primary_grants) := ⟨rfl, rfl, rfl, by decide +kernel, rfl, by decide +kernel, by decide +kernel⟩
theorem ok_Primary_grants (T : Top K mg base) : Cal P w K mg base CX0 8 ("Primary", some "grants") ["self", "at"] (spRels K (·.2)) := by
  obtain ⟨fd, F⟩ := T.d_Primary_grants
  have cs := ok_Primary_number_at (P := P) (w := w) T
  obtain ⟨fd1, F1, b1⟩ := cs.ex
  have cs2 := ok_Primary_at_number (P := P) (w := w) T
  obtain ⟨fd2, F2, b2⟩ := cs2.ex
  refine ⟨⟨fd, FunD.ok F sc_Primary_grants (fun vs H Q E h => ?_) (fun cdv A outer s H vs Q E hr h => ?_), FunD.bindsN F fun _ _ _ _ _ _ us hl => match us, hl with | [_, _], _ => rfl⟩, F.kp⟩
  · obtain ⟨p, D, c, f, rs, at_, n, r, rfl, _⟩ := h
    rfl
  · obtain ⟨p, D, c, f, rs, at_, n, r, rfl, hP, hO, hA, hn, ht, q⟩ := h
    refine ⟨_, pss_one (ps_ret (pe_callTy call_list_of (by rfl) T.f_list (by decide +kernel) (pa_cons (pe_fld (pe_meth (pv 0) T.c_Primary T.m_Primary_at_number F2 (hr.mono (by decide)) b2 .nil pass0 (pa_cons (pe_meth (pv 0) T.c_Primary T.m_Primary_number_at F1 hr b1 .nil pass0 (pa_cons (pv 1) pa_nil)) pa_nil)) rfl) pa_nil))), ?_⟩
    have hle := hA.le hO
    refine ⟨_, rfl, p, c.1, _, rfl, hP.ob, rfl, _, rfl, p, c.1, _, rfl, hP.ob, rfl, _, rfl, p, D, c, f, rs, at_, n, rfl, hP, hO, hA, ht, fun H1 k1 => ?_⟩
    refine ⟨p, D, c, f, rs, n, r, rfl, hP.kp0 k1, hle.1, hn, fun H2 v k2 hv => ?_⟩
    obtain ⟨x, dx, sc, rl, tb, rfl, _, _, _, ex, hs, hrl, ⟨vs, ev, pr⟩⟩ := hv
    refine ⟨x, _, dx, _, _, rfl, ex, T.c_Revision, T.n_Revision_table, rfl, tb, vs, rfl, .inl (SqL.of ev), fun l hl => ?_⟩
    have k3 : Kp Nil H2 (upd H2 l (.lst vs)) := Kp.new hl
    exact q _ l (k1.trans (k2.trans k3)) ((k1.trans k2).fr _ hl) ⟨vs, upd_same, Tri.prs k3 pr⟩
def spSnap (K : PySem.W.Frag) : Sp := fun vs H Q _ => ∃ p D c f rs at_ n r, vs = [.ref p, .str at_] ∧ PrimAt K D H p c f rs ∧ PrimOk f rs ∧ AtIs at_ f rs n ∧ rs[n - f]? = some r ∧ Tabs K H ∧ ∀ H' t l, Kp Nil H H' → H l = none → H' t = some (.tup [.str "main", .int (n : Int), .ref l]) → TriL H' l r.2 → Q (.ref t) H'
theorem sc_Primary_snapshot : FnScope ["self", "at", "number"] ["self", "at"] (defScope s_Primary_snapshot) := ⟨rfl, rfl, rfl, by decide +kernel, rfl, by decide +kernel, by decide +kernel⟩
theorem ok_Primary_snapshot (T : Top K mg base) : Cal P w K mg base CX0 8 ("Primary", some "snapshot") ["self", "at"] (spSnap K) := by
  obtain ⟨fd, F⟩ := T.d_Primary_snapshot
  have cs := ok_Primary_number_at (P := P) (w := w) T
  obtain ⟨fd1, F1, b1⟩ := cs.ex
  have cs2 := ok_Primary_at_number (P := P) (w := w) T
  obtain ⟨fd2, F2, b2⟩ := cs2.ex
  refine ⟨⟨fd, FunD.ok F sc_Primary_snapshot (fun vs H Q E h => ?_) (fun cdv A outer s H vs Q E hr h => ?_), FunD.bindsN F fun _ _ _ _ _ _ us hl => match us, hl with | [_, _], _ => rfl⟩, F.kp⟩
  · obtain ⟨p, D, c, f, rs, at_, n, r, rfl, _⟩ := h
    rfl
  · obtain ⟨p, D, c, f, rs, at_, n, r, rfl, hP, hO, hA, hn, ht, q⟩ := h
    have nd := sc_Primary_snapshot.nd
    refine ⟨_, pss_cons (ps_set (i := 2) nd rfl (.inl rfl) (pe_meth (pv 0) T.c_Primary T.m_Primary_number_at F1 hr b1 .nil pass0 (pa_cons (pv 1) pa_nil)))
      (pss_one (ps_ret (pe_tup (pa_cons (pe_fld (pv 0) rfl) (pa_cons (pv 2) (pa_cons (pe_callTy call_list_of (by rfl) T.f_list (by decide +kernel) (pa_cons (pe_fld (pe_meth (pv 0) T.c_Primary T.m_Primary_at_number F2 (hr.mono (by decide)) b2 .nil pass0 (pa_cons (pv 2) pa_nil)) rfl) pa_nil)) pa_nil)))))), ?_⟩
    have hle := hA.le hO
    refine ⟨_, rfl, p, c.1, _, rfl, hP.ob, rfl, _, rfl, p, D, c, f, rs, at_, n, rfl, hP, hO, hA, ht, fun H1 k1 => ?_⟩
    have P1 := hP.kp0 k1
    refine ⟨_, rfl, p, _, c.1, _, _, rfl, P1.ob, T.c_Primary, T.n_Primary_name, rfl, _, rfl, _, rfl, p, c.1, _, rfl, P1.ob, rfl, _, rfl, p, D, c, f, rs, n, r, rfl, P1, hle.1, hn, fun H2 v k2 hv => ?_⟩
    obtain ⟨x, dx, sc, rl, tb, rfl, _, _, _, ex, hs, hrl, ⟨vs, ev, pr⟩⟩ := hv
    refine ⟨x, _, dx, _, _, rfl, ex, T.c_Revision, T.n_Revision_table, rfl, tb, vs, rfl, .inl (SqL.of ev), fun l hl => ⟨by show 3 ≤ sizeLine; decide, fun t ht2 => ?_⟩⟩
    have k3 : Kp Nil H2 (upd H2 l (.lst vs)) := Kp.new hl
    have k4 : Kp Nil (upd H2 l (.lst vs)) (upd (upd H2 l (.lst vs)) t (.tup [.str "main", .int (n : Int), .ref l])) := Kp.new ht2
    exact q _ t l (k1.trans (k2.trans (k3.trans k4))) ((k1.trans k2).fr _ hl) upd_same ⟨vs, k4.lst0 upd_same, Tri.prs (k3.trans k4) pr⟩
/-! ### check -/
def spPChk (K : PySem.W.Frag) : Sp := fun vs H Q _ => ∃ p D c f rs at_ n r d m u, vs = [.ref p, .str d, .str m, .str u, .str at_] ∧ PrimAt K D H p c f rs ∧ PrimOk f rs ∧ AtIs at_ f rs n ∧ rs[n - f]? = some r ∧ Tabs K H ∧ Quest d m u ∧
  ∀ H' t, Kp Nil H H' → H' t = some (.tup [.bl (decide ((d, m, u) ∈ r.2)), .str (tok n)]) → Q (.ref t) H'
theorem sc_Primary_check : FnScope ["self", "target", "name", "subject", "at", "number", "revision"] ["self", "target", "name", "subject", "at"] (defScope s_Primary_check) := ⟨rfl, rfl, rfl, by decide +kernel, rfl, by decide +kernel, by decide +kernel⟩
theorem ok_Primary_check (T : Top K mg base) : Cal P w K mg base CX0 8 ("Primary", some "check") ["self", "target", "name", "subject", "at"] (spPChk K) := by
  obtain ⟨fd, F⟩ := T.d_Primary_check
  have cs := ok_Primary_number_at (P := P) (w := w) T
  obtain ⟨fd1, F1, b1⟩ := cs.ex
  have cs2 := ok_Primary_at_number (P := P) (w := w) T
  obtain ⟨fd2, F2, b2⟩ := cs2.ex
  have cs3 := ok_check_question (P := P) (w := w) T
  obtain ⟨fd3, F3, b3⟩ := cs3.ex
  have cs4 := ok_token_of (P := P) (w := w) T
  obtain ⟨fd4, F4, b4⟩ := cs4.ex
  refine ⟨⟨fd, FunD.ok F sc_Primary_check (fun vs H Q E h => ?_) (fun cdv A outer s H vs Q E hr h => ?_), FunD.bindsN F fun _ _ _ _ _ _ us hl => match us, hl with | [_, _, _, _, _], _ => rfl⟩, F.kp⟩
  · obtain ⟨p, D, c, f, rs, at_, n, r, d, m, u, rfl, _⟩ := h
    rfl
  · obtain ⟨p, D, c, f, rs, at_, n, r, d, m, u, rfl, hP, hO, hA, hn, ht, hq, q⟩ := h
    have nd := sc_Primary_check.nd
    refine ⟨_, pss_cons (ps_set (i := 5) nd rfl (.inl rfl) (pe_meth (pv 0) T.c_Primary T.m_Primary_number_at F1 hr b1 .nil pass0 (pa_cons (pv 4) pa_nil)))
      (pss_cons (ps_set (i := 6) nd rfl (.inl rfl) (pe_meth (pv 0) T.c_Primary T.m_Primary_at_number F2 (hr.mono (by decide)) b2 .nil pass0 (pa_cons (pv 5) pa_nil)))
      (pss_cons (ps_expr (pe_call F3 (hr.mono (by decide)) rfl T.g_check_question cs3.kp b3 .nil pass0 (pa_cons (pe_fld (pv 6) rfl) (pa_cons (pv 1) (pa_cons (pv 2) (pa_cons (pv 3) pa_nil))))))
      (pss_one (ps_ret (pe_tup (pa_cons (pe_cmpR (op_inP hr.units) (pe_tup (pa_cons (pv 1) (pa_cons (pv 2) (pa_cons (pv 3) pa_nil)))) (pe_fld (pv 6) rfl) rfl)
        (pa_cons (pe_call F4 (hr.mono (by decide)) rfl T.g_token_of cs4.kp b4 .nil pass0 (pa_cons (pe_fld (pv 0) rfl) (pa_cons (pv 5) pa_nil))) pa_nil))))))), ?_⟩
    have hle := hA.le hO
    refine ⟨_, rfl, p, c.1, _, rfl, hP.ob, rfl, _, rfl, p, D, c, f, rs, at_, n, rfl, hP, hO, hA, ht, fun H1 k1 => ?_⟩
    have P1 := hP.kp0 k1
    refine ⟨_, rfl, p, c.1, _, rfl, P1.ob, rfl, _, rfl, p, D, c, f, rs, n, r, rfl, P1, hle.1, hn, fun H2 v k2 hv => ?_⟩
    obtain ⟨x, dx, sc, rl, tb, rfl, _, _, _, ex, hs, hrl, hT⟩ := hv
    have k12 := k1.trans k2
    refine ⟨_, rfl, x, _, dx, _, _, rfl, ex, T.c_Revision, T.n_Revision_schema, rfl, _, rfl, _, rfl, _, rfl, sc, d, m, u, rfl, hs, hq, fun H3 k3 => ?_⟩
    refine ⟨_, rfl, _, rfl, _, rfl, by show 3 ≤ sizeLine; decide, fun t3 ht3 => ?_⟩
    have k4 : Kp Nil H3 (upd H3 t3 (.tup [.str d, .str m, .str u])) := Kp.new ht3
    have k34 := k3.trans k4
    obtain ⟨vs, ev, pr⟩ := hT.kp0 k34
    refine ⟨_, rfl, x, _, dx, _, _, rfl, k34.ins0 ex, T.c_Revision, T.n_Revision_table, rfl, tb, vs, r.2.map l3, l3 (d, m, u), ⟨t3, rfl, upd_same⟩, rfl, .inl (SqL.of ev), tris_part pr, ?_⟩
    have k14 := k12.trans k34
    refine ⟨_, rfl, p, _, c.1, _, _, rfl, k14.ins0 hP.ob, T.c_Primary, T.n_Primary_name, rfl, _, rfl, "main", _, rfl, by decide +kernel, by omega, by omega, by show 2 ≤ sizeLine; decide, fun t2 ht2 => ?_⟩
    have k5 := Kp.new (S := Nil) (o := .tup [.bl (if false = true then !decide (l3 (d, m, u) ∈ r.2.map l3) else decide (l3 (d, m, u) ∈ r.2.map l3)), .str (tokS "main" (n : Int))]) ht2
    refine q _ t2 (k14.trans k5) ?_
    rw [upd_same, if_neg (by decide), mem_l3]
    rfl
/-! ### entry -/
def spEntry (K : PySem.W.Frag) : Sp := fun vs H Q _ => ∃ p D c f rs, ∃ n : Nat, ∃ r0 r1, vs = [.ref p, .int (n : Int)] ∧ PrimAt K D H p c f rs ∧ PrimOk f rs ∧ f + 1 ≤ n ∧ n ≤ rv f rs ∧ rs[n - 1 - f]? = some r0 ∧ rs[n - f]? = some r1 ∧
  ∀ H' t g l, Kp Nil H H' → H' t = some (.tup [.str "main", .int (n : Int), .ref g, .ref l]) → TriL H' g (sortT (without r1.2 r0.2)) → TriL H' l (sortT (without r0.2 r1.2)) → Q (.ref t) H'
theorem sc_Primary_entry : FnScope ["self", "number", "gained", "lost"] ["self", "number"] (defScope s_Primary_entry) := ⟨rfl, rfl, rfl, by decide +kernel, rfl, by decide +kernel, by decide +kernel⟩
theorem ok_Primary_entry (T : Top K mg base) : Cal P w K mg base CX0 3 ("Primary", some "entry") ["self", "number"] (spEntry K) := by
  obtain ⟨fd, F⟩ := T.d_Primary_entry
  have cs := ok_Primary_check_revision (P := P) (w := w) T
  obtain ⟨fd1, F1, b1⟩ := cs.ex
  have cs2 := ok_Primary_at_number (P := P) (w := w) T
  obtain ⟨fd2, F2, b2⟩ := cs2.ex
  have cs3 := ok_difference (P := P) (w := w) T
  obtain ⟨fd3, F3, b3⟩ := cs3.ex
  refine ⟨⟨fd, FunD.ok F sc_Primary_entry (fun vs H Q E h => ?_) (fun cdv A outer s H vs Q E hr h => ?_), FunD.bindsN F fun _ _ _ _ _ _ us hl => match us, hl with | [_, _], _ => rfl⟩, F.kp⟩
  · obtain ⟨p, D, c, f, rs, n, r0, r1, rfl, _⟩ := h
    rfl
  · obtain ⟨p, D, c, f, rs, n, r0, r1, rfl, hP, hO, hf, hn, h0, h1, q⟩ := h
    have nd := sc_Primary_entry.nd
    refine ⟨_, pss_cons (ps_expr (pe_meth (pv 0) T.c_Primary T.m_Primary_check_revision F1 hr b1 .nil pass0 (pa_cons (pv 1) (pa_cons (pe_op op_add (pe_fld (pv 0) rfl) pe_int) pa_nil))))
      (pss_cons (ps_asg (pe_call F3 (hr.mono (by decide)) rfl T.g_difference cs3.kp b3 .nil pass0 (pa_cons (pe_fld (pe_meth (pv 0) T.c_Primary T.m_Primary_at_number F2 (hr.mono (by decide)) b2 .nil pass0 (pa_cons (pe_op op_sub (pv 1) pe_int) pa_nil)) rfl)
          (pa_cons (pe_fld (pe_meth (pv 0) T.c_Primary T.m_Primary_at_number F2 (hr.mono (by decide)) b2 .nil pass0 (pa_cons (pv 1) pa_nil)) rfl) pa_nil))) (pg_tup rfl (pgs_cons (pg_name (i := 2) nd rfl (.inl rfl)) (pgs_cons (pg_name (i := 3) nd rfl (.inl rfl)) pgs_nil))))
      (pss_one (ps_ret (pe_tup (pa_cons (pe_fld (pv 0) rfl) (pa_cons (pv 1) (pa_cons (pv 2) (pa_cons (pv 3) pa_nil)))))))), ?_⟩
    refine ⟨_, rfl, p, c.1, _, rfl, hP.ob, rfl, _, rfl, _, rfl, p, _, c.1, _, _, rfl, hP.ob, T.c_Primary, T.n_Primary_first, rfl, _, _, rfl, rfl, p, D, c, f, rs, n, f + 1, rfl, hP, hO, hf, hn, fun H1 k1 => ?_⟩
    have P1 := hP.kp0 k1
    refine ⟨_, rfl, p, c.1, _, rfl, P1.ob, rfl, _, rfl, _, _, rfl, rfl, p, D, c, f, rs, n - 1, r0, by show [V.ref p, V.int ((n : Int) - 1)] = _; rw [show (n : Int) - 1 = ((n - 1 : Nat) : Int) by omega], P1, by omega, h0, fun H2 v0 k2 hv0 => ?_⟩
    obtain ⟨x0, dx0, sc0, rl0, tb0, rfl, _, _, _, ex0, _, _, hT0⟩ := hv0
    refine ⟨x0, _, dx0, _, _, rfl, ex0, T.c_Revision, T.n_Revision_table, rfl, ?_⟩
    have P2 := P1.kp0 k2
    refine ⟨_, rfl, p, c.1, _, rfl, P2.ob, rfl, _, rfl, p, D, c, f, rs, n, r1, rfl, P2, by omega, h1, fun H3 v1 k3 hv1 => ?_⟩
    obtain ⟨x1, dx1, sc1, rl1, tb1, rfl, _, _, _, ex1, _, _, hT1⟩ := hv1
    have ok0 := hO.ok r0 (List.mem_of_getElem? h0)
    have ok1 := hO.ok r1 (List.mem_of_getElem? h1)
    refine ⟨x1, _, dx1, _, _, rfl, ex1, T.c_Revision, T.n_Revision_table, rfl, tb0, tb1, r0.2, r1.2, rfl, ⟨hT0.kp0 k3, ok0.tnd, by have := ok0.tl; omega⟩, ⟨hT1, ok1.tnd, by have := ok1.tl; omega⟩, fun H4 t g l k4 et hg hl => ?_⟩
    have k14 := k1.trans (k2.trans (k3.trans k4))
    refine ⟨t, _, rfl, SqT.of et, rfl, _, _, rfl, _, _, rfl, rfl, ?_⟩
    refine ⟨_, rfl, p, _, c.1, _, _, rfl, k14.ins0 hP.ob, T.c_Primary, T.n_Primary_name, rfl, _, rfl, _, rfl, _, rfl, by show 4 ≤ sizeLine; decide, fun t2 ht2 => ?_⟩
    have k5 : Kp Nil H4 (upd H4 t2 (.tup [.str "main", .int (n : Int), .ref g, .ref l])) := Kp.new ht2
    exact q _ t2 g l (k14.trans k5) upd_same (hg.kp0 k5) (hl.kp0 k5)
end
end Au
/-! Authsync: the primary's writers: check_update, after_updates. -/
namespace Au
open PySem PySem.Spec PyProof.Rows L2
/-- one update -/
def UpdAt (H : Hp) (ul : Addr) (kd : Str) (t : T3) : Prop := ∃ u, H ul = some (.lst [.ref u]) ∧ H u = some (.tup [.str kd, .str t.1, .str t.2.1, .str t.2.2])
theorem UpdAt.kp0 {H H' : Hp} (k : Kp Nil H H') {ul : Addr} {kd : Str} {t : T3} (h : UpdAt H ul kd t) : UpdAt H' ul kd t := by
  obtain ⟨u, e1, e2⟩ := h
  exact ⟨u, k.lst0 e1, k.tup0 e2⟩
def KindOk (kd : Str) (t : T3) (ks : List T3) : Prop := kd = "touch" ∨ (kd = "delete" ∧ t ∈ ks)
theorem cut_14 (a b c d : V) : cutV [a, b, c, d] (some 1) none = [b, c, d] := rfl
/-- u[1:], u an update -/
theorem rd_cut {K : PySem.W.Frag} {σ : L2.St} {H : Hp} {u : Addr} {kd : Str} {t : T3} {te : TE} {Q : VK} (hte : ∀ R : VK, (∀ H', Kp Nil H H' → R (.ref u) H') → te σ H R) (e : H u = some (.tup [.str kd, .str t.1, .str t.2.1, .str t.2.2])) (h : ∀ H' v, Kp Nil H H' → Tri H' v t → Q v H') :
    tSl (rSlT K) te (tPart (tC (.int 1))) tNoPart σ H Q := by
  refine hte _ fun H1 k1 => ⟨1, rfl, u, _, rfl, SqT.of (k1.tup0 e), by show ¬ (HT.sIx 4 0 (some 1) = 0 ∧ HT.sIx 4 4 none = 4); decide, fun p hp => ?_⟩
  have k2 := Kp.new (S := Nil) (o := .tup (cutV [.str kd, .str t.1, .str t.2.1, .str t.2.2] (some 1) none)) hp
  exact h _ _ (k1.trans k2) ⟨p, rfl, upd_same⟩
def spChkUpd (K : PySem.W.Frag) : Sp := fun vs H Q _ => ∃ p D c f rs ul kd t kn ks, vs = [.ref p, .int 0, .ref ul, .ref kn] ∧ PrimAt K D H p c f rs ∧ rs ≠ [] ∧ UpdAt H ul kd t ∧ TriL H kn ks ∧ t ∈ U ∧ KindOk kd t ks ∧ ∀ H', Kp Nil H H' → Q .non H'
section
variable {P : Program} {w : World} {K : PySem.W.Frag} {mg : Str → Option Value} {base : Heap}
abbrev N_cu : List Str := ["self", "index", "updates", "known", "kind", "relationship", "update"]
theorem sc_check_update : FnScope N_cu ["self", "index", "updates", "known"] (defScope s_Primary_check_update) := ⟨rfl, rfl, rfl, by decide +kernel, rfl, by decide +kernel, by decide +kernel⟩
theorem PrimAt.last {D : Addr → Prop} {H : Hp} {p : Addr} {c : Addr × Addr} {f : Nat} {rs : List Rev} (h : PrimAt K D H p c f rs) (ne : rs ≠ []) : ∃ xs v r, H c.2 = some (.lst xs) ∧ atI xs (-1) = some v ∧ RevAt K D H v r ∧ rs.getLast? = some r := by
  have hp := List.length_pos_iff.mpr ne
  obtain ⟨xs, v, ex, hl, hv, hr⟩ := h.revs (n := rs.length - 1) (List.getElem?_eq_getElem (by omega))
  have nx : xs ≠ [] := fun z => by rw [z] at hl; rw [← hl] at hp; exact absurd hp (Nat.lt_irrefl _)
  refine ⟨xs, v, _, ex, ?_, hr, ?_⟩
  · unfold atI
    rw [ixN_last nx, hl]
    exact hv
  · rw [List.getLast?_eq_getElem?, List.getElem?_eq_getElem]
theorem ok_check_update (T : Top K mg base) : Cal P w K mg base CX0 4 ("Primary", some "check_update") ["self", "index", "updates", "known"] (spChkUpd K) := by
  obtain ⟨fd, F⟩ := T.d_Primary_check_update
  have cs := ok_conforms (P := P) (w := w) T
  obtain ⟨fd1, F1, b1⟩ := cs.ex
  refine ⟨⟨fd, FunD.ok F sc_check_update (fun vs H Q E h => ?_) (fun cdv A outer s H vs Q E hr h => ?_), FunD.bindsN F fun _ _ _ _ _ _ us hl => match us, hl with | [_, _, _, _], _ => rfl⟩, F.kp⟩
  · obtain ⟨p, D, c, f, rs, ul, kd, t, kn, ks, rfl, _⟩ := h
    rfl
  · obtain ⟨p, D, c, f, rs, ul, kd, t, kn, ks, rfl, hP, hne, hU, hT, htU, hk, q⟩ := h
    have nd := sc_check_update.nd
    refine ⟨_, pss_cons (ps_set (i := 4) nd rfl (.inl rfl) (pe_ix ix_tup (pe_ix ix_list (pv 2) (pv 1) (fun _ _ => rfl)) pe_int (fun _ _ => rfl)))
      (pss_cons (ps_set (i := 5) nd rfl (.inl rfl) (pe_slice sl_tup (pe_ix ix_list (pv 2) (pv 1) (fun _ _ => rfl)) (po_some pe_int) po_none))
      (pss_cons (ps_if (pt_not (pt_val (pe_call F1 hr rfl T.g_conforms cs.kp b1 .nil pass0 (pa_cons (pe_fld (pe_ix ix_list (pe_fld (pv 0) rfl) (pe_un un_neg pe_int) (fun _ _ => rfl)) rfl) (pa_cons (pv 5) pa_nil))))) (pss_one ps_never) pss_nil)
      (pss_cons (ps_if (pt_cmpR (op_inP hr.units) (pv 5) (pe_lc (te := tSl (rSlT K) (tVar 6) (tPart (tC (.int 1))) tNoPart) (own := [("update", 6)]) rfl nd (pi_list (pe_slice sl_list (pv 2) po_none (po_some (pv 1)))) (blkOk_by (N := N_cu) (sc := defScope s_Primary_check_update) (by decide +kernel))
          (fun _ _ _ _ _ => pg_name (i := 6) nd rfl (.inl rfl)) (fun _ _ _ _ _ => pts_nil) (fun _ _ _ _ _ => pe_slice sl_tup (pv 6) (po_some pe_int) po_none)) rfl) (pss_one ps_never) pss_nil)
      (pss_cons (ps_if (PW.pt (pw_and (pt_cmpR op_eq (pv 4) pe_str (nomark _)) (pw_and1 pt_never))) (pss_one ps_never) pss_nil)
      (pss_one (ps_if (PW.pt (pw_and (pt_cmpR op_eq (pv 4) pe_str (nomark _)) (pw_and1 (pt_cmpR (op_notInP hr.units) (pv 5) (pv 3) rfl)))) (pss_one ps_never) pss_nil)))))), ?_⟩
    obtain ⟨u, eul, eu⟩ := id hU
    refine ⟨_, rfl, _, rfl, ul, _, 0, .ref u, rfl, rfl, SqL.of eul, rfl, u, _, 0, _, rfl, rfl, SqT.of eu, rfl, ?_⟩
    delta gName tSeq tAsg; dsimp only
    refine rd_cut (K := K) (u := u) (kd := kd) (t := t) (fun R hR => ⟨_, rfl, _, rfl, ul, _, 0, .ref u, rfl, rfl, SqL.of eul, rfl, hR H Kp.refl⟩) eu fun H1 v k1 hv => ?_
    have P1 := hP.kp0 k1
    obtain ⟨xs, lv, r, ex, hlv, hlr, _⟩ := P1.last hne
    obtain ⟨x, dx, sc, rl, tb, rfl, _, _, _, exx, hs, _, _⟩ := hlr
    refine ⟨_, rfl, p, _, c.1, _, _, rfl, P1.ob, T.c_Primary, T.n_Primary_revisions, rfl, _, rfl, c.2, xs, -1, .ref x, rfl, rfl, SqL.of ex, hlv, x, _, dx, _, _, rfl, exx, T.c_Revision, T.n_Revision_schema, rfl, _, rfl, sc, v, t, rfl, hs, hv, conf_U t htU, fun H2 k2 => ⟨true, rfl, iteF ?_⟩⟩
    have k12 := k1.trans k2
    refine ⟨_, rfl, _, rfl, _, rfl, _, rfl, ul, _, rfl, SqL.of (k12.lst0 eul), fun ls hls => ?_⟩
    have k3 : Kp Nil H2 (upd H2 ls (.lst [])) := Kp.new hls
    have els : (upd H2 ls (.lst [])) ls = some (.lst []) := upd_same
    refine ⟨ls, rfl, ⟨_, SqL.of els⟩, fun Dl hDl => ?_⟩
    refine lc_sel (walk_list (K := K) (a := ls) (xs := [])) PartAt PartAt.stays (fun _ => none) (g := gName 6) (tt := tYes) (te := tSl (rSlT K) (tVar 6) (tPart (tC (.int 1))) tNoPart) (vs := [6]) (σ := [some (.ref p), some (.int 0), some (.ref ul), some (.ref kn), some (.str kd), some v, none]) hDl (Nat.zero_le _) (fun H' k' => SqL.of (k'.lst0 els)) (fun i x H1 H2 N M hi k1 y hN hM => ?_) fun H3 ys k3' hd3 pr3 => ?_
    · exact absurd hi (Nat.not_lt_zero _)
    have k13 := k12.trans (k3.trans k3')
    have hv3 : Tri H3 v t := (hv.kp0 k2).kp0 (k3.trans k3')
    refine ⟨Dl, ys, [], l3 t, hv3, rfl, .inl (SqL.of hd3), pr3, _, rfl, iteN (by rw [if_neg (by decide)]; exact decide_eq_false (fun z => by cases z)) ?_⟩
    refine ⟨_, rfl, rfl, _, rfl, iteN ?_ (iteF ?_)⟩
    · rcases hk with h | ⟨h, _⟩ <;> rw [h] <;> decide +kernel
    · refine ⟨_, rfl, rfl, _, rfl, itb (fun c1 => ?_) fun c1 => ?_⟩
      · have hmem : t ∈ ks := by
          rcases hk with h | ⟨_, h⟩
          · rw [h] at c1; exact absurd c1 (by decide +kernel)
          · exact h
        obtain ⟨vs, ev, pr⟩ := hT.kp0 k13
        refine ⟨_, rfl, _, rfl, kn, vs, ks.map l3, l3 t, hv3, rfl, .inl (SqL.of ev), tris_part pr, _, rfl, ?_⟩
        rw [if_pos rfl, mem_l3, decide_eq_true hmem]
        exact iteF (q H3 k13)
      · exact iteF (q H3 k13)
end
end Au
/-! Authsync: after_updates, write, compact, Primary(..). -/
namespace Au
open PySem PySem.Spec PyProof.Rows L2
def delL (kd : Str) (t : T3) : List T3 := if kd = "delete" then [t] else []
def putL (ks : List T3) (kd : Str) (t : T3) : List T3 := if kd = "delete" then [] else if t ∈ ks then [] else [t]
def newRels (ks : List T3) (kd : Str) (t : T3) : List T3 := without ks (delL kd t) ++ putL ks kd t
theorem newRels_sub {ks : List T3} {kd : Str} {t : T3} (h : ∀ x ∈ ks, x ∈ U) (ht : t ∈ U) : ∀ x ∈ newRels ks kd t, x ∈ U := by
  intro x hx
  unfold newRels at hx
  rcases List.mem_append.mp hx with hx | hx
  · exact h x (List.mem_filter.mp hx).1
  · unfold putL at hx
    split at hx
    · cases hx
    · split at hx
      · cases hx
      · rw [List.mem_singleton.mp hx]
        exact ht
theorem newRels_nodup {ks : List T3} {kd : Str} {t : T3} (h : ks.Nodup) : (newRels ks kd t).Nodup := by
  have hf : (without ks (delL kd t)).Nodup := List.Nodup.sublist List.filter_sublist h
  unfold newRels putL
  split
  · rw [List.append_nil]
    exact hf
  · split
    · rw [List.append_nil]
      exact hf
    · rename_i hn
      refine List.nodup_append.mpr ⟨hf, List.nodup_cons.mpr ⟨by simp, List.nodup_nil⟩, fun a ha b hb => ?_⟩
      have hb : b = t := List.mem_singleton.mp hb
      exact fun e => hn (by rw [← hb, ← e]; exact (List.mem_filter.mp ha).1)
theorem sel_without (dl : List T3) : ∀ ks : List T3, ks.filterMap (fun x => if x ∈ dl then none else some x) = without ks dl
  | [] => rfl
  | x :: ks => by
    unfold without
    rw [List.filterMap_cons, List.filter_cons]
    by_cases h : x ∈ dl
    · rw [if_pos h, if_neg (by rw [decide_eq_true_eq]; exact fun z => z h)]
      exact sel_without dl ks
    · rw [if_neg h, if_pos (decide_eq_true h)]
      show x :: _ = _
      rw [sel_without dl ks]
      rfl
theorem Tri.stays : Stays Tri := fun _ _ _ _ _ k t h => h.kp k t
def spAfterU (K : PySem.W.Frag) : Sp := fun vs H Q _ => ∃ p D c f rs ul kd t r, vs = [.ref p, .ref ul] ∧ PrimAt K D H p c f rs ∧ PrimOk f rs ∧ rv f rs < 40 ∧ UpdAt H ul kd t ∧ t ∈ U ∧ rs.getLast? = some r ∧ KindOk kd t r.1 ∧
  ∀ H' v r', Kp Nil H H' → RevAt K (fun b => H b = none) H' v r' → RevOk r' → r'.1 = sortT (newRels r.1 kd t) → Q v H'
section
variable {P : Program} {w : World} {K : PySem.W.Frag} {mg : Str → Option Value} {base : Heap}
abbrev N_au : List Str := ["self", "updates", "known", "index", "deleted", "put", "relationships", "update", "relationship"]
theorem sc_after_updates : FnScope N_au ["self", "updates"] (defScope s_Primary_after_updates) := ⟨rfl, rfl, rfl, by decide +kernel, rfl, by decide +kernel, by decide +kernel⟩
theorem ok_after_updates (T : Top K mg base) : Cal P w K mg base CX0 10 ("Primary", some "after_updates") ["self", "updates"] (spAfterU K) := by
  obtain ⟨fd, F⟩ := T.d_Primary_after_updates
  have cs := ok_Primary_check_room (P := P) (w := w) T
  obtain ⟨fd1, F1, b1⟩ := cs.ex
  have cs2 := ok_check_update (P := P) (w := w) T
  obtain ⟨fd2, F2, b2⟩ := cs2.ex
  have cs3 := ok_Revision_init (P := P) (w := w) T
  obtain ⟨fd3, F3, b3⟩ := cs3.ex
  obtain ⟨tm, em⟩ := T.i_MOST_RELATIONSHIPS
  refine ⟨⟨fd, FunD.ok F sc_after_updates (fun vs H Q E h => ?_) (fun cdv A outer s H vs Q E hr h => ?_), FunD.bindsN F fun _ _ _ _ _ _ us hl => match us, hl with | [_, _], _ => rfl⟩, F.kp⟩
  · obtain ⟨p, D, c, f, rs, ul, kd, t, r, rfl, _⟩ := h
    rfl
  · obtain ⟨p, D, c, f, rs, ul, kd, t, r, rfl, hP, hO, hlt, hU, htU, hlast, hk, q⟩ := h
    have nd := sc_after_updates.nd
    refine ⟨_, pss_cons (ps_expr (pe_meth0 (pv 0) T.c_Primary T.m_Primary_check_room F1 (hr.mono (by decide)) b1 .nil pass0))
      (pss_cons (ps_set (i := 2) nd rfl (.inr rfl) (pe_fld (pe_ix ix_list (pe_fld (pv 0) rfl) (pe_un un_neg pe_int) (fun _ _ => rfl)) rfl))
      (pss_cons (ps_for (passes_of rfl) rfl (pi_range1 (by rfl) T.f_range (pa_cons (pe_callB call_len_seq (by rfl) T.f_len PySem.boot_len (pa_cons (pv 1) pa_nil)) pa_nil)) (pg_name (i := 3) nd rfl (.inl rfl))
        (pss_one (ps_expr (pe_meth (pv 0) T.c_Primary T.m_Primary_check_update F2 (hr.mono (by decide)) b2 .nil pass0 (pa_cons (pv 3) (pa_cons (pv 1) (pa_cons (pv 2) pa_nil)))))))
      (pss_cons (ps_set (i := 4) nd rfl (.inr rfl) (pe_lc (tt := tTest (tOp rEq (tOp (rIxT K) (tVar 7) (tC (.int 0))) (tC (.str "delete")))) (te := tSl (rSlT K) (tVar 7) (tPart (tC (.int 1))) tNoPart) (own := [("update", 7)]) rfl nd (pi_list (pv 1)) (blkOk_by (N := N_au) (sc := defScope s_Primary_after_updates) (by decide +kernel))
          (fun _ _ _ _ _ => pg_name (i := 7) nd rfl (.inl rfl)) (fun _ _ _ _ _ => pts_one (pt_cmpR op_eq (pe_ix ix_tup (pv 7) pe_int (fun _ _ => rfl)) pe_str (nomark _))) (fun _ _ _ _ _ => pe_slice sl_tup (pv 7) (po_some pe_int) po_none)))
      (pss_cons (ps_setLc (i := 5) (tt := tAnd (tTest (tOp rNe (tOp (rIxT K) (tVar 7) (tC (.int 0))) (tC (.str "delete")))) (tTest (tOp (rInP K true) (tSl (rSlT K) (tVar 7) (tPart (tC (.int 1))) tNoPart) (tVar 2)))) (te := tSl (rSlT K) (tVar 7) (tPart (tC (.int 1))) tNoPart) (own := [("update", 7)]) rfl nd rfl rfl (sw_true rfl rfl rfl rfl) (pi_list (pv 1)) (blkOk_by (N := N_au) (sc := defScope s_Primary_after_updates) (by decide +kernel))
          (fun _ _ _ _ _ => pg_name (i := 7) nd rfl (.inl rfl)) (fun _ _ _ _ _ => pts_one (PW.pt (pw_and (pt_cmpR op_ne (pe_ix ix_tup (pv 7) pe_int (fun _ _ => rfl)) pe_str (nomark _)) (pw_and1 (pt_cmpR (op_notInP hr.units) (pe_slice sl_tup (pv 7) (po_some pe_int) po_none) (pv 2) rfl))))) (fun _ _ _ _ _ => pe_slice sl_tup (pv 7) (po_some pe_int) po_none))
      (pss_cons (ps_set (i := 6) nd rfl (.inl rfl) (pe_op op_cat (pe_lc (tt := tTest (tOp (rInP K true) (tVar 8) (tVar 4))) (own := [("relationship", 8)]) rfl nd (pi_list (pv 2)) (blkOk_by (N := N_au) (sc := defScope s_Primary_after_updates) (by decide +kernel))
          (fun _ _ _ _ _ => pg_name (i := 8) nd rfl (.inl rfl)) (fun _ _ _ _ _ => pts_one (pt_cmpR (op_notInP hr.units) (pv 8) (pv 4) rfl)) (fun _ _ _ _ _ => pv 8)) (pv 5)))
      (pss_cons (ps_if (pt_cmpR op_gt (pe_callB call_len_seq (by rfl) T.f_len PySem.boot_len (pa_cons (pv 6) pa_nil)) (pe_glob (v := .int 40) rfl em ⟨_, rfl⟩) (nomark _)) (pss_one ps_never) pss_nil)
      (pss_one (ps_ret (pe_make T.k_Revision F3 hr rfl T.g_Revision b3 .nil pass0 (pa_cons (pe_fld (pe_ix ix_list (pe_fld (pv 0) rfl) (pe_un un_neg pe_int) (fun _ _ => rfl)) rfl) (pa_cons (pv 6) pa_nil))))))))))), ?_⟩
    refine ⟨_, rfl, p, c.1, _, rfl, hP.ob, rfl, p, D, c, f, rs, rfl, hP, hO, hlt, fun H1 k1 => ?_⟩
    have P1 := hP.kp0 k1
    obtain ⟨xs, lv, r', ex, hlv, hlr, hl'⟩ := P1.last hO.ne
    obtain rfl : r = r' := Option.some.inj (hlast.symm.trans hl')
    obtain ⟨x, dx, sc, rl, tb, rfl, _, _, _, exx, hs, hrl, _⟩ := hlr
    have rok := hO.ok r (List.mem_of_getLast? hlast)
    obtain ⟨u, eul, eu⟩ := id hU
    refine ⟨_, rfl, p, _, c.1, _, _, rfl, P1.ob, T.c_Primary, T.n_Primary_revisions, rfl, _, rfl, c.2, xs, -1, .ref x, rfl, rfl, SqL.of ex, hlv, x, _, dx, _, _, rfl, exx, T.c_Revision, T.n_Revision_relationships, rfl, ?_⟩
    refine ⟨_, rfl, ul, _, rfl, .inl (SqL.of (k1.lst0 eul)), _, rfl, by show -(2 ^ 62) ≤ (1 : Int); decide, by show (1 : Int) < 2 ^ 62; decide, ?_⟩
    refine for_it walk_range (fun i σ H' => Kp Nil H1 H' ∧ ∃ x3, σ = [some (.ref p), some (.ref ul), some (.ref rl), x3, none, none, none, none, none]) ⟨Kp.refl, _, rfl⟩ (fun _ _ _ _ _ => trivial) (fun i y σ H2 H3 hi pv y => ?_) fun σ H2 pv => ?_
    · obtain ⟨k2, x3, rfl⟩ := pv
      obtain ⟨rfl, rfl⟩ := y
      obtain rfl : i = 0 := by
        have hi : i < 1 := hi
        omega
      exact ⟨_, rfl, p, c.1, _, rfl, k2.ins0 P1.ob, rfl, _, rfl, _, rfl, _, rfl, p, D, c, f, rs, ul, kd, t, rl, r.1, rfl, P1.kp0 k2, hO.ne, hU.kp0 (k1.trans k2), hrl.kp0 k2, htU, hk, fun H4 k4 => ⟨k2.trans k4, _, rfl⟩⟩
    · obtain ⟨k2, x3, rfl⟩ := pv
      have k12 := k1.trans k2
      have eul2 := k12.lst0 eul
      have eu2 := k12.tup0 eu
      have hrl2 := hrl.kp0 k2
      refine ⟨_, rfl, ul, rfl, ⟨_, SqL.of eul2⟩, fun D1 hD1 => ?_⟩
      refine lc_sel (walk_list (K := K) (a := ul) (xs := [.ref u])) PartAt PartAt.stays (fun _ => if kd = "delete" then some (l3 t) else none) hD1 (by show 1 ≤ 1000000; decide) (fun H' k' => SqL.of (k'.lst0 eul2)) (fun i y H4 H5 N M hi k4 hy hN hM => ?_) fun H4 ds k4 hd4 prd => ?_
      · obtain ⟨rfl, hx⟩ := hy
        have ey : y = .ref u := by
          match i, hi, hx with
          | 0, _, hx => exact (Option.some.inj hx).symm
          | i + 1, hi, _ => exact absurd hi (by show ¬ i + 1 < 1; omega)
        subst ey
        have eu4 := k4.tup0 eu2
        refine ⟨rfl, _, rfl, u, _, 0, _, rfl, rfl, SqT.of eu4, rfl, rfl, _, rfl, itb (fun c1 => ?_) fun c1 => ?_⟩
        · have c1 : kd = "delete" := V.str.inj (of_decide_eq_true c1)
          exact rd_cut (K := K) (u := u) (kd := kd) (t := t) (fun R hR => ⟨_, rfl, hR H5 Kp.refl⟩) eu4 fun H6 v k6 hv => hN v H6 (l3 t) k6 (if_pos c1) hv
        · have c1 : ¬ kd = "delete" := fun z => by rw [z] at c1; exact absurd c1 (by decide +kernel)
          exact hM H5 Kp.refl (if_neg c1)
      have hdl : (List.range [V.ref u].length).filterMap (fun _ => if kd = "delete" then some (l3 t) else none) = (delL kd t).map l3 := by
        unfold delL
        by_cases z : kd = "delete"
        · rw [if_pos z, if_pos z]; rfl
        · rw [if_neg z, if_neg z]; rfl
      rw [hdl] at prd
      have k14 := k12.trans k4
      have hrl4 := hrl2.kp0 k4
      have eul4 := k4.lst0 eul2
      have eu4 := k4.tup0 eu2
      refine ⟨_, rfl, ul, rfl, ⟨_, SqL.of eul4⟩, fun D2 hD2 => ?_⟩
      refine lc_sel (walk_list (K := K) (a := ul) (xs := [.ref u])) Tri Tri.stays (fun _ => if kd = "delete" then none else if t ∈ r.1 then none else some t) hD2 (by show 1 ≤ 1000000; decide) (fun H' k' => SqL.of (k'.lst0 eul4)) (fun i y H5 H6 N M hi k5 hy hN hM => ?_) fun H5 qs k5 hd5 prq => ?_
      · obtain ⟨rfl, hx⟩ := hy
        have ey : y = .ref u := by
          match i, hi, hx with
          | 0, _, hx => exact (Option.some.inj hx).symm
          | i + 1, hi, _ => exact absurd hi (by show ¬ i + 1 < 1; omega)
        subst ey
        have eu6 := k5.tup0 eu4
        refine ⟨rfl, _, rfl, u, _, 0, _, rfl, rfl, SqT.of eu6, rfl, rfl, _, rfl, itb (fun c1 => ?_) fun c1 => ?_⟩
        · have c1 : ¬ kd = "delete" := fun z => by rw [z] at c1; exact absurd c1 (by decide +kernel)
          rw [if_neg c1] at hN hM
          refine rd_cut (K := K) (u := u) (kd := kd) (t := t) (fun R hR => ⟨_, rfl, hR H6 Kp.refl⟩) eu6 fun H7 v k7 hv => ?_
          obtain ⟨vs, ev, pr⟩ := (hrl4.kp0 k5).kp0 k7
          refine ⟨_, rfl, rl, vs, r.1.map l3, l3 t, hv, rfl, .inl (SqL.of ev), tris_part pr, _, rfl, ?_⟩
          rw [if_pos rfl, mem_l3]
          by_cases hm : t ∈ r.1
          · rw [if_pos hm] at hM
            rw [decide_eq_true hm]
            exact iteF (hM H7 k7 rfl)
          · rw [if_neg hm] at hN
            rw [decide_eq_false hm]
            exact iteT (rd_cut (K := K) (u := u) (kd := kd) (t := t) (fun R hR => ⟨_, rfl, hR H7 Kp.refl⟩) (k7.tup0 eu6) fun H8 v k8 hv => hN v H8 t (k7.trans k8) rfl hv)
        · have c1 : kd = "delete" := by
            by_cases z : kd = "delete"
            · exact z
            · rw [decide_eq_false fun q => z (V.str.inj q)] at c1
              cases c1
          exact hM H6 Kp.refl (if_pos c1)
      have hql : (List.range [V.ref u].length).filterMap (fun _ => if kd = "delete" then none else if t ∈ r.1 then none else some t) = putL r.1 kd t := by
        unfold putL
        by_cases z : kd = "delete"
        · rw [if_pos z, if_pos z]; rfl
        · rw [if_neg z, if_neg z]
          by_cases z2 : t ∈ r.1
          · rw [if_pos z2, if_pos z2]; rfl
          · rw [if_neg z2, if_neg z2]; rfl
      rw [hql] at prq
      have hrl5 := hrl4.kp0 k5
      have hd45 := k5.lst0 hd4
      have prd5 := Paired.mapP prd fun _ _ z => PartAt.kp0 k5 z
      obtain ⟨ws, ew, prw⟩ := hrl5
      have hwl : ws.length = r.1.length := prw.length
      have rlen := rok.len
      refine ⟨_, rfl, rl, rfl, ⟨_, SqL.of ew⟩, fun D3 hD3 => ?_⟩
      refine lc_sel (walk_list (K := K) (a := rl) (xs := ws)) Tri Tri.stays (fun i => r.1[i]?.bind fun x => if x ∈ delL kd t then none else some x) hD3 (by omega) (fun H' k' => SqL.of (k'.lst0 ew)) (fun i y H6 H7 N M hi k6 hy hN hM => ?_) fun H6 zs k6 hd6 prz => ?_
      · obtain ⟨rfl, hx⟩ := hy
        obtain ⟨tt, htt, hta⟩ := pair_get prw hx
        rw [htt] at hN hM
        have hta7 := hta.kp0 k6
        refine ⟨rfl, _, rfl, _, rfl, D1, ds, (delL kd t).map l3, l3 tt, hta7, rfl, .inl (SqL.of (k6.lst0 hd45)), Paired.mapP prd5 fun _ _ z => PartAt.kp0 k6 z, _, rfl, ?_⟩
        rw [if_pos rfl, mem_l3]
        by_cases hm : tt ∈ delL kd t
        · rw [decide_eq_true hm]
          exact iteF (hM H7 Kp.refl (if_pos hm))
        · rw [decide_eq_false hm]
          exact iteT ⟨_, rfl, hN _ H7 tt Kp.refl (if_neg hm) hta7⟩
      rw [hwl, range_sel, sel_without] at prz
      have hd56 := k6.lst0 hd5
      have prq6 := Paired.mapP prq fun _ _ z => z.kp0 k6
      have zl : zs.length ≤ 23 := by
        rw [prz.length]
        exact Nat.le_trans (without_len _ _) rlen
      have ql : qs.length ≤ 1 := by
        rw [prq.length]
        unfold putL
        split
        · exact Nat.zero_le _
        · split
          · exact Nat.zero_le _
          · exact Nat.le_refl _
      refine ⟨_, rfl, D3, D2, zs, qs, rfl, rfl, hd6, hd56, by rw [sizeLine_eq]; omega, fun nl hnl => ?_⟩
      have k7 : Kp Nil H6 (upd H6 nl (.lst (zs ++ qs))) := Kp.new hnl
      have enl : (upd H6 nl (.lst (zs ++ qs))) nl = some (.lst (zs ++ qs)) := upd_same
      generalize hH7 : upd H6 nl (.lst (zs ++ qs)) = H7 at k7 enl
      have hNL : TriL H7 nl (newRels r.1 kd t) := ⟨_, enl, Tri.prs k7 (pair_append prz prq6)⟩
      have hsub := newRels_sub (kd := kd) rok.sub htU
      have hnd := newRels_nodup (kd := kd) (t := t) rok.nd
      have hl23 : (newRels r.1 kd t).length ≤ 23 := by
        have := nodup_le hnd hsub
        rw [U_len] at this
        exact this
      have hzq : (zs ++ qs).length = (newRels r.1 kd t).length := (pair_append prz prq6).length
      refine ⟨_, rfl, nl, _, rfl, .inl (SqL.of enl), _, _, rfl, rfl, _, rfl, iteN (decide_eq_false (by omega)) ?_⟩
      have k27 : Kp Nil H2 H7 := k4.trans (k5.trans (k6.trans k7))
      have k17 : Kp Nil H1 H7 := k2.trans k27
      have k07 : Kp Nil H H7 := k1.trans k17
      refine ⟨_, rfl, p, _, c.1, _, _, rfl, k07.ins0 hP.ob, T.c_Primary, T.n_Primary_revisions, rfl, _, rfl, c.2, xs, -1, .ref x, rfl, rfl, SqL.of (k17.lst0 ex), hlv, x, _, dx, _, _, rfl, k17.ins0 exx, T.c_Revision, T.n_Revision_schema, rfl, _, rfl, fun y dy hy hdy ndy => ?_⟩
      have k8 : Kp Nil H7 (upd H7 dy (.own y)) := Kp.new hdy
      have hy' : (upd H7 dy (.own y)) y = none := by rw [upd_ne (Ne.symm ndy)]; exact hy
      have k9 : Kp Nil (upd H7 dy (.own y)) (upd (upd H7 dy (.own y)) y (.ins (He.ga K "Revision") dy [])) := Kp.new hy'
      have k89 := k8.trans k9
      have e9 : (upd (upd H7 dy (.own y)) y (.ins (He.ga K "Revision") dy [])) y = some (.ins (He.ga K "Revision") dy []) := upd_same
      generalize hH9 : upd (upd H7 dy (.own y)) y (.ins (He.ga K "Revision") dy []) = H9 at k89 e9
      have k09 := k07.trans k89
      have hs9 := (hs.kp0 k17).kp0 k89
      refine ⟨y, sc, nl, dy, newRels r.1 kd t, rfl, e9, hs9, ⟨hNL.kp0 k89, hnd, by omega⟩, hsub, fun H10 r' k10 hr' hok hr1 => ⟨rfl, ?_⟩⟩
      have hy0 : H y = none := k07.fr _ hy
      refine q H10 _ r' (k09.less k10 fun b (hb : b = y) => .inr (by rw [hb]; exact hy0)) (hr'.mono fun b hb => ?_) hok hr1
      rcases hb with hb | hb
      · rw [hb]; exact hy0
      · exact k09.fr _ hb
end
end Au
/-! Authsync: write, compact, Primary(..). -/
namespace Au
open PySem PySem.Spec PyProof.Rows L2
def spWrite (K : PySem.W.Frag) : Sp := fun vs H Q _ => ∃ p D c f rs ul kd t r, vs = [.ref p, .ref ul] ∧ PrimAt K D H p c f rs ∧ PrimOk f rs ∧ rv f rs < 40 ∧ UpdAt H ul kd t ∧ t ∈ U ∧ rs.getLast? = some r ∧ KindOk kd t r.1 ∧ ¬ D c.2 ∧ (∀ b, H b = none → D b) ∧
  ∀ H' r' s, Kp (Only c.2) H H' → PrimAt K D H' p c f (rs ++ [r']) → PrimOk f (rs ++ [r']) → Q (.str s) H'
section
variable {P : Program} {w : World} {K : PySem.W.Frag} {mg : Str → Option Value} {base : Heap}
theorem sc_Primary_write : FnScope ["self", "updates"] ["self", "updates"] (defScope s_Primary_write) := ⟨rfl, rfl, rfl, by decide +kernel, rfl, by decide +kernel, by decide +kernel⟩
theorem ok_Primary_write (T : Top K mg base) : Cal P w K mg base CX0 11 ("Primary", some "write") ["self", "updates"] (spWrite K) := by
  obtain ⟨fd, F⟩ := T.d_Primary_write
  have cs := ok_after_updates (P := P) (w := w) T
  obtain ⟨fd1, F1, b1⟩ := cs.ex
  have cs2 := ok_Primary_token (P := P) (w := w) T
  obtain ⟨fd2, F2, b2⟩ := cs2.ex
  refine ⟨⟨fd, FunD.ok F sc_Primary_write (fun vs H Q E h => ?_) (fun cdv A outer s H vs Q E hr h => ?_), FunD.bindsN F fun _ _ _ _ _ _ us hl => match us, hl with | [_, _], _ => rfl⟩, F.kp⟩
  · obtain ⟨p, D, c, f, rs, ul, kd, t, r, rfl, _⟩ := h
    rfl
  · obtain ⟨p, D, c, f, rs, ul, kd, t, r, rfl, hP, hO, hlt, hU, htU, hlast, hk, hDc, hD, q⟩ := h
    refine ⟨_, pss_cons (ps_expr (pe_bm PySem.F.plainAttrs_list PySem.F.slot_list_append PySem.F.type_list_append mt_append (pe_fld (pv 0) rfl) (pa_cons (pe_meth (pv 0) T.c_Primary T.m_Primary_after_updates F1 hr b1 .nil pass0 (pa_cons (pv 1) pa_nil)) pa_nil)))
      (pss_one (ps_ret (pe_meth0 (pv 0) T.c_Primary T.m_Primary_token F2 (hr.mono (by decide)) b2 .nil pass0))), ?_⟩
    obtain ⟨xs, ex, pr⟩ := hP.ls
    refine ⟨_, rfl, p, _, c.1, _, _, rfl, hP.ob, T.c_Primary, T.n_Primary_revisions, rfl, .inl ⟨rfl, _, .inl (.inl ex)⟩, ?_⟩
    refine ⟨_, rfl, p, c.1, _, rfl, hP.ob, rfl, _, rfl, p, D, c, f, rs, ul, kd, t, r, rfl, hP, hO, hlt, hU, htU, hlast, hk, fun H1 v r' k1 hv hok _ => ?_⟩
    have ex1 := k1.lst0 ex
    have P1 := hP.kp0 k1
    have hl : xs.length = rs.length := pr.length
    have hle := hO.le
    refine ⟨c.2, xs, v, rfl, rfl, ex1, by rw [sizeLine_eq]; omega, ?_⟩
    have k2 : Kp (Only c.2) H1 (upd H1 c.2 (.lst (xs ++ [v]))) := Kp.put ex1 nt_lst rfl
    have t2 : TupFree (Only c.2) H1 := lst_free ex1
    have nD : ∀ b, Only c.2 b → ¬ D b := fun b (hb : b = c.2) => by rw [hb]; exact hDc
    have hpos := hO.pos
    have P2 : PrimAt K D (upd H1 c.2 (.lst (xs ++ [v]))) p c f (rs ++ [r']) :=
      ⟨o2 P1.ob (ne_of P1.ob ex1 fun z => by cases z), _, upd_same, pair_append (Paired.mapP pr fun _ _ z => (z.kp0 k1).kp k2 t2 nD) (.cons ((hv.mono hD).kp k2 t2 nD) .nil)⟩
    have O2 : PrimOk f (rs ++ [r']) := by
      refine ⟨by simp, fun y hy => ?_, ?_⟩
      · rcases List.mem_append.mp hy with hy | hy
        · exact hO.ok y hy
        · rw [List.mem_singleton.mp hy]; exact hok
      · rw [List.length_append]
        show f + (rs.length + 1) ≤ 41
        unfold rv at hlt
        omega
    exact ⟨_, rfl, p, c.1, _, rfl, P2.ob, rfl, p, D, c, f, rs ++ [r'], rfl, P2, O2, fun H3 k3 => q H3 r' _ (k1.any.trans (k2.trans k3.any)) (P2.kp0 k3) O2⟩
/-! ### compact -/
def spCompact (K : PySem.W.Frag) : Sp := fun vs H Q _ => ∃ p D c f rs r, vs = [.ref p, .int (rv f rs : Int)] ∧ PrimAt K D H p c f rs ∧ PrimOk f rs ∧ rs.getLast? = some r ∧ ¬ D p ∧ ∀ H' l, Kp (Only p) H H' → H l = none → PrimAt K D H' p (c.1, l) (rv f rs) [r] → Q .non H'
theorem sc_Primary_compact : FnScope ["self", "number"] ["self", "number"] (defScope s_Primary_compact) := ⟨rfl, rfl, rfl, by decide +kernel, rfl, by decide +kernel, by decide +kernel⟩
theorem ok_Primary_compact (T : Top K mg base) : Cal P w K mg base CX0 3 ("Primary", some "compact") ["self", "number"] (spCompact K) := by
  obtain ⟨fd, F⟩ := T.d_Primary_compact
  have cs := ok_Primary_check_revision (P := P) (w := w) T
  obtain ⟨fd1, F1, b1⟩ := cs.ex
  refine ⟨⟨fd, FunD.ok F sc_Primary_compact (fun vs H Q E h => ?_) (fun cdv A outer s H vs Q E hr h => ?_), FunD.bindsN F fun _ _ _ _ _ _ us hl => match us, hl with | [_, _], _ => rfl⟩, F.kp⟩
  · obtain ⟨p, D, c, f, rs, r, rfl, _⟩ := h
    rfl
  · obtain ⟨p, D, c, f, rs, r, rfl, hP, hO, hlast, hDp, q⟩ := h
    refine ⟨_, pss_cons (ps_expr (pe_meth (pv 0) T.c_Primary T.m_Primary_check_revision F1 hr b1 .nil pass0 (pa_cons (pv 1) (pa_cons (pe_fld (pv 0) rfl) pa_nil))))
      (pss_cons (ps_fld (pv 0) (pe_slice sl_list (pe_fld (pv 0) rfl) (po_some (pe_op op_sub (pv 1) (pe_fld (pv 0) rfl))) po_none) rfl)
      (pss_one (ps_fld (pv 0) (pv 1) rfl))), ?_⟩
    have hle := hO.rv_le
    refine ⟨_, rfl, p, c.1, _, rfl, hP.ob, rfl, _, rfl, _, rfl, p, _, c.1, _, _, rfl, hP.ob, T.c_Primary, T.n_Primary_first, rfl, p, D, c, f, rs, rv f rs, f, rfl, hP, hO, hle.1, Nat.le_refl _, fun H1 k1 => ?_⟩
    have P1 := hP.kp0 k1
    obtain ⟨xs, ex, pr⟩ := P1.ls
    have hl : xs.length = rs.length := pr.length
    have hpos := hO.pos
    refine ⟨_, rfl, p, _, c.1, _, _, rfl, P1.ob, T.c_Primary, T.n_Primary_revisions, rfl, _, rfl, _, rfl, p, _, c.1, _, _, rfl, P1.ob, T.c_Primary, T.n_Primary_first, rfl, _, _, rfl, rfl, _, rfl, c.2, xs, rfl, SqL.of ex, fun l hl2 => ?_⟩
    have k2 : Kp Nil H1 (upd H1 l (.lst (cutV xs (some ((rv f rs : Int) - (f : Int))) none))) := Kp.new hl2
    have hcut : ∃ v, cutV xs (some ((rv f rs : Int) - (f : Int))) none = [v] ∧ RevAt K D H1 v r := by
      have e1 : (rv f rs : Int) - (f : Int) = ((rs.length - 1 : Nat) : Int) := by unfold rv; omega
      rw [e1]
      have hr1 : rs[rs.length - 1]? = some r := by rw [← List.getLast?_eq_getElem?]; exact hlast
      obtain ⟨v, hv, hr2⟩ := pair_getR pr hr1
      refine ⟨v, ?_, hr2⟩
      unfold cutV
      rw [HT.sIx_nat, HT.sIx_none, hl, Nat.min_eq_left (by omega), drop_next hv]
      rw [show rs.length - (rs.length - 1) = 1 by omega]
      rfl
    obtain ⟨v, ecut, hv⟩ := hcut
    have hl0 : H l = none := k1.fr _ hl2
    have el : (upd H1 l (.lst (cutV xs (some ((rv f rs : Int) - (f : Int))) none))) l = some (.lst [v]) := by rw [upd_same, ecut]
    have P2 := P1.kp0 k2
    have hv2 := hv.kp0 k2
    have npl : p ≠ l := ne_of_none P1.ob hl2
    generalize hH2 : upd H1 l (.lst (cutV xs (some ((rv f rs : Int) - (f : Int))) none)) = H2 at k2 el P2 hv2
    refine ⟨_, rfl, p, _, c.1, _, rfl, P2.ob, T.c_Primary, T.n_Primary_revisions, by show 3 < 1000; decide, ?_⟩
    refine ⟨_, rfl, _, rfl, p, _, c.1, _, rfl, upd_same, T.c_Primary, T.n_Primary_first, by show 3 < 1000; decide, ?_⟩
    rw [upd_upd]
    have k3 := Kp.put (S := Only p) (o := .ins (He.ga K "Primary") c.1 (putF "first" (.int (rv f rs : Int)) (putF "revisions" (.ref l) [("name", .str "main"), ("first", .int (f : Int)), ("revisions", .ref c.2)]))) P2.ob nt_ins rfl
    have nD : ∀ b, Only p b → ¬ D b := fun b (hb : b = p) => by rw [hb]; exact hDp
    refine q _ l (k1.any.trans (k2.any.trans k3)) hl0 ⟨upd_same, [v], o2 el (Ne.symm npl), .cons (hv2.kp k3 (ins_tup P2.ob) nD) .nil⟩
/-! ### Primary(..) -/
def spPrimInit (K : PySem.W.Frag) : Sp := fun vs H Q _ => ∃ p a dx, vs = [.ref p, .str "main", .str text0, .ref a] ∧ H p = some (.ins (He.ga K "Primary") dx []) ∧ SqT K H a [] ∧ Tabs K H ∧
  ∀ H' l r, Kp (Only p) H H' → H l = none → PrimAt K (fun b => H b = none ∧ b ≠ l) H' p (dx, l) 0 [r] → RevOk r → Q .non H'
theorem sc_Primary_init : FnScope ["self", "name", "schema", "relationships"] ["self", "name", "schema", "relationships"] (defScope s_Primary_init) := ⟨rfl, rfl, rfl, by decide +kernel, rfl, by decide +kernel, by decide +kernel⟩
theorem ok_Primary_init (T : Top K mg base) : ∃ fd ds, FnOk P w K mg base CX0 11 (He.fAd K ("Primary", some "__init__")) fd ["self", "name", "schema", "relationships"] (spPrimInit K) ∧ Vals [V.ref (He.dflAt ("Primary", some "__init__") 0 K)] ds ∧ Binds K fd ["self", "name", "schema", "relationships"] ds := by
  obtain ⟨fd, F⟩ := T.d_Primary_init
  have cs := ok_read_schema (P := P) (w := w) T
  obtain ⟨fd1, F1, b1⟩ := cs.ex
  have cs2 := ok_Revision_init (P := P) (w := w) T
  obtain ⟨fd2, F2, b2⟩ := cs2.ex
  obtain ⟨ds, hds, hb⟩ := FunD.binds1 (ps := ["self", "name", "schema", "relationships"]) F 3 0 (by intro z; cases z) rfl fun T kV doc pm an cdv ct us its hu hi => match us, its, hu, hi with
    | [_, _, _], [_], _, _ => ⟨_, rfl, rfl⟩
  refine ⟨fd, ds, FunD.ok F sc_Primary_init (fun vs H Q E h => ?_) (fun cdv A outer s H vs Q E hr h => ?_), hds, hb⟩
  · obtain ⟨p, a, dx, rfl, _⟩ := h
    rfl
  · obtain ⟨p, a, dx, rfl, ep, ha, ht, q⟩ := h
    refine ⟨_, pss_cons (ps_fld (pv 0) (pv 1) rfl) (pss_cons (ps_fld (pv 0) pe_int rfl)
      (pss_one (ps_fld (pv 0) (pe_lst (pa_cons (pe_make T.k_Revision F2 (hr.mono (by decide)) rfl T.g_Revision b2 .nil pass0 (pa_cons (pe_call F1 hr rfl T.g_read_schema cs.kp b1 .nil pass0 (pa_cons (pv 2) pa_nil)) (pa_cons (pe_callTy call_list_of (by rfl) T.f_list (by decide +kernel) (pa_cons (pv 3) pa_nil)) pa_nil))) pa_nil)) rfl))), ?_⟩
    refine ⟨_, rfl, _, rfl, p, _, dx, _, rfl, ep, T.c_Primary, T.n_Primary_name, by decide, ?_⟩
    refine ⟨_, rfl, p, _, dx, _, rfl, upd_same, T.c_Primary, T.n_Primary_first, by show 1 < 1000; decide, ?_⟩
    rw [upd_upd]
    have k1 : Kp (Only p) H (upd H p (.ins (He.ga K "Primary") dx (putF "first" (.int 0) (putF "name" (.str "main") [])))) := Kp.put ep nt_ins rfl
    have e1 : (upd H p (.ins (He.ga K "Primary") dx (putF "first" (.int 0) (putF "name" (.str "main") [])))) p = some (.ins (He.ga K "Primary") dx [("name", .str "main"), ("first", .int 0)]) := upd_same
    have ha1 : SqT K (upd H p (.ins (He.ga K "Primary") dx (putF "first" (.int 0) (putF "name" (.str "main") [])))) a [] := by
      rcases ha with h | h
      · refine .inl ?_
        rcases h with h | ⟨o, h⟩
        · exact .inl (o2 h (ne_of h ep fun z => by cases z))
        · exact .inr ⟨o, o2 h (ne_of h ep fun z => by cases z)⟩
      · exact .inr h
    generalize hH1 : upd H p (.ins (He.ga K "Primary") dx (putF "first" (.int 0) (putF "name" (.str "main") []))) = H1 at k1 e1 ha1
    refine ⟨_, rfl, rfl, ht.kp k1, fun H2 sc k2 hS => ?_⟩
    have ha2 : SqT K H2 a [] := by
      rcases ha1 with h | h
      · refine .inl ?_
        rcases h with h | ⟨o, h⟩
        · exact .inl (k2.tup0 h)
        · exact .inr ⟨o, k2.old _ _ h id fun _ z => by cases z⟩
      · exact .inr h
    refine ⟨_, rfl, a, [], rfl, .inr ha2, fun l0 hl0 => ?_⟩
    have k3 : Kp Nil H2 (upd H2 l0 (.lst [])) := Kp.new hl0
    have el0 : (upd H2 l0 (.lst [])) l0 = some (.lst []) := upd_same
    generalize hH3 : upd H2 l0 (.lst []) = H3 at k3 el0
    refine fun x dy hx hdy ndy => ?_
    have k4 : Kp Nil H3 (upd H3 dy (.own x)) := Kp.new hdy
    have hx' : (upd H3 dy (.own x)) x = none := by rw [upd_ne (Ne.symm ndy)]; exact hx
    have k5 : Kp Nil (upd H3 dy (.own x)) (upd (upd H3 dy (.own x)) x (.ins (He.ga K "Revision") dy [])) := Kp.new hx'
    have k45 := k4.trans k5
    have e5 : (upd (upd H3 dy (.own x)) x (.ins (He.ga K "Revision") dy [])) x = some (.ins (He.ga K "Revision") dy []) := upd_same
    generalize hH5 : upd (upd H3 dy (.own x)) x (.ins (He.ga K "Revision") dy []) = H5 at k45 e5
    have k15 : Kp Nil H1 H5 := k2.trans (k3.trans k45)
    have k05 : Kp (Only p) H H5 := k1.trans k15.any
    have hx0 : H x = none := k1.fr _ (k2.fr _ (k3.fr _ hx))
    refine ⟨x, sc, l0, dy, [], rfl, e5, (hS.kp0 k3).kp0 k45, ⟨⟨[], k45.lst0 el0, .nil⟩, .nil, Nat.zero_le _⟩, (fun _ h => by cases h), fun H6 r k6 hr6 hok _ => ⟨rfl, by show 1 ≤ sizeLine; decide, fun l hl => ?_⟩⟩
    have k56 : Kp Nil H3 H6 := k45.less k6 fun b (hb : b = x) => .inr (by rw [hb]; exact hx)
    have k16 : Kp Nil H1 H6 := (k2.trans k3).trans k56
    have k7 : Kp Nil H6 (upd H6 l (.lst [.ref x])) := Kp.new hl
    have e7 := k7.ins0 (k16.ins0 e1)
    have hlH : H l = none := k1.fr _ (k16.fr _ hl)
    have npl : p ≠ l := ne_of_none (k16.ins0 e1) hl
    have hr7 := hr6.kp0 k7
    have el7 : (upd H6 l (.lst [.ref x])) l = some (.lst [.ref x]) := upd_same
    have exl : ∀ y, H6 y ≠ none → y ≠ l := fun y hy z => hy (by rw [z]; exact hl)
    generalize hH7 : upd H6 l (.lst [.ref x]) = H7 at k7 e7 hr7 el7
    refine ⟨_, rfl, p, _, dx, _, rfl, e7, T.c_Primary, T.n_Primary_revisions, by show 2 < 1000; decide, ?_⟩
    have k8 := Kp.put (S := Only p) (o := .ins (He.ga K "Primary") dx (putF "revisions" (.ref l) [("name", .str "main"), ("first", .int 0)])) e7 nt_ins rfl
    refine q _ l r ((k1.trans k16.any).trans (k7.any.trans k8)) hlH ⟨upd_same, [.ref x], o2 el7 (Ne.symm npl), .cons ?_ .nil⟩ hok
    obtain ⟨x', dx', sc', rl, tb, ex', d1, d2, d3, ee, hs', h1, h2⟩ := hr6
    have nz : ∀ b, (b = x ∨ H5 b = none) → H b = none := fun b hb => by
      rcases hb with hb | hb
      · rw [hb]; exact hx0
      · exact k05.fr _ hb
    obtain ⟨v1, ev1, _⟩ := id h1
    obtain ⟨v2, ev2, _⟩ := id h2
    have base' : RevAt K (fun b => H b = none ∧ b ≠ l) H6 (.ref x) r := ⟨x', dx', sc', rl, tb, ex', ⟨nz _ d1, exl _ (by rw [ee]; exact fun z => by cases z)⟩, ⟨nz _ d2, exl _ (by rw [ev1]; exact fun z => by cases z)⟩, ⟨nz _ d3, exl _ (by rw [ev2]; exact fun z => by cases z)⟩, ee, hs', h1, h2⟩
    exact (base'.kp0 k7).kp k8 (ins_tup e7) fun b (hb : b = p) hD => by
      have hD := hD.1
      rw [hb, ep] at hD
      cases hD
end
end Au
/-! Authsync: the replica: shapes, plain facts, Replica(..), store_id, revision, fits, check_entry. -/
namespace Au
open PySem PySem.Spec PyProof.Rows L2
def tabN (rs : List Rev) (m : Nat) : List T3 := match rs[m]? with
  | some r => r.2
  | none => []
def chgN (rs : List Rev) (m : Nat) : Chn := (sortT (without (tabN rs m) (tabN rs (m - 1))), sortT (without (tabN rs (m - 1)) (tabN rs m)))
theorem tabN_app {rs : List Rev} {r : Rev} {m : Nat} (h : m < rs.length) : tabN (rs ++ [r]) m = tabN rs m := by
  unfold tabN
  rw [List.getElem?_append_left h]
theorem chgN_app {rs : List Rev} {r : Rev} {m : Nat} (h : m < rs.length) : chgN (rs ++ [r]) m = chgN rs m := by
  unfold chgN
  rw [tabN_app h, tabN_app (Nat.lt_of_le_of_lt (Nat.sub_le _ _) h)]
structure TabOk (ts : List T3) : Prop where
  nd : ts.Nodup
  len : ts.length ≤ 90
theorem tabN_ok {rs : List Rev} (h : ∀ r ∈ rs, RevOk r) (m : Nat) : TabOk (tabN rs m) := by
  unfold tabN
  cases e : rs[m]? with
  | none => exact ⟨.nil, Nat.zero_le _⟩
  | some r => exact ⟨(h r (List.mem_of_getElem? e)).tnd, (h r (List.mem_of_getElem? e)).tl⟩
theorem mem_without {ts us : List T3} {t : T3} : t ∈ without ts us ↔ t ∈ ts ∧ t ∉ us := by
  unfold without
  rw [List.mem_filter, decide_eq_true_iff]
/-- the replica's table is the primary's, by members -/
structure Same (ts us : List T3) : Prop where
  nd : ts.Nodup
  mem : ∀ t, t ∈ ts ↔ t ∈ us
theorem Same.len {ts us : List T3} (h : Same ts us) (o : TabOk us) : ts.length ≤ 90 := Nat.le_trans (nodup_le h.nd fun t ht => (h.mem t).mp ht) o.len
theorem same_fits {ts us vs : List T3} (h : Same ts us) : appl ts (sortT (without vs us)) (sortT (without us vs)) = true := by
  unfold appl
  rw [Bool.and_eq_true, List.all_eq_true, List.all_eq_true]
  refine ⟨fun t ht => ?_, fun t ht => ?_⟩
  · have := mem_without.mp (sortT_mem.mp ht)
    exact decide_eq_true fun z => this.2 ((h.mem t).mp z)
  · have := mem_without.mp (sortT_mem.mp ht)
    exact decide_eq_true ((h.mem t).mpr this.1)
theorem without_nodup {ts us : List T3} (h : ts.Nodup) : (without ts us).Nodup := List.Nodup.sublist List.filter_sublist h
theorem same_after {ts us vs : List T3} (h : Same ts us) (hv : vs.Nodup) : Same (after ts (sortT (without vs us)) (sortT (without us vs))) vs := by
  unfold after
  refine ⟨sortT_nodup ?_, fun t => ?_⟩
  · refine List.nodup_append.mpr ⟨without_nodup h.nd, sortT_nodup (without_nodup hv), fun a ha b hb e => ?_⟩
    have h1 := (mem_without.mp ha).1
    have h2 := (mem_without.mp (sortT_mem.mp hb)).2
    exact h2 (by rw [← e]; exact (h.mem a).mp h1)
  · rw [sortT_mem, List.mem_append, mem_without, sortT_mem, sortT_mem, mem_without, mem_without, h.mem t]
    constructor
    · rintro (⟨h1, h2⟩ | ⟨h1, _⟩)
      · by_cases z : t ∈ vs
        · exact z
        · exact absurd ⟨h1, z⟩ h2
      · exact h1
    · intro z
      by_cases y : t ∈ us
      · exact .inl ⟨y, fun q => q.2 z⟩
      · exact .inr ⟨z, y⟩
/-- a change whose lists are never changed -/
def ChgD (D : Addr → Prop) (H : Hp) (v : V) (c : Chn) : Prop := ∃ a g l, v = .ref a ∧ D g ∧ D l ∧ H a = some (.tup [.ref g, .ref l]) ∧ TriL H g c.1 ∧ TriL H l c.2
theorem ChgD.v {D : Addr → Prop} {H : Hp} {v : V} {c : Chn} (h : ChgD D H v c) : ChgV H v c := by
  obtain ⟨a, g, l, rfl, _, _, e, h1, h2⟩ := h
  exact ⟨a, g, l, rfl, e, h1, h2⟩
theorem ChgD.kp {D S : Addr → Prop} {H H' : Hp} (k : Kp S H H') (t : TupFree S H) (n : ∀ b, S b → ¬ D b) {v : V} {c : Chn} (h : ChgD D H v c) : ChgD D H' v c := by
  obtain ⟨a, g, l, rfl, d1, d2, e, h1, h2⟩ := h
  exact ⟨a, g, l, rfl, d1, d2, k.tup e (t _ _ e), h1.kp k t fun z => n _ z d1, h2.kp k t fun z => n _ z d2⟩
/-- what waits -/
def LaterAt (D : Addr → Prop) (H : Hp) (d : Addr) (n B : Nat) (rs : List Rev) : Prop := ∃ kvs : List (Key × V), H d = some (.dK kvs) ∧ kvs.length ≤ B ∧ ∀ k v, valV kvs k = some v → ∃ m : Nat, k = .inl (m : Int) ∧ n < m ∧ m < rs.length ∧ ChgD D H v (chgN rs m)
structure RepAt (K : PySem.W.Frag) (D : Addr → Prop) (H : Hp) (q : Addr) (c : Addr × Addr) (n : Nat) (ts : List T3) (B : Nat) (rs : List Rev) : Prop where
  ob : ∃ tb, H q = some (.ins (He.ga K "Replica") c.1 [("name", .str "main"), ("number", .int (n : Int)), ("table", .ref tb), ("later", .ref c.2)]) ∧ D tb ∧ TriL H tb ts
  lt : LaterAt D H c.2 n B rs
theorem LaterAt.kp {D S : Addr → Prop} {H H' : Hp} (k : Kp S H H') (t : TupFree S H) (n : ∀ b, S b → ¬ D b) {d : Addr} {m B : Nat} {rs : List Rev} (hd : ¬ S d) (h : LaterAt D H d m B rs) : LaterAt D H' d m B rs := by
  obtain ⟨kvs, e, hl, f⟩ := h
  refine ⟨kvs, k.old _ _ e hd nt_dK, hl, fun key v hv => ?_⟩
  obtain ⟨j, a, b, c, g⟩ := f key v hv
  exact ⟨j, a, b, c, g.kp k t n⟩
theorem RepAt.kp {K : PySem.W.Frag} {D S : Addr → Prop} {H H' : Hp} (k : Kp S H H') (t : TupFree S H) (n : ∀ b, S b → ¬ D b) {q : Addr} {c : Addr × Addr} {m B : Nat} {ts : List T3} {rs : List Rev} (hq : ¬ S q) (hc : ¬ S c.2) (h : RepAt K D H q c m ts B rs) : RepAt K D H' q c m ts B rs := by
  obtain ⟨tb, e, d, ht⟩ := h.ob
  exact ⟨⟨tb, k.old _ _ e hq nt_ins, d, ht.kp k t fun z => n _ z d⟩, h.lt.kp k t n hc⟩
theorem RepAt.kp0 {K : PySem.W.Frag} {D : Addr → Prop} {H H' : Hp} (k : Kp Nil H H') {q : Addr} {c : Addr × Addr} {m B : Nat} {ts : List T3} {rs : List Rev} (h : RepAt K D H q c m ts B rs) : RepAt K D H' q c m ts B rs := h.kp k tupFree_nil (fun _ z => z.elim) id id
theorem RepAt.grow {K : PySem.W.Frag} {D : Addr → Prop} {H : Hp} {q : Addr} {c : Addr × Addr} {m B : Nat} {ts : List T3} {rs : List Rev} {r : Rev} (h : RepAt K D H q c m ts B rs) : RepAt K D H q c m ts B (rs ++ [r]) := by
  obtain ⟨kvs, e, hl, f⟩ := h.lt
  refine ⟨h.ob, kvs, e, hl, fun key v hv => ?_⟩
  obtain ⟨j, a, b, c, g⟩ := f key v hv
  refine ⟨j, a, b, by rw [List.length_append]; exact Nat.lt_add_right _ c, ?_⟩
  rw [chgN_app c]
  exact g
/-- the replica is where the primary was -/
structure RepOk (n : Nat) (ts : List T3) (rs : List Rev) : Prop where
  lt : n < rs.length
  same : Same ts (tabN rs n)
  ok : ∀ r ∈ rs, RevOk r
  le : rs.length ≤ 41
def spRepInit (K : PySem.W.Frag) : Sp := fun vs H Q _ => ∃ q e g dx n ts, vs = [.ref q, .ref e] ∧ H q = some (.ins (He.ga K "Replica") dx []) ∧ H e = some (.tup [.str "main", .int n, .ref g]) ∧ TriL H g ts ∧
  ∀ H' tb ld, Kp (Only q) H H' → H tb = none → H ld = none → tb ≠ ld → H' q = some (.ins (He.ga K "Replica") dx [("name", .str "main"), ("number", .int n), ("table", .ref tb), ("later", .ref ld)]) → TriL H' tb (sortT ts) → H' ld = some (.dK []) → Q .non H'
section
variable {P : Program} {w : World} {K : PySem.W.Frag} {mg : Str → Option Value} {base : Heap}
theorem sc_Replica_init : FnScope ["self", "snapshot", "grants"] ["self", "snapshot"] (defScope s_Replica_init) := ⟨rfl, rfl, rfl, by decide +kernel, rfl, by decide +kernel, by decide +kernel⟩
theorem ok_Replica_init (T : Top K mg base) : Cal P w K mg base CX0 1 ("Replica", some "__init__") ["self", "snapshot"] (spRepInit K) := by
  obtain ⟨fd, F⟩ := T.d_Replica_init
  refine ⟨⟨fd, FunD.ok F sc_Replica_init (fun vs H Q E h => ?_) (fun cdv A outer s H vs Q E hr h => ?_), FunD.bindsN F fun _ _ _ _ _ _ us hl => match us, hl with | [_, _], _ => rfl⟩, F.kp⟩
  · obtain ⟨q, e, g, dx, n, ts, rfl, _⟩ := h
    rfl
  · obtain ⟨p, e, g, dx, n, ts, rfl, ep, ee, hT, q⟩ := h
    have nd := sc_Replica_init.nd
    refine ⟨_, pss_cons (ps_asg (pv 1) (pg_tup rfl (pgs_cons (pg_fld (pv 0)) (pgs_cons (pg_fld (pv 0)) (pgs_cons (pg_name (i := 2) nd rfl (.inl rfl)) pgs_nil)))))
      (pss_cons (ps_fld (pv 0) (pe_callB (cr_sortT hr.units) (by rfl) T.f_sorted (by decide +kernel) (pa_cons (pv 2) pa_nil)) rfl)
      (pss_one (ps_fld (pv 0) pe_dnewK rfl))), ?_⟩
    refine ⟨_, rfl, e, _, rfl, SqT.of ee, rfl, ?_⟩
    refine ⟨_, _, rfl, _, rfl, p, _, dx, _, rfl, ep, T.c_Replica, T.n_Replica_name, by decide, ?_⟩
    refine ⟨_, _, rfl, _, rfl, p, _, dx, _, rfl, upd_same, T.c_Replica, T.n_Replica_number, by show 1 < 1000; decide, ?_⟩
    refine ⟨_, _, rfl, rfl, ?_⟩
    rw [upd_upd]
    have k1 : Kp (Only p) H (upd H p (.ins (He.ga K "Replica") dx (putF "number" (.int n) (putF "name" (.str "main") [])))) := Kp.put ep nt_ins rfl
    have e1 : (upd H p (.ins (He.ga K "Replica") dx (putF "number" (.int n) (putF "name" (.str "main") [])))) p = some (.ins (He.ga K "Replica") dx [("name", .str "main"), ("number", .int n)]) := upd_same
    have ngp : g ≠ p := fun z => by
      obtain ⟨vs, ev, _⟩ := hT
      exact ins_lst ep _ _ ev z
    have hT1 := hT.kp k1 (ins_tup ep) ngp
    generalize hH1 : upd H p (.ins (He.ga K "Replica") dx (putF "number" (.int n) (putF "name" (.str "main") []))) = H1 at k1 e1 hT1
    obtain ⟨vs, ev, pr⟩ := hT1
    refine ⟨_, rfl, g, vs, ts, rfl, SqL.of ev, pr, fun ys tb prs htb => ?_⟩
    have k2 : Kp Nil H1 (upd H1 tb (.lst ys)) := Kp.new htb
    have etb : TriL (upd H1 tb (.lst ys)) tb (sortT ts) := ⟨ys, upd_same, Tri.prs k2 prs⟩
    have e2 := k2.ins0 e1
    have npt : p ≠ tb := ne_of_none e1 htb
    generalize hH2 : upd H1 tb (.lst ys) = H2 at k2 etb e2
    refine ⟨_, rfl, p, _, dx, _, rfl, e2, T.c_Replica, T.n_Replica_table, by show 2 < 1000; decide, ?_⟩
    have k3 : Kp (Only p) H2 (upd H2 p (.ins (He.ga K "Replica") dx (putF "table" (.ref tb) [("name", .str "main"), ("number", .int n)]))) := Kp.put e2 nt_ins rfl
    have e3 : (upd H2 p (.ins (He.ga K "Replica") dx (putF "table" (.ref tb) [("name", .str "main"), ("number", .int n)]))) p = some (.ins (He.ga K "Replica") dx [("name", .str "main"), ("number", .int n), ("table", .ref tb)]) := upd_same
    have etb3 := etb.kp k3 (ins_tup e2) (Ne.symm npt)
    generalize hH3 : upd H2 p (.ins (He.ga K "Replica") dx (putF "table" (.ref tb) [("name", .str "main"), ("number", .int n)])) = H3 at k3 e3 etb3
    refine fun ld hld => ?_
    have k4 : Kp Nil H3 (upd H3 ld (.dK [])) := Kp.new hld
    have e4 := k4.ins0 e3
    have etb4 := etb3.kp0 k4
    have npl : p ≠ ld := ne_of_none e3 hld
    have ntl : tb ≠ ld := fun z => by
      obtain ⟨vs, ev, _⟩ := etb3
      rw [z, hld] at ev
      cases ev
    have eld : (upd H3 ld (.dK [])) ld = some (.dK []) := upd_same
    have k03 : Kp (Only p) H H3 := k1.trans (k2.any.trans k3)
    generalize hH4 : upd H3 ld (.dK []) = H4 at k4 e4 etb4 eld
    refine ⟨_, rfl, p, _, dx, _, rfl, e4, T.c_Replica, T.n_Replica_later, by show 3 < 1000; decide, ?_⟩
    have k5 := Kp.put (S := Only p) (o := .ins (He.ga K "Replica") dx (putF "later" (.ref ld) [("name", .str "main"), ("number", .int n), ("table", .ref tb)])) e4 nt_ins rfl
    exact q _ tb ld (k03.trans (k4.any.trans k5)) (k1.fr _ htb) (k03.fr _ hld) ntl upd_same (etb4.kp k5 (ins_tup e4) (Ne.symm npt)) (o2 eld (Ne.symm npl))
def spRepStore (K : PySem.W.Frag) : Sp := fun vs H Q _ => ∃ p D c n ts B rs, vs = [.ref p] ∧ RepAt K D H p c n ts B rs ∧ ∀ H', Kp Nil H H' → Q (.str "main") H'
def spRepNo (K : PySem.W.Frag) : Sp := fun vs H Q _ => ∃ p D c n ts B rs, vs = [.ref p] ∧ RepAt K D H p c n ts B rs ∧ ∀ H', Kp Nil H H' → Q (.int (n : Int)) H'
theorem sc_Replica_store_id : FnScope ["self"] ["self"] (defScope s_Replica_store_id) := ⟨rfl, rfl, rfl, by decide +kernel, rfl, by decide +kernel, by decide +kernel⟩
theorem ok_Replica_store_id (T : Top K mg base) : Cal P w K mg base CX0 1 ("Replica", some "store_id") ["self"] (spRepStore K) := by
  obtain ⟨fd, F⟩ := T.d_Replica_store_id
  refine ⟨⟨fd, FunD.ok F sc_Replica_store_id (fun vs H Q E h => ?_) (fun cdv A outer s H vs Q E hr h => ?_), FunD.bindsN F fun _ _ _ _ _ _ us hl => match us, hl with | [_], _ => rfl⟩, F.kp⟩
  · obtain ⟨p, D, c, n, ts, B, rs, rfl, _⟩ := h
    rfl
  · obtain ⟨p, D, c, n, ts, B, rs, rfl, hR, q⟩ := h
    obtain ⟨tb, e, _⟩ := hR.ob
    refine ⟨_, pss_one (ps_ret (pe_fld (pv 0) rfl)), ?_⟩
    exact ⟨_, rfl, p, _, c.1, _, _, rfl, e, T.c_Replica, T.n_Replica_name, rfl, q H Kp.refl⟩
theorem sc_Replica_revision : FnScope ["self"] ["self"] (defScope s_Replica_revision) := ⟨rfl, rfl, rfl, by decide +kernel, rfl, by decide +kernel, by decide +kernel⟩
theorem ok_Replica_revision (T : Top K mg base) : Cal P w K mg base CX0 1 ("Replica", some "revision") ["self"] (spRepNo K) := by
  obtain ⟨fd, F⟩ := T.d_Replica_revision
  refine ⟨⟨fd, FunD.ok F sc_Replica_revision (fun vs H Q E h => ?_) (fun cdv A outer s H vs Q E hr h => ?_), FunD.bindsN F fun _ _ _ _ _ _ us hl => match us, hl with | [_], _ => rfl⟩, F.kp⟩
  · obtain ⟨p, D, c, n, ts, B, rs, rfl, _⟩ := h
    rfl
  · obtain ⟨p, D, c, n, ts, B, rs, rfl, hR, q⟩ := h
    obtain ⟨tb, e, _⟩ := hR.ob
    refine ⟨_, pss_one (ps_ret (pe_fld (pv 0) rfl)), ?_⟩
    exact ⟨_, rfl, p, _, c.1, _, _, rfl, e, T.c_Replica, T.n_Replica_number, rfl, q H Kp.refl⟩
/-! ### fits -/
def spFits (K : PySem.W.Frag) : Sp := fun vs H Q _ => ∃ p D c n ts B rs ch gs ls, vs = [.ref p, .ref ch] ∧ RepAt K D H p c n ts B rs ∧ ts.Nodup ∧ ts.length ≤ 90 ∧ Chg H ch gs ls ∧ gs.length ≤ 90 ∧ ls.length ≤ 90 ∧ appl ts gs ls = true ∧ Tabs K H ∧ ∀ H', Kp Nil H H' → Q (.bl true) H'
theorem sc_Replica_fits : FnScope ["self", "change"] ["self", "change"] (defScope s_Replica_fits) := ⟨rfl, rfl, rfl, by decide +kernel, rfl, by decide +kernel, by decide +kernel⟩
theorem ok_Replica_fits (T : Top K mg base) : Cal P w K mg base CX0 5 ("Replica", some "fits") ["self", "change"] (spFits K) := by
  obtain ⟨fd, F⟩ := T.d_Replica_fits
  have cs := ok_applies (P := P) (w := w) T
  obtain ⟨fd1, F1, b1⟩ := cs.ex
  obtain ⟨tm, em⟩ := T.i_MOST_GRANTS
  refine ⟨⟨fd, FunD.ok F sc_Replica_fits (fun vs H Q E h => ?_) (fun cdv A outer s H vs Q E hr h => ?_), FunD.bindsN F fun _ _ _ _ _ _ us hl => match us, hl with | [_, _], _ => rfl⟩, F.kp⟩
  · obtain ⟨p, D, c, n, ts, B, rs, ch, gs, ls, rfl, _⟩ := h
    rfl
  · obtain ⟨p, D, c, n, ts, B, rs, ch, gs, ls, rfl, hR, hnd, htl, hc, hgl, hll, hap, ht, q⟩ := h
    obtain ⟨tb, e, _, hT⟩ := hR.ob
    refine ⟨_, pss_one (ps_ret (pe_and (pe_call F1 hr rfl T.g_applies cs.kp b1 .nil pass0 (pa_cons (pe_fld (pv 0) rfl) (pa_cons (pv 1) pa_nil)))
      (pe_one (pe_cmpR op_le (pe_op op_sub (pe_op op_add (pe_callB call_len_seq (by rfl) T.f_len PySem.boot_len (pa_cons (pe_fld (pv 0) rfl) pa_nil)) (pe_callB call_len_seq (by rfl) T.f_len PySem.boot_len (pa_cons (pe_ix ix_tup (pv 1) pe_int (fun _ _ => rfl)) pa_nil)))
        (pe_callB call_len_seq (by rfl) T.f_len PySem.boot_len (pa_cons (pe_ix ix_tup (pv 1) pe_int (fun _ _ => rfl)) pa_nil))) (pe_glob (v := .int 12800) rfl em ⟨_, rfl⟩) (nomark _))))), ?_⟩
    refine ⟨_, rfl, p, _, c.1, _, _, rfl, e, T.c_Replica, T.n_Replica_table, rfl, _, rfl, tb, ch, ts, gs, ls, rfl, ⟨hT, hnd, by omega⟩, hc, ht, fun H1 k1 => ?_⟩
    rw [hap]
    obtain ⟨vs, ev, pr⟩ := hT.kp0 k1
    obtain ⟨g, l, ec, hg, hl⟩ := (hc.kp0 k1).ex
    obtain ⟨vg, evg, prg⟩ := hg.at_
    obtain ⟨vl, evl, prl⟩ := hl.at_
    have l1 : vs.length = ts.length := pr.length
    have l2 : vg.length = gs.length := prg.length
    have l3 : vl.length = ls.length := prl.length
    refine ⟨_, rfl, iteT ⟨_, rfl, p, _, c.1, _, _, rfl, k1.ins0 e, T.c_Replica, T.n_Replica_table, rfl, tb, vs, rfl, .inl (SqL.of ev), _, rfl, ch, _, 0, _, rfl, rfl, SqT.of ec, rfl, g, vg, rfl, .inl (SqL.of evg), _, _, rfl, rfl, _, rfl, ch, _, 1, _, rfl, rfl, SqT.of ec, rfl, l, vl, rfl, .inl (SqL.of evl), _, _, rfl, rfl, _, _, rfl, rfl, ?_⟩⟩
    have h1 := q H1 k1
    have h2 : decide (((vs.length : Int) + (vg.length : Int)) - (vl.length : Int) ≤ 12800) = true := decide_eq_true (by omega)
    rw [← h2] at h1
    exact h1
end
end Au
/-! Authsync: check_entry, take_waiting, receive. -/
namespace Au
open PySem PySem.Spec PyProof.Rows L2
theorem valV_drop {κ : Type} [DecidableEq κ] (k j : κ) : ∀ kvs : List (κ × V), valV (dropK kvs k) j = if j = k then none else valV kvs j
  | [] => by
    show valV ([] : List (κ × V)) j = _
    rw [valV_nil]
    split <;> rfl
  | t :: kvs => by
    unfold dropK
    rw [List.filter_cons]
    by_cases h : t.1 = k
    · rw [if_neg (by rw [decide_eq_true_eq]; exact fun z => z h)]
      show valV (dropK kvs k) j = _
      rw [valV_drop k j kvs]
      by_cases e : j = k
      · rw [if_pos e, if_pos e]
      · rw [if_neg e, if_neg e, valV_neg fun z => e (z.symm.trans h)]
    · rw [if_pos (decide_eq_true h)]
      by_cases e : t.1 = j
      · rw [valV_pos e, valV_pos e, if_neg fun z => h (e.trans z)]
      · rw [valV_neg e, valV_neg e]
        exact valV_drop k j kvs
theorem drop_less {κ : Type} [DecidableEq κ] {kvs : List (κ × V)} {k : κ} {v : V} (h : valV kvs k = some v) : (dropK kvs k).length < kvs.length := by
  unfold dropK
  refine List.length_filter_lt_length_iff_exists.mpr ?_
  have hm : k ∈ kvs.map (·.1) := by
    by_cases z : k ∈ kvs.map (·.1)
    · exact z
    · exfalso
      have : valV kvs k = none := by
        clear h
        induction kvs with
        | nil => rfl
        | cons t kvs ih =>
          rw [valV_neg fun q => z (List.mem_cons.mpr (.inl q.symm))]
          exact ih fun q => z (List.mem_cons_of_mem _ q)
      rw [this] at h
      cases h
  obtain ⟨x, hx, e⟩ := List.mem_map.mp hm
  exact ⟨x, hx, by rw [decide_eq_true_eq]; exact fun q => q e⟩
theorem ChgD.chg {D : Addr → Prop} {H : Hp} {v : V} {rs : List Rev} {m : Nat} (hok : ∀ r ∈ rs, RevOk r) (h : ChgD D H v (chgN rs m)) : ∃ a, v = .ref a ∧ Chg H a (chgN rs m).1 (chgN rs m).2 := by
  obtain ⟨a, g, l, rfl, _, _, e, h1, h2⟩ := h
  have o1 := tabN_ok hok m
  have o0 := tabN_ok hok (m - 1)
  refine ⟨a, rfl, ⟨g, l, e, ⟨h1, sortT_nodup (without_nodup o1.nd), ?_⟩, h2, sortT_nodup (without_nodup o0.nd), ?_⟩⟩
  · show (sortT (without (tabN rs m) (tabN rs (m - 1)))).length ≤ 20000
    rw [sortT_len]
    have := without_len (tabN rs m) (tabN rs (m - 1))
    have := o1.len
    omega
  · show (sortT (without (tabN rs (m - 1)) (tabN rs m))).length ≤ 20000
    rw [sortT_len]
    have := without_len (tabN rs (m - 1)) (tabN rs m)
    have := o0.len
    omega
theorem chgN_len {rs : List Rev} (hok : ∀ r ∈ rs, RevOk r) (m : Nat) : (chgN rs m).1.length ≤ 90 ∧ (chgN rs m).2.length ≤ 90 := by
  have o1 := tabN_ok hok m
  have o0 := tabN_ok hok (m - 1)
  refine ⟨?_, ?_⟩
  · show (sortT (without (tabN rs m) (tabN rs (m - 1)))).length ≤ 90
    rw [sortT_len]
    exact Nat.le_trans (without_len _ _) o1.len
  · show (sortT (without (tabN rs (m - 1)) (tabN rs m))).length ≤ 90
    rw [sortT_len]
    exact Nat.le_trans (without_len _ _) o0.len
theorem RepOk.fits {n : Nat} {ts : List T3} {rs : List Rev} (h : RepOk n ts rs) : appl ts (chgN rs (n + 1)).1 (chgN rs (n + 1)).2 = true := same_fits (us := tabN rs n) h.same
abbrev RpS (p : Addr) (c : Addr × Addr) : Addr → Prop := fun b => b = p ∨ b = c.2
def spTake (K : PySem.W.Frag) : Sp := fun vs H Q _ => ∃ p D c n ts B rs, vs = [.ref p] ∧ RepAt K D H p c n ts B rs ∧ RepOk n ts rs ∧ Tabs K H ∧ ¬ D p ∧ ¬ D c.2 ∧ (∀ b, H b = none → D b) ∧
  ∀ H' n' ts' i, Kp (RpS p c) H H' → RepAt K D H' p c n' ts' B rs → RepOk n' ts' rs → Q (.int i) H'
section
variable {P : Program} {w : World} {K : PySem.W.Frag} {mg : Str → Option Value} {base : Heap}
theorem sc_take_waiting : FnScope ["self", "applied", "change"] ["self"] (defScope s_Replica_take_waiting) := ⟨rfl, rfl, rfl, by decide +kernel, rfl, by decide +kernel, by decide +kernel⟩
theorem ok_take_waiting (T : Top K mg base) : Cal P w K mg base CX0 6 ("Replica", some "take_waiting") ["self"] (spTake K) := by
  obtain ⟨fd, F⟩ := T.d_Replica_take_waiting
  have cs := ok_Replica_fits (P := P) (w := w) T
  obtain ⟨fd1, F1, b1⟩ := cs.ex
  have cs2 := ok_apply_change (P := P) (w := w) T
  obtain ⟨fd2, F2, b2⟩ := cs2.ex
  refine ⟨⟨fd, FunD.ok F sc_take_waiting (fun vs H Q E h => ?_) (fun cdv A outer s H vs Q E hr h => ?_), FunD.bindsN F fun _ _ _ _ _ _ us hl => match us, hl with | [_], _ => rfl⟩, F.kp⟩
  · obtain ⟨p, D, c, n, ts, B, rs, rfl, _⟩ := h
    rfl
  · obtain ⟨p, D, c, n, ts, B, rs, rfl, hR, hO, ht, hDp, hDc, hD, q⟩ := h
    have nd := sc_take_waiting.nd
    refine ⟨_, pss_cons (ps_set (i := 1) nd rfl (.inl rfl) pe_int)
      (pss_cons (ps_while (passes_of rfl) (pt_cmp (pc_din hr.u1 (pe_op op_add (pe_fld (pv 0) rfl) pe_int) (pe_fld (pv 0) rfl)))
        (pss_cons (ps_set (i := 2) nd rfl (.inl rfl) (pe_dpop1 (pe_fld (pv 0) rfl) (pe_op op_add (pe_fld (pv 0) rfl) pe_int) ⟨rfl, rfl, rfl, rfl⟩))
        (pss_cons (ps_if (pt_not (pt_val (pe_meth (pv 0) T.c_Replica T.m_Replica_fits F1 hr b1 .nil pass0 (pa_cons (pv 2) pa_nil)))) (pss_one ps_never) pss_nil)
        (pss_cons (ps_fld (pv 0) (pe_call F2 hr rfl T.g_apply_change cs2.kp b2 .nil pass0 (pa_cons (pe_fld (pv 0) rfl) (pa_cons (pv 2) pa_nil))) rfl)
        (pss_cons (ps_fld (pv 0) (pe_op op_add (pe_fld (pv 0) rfl) pe_int) rfl)
        (pss_one (ps_set (i := 1) nd rfl (.inl rfl) (pe_op op_add (pv 1) pe_int))))))))
      (pss_one (ps_ret (pv 1)))), ?_⟩
    have nD : ∀ b, RpS p c b → ¬ D b := fun b hb => by
      rcases hb with hb | hb <;> rw [hb] <;> assumption
    refine ⟨fun m σ H' => m ≤ B ∧ ∃ n' ts' i x2, σ = [some (.ref p), some (.int i), x2] ∧ Kp (RpS p c) H H' ∧ RepAt K D H' p c n' ts' m rs ∧ RepOk n' ts' rs, ⟨B, Nat.le_refl _, n, ts, 0, none, rfl, Kp.refl, hR, hO⟩, ?_⟩
    intro m σ H1 ⟨hmB, n1, ts1, i1, x2, eσ, k1, R1, O1⟩
    subst eσ
    obtain ⟨tb, e1, dtb, hT1⟩ := R1.ob
    obtain ⟨kvs, ek, hkl, hkf⟩ := R1.lt
    refine ⟨_, rfl, p, _, c.1, _, _, rfl, e1, T.c_Replica, T.n_Replica_number, rfl, _, _, rfl, rfl, _, rfl, p, _, c.1, _, _, rfl, e1, T.c_Replica, T.n_Replica_later, rfl, c.2, valV kvs (.inl ((n1 : Int) + 1)), rfl, DGet.k (k := .inl ((n1 : Int) + 1)) ek, _, rfl, itb (fun c1 => ?_) fun c1 => ?_⟩
    · obtain ⟨v, hv⟩ := Option.isSome_iff_exists.mp c1
      obtain ⟨j, ej, hj1, hj2, hch⟩ := hkf _ v hv
      obtain rfl : j = n1 + 1 := by
        have := Sum.inl.inj ej
        omega
      have hless := drop_less hv
      refine ⟨fun σ' H' => ∃ m', m' < m ∧ (m' ≤ B ∧ ∃ n' ts' i x2, σ' = [some (.ref p), some (.int i), x2] ∧ Kp (RpS p c) H H' ∧ RepAt K D H' p c n' ts' m' rs ∧ RepOk n' ts' rs), fun _ _ h => h, ?_⟩
      refine ⟨_, rfl, p, _, c.1, _, _, rfl, e1, T.c_Replica, T.n_Replica_later, rfl, c.2, rfl, .inl ⟨kvs, .inl ek⟩, _, rfl, p, _, c.1, _, _, rfl, e1, T.c_Replica, T.n_Replica_number, rfl, _, _, rfl, rfl, kvs, .inl ((n1 : Int) + 1), v, ek, rfl, hv, ?_⟩
      have k2 : Kp (RpS p c) H1 (upd H1 c.2 (.dK (dropK kvs (.inl ((n1 : Int) + 1))))) := Kp.put ek nt_dK (.inr rfl)
      have t2 : TupFree (RpS p c) H1 := fun b xs z hb => by
        rcases hb with hb | hb
        · rw [hb, e1] at z; cases z
        · rw [hb, ek] at z; cases z
      have npc : p ≠ c.2 := ne_of e1 ek fun z => by cases z
      have e2 : (upd H1 c.2 (.dK (dropK kvs (.inl ((n1 : Int) + 1))))) p = _ := o2 e1 npc
      have ek2 : (upd H1 c.2 (.dK (dropK kvs (.inl ((n1 : Int) + 1))))) c.2 = some (.dK (dropK kvs (.inl ((n1 : Int) + 1)))) := upd_same
      have hT2 := hT1.kp k2 t2 fun z => nD _ z dtb
      have hch2 := hch.kp k2 t2 nD
      have hkf2 : ∀ k v, valV (dropK kvs (.inl ((n1 : Int) + 1))) k = some v → ∃ j : Nat, k = .inl (j : Int) ∧ n1 + 1 < j ∧ j < rs.length ∧ ChgD D H1 v (chgN rs j) := fun k v hv' => by
        rw [valV_drop] at hv'
        split at hv'
        · cases hv'
        · rename_i hne
          obtain ⟨j, a, b, c', d⟩ := hkf k v hv'
          refine ⟨j, a, ?_, c', d⟩
          have : j ≠ n1 + 1 := fun z => hne (by rw [a, z]; rfl)
          omega
      generalize hH2 : upd H1 c.2 (.dK (dropK kvs (.inl ((n1 : Int) + 1)))) = H2 at k2 e2 ek2 hT2 hch2
      obtain ⟨ca, rfl, hCh⟩ := hch2.chg O1.ok
      have hlen := chgN_len O1.ok (n1 + 1)
      have R2 : RepAt K D H2 p c n1 ts1 m rs := ⟨⟨tb, e2, dtb, hT2⟩, _, ek2, by omega, fun k v hv' => by
        obtain ⟨j, a, b, c', d⟩ := hkf2 k v hv'
        exact ⟨j, a, by omega, c', d.kp k2 t2 nD⟩⟩
      have hts := O1.same.len (tabN_ok O1.ok n1)
      refine ⟨_, rfl, p, c.1, _, rfl, e2, rfl, _, rfl, p, D, c, n1, ts1, m, rs, ca, _, _, rfl, R2, O1.same.nd, hts, hCh, hlen.1, hlen.2, O1.fits, (ht.kp k1).kp k2, fun H3 k3 => ⟨true, rfl, iteF ?_⟩⟩
      have e3 := k3.ins0 e2
      refine ⟨_, rfl, p, _, c.1, _, _, rfl, e3, T.c_Replica, T.n_Replica_table, rfl, _, rfl, tb, ca, ts1, _, _, rfl, ⟨hT2.kp0 k3, O1.same.nd, by omega⟩, hCh.kp0 k3, ((ht.kp k1).kp k2).kp k3, O1.fits, fun H4 nt k4 hnt hTn => ?_⟩
      have e4 := k4.ins0 e3
      have k04 : Kp (RpS p c) H H4 := k1.trans (k2.trans (k3.any.trans k4.any))
      refine ⟨_, rfl, p, _, c.1, _, rfl, e4, T.c_Replica, T.n_Replica_table, by show 4 < 1000; decide, ?_⟩
      refine ⟨_, rfl, p, _, c.1, _, _, rfl, upd_same, T.c_Replica, T.n_Replica_number, rfl, _, _, rfl, rfl, _, rfl, p, _, c.1, _, rfl, upd_same, T.c_Replica, T.n_Replica_number, by show 4 < 1000; decide, ?_⟩
      rw [upd_upd]
      have k5 := Kp.put (S := RpS p c) (o := .ins (He.ga K "Replica") c.1 (putF "number" (.int ((n1 : Int) + 1)) (putF "table" (.ref nt) [("name", .str "main"), ("number", .int (n1 : Int)), ("table", .ref tb), ("later", .ref c.2)]))) e4 nt_ins (.inl rfl)
      have k5p := Kp.put (S := Only p) (o := .ins (He.ga K "Replica") c.1 (putF "number" (.int ((n1 : Int) + 1)) (putF "table" (.ref nt) [("name", .str "main"), ("number", .int (n1 : Int)), ("table", .ref tb), ("later", .ref c.2)]))) e4 nt_ins rfl
      have t4 : TupFree (Only p) H4 := ins_tup e4
      have nDp : ∀ b, Only p b → ¬ D b := fun b (hb : b = p) => by rw [hb]; exact hDp
      have dnt : D nt := hD nt (k1.fr _ (k2.fr _ (k3.fr _ hnt)))
      refine ⟨_, rfl, _, _, rfl, rfl, m - 1, by omega, by omega, n1 + 1, _, _, _, rfl, k04.trans k5, ⟨⟨nt, upd_same, dnt, hTn.kp k5p t4 fun z => nDp _ z dnt⟩, _, o2 (k4.dK0 (k3.dK0 ek2)) (Ne.symm npc), by omega, fun k v hv' => ?_⟩, ⟨by omega, same_after (us := tabN rs n1) O1.same (tabN_ok O1.ok (n1 + 1)).nd, O1.ok, O1.le⟩⟩
      obtain ⟨j, a, b, c', d⟩ := hkf2 k v hv'
      exact ⟨j, a, b, c', (((d.kp k2 t2 nD).kp k3 tupFree_nil fun _ z => z.elim).kp k4 tupFree_nil fun _ z => z.elim).kp k5p t4 nDp⟩
    · have R1' : RepAt K D H1 p c n1 ts1 B rs := ⟨R1.ob, kvs, ek, by omega, hkf⟩
      exact ⟨_, rfl, q H1 n1 ts1 i1 k1 R1' O1⟩
/-! ### check_entry -/
def spChkE (K : PySem.W.Frag) : Sp := fun vs H Q _ => ∃ p D c n ts B rs, ∃ m : Nat, ∃ ch, vs = [.ref p, .int (m : Int), .ref ch] ∧ RepAt K D H p c n ts B rs ∧ RepOk n ts rs ∧ n < m ∧ m < rs.length ∧ Chg H ch (chgN rs m).1 (chgN rs m).2 ∧ Tabs K H ∧
  (∀ kvs, H c.2 = some (.dK kvs) → valV kvs (.inl (m : Int)) = none) ∧ ∀ H', Kp Nil H H' → Q .non H'
theorem sc_check_entry : FnScope ["self", "number", "change"] ["self", "number", "change"] (defScope s_Replica_check_entry) := ⟨rfl, rfl, rfl, by decide +kernel, rfl, by decide +kernel, by decide +kernel⟩
theorem ok_check_entry (T : Top K mg base) : Cal P w K mg base CX0 6 ("Replica", some "check_entry") ["self", "number", "change"] (spChkE K) := by
  obtain ⟨fd, F⟩ := T.d_Replica_check_entry
  have cs := ok_Replica_fits (P := P) (w := w) T
  obtain ⟨fd1, F1, b1⟩ := cs.ex
  obtain ⟨tm, em⟩ := T.i_MOST_AHEAD
  refine ⟨⟨fd, FunD.ok F sc_check_entry (fun vs H Q E h => ?_) (fun cdv A outer s H vs Q E hr h => ?_), FunD.bindsN F fun _ _ _ _ _ _ us hl => match us, hl with | [_, _, _], _ => rfl⟩, F.kp⟩
  · obtain ⟨p, D, c, n, ts, B, rs, m, ch, rfl, _⟩ := h
    rfl
  · obtain ⟨p, D, c, n, ts, B, rs, m, ch, rfl, hR, hO, hn, hm, hC, ht, hno, q⟩ := h
    refine ⟨_, pss_cons (ps_if (pt_cmp (pc_din hr.u1 (pv 1) (pe_fld (pv 0) rfl))) (pss_one ps_never) pss_nil)
      (pss_cons (ps_if (pt_cmpR op_gt (pv 1) (pe_op op_add (pe_fld (pv 0) rfl) (pe_glob (v := .int 40) rfl em ⟨_, rfl⟩)) (nomark _)) (pss_one ps_never) pss_nil)
      (pss_one (ps_if (PW.pt (pw_and (pt_cmpR op_eq (pv 1) (pe_op op_add (pe_fld (pv 0) rfl) pe_int) (nomark _)) (pw_and1 (pt_not (pt_val (pe_meth (pv 0) T.c_Replica T.m_Replica_fits F1 hr b1 .nil pass0 (pa_cons (pv 2) pa_nil))))))) (pss_one ps_never) pss_nil))), ?_⟩
    obtain ⟨tb, e, dtb, hT⟩ := hR.ob
    obtain ⟨kvs, ek, hkl, hkf⟩ := hR.lt
    have hv := hno kvs ek
    have hle := hO.le
    refine ⟨_, rfl, _, rfl, p, _, c.1, _, _, rfl, e, T.c_Replica, T.n_Replica_later, rfl, c.2, none, rfl, by rw [← hv]; exact DGet.k (k := .inl (m : Int)) ek, _, rfl, iteF ?_⟩
    refine ⟨_, rfl, _, rfl, p, _, c.1, _, _, rfl, e, T.c_Replica, T.n_Replica_number, rfl, _, _, rfl, rfl, _, _, rfl, rfl, _, rfl, iteN (decide_eq_false (by omega)) ?_⟩
    refine ⟨_, rfl, _, rfl, p, _, c.1, _, _, rfl, e, T.c_Replica, T.n_Replica_number, rfl, _, _, rfl, rfl, rfl, _, rfl, itb (fun c1 => ?_) fun c1 => ?_⟩
    · have c1 : m = n + 1 := by
        have h1 := of_decide_eq_true c1
        have h2 : (m : Int) = (n : Int) + 1 := V.int.inj h1
        omega
      subst c1
      have hlen := chgN_len hO.ok (n + 1)
      exact ⟨_, rfl, p, c.1, _, rfl, e, rfl, _, rfl, p, D, c, n, ts, B, rs, ch, _, _, rfl, hR, hO.same.nd, hO.same.len (tabN_ok hO.ok n), hC, hlen.1, hlen.2, hO.fits, ht, fun H1 k1 => ⟨true, rfl, iteF (q H1 k1)⟩⟩
    · exact iteF (q H Kp.refl)
/-! ### receive -/
def spRecv (K : PySem.W.Frag) : Sp := fun vs H Q _ => ∃ p D c n ts B rs, ∃ m : Nat, ∃ e g l, vs = [.ref p, .ref e] ∧ RepAt K D H p c n ts B rs ∧ RepOk n ts rs ∧ m < rs.length ∧ B ≤ 1000 ∧ H e = some (.tup [.str "main", .int (m : Int), .ref g, .ref l]) ∧ TriL H g (chgN rs m).1 ∧ TriL H l (chgN rs m).2 ∧ Tabs K H ∧ ¬ D p ∧ ¬ D c.2 ∧ (∀ b, H b = none → D b) ∧
  ∀ H' n' ts' i, Kp (RpS p c) H H' → RepAt K D H' p c n' ts' (B + 1) rs → RepOk n' ts' rs → Q (.int i) H'
theorem sc_receive : FnScope ["self", "entry", "name", "number", "gained", "lost", "change"] ["self", "entry"] (defScope s_Replica_receive) := ⟨rfl, rfl, rfl, by decide +kernel, rfl, by decide +kernel, by decide +kernel⟩
theorem ok_receive (T : Top K mg base) : Cal P w K mg base CX0 7 ("Replica", some "receive") ["self", "entry"] (spRecv K) := by
  obtain ⟨fd, F⟩ := T.d_Replica_receive
  have cs := ok_check_entry (P := P) (w := w) T
  obtain ⟨fd1, F1, b1⟩ := cs.ex
  have cs2 := ok_take_waiting (P := P) (w := w) T
  obtain ⟨fd2, F2, b2⟩ := cs2.ex
  refine ⟨⟨fd, FunD.ok F sc_receive (fun vs H Q E h => ?_) (fun cdv A outer s H vs Q E hr h => ?_), FunD.bindsN F fun _ _ _ _ _ _ us hl => match us, hl with | [_, _], _ => rfl⟩, F.kp⟩
  · obtain ⟨p, D, c, n, ts, B, rs, m, e, g, l, rfl, _⟩ := h
    rfl
  · obtain ⟨p, D, c, n, ts, B, rs, m, e, g, l, rfl, hR, hO, hm, hB, ee, hg, hl, ht, hDp, hDc, hD, q⟩ := h
    have nd := sc_receive.nd
    refine ⟨_, pss_cons (ps_asg (pv 1) (pg_tup rfl (pgs_cons (pg_name (i := 2) nd rfl (.inl rfl)) (pgs_cons (pg_name (i := 3) nd rfl (.inl rfl)) (pgs_cons (pg_name (i := 4) nd rfl (.inl rfl)) (pgs_cons (pg_name (i := 5) nd rfl (.inl rfl)) pgs_nil))))))
      (pss_cons (ps_set (i := 6) nd rfl (.inl rfl) (pe_tup (pa_cons (pe_callTy call_list_of (by rfl) T.f_list (by decide +kernel) (pa_cons (pv 4) pa_nil)) (pa_cons (pe_callTy call_list_of (by rfl) T.f_list (by decide +kernel) (pa_cons (pv 5) pa_nil)) pa_nil))))
      (pss_cons (ps_if (pt_cmpR op_ne (pv 2) (pe_fld (pv 0) rfl) (nomark _)) (pss_one ps_never) pss_nil)
      (pss_cons (ps_if (PW.pt (pw_or (pt_cmpR op_le (pv 3) (pe_fld (pv 0) rfl) (nomark _)) (pw_or1 (pt_cmpR (op_eqC hr.units) (pe_dget1 hr.u1 (pe_fld (pv 0) rfl) (pv 3) ⟨rfl, rfl, rfl, rfl⟩) (pv 6) (nomark _))))) (pss_one (ps_ret pe_int)) pss_nil)
      (pss_cons (ps_expr (pe_meth (pv 0) T.c_Replica T.m_Replica_check_entry F1 hr b1 .nil pass0 (pa_cons (pv 3) (pa_cons (pv 6) pa_nil))))
      (pss_cons (ps_dput hr.u1 (pe_fld (pv 0) rfl) (pv 3) (pv 6) rfl)
      (pss_one (ps_ret (pe_meth0 (pv 0) T.c_Replica T.m_Replica_take_waiting F2 hr b2 .nil pass0)))))))), ?_⟩
    refine ⟨_, rfl, e, _, rfl, SqT.of ee, rfl, _, _, rfl, _, _, rfl, _, _, rfl, _, _, rfl, rfl, ?_⟩
    obtain ⟨vg, evg, prg⟩ := hg
    obtain ⟨vl, evl, prl⟩ := hl
    refine ⟨_, rfl, g, vg, rfl, .inl (SqL.of evg), fun g2 hg2 => ?_⟩
    have k1 : Kp Nil H (upd H g2 (.lst vg)) := Kp.new hg2
    refine ⟨_, rfl, l, vl, rfl, .inl (SqL.of (k1.lst0 evl)), fun l2 hl2 => ⟨by show 2 ≤ sizeLine; decide, fun ch hch => ?_⟩⟩
    have k2 : Kp Nil (upd H g2 (.lst vg)) (upd (upd H g2 (.lst vg)) l2 (.lst vl)) := Kp.new hl2
    have k3 : Kp Nil (upd (upd H g2 (.lst vg)) l2 (.lst vl)) (upd (upd (upd H g2 (.lst vg)) l2 (.lst vl)) ch (.tup [.ref g2, .ref l2])) := Kp.new hch
    have k03 := k1.trans (k2.trans k3)
    have hC : ChgD D (upd (upd (upd H g2 (.lst vg)) l2 (.lst vl)) ch (.tup [.ref g2, .ref l2])) (.ref ch) (chgN rs m) :=
      ⟨ch, g2, l2, rfl, hD _ hg2, hD _ (k1.fr _ hl2), upd_same, ⟨vg, k3.lst0 (k2.lst0 upd_same), Tri.prs k03 prg⟩, ⟨vl, k3.lst0 upd_same, Tri.prs k03 prl⟩⟩
    generalize hH3 : upd (upd (upd H g2 (.lst vg)) l2 (.lst vl)) ch (.tup [.ref g2, .ref l2]) = H3 at k03 hC
    have R3 := hR.kp0 k03
    obtain ⟨tb, e3, dtb, hT⟩ := R3.ob
    obtain ⟨kvs, ek, hkl, hkf⟩ := R3.lt
    refine ⟨_, rfl, _, rfl, p, _, c.1, _, _, rfl, e3, T.c_Replica, T.n_Replica_name, rfl, rfl, _, rfl, iteN (by simp) ?_⟩
    have R3' : RepAt K D H3 p c n ts (B + 1) rs := ⟨⟨tb, e3, dtb, hT⟩, kvs, ek, by omega, hkf⟩
    refine ⟨_, rfl, _, rfl, p, _, c.1, _, _, rfl, e3, T.c_Replica, T.n_Replica_number, rfl, _, _, rfl, rfl, _, rfl, itb (fun c1 => ?_) fun c1 => ?_⟩
    · exact iteT (q H3 n ts 0 k03.any R3' hO)
    · have hnm : n < m := by
        have := of_decide_eq_false c1
        omega
      refine ⟨_, rfl, p, _, c.1, _, _, rfl, e3, T.c_Replica, T.n_Replica_later, rfl, c.2, rfl, .inl ⟨kvs, .inl ek⟩, _, rfl, valV kvs (.inl (m : Int)), DGet.k (k := .inl (m : Int)) ek, _, rfl, chgN rs m, hC.v, ?_⟩
      cases hv : valV kvs (.inl (m : Int)) with
      | some v =>
        obtain ⟨j, ej, _, _, hch2⟩ := hkf _ v hv
        obtain rfl : j = m := by
          have := Sum.inl.inj ej
          omega
        refine .inr ⟨chgN rs j, hch2.v, _, rfl, ?_⟩
        rw [decide_eq_true rfl]
        exact iteT (q H3 n ts 0 k03.any R3' hO)
      | none =>
        refine .inl ⟨rfl, _, rfl, iteF ?_⟩
        obtain ⟨ca, ec, hCh⟩ := hC.chg hO.ok
        obtain rfl := V.ref.inj ec
        refine ⟨_, rfl, p, c.1, _, rfl, e3, rfl, _, rfl, _, rfl, p, D, c, n, ts, B, rs, m, ch, rfl, R3, hO, hnm, hm, hCh, ht.kp k03, fun kvs' ek' => ?_, fun H4 k4 => ?_⟩
        · rw [ek] at ek'
          cases ek'
          exact hv
        · have e4 := k4.ins0 e3
          have ek4 := k4.dK0 ek
          refine ⟨_, rfl, _, rfl, p, _, c.1, _, _, rfl, e4, T.c_Replica, T.n_Replica_later, rfl, _, rfl, c.2, _, rfl, DPut.k (k := .inl (m : Int)) ek4 (by rw [sizeLine_eq]; omega), ?_⟩
          have k5 := Kp.put (S := Only c.2) (o := .dK (putK kvs (.inl (m : Int)) (.ref ch))) ek4 nt_dK rfl
          have t5 : TupFree (Only c.2) H4 := fun b xs z (hb : b = c.2) => by rw [hb, ek4] at z; cases z
          have nDc : ∀ b, Only c.2 b → ¬ D b := fun b (hb : b = c.2) => by rw [hb]; exact hDc
          have npc : p ≠ c.2 := ne_of e4 ek4 fun z => by cases z
          have k45 : Kp (Only c.2) H3 _ := k4.any.trans k5
          have k05 : Kp (RpS p c) H _ := k03.any.trans (k45.mono fun b hb => .inr hb)
          have R5 : RepAt K D (upd H4 c.2 (.dK (putK kvs (.inl (m : Int)) (.ref ch)))) p c n ts (B + 1) rs := by
            refine ⟨⟨tb, o2 e4 npc, dtb, (hT.kp0 k4).kp k5 t5 fun z => nDc _ z dtb⟩, _, upd_same, Nat.le_trans (length_putK _ _ _) (by omega), fun k v hv' => ?_⟩
            rw [valV_put] at hv'
            by_cases z : k = .inl (m : Int)
            · rw [if_pos z] at hv'
              obtain rfl := Option.some.inj hv'
              exact ⟨m, z, hnm, hm, (hC.kp k4 tupFree_nil fun _ z => z.elim).kp k5 t5 nDc⟩
            · rw [if_neg z] at hv'
              obtain ⟨j, a, b, c', d⟩ := hkf k v hv'
              exact ⟨j, a, b, c', (d.kp k4 tupFree_nil fun _ z => z.elim).kp k5 t5 nDc⟩
          obtain ⟨tb5, e5, _⟩ := id R5.ob
          refine ⟨_, rfl, p, c.1, _, rfl, e5, rfl, p, D, c, n, ts, B + 1, rs, rfl, R5, hO, ht.kp k05, hDp, hDc, fun b hb => hD b (k05.fr _ hb), fun H6 n' ts' i k6 R6 O6' => q H6 n' ts' i (k05.trans k6) R6 O6'⟩
end
end Au
/-! Authsync: Refused(.., -1): super().__init__(what) of an exception over ValueError. -/
namespace Au
open PySem PySem.Spec PySem.W PySem.Calls
section
variable {prog : Program} {w : World} {A : Around} {E : Value → Shared → Prop} {h : Heap} {g : Array GenState} {d : Drawn} {t : Nat} {os : OsState}
variable {nm q : Str} {C N : Addr} {bs bm : List Value} {hdct : Bool} {sn : List Str} {sub : List Value} {ab : Bool} {col : Option Bool} {dd : Option Addr} {k0 k1 k2 k3 k5 : Option Value}
theorem call_vw {u e t0 : Addr} {rest : List Value} {Q : Value → Shared → Prop}
    (hC : h.get? C = some (excClassObj nm q C N bs bm hdct sn sub ab col dd k0 k1 k2 k3 k5 "ValueError.__new__")) (he : h.get? e = some (HandSPX.excO C t0)) (hu : h.get? u = some (kxs_mw "ValueError.__init__" e)) (hrest : rest.length ≤ sizeLine)
    (hq : ∀ h' t1, (∀ b o, b ≠ e → h.get? b = some o → h'.get? b = some o) → h'.get? e = some (HandSPX.excO C t1) → Q .none ⟨h', g, d, t, os⟩) :
    wpAny (model prog w) A (call (.ref u) rest) Q E ⟨h, g, d, t, os⟩ := by
  refine wpAny_call (codeAny_of_tree ?_)
  show wpAny _ A.in1 (callAny (.ref u) ⟨rest, []⟩) _ _ _
  simp only [callAny]
  refine wpAny_bind (wpAny_load hu ?_)
  simp only [kxs_mw, show (Value.type "method-wrapper" == Value.type "method" || Value.type "method-wrapper" == Value.type "builtin_function_or_method" || Value.type "method-wrapper" == Value.type "method-wrapper") = true by decide, if_true]
  refine KFB.if_so (by decide) ?_
  refine wpAny_bind (ESX.check_bound F.excBase_ValueError hC he rfl ?_)
  refine wpAny_bind (wpAny_pure (wpAny_pure ?_))
  refine ⟨Code.quiet_builtin _ (by decide +kernel), codeAny_builtin F.excBase_ValueError.initEntry ?_⟩
  rw [Around.under_plainId F.excBase_ValueError.init.plain _]
  wp_walk
  refine hq _ h.objs.size (fun b o hb ho => ?_) ?_
  · rw [Heap.get?_update_other _ _ (Ne.symm hb)]
    exact Heap.get?_push_of_some _ ho
  · rw [Heap.get?_update_self _ (Heap.get?_push_of_some _ he) rfl]
    rfl
end
end Au
/-! Authsync: Refused.__init__(self, what, -1), walked. -/
namespace Au
open PySem PySem.Spec PySem.W PySem.Calls
abbrev s_Refused_init : Stmt := L2.inClass (top 4) 0
/-- what the top tells of Refused -/
structure RefK (P : Program) (K : PySem.W.Frag) : Prop where
  oex : L2.OexC K (He.ga K "Refused")
  init : findIn K (.ref (He.ga K "Refused")) "__init__" = some (some (.ref (He.fAd K ("Refused", some "__init__"))))
  tyI : typeIn K (.ref (He.fAd K ("Refused", some "__init__"))) = some (.type "function")
  fn : ∃ oc od osl kV doc pm an cda ct cc, K.lookup (He.fAd K ("Refused", some "__init__")) = some ⟨oc, od, .func (ksFn "__init__" "Refused.__init__" (L2.defArgs s_Refused_init) (L2.defBody s_Refused_init) (L2.defScope s_Refused_init) .none kV doc pm an (.ref cda) ct cc), osl⟩ ∧
    codeIn K (.ref cda) "Refused.__init__" = true ∧ (∃ cl cld csl, K.lookup cc = some ⟨cl, cld, .cell (some (.ref (He.ga K "Refused"))), csl⟩) ∧ ∃ ccl cdd vs ccs file tf, K.lookup cda = some ⟨ccl, cdd, .fields vs, ccs⟩ ∧ vs[2]? = some (.str file tf) ∧ ((P.main.file : Str) == file) = true
  sub : mroIn K (He.ga K "Refused") (.ref (He.ga K "Refused")) = some true
  opq : nsIn K cStatics "thirdparty.any" = some none
  sup : ks_superIn K (He.ga K "Refused") (He.ga K "Refused") "__init__" = some (some (.builtin "ValueError.__init__"))
  ve : subIn K (.ref (He.ga K "Refused")) (.type "ValueError") = some true
  what : findIn K (.ref (He.ga K "Refused")) "what" = some none
  index : findIn K (.ref (He.ga K "Refused")) "index" = some none
  top : (P.main.scope.names.lookup ("super" : Str)).isSome = false
theorem callWith_one {M : Model} {A : Around} {E : Value → Shared → Prop} {s : Shared} {pos : Pos} {env : Env} {e : Expr} {u x : Addr} {i : String} {Q : Value → Shared → Prop}
    (h : wpAny M A (eval e env) (fun v s₁ => KxsAt i u x s₁.heap ∧ wpAny M A (call (.ref u) [v]) Q E s₁) E s) (ht : backTo pos (starEach [e] env) = [(false, eval e env)] := by rfl) : wpAny M A (callWith pos (.ref u) [] (backTo pos (starEach [e] env)) []) Q E s := by
  rw [ht]
  exact kxs_callWith (i := i) (x := x) rfl (evalArgs_plain (spliced_cons (wpAny_mono h (fun v s1 hv => spliced_nil hv) fun _ _ z => z)))
/-- what a heap must tell -/
structure Grd (K : PySem.W.Frag) (mg mb : Str → Option Value) (h : Heap) : Prop where
  X : K.In h
  g : h.Ns mainGlobals mg
  b : h.Ns builtinsNs mb
  lim : h.NoLimit
theorem Grd.keeps {K : PySem.W.Frag} {mg mb : Str → Option Value} {h h' : Heap} (G : Grd K mg mb h) (k : ∀ b o, h.get? b = some o → h'.get? b = some o) : Grd K mg mb h' := ⟨G.X.keeps k, G.g.keeps k, G.b.keeps k, G.lim.keeps k⟩
section
variable {P : Program} {w : World} {A : Around} {R : Result → Shared → Prop} {K : PySem.W.Frag} {mg mb : Str → Option Value} {s : Shared} {e t0 : Addr} {what : Str} {tk tk2 : Tok}
theorem refused_init (RK : RefK P K) (G : Grd K mg mb s.heap) (hg : mg "super" = none) (hb : mb "super" = some (.type "super")) (hA : A.depth < recursionLimit) (hK : K.lookup e = none) (he : s.heap.get? e = some (HandSPX.excO (He.ga K "Refused") t0))
    (h : ∀ h' tk' dx t1 mA, (∀ b o, b ≠ e → s.heap.get? b = some o → h'.get? b = some o) → s.heap.objs.size ≤ dx → h'.get? e = some { cls := .ref (He.ga K "Refused"), dict := some dx, data := .fields #[.ref t1, .none, .none, .none, .bool false, .none] } →
      h'.Ns1 dx mA → (∀ y : Str, mA y = if y = "index" then some (.int (-1) tk2) else if y = "what" then some (.str what tk) else none) → R (.ok (.ret .none)) { s with heap := h', toks := tk' }) :
    codeAny (model P w) A (.call (.ref (He.fAd K ("Refused", some "__init__"))) ⟨[.ref e, .str what tk, .int (-1) tk2], []⟩) R s := by
  obtain ⟨oc, od, osl, kV, doc, pm, an, cda, ct, cc, lk, hcd, ⟨cl, cld, csl, lcc⟩, ccl, cdd, vs, ccs, file, tf, lcd, hvs, hfile⟩ := RK.fn
  have hcell : ∀ x ∈ (L2.defScope s_Refused_init).names, x.2 ≠ .cell := by decide +kernel
  have hself : (L2.defScope s_Refused_init).names.lookup ("self" : Str) = some .local := by decide +kernel
  have hwhat : (L2.defScope s_Refused_init).names.lookup ("what" : Str) = some .local := by decide +kernel
  have hindex : (L2.defScope s_Refused_init).names.lookup ("index" : Str) = some .local := by decide +kernel
  have hclass : (L2.defScope s_Refused_init).names.lookup ("__class__" : Str) = some .free := by decide +kernel
  have hsuper : (L2.defScope s_Refused_init).names.lookup ("super" : Str) = some .globalImplicit := by decide +kernel
  refine ks_codeAny_call_defAt (fd := ksFn "__init__" "Refused.__init__" (L2.defArgs s_Refused_init) (L2.defBody s_Refused_init) (L2.defScope s_Refused_init) .none kV doc pm an (.ref cda) ct cc) (body := L2.defBody s_Refused_init) (binds := [("self", .ref e), ("what", .str what tk), ("index", .int (-1) tk2)])
    hA (G.X _ _ lk) rfl G.lim (codeRec_of G.X hcd) rfl (.of_eq rfl) hcell (fun x hx => ?_) (fun h₁ hns hk₁ => ?_)
  · rcases List.mem_cons.mp hx with rfl | hx
    · exact hself
    · rcases List.mem_cons.mp hx with rfl | hx
      · exact hwhat
      · rw [List.mem_singleton.mp hx]
        exact hindex
  have G1 := G.keeps hk₁
  have he1 := hk₁ _ _ he
  obtain ⟨nm, q, N, bs, bm, sn, sub, ab, col, dd, k0, k1, k2, k3, k5, hC, hbm⟩ := RK.oex.cls
  have hcl : clsIn K (He.ga K "Refused") = some { name := nm, bases := bs, mro := .ref (He.ga K "Refused") :: bm, ns := N, qualname := q, hasDict := true, slotNames := sn, subclasses := sub, abstract := ab, collection := col, hasDel := false } := by unfold clsIn; rw [hC] <;> rfl
  have hCm := G1.X _ _ hC
  refine ks_wpAt_execs_cons (ks_wpAt_Expr_any (ks_wpAt_MethodCall (ks_wpAt_super_base hsuper hclass (by decide) rfl (G1.X _ _ lk) rfl (ar := ((L2.defArgs s_Refused_init).args.getD 0 default)) rfl rfl (G1.X _ _ lcd) rfl hvs hfile RK.top ?_)))
  refine ks_loadName_global (env := ksEnv "Refused.__init__" (L2.defScope s_Refused_init) s.heap.objs.size (He.fAd K ("Refused", some "__init__")) (.ref cda) cc) rfl hsuper (loadGlobal_builtin (env := ksEnv "Refused.__init__" (L2.defScope s_Refused_init) s.heap.objs.size (He.fAd K ("Refused", some "__init__")) (.ref cda) cc) G1.g hg G1.b hb ⟨rfl, ?_⟩)
  refine wpAny_loadName_free rfl hclass rfl ⟨_, G1.X _ _ lcc, rfl⟩ ?_
  refine wpAny_loadName_local rfl hself hns rfl ?_
  refine ks_wpAny_isType_cls hCm rfl ⟨rfl, ?_⟩
  refine ks_wpAny_call_super hCm rfl he1 rfl (fun c e => by cases e) (looks_mroIn G1.X RK.sub) (fun h2 hso k2 => ?_)
  have G2 := G1.keeps k2
  have he2 := k2 _ _ he1
  have hsup := RK.sup
  unfold ks_superIn at hsup
  rw [hcl] at hsup
  have hI : Looks (model P w) h2 (isInstance (.ref e) (.type "ValueError")) true := (show InstAt h2 e (HandSPX.excO (He.ga K "Refused") t0) (He.ga K "Refused") none from ⟨he2, rfl, rfl, trivial⟩).type.andThen (looks_subIn G2.X RK.ve)
  have hne : e ≠ He.ga K "Refused" := fun z => by
    rw [z, G.X _ _ hC] at he
    cases he
  refine kxs_getMethod kxs_ValueError hso (looks_opaque G2.X RK.opq) (fun A Q E s k q => wpAny_bind ((looks_clsIn G2.X hcl) A _ E s k (wpAny_pure q))) rfl G2.X hsup hI hne (by decide) ?_
  have k02 : ∀ b o, s.heap.get? b = some o → h2.get? b = some o := fun b o z => k2 b o (hk₁ b o z)
  have hns2 := hns.keeps k2
  have kp : ∀ b o, h2.get? b = some o → (h2.push (kxs_mw "ValueError.__init__" e)).get? b = some o := fun b o z => Heap.get?_push_of_some _ z
  have hu : (h2.push (kxs_mw "ValueError.__init__" e)).get? h2.objs.size = some (kxs_mw "ValueError.__init__" e) := Heap.get?_push_at rfl rfl
  have G3 := G2.keeps kp
  have he3 := kp _ _ he2
  have hns3 := hns2.keeps kp
  generalize hh3 : h2.push (kxs_mw "ValueError.__init__" e) = h3 at kp hu G3 he3 hns3
  refine callWith_one (i := "ValueError.__init__") (x := e) ?_
  refine wpAny_IfExp (wpAny_isTrue_Compare1 (wpAny_Name (wpAny_loadName_local rfl hindex hns3 rfl (wpAny_Constant_int (wpAny_lt_int (wpAny_truthy_bool ?_))))))
  rw [if_pos (by decide)]
  refine wpAny_Name (wpAny_loadName_local rfl hwhat hns3 rfl ⟨hu, ?_⟩)
  refine call_vw (G3.X _ _ hC) he3 hu (by show 1 ≤ sizeLine; decide) (fun h4 t4 k4 he4 => ?_)
  have k34 : ∀ b o, b ≠ e → s.heap.get? b = some o → h4.get? b = some o := fun b o hb z => k4 b o hb (kp _ _ (k02 _ _ z))
  have hLe : s.heap.objs.size ≠ e := fun z => by
    have := Heap.lt_size he
    rw [← z] at this
    exact absurd this (Nat.lt_irrefl _)
  have hns4 : h4.Ns s.heap.objs.size (fun x => ([("self", Value.ref e), ("what", Value.str what tk), ("index", Value.int (-1) tk2)] : List (Str × Value)).reverse.lookup x) := hns3.at fun o z => k4 _ o hLe z
  have X4 : K.In h4 := fun a o z => k4 a o (fun q => by
    rw [q, hK] at z
    cases z) (G3.X a o z)
  refine ks_wpAt_execs_cons (ks_wpAt_Assign_Attr (wpAt_of_wpAny (wpAny_Name (wpAny_loadName_local rfl hwhat hns4 rfl (wpAny_Name (wpAny_loadName_local rfl hself hns4 rfl ?_))))))
  refine set_plain X4 (ox := HandSPX.excO (He.ga K "Refused") t4) (od := none) ⟨he4, rfl, rfl, trivial⟩ RK.oex.sa ?_
  refine HandSPX.exc_osa X4 he4 hcl (show HandSPX.refsVE (.ref (He.ga K "Refused") :: bm) = true from hbm) rfl RK.what (fun h5 tk5 dx k5' dn dne hx5 hn5 => ?_)
  have hns5 : h5.Ns s.heap.objs.size (fun x => ([("self", Value.ref e), ("what", Value.str what tk), ("index", Value.int (-1) tk2)] : List (Str × Value)).reverse.lookup x) := hns4.at fun o z => k5' _ o hLe z
  have X5 : K.In h5 := fun a o z => k5' a o (fun q => by
    rw [q, hK] at z
    cases z) (X4 a o z)
  obtain ⟨oD, _, _, hoD, _, _⟩ := hn5.count (ns := ["what"]) (fun y hy => by
    by_cases z : y = "what"
    · rw [z]; exact List.mem_cons_self ..
    · exact absurd (if_neg z) hy)
  refine ks_wpAt_execs_cons (ks_wpAt_Assign_Attr (wpAt_of_wpAny (wpAny_Name (wpAny_loadName_local rfl hindex hns5 rfl (wpAny_Name (wpAny_loadName_local rfl hself hns5 rfl ?_))))))
  refine set_plain X5 (ox := { cls := .ref (He.ga K "Refused"), dict := some dx, data := .fields #[.ref t4, .none, .none, .none, .bool false, .none] }) (od := some oD) ⟨hx5, rfl, rfl, hoD⟩ RK.oex.sa ?_
  refine OEX.osa_old (nl := ["what"]) X5 hx5 hn5 (fun y hy => by
    by_cases z : y = "what"
    · rw [z]; exact List.mem_cons_self ..
    · exact absurd (if_neg z) hy) (by decide) hcl (show HandSPX.refsVE (.ref (He.ga K "Refused") :: bm) = true from hbm) rfl RK.index (fun h6 tk6 k6 hn6 => ?_)
  have nde : dx ≠ e := dne
  have dn' : h4.objs.size ≤ dx := dn
  have hsz : s.heap.objs.size ≤ dx := by
    refine Nat.le_trans ?_ dn'
    obtain ⟨o, es, ep, ho, _⟩ := hns4
    exact Nat.le_of_lt (Heap.lt_size ho)
  refine wpAt_of_wpAny (wpAny_execs_nil (h h6 _ dx t4 _ (fun b o hb z => k6 b o (fun q => ?_) (k5' b o hb (k34 b o hb z))) hsz (k6 e _ (Ne.symm nde) hx5) hn6 fun y => ?_))
  · have h0 := Heap.lt_size (k34 b o hb z)
    rw [q] at h0
    exact absurd (Nat.lt_of_lt_of_le h0 dn') (Nat.lt_irrefl _)
  · rfl
end
end Au
/-! Authsync: Refused('..', -1) as what is raised. -/
namespace Au
open PySem PySem.Spec PyProof.Rows L2
def refFs (what : Str) : List (Str × V) := [("index", .int (-1)), ("what", .str what)]
/-- Refused(e, e'), e a text, e' -1 -/
def tRef (C : Addr) (ta : TA) : L2.St → Hp → XK → Prop := fun σ H Q => ta σ H fun vs H1 => ∃ what, vs = [.str what, .int (-1)] ∧ ∀ d, H1 d = none → Q (.ref C) (some d) (upd H1 d (.xd (refFs what)))
section
variable {X : Cx} {e : Expr} {es : List Expr} {ta : TA} {p pos : Pos}
theorem pmk_ref (RK : RefK X.prog X.K) (hsu : X.mg "super" = none) (hr : Room 1 X.A) (hg : Gl X "Refused") (hm : X.mg "Refused" = some (.ref (He.ga X.K "Refused"))) (ha : PA X (e :: es) ta)
    (he : starEach (e :: es) X.env = (false, eval e X.env) :: starEach es X.env := by rfl) (hpl : (backTo pos (starEach es X.env)).any (·.1) = false := by rfl) :
    PMk X (.Call (.Name "Refused" p) (e :: es) [] pos) (tRef (He.ga X.K "Refused") ta) := by
  intro pins s σ H Q I h
  have TO := RK.oex
  obtain ⟨nm, q, N, bs, bm, sn, sub, ab, col, dd, k0, k1, k2, k3, k5, hC, hbm⟩ := TO.cls
  refine wpAny_Call_Name_kw (ld_glob I hg hm ?_ (by decide))
  refine PySem.W.callWith_K (h₀ := X.base) I.ok.mod.kin TO.kC (thn (ha.run pos pins s σ H _ I h) fun us s1 ⟨vs, H1, I1, r1, what, ev, q1⟩ => ⟨I1.kIn, ?_⟩) he hpl
  subst ev
  show wpAny _ _ (call (.ref (He.ga X.K "Refused")) us) _ _ _
  obtain ⟨u1, u2, rfl, ⟨tk1, rfl⟩, tk2, rfl⟩ : ∃ u1 u2, us = [u1, u2] ∧ RelV (.str what) u1 ∧ RelV (.int (-1)) u2 := by
    cases r1 with
    | cons a b => cases b with
      | cons c d => cases d; exact ⟨_, _, rfl, a, c⟩
  obtain ⟨hp, g, dr, tk, os⟩ := s1
  have hsz : hp.objs.size ≤ hp.objs.size + 1 := Nat.le_succ _
  have hn : H1 (hp.objs.size + 1) = none := I1.hok.fresh hsz
  have hgetn : hp.get? (hp.objs.size + 1) = none := by
    cases z : hp.get? (hp.objs.size + 1) with
    | none => rfl
    | some o => exact absurd (Heap.lt_size z) (Nat.not_lt.mpr (Nat.le_succ _))
  have kk : ∀ b o, hp.get? b = some o → ((hp.push (PySem.W.kdv_tup [.str what tk1, .int (-1) tk2])).push (PySem.HandSPX.excO (He.ga X.K "Refused") hp.objs.size)).get? b = some o := fun b o e => Heap.get?_push_of_some _ (Heap.get?_push_of_some _ e)
  have hget : ((hp.push (PySem.W.kdv_tup [.str what tk1, .int (-1) tk2])).push (PySem.HandSPX.excO (He.ga X.K "Refused") hp.objs.size)).get? (hp.objs.size + 1) = some (PySem.HandSPX.excO (He.ga X.K "Refused") hp.objs.size) := by heap_get
  have I2 : Inv X pins σ (upd H1 (hp.objs.size + 1) (exo (hp.objs.size + 1) (He.ga X.K "Refused") none)) ⟨(hp.push (PySem.W.kdv_tup [.str what tk1, .int (-1) tk2])).push (PySem.HandSPX.excO (He.ga X.K "Refused") hp.objs.size), g, dr, tk, os⟩ :=
    I1.laid (t' := tk) (a := hp.objs.size + 1) (o := exo (hp.objs.size + 1) (He.ga X.K "Refused") none) (h' := (hp.push (PySem.W.kdv_tup [.str what tk1, .int (-1) tk2])).push (PySem.HandSPX.excO (He.ga X.K "Refused") hp.objs.size)) kk hsz (exo_ok hget)
  obtain ⟨mb, hmb, hboot⟩ := I.ok.mod.blt
  have gd : Grd X.K X.mg mb ((hp.push (PySem.W.kdv_tup [.str what tk1, .int (-1) tk2])).push (PySem.HandSPX.excO (He.ga X.K "Refused") hp.objs.size)) :=
    ⟨I2.kIn, I.ok.mod.glob.keeps I2.bk, hmb.keeps I2.bk, I2.nolimit⟩
  have hKe : X.K.lookup (hp.objs.size + 1) = none := by
    cases z : X.K.lookup (hp.objs.size + 1) with
    | none => rfl
    | some o =>
      have := I1.kIn _ _ z
      rw [hgetn] at this
      cases this
  refine wpAny_call (PySem.HandSPX.call_own F.excBase_ValueError (fun Y => PySem.HandSPX.refsVE_contains Y bm hbm) (I1.kIn _ _ hC) (PySem.W.looks_findIn I1.kIn RK.init) (fun self => PySem.W.bind_fn I1.kIn self RK.tyI) (by show 2 ≤ sizeLine; decide)
    (refused_init RK gd hsu ((hboot _ (by decide)).trans (by decide +kernel)) (hr.make (He.ga X.K "Refused") [.str what tk1, .int (-1) tk2] []).depth hKe hget fun h' tk' dx t1 mA k dn hx hns hmA => ?_))
  generalize hC0 : He.ga X.K "Refused" = C at *
  generalize ha0 : hp.objs.size + 1 = a at *
  generalize hh1 : (hp.push (PySem.W.kdv_tup [.str what tk1, .int (-1) tk2])).push (PySem.HandSPX.excO C hp.objs.size) = hp1 at *
  have e : upd H1 a (exo a C none) a = some (exo a C none) := upd_same
  have hnd : upd H1 a (exo a C none) dx = none := I2.hok.fresh dn
  have nd : ∀ {b : Addr} {o : Obj}, hp1.get? b = some o → b ≠ dx := fun {b o} q => Nat.ne_of_lt (Nat.lt_of_lt_of_le (Heap.lt_size q) dn)
  have na : ∀ {b : Addr}, upd H1 a (exo a C none) b = none → b ≠ a := fun {b} n z => by
    rw [z, e] at n
    cases n
  have Un1 : Un (frs X.stack) [] (upd H1 a (exo a C none)) (upd (upd (upd H1 a (exo a C none)) dx (exd dx (refFs what))) a (exo a C (some dx))) hp1 h' := {
    keep := fun b o q n _ _ => k b o (na n) q
    slot := fun b o q n _ _ => ⟨o.slots, k b o (na n) q⟩
    free := fun b o q n _ => by rw [upd_ne (na n), upd_ne (nd q)]; exact n
    there := fun b o q _ => by
      by_cases hb : b = a
      · exact ⟨_, by rw [hb]; exact hx⟩
      · exact ⟨o, k b o hb q⟩
    tups := fun b xs q => by rw [upd_ne (at_ne e q exo_tup), upd_ne (ne_of_none q hnd)]; exact q
    frzs := fun b o v q => by rw [upd_ne (at_ne e q exo_frz), upd_ne (ne_of_none q hnd)]; exact q
    tbls := fun b ps q => ⟨#[], by rw [upd_ne (at_ne e q exo_tbl), upd_ne (ne_of_none q hnd), q]; simp⟩ }
  have rel : ∀ f, RelO ((refFs what).lookup f) (mA f) := fun f => by
    rw [hmA f]
    unfold refFs
    rw [lookup_put]
    by_cases z : f = "index"
    · rw [if_pos z, if_pos z]
      exact ⟨tk2, rfl⟩
    · rw [if_neg z, if_neg z, lookup_put]
      by_cases z2 : f = "what"
      · rw [if_pos z2, if_pos z2]
        exact ⟨tk1, rfl⟩
      · rw [if_neg z2, if_neg z2]
        trivial
  have hok : HOk X.prog X.w (upd (upd (upd H1 a (exo a C none)) dx (exd dx (refFs what))) a (exo a C (some dx))) h' := fun b o q => by
    by_cases hb : b = a
    · subst hb
      rw [upd_same] at q
      cases q
      exact exo_ok hx
    · rw [upd_ne hb] at q
      by_cases hd : b = dx
      · subst hd
        rw [upd_same] at q
        cases q
        exact exd_ok hns rel
      · rw [upd_ne hd] at q
        exact (I2.hok b o q).stay (fun c v hc z => k c v (by
            rcases hc with hc | hc
            · rw [hc]
              exact hb
            · exact at_ne e hc exo_own) z)
          (fun c hc => by rw [upd_ne (at_ne e hc exo_own), upd_ne (ne_of_none hc hnd)]; exact hc) (fun c xs hc => by rw [upd_ne (at_ne e hc exo_tup), upd_ne (ne_of_none hc hnd)]; exact hc)
  have hdx1 : H1 dx = none := by
    have nn := na hnd
    rw [upd_ne nn] at hnd
    exact hnd
  have nda : dx ≠ a := na hnd
  have eq2 : upd (del (upd (upd (upd H1 a (exo a C none)) dx (exd dx (refFs what))) a (exo a C (some dx))) a) dx (.xd (refFs what)) = upd H1 dx (.xd (refFs what)) := by
    funext b
    by_cases hb : b = dx
    · rw [hb, upd_same, upd_same]
    · rw [upd_ne hb, upd_ne hb]
      by_cases hba : b = a
      · rw [hba, del_same, hn]
      · rw [del_ne hba, upd_ne hba, upd_ne hb, upd_ne hba]
  exact ⟨rfl, mk_end (raises_own TO.exC TO.tyC) I1 hsz kk Un1 hok rfl I2.bare upd_same (by rw [upd_ne nda, upd_same]) hdx1 (by rw [eq2]; exact q1 dx hdx1)⟩
end
end Au
/-! Authsync: Replica.check. -/
namespace Au
open PySem PySem.Spec PyProof.Rows L2
/-- Refused(what, -1) in flight: its dict is d -/
def RefE (K : PySem.W.Frag) (what : Str) (E : XK) (H : Hp) : Prop := ∀ H' d, Kp Nil H H' → H' d = some (.xd (refFs what)) → E (.ref (He.ga K "Refused")) (some d) H'
def spRChk (K : PySem.W.Frag) : Sp := fun vs H Q E => ∃ p D c n ts B rs, ∃ j : Nat, ∃ d m u, vs = [.ref p, .str d, .str m, .str u, .str (tok j)] ∧ RepAt K D H p c n ts B rs ∧ j ≤ 40 ∧ n ≤ 40 ∧ Tabs K H ∧
  (n < j → RefE K "replica is behind" E H) ∧
  (j ≤ n → ∀ H' t, Kp Nil H H' → H' t = some (.tup [.bl (decide ((d, m, u) ∈ ts)), .str (tok n)]) → Q (.ref t) H')
section
variable {P : Program} {w : World} {K : PySem.W.Frag} {mg : Str → Option Value} {base : Heap}
theorem sc_Replica_check : FnScope ["self", "target", "name", "subject", "at_least", "store", "number"] ["self", "target", "name", "subject", "at_least"] (defScope s_Replica_check) := ⟨rfl, rfl, rfl, by decide +kernel, rfl, by decide +kernel, by decide +kernel⟩
theorem ok_Replica_check (T : Top K mg base) (RK : RefK P K) : Cal P w K mg base (L2.CX P w) 7 ("Replica", some "check") ["self", "target", "name", "subject", "at_least"] (spRChk K) := by
  obtain ⟨fd, F⟩ := T.d_Replica_check
  have cs := ok_split_token (P := P) (w := w) T
  obtain ⟨fd1, F1, b1⟩ := cs.ex
  have cs4 := ok_token_of (P := P) (w := w) T
  obtain ⟨fd4, F4, b4⟩ := cs4.ex
  refine ⟨⟨fd, FunD.ok (CX := L2.CX P w) F sc_Replica_check (fun vs H Q E h => ?_) (fun cdv A outer s H vs Q E hr h => ?_), FunD.bindsN F fun _ _ _ _ _ _ us hl => match us, hl with | [_, _, _, _, _], _ => rfl⟩, F.kp⟩
  · obtain ⟨p, D, c, n, ts, B, rs, j, d, m, u, rfl, _⟩ := h
    rfl
  · obtain ⟨p, D, c, n, ts, B, rs, j, d, m, u, rfl, hR, hj, hn, ht, q1, q2⟩ := h
    have nd := sc_Replica_check.nd
    refine ⟨_, pss_cons (ps_if (pt_cmpR op_ne (pv 4) pe_str (nomark _))
        (pss_cons (ps_asg (pe_call F1 hr rfl T.g_split_token cs.kp b1 .nil pass0 (pa_cons (pv 4) pa_nil)) (pg_tup rfl (pgs_cons (pg_name (i := 5) nd rfl (.inl rfl)) (pgs_cons (pg_name (i := 6) nd rfl (.inl rfl)) pgs_nil))))
        (pss_cons (ps_if (pt_cmpR op_ne (pv 5) (pe_fld (pv 0) rfl) (nomark _)) (pss_one ps_never) pss_nil)
        (pss_one (ps_if (pt_cmpR op_gt (pv 6) (pe_fld (pv 0) rfl) (nomark _)) (pss_one (ps_raise rfl (takes_of rfl rfl rfl rfl) (pmk_ref RK T.f_super (hr.mono (by decide)) rfl T.g_Refused (pa_cons pe_str (pa_cons (pe_un un_neg pe_int) pa_nil))))) pss_nil)))) pss_nil)
      (pss_one (ps_ret (pe_tup (pa_cons (pe_cmpR (op_inP hr.units) (pe_tup (pa_cons (pv 1) (pa_cons (pv 2) (pa_cons (pv 3) pa_nil)))) (pe_fld (pv 0) rfl) rfl)
        (pa_cons (pe_call F4 (hr.mono (by decide)) rfl T.g_token_of cs4.kp b4 .nil pass0 (pa_cons (pe_fld (pv 0) rfl) (pa_cons (pe_fld (pv 0) rfl) pa_nil))) pa_nil))))), ?_⟩
    obtain ⟨tb, e, dtb, hT⟩ := hR.ob
    refine ⟨_, rfl, rfl, _, rfl, iteY (by show (!decide (V.str (tok j) = V.str "")) = true; rw [decide_eq_false fun z => tok_ne j (by omega) (V.str.inj z)]; rfl) ?_⟩
    refine ⟨_, rfl, j, rfl, hj, ht, fun H1 t k1 et => ?_⟩
    refine ⟨t, _, rfl, SqT.of et, rfl, _, _, rfl, _, _, rfl, rfl, ?_⟩
    have e1 := k1.ins0 e
    refine ⟨_, rfl, _, rfl, p, _, c.1, _, _, rfl, e1, T.c_Replica, T.n_Replica_name, rfl, rfl, _, rfl, iteN (by simp) ?_⟩
    refine ⟨_, rfl, _, rfl, p, _, c.1, _, _, rfl, e1, T.c_Replica, T.n_Replica_number, rfl, _, _, rfl, rfl, _, rfl, itb (fun c1 => ?_) fun c1 => ?_⟩
    · have hlt : n < j := by
        have := of_decide_eq_true c1
        omega
      refine ⟨_, rfl, _, rfl, fun dd hd => ?_⟩
      exact q1 hlt _ dd (k1.trans (Kp.new hd)) upd_same
    · have hle : j ≤ n := by
        have := of_decide_eq_false c1
        omega
      refine ⟨_, rfl, _, rfl, _, rfl, by show 3 ≤ sizeLine; decide, fun t3 ht3 => ?_⟩
      have k2 : Kp Nil H1 (upd H1 t3 (.tup [.str d, .str m, .str u])) := Kp.new ht3
      have k12 := k1.trans k2
      obtain ⟨vs, ev, pr⟩ := hT.kp0 k12
      refine ⟨_, rfl, p, _, c.1, _, _, rfl, k12.ins0 e, T.c_Replica, T.n_Replica_table, rfl, tb, vs, ts.map l3, l3 (d, m, u), ⟨t3, rfl, upd_same⟩, rfl, .inl (SqL.of ev), tris_part pr, ?_⟩
      refine ⟨_, rfl, p, _, c.1, _, _, rfl, k12.ins0 e, T.c_Replica, T.n_Replica_name, rfl, _, rfl, p, _, c.1, _, _, rfl, k12.ins0 e, T.c_Replica, T.n_Replica_number, rfl, "main", _, rfl, by decide +kernel, by omega, by omega, by show 2 ≤ sizeLine; decide, fun t2 ht2 => ?_⟩
      have k5 := Kp.new (S := Nil) (o := .tup [.bl (if false = true then !decide (l3 (d, m, u) ∈ ts.map l3) else decide (l3 (d, m, u) ∈ ts.map l3)), .str (tokS "main" (n : Int))]) ht2
      refine q2 hle _ t2 (k12.trans k5) ?_
      rw [upd_same, if_neg (by decide), mem_l3]
      rfl
end
end Au
/-! Authsync: the store of contents: shapes, ContentStore(..), put, version, token. -/
namespace Au
open PySem PySem.Spec PyProof.Rows L2
/-- a version: its text, the revision of its token -/
abbrev VT := Str × Nat
abbrev Vers := Str → List VT
def addV (Vs : Vers) (t : Str) (x : VT) : Vers := fun u => if u = t then Vs u ++ [x] else Vs u
theorem addV_same {Vs : Vers} {t : Str} {x : VT} : addV Vs t x t = Vs t ++ [x] := if_pos rfl
theorem addV_ne {Vs : Vers} {t u : Str} {x : VT} (h : u ≠ t) : addV Vs t x u = Vs u := if_neg h
def setL (ls : Str → Addr) (t : Str) (l : Addr) : Str → Addr := fun u => if u = t then l else ls u
theorem setL_same {ls : Str → Addr} {t : Str} {l : Addr} : setL ls t l t = l := if_pos rfl
theorem setL_ne {ls : Str → Addr} {t u : Str} {l : Addr} (h : u ≠ t) : setL ls t l u = ls u := if_neg h
/-- f tells how the second part is written -/
def VerF (f : Nat → V) (H : Hp) (v : V) (x : VT) : Prop := ∃ a, v = .ref a ∧ H a = some (.tup [.str x.1, f x.2])
theorem VerF.kp {f : Nat → V} {S : Addr → Prop} {H H' : Hp} (k : Kp S H H') (t : TupFree S H) {v : V} {x : VT} (h : VerF f H v x) : VerF f H' v x := by
  obtain ⟨a, e, h⟩ := h
  exact ⟨a, e, k.tup h (t _ _ h)⟩
def tokV (n : Nat) : V := .str (tok n)
/-- the lists of the versions by the texts that name them -/
def Lists (f : Nat → V) (H : Hp) (kvs : List (Key × V)) (ls : Str → Addr) (Vs : Vers) (t : Str) : Prop :=
  valV kvs (.inr t) = some (.ref (ls t)) ∧ ∃ xs, H (ls t) = some (.lst xs) ∧ Paired (VerF f H) xs (Vs t)
theorem Lists.kp {f : Nat → V} {S : Addr → Prop} {H H' : Hp} (k : Kp S H H') (t : TupFree S H) {kvs : List (Key × V)} {ls : Str → Addr} {Vs : Vers} {u : Str} (n : ¬ S (ls u)) (h : Lists f H kvs ls Vs u) : Lists f H' kvs ls Vs u := by
  obtain ⟨e, xs, ex, pr⟩ := h
  exact ⟨e, xs, k.old _ _ ex n nt_lst, Paired.mapP pr fun _ _ z => z.kp k t⟩
structure ContAt (K : PySem.W.Frag) (H : Hp) (q p : Addr) (c : Addr × Addr) (ls : Str → Addr) (Vs : Vers) (n : Nat) : Prop where
  ob : H q = some (.ins (He.ga K "ContentStore") c.1 [("primary", .ref p), ("versions", .ref c.2), ("count", .int (n : Int))])
  dt : ∃ kvs, H c.2 = some (.dK kvs) ∧ kvs.length ≤ n ∧ ∀ t, (Vs t = [] ∧ valV kvs (.inr t) = none) ∨ (Vs t ≠ [] ∧ Lists tokV H kvs ls Vs t)
  inj : ∀ t u, Vs t ≠ [] → Vs u ≠ [] → ls t = ls u → t = u
  len : ∀ t, (Vs t).length ≤ n
theorem ContAt.kp {K : PySem.W.Frag} {S : Addr → Prop} {H H' : Hp} (k : Kp S H H') (tf : TupFree S H) {q p : Addr} {c : Addr × Addr} {ls : Str → Addr} {Vs : Vers} {n : Nat} (hq : ¬ S q) (hc : ¬ S c.2) (hl : ∀ t, Vs t ≠ [] → ¬ S (ls t)) (h : ContAt K H q p c ls Vs n) : ContAt K H' q p c ls Vs n := by
  obtain ⟨kvs, e, l, f⟩ := h.dt
  refine ⟨k.old _ _ h.ob hq nt_ins, ⟨kvs, k.old _ _ e hc nt_dK, l, fun t => ?_⟩, h.inj, h.len⟩
  rcases f t with z | ⟨z, y⟩
  · exact .inl z
  · exact .inr ⟨z, y.kp k tf (hl t z)⟩
theorem ContAt.kp0 {K : PySem.W.Frag} {H H' : Hp} (k : Kp Nil H H') {q p : Addr} {c : Addr × Addr} {ls : Str → Addr} {Vs : Vers} {n : Nat} (h : ContAt K H q p c ls Vs n) : ContAt K H' q p c ls Vs n := h.kp k tupFree_nil id id fun _ _ => id
def spCInit (K : PySem.W.Frag) : Sp := fun vs H Q _ => ∃ q p dx, vs = [.ref q, .ref p] ∧ H q = some (.ins (He.ga K "ContentStore") dx []) ∧
  ∀ H' d ls, Kp (Only q) H H' → H d = none → ContAt K H' q p (dx, d) ls (fun _ => []) 0 → Q .non H'
/-- what a stored version changes -/
def PutS (q : Addr) (c : Addr × Addr) (ls : Str → Addr) (Vs : Vers) (t : Str) : Addr → Prop := fun b => b = q ∨ b = c.2 ∨ (Vs t ≠ [] ∧ b = ls t)
def spPut (K : PySem.W.Frag) : Sp := fun vs H Q E => ∃ q p cq ls Vs n D c f rs t x, vs = [.ref q, .str t, .str x] ∧ ContAt K H q p cq ls Vs n ∧ PrimAt K D H p c f rs ∧ PrimOk f rs ∧ n ≤ 30 ∧
  (n = 30 → RefE K "too many versions" E H) ∧
  (n < 30 → ∀ H' ls' r, Kp (PutS q cq ls Vs t) H H' → (Vs t = [] → H (ls' t) = none) → (Vs t ≠ [] → ls' t = ls t) → (∀ u, u ≠ t → ls' u = ls u) → ContAt K H' q p cq ls' (addV Vs t (x, rv f rs)) (n + 1) →
    H' r = some (.tup [.int ((Vs t).length + 1 : Nat), .str (tok (rv f rs))]) → Q (.ref r) H')
def spVer (K : PySem.W.Frag) : Sp := fun vs H Q _ => ∃ q p cq ls Vs n t, vs = [.ref q, .str t] ∧ ContAt K H q p cq ls Vs n ∧ ∀ H', Kp Nil H H' → Q (.int ((Vs t).length : Nat)) H'
def lastTok (xs : List VT) : Str := match xs.getLast? with
  | some x => tok x.2
  | none => ""
def spCTok (K : PySem.W.Frag) : Sp := fun vs H Q _ => ∃ q p cq ls Vs n t, vs = [.ref q, .str t] ∧ ContAt K H q p cq ls Vs n ∧ ∀ H', Kp Nil H H' → Q (.str (lastTok (Vs t))) H'
/-- d.setdefault(y, z), what is there behind it told once -/
def tDSetdP (td ty tx : TE) : TE := fun σ H Q => td σ H fun x H1 => ∃ a, x = .ref a ∧ IsD H1 a ∧ ty σ H1 fun y H2 => tx σ H2 fun z H3 => ∃ (kvs : List (Key × V)) (k : Key), H3 a = some (.dK kvs) ∧ y = kV k ∧ kvs.length < sizeLine ∧
  ∃ PRE : V → Hp → Prop, (∀ v, valV kvs k = some v → PRE v H3) ∧ (valV kvs k = none → PRE z (upd H3 a (.dK (putK kvs k z)))) ∧ ∀ v H5, PRE v H5 → Q v H5
theorem pe_dsetdP {X : Cx} {o e f : Expr} {td ty tx : TE} {apos cpos : Pos} (ho : PE X o td) (he : PE X e ty) (hf : PE X f tx) (m : M2 X o "setdefault" apos e f cpos) : PE X (.Call (.Attribute o "setdefault" apos) [e, f] [] cpos) (tDSetdP td ty tx) := by
  refine ⟨fun pins s σ H Q I h => ?_⟩
  refine wpAny_Call_method m.base m.few m.line PySem.F.plainAttrs_dict PySem.F.slot_dict_setdefault PySem.F.type_dict_setdefault (thn (ho.run pins s σ H _ I h) fun u s1 hh => ?_)
  obtain ⟨x, H1, I1, rx, a, ex, d, q1⟩ := hh
  subst ex
  obtain rfl : u = Value.ref a := rx
  obtain ⟨t1, t2, _⟩ := isD_at I1 d
  refine ⟨t1, t2, ?_⟩
  rw [m.trees]
  refine Calls.callWith_builtin rfl (Calls.evalArgs_plain (Calls.spliced_cons (thn (he.run pins s1 σ H1 _ I1 q1) fun iv s2 hh => ?_)))
  obtain ⟨y, H2, I2, ry, q2⟩ := hh
  refine Calls.spliced_cons (thn (hf.run pins s2 σ H2 _ I2 q2) fun fv s3 hh => Calls.spliced_nil ?_)
  obtain ⟨z, H3, I3, rz, kvs, k, ea, ey, hl, PRE, q3, q4, pq⟩ := hh
  subst ey
  exact d_setd I3 ea ry rz hl (fun v hv w' s4 I4 rw' => ⟨v, _, I4, rw', pq _ _ (q3 v hv)⟩) fun hn w' s4 I4 rw' => ⟨z, _, I4, rw', pq _ _ (q4 hn)⟩
section
variable {P : Program} {w : World} {K : PySem.W.Frag} {mg : Str → Option Value} {base : Heap}
theorem sc_Cont_init : FnScope ["self", "primary"] ["self", "primary"] (defScope s_ContentStore_init) := ⟨rfl, rfl, rfl, by decide +kernel, rfl, by decide +kernel, by decide +kernel⟩
theorem ok_Cont_init (T : Top K mg base) : Cal P w K mg base CX0 1 ("ContentStore", some "__init__") ["self", "primary"] (spCInit K) := by
  obtain ⟨fd, F⟩ := T.d_ContentStore_init
  refine ⟨⟨fd, FunD.ok F sc_Cont_init (fun vs H Q E h => ?_) (fun cdv A outer s H vs Q E hr h => ?_), FunD.bindsN F fun _ _ _ _ _ _ us hl => match us, hl with | [_, _], _ => rfl⟩, F.kp⟩
  · obtain ⟨q, p, dx, rfl, _⟩ := h
    rfl
  · obtain ⟨q, p, dx, rfl, e, k⟩ := h
    refine ⟨_, pss_cons (ps_fld (pv 0) (pv 1) rfl) (pss_cons (ps_fld (pv 0) pe_dnewK rfl) (pss_one (ps_fld (pv 0) pe_int rfl))), ?_⟩
    refine ⟨_, rfl, _, rfl, q, _, dx, _, rfl, e, T.c_ContentStore, T.n_ContentStore_primary, by decide, ?_⟩
    have k1 : Kp (Only q) H (upd H q (.ins (He.ga K "ContentStore") dx (putF "primary" (.ref p) []))) := Kp.put e nt_ins rfl
    have e1 : (upd H q (.ins (He.ga K "ContentStore") dx (putF "primary" (.ref p) []))) q = some (.ins (He.ga K "ContentStore") dx [("primary", .ref p)]) := upd_same
    generalize hH1 : upd H q (.ins (He.ga K "ContentStore") dx (putF "primary" (.ref p) [])) = H1 at k1 e1
    refine fun d hd => ?_
    have k2 : Kp Nil H1 (upd H1 d (.dK [])) := Kp.new hd
    have e2 := k2.ins0 e1
    have ed : (upd H1 d (.dK [])) d = some (.dK []) := upd_same
    have nqd : q ≠ d := ne_of_none e1 hd
    generalize hH2 : upd H1 d (.dK []) = H2 at k2 e2 ed
    refine ⟨_, rfl, q, _, dx, _, rfl, e2, T.c_ContentStore, T.n_ContentStore_versions, by show 1 < 1000; decide, ?_⟩
    refine ⟨_, rfl, q, _, dx, _, rfl, upd_same, T.c_ContentStore, T.n_ContentStore_count, by show 2 < 1000; decide, ?_⟩
    rw [upd_upd]
    have k3 := Kp.put (S := Only q) (o := .ins (He.ga K "ContentStore") dx (putF "count" (.int 0) (putF "versions" (.ref d) [("primary", .ref p)]))) e2 nt_ins rfl
    exact k _ d (fun _ => 0) (k1.trans (k2.any.trans k3)) (k1.fr _ hd) ⟨upd_same, ⟨[], o2 ed (Ne.symm nqd), Nat.zero_le _, fun t => .inl ⟨rfl, rfl⟩⟩, fun t u h => absurd rfl h, fun _ => Nat.zero_le _⟩
/-! ### version, token -/
theorem sc_Cont_version : FnScope ["self", "target"] ["self", "target"] (defScope s_ContentStore_version) := ⟨rfl, rfl, rfl, by decide +kernel, rfl, by decide +kernel, by decide +kernel⟩
theorem ok_Cont_version (T : Top K mg base) : Cal P w K mg base CX0 1 ("ContentStore", some "version") ["self", "target"] (spVer K) := by
  obtain ⟨fd, F⟩ := T.d_ContentStore_version
  refine ⟨⟨fd, FunD.ok F sc_Cont_version (fun vs H Q E h => ?_) (fun cdv A outer s H vs Q E hr h => ?_), FunD.bindsN F fun _ _ _ _ _ _ us hl => match us, hl with | [_, _], _ => rfl⟩, F.kp⟩
  · obtain ⟨q, p, cq, ls, Vs, n, t, rfl, _⟩ := h
    rfl
  · obtain ⟨q, p, cq, ls, Vs, n, t, rfl, hC, k⟩ := h
    refine ⟨_, pss_one (ps_ret (pe_callB call_len_seq (by rfl) T.f_len PySem.boot_len (pa_cons (pe_dget2 hr.u1 (pe_fld (pv 0) rfl) (pv 1) (pe_lst pa_nil) ⟨rfl, rfl, rfl, rfl⟩) pa_nil))), ?_⟩
    obtain ⟨kvs, ek, hkl, hkf⟩ := hC.dt
    refine ⟨_, rfl, q, _, cq.1, _, _, rfl, hC.ob, T.c_ContentStore, T.n_ContentStore_versions, rfl, cq.2, rfl, .inl ⟨kvs, .inl ek⟩, _, rfl, by show 0 ≤ sizeLine; decide, fun ln hln => ?_⟩
    have k1 : Kp Nil H (upd H ln (.lst [])) := Kp.new hln
    refine ⟨valV kvs (.inr t), DGet.k (k := .inr t) (k1.dK0 ek), ?_⟩
    rcases hkf t with ⟨z, y⟩ | ⟨z, y, xs, ex, pr⟩
    · rw [y]
      refine ⟨ln, [], rfl, .inl (SqL.of upd_same), ?_⟩
      have h := k _ k1
      rw [z] at h
      exact h
    · rw [y]
      refine ⟨ls t, xs, rfl, .inl (SqL.of (k1.lst0 ex)), ?_⟩
      have h := k _ k1
      rw [← pr.length] at h
      exact h
theorem last_pair {F : V → VT → Prop} {xs : List V} {ys : List VT} (h : Paired F xs ys) (ne : ys ≠ []) : ∃ v y, atI xs (-1) = some v ∧ F v y ∧ ys.getLast? = some y := by
  have hp := List.length_pos_iff.mpr ne
  have hl : xs.length = ys.length := h.length
  obtain ⟨v, hv, hr⟩ := pair_getR h (i := ys.length - 1) (List.getElem?_eq_getElem (by omega))
  have nx : xs ≠ [] := fun z => by rw [z] at hl; rw [← hl] at hp; exact absurd hp (Nat.lt_irrefl _)
  refine ⟨v, _, ?_, hr, ?_⟩
  · unfold atI
    rw [ixN_last nx, hl]
    exact hv
  · rw [List.getLast?_eq_getElem?, List.getElem?_eq_getElem]
theorem sc_Cont_token : FnScope ["self", "target"] ["self", "target"] (defScope s_ContentStore_token) := ⟨rfl, rfl, rfl, by decide +kernel, rfl, by decide +kernel, by decide +kernel⟩
theorem ok_Cont_token (T : Top K mg base) : Cal P w K mg base CX0 1 ("ContentStore", some "token") ["self", "target"] (spCTok K) := by
  obtain ⟨fd, F⟩ := T.d_ContentStore_token
  refine ⟨⟨fd, FunD.ok F sc_Cont_token (fun vs H Q E h => ?_) (fun cdv A outer s H vs Q E hr h => ?_), FunD.bindsN F fun _ _ _ _ _ _ us hl => match us, hl with | [_, _], _ => rfl⟩, F.kp⟩
  · obtain ⟨q, p, cq, ls, Vs, n, t, rfl, _⟩ := h
    rfl
  · obtain ⟨q, p, cq, ls, Vs, n, t, rfl, hC, k⟩ := h
    refine ⟨_, pss_one (ps_ret (pe_ifExp (pt_cmp (pc_din hr.u1 (pv 1) (pe_fld (pv 0) rfl))) (pe_ix ix_tup (pe_ix ix_list (pe_dget hr.u1 (pe_fld (pv 0) rfl) (pv 1) (fun _ _ => rfl)) (pe_un un_neg pe_int) (fun _ _ => rfl)) pe_int (fun _ _ => rfl)) pe_str)), ?_⟩
    obtain ⟨kvs, ek, hkl, hkf⟩ := hC.dt
    have k0 := k H Kp.refl
    refine ⟨_, rfl, _, rfl, q, _, cq.1, _, _, rfl, hC.ob, T.c_ContentStore, T.n_ContentStore_versions, rfl, cq.2, valV kvs (.inr t), rfl, DGet.k (k := .inr t) ek, _, rfl, ?_⟩
    rcases hkf t with ⟨z, y⟩ | ⟨z, y, xs, ex, pr⟩
    · rw [y]
      rw [z] at k0
      exact iteF k0
    · rw [y]
      obtain ⟨v, x, hv, ⟨a, rfl, ea⟩, hlast⟩ := last_pair pr z
      unfold lastTok at k0
      rw [hlast] at k0
      refine iteT ⟨_, rfl, q, _, cq.1, _, _, rfl, hC.ob, T.c_ContentStore, T.n_ContentStore_versions, rfl, _, rfl, cq.2, .ref (ls t), rfl, ?_, _, rfl, ls t, xs, -1, .ref a, rfl, rfl, SqL.of ex, hv, a, _, 1, _, rfl, rfl, SqT.of ea, rfl, k0⟩
      rw [← y]
      exact DGet.k (k := .inr t) ek
/-! ### put -/
theorem sc_Cont_put : FnScope ["self", "target", "text", "token"] ["self", "target", "text"] (defScope s_ContentStore_put) := ⟨rfl, rfl, rfl, by decide +kernel, rfl, by decide +kernel, by decide +kernel⟩
theorem ok_Cont_put (T : Top K mg base) (RK : RefK P K) : Cal P w K mg base (L2.CX P w) 3 ("ContentStore", some "put") ["self", "target", "text"] (spPut K) := by
  obtain ⟨fd, F⟩ := T.d_ContentStore_put
  have cs := ok_Primary_token (P := P) (w := w) T
  obtain ⟨fd1, F1, b1⟩ := cs.ex
  obtain ⟨tm, em⟩ := T.i_VERSIONS_MOST
  refine ⟨⟨fd, FunD.ok (CX := L2.CX P w) F sc_Cont_put (fun vs H Q E h => ?_) (fun cdv A outer s H vs Q E hr h => ?_), FunD.bindsN F fun _ _ _ _ _ _ us hl => match us, hl with | [_, _, _], _ => rfl⟩, F.kp⟩
  · obtain ⟨q, p, cq, ls, Vs, n, D, c, f, rs, t, x, rfl, _⟩ := h
    rfl
  · obtain ⟨q, p, cq, ls, Vs, n, D, c, f, rs, t, x, rfl, hC, hP, hO, hn, q1, q2⟩ := h
    have nd := sc_Cont_put.nd
    refine ⟨_, pss_cons (ps_if (pt_cmpR op_ge (pe_fld (pv 0) rfl) (pe_glob (v := .int 30) rfl em ⟨_, rfl⟩) (nomark _)) (pss_one (ps_raise rfl (takes_of rfl rfl rfl rfl) (pmk_ref RK T.f_super (hr.mono (by decide)) rfl T.g_Refused (pa_cons pe_str (pa_cons (pe_un un_neg pe_int) pa_nil))))) pss_nil)
      (pss_cons (ps_set (i := 3) nd rfl (.inl rfl) (pe_meth0 (pe_fld (pv 0) rfl) T.c_Primary T.m_Primary_token F1 hr b1 .nil pass0))
      (pss_cons (ps_expr (pe_bm PySem.F.plainAttrs_list PySem.F.slot_list_append PySem.F.type_list_append mt_append
        (pe_dsetdP (pe_fld (pv 0) rfl) (pv 1) (pe_lst pa_nil) ⟨rfl, rfl, rfl, rfl⟩) (pa_cons (pe_tup (pa_cons (pv 2) (pa_cons (pv 3) pa_nil))) pa_nil)))
      (pss_cons (ps_fldaug (pv 0) pe_int in_add)
      (pss_one (ps_ret (pe_tup (pa_cons (pe_callB call_len_seq (by rfl) T.f_len PySem.boot_len (pa_cons (pe_dget hr.u1 (pe_fld (pv 0) rfl) (pv 1) (fun _ _ => rfl)) pa_nil)) (pa_cons (pv 3) pa_nil)))))))), ?_⟩
    obtain ⟨kvs, ek, hkl, hkf⟩ := hC.dt
    refine ⟨_, rfl, q, _, cq.1, _, _, rfl, hC.ob, T.c_ContentStore, T.n_ContentStore_count, rfl, _, _, rfl, rfl, _, rfl, itb (fun c1 => ?_) fun c1 => ?_⟩
    · have h30 : n = 30 := by
        have := of_decide_eq_true c1
        omega
      exact ⟨_, rfl, _, rfl, fun dd hd => q1 h30 _ dd (Kp.new hd) upd_same⟩
    · have h30 : n < 30 := by
        have := of_decide_eq_false c1
        omega
      refine ⟨_, rfl, q, _, cq.1, _, _, rfl, hC.ob, T.c_ContentStore, T.n_ContentStore_primary, rfl, p, c.1, _, rfl, hP.ob, rfl, p, D, c, f, rs, rfl, hP, hO, fun H1 k1 => ?_⟩
      have C1 := hC.kp0 k1
      refine ⟨_, rfl, q, _, cq.1, _, _, rfl, C1.ob, T.c_ContentStore, T.n_ContentStore_versions, rfl, cq.2, rfl, .inl ⟨kvs, .inl (k1.dK0 ek)⟩, _, rfl, by show 0 ≤ sizeLine; decide, fun ln hln => ?_⟩
      have k2 : Kp Nil H1 (upd H1 ln (.lst [])) := Kp.new hln
      have eln : (upd H1 ln (.lst [])) ln = some (.lst []) := upd_same
      have hln0 : H ln = none := k1.fr _ hln
      generalize hH2 : upd H1 ln (.lst []) = H2 at k2 eln
      have k02 := k1.trans k2
      have C2 := C1.kp0 k2
      have ek2 := k02.dK0 ek
      have hkf2 : ∀ t, (Vs t = [] ∧ valV kvs (.inr t) = none) ∨ (Vs t ≠ [] ∧ Lists tokV H2 kvs ls Vs t) := fun t => by
        rcases hkf t with z | ⟨z, y⟩
        · exact .inl z
        · exact .inr ⟨z, y.kp k02 tupFree_nil id⟩
      refine ⟨kvs, .inr t, ek2, rfl, by rw [sizeLine_eq]; omega, fun v H3 => ∃ l kvs' xs, v = .ref l ∧ Kp (PutS q cq ls Vs t) H H3 ∧ H3 q = some (.ins (He.ga K "ContentStore") cq.1 [("primary", .ref p), ("versions", .ref cq.2), ("count", .int (n : Int))]) ∧
        H3 cq.2 = some (.dK kvs') ∧ kvs'.length ≤ n + 1 ∧ valV kvs' (.inr t) = some (.ref l) ∧ (∀ u, u ≠ t → valV kvs' (.inr u) = valV kvs (.inr u)) ∧ H3 l = some (.lst xs) ∧ Paired (VerF tokV H3) xs (Vs t) ∧ (Vs t = [] → H l = none) ∧ (Vs t ≠ [] → l = ls t) ∧
        (∀ u, u ≠ t → Vs u ≠ [] → l ≠ ls u ∧ ∃ ys, H3 (ls u) = some (.lst ys) ∧ Paired (VerF tokV H3) ys (Vs u)), fun v hv => ?_, fun hv => ?_, fun v H3 hh => ?_⟩
      · rcases hkf2 t with ⟨z, y⟩ | ⟨z, y, xs, ex, pr⟩
        · rw [y] at hv
          cases hv
        · rw [y] at hv
          obtain rfl := Option.some.inj hv
          refine ⟨ls t, kvs, xs, rfl, k02.any, C2.ob, ek2, by omega, y, fun _ _ => rfl, ex, pr, fun e => absurd e z, fun _ => rfl, fun u hu hne => ⟨fun e => hu (hC.inj t u z hne e).symm, ?_⟩⟩
          rcases hkf2 u with ⟨z', _⟩ | ⟨_, _, ys, ey, pry⟩
          · exact absurd z' hne
          · exact ⟨ys, ey, pry⟩
      · have ht : Vs t = [] := by
          rcases hkf2 t with ⟨z, y⟩ | ⟨z, y, _⟩
          · exact z
          · rw [y] at hv
            cases hv
        have k3 := Kp.put (S := PutS q cq ls Vs t) (o := .dK (putK kvs (.inr t) (.ref ln))) ek2 nt_dK (.inr (.inl rfl))
        have t3 : TupFree (Only cq.2) H2 := fun b xs z (hb : b = cq.2) => by rw [hb, ek2] at z; cases z
        have k3' := Kp.put (S := Only cq.2) (o := .dK (putK kvs (.inr t) (.ref ln))) ek2 nt_dK rfl
        have nqd : q ≠ cq.2 := ne_of C2.ob ek2 fun z => by cases z
        have nld : ln ≠ cq.2 := ne_of eln ek2 fun z => by cases z
        refine ⟨ln, _, [], rfl, k02.any.trans k3, o2 C2.ob nqd, upd_same, Nat.le_trans (length_putK _ _ _) (by omega), by rw [valV_put, if_pos rfl], fun u hu => by rw [valV_put, if_neg fun z => hu (Sum.inr.inj z)], o2 eln nld, by rw [ht]; exact .nil, fun _ => hln0, fun z => absurd ht z, fun u hu hne => ?_⟩
        rcases hkf2 u with ⟨z', _⟩ | ⟨_, _, ys, ey, pry⟩
        · exact absurd z' hne
        · rcases hkf u with ⟨z', _⟩ | ⟨_, _, ys', ey', _⟩
          · exact absurd z' hne
          · exact ⟨fun z => (by rw [← z, hln0] at ey'; cases ey'), ys, o2 ey (ne_of ey ek2 fun z => by cases z), Paired.mapP pry fun _ _ z => z.kp k3' t3⟩
      · obtain ⟨l, kvs', xs, ev, k3, eq3, ed3, hl3, hv3, ho3, el3, pr3, hn3, hy3, hu3⟩ := hh
        subst ev
        have hxl : xs.length = (Vs t).length := pr3.length
        have hvl := hC.len t
        refine ⟨.inl ⟨rfl, xs, .inl (.inl el3)⟩, _, rfl, _, rfl, by show 2 ≤ sizeLine; decide, fun a ha => ?_⟩
        have k4 : Kp Nil H3 (upd H3 a (.tup [.str x, .str (tok (rv f rs))])) := Kp.new ha
        have ea : (upd H3 a (.tup [.str x, .str (tok (rv f rs))])) a = some (.tup [.str x, .str (tok (rv f rs))]) := upd_same
        have eq4 := k4.ins0 eq3
        have ed4 := k4.dK0 ed3
        have el4 := k4.lst0 el3
        have k04 := k3.trans k4.any
        have pr4 : Paired (VerF tokV (upd H3 a (.tup [.str x, .str (tok (rv f rs))]))) xs (Vs t) := Paired.mapP pr3 fun _ _ z => z.kp k4 tupFree_nil
        have hu4 : ∀ u, u ≠ t → Vs u ≠ [] → l ≠ ls u ∧ ∃ ys, (upd H3 a (.tup [.str x, .str (tok (rv f rs))])) (ls u) = some (.lst ys) ∧ Paired (VerF tokV (upd H3 a (.tup [.str x, .str (tok (rv f rs))]))) ys (Vs u) := fun u hu hne => by
          obtain ⟨h1, ys, ey, pry⟩ := hu3 u hu hne
          exact ⟨h1, ys, k4.lst0 ey, Paired.mapP pry fun _ _ z => z.kp k4 tupFree_nil⟩
        generalize hH4 : upd H3 a (.tup [.str x, .str (tok (rv f rs))]) = H4 at k04 ea eq4 ed4 el4 pr4 hu4
        refine ⟨l, xs, .ref a, rfl, rfl, el4, by rw [sizeLine_eq]; omega, ?_⟩
        have k5 : Kp (Only l) H4 (upd H4 l (.lst (xs ++ [.ref a]))) := Kp.put el4 nt_lst rfl
        have t5 : TupFree (Only l) H4 := lst_free el4
        have nql : q ≠ l := ne_of eq4 el4 fun z => by cases z
        have ndl : cq.2 ≠ l := ne_of ed4 el4 fun z => by cases z
        have nqd : q ≠ cq.2 := ne_of eq4 ed4 fun z => by cases z
        have eq5 := (o2 eq4 nql : (upd H4 l (.lst (xs ++ [.ref a]))) q = _)
        have ed5 := (o2 ed4 ndl : (upd H4 l (.lst (xs ++ [.ref a]))) cq.2 = _)
        have el5 : (upd H4 l (.lst (xs ++ [.ref a]))) l = some (.lst (xs ++ [.ref a])) := upd_same
        have pr5 : Paired (VerF tokV (upd H4 l (.lst (xs ++ [.ref a])))) (xs ++ [.ref a]) (Vs t ++ [(x, rv f rs)]) :=
          pair_append (Paired.mapP pr4 fun _ _ z => z.kp k5 t5) (.cons (VerF.kp k5 t5 ⟨a, rfl, ea⟩) .nil)
        have hu5 : ∀ u, u ≠ t → Vs u ≠ [] → l ≠ ls u ∧ ∃ ys, (upd H4 l (.lst (xs ++ [.ref a]))) (ls u) = some (.lst ys) ∧ Paired (VerF tokV (upd H4 l (.lst (xs ++ [.ref a])))) ys (Vs u) := fun u hu hne => by
          obtain ⟨h1, ys, ey, pry⟩ := hu4 u hu hne
          exact ⟨h1, ys, o2 ey (Ne.symm h1), Paired.mapP pry fun _ _ z => z.kp k5 t5⟩
        have k05 : Kp (PutS q cq ls Vs t) H (upd H4 l (.lst (xs ++ [.ref a]))) := k04.less k5 fun b (hb : b = l) => by
          by_cases z : Vs t = []
          · exact .inr (by rw [hb]; exact hn3 z)
          · exact .inl (.inr (.inr ⟨z, by rw [hb]; exact hy3 z⟩))
        generalize hH5 : upd H4 l (.lst (xs ++ [.ref a])) = H5 at k05 eq5 ed5 el5 pr5 hu5
        refine ⟨_, rfl, q, _, cq.1, _, _, rfl, eq5, T.c_ContentStore, T.n_ContentStore_count, rfl, _, _, rfl, rfl, cq.1, _, eq5, by show 3 < 1000; decide, ?_⟩
        have k6 := Kp.put (S := Only q) (o := .ins (He.ga K "ContentStore") cq.1 (putF "count" (.int ((n : Int) + 1)) [("primary", .ref p), ("versions", .ref cq.2), ("count", .int (n : Int))])) eq5 nt_ins rfl
        have t6 : TupFree (Only q) H5 := ins_tup eq5
        have eq6 : (upd H5 q (.ins (He.ga K "ContentStore") cq.1 (putF "count" (.int ((n : Int) + 1)) [("primary", .ref p), ("versions", .ref cq.2), ("count", .int (n : Int))]))) q = some (.ins (He.ga K "ContentStore") cq.1 [("primary", .ref p), ("versions", .ref cq.2), ("count", .int ((n + 1 : Nat) : Int))]) := upd_same
        have ed6 := k6.old _ _ ed5 (Ne.symm nqd) nt_dK
        have el6 := k6.old _ _ el5 (Ne.symm nql) nt_lst
        have pr6 := Paired.mapP pr5 fun _ _ z => z.kp k6 t6
        have hu6 : ∀ u, u ≠ t → Vs u ≠ [] → l ≠ ls u ∧ ∃ ys, (upd H5 q (.ins (He.ga K "ContentStore") cq.1 (putF "count" (.int ((n : Int) + 1)) [("primary", .ref p), ("versions", .ref cq.2), ("count", .int (n : Int))]))) (ls u) = some (.lst ys) ∧ Paired (VerF tokV (upd H5 q (.ins (He.ga K "ContentStore") cq.1 (putF "count" (.int ((n : Int) + 1)) [("primary", .ref p), ("versions", .ref cq.2), ("count", .int (n : Int))])))) ys (Vs u) := fun u hu hne => by
          obtain ⟨h1, ys, ey, pry⟩ := hu5 u hu hne
          exact ⟨h1, ys, o2 ey (fun z => by rw [z, eq5] at ey; cases ey), Paired.mapP pry fun _ _ z => z.kp k6 t6⟩
        have k06 := k05.trans (k6.mono fun b hb => Or.inl hb)
        generalize hH6 : upd H5 q (.ins (He.ga K "ContentStore") cq.1 (putF "count" (.int ((n : Int) + 1)) [("primary", .ref p), ("versions", .ref cq.2), ("count", .int (n : Int))])) = H6 at k06 eq6 ed6 el6 pr6 hu6
        refine ⟨_, rfl, q, _, cq.1, _, _, rfl, eq6, T.c_ContentStore, T.n_ContentStore_versions, rfl, _, rfl, cq.2, .ref l, rfl, by rw [← hv3]; exact DGet.k (k := .inr t) ed6, l, _, rfl, .inl (SqL.of el6), _, rfl, by show 2 ≤ sizeLine; decide, fun r hr => ?_⟩
        have hvt : (xs ++ [V.ref a]).length = (Vs t).length + 1 := by rw [List.length_append, hxl]; rfl
        have k7 := Kp.new (S := Nil) (o := .tup [.int (((xs ++ [V.ref a]).length : Nat) : Int), .str (tok (rv f rs))]) hr
        refine q2 h30 _ (setL ls t l) r (k06.trans k7.any) (fun z => by rw [setL_same]; exact hn3 z) (fun z => by rw [setL_same]; exact hy3 z) (fun u hu => setL_ne hu) ⟨k7.ins0 eq6, ⟨kvs', k7.dK0 ed6, hl3, fun u => ?_⟩, fun u v hu hv e => ?_, fun u => ?_⟩ (by rw [upd_same, hvt])
        · by_cases hut : u = t
          · subst hut
            refine .inr ⟨by rw [addV_same]; simp, by rw [setL_same]; exact hv3, _, by rw [setL_same]; exact k7.lst0 el6, ?_⟩
            rw [addV_same]
            exact Paired.mapP pr6 fun _ _ z => z.kp k7 tupFree_nil
          · rw [addV_ne hut]
            rcases hkf u with ⟨z, y⟩ | ⟨z, y, _⟩
            · exact .inl ⟨z, by rw [ho3 u hut]; exact y⟩
            · obtain ⟨_, ys, ey, pry⟩ := hu6 u hut z
              refine .inr ⟨z, by rw [setL_ne hut, ho3 u hut]; exact y, ys, by rw [setL_ne hut]; exact k7.lst0 ey, ?_⟩
              rw [addV_ne hut]
              exact Paired.mapP pry fun _ _ z => z.kp k7 tupFree_nil
        · by_cases hut : u = t
          · by_cases hvt : v = t
            · rw [hut, hvt]
            · rw [addV_ne hvt] at hv
              rw [hut, setL_same, setL_ne hvt] at e
              exact absurd e (hu6 v hvt hv).1
          · rw [addV_ne hut] at hu
            by_cases hvt : v = t
            · rw [setL_ne hut, hvt, setL_same] at e
              exact absurd e.symm (hu6 u hut hu).1
            · rw [addV_ne hvt] at hv
              rw [setL_ne hut, setL_ne hvt] at e
              exact hC.inj u v hu hv e
        · by_cases hut : u = t
          · rw [hut, addV_same, List.length_append]
            show (Vs t).length + 1 ≤ n + 1
            omega
          · rw [addV_ne hut]
            have := hC.len u
            omega
end
end Au
/-! Authsync: ContentStore.read, by the primary and by a replica. -/
namespace Au
open PySem PySem.Spec PyProof.Rows L2
/-- what the head must tell further -/
structure TopX (P : Program) (K : PySem.W.Frag) : Prop where
  rk : RefK P K
  xf : XfC K (He.ga K "Refused")
  te : PySem.W.exmOne K (.ref (He.ga K "Refused")) (.ref (He.ga K "Refused")) = some true
  cp : PySem.W.findIn K (.ref (He.ga K "Primary")) "__class__" = some (some (.builtin "object.__class__"))
  cr : PySem.W.findIn K (.ref (He.ga K "Replica")) "__class__" = some (some (.builtin "object.__class__"))
  hn : PySem.W.specialIn K (.builtin "object.__class__") "__get__" = some (some (.builtin "getset_descriptor.__get__"))
  tk : PySem.W.takesIn K (.builtin "object.__class__") = some true
  mp : PySem.W.mroIn K (He.ga K "Primary") (.type "object") = some true
  mr : PySem.W.mroIn K (He.ga K "Replica") (.type "object") = some true
  ip : PySem.W.kitOne K (.ref (He.ga K "Primary")) (.ref (He.ga K "Primary")) = some true
  ir : PySem.W.kitOne K (.ref (He.ga K "Replica")) (.ref (He.ga K "Primary")) = some false
/-- how a reading ends -/
inductive RdOut where
  | empty
  | behind
  | no
  | yes (x : Str) (k n : Nat)
/-- xs: the versions, n: the reader's revision, g: whether it grants -/
def rdOf (xs : List VT) (n : Nat) (g : Bool) : RdOut := match xs.getLast? with
  | none => .empty
  | some x => if n < x.2 then .behind else if g then .yes x.1 xs.length n else .no
def RdQ (K : PySem.W.Frag) (o : RdOut) (H : Hp) (Q : VK) (E : XK) : Prop := match o with
  | .empty => RefE K "no content" E H
  | .behind => RefE K "replica is behind" E H
  | .no => ∀ H', Kp Nil H H' → Q .non H'
  | .yes x k n => ∀ H' a, Kp Nil H H' → H' a = some (.tup [.str x, .int (k : Nat), .str (tok n)]) → Q (.ref a) H'
theorem RefE.kp {K : PySem.W.Frag} {what : Str} {E : XK} {H H' : Hp} (k : Kp Nil H H') (h : RefE K what E H) : RefE K what E H' := fun H2 d k2 e => h H2 d (k.trans k2) e
/-- read with the primary -/
def spReadP (K : PySem.W.Frag) : Sp := fun vs H Q E => ∃ q p cq ls Vs n D c f rs r t m u, vs = [.ref q, .ref p, .str t, .str m, .str u] ∧ ContAt K H q p cq ls Vs n ∧ PrimAt K D H p c f rs ∧ PrimOk f rs ∧ Tabs K H ∧ Quest t m u ∧
  rs.getLast? = some r ∧ (∀ x ∈ Vs t, x.2 ≤ rv f rs) ∧ RdQ K (rdOf (Vs t) (rv f rs) (decide ((t, m, u) ∈ r.2))) H Q E
/-- read with a replica -/
def spReadR (K : PySem.W.Frag) : Sp := fun vs H Q E => ∃ q p cq ls Vs n D c f rs z D' cz nz ts B rz t m u, vs = [.ref q, .ref z, .str t, .str m, .str u] ∧ ContAt K H q p cq ls Vs n ∧ PrimAt K D H p c f rs ∧ RepAt K D' H z cz nz ts B rz ∧ Tabs K H ∧
  nz ≤ 40 ∧ (∀ x ∈ Vs t, x.2 ≤ 40) ∧ RdQ K (rdOf (Vs t) nz (decide ((t, m, u) ∈ ts))) H Q E
section
variable {P : Program} {w : World} {K : PySem.W.Frag} {mg : Str → Option Value} {base : Heap}
abbrev N_read : List Str := ["self", "reader", "target", "name", "subject", "at", "allowed", "token"]
theorem sc_Cont_read : FnScope N_read ["self", "reader", "target", "name", "subject"] (defScope s_ContentStore_read) := ⟨rfl, rfl, rfl, by decide +kernel, rfl, by decide +kernel, by decide +kernel⟩
theorem ok_Cont_readP (T : Top K mg base) (X : TopX P K) : Cal P w K mg base (L2.CX P w) 9 ("ContentStore", some "read") ["self", "reader", "target", "name", "subject"] (spReadP K) := by
  obtain ⟨fd, F⟩ := T.d_ContentStore_read
  have cs := ok_Primary_store_id (P := P) (w := w) T
  obtain ⟨fd1, F1, b1⟩ := cs.ex
  have cs2 := ok_Primary_check (P := P) (w := w) T
  obtain ⟨fd2, F2, b2⟩ := cs2.ex
  have cs3 := ok_Cont_version (P := P) (w := w) T
  obtain ⟨fd3, F3, b3⟩ := cs3.ex
  have cs4 := ok_Cont_token (P := P) (w := w) T
  obtain ⟨fd4, F4, b4⟩ := cs4.ex
  refine ⟨⟨fd, FunD.ok (CX := L2.CX P w) F sc_Cont_read (fun vs H Q E h => ?_) (fun cdv A outer s H vs Q E hr h => ?_), FunD.bindsN F fun _ _ _ _ _ _ us hl => match us, hl with | [_, _, _, _, _], _ => rfl⟩, F.kp⟩
  · obtain ⟨q, p, cq, ls, Vs, n, D, c, f, rs, r, t, m, u, rfl, _⟩ := h
    rfl
  · obtain ⟨q, p, cq, ls, Vs, n, D, c, f, rs, r, t, m, u, rfl, hC, hP, hO, ht, hQ, hlast, hle, k⟩ := h
    have nd := sc_Cont_read.nd
    refine ⟨_, pss_cons (ps_if (pt_cmpR op_ne (pe_meth0 (pv 1) T.c_Primary T.m_Primary_store_id F1 (hr.mono (by decide)) b1 .nil pass0) (pe_meth0 (pe_fld (pv 0) rfl) T.c_Primary T.m_Primary_store_id F1 (hr.mono (by decide)) b1 .nil pass0) (nomark _)) (pss_one ps_never) pss_nil)
      (pss_cons (ps_if (pt_cmp (pc_dnotin hr.u1 (pv 2) (pe_fld (pv 0) rfl))) (pss_one (ps_raise rfl (takes_of rfl rfl rfl rfl) (pmk_ref X.rk T.f_super (hr.mono (by decide)) rfl T.g_Refused (pa_cons pe_str (pa_cons (pe_un un_neg pe_int) pa_nil))))) pss_nil)
      (pss_cons (ps_set (i := 5) nd rfl (.inl rfl) (pe_ifExp (pt_val (pe_callB call_isi (by rfl) T.f_isinstance (by decide +kernel) (pa_cons (pv 1) (pa_cons (pe_glob (v := .ref (He.ga K "Primary")) rfl T.g_Primary rfl) pa_nil)))) pe_str
        (pe_meth (pv 0) T.c_ContentStore T.m_ContentStore_token F4 (hr.mono (by decide)) b4 .nil pass0 (pa_cons (pv 2) pa_nil))))
      (pss_cons (ps_asg (pe_meth (pv 1) T.c_Primary T.m_Primary_check F2 hr b2 .nil pass0 (pa_cons (pv 2) (pa_cons (pv 3) (pa_cons (pv 4) (pa_cons (pv 5) pa_nil))))) (pg_tup rfl (pgs_cons (pg_name (i := 6) nd rfl (.inl rfl)) (pgs_cons (pg_name (i := 7) nd rfl (.inl rfl)) pgs_nil))))
      (pss_cons (ps_if (pt_not (pt_val (pv 6))) (pss_one (ps_ret pe_non)) pss_nil)
      (pss_one (ps_ret (pe_tup (pa_cons (pe_ix ix_tup (pe_ix ix_list (pe_dget hr.u1 (pe_fld (pv 0) rfl) (pv 2) (fun _ _ => rfl)) (pe_un un_neg pe_int) (fun _ _ => rfl)) pe_int (fun _ _ => rfl))
        (pa_cons (pe_meth (pv 0) T.c_ContentStore T.m_ContentStore_version F3 (hr.mono (by decide)) b3 .nil pass0 (pa_cons (pv 2) pa_nil)) (pa_cons (pv 7) pa_nil)))))))))), ?_⟩
    obtain ⟨kvs, ek, hkl, hkf⟩ := hC.dt
    refine ⟨_, rfl, p, c.1, _, rfl, hP.ob, rfl, p, D, c, f, rs, rfl, hP, fun H1 k1 => ?_⟩
    have C1 := hC.kp0 k1
    have P1 := hP.kp0 k1
    refine ⟨_, rfl, q, _, cq.1, _, _, rfl, C1.ob, T.c_ContentStore, T.n_ContentStore_primary, rfl, p, c.1, _, rfl, P1.ob, rfl, p, D, c, f, rs, rfl, P1, fun H2 k2 => ⟨rfl, _, rfl, iteN (by simp) ?_⟩⟩
    have k02 := k1.trans k2
    have C2 := hC.kp0 k02
    have P2 := hP.kp0 k02
    refine ⟨_, rfl, _, rfl, q, _, cq.1, _, _, rfl, C2.ob, T.c_ContentStore, T.n_ContentStore_versions, rfl, cq.2, valV kvs (.inr t), rfl, DGet.k (k := .inr t) (k02.dK0 ek), _, rfl, ?_⟩
    rcases hkf t with ⟨z, y⟩ | ⟨z, y, xs, ex, pr⟩
    · rw [y]
      rw [z] at k
      exact iteT ⟨_, rfl, _, rfl, fun dd hd => k _ dd (k02.trans (Kp.new hd)) upd_same⟩
    · rw [y]
      have rn : rs[rv f rs - f]? = some r := by
        rw [← hlast, List.getLast?_eq_getElem?]
        congr 1
        have := hO.pos
        unfold rv
        omega
      refine iteF ⟨_, rfl, _, _, _, _, _, rfl, ClsV.own _, TyX.base (TyOf.ins P2.ob T.c_Primary X.cp X.hn X.tk X.mp), X.ip, _, rfl, iteT ?_⟩
      refine ⟨_, rfl, p, c.1, _, rfl, P2.ob, rfl, _, rfl, _, rfl, _, rfl, _, rfl, p, D, c, f, rs, "", rv f rs, r, t, m, u, rfl, P2, hO, .inl ⟨rfl, rfl⟩, rn, ht.kp k02, hQ, fun H3 tt k3 ett => ?_⟩
      have k03 := k02.trans k3
      have C3 := hC.kp0 k03
      obtain ⟨v, x, hv, ⟨a, rfl, ea⟩, hlx⟩ := last_pair pr z
      have hxle := hle x (List.mem_of_getLast? hlx)
      unfold rdOf at k
      rw [hlx] at k
      dsimp only at k
      rw [if_neg (by omega)] at k
      refine ⟨tt, _, rfl, SqT.of ett, rfl, _, _, rfl, _, _, rfl, rfl, ?_⟩
      refine ⟨_, rfl, _, rfl, ?_⟩
      by_cases hg : (t, m, u) ∈ r.2
      · rw [decide_eq_true hg] at k ⊢
        refine iteF ⟨_, rfl, q, _, cq.1, _, _, rfl, C3.ob, T.c_ContentStore, T.n_ContentStore_versions, rfl, _, rfl, cq.2, .ref (ls t), rfl, by rw [← y]; exact DGet.k (k := .inr t) (k03.dK0 ek), _, rfl, ls t, xs, -1, .ref a, rfl, rfl, SqL.of (k03.lst0 ex), hv, a, _, 0, _, rfl, rfl, SqT.of (k03.tup0 ea), rfl, ?_⟩
        refine ⟨_, rfl, q, cq.1, _, rfl, C3.ob, rfl, _, rfl, q, p, cq, ls, Vs, n, t, rfl, C3, fun H4 k4 => ⟨_, rfl, by show 3 ≤ sizeLine; decide, fun b hb => ?_⟩⟩
        exact k _ b (k03.trans (k4.trans (Kp.new hb))) upd_same
      · rw [decide_eq_false hg] at k ⊢
        exact iteT (k H3 k03)
theorem ok_Cont_readR (T : Top K mg base) (X : TopX P K) : Cal P w K mg base (L2.CX P w) 9 ("ContentStore", some "read") ["self", "reader", "target", "name", "subject"] (spReadR K) := by
  obtain ⟨fd, F⟩ := T.d_ContentStore_read
  have cs := ok_Primary_store_id (P := P) (w := w) T
  obtain ⟨fd1, F1, b1⟩ := cs.ex
  have cs2 := ok_Replica_check (P := P) (w := w) T X.rk
  obtain ⟨fd2, F2, b2⟩ := cs2.ex
  have cs3 := ok_Cont_version (P := P) (w := w) T
  obtain ⟨fd3, F3, b3⟩ := cs3.ex
  have cs4 := ok_Cont_token (P := P) (w := w) T
  obtain ⟨fd4, F4, b4⟩ := cs4.ex
  have cs5 := ok_Replica_store_id (P := P) (w := w) T
  obtain ⟨fd5, F5, b5⟩ := cs5.ex
  refine ⟨⟨fd, FunD.ok (CX := L2.CX P w) F sc_Cont_read (fun vs H Q E h => ?_) (fun cdv A outer s H vs Q E hr h => ?_), FunD.bindsN F fun _ _ _ _ _ _ us hl => match us, hl with | [_, _, _, _, _], _ => rfl⟩, F.kp⟩
  · obtain ⟨q, p, cq, ls, Vs, n, D, c, f, rs, z, D', cz, nz, ts, B, rz, t, m, u, rfl, _⟩ := h
    rfl
  · obtain ⟨q, p, cq, ls, Vs, n, D, c, f, rs, zr, D', cz, nz, ts, B, rz, t, m, u, rfl, hC, hP, hR, ht, hn, hle, k⟩ := h
    have nd := sc_Cont_read.nd
    refine ⟨_, pss_cons (ps_if (pt_cmpR op_ne (pe_meth0 (pv 1) T.c_Replica T.m_Replica_store_id F5 (hr.mono (by decide)) b5 .nil pass0) (pe_meth0 (pe_fld (pv 0) rfl) T.c_Primary T.m_Primary_store_id F1 (hr.mono (by decide)) b1 .nil pass0) (nomark _)) (pss_one ps_never) pss_nil)
      (pss_cons (ps_if (pt_cmp (pc_dnotin hr.u1 (pv 2) (pe_fld (pv 0) rfl))) (pss_one (ps_raise rfl (takes_of rfl rfl rfl rfl) (pmk_ref X.rk T.f_super (hr.mono (by decide)) rfl T.g_Refused (pa_cons pe_str (pa_cons (pe_un un_neg pe_int) pa_nil))))) pss_nil)
      (pss_cons (ps_set (i := 5) nd rfl (.inl rfl) (pe_ifExp (pt_val (pe_callB call_isi (by rfl) T.f_isinstance (by decide +kernel) (pa_cons (pv 1) (pa_cons (pe_glob (v := .ref (He.ga K "Primary")) rfl T.g_Primary rfl) pa_nil)))) pe_str
        (pe_meth (pv 0) T.c_ContentStore T.m_ContentStore_token F4 (hr.mono (by decide)) b4 .nil pass0 (pa_cons (pv 2) pa_nil))))
      (pss_cons (ps_asg (pe_meth (E := E) (pv 1) T.c_Replica T.m_Replica_check F2 (hr.mono (by decide)) b2 .nil (passes_call (takes_of rfl rfl rfl rfl) fun _ _ _ _ h => h) (pa_cons (pv 2) (pa_cons (pv 3) (pa_cons (pv 4) (pa_cons (pv 5) pa_nil))))) (pg_tup rfl (pgs_cons (pg_name (i := 6) nd rfl (.inl rfl)) (pgs_cons (pg_name (i := 7) nd rfl (.inl rfl)) pgs_nil))))
      (pss_cons (ps_if (pt_not (pt_val (pv 6))) (pss_one (ps_ret pe_non)) pss_nil)
      (pss_one (ps_ret (pe_tup (pa_cons (pe_ix ix_tup (pe_ix ix_list (pe_dget hr.u1 (pe_fld (pv 0) rfl) (pv 2) (fun _ _ => rfl)) (pe_un un_neg pe_int) (fun _ _ => rfl)) pe_int (fun _ _ => rfl))
        (pa_cons (pe_meth (pv 0) T.c_ContentStore T.m_ContentStore_version F3 (hr.mono (by decide)) b3 .nil pass0 (pa_cons (pv 2) pa_nil)) (pa_cons (pv 7) pa_nil)))))))))), ?_⟩
    obtain ⟨kvs, ek, hkl, hkf⟩ := hC.dt
    obtain ⟨tb, e, dtb, hT⟩ := hR.ob
    refine ⟨_, rfl, zr, cz.1, _, rfl, e, rfl, zr, D', cz, nz, ts, B, rz, rfl, hR, fun H1 k1 => ?_⟩
    have C1 := hC.kp0 k1
    have P1 := hP.kp0 k1
    refine ⟨_, rfl, q, _, cq.1, _, _, rfl, C1.ob, T.c_ContentStore, T.n_ContentStore_primary, rfl, p, c.1, _, rfl, P1.ob, rfl, p, D, c, f, rs, rfl, P1, fun H2 k2 => ⟨rfl, _, rfl, iteN (by simp) ?_⟩⟩
    have k02 := k1.trans k2
    have C2 := hC.kp0 k02
    have e2 := k02.ins0 e
    refine ⟨_, rfl, _, rfl, q, _, cq.1, _, _, rfl, C2.ob, T.c_ContentStore, T.n_ContentStore_versions, rfl, cq.2, valV kvs (.inr t), rfl, DGet.k (k := .inr t) (k02.dK0 ek), _, rfl, ?_⟩
    rcases hkf t with ⟨z, y⟩ | ⟨z, y, xs, ex, pr⟩
    · rw [y]
      rw [z] at k
      exact iteT ⟨_, rfl, _, rfl, fun dd hd => k _ dd (k02.trans (Kp.new hd)) upd_same⟩
    · rw [y]
      obtain ⟨v, x, hv, ⟨a, rfl, ea⟩, hlx⟩ := last_pair pr z
      have hxle := hle x (List.mem_of_getLast? hlx)
      unfold rdOf at k
      rw [hlx] at k
      dsimp only at k
      have hlt : lastTok (Vs t) = tok x.2 := by
        unfold lastTok
        rw [hlx]
      refine iteF ⟨_, rfl, _, _, _, _, _, rfl, ClsV.own _, TyX.base (TyOf.ins e2 T.c_Replica X.cr X.hn X.tk X.mr), X.ir, _, rfl, iteF ?_⟩
      refine ⟨_, rfl, q, cq.1, _, rfl, C2.ob, rfl, _, rfl, q, p, cq, ls, Vs, n, t, rfl, C2, fun H3 k3 => ?_⟩
      have k03 := k02.trans k3
      have C3 := hC.kp0 k03
      have R3 := hR.kp0 k03
      refine ⟨_, rfl, zr, cz.1, _, rfl, k03.ins0 e, rfl, _, rfl, _, rfl, _, rfl, _, rfl, zr, D', cz, nz, ts, B, rz, x.2, t, m, u, by rw [hlt]; rfl, R3, hxle, hn, ht.kp k03, fun hb => ?_, fun hb H4 tt k4 ett => ?_⟩
      · rw [if_pos hb] at k
        exact RefE.kp k03 k
      · rw [if_neg (by omega)] at k
        have k04 := k03.trans k4
        have C4 := hC.kp0 k04
        refine ⟨tt, _, rfl, SqT.of ett, rfl, _, _, rfl, _, _, rfl, rfl, ?_⟩
        refine ⟨_, rfl, _, rfl, ?_⟩
        by_cases hg : (t, m, u) ∈ ts
        · rw [decide_eq_true hg] at k ⊢
          refine iteF ⟨_, rfl, q, _, cq.1, _, _, rfl, C4.ob, T.c_ContentStore, T.n_ContentStore_versions, rfl, _, rfl, cq.2, .ref (ls t), rfl, by rw [← y]; exact DGet.k (k := .inr t) (k04.dK0 ek), _, rfl, ls t, xs, -1, .ref a, rfl, rfl, SqL.of (k04.lst0 ex), hv, a, _, 0, _, rfl, rfl, SqT.of (k04.tup0 ea), rfl, ?_⟩
          refine ⟨_, rfl, q, cq.1, _, rfl, C4.ob, rfl, _, rfl, q, p, cq, ls, Vs, n, t, rfl, C4, fun H5 k5 => ⟨_, rfl, by show 3 ≤ sizeLine; decide, fun b hb => ?_⟩⟩
          exact k _ b (k04.trans (k5.trans (Kp.new hb))) upd_same
        · rw [decide_eq_false hg] at k ⊢
          exact iteT (k H4 k04)
end
end Au
/-! Authsync: the law's helpers: _law_cell, _law_draws, _law_same. -/
namespace Au
open PySem PySem.Spec PyProof.Rows L2
theorem sqL_kp0 {K : PySem.W.Frag} {H H' : Hp} (k : Kp Nil H H') {a : Addr} {xs : List V} (h : SqL K H a xs) : SqL K H' a xs := by
  rcases h with h | h
  · refine .inl ?_
    rcases h with h | ⟨o, h⟩
    · exact .inl (k.lst0 h)
    · exact .inr ⟨o, k.old _ _ h id fun _ z => by cases z⟩
  · exact .inr h
def natV (d : Nat) : V := .int (d : Int)
def spDraws : Sp := fun vs H Q _ => ∃ (z : Int) (n : Nat), vs = [.int z, .int (n : Int)] ∧ n ≤ 100 ∧ ∀ H' l (ds : List Nat), Kp Nil H H' → H l = none → H' l = some (.lst (ds.map natV)) → ds.length = n → Q (.ref l) H'
inductive Flat : V → Prop where
  | str (z : Str) : Flat (.str z)
  | int (i : Int) : Flat (.int i)
def spSame0 : Sp := fun vs H Q _ => ∃ x, vs = [x, x] ∧ Flat x ∧ Q (.bl true) H
def spSameT : Sp := fun vs H Q _ => ∃ a b xs, vs = [.ref a, .ref b] ∧ H a = some (.tup xs) ∧ H b = some (.tup xs) ∧ xs.length ≤ 100 ∧ (∀ x ∈ xs, Flat x) ∧ ∀ H', Kp Nil H H' → Q (.bl true) H'
section
variable {P : Program} {w : World} {K : PySem.W.Frag} {mg : Str → Option Value} {base : Heap}
theorem sc_cell : FnScope ["_law_script", "_law_k"] ["_law_script", "_law_k"] (defScope s__law_cell) := ⟨rfl, rfl, rfl, by decide +kernel, rfl, by decide +kernel, by decide +kernel⟩
theorem ok_cell (T : Top K mg base) : Cal P w K mg base CX0 1 ("_law_cell", none) ["_law_script", "_law_k"] (spCell K) := by
  obtain ⟨fd, F⟩ := T.d__law_cell
  refine ⟨⟨fd, FunD.ok F sc_cell (fun vs H Q E h => ?_) (fun cdv A outer s H vs Q E hr h => ?_), FunD.bindsN F fun _ _ _ _ _ _ us hl => match us, hl with | [_, _], _ => rfl⟩, F.kp⟩
  · obtain ⟨l, ns, j, rfl, _⟩ := h
    rfl
  · obtain ⟨l, ns, j, rfl, hS, q⟩ := h
    refine ⟨_, pss_cons (ps_if (pt_cmpR op_lt (pv 1) (pe_callB call_len_seq (by rfl) T.f_len PySem.boot_len (pa_cons (pv 0) pa_nil)) (nomark _)) (pss_one (ps_ret (pe_ix ix_list (pv 0) (pv 1) (fun _ _ => rfl)))) pss_nil)
      (pss_one (ps_ret pe_int)), ?_⟩
    have hl : (ns.map V.int).length = ns.length := List.length_map ..
    refine ⟨_, rfl, _, rfl, l, _, rfl, .inl hS, _, _, rfl, rfl, _, rfl, itb (fun c1 => ?_) fun c1 => ?_⟩
    · have hj : j < ns.length := by
        have := of_decide_eq_true c1
        rw [hl] at this
        omega
      exact ⟨_, rfl, _, rfl, l, _, _, _, rfl, rfl, hS, atI_cell hj, q⟩
    · have hj : ¬ j < ns.length := by
        have := of_decide_eq_false c1
        rw [hl] at this
        omega
      rw [cell_out hj] at q
      exact q
/-! ### _law_draws -/
abbrev N_dr : List Str := ["_law_cell_here", "_law_count", "_law_found", "_law_is_wide", "_law_k", "_law_mixed"]
theorem sc_draws : FnScope N_dr ["_law_cell_here", "_law_count"] (defScope s__law_draws) := ⟨rfl, rfl, rfl, by decide +kernel, rfl, by decide +kernel, by decide +kernel⟩
theorem ok_draws (T : Top K mg base) : Cal P w K mg base CX0 1 ("_law_draws", none) ["_law_cell_here", "_law_count"] spDraws := by
  obtain ⟨fd, F⟩ := T.d__law_draws
  refine ⟨⟨fd, FunD.ok F sc_draws (fun vs H Q E h => ?_) (fun cdv A outer s H vs Q E hr h => ?_), FunD.bindsN F fun _ _ _ _ _ _ us hl => match us, hl with | [_, _], _ => rfl⟩, F.kp⟩
  · obtain ⟨z, n, rfl, _⟩ := h
    rfl
  · obtain ⟨z, n, rfl, hn, q⟩ := h
    have nd := sc_draws.nd
    refine ⟨_, pss_cons (ps_set (i := 2) nd rfl (.inl rfl) (pe_lst pa_nil))
      (pss_cons (ps_set (i := 3) nd rfl (.inl rfl) (pe_cmpR op_ge (pv 0) (pe_op op_pow pe_int pe_int) (nomark _)))
      (pss_cons (ps_for (passes_of rfl) rfl (pi_range1 (by rfl) T.f_range (pa_cons (pv 1) pa_nil)) (pg_name (i := 4) nd rfl (.inl rfl))
        (pss_one (ps_if (pt_val (pv 3))
          (pss_cons (ps_expr (pe_bm PySem.F.plainAttrs_list PySem.F.slot_list_append PySem.F.type_list_append mt_append (pv 2) (pa_cons (pe_op op_mod (pe_callTy call_int1 (by rfl) T.f_int (by decide +kernel) (pa_cons (pv 0) pa_nil)) pe_int) pa_nil)))
          (pss_one (ps_set (i := 0) nd rfl (.inl rfl) (pe_op op_fdivN (pv 0) pe_int))))
          (pss_cons (ps_set (i := 5) nd rfl (.inl rfl) (pe_op op_mod (pe_callTy call_int1 (by rfl) T.f_int (by decide +kernel) (pa_cons (pe_op op_add (pe_op op_mul (pv 0) pe_int) (pe_op op_mul (pv 4) pe_int)) pa_nil)) pe_int))
          (pss_one (ps_expr (pe_bm PySem.F.plainAttrs_list PySem.F.slot_list_append PySem.F.type_list_append mt_append (pv 2) (pa_cons (pe_op op_mod (pe_callTy call_int1 (by rfl) T.f_int (by decide +kernel) (pa_cons (pe_op op_add (pe_op op_add (pe_op op_mul (pv 5) (pv 5)) (pe_op op_mul (pv 0) pe_int)) (pv 4)) pa_nil)) pe_int) pa_nil))))))))
      (pss_one (ps_ret (pv 2))))), ?_⟩
    refine ⟨by show 0 ≤ sizeLine; decide, fun l hl => ?_⟩
    have k1 : Kp Nil H (upd H l (.lst [])) := Kp.new hl
    have el : (upd H l (.lst [])) l = some (.lst (([] : List Nat).map natV)) := upd_same
    generalize hH1 : upd H l (.lst []) = H1 at k1 el
    refine ⟨_, rfl, _, _, rfl, rfl, ⟨by decide, by decide, by decide⟩, _, _, rfl, rfl, ?_⟩
    refine ⟨_, rfl, (n : Int), rfl, by omega, by omega, ?_⟩
    refine for_it walk_range (fun i σ H' => Kp (Only l) H1 H' ∧ ∃ (ds : List Nat) (z' : Int) (b : Bool), ∃ x4 x5, ds.length = i ∧ H' l = some (.lst (ds.map natV)) ∧ σ = [some (.int z'), some (.int (n : Int)), some (.ref l), some (.bl b), x4, x5])
      ⟨Kp.refl, [], z, _, _, _, rfl, el, rfl⟩ (fun _ _ _ _ _ => trivial) (fun i x σ H2 H3 hi pv y => ?_) fun σ H2 pv => ?_
    · obtain ⟨k2, ds, z', b, x4, x5, hlen, e2, rfl⟩ := pv
      obtain ⟨rfl, rfl⟩ := y
      have hi2 : i < n := by
        have : i < (n : Int).toNat := hi
        omega
      have fin : ∀ (r : V) (d : Nat) (z2 : Int) (x4 x5 : Option V) (σ' : L2.St), r = natV d → σ' = [some (.int z2), some (.int (n : Int)), some (.ref l), some (.bl b), x4, x5] →
          Kp (Only l) H1 (upd H3 l (.lst (ds.map natV ++ [r]))) ∧ ∃ (ds' : List Nat) (z' : Int) (b : Bool), ∃ x4 x5, ds'.length = i + 1 ∧ (upd H3 l (.lst (ds.map natV ++ [r]))) l = some (.lst (ds'.map natV)) ∧ σ' = [some (.int z'), some (.int (n : Int)), some (.ref l), some (.bl b), x4, x5] := fun r d z2 x4 x5 σ' er eσ =>
        ⟨k2.trans (Kp.put e2 nt_lst rfl), ds ++ [d], z2, b, x4, x5, by rw [List.length_append, hlen]; rfl, by rw [upd_same, List.map_append, er]; rfl, eσ⟩
      have hsz : (ds.map natV).length < sizeLine := by rw [List.length_map, sizeLine_eq]; omega
      refine ⟨_, rfl, b, rfl, itb (fun c1 => ?_) fun c1 => ?_⟩
      · refine ⟨_, rfl, .inl ⟨rfl, _, .inl (.inl e2)⟩, _, rfl, .inl ⟨_, rfl, _, _, rfl, rfl, by show (0 : Int) < 1009; decide, l, _, _, rfl, rfl, e2, hsz, ?_⟩⟩
        refine ⟨_, rfl, _, _, rfl, rfl, ⟨by decide, by decide⟩, ?_⟩
        have ed : V.int (z' % 1009) = natV (z' % 1009).toNat := by
          show _ = V.int _
          rw [Int.toNat_of_nonneg (Int.emod_nonneg _ (by decide))]
        exact fin _ _ _ _ _ _ ed rfl
      · refine ⟨_, rfl, _, _, rfl, rfl, .inr ⟨by decide, by decide⟩, _, rfl, _, _, rfl, rfl, .inr ⟨by decide, by decide⟩, _, _, rfl, rfl, .inl ⟨_, rfl, _, _, rfl, rfl, by show (0 : Int) < 2147483647; decide, ?_⟩⟩
        have ed : ∀ i : Int, V.int (i % 1000003) = natV (i % 1000003).toNat := fun i => by
          show _ = V.int _
          rw [Int.toNat_of_nonneg (Int.emod_nonneg _ (by decide))]
        refine ⟨_, rfl, .inl ⟨rfl, _, .inl (.inl e2)⟩, _, rfl, _, rfl, _, _, rfl, rfl, .inl ⟨by omega, by omega⟩, _, rfl, _, _, rfl, rfl, .inr ⟨by decide, by decide⟩, _, _, rfl, rfl, _, rfl, _, _, rfl, rfl, .inl ⟨_, rfl, _, _, rfl, rfl, by show (0 : Int) < 1000003; decide, l, _, _, rfl, rfl, e2, hsz, ?_⟩⟩
        exact fin _ _ _ _ _ _ (ed _) rfl
    · obtain ⟨k2, ds, z', b, x4, x5, hlen, e2, rfl⟩ := pv
      have k02 : Kp Nil H H2 := k1.less k2 fun b (hb : b = l) => .inr (by rw [hb]; exact hl)
      exact ⟨_, rfl, q H2 l ds k02 hl e2 (by rw [hlen]; show (n : Int).toNat = n; omega)⟩
/-! ### _law_same -/
abbrev N_sm : List Str := ["_law_actual", "_law_expected", "_law_k"]
theorem sc_same : FnScope N_sm ["_law_actual", "_law_expected"] (defScope s__law_same) := ⟨rfl, rfl, rfl, by decide +kernel, rfl, by decide +kernel, by decide +kernel⟩
theorem ok_same0 (T : Top K mg base) : Cal P w K mg base CX0 1 ("_law_same", none) ["_law_actual", "_law_expected"] spSame0 := by
  obtain ⟨fd, F⟩ := T.d__law_same
  refine ⟨⟨fd, FunD.ok F sc_same (fun vs H Q E h => ?_) (fun cdv A outer s H vs Q E hr h => ?_), FunD.bindsN F fun _ _ _ _ _ _ us hl => match us, hl with | [_, _], _ => rfl⟩, F.kp⟩
  · obtain ⟨x, rfl, _⟩ := h
    rfl
  · obtain ⟨x, rfl, hf, q⟩ := h
    refine ⟨_, pss_cons (ps_if (pt_val (pe_callB call_isi (by rfl) T.f_isinstance (by decide +kernel) (pa_cons (pv 1) (pa_cons (pe_bltn (v := .ty "tuple") (by rfl) T.f_tuple (by decide +kernel) rfl) pa_nil)))) (pss_cons ps_never (pss_cons ps_never (pss_one ps_never))) pss_nil)
      (pss_cons (ps_if (pt_cmpR op_isN (pv 1) pe_non (nomark _)) (pss_one ps_never) pss_nil)
      (pss_cons (ps_if (pt_val (pe_callB call_isi (by rfl) T.f_isinstance (by decide +kernel) (pa_cons (pv 1) (pa_cons (pe_bltn (v := .ty "bool") (by rfl) T.f_bool (by decide +kernel) rfl) pa_nil)))) (pss_one ps_never) pss_nil)
      (pss_cons (ps_if (pt_val (pe_callB call_isi (by rfl) T.f_isinstance (by decide +kernel) (pa_cons (pv 1) (pa_cons (pe_bltn (v := .ty "str") (by rfl) T.f_str (by decide +kernel) rfl) pa_nil))))
        (pss_one (ps_ret (pe_and (pe_callB call_isi (by rfl) T.f_isinstance (by decide +kernel) (pa_cons (pv 0) (pa_cons (pe_bltn (v := .ty "str") (by rfl) T.f_str (by decide +kernel) rfl) pa_nil))) (pe_one (pe_cmpR op_eq (pv 0) (pv 1) (nomark _)))))) pss_nil)
      (pss_one (ps_ret (pe_and (pe_callB call_isi (by rfl) T.f_isinstance (by decide +kernel) (pa_cons (pv 0) (pa_cons (pe_bltn (v := .ty "int") (by rfl) T.f_int (by decide +kernel) rfl) pa_nil)))
        (pe_and (pe_not (pe_callB call_isi (by rfl) T.f_isinstance (by decide +kernel) (pa_cons (pv 0) (pa_cons (pe_bltn (v := .ty "bool") (by rfl) T.f_bool (by decide +kernel) rfl) pa_nil)))) (pe_one (pe_cmpR op_eq (pv 0) (pv 1) (nomark _)))))))))), ?_⟩
    cases hf with
    | str z =>
      refine ⟨_, rfl, _, _, _, _, _, rfl, ClsV.ty "tuple", TyX.base (TyOf.str z), kit_ty (by decide +kernel), _, rfl, iteF ?_⟩
      refine ⟨_, rfl, rfl, _, rfl, iteF ?_⟩
      refine ⟨_, rfl, _, _, _, _, _, rfl, ClsV.ty "bool", TyX.base (TyOf.str z), kit_ty (by decide +kernel), _, rfl, iteF ?_⟩
      refine ⟨_, rfl, _, _, _, _, _, rfl, ClsV.ty "str", TyX.base (TyOf.str z), kit_ty (by decide +kernel), _, rfl, iteT ?_⟩
      refine ⟨_, rfl, _, _, _, _, _, rfl, ClsV.ty "str", TyX.base (TyOf.str z), kit_ty (by decide +kernel), _, rfl, iteT ⟨_, rfl, _, rfl, rfl, ?_⟩⟩
      rw [decide_eq_true rfl]
      exact q
    | int i =>
      refine ⟨_, rfl, _, _, _, _, _, rfl, ClsV.ty "tuple", TyX.base (TyOf.int i), kit_ty (by decide +kernel), _, rfl, iteF ?_⟩
      refine ⟨_, rfl, rfl, _, rfl, iteF ?_⟩
      refine ⟨_, rfl, _, _, _, _, _, rfl, ClsV.ty "bool", TyX.base (TyOf.int i), kit_ty (by decide +kernel), _, rfl, iteF ?_⟩
      refine ⟨_, rfl, _, _, _, _, _, rfl, ClsV.ty "str", TyX.base (TyOf.int i), kit_ty (by decide +kernel), _, rfl, iteF ?_⟩
      refine ⟨_, rfl, _, _, _, _, _, rfl, ClsV.ty "int", TyX.base (TyOf.int i), kit_ty (by decide +kernel), _, rfl, iteT ?_⟩
      refine ⟨_, rfl, _, _, _, _, _, rfl, ClsV.ty "bool", TyX.base (TyOf.int i), kit_ty (r := false) (by decide +kernel), _, rfl, _, rfl, iteT ⟨_, rfl, _, rfl, rfl, ?_⟩⟩
      rw [decide_eq_true rfl]
      exact q
theorem ok_sameT (T : Top K mg base) : Cal P w K mg base CX0 2 ("_law_same", none) ["_law_actual", "_law_expected"] spSameT := by
  obtain ⟨fd, F⟩ := T.d__law_same
  have cs := ok_same0 (P := P) (w := w) T
  obtain ⟨fd1, F1, b1⟩ := cs.ex
  refine ⟨⟨fd, FunD.ok F sc_same (fun vs H Q E h => ?_) (fun cdv A outer s H vs Q E hr h => ?_), FunD.bindsN F fun _ _ _ _ _ _ us hl => match us, hl with | [_, _], _ => rfl⟩, F.kp⟩
  · obtain ⟨a, b, xs, rfl, _⟩ := h
    rfl
  · obtain ⟨a, b, xs, rfl, ea, eb, hl, hf, q⟩ := h
    have nd := sc_same.nd
    refine ⟨_, pss_cons (ps_if (pt_val (pe_callB call_isi (by rfl) T.f_isinstance (by decide +kernel) (pa_cons (pv 1) (pa_cons (pe_bltn (v := .ty "tuple") (by rfl) T.f_tuple (by decide +kernel) rfl) pa_nil))))
        (pss_cons (ps_if (PW.pt (pw_or (pt_not (pt_val (pe_callB call_isi (by rfl) T.f_isinstance (by decide +kernel) (pa_cons (pv 0) (pa_cons (pe_bltn (v := .ty "tuple") (by rfl) T.f_tuple (by decide +kernel) rfl) pa_nil)))))
          (pw_or1 (pt_cmpR op_ne (pe_callB call_len_seq (by rfl) T.f_len PySem.boot_len (pa_cons (pv 0) pa_nil)) (pe_callB call_len_seq (by rfl) T.f_len PySem.boot_len (pa_cons (pv 1) pa_nil)) (nomark _))))) (pss_one ps_never) pss_nil)
        (pss_cons (ps_for (passes_of rfl) rfl (pi_range1 (by rfl) T.f_range (pa_cons (pe_callB call_len_seq (by rfl) T.f_len PySem.boot_len (pa_cons (pv 1) pa_nil)) pa_nil)) (pg_name (i := 2) nd rfl (.inl rfl))
          (pss_one (ps_if (pt_not (pt_val (pe_call F1 hr rfl T.g__law_same cs.kp b1 .nil pass0 (pa_cons (pe_ix ix_tup (pv 0) (pv 2) (fun _ _ => rfl)) (pa_cons (pe_ix ix_tup (pv 1) (pv 2) (fun _ _ => rfl)) pa_nil))))) (pss_one ps_never) pss_nil)))
        (pss_one (ps_ret pe_bl)))) pss_nil)
      (pss_cons ps_never (pss_cons ps_never (pss_cons ps_never (pss_one ps_never)))), ?_⟩
    refine ⟨_, rfl, _, _, _, _, _, rfl, ClsV.ty "tuple", TyX.base (TyOf.tup eb), kit_ty (by decide +kernel), _, rfl, iteT ?_⟩
    refine ⟨_, rfl, _, _, _, _, _, rfl, ClsV.ty "tuple", TyX.base (TyOf.tup ea), kit_ty (r := true) (by decide +kernel), _, rfl, iteF ?_⟩
    refine ⟨_, rfl, a, xs, rfl, .inr (SqT.of ea), _, rfl, b, xs, rfl, .inr (SqT.of eb), rfl, _, rfl, iteN (by simp) ?_⟩
    refine ⟨_, rfl, b, xs, rfl, .inr (SqT.of eb), _, rfl, by omega, by omega, ?_⟩
    refine for_it walk_range (fun i σ H' => Kp Nil H H' ∧ ∃ x3, σ = [some (.ref a), some (.ref b), x3]) ⟨Kp.refl, _, rfl⟩ (fun _ _ _ _ _ => trivial) (fun i y σ H2 H3 hi pv y => ?_) fun σ H2 pv => ?_
    · obtain ⟨k2, x3, rfl⟩ := pv
      obtain ⟨rfl, rfl⟩ := y
      have hi2 : i < xs.length := by
        have : i < ((xs.length : Nat) : Int).toNat := hi
        omega
      have hx : xs[i]? = some xs[i] := List.getElem?_eq_getElem hi2
      have hat : atI xs (0 + (i : Int)) = some xs[i] := by rw [Int.zero_add]; exact atI_nat hx
      exact ⟨_, rfl, _, rfl, a, xs, _, xs[i], rfl, rfl, SqT.of (k2.tup0 ea), hat, _, rfl, _, rfl, b, xs, _, xs[i], rfl, rfl, SqT.of (k2.tup0 eb), hat, xs[i], rfl, hf _ (List.getElem_mem hi2), _, rfl, iteF ⟨k2, _, rfl⟩⟩
    · obtain ⟨k2, x3, rfl⟩ := pv
      exact q H2 k2
end
end Au
/-! Authsync: the law's helpers: _law_put, _law_read. -/
namespace Au
open PySem PySem.Spec PyProof.Rows L2
section
variable {X : Cx} {CX : CXT} {k : Nat} {f C : Addr} {fd : FuncData} {ps : List Str} {sp : Sp} {E : L2.St → XK} {m : Str} {pos apos : Pos} {e o : Expr} {es : List Expr} {ta : TE} {t : TA}
/-- o.m(e, ..), the wish of an exception by the slots -/
def tMethV (C : Addr) (m : Str) (sp : Sp) (E : L2.St → XK) (ta : TE) (t : TA) : TE := fun σ H Q => ta σ H fun x H1 => ∃ a dx fs, x = .ref a ∧ H1 a = some (.ins C dx fs) ∧ fs.lookup m = none ∧
  t σ H1 fun vs H2 => sp (x :: vs) H2 Q (E σ)
theorem pe_methV {pl : Sem Bool} (he : PE X o ta) (c : Cls X.K C) (hm : Meth X.K C m f) (F : FnOk X.prog X.w X.K X.mg X.base CX k f fd ps sp) (hr : Room k X.A) (hb : Binds X.K fd ps []) (hx : ∀ σ, PassesAt CX X σ (E σ)) (ha : PA X (e :: es) t)
    (hst : starEach (e :: es) X.env = (false, eval e X.env) :: starEach es X.env := by rfl) (hpl : (backTo pos (starEach es X.env)).any (·.1) = false := by rfl)
    (ht : eval (.Call (.Attribute o m apos) (e :: es) [] pos) X.env = (do
      let ov ← eval o X.env
      standAt apos.atName
      let (f, first) ← holding [ov] (getMethod ov m pl)
      callWith pos f first (backTo pos (starEach (e :: es) X.env)) (backToKw pos (keywordEach [] X.env))) := by rfl) :
    PE X (.Call (.Attribute o m apos) (e :: es) [] pos) (tMethV C m sp E ta t) := by
  refine ⟨fun pins s σ H Q I h => ?_⟩
  refine PySem.W.methodCall_KW (pl := pl) (thn (he.run pins s σ H _ I h) fun u s1 hh => ?_) ht
  obtain ⟨x, H1, I1, rx, a, dx, fs, ex, ea, l, q⟩ := hh
  subst ex
  obtain rfl : u = Value.ref a := rx
  refine getmeth_ok I1 ea c hm l ?_
  refine PySem.W.callWith_K (first := [.ref a]) (h₀ := X.base) I.ok.mod.kin hm.kp (thn (ha.run pos pins s1 σ H1 _ I1 q) fun us s2 hh => ?_) hst hpl
  obtain ⟨vs, H2, I2, r, q2⟩ := hh
  exact ⟨I2.kIn, run_fnS (us := .ref a :: us) (vs := .ref a :: vs) F hr hb (hx σ) I2 (.cons rfl r) q2⟩
end
/-- what is told of a reading -/
def ToldR (o : RdOut) (H : Hp) (v : V) : Prop := match o with
  | .empty => v = .str "no content"
  | .behind => v = .str "replica is behind"
  | .no => v = .non
  | .yes x k n => ∃ a, v = .ref a ∧ H a = some (.tup [.str x, .int (k : Nat), .str (tok n)])
theorem rdQ_of {K : PySem.W.Frag} {o : RdOut} {H : Hp} {Q : VK} {E : XK} (h1 : ∀ H' v, Kp Nil H H' → ToldR o H' v → Q v H') (h2 : ∀ H' d what, Kp Nil H H' → H' d = some (.xd (refFs what)) → ToldR o H' (.str what) → E (.ref (He.ga K "Refused")) (some d) H') : RdQ K o H Q E := by
  cases o with
  | empty => exact fun H' d k e => h2 H' d _ k e rfl
  | behind => exact fun H' d k e => h2 H' d _ k e rfl
  | no => exact fun H' k => h1 H' _ k rfl
  | yes x k n => exact fun H' a k e => h1 H' _ k ⟨a, rfl, e⟩
def spLPut (K : PySem.W.Frag) : Sp := fun vs H Q _ => ∃ q p cq ls Vs n D c f rs t x, vs = [.ref q, .str t, .str x] ∧ ContAt K H q p cq ls Vs n ∧ PrimAt K D H p c f rs ∧ PrimOk f rs ∧ n ≤ 30 ∧
  (n = 30 → ∀ H', Kp Nil H H' → Q (.str "too many versions") H') ∧
  (n < 30 → ∀ H' ls' r, Kp (PutS q cq ls Vs t) H H' → (Vs t = [] → H (ls' t) = none) → (Vs t ≠ [] → ls' t = ls t) → (∀ u, u ≠ t → ls' u = ls u) → ContAt K H' q p cq ls' (addV Vs t (x, rv f rs)) (n + 1) →
    H' r = some (.tup [.int ((Vs t).length + 1 : Nat), .str (tok (rv f rs))]) → Q (.ref r) H')
def spLReadP (K : PySem.W.Frag) : Sp := fun vs H Q _ => ∃ q p cq ls Vs n D c f rs r t m u, vs = [.ref q, .ref p, .str t, .str m, .str u] ∧ ContAt K H q p cq ls Vs n ∧ PrimAt K D H p c f rs ∧ PrimOk f rs ∧ Tabs K H ∧ Quest t m u ∧
  rs.getLast? = some r ∧ (∀ x ∈ Vs t, x.2 ≤ rv f rs) ∧ ∀ H' v, Kp Nil H H' → ToldR (rdOf (Vs t) (rv f rs) (decide ((t, m, u) ∈ r.2))) H' v → Q v H'
def spLReadR (K : PySem.W.Frag) : Sp := fun vs H Q _ => ∃ q p cq ls Vs n D c f rs z D' cz nz ts B rz t m u, vs = [.ref q, .ref z, .str t, .str m, .str u] ∧ ContAt K H q p cq ls Vs n ∧ PrimAt K D H p c f rs ∧ RepAt K D' H z cz nz ts B rz ∧ Tabs K H ∧
  nz ≤ 40 ∧ (∀ x ∈ Vs t, x.2 ≤ 40) ∧ ∀ H' v, Kp Nil H H' → ToldR (rdOf (Vs t) nz (decide ((t, m, u) ∈ ts))) H' v → Q v H'
section
variable {P : Program} {w : World} {K : PySem.W.Frag} {mg : Str → Option Value} {base : Heap}
theorem sc_law_put : FnScope ["_law_contents", "_law_thing", "_law_text", "e"] ["_law_contents", "_law_thing", "_law_text"] (defScope s__law_put) := ⟨rfl, rfl, rfl, by decide +kernel, rfl, by decide +kernel, by decide +kernel⟩
theorem ok_law_put (T : Top K mg base) (Y : TopX P K) : Cal P w K mg base CX0 4 ("_law_put", none) ["_law_contents", "_law_thing", "_law_text"] (spLPut K) := by
  obtain ⟨fd, F⟩ := T.d__law_put
  have cs := ok_Cont_put (P := P) (w := w) T Y.rk
  obtain ⟨fd1, F1, b1⟩ := cs.ex
  refine ⟨⟨fd, FunD.ok F sc_law_put (fun vs H Q E h => ?_) (fun cdv A outer s H vs Q E hr h => ?_), FunD.bindsN F fun _ _ _ _ _ _ us hl => match us, hl with | [_, _, _], _ => rfl⟩, F.kp⟩
  · obtain ⟨q, p, cq, ls, Vs, n, D, c, f, rs, t, x, rfl, _⟩ := h
    rfl
  · obtain ⟨q, p, cq, ls, Vs, n, D, c, f, rs, t, x, rfl, hC, hP, hO, hn, q1, q2⟩ := h
    have nd := sc_law_put.nd
    refine ⟨_, pss_one (ps_try_as (i := 3) (tb := fun W => tRet (tMethV (He.ga K "ContentStore") "put" (spPut K) (WE W) (tVar 0) (tCons (tVar 1) (tCons (tVar 2) tNil)))) (Wout := fun _ _ _ _ => False) rfl rfl nd rfl rfl ⟨rfl, by decide, .inl T.g_Refused⟩ takes0
      (fun W pn xe tk _ => pss_one (ps_ret (pe_methV (E := WE W) (pv 0) T.c_ContentStore T.m_ContentStore_put F1 hr b1 (fun σ => passAt tk σ) (pa_cons (pv 1) (pa_cons (pv 2) pa_nil)))))
      (fun a oe cls d pn hz hf => pss_one (ps_ret (pe_xf Y.xf Y.rk.what hz hf (pv 3))))), ?_⟩
    refine ⟨_, rfl, q, cq.1, _, rfl, hC.ob, rfl, _, rfl, _, rfl, q, p, cq, ls, Vs, n, D, c, f, rs, t, x, rfl, hC, hP, hO, hn, fun h30 H' d k e => ?_, fun h30 H' ls' r k h1 h2 h3 hC' e => q2 h30 H' ls' r k h1 h2 h3 hC' e⟩
    exact ⟨true, Y.te, fun _ a ha => ⟨_, rfl, rfl, rfl, d, _, _, rfl, e, rfl, q1 h30 H' k⟩, fun z => nomatch z⟩
abbrev N_lr : List Str := ["_law_contents", "_law_reader", "_law_thing", "_law_name", "_law_who", "e"]
abbrev P_lr : List Str := ["_law_contents", "_law_reader", "_law_thing", "_law_name", "_law_who"]
theorem sc_law_read : FnScope N_lr P_lr (defScope s__law_read) := ⟨rfl, rfl, rfl, by decide +kernel, rfl, by decide +kernel, by decide +kernel⟩
theorem ok_law_readP (T : Top K mg base) (Y : TopX P K) : Cal P w K mg base CX0 10 ("_law_read", none) P_lr (spLReadP K) := by
  obtain ⟨fd, F⟩ := T.d__law_read
  have cs := ok_Cont_readP (P := P) (w := w) T Y
  obtain ⟨fd1, F1, b1⟩ := cs.ex
  refine ⟨⟨fd, FunD.ok F sc_law_read (fun vs H Q E h => ?_) (fun cdv A outer s H vs Q E hr h => ?_), FunD.bindsN F fun _ _ _ _ _ _ us hl => match us, hl with | [_, _, _, _, _], _ => rfl⟩, F.kp⟩
  · obtain ⟨q, p, cq, ls, Vs, n, D, c, f, rs, r, t, m, u, rfl, _⟩ := h
    rfl
  · obtain ⟨q, p, cq, ls, Vs, n, D, c, f, rs, r, t, m, u, rfl, hC, hP, hO, ht, hQ, hlast, hle, k⟩ := h
    have nd := sc_law_read.nd
    refine ⟨_, pss_one (ps_try_as (i := 5) (tb := fun W => tRet (tMethV (He.ga K "ContentStore") "read" (spReadP K) (WE W) (tVar 0) (tCons (tVar 1) (tCons (tVar 2) (tCons (tVar 3) (tCons (tVar 4) tNil)))))) (Wout := fun _ _ _ _ => False) rfl rfl nd rfl rfl ⟨rfl, by decide, .inl T.g_Refused⟩ takes0
      (fun W pn xe tk _ => pss_one (ps_ret (pe_methV (E := WE W) (pv 0) T.c_ContentStore T.m_ContentStore_read F1 hr b1 (fun σ => passAt tk σ) (pa_cons (pv 1) (pa_cons (pv 2) (pa_cons (pv 3) (pa_cons (pv 4) pa_nil)))))))
      (fun a oe cls d pn hz hf => pss_one (ps_ret (pe_xf Y.xf Y.rk.what hz hf (pv 5))))), ?_⟩
    refine ⟨_, rfl, q, cq.1, _, rfl, hC.ob, rfl, _, rfl, _, rfl, _, rfl, _, rfl, q, p, cq, ls, Vs, n, D, c, f, rs, r, t, m, u, rfl, hC, hP, hO, ht, hQ, hlast, hle, rdQ_of (fun H' v k1 h => k H' v k1 h) fun H' d what k1 e h => ?_⟩
    exact ⟨true, Y.te, fun _ a ha => ⟨_, rfl, rfl, rfl, d, _, _, rfl, e, rfl, k H' _ k1 h⟩, fun z => nomatch z⟩
theorem ok_law_readR (T : Top K mg base) (Y : TopX P K) : Cal P w K mg base CX0 10 ("_law_read", none) P_lr (spLReadR K) := by
  obtain ⟨fd, F⟩ := T.d__law_read
  have cs := ok_Cont_readR (P := P) (w := w) T Y
  obtain ⟨fd1, F1, b1⟩ := cs.ex
  refine ⟨⟨fd, FunD.ok F sc_law_read (fun vs H Q E h => ?_) (fun cdv A outer s H vs Q E hr h => ?_), FunD.bindsN F fun _ _ _ _ _ _ us hl => match us, hl with | [_, _, _, _, _], _ => rfl⟩, F.kp⟩
  · obtain ⟨q, p, cq, ls, Vs, n, D, c, f, rs, z, D', cz, nz, ts, B, rz, t, m, u, rfl, _⟩ := h
    rfl
  · obtain ⟨q, p, cq, ls, Vs, n, D, c, f, rs, z, D', cz, nz, ts, B, rz, t, m, u, rfl, hC, hP, hR, ht, hn, hle, k⟩ := h
    have nd := sc_law_read.nd
    refine ⟨_, pss_one (ps_try_as (i := 5) (tb := fun W => tRet (tMethV (He.ga K "ContentStore") "read" (spReadR K) (WE W) (tVar 0) (tCons (tVar 1) (tCons (tVar 2) (tCons (tVar 3) (tCons (tVar 4) tNil)))))) (Wout := fun _ _ _ _ => False) rfl rfl nd rfl rfl ⟨rfl, by decide, .inl T.g_Refused⟩ takes0
      (fun W pn xe tk _ => pss_one (ps_ret (pe_methV (E := WE W) (pv 0) T.c_ContentStore T.m_ContentStore_read F1 hr b1 (fun σ => passAt tk σ) (pa_cons (pv 1) (pa_cons (pv 2) (pa_cons (pv 3) (pa_cons (pv 4) pa_nil)))))))
      (fun a oe cls d pn hz hf => pss_one (ps_ret (pe_xf Y.xf Y.rk.what hz hf (pv 5))))), ?_⟩
    refine ⟨_, rfl, q, cq.1, _, rfl, hC.ob, rfl, _, rfl, _, rfl, _, rfl, _, rfl, q, p, cq, ls, Vs, n, D, c, f, rs, z, D', cz, nz, ts, B, rz, t, m, u, rfl, hC, hP, hR, ht, hn, hle, rdQ_of (fun H' v k1 h => k H' v k1 h) fun H' d what k1 e h => ?_⟩
    exact ⟨true, Y.te, fun _ a ha => ⟨_, rfl, rfl, rfl, d, _, _, rfl, e, rfl, k H' _ k1 h⟩, fun z => nomatch z⟩
end
end Au
/-! Authsync: the law's helpers: _law_is_read (printed by gen_read.py). -/
namespace Au
open PySem PySem.Spec PyProof.Rows L2
def IsDoc (t : Str) : Prop := t = "d:p" ∨ t = "d:q"
/-- the law's own versions -/
structure LVAt (H : Hp) (vd : Addr) (ms : Str → Addr) (Vs : Vers) : Prop where
  dk : ∃ kvs, H vd = some (.dK kvs) ∧ ∀ t, IsDoc t → Lists natV H kvs ms Vs t
theorem LVAt.kp {S : Addr → Prop} {H H' : Hp} (k : Kp S H H') (tf : TupFree S H) {vd : Addr} {ms : Str → Addr} {Vs : Vers} (hd : ¬ S vd) (hl : ∀ t, IsDoc t → ¬ S (ms t)) (h : LVAt H vd ms Vs) : LVAt H' vd ms Vs := by
  obtain ⟨kvs, e, f⟩ := h.dk
  exact ⟨kvs, k.old _ _ e hd nt_dK, fun t ht => (f t ht).kp k tf (hl t ht)⟩
theorem LVAt.kp0 {H H' : Hp} (k : Kp Nil H H') {vd : Addr} {ms : Str → Addr} {Vs : Vers} (h : LVAt H vd ms Vs) : LVAt H' vd ms Vs := h.kp k tupFree_nil id fun _ _ => id
theorem main_tok {n : Nat} (h : n ≤ 40) : ("main@" : Str) ++ Str.ofString (toString (n : Int)) = tok n := by
  have : ∀ n : Nat, n < 41 → ("main@" : Str) ++ Str.ofString (toString (n : Int)) = tok n := by decide +kernel
  exact this n (by omega)
theorem main_len {n : Nat} (h : n ≤ 40) : ("main@" : Str).length + (Str.ofString (toString (n : Int))).length ≤ sizeLine := by
  have : ∀ n : Nat, n < 41 → ("main@" : Str).length + (Str.ofString (toString (n : Int))).length ≤ 1000 := by decide +kernel
  exact Nat.le_trans (this n (by omega)) (by decide)
theorem log_le {n : Nat} (h : n ≤ 40) : ((n : Int)).natAbs.log2 < 1920 := Nat.lt_of_le_of_lt (Nat.log2_le_self _) (by omega)
def spIsReadP (K : PySem.W.Frag) : Sp := fun vs H Q _ => ∃ q p cq ls Vs n D c f rs r t u vd ms, vs = [.ref q, .ref p, .ref p, .ref vd, .str t, .str u] ∧ ContAt K H q p cq ls Vs n ∧ PrimAt K D H p c f rs ∧ PrimOk f rs ∧ Tabs K H ∧ Quest t "v" u ∧
  rs.getLast? = some r ∧ (∀ x ∈ Vs t, x.2 ≤ rv f rs) ∧ LVAt H vd ms Vs ∧ IsDoc t ∧ ∀ H', Kp Nil H H' → Q (.bl true) H'
def spIsReadR (K : PySem.W.Frag) : Sp := fun vs H Q _ => ∃ q p cq ls Vs n D c rs z cz nz ts B t u vd ms, vs = [.ref q, .ref p, .ref z, .ref vd, .str t, .str u] ∧ ContAt K H q p cq ls Vs n ∧ PrimAt K D H p c 0 rs ∧ PrimOk 0 rs ∧ RepAt K D H z cz nz ts B rs ∧ RepOk nz ts rs ∧ Tabs K H ∧
  (∀ x ∈ Vs t, x.2 ≤ 40) ∧ LVAt H vd ms Vs ∧ IsDoc t ∧ ∀ H', Kp Nil H H' → Q (.bl true) H'
section
variable {P : Program} {w : World} {K : PySem.W.Frag} {mg : Str → Option Value} {base : Heap}
abbrev N_ir : List Str := ["_law_contents", "_law_primary", "_law_reader", "_law_versions", "_law_thing", "_law_who", "_law_told", "_law_mine", "_law_number"]
abbrev P_ir : List Str := ["_law_contents", "_law_primary", "_law_reader", "_law_versions", "_law_thing", "_law_who"]
theorem sc_is_read : FnScope N_ir P_ir (defScope s__law_is_read) := ⟨rfl, rfl, rfl, by decide +kernel, rfl, by decide +kernel, by decide +kernel⟩
def spIsRead (K : PySem.W.Frag) : Sp := fun vs H Q E => spIsReadP K vs H Q E ∨ spIsReadR K vs H Q E
theorem ok_is_read (T : Top K mg base) (Y : TopX P K) : Cal P w K mg base CX0 11 ("_law_is_read", none) P_ir (spIsRead K) := by
  obtain ⟨fd, F⟩ := T.d__law_is_read
  have csp := ok_law_readP (P := P) (w := w) T Y
  obtain ⟨fd1p, F1p, b1p⟩ := csp.ex
  have cs2p := ok_Primary_revision (P := P) (w := w) T
  obtain ⟨fd2p, F2p, b2p⟩ := cs2p.ex
  have cs3p := ok_Primary_grants (P := P) (w := w) T
  obtain ⟨fd3p, F3p, b3p⟩ := cs3p.ex
  have cs4p := ok_sameT (P := P) (w := w) T
  obtain ⟨fd4p, F4p, b4p⟩ := cs4p.ex
  have csr := ok_law_readR (P := P) (w := w) T Y
  obtain ⟨fd1r, F1r, b1r⟩ := csr.ex
  have cs2r := ok_Replica_revision (P := P) (w := w) T
  obtain ⟨fd2r, F2r, b2r⟩ := cs2r.ex
  have cs3r := ok_Primary_grants (P := P) (w := w) T
  obtain ⟨fd3r, F3r, b3r⟩ := cs3r.ex
  have cs4r := ok_sameT (P := P) (w := w) T
  obtain ⟨fd4r, F4r, b4r⟩ := cs4r.ex
  refine ⟨⟨fd, FunD.ok F sc_is_read (fun vs H Q E h => ?_) (fun cdv A outer s H vs Q E hr h => ?_), FunD.bindsN F fun _ _ _ _ _ _ us hl => match us, hl with | [_, _, _, _, _, _], _ => rfl⟩, F.kp⟩
  · rcases h with h | h
    · obtain ⟨q, p, cq, ls, Vs, n, D, c, f, rs, r, t, u, vd, ms, rfl, _⟩ := h
      rfl
    · obtain ⟨q, p, cq, ls, Vs, n, D, c, rs, z, cz, nz, ts, B, t, u, vd, ms, rfl, _⟩ := h
      rfl
  · rcases h with h | h
    · obtain ⟨q, p, cq, ls, Vs, n, D, c, f, rs, r, t, u, vd, ms, rfl, hC, hP, hO, ht, hQ, hlast, hle, hL, hd, k⟩ := h
      have nd := sc_is_read.nd
      refine ⟨_, pss_cons (ps_set (i := 6) nd rfl (.inl rfl) (pe_call F1p hr rfl T.g__law_read csp.kp b1p .nil pass0 (pa_cons (pv 0) (pa_cons (pv 2) (pa_cons (pv 4) (pa_cons pe_str (pa_cons (pv 5) pa_nil)))))))
        (pss_cons (ps_set (i := 7) nd rfl (.inl rfl) (pe_dget hr.u1 (pv 3) (pv 4) (fun _ _ => rfl)))
        (pss_cons (ps_if (pt_cmpR op_eq (pe_callB call_len_seq (by rfl) T.f_len PySem.boot_len (pa_cons (pv 7) pa_nil)) pe_int (nomark _)) (pss_one (ps_ret (pe_cmpR op_eq (pv 6) pe_str (nomark _)))) pss_nil)
        (pss_cons (ps_if (pt_cmpR op_lt (pe_meth0 (pv 2) T.c_Primary T.m_Primary_revision F2p (hr.mono (by decide)) b2p .nil pass0) (pe_ix ix_tup (pe_ix ix_list (pv 7) (pe_un un_neg pe_int) (fun _ _ => rfl)) pe_int (fun _ _ => rfl)) (nomark _)) (pss_one (ps_ret (pe_cmpR op_eq (pv 6) pe_str (nomark _)))) pss_nil)
        (pss_cons (ps_set (i := 8) nd rfl (.inl rfl) (pe_meth0 (pv 2) T.c_Primary T.m_Primary_revision F2p (hr.mono (by decide)) b2p .nil pass0))
        (pss_cons (ps_if (pt_cmpR (op_notInP hr.units) (pe_tup (pa_cons (pv 4) (pa_cons pe_str (pa_cons (pv 5) pa_nil))))
            (pe_meth (pv 1) T.c_Primary T.m_Primary_grants F3p (hr.mono (by decide)) b3p .nil pass0 (pa_cons (pe_op op_add_str pe_str (pe_callTy call_str_int (by rfl) T.f_str (by decide +kernel) (pa_cons (pv 8) pa_nil))) pa_nil)) rfl) (pss_one (ps_ret (pe_cmpR op_isN (pv 6) pe_non (nomark _)))) pss_nil)
        (pss_one (ps_ret (pe_call F4p (hr.mono (by decide)) rfl T.g__law_same cs4p.kp b4p .nil pass0 (pa_cons (pv 6) (pa_cons (pe_tup (pa_cons (pe_ix ix_tup (pe_ix ix_list (pv 7) (pe_un un_neg pe_int) (fun _ _ => rfl)) pe_int (fun _ _ => rfl))
          (pa_cons (pe_callB call_len_seq (by rfl) T.f_len PySem.boot_len (pa_cons (pv 7) pa_nil)) (pa_cons (pe_op op_add_str pe_str (pe_callTy call_str_int (by rfl) T.f_str (by decide +kernel) (pa_cons (pv 8) pa_nil))) pa_nil)))) pa_nil)))))))))), ?_⟩
      obtain ⟨kvs, ek, hkf⟩ := hL.dk
      obtain ⟨ey, xs, ex, pr⟩ := hkf t hd
      have hrv := hO.rv_le
      have hn40 : rv f rs ≤ 40 := hrv.2
      have hfn : f ≤ rv f rs := hrv.1
      have hnr : rv f rs ≤ rv f rs := Nat.le_refl _
      have rn : rs[rv f rs - f]? = some r := by
        rw [← hlast, List.getLast?_eq_getElem?]
        congr 1
        have := hO.pos
        unfold rv
        omega
      have mem2 : ((t, "v", u) : T3) ∈ r.2 → ((t, "v", u) : T3) ∈ r.2 := id
      have mem1 : ((t, "v", u) : T3) ∈ r.2 → ((t, "v", u) : T3) ∈ r.2 := id
      refine ⟨_, rfl, _, rfl, _, rfl, _, rfl, q, p, cq, ls, Vs, n, D, c, f, rs, r, t, "v", u, rfl, hC, hP, hO, ht, hQ, hlast, hle, fun H1 told k1 htold => ?_⟩
      have ex1 := k1.lst0 ex
      refine ⟨_, rfl, _, rfl, vd, .ref (ms t), rfl, by rw [← ey]; exact DGet.k (k := .inr t) (k1.dK0 ek), ?_⟩
      refine ⟨_, rfl, ms t, xs, rfl, .inl (SqL.of ex1), rfl, _, rfl, ?_⟩
      have hl : xs.length = (Vs t).length := pr.length
      by_cases hz : Vs t = []
      · have h0 : xs.length = 0 := by rw [hl, hz]; rfl
        refine iteY (decide_eq_true (by rw [h0]; rfl)) ?_
        have ht0 : told = .str "no content" := by
          rw [hz] at htold
          exact htold
        subst ht0
        refine ⟨_, rfl, rfl, ?_⟩
        rw [decide_eq_true rfl]
        exact k H1 k1
      · have h0 : xs.length ≠ 0 := by
          rw [hl]
          exact fun z => hz (List.length_eq_zero_iff.mp z)
        refine iteN (decide_eq_false fun z => h0 (by have := V.int.inj z; omega)) ?_
        obtain ⟨v, x, hv, ⟨a, rfl, ea⟩, hlx⟩ := last_pair pr hz
        unfold rdOf at htold
        rw [hlx] at htold
        dsimp only at htold
        refine ⟨_, rfl, p, c.1, _, rfl, (hP.kp0 k1).ob, rfl, p, D, c, f, rs, rfl, hP.kp0 k1, hO, fun H2 k2 => ?_⟩
        have k12 := k1.trans k2
        refine ⟨_, rfl, _, rfl, ms t, xs, -1, .ref a, rfl, rfl, SqL.of (k12.lst0 ex), hv, a, _, 1, _, rfl, rfl, SqT.of (k12.tup0 ea), rfl, _, _, rfl, rfl, _, rfl, ?_⟩
        by_cases hb : (rv f rs) < x.2
        · refine iteY (decide_eq_true (by omega)) ?_
          rw [if_pos hb] at htold
          have ht0 : told = .str "replica is behind" := htold
          subst ht0
          refine ⟨_, rfl, rfl, ?_⟩
          rw [decide_eq_true rfl]
          exact k H2 k12
        · refine iteN (decide_eq_false (by omega)) ?_
          rw [if_neg hb] at htold
          refine ⟨_, rfl, p, c.1, _, rfl, (hP.kp0 k12).ob, rfl, p, D, c, f, rs, rfl, hP.kp0 k12, hO, fun H3 k3 => ?_⟩
          have k13 := k12.trans k3
          refine ⟨_, rfl, _, rfl, by show 3 ≤ sizeLine; decide, fun t3 ht3 => ?_⟩
          have k4 : Kp Nil H3 (upd H3 t3 (.tup [.str t, .str "v", .str u])) := Kp.new ht3
          have e3 : (upd H3 t3 (.tup [.str t, .str "v", .str u])) t3 = some (.tup [.str t, .str "v", .str u]) := upd_same
          generalize hH4 : upd H3 t3 (.tup [.str t, .str "v", .str u]) = H4 at k4 e3
          have k14 := k13.trans k4
          have P4 := hP.kp0 k14
          refine ⟨_, rfl, p, c.1, _, rfl, P4.ob, rfl, _, rfl, _, rfl, log_le hn40, _, _, rfl, rfl, main_len hn40, ?_⟩
          refine ⟨p, D, c, f, rs, tok (rv f rs), (rv f rs), r, by rw [← main_tok hn40]; rfl, P4, hO, .inr ⟨rfl, hfn, hnr⟩, rn, ht.kp k14, fun H5 l5 k5 _ hT => ?_⟩
          have k15 := k14.trans k5
          obtain ⟨vs, ev, prT⟩ := hT
          refine ⟨l5, vs, r.2.map l3, l3 (t, "v", u), ⟨t3, rfl, k5.tup0 e3⟩, rfl, .inl (SqL.of ev), tris_part prT, _, rfl, ?_⟩
          rw [if_pos rfl, mem_l3]
          by_cases hg : ((t, "v", u) : T3) ∈ r.2
          · rw [decide_eq_true hg]
            rw [if_pos (show decide (((t, "v", u) : T3) ∈ r.2) = true from decide_eq_true (mem2 hg))] at htold
            obtain ⟨b, rfl, eb⟩ := htold
            refine iteF ⟨_, rfl, _, rfl, _, rfl, ms t, xs, -1, .ref a, rfl, rfl, SqL.of (k15.lst0 ex), hv, a, _, 0, _, rfl, rfl, SqT.of (k15.tup0 ea), rfl, _, rfl, ms t, xs, rfl, .inl (SqL.of (k15.lst0 ex)), _, rfl, _, rfl, log_le hn40, _, _, rfl, rfl, main_len hn40, by show 3 ≤ sizeLine; decide, fun t6 ht6 => ?_⟩
            have k6 := Kp.new (S := Nil) (o := .tup [.str x.1, .int ((xs.length : Nat) : Int), .str (("main@" : Str) ++ Str.ofString (toString (((rv f rs) : Nat) : Int)))]) ht6
            refine ⟨b, t6, [.str x.1, .int ((xs.length : Nat) : Int), .str (tok (rv f rs))], rfl, ?_, by rw [← main_tok hn40]; exact upd_same, by show 3 ≤ 100; decide, fun y hy => ?_, fun H7 k7 => k H7 (k15.trans (k6.trans k7))⟩
            · rw [← hl] at eb
              exact (k2.trans (k3.trans (k4.trans (k5.trans k6)))).tup0 eb
            · rcases List.mem_cons.mp hy with rfl | hy
              · exact .str _
              · rcases List.mem_cons.mp hy with rfl | hy
                · exact .int _
                · rw [List.mem_singleton.mp hy]
                  exact .str _
          · rw [decide_eq_false hg]
            rw [if_neg (show ¬ decide (((t, "v", u) : T3) ∈ r.2) = true from fun z => hg (mem1 (of_decide_eq_true z)))] at htold
            have ht0 : told = .non := htold
            subst ht0
            refine iteT ⟨_, rfl, rfl, ?_⟩
            rw [decide_eq_true rfl]
            exact k H5 k15
    · obtain ⟨q, p, cq, ls, Vs, n, D, c, rs, z, cz, nz, ts, B, t, u, vd, ms, rfl, hC, hP, hO, hR, hRO, ht, hle, hL, hd, k⟩ := h
      have nd := sc_is_read.nd
      refine ⟨_, pss_cons (ps_set (i := 6) nd rfl (.inl rfl) (pe_call F1r hr rfl T.g__law_read csr.kp b1r .nil pass0 (pa_cons (pv 0) (pa_cons (pv 2) (pa_cons (pv 4) (pa_cons pe_str (pa_cons (pv 5) pa_nil)))))))
        (pss_cons (ps_set (i := 7) nd rfl (.inl rfl) (pe_dget hr.u1 (pv 3) (pv 4) (fun _ _ => rfl)))
        (pss_cons (ps_if (pt_cmpR op_eq (pe_callB call_len_seq (by rfl) T.f_len PySem.boot_len (pa_cons (pv 7) pa_nil)) pe_int (nomark _)) (pss_one (ps_ret (pe_cmpR op_eq (pv 6) pe_str (nomark _)))) pss_nil)
        (pss_cons (ps_if (pt_cmpR op_lt (pe_meth0 (pv 2) T.c_Replica T.m_Replica_revision F2r (hr.mono (by decide)) b2r .nil pass0) (pe_ix ix_tup (pe_ix ix_list (pv 7) (pe_un un_neg pe_int) (fun _ _ => rfl)) pe_int (fun _ _ => rfl)) (nomark _)) (pss_one (ps_ret (pe_cmpR op_eq (pv 6) pe_str (nomark _)))) pss_nil)
        (pss_cons (ps_set (i := 8) nd rfl (.inl rfl) (pe_meth0 (pv 2) T.c_Replica T.m_Replica_revision F2r (hr.mono (by decide)) b2r .nil pass0))
        (pss_cons (ps_if (pt_cmpR (op_notInP hr.units) (pe_tup (pa_cons (pv 4) (pa_cons pe_str (pa_cons (pv 5) pa_nil))))
            (pe_meth (pv 1) T.c_Primary T.m_Primary_grants F3r (hr.mono (by decide)) b3r .nil pass0 (pa_cons (pe_op op_add_str pe_str (pe_callTy call_str_int (by rfl) T.f_str (by decide +kernel) (pa_cons (pv 8) pa_nil))) pa_nil)) rfl) (pss_one (ps_ret (pe_cmpR op_isN (pv 6) pe_non (nomark _)))) pss_nil)
        (pss_one (ps_ret (pe_call F4r (hr.mono (by decide)) rfl T.g__law_same cs4r.kp b4r .nil pass0 (pa_cons (pv 6) (pa_cons (pe_tup (pa_cons (pe_ix ix_tup (pe_ix ix_list (pv 7) (pe_un un_neg pe_int) (fun _ _ => rfl)) pe_int (fun _ _ => rfl))
          (pa_cons (pe_callB call_len_seq (by rfl) T.f_len PySem.boot_len (pa_cons (pv 7) pa_nil)) (pa_cons (pe_op op_add_str pe_str (pe_callTy call_str_int (by rfl) T.f_str (by decide +kernel) (pa_cons (pv 8) pa_nil))) pa_nil)))) pa_nil)))))))))), ?_⟩
      obtain ⟨kvs, ek, hkf⟩ := hL.dk
      obtain ⟨ey, xs, ex, pr⟩ := hkf t hd
      have hlt := hRO.lt
      have hle41 := hRO.le
      have hn40 : nz ≤ 40 := by omega
      have hfn : 0 ≤ nz := Nat.zero_le _
      have hnr : nz ≤ rv 0 rs := by unfold rv; omega
      obtain ⟨r, rn0⟩ : ∃ r, rs[nz]? = some r := ⟨rs[nz], List.getElem?_eq_getElem hlt⟩
      have rn : rs[nz - 0]? = some r := rn0
      have etab : tabN rs nz = r.2 := by unfold tabN; rw [rn0]
      have mem2 : ((t, "v", u) : T3) ∈ r.2 → ((t, "v", u) : T3) ∈ ts := fun h => (hRO.same.mem _).mpr (by rw [etab]; exact h)
      have mem1 : ((t, "v", u) : T3) ∈ ts → ((t, "v", u) : T3) ∈ r.2 := fun h => by
        have := (hRO.same.mem _).mp h
        rw [etab] at this
        exact this
      obtain ⟨tb, eR, _⟩ := hR.ob
      refine ⟨_, rfl, _, rfl, _, rfl, _, rfl, q, p, cq, ls, Vs, n, D, c, 0, rs, z, D, cz, nz, ts, B, rs, t, "v", u, rfl, hC, hP, hR, ht, hn40, hle, fun H1 told k1 htold => ?_⟩
      have ex1 := k1.lst0 ex
      refine ⟨_, rfl, _, rfl, vd, .ref (ms t), rfl, by rw [← ey]; exact DGet.k (k := .inr t) (k1.dK0 ek), ?_⟩
      refine ⟨_, rfl, ms t, xs, rfl, .inl (SqL.of ex1), rfl, _, rfl, ?_⟩
      have hl : xs.length = (Vs t).length := pr.length
      by_cases hz : Vs t = []
      · have h0 : xs.length = 0 := by rw [hl, hz]; rfl
        refine iteY (decide_eq_true (by rw [h0]; rfl)) ?_
        have ht0 : told = .str "no content" := by
          rw [hz] at htold
          exact htold
        subst ht0
        refine ⟨_, rfl, rfl, ?_⟩
        rw [decide_eq_true rfl]
        exact k H1 k1
      · have h0 : xs.length ≠ 0 := by
          rw [hl]
          exact fun z => hz (List.length_eq_zero_iff.mp z)
        refine iteN (decide_eq_false fun z => h0 (by have := V.int.inj z; omega)) ?_
        obtain ⟨v, x, hv, ⟨a, rfl, ea⟩, hlx⟩ := last_pair pr hz
        unfold rdOf at htold
        rw [hlx] at htold
        dsimp only at htold
        refine ⟨_, rfl, z, cz.1, _, rfl, k1.ins0 eR, rfl, z, D, cz, nz, ts, B, rs, rfl, hR.kp0 k1, fun H2 k2 => ?_⟩
        have k12 := k1.trans k2
        refine ⟨_, rfl, _, rfl, ms t, xs, -1, .ref a, rfl, rfl, SqL.of (k12.lst0 ex), hv, a, _, 1, _, rfl, rfl, SqT.of (k12.tup0 ea), rfl, _, _, rfl, rfl, _, rfl, ?_⟩
        by_cases hb : nz < x.2
        · refine iteY (decide_eq_true (by omega)) ?_
          rw [if_pos hb] at htold
          have ht0 : told = .str "replica is behind" := htold
          subst ht0
          refine ⟨_, rfl, rfl, ?_⟩
          rw [decide_eq_true rfl]
          exact k H2 k12
        · refine iteN (decide_eq_false (by omega)) ?_
          rw [if_neg hb] at htold
          refine ⟨_, rfl, z, cz.1, _, rfl, k12.ins0 eR, rfl, z, D, cz, nz, ts, B, rs, rfl, hR.kp0 k12, fun H3 k3 => ?_⟩
          have k13 := k12.trans k3
          refine ⟨_, rfl, _, rfl, by show 3 ≤ sizeLine; decide, fun t3 ht3 => ?_⟩
          have k4 : Kp Nil H3 (upd H3 t3 (.tup [.str t, .str "v", .str u])) := Kp.new ht3
          have e3 : (upd H3 t3 (.tup [.str t, .str "v", .str u])) t3 = some (.tup [.str t, .str "v", .str u]) := upd_same
          generalize hH4 : upd H3 t3 (.tup [.str t, .str "v", .str u]) = H4 at k4 e3
          have k14 := k13.trans k4
          have P4 := hP.kp0 k14
          refine ⟨_, rfl, p, c.1, _, rfl, P4.ob, rfl, _, rfl, _, rfl, log_le hn40, _, _, rfl, rfl, main_len hn40, ?_⟩
          refine ⟨p, D, c, 0, rs, tok nz, nz, r, by rw [← main_tok hn40]; rfl, P4, hO, .inr ⟨rfl, hfn, hnr⟩, rn, ht.kp k14, fun H5 l5 k5 _ hT => ?_⟩
          have k15 := k14.trans k5
          obtain ⟨vs, ev, prT⟩ := hT
          refine ⟨l5, vs, r.2.map l3, l3 (t, "v", u), ⟨t3, rfl, k5.tup0 e3⟩, rfl, .inl (SqL.of ev), tris_part prT, _, rfl, ?_⟩
          rw [if_pos rfl, mem_l3]
          by_cases hg : ((t, "v", u) : T3) ∈ r.2
          · rw [decide_eq_true hg]
            rw [if_pos (show decide (((t, "v", u) : T3) ∈ ts) = true from decide_eq_true (mem2 hg))] at htold
            obtain ⟨b, rfl, eb⟩ := htold
            refine iteF ⟨_, rfl, _, rfl, _, rfl, ms t, xs, -1, .ref a, rfl, rfl, SqL.of (k15.lst0 ex), hv, a, _, 0, _, rfl, rfl, SqT.of (k15.tup0 ea), rfl, _, rfl, ms t, xs, rfl, .inl (SqL.of (k15.lst0 ex)), _, rfl, _, rfl, log_le hn40, _, _, rfl, rfl, main_len hn40, by show 3 ≤ sizeLine; decide, fun t6 ht6 => ?_⟩
            have k6 := Kp.new (S := Nil) (o := .tup [.str x.1, .int ((xs.length : Nat) : Int), .str (("main@" : Str) ++ Str.ofString (toString ((nz : Nat) : Int)))]) ht6
            refine ⟨b, t6, [.str x.1, .int ((xs.length : Nat) : Int), .str (tok nz)], rfl, ?_, by rw [← main_tok hn40]; exact upd_same, by show 3 ≤ 100; decide, fun y hy => ?_, fun H7 k7 => k H7 (k15.trans (k6.trans k7))⟩
            · rw [← hl] at eb
              exact (k2.trans (k3.trans (k4.trans (k5.trans k6)))).tup0 eb
            · rcases List.mem_cons.mp hy with rfl | hy
              · exact .str _
              · rcases List.mem_cons.mp hy with rfl | hy
                · exact .int _
                · rw [List.mem_singleton.mp hy]
                  exact .str _
          · rw [decide_eq_false hg]
            rw [if_neg (show ¬ decide (((t, "v", u) : T3) ∈ ts) = true from fun z => hg (mem1 (of_decide_eq_true z)))] at htold
            have ht0 : told = .non := htold
            subst ht0
            refine iteT ⟨_, rfl, rfl, ?_⟩
            rw [decide_eq_true rfl]
            exact k H5 k15
end
end Au
/-! Authsync: the law's state. -/
namespace Au
open PySem PySem.Spec PyProof.Rows L2
/-- what may be changed -/
inductive Sl where
  | p | c | q | d
  | z (b : Bool)
  | e (b : Bool)
  | m (t : Str)
  | l (t : Str)
structure Dat where
  p : Addr
  c : Addr × Addr
  q : Addr
  cq : Addr × Addr
  z : Bool → Addr
  cz : Bool → Addr × Addr
  rl : Addr
  vd : Addr
  ms : Str → Addr
  ls : Str → Addr
  Vs : Vers
  n : Nat
  rs : List Rev
  nz : Bool → Nat
  ts : Bool → List T3
  B : Nat
def Dat.ad (d : Dat) : Sl → Addr
  | .p => d.p
  | .c => d.c.2
  | .q => d.q
  | .d => d.cq.2
  | .z b => d.z b
  | .e b => (d.cz b).2
  | .m t => d.ms t
  | .l t => d.ls t
def Dat.live (d : Dat) : Sl → Prop
  | .m t => IsDoc t
  | .l t => d.Vs t ≠ []
  | _ => True
/-- what is never changed -/
def Dat.D (d : Dat) : Addr → Prop := fun b => ∀ i, d.live i → d.ad i ≠ b
theorem Dat.nD (d : Dat) (i : Sl) (h : d.live i) : ¬ d.D (d.ad i) := fun z => z i h rfl
structure Good (K : PySem.W.Frag) (H0 H : Hp) (d : Dat) : Prop where
  pr : PrimAt K d.D H d.p d.c 0 d.rs
  po : PrimOk 0 d.rs
  ct : ContAt K H d.q d.p d.cq d.ls d.Vs d.n
  rp : ∀ b, RepAt K d.D H (d.z b) (d.cz b) (d.nz b) (d.ts b) d.B d.rs
  ro : ∀ b, RepOk (d.nz b) (d.ts b) d.rs
  lv : LVAt H d.vd d.ms d.Vs
  rl : H d.rl = some (.lst [.ref (d.z false), .ref (d.z true)])
  nn : d.n = (d.Vs "d:p").length + (d.Vs "d:q").length
  le : d.n ≤ 30
  bd : ∀ t, ∀ x ∈ d.Vs t, x.2 ≤ rv 0 d.rs
  tb : Tabs K H
  inj : ∀ i j, d.live i → d.live j → d.ad i = d.ad j → i = j
  al : ∀ i, d.live i → H (d.ad i) ≠ none
  dv : d.D d.vd
  dr : d.D d.rl
  k0 : Kp Nil H0 H
  n0 : ∀ i, d.live i → H0 (d.ad i) = none
/-- the names' addresses -/
structure Dat.Fix (d d' : Dat) : Prop where
  p : d'.p = d.p
  q : d'.q = d.q
  vd : d'.vd = d.vd
  rl : d'.rl = d.rl
theorem Dat.Fix.refl (d : Dat) : d.Fix d := ⟨rfl, rfl, rfl, rfl⟩
theorem Dat.Fix.trans {a b c : Dat} (h : a.Fix b) (h' : b.Fix c) : a.Fix c := ⟨h'.p.trans h.p, h'.q.trans h.q, h'.vd.trans h.vd, h'.rl.trans h.rl⟩
theorem Good.new {K : PySem.W.Frag} {H0 H : Hp} {d : Dat} (g : Good K H0 H d) {b : Addr} (h : H b = none) : d.D b := fun i hi e => g.al i hi (by rw [e]; exact h)
/-- a slot that is not among those in S -/
theorem Good.out {K : PySem.W.Frag} {H0 H : Hp} {d : Dat} (g : Good K H0 H d) {J : Sl → Prop} {S : Addr → Prop} (hS : ∀ b, S b → ∃ j, J j ∧ d.live j ∧ d.ad j = b) (i : Sl) (hi : d.live i) (h : ¬ J i) : ¬ S (d.ad i) := fun z => by
  obtain ⟨j, hj, hl, e⟩ := hS _ z
  exact h (by rw [g.inj i j hi hl e.symm]; exact hj)
theorem Good.keep {K : PySem.W.Frag} {H0 H : Hp} {d : Dat} (g : Good K H0 H d) {J : Sl → Prop} {S : Addr → Prop} (hS : ∀ b, S b → ∃ j, J j ∧ d.live j ∧ d.ad j = b) : ∀ b, S b → ¬ d.D b := fun b hb => by
  obtain ⟨j, _, hl, e⟩ := hS b hb
  rw [← e]
  exact d.nD j hl
theorem Good.kp0 {K : PySem.W.Frag} {H0 H H' : Hp} {d : Dat} (k : Kp Nil H H') (g : Good K H0 H d) : Good K H0 H' d :=
  { pr := g.pr.kp0 k, po := g.po, ct := g.ct.kp0 k, rp := fun b => (g.rp b).kp0 k, ro := g.ro, lv := g.lv.kp0 k, rl := k.lst0 g.rl, nn := g.nn, le := g.le, bd := g.bd, tb := g.tb.kp k, inj := g.inj, al := fun i hi z => g.al i hi (k.fr _ z), dv := g.dv, dr := g.dr, k0 := g.k0.trans k, n0 := g.n0 }
/-! ### D may shrink by what is not there yet -/
theorem TriL.there {H : Hp} {l : Addr} {ts : List T3} (h : TriL H l ts) : H l ≠ none := by
  obtain ⟨vs, e, _⟩ := h
  rw [e]
  intro z
  cases z
theorem RevAt.to {K : PySem.W.Frag} {D D' : Addr → Prop} {H : Hp} (n : ∀ b, D b → H b ≠ none → D' b) {v : V} {r : Rev} (h : RevAt K D H v r) : RevAt K D' H v r := by
  obtain ⟨x, dx, sc, rl, tb, rfl, d1, d2, d3, e, hs, h1, h2⟩ := h
  exact ⟨x, dx, sc, rl, tb, rfl, n _ d1 (by rw [e]; intro z; cases z), n _ d2 h1.there, n _ d3 h2.there, e, hs, h1, h2⟩
theorem PrimAt.to {K : PySem.W.Frag} {D D' : Addr → Prop} {H : Hp} (n : ∀ b, D b → H b ≠ none → D' b) {p : Addr} {c : Addr × Addr} {f : Nat} {rs : List Rev} (h : PrimAt K D H p c f rs) : PrimAt K D' H p c f rs := by
  obtain ⟨xs, e, pr⟩ := h.ls
  exact ⟨h.ob, xs, e, Paired.mapP pr fun _ _ z => z.to n⟩
theorem ChgD.to {D D' : Addr → Prop} {H : Hp} (n : ∀ b, D b → H b ≠ none → D' b) {v : V} {c : Chn} (h : ChgD D H v c) : ChgD D' H v c := by
  obtain ⟨a, g, l, rfl, d1, d2, e, h1, h2⟩ := h
  exact ⟨a, g, l, rfl, n _ d1 h1.there, n _ d2 h2.there, e, h1, h2⟩
theorem RepAt.to {K : PySem.W.Frag} {D D' : Addr → Prop} {H : Hp} (n : ∀ b, D b → H b ≠ none → D' b) {q : Addr} {c : Addr × Addr} {m B : Nat} {ts : List T3} {rs : List Rev} (h : RepAt K D H q c m ts B rs) : RepAt K D' H q c m ts B rs := by
  obtain ⟨tb, e, d, ht⟩ := h.ob
  obtain ⟨kvs, ek, hl, f⟩ := h.lt
  refine ⟨⟨tb, e, n _ d ht.there, ht⟩, kvs, ek, hl, fun key v hv => ?_⟩
  obtain ⟨j, a, b, c, g⟩ := f key v hv
  exact ⟨j, a, b, c, g.to n⟩
theorem RepAt.up {K : PySem.W.Frag} {D : Addr → Prop} {H : Hp} {q : Addr} {c : Addr × Addr} {m B B' : Nat} {ts : List T3} {rs : List Rev} (l : B ≤ B') (h : RepAt K D H q c m ts B rs) : RepAt K D H q c m ts B' rs := by
  obtain ⟨kvs, ek, hl, f⟩ := h.lt
  exact ⟨h.ob, kvs, ek, Nat.le_trans hl l, f⟩
theorem RepOk.grow {n : Nat} {ts : List T3} {rs : List Rev} {r : Rev} (h : RepOk n ts rs) (hr : RevOk r) (l : (rs ++ [r]).length ≤ 41) : RepOk n ts (rs ++ [r]) where
  lt := by rw [List.length_append]; exact Nat.lt_add_right _ h.lt
  same := by rw [tabN_app h.lt]; exact h.same
  ok := fun y hy => by
    rcases List.mem_append.mp hy with hy | hy
    · exact h.ok y hy
    · rw [List.mem_singleton.mp hy]; exact hr
  le := l
/-! ### the steps -/
/-- a further revision -/
theorem Good.write {K : PySem.W.Frag} {H0 H H' : Hp} {d : Dat} {r : Rev} (g : Good K H0 H d) (k : Kp (Only d.c.2) H H') (hp : PrimAt K d.D H' d.p d.c 0 (d.rs ++ [r])) (ho : PrimOk 0 (d.rs ++ [r])) : Good K H0 H' { d with rs := d.rs ++ [r] } := by
  obtain ⟨xs, ec, _⟩ := g.pr.ls
  have tf : TupFree (Only d.c.2) H := lst_free ec
  have hS : ∀ b, Only d.c.2 b → ∃ j, (j = Sl.c) ∧ d.live j ∧ d.ad j = b := fun b (hb : b = d.c.2) => ⟨.c, rfl, trivial, hb.symm⟩
  have o := g.out hS
  have nD := g.keep hS
  have hl : 0 + (d.rs ++ [r]).length ≤ 41 := ho.le
  rw [Nat.zero_add] at hl
  have hr : RevOk r := ho.ok r (List.mem_append_right _ (List.mem_singleton_self _))
  exact
    { pr := hp, po := ho,
      ct := g.ct.kp k tf (o .q trivial (by intro z; cases z)) (o .d trivial (by intro z; cases z)) (fun t ht => o (.l t) ht (by intro z; cases z)),
      rp := fun b => ((g.rp b).kp k tf nD (o (.z b) trivial (by intro z; cases z)) (o (.e b) trivial (by intro z; cases z))).grow,
      ro := fun b => (g.ro b).grow hr hl,
      lv := g.lv.kp k tf (fun z => nD _ z g.dv) (fun t ht => o (.m t) ht (by intro z; cases z)),
      rl := k.old _ _ g.rl (fun z => nD _ z g.dr) nt_lst,
      nn := g.nn, le := g.le,
      bd := fun t x hx => by
        have h1 := g.bd t x hx
        have h2 := g.po.pos
        show x.2 ≤ 0 + (d.rs ++ [r]).length - 1
        rw [List.length_append]
        unfold rv at h1
        show x.2 ≤ 0 + (d.rs.length + 1) - 1
        omega,
      tb := g.tb.kp k, inj := g.inj, al := fun i hi z => g.al i hi (k.fr _ z), dv := g.dv, dr := g.dr,
      k0 := g.k0.less k fun b (hb : b = d.c.2) => .inr (by rw [hb]; exact g.n0 .c trivial), n0 := g.n0 }
def setB {α : Type} (f : Bool → α) (b : Bool) (x : α) : Bool → α := fun u => if u = b then x else f u
theorem setB_same {α : Type} {f : Bool → α} {b : Bool} {x : α} : setB f b x b = x := if_pos rfl
theorem setB_ne {α : Type} {f : Bool → α} {b u : Bool} {x : α} (h : u ≠ b) : setB f b x u = f u := if_neg h
/-- a replica has received an entry -/
theorem Good.receive {K : PySem.W.Frag} {H0 H H' : Hp} {d : Dat} {b : Bool} {n' : Nat} {ts' : List T3} (g : Good K H0 H d) (k : Kp (RpS (d.z b) (d.cz b)) H H') (hp : RepAt K d.D H' (d.z b) (d.cz b) n' ts' (d.B + 1) d.rs) (ho : RepOk n' ts' d.rs) :
    Good K H0 H' { d with nz := setB d.nz b n', ts := setB d.ts b ts', B := d.B + 1 } := by
  obtain ⟨tb, ez, _⟩ := (g.rp b).ob
  obtain ⟨kvs, ek, _⟩ := (g.rp b).lt
  have tf : TupFree (RpS (d.z b) (d.cz b)) H := fun a xs z hb => by
    rcases hb with hb | hb
    · rw [hb, ez] at z; cases z
    · rw [hb, ek] at z; cases z
  have hS : ∀ a, RpS (d.z b) (d.cz b) a → ∃ j, (j = Sl.z b ∨ j = Sl.e b) ∧ d.live j ∧ d.ad j = a := fun a ha => by
    rcases ha with ha | ha
    · exact ⟨.z b, .inl rfl, trivial, ha.symm⟩
    · exact ⟨.e b, .inr rfl, trivial, ha.symm⟩
  have o := g.out hS
  have nD := g.keep hS
  exact
    { pr := g.pr.kp k tf nD (o .p trivial (by rintro (z | z) <;> cases z)) (o .c trivial (by rintro (z | z) <;> cases z)), po := g.po,
      ct := g.ct.kp k tf (o .q trivial (by rintro (z | z) <;> cases z)) (o .d trivial (by rintro (z | z) <;> cases z)) (fun t ht => o (.l t) ht (by rintro (z | z) <;> cases z)),
      rp := fun u => by
        show RepAt K d.D H' (d.z u) (d.cz u) (setB d.nz b n' u) (setB d.ts b ts' u) (d.B + 1) d.rs
        by_cases hu : u = b
        · subst hu
          rw [setB_same, setB_same]
          exact hp
        · rw [setB_ne hu, setB_ne hu]
          exact ((g.rp u).kp k tf nD (o (.z u) trivial (by rintro (z | z) <;> cases z; exact hu rfl)) (o (.e u) trivial (by rintro (z | z) <;> cases z; exact hu rfl))).up (Nat.le_succ _),
      ro := fun u => by
        show RepOk (setB d.nz b n' u) (setB d.ts b ts' u) d.rs
        by_cases hu : u = b
        · subst hu
          rw [setB_same, setB_same]
          exact ho
        · rw [setB_ne hu, setB_ne hu]
          exact g.ro u,
      lv := g.lv.kp k tf (fun z => nD _ z g.dv) (fun t ht => o (.m t) ht (by rintro (z | z) <;> cases z)),
      rl := k.old _ _ g.rl (fun z => nD _ z g.dr) nt_lst,
      nn := g.nn, le := g.le, bd := g.bd,
      tb := g.tb.kp k, inj := g.inj, al := fun i hi z => g.al i hi (k.fr _ z), dv := g.dv, dr := g.dr,
      k0 := g.k0.less k fun a ha => by
        obtain ⟨j, _, hl, e⟩ := hS a ha
        exact .inr (by rw [← e]; exact g.n0 j hl), n0 := g.n0 }
end Au
/-! Authsync: _law_is_put. -/
namespace Au
open PySem PySem.Spec PyProof.Rows L2
/-- a text is stored -/
def Dat.put (d : Dat) (ls' : Str → Addr) (t x : Str) : Dat := { d with ls := ls', Vs := addV d.Vs t (x, rv 0 d.rs), n := d.n + 1 }
theorem doc_pq : (("d:q" : Str) = "d:p") = False := by
  apply eq_false
  decide +kernel
theorem addV_len {Vs : Vers} {t : Str} {x : VT} (h : IsDoc t) : (addV Vs t x "d:p").length + (addV Vs t x "d:q").length = (Vs "d:p").length + (Vs "d:q").length + 1 := by
  rcases h with rfl | rfl
  · rw [addV_same, addV_ne (show ("d:q" : Str) ≠ "d:p" from fun z => doc_pq.mp z), List.length_append]
    show (Vs "d:p").length + 1 + (Vs "d:q").length = _
    omega
  · rw [addV_same, addV_ne (show ("d:p" : Str) ≠ "d:q" from fun z => doc_pq.mp z.symm), List.length_append]
    show (Vs "d:p").length + ((Vs "d:q").length + 1) = _
    omega
/-- between the store and the law's own list -/
structure Mid (K : PySem.W.Frag) (H0 H : Hp) (d : Dat) (ls' : Str → Addr) (t x : Str) : Prop where
  pr : PrimAt K (d.put ls' t x).D H d.p d.c 0 d.rs
  ct : ContAt K H d.q d.p d.cq ls' (addV d.Vs t (x, rv 0 d.rs)) (d.n + 1)
  rp : ∀ b, RepAt K (d.put ls' t x).D H (d.z b) (d.cz b) (d.nz b) (d.ts b) d.B d.rs
  lv : LVAt H d.vd d.ms d.Vs
  rl : H d.rl = some (.lst [.ref (d.z false), .ref (d.z true)])
  tb : Tabs K H
  inj : ∀ i j, (d.put ls' t x).live i → (d.put ls' t x).live j → (d.put ls' t x).ad i = (d.put ls' t x).ad j → i = j
  al : ∀ i, (d.put ls' t x).live i → H ((d.put ls' t x).ad i) ≠ none
  dv : (d.put ls' t x).D d.vd
  dr : (d.put ls' t x).D d.rl
  k0 : Kp Nil H0 H
  n0 : ∀ i, (d.put ls' t x).live i → H0 ((d.put ls' t x).ad i) = none
theorem Good.mid {K : PySem.W.Frag} {H0 H H1 : Hp} {d : Dat} {ls' : Str → Addr} {t x : Str} (g : Good K H0 H d) (k : Kp (PutS d.q d.cq d.ls d.Vs t) H H1) (h1 : d.Vs t = [] → H (ls' t) = none) (h2 : d.Vs t ≠ [] → ls' t = d.ls t) (h3 : ∀ u, u ≠ t → ls' u = d.ls u)
    (hC : ContAt K H1 d.q d.p d.cq ls' (addV d.Vs t (x, rv 0 d.rs)) (d.n + 1)) : Mid K H0 H1 d ls' t x := by
  have old : ∀ i, (d.put ls' t x).live i → (d.live i ∧ (d.put ls' t x).ad i = d.ad i) ∨ (i = .l t ∧ d.Vs t = [] ∧ H ((d.put ls' t x).ad i) = none) := fun i hi => by
    cases i with
    | l u =>
      by_cases hu : u = t
      · subst hu
        by_cases hz : d.Vs u = []
        · exact .inr ⟨rfl, hz, h1 hz⟩
        · exact .inl ⟨hz, h2 hz⟩
      · have hi' : addV d.Vs t (x, rv 0 d.rs) u ≠ [] := hi
        rw [addV_ne hu] at hi'
        exact .inl ⟨hi', h3 u hu⟩
    | m u => exact .inl ⟨hi, rfl⟩
    | p => exact .inl ⟨hi, rfl⟩
    | c => exact .inl ⟨hi, rfl⟩
    | q => exact .inl ⟨hi, rfl⟩
    | d => exact .inl ⟨hi, rfl⟩
    | z b => exact .inl ⟨hi, rfl⟩
    | e b => exact .inl ⟨hi, rfl⟩
  have toD : ∀ b, d.D b → H b ≠ none → (d.put ls' t x).D b := fun b hb hn i hi e => by
    rcases old i hi with ⟨a, c⟩ | ⟨_, _, c⟩
    · exact hb i a (by rw [← c]; exact e)
    · rw [e] at c
      exact hn c
  have fromD : ∀ b, (d.put ls' t x).D b → d.D b := fun b hb i hi e => by
    cases i with
    | l u =>
      by_cases hu : u = t
      · subst hu
        exact hb (.l u) (by show addV d.Vs u _ u ≠ []; rw [addV_same]; simp) (by show ls' u = b; rw [h2 hi]; exact e)
      · exact hb (.l u) (by show addV d.Vs t _ u ≠ []; rw [addV_ne hu]; exact hi) (by show ls' u = b; rw [h3 u hu]; exact e)
    | m u => exact hb (.m u) hi e
    | p => exact hb .p hi e
    | c => exact hb .c hi e
    | q => exact hb .q hi e
    | d => exact hb .d hi e
    | z b => exact hb (.z b) hi e
    | e b => exact hb (.e b) hi e
  have hS : ∀ b, PutS d.q d.cq d.ls d.Vs t b → ∃ j, (j = Sl.q ∨ j = Sl.d ∨ j = Sl.l t) ∧ d.live j ∧ d.ad j = b := fun b hb => by
    rcases hb with hb | hb | ⟨hz, hb⟩
    · exact ⟨.q, .inl rfl, trivial, hb.symm⟩
    · exact ⟨.d, .inr (.inl rfl), trivial, hb.symm⟩
    · exact ⟨.l t, .inr (.inr rfl), hz, hb.symm⟩
  have o := g.out hS
  have nD := g.keep hS
  have nD' : ∀ b, PutS d.q d.cq d.ls d.Vs t b → ¬ (d.put ls' t x).D b := fun b hb z => nD b hb (fromD b z)
  obtain ⟨kvs, ek, _, hkf⟩ := g.ct.dt
  have tf : TupFree (PutS d.q d.cq d.ls d.Vs t) H := fun a xs z ha => by
    rcases ha with ha | ha | ⟨hz, ha⟩
    · rw [ha, g.ct.ob] at z; cases z
    · rw [ha, ek] at z; cases z
    · rcases hkf t with ⟨hz', _⟩ | ⟨_, _, ys, ey, _⟩
      · exact hz hz'
      · rw [ha, ey] at z; cases z
  have n3 : ∀ {i : Sl}, (i = .q ∨ i = .d ∨ i = .l t → False) → ¬ (i = .q ∨ i = .d ∨ i = .l t) := fun h => h
  exact
    { pr := (g.pr.to toD).kp k tf nD' (o .p trivial (by rintro (z | z | z) <;> cases z)) (o .c trivial (by rintro (z | z | z) <;> cases z)),
      ct := hC,
      rp := fun b => ((g.rp b).to toD).kp k tf nD' (o (.z b) trivial (by rintro (z | z | z) <;> cases z)) (o (.e b) trivial (by rintro (z | z | z) <;> cases z)),
      lv := g.lv.kp k tf (fun z => nD _ z g.dv) (fun u hu => o (.m u) hu (by rintro (z | z | z) <;> cases z)),
      rl := k.old _ _ g.rl (fun z => nD _ z g.dr) nt_lst,
      tb := g.tb.kp k,
      inj := fun i j hi hj e => by
        rcases old i hi with ⟨a, c⟩ | ⟨a, _, c⟩
        · rcases old j hj with ⟨a', c'⟩ | ⟨a', _, c'⟩
          · exact g.inj i j a a' (by rw [← c, ← c']; exact e)
          · rw [← e, c] at c'
            exact absurd c' (g.al i a)
        · rcases old j hj with ⟨a', c'⟩ | ⟨a', _, c'⟩
          · rw [e, c'] at c
            exact absurd c (g.al j a')
          · rw [a, a'],
      al := fun i hi z => by
        rcases old i hi with ⟨a, c⟩ | ⟨a, hz, c⟩
        · rw [c] at z
          exact g.al i a (k.fr _ z)
        · subst a
          obtain ⟨kvs', _, _, hkf'⟩ := hC.dt
          rcases hkf' t with ⟨hz', _⟩ | ⟨_, _, ys, ey, _⟩
          · rw [addV_same] at hz'
            simp at hz'
          · have z' : H1 (ls' t) = none := z
            exact absurd (ey.symm.trans z') (by intro q; cases q),
      dv := toD _ g.dv (by
        obtain ⟨kvs', e', _⟩ := g.lv.dk
        rw [e']
        intro z
        cases z),
      dr := toD _ g.dr (by
        rw [g.rl]
        intro z
        cases z),
      k0 := g.k0.less k fun a ha => by
        obtain ⟨j, _, hl, e⟩ := hS a ha
        exact .inr (by rw [← e]; exact g.n0 j hl),
      n0 := fun i hi => by
        rcases old i hi with ⟨a, c⟩ | ⟨_, _, c⟩
        · rw [c]
          exact g.n0 i a
        · exact g.k0.fr _ c }
theorem Mid.kp0 {K : PySem.W.Frag} {H0 H H' : Hp} {d : Dat} {ls' : Str → Addr} {t x : Str} (k : Kp Nil H H') (g : Mid K H0 H d ls' t x) : Mid K H0 H' d ls' t x :=
  { pr := g.pr.kp0 k, ct := g.ct.kp0 k, rp := fun b => (g.rp b).kp0 k, lv := g.lv.kp0 k, rl := k.lst0 g.rl, tb := g.tb.kp k, inj := g.inj, al := fun i hi z => g.al i hi (k.fr _ z), dv := g.dv, dr := g.dr, k0 := g.k0.trans k, n0 := g.n0 }
theorem Mid.good {K : PySem.W.Frag} {H0 H : Hp} {d : Dat} {ls' : Str → Addr} {t x : Str} {a : Addr} {xs : List V} (g : Mid K H0 H d ls' t x) (g0 : ∃ H', Good K H0 H' d) (hd : IsDoc t) (hn : d.n < 30) (ex : H (d.ms t) = some (.lst xs)) (pr : Paired (VerF natV H) xs (d.Vs t)) (ea : H a = some (.tup [.str x, natV (rv 0 d.rs)])) :
    Good K H0 (upd H (d.ms t) (.lst (xs ++ [.ref a]))) (d.put ls' t x) := by
  obtain ⟨H', g0⟩ := g0
  have k : Kp (Only (d.ms t)) H (upd H (d.ms t) (.lst (xs ++ [.ref a]))) := Kp.put ex nt_lst rfl
  have tf : TupFree (Only (d.ms t)) H := lst_free ex
  have o : ∀ i, (d.put ls' t x).live i → i ≠ .m t → ¬ Only (d.ms t) ((d.put ls' t x).ad i) := fun i hi hne z => hne (g.inj i (.m t) hi hd z)
  have nD : ∀ b, Only (d.ms t) b → ¬ (d.put ls' t x).D b := fun b (hb : b = d.ms t) z => z (.m t) hd hb.symm
  exact
    { pr := g.pr.kp k tf nD (o .p trivial (by intro z; cases z)) (o .c trivial (by intro z; cases z)), po := g0.po,
      ct := g.ct.kp k tf (o .q trivial (by intro z; cases z)) (o .d trivial (by intro z; cases z)) (fun u hu => o (.l u) hu (by intro z; cases z)),
      rp := fun b => (g.rp b).kp k tf nD (o (.z b) trivial (by intro z; cases z)) (o (.e b) trivial (by intro z; cases z)), ro := g0.ro,
      lv := by
        obtain ⟨kvs, ek, hkf⟩ := g.lv.dk
        refine ⟨kvs, k.old _ _ ek (fun z => nD _ z g.dv) nt_dK, fun u hu => ?_⟩
        obtain ⟨e, ys, ey, pry⟩ := hkf u hu
        refine ⟨e, ?_⟩
        by_cases hut : u = t
        · subst hut
          refine ⟨_, upd_same, ?_⟩
          show Paired _ _ (addV d.Vs u (x, rv 0 d.rs) u)
          rw [addV_same]
          exact pair_append (Paired.mapP pr fun _ _ z => z.kp k tf) (.cons (VerF.kp k tf ⟨a, rfl, ea⟩) .nil)
        · refine ⟨ys, k.old _ _ ey (o (.m u) hu (fun z => hut (by cases z; rfl))) nt_lst, ?_⟩
          show Paired _ _ (addV d.Vs t (x, rv 0 d.rs) u)
          rw [addV_ne hut]
          exact Paired.mapP pry fun _ _ z => z.kp k tf,
      rl := k.old _ _ g.rl (fun z => nD _ z g.dr) nt_lst,
      nn := by
        show d.n + 1 = (addV d.Vs t (x, rv 0 d.rs) "d:p").length + (addV d.Vs t (x, rv 0 d.rs) "d:q").length
        rw [addV_len hd, g0.nn],
      le := hn,
      bd := fun u y hy => by
        have hy' : y ∈ addV d.Vs t (x, rv 0 d.rs) u := hy
        by_cases hut : u = t
        · subst hut
          rw [addV_same] at hy'
          rcases List.mem_append.mp hy' with h | h
          · exact g0.bd u y h
          · rw [List.mem_singleton.mp h]
            exact Nat.le_refl _
        · rw [addV_ne hut] at hy'
          exact g0.bd u y hy',
      tb := g.tb.kp k, inj := g.inj, al := fun i hi z => g.al i hi (k.fr _ z), dv := g.dv, dr := g.dr,
      k0 := g.k0.less k fun b (hb : b = d.ms t) => .inr (by rw [hb]; exact g.n0 (.m t) hd), n0 := g.n0 }
end Au
/-! Authsync: _law_is_put, walked. -/
namespace Au
open PySem PySem.Spec PyProof.Rows L2
def spIsPut (K : PySem.W.Frag) : Sp := fun vs H Q _ => ∃ d H0 t x, vs = [.ref d.q, .ref d.p, .ref d.vd, .str t, .str x] ∧ Good K H0 H d ∧ IsDoc t ∧ ∀ H' d', Good K H0 H' d' → d.Fix d' → d'.B = d.B → Q (.bl true) H'
section
variable {P : Program} {w : World} {K : PySem.W.Frag} {mg : Str → Option Value} {base : Heap}
abbrev N_ip : List Str := ["_law_contents", "_law_primary", "_law_versions", "_law_thing", "_law_text", "_law_told"]
abbrev P_ip : List Str := ["_law_contents", "_law_primary", "_law_versions", "_law_thing", "_law_text"]
theorem sc_is_put : FnScope N_ip P_ip (defScope s__law_is_put) := ⟨rfl, rfl, rfl, by decide +kernel, rfl, by decide +kernel, by decide +kernel⟩
theorem ok_is_put (T : Top K mg base) (Y : TopX P K) : Cal P w K mg base CX0 5 ("_law_is_put", none) P_ip (spIsPut K) := by
  obtain ⟨fd, F⟩ := T.d__law_is_put
  have cs := ok_law_put (P := P) (w := w) T Y
  obtain ⟨fd1, F1, b1⟩ := cs.ex
  have cs2 := ok_Primary_revision (P := P) (w := w) T
  obtain ⟨fd2, F2, b2⟩ := cs2.ex
  have cs4 := ok_sameT (P := P) (w := w) T
  obtain ⟨fd4, F4, b4⟩ := cs4.ex
  refine ⟨⟨fd, FunD.ok F sc_is_put (fun vs H Q E h => ?_) (fun cdv A outer s H vs Q E hr h => ?_), FunD.bindsN F fun _ _ _ _ _ _ us hl => match us, hl with | [_, _, _, _, _], _ => rfl⟩, F.kp⟩
  · obtain ⟨d, H0, t, x, rfl, _⟩ := h
    rfl
  · obtain ⟨d, H0, t, x, rfl, g, hd, k⟩ := h
    have nd := sc_is_put.nd
    refine ⟨_, pss_cons (ps_set (i := 5) nd rfl (.inl rfl) (pe_call F1 hr rfl T.g__law_put cs.kp b1 .nil pass0 (pa_cons (pv 0) (pa_cons (pv 3) (pa_cons (pv 4) pa_nil)))))
      (pss_cons (ps_if (pt_cmpR op_eq (pe_op op_add (pe_callB call_len_seq (by rfl) T.f_len PySem.boot_len (pa_cons (pe_dget hr.u1 (pv 2) pe_str (fun _ _ => rfl)) pa_nil)) (pe_callB call_len_seq (by rfl) T.f_len PySem.boot_len (pa_cons (pe_dget hr.u1 (pv 2) pe_str (fun _ _ => rfl)) pa_nil))) pe_int (nomark _))
          (pss_one (ps_ret (pe_cmpR op_eq (pv 5) pe_str (nomark _)))) pss_nil)
      (pss_cons (ps_expr (pe_bm PySem.F.plainAttrs_list PySem.F.slot_list_append PySem.F.type_list_append mt_append (pe_dget hr.u1 (pv 2) (pv 3) (fun _ _ => rfl)) (pa_cons (pe_tup (pa_cons (pv 4) (pa_cons (pe_meth0 (pv 1) T.c_Primary T.m_Primary_revision F2 (hr.mono (by decide)) b2 .nil pass0) pa_nil))) pa_nil)))
      (pss_one (ps_ret (pe_call F4 (hr.mono (by decide)) rfl T.g__law_same cs4.kp b4 .nil pass0 (pa_cons (pv 5) (pa_cons (pe_tup (pa_cons (pe_callB call_len_seq (by rfl) T.f_len PySem.boot_len (pa_cons (pe_dget hr.u1 (pv 2) (pv 3) (fun _ _ => rfl)) pa_nil))
        (pa_cons (pe_op op_add_str pe_str (pe_callTy call_str_int (by rfl) T.f_str (by decide +kernel) (pa_cons (pe_meth0 (pv 1) T.c_Primary T.m_Primary_revision F2 (hr.mono (by decide)) b2 .nil pass0) pa_nil))) pa_nil))) pa_nil))))))), ?_⟩
    have hrv := g.po.rv_le
    have hn40 : rv 0 d.rs ≤ 40 := hrv.2
    refine ⟨_, rfl, _, rfl, _, rfl, d.q, d.p, d.cq, d.ls, d.Vs, d.n, d.D, d.c, 0, d.rs, t, x, rfl, g.ct, g.pr, g.po, g.le, fun h30 H1 k1 => ?_, fun h30 H1 ls' r k1 h1 h2 h3 hC er => ?_⟩
    · have g1 := g.kp0 k1
      obtain ⟨kvs, ek, hkf⟩ := g1.lv.dk
      obtain ⟨ep, xp, exp_, prp⟩ := hkf "d:p" (.inl rfl)
      obtain ⟨eq, xq, exq, prq⟩ := hkf "d:q" (.inr rfl)
      have h1 : xp.length = (d.Vs "d:p").length := prp.length
      have h2 : xq.length = (d.Vs "d:q").length := prq.length
      have hnn := g.nn
      refine ⟨_, rfl, d.vd, .ref (d.ms "d:p"), rfl, by rw [← ep]; exact DGet.k (k := .inr "d:p") ek, d.ms "d:p", xp, rfl, .inl (SqL.of exp_), _, rfl, d.vd, .ref (d.ms "d:q"), rfl, by rw [← eq]; exact DGet.k (k := .inr "d:q") ek, d.ms "d:q", xq, rfl, .inl (SqL.of exq), _, _, rfl, rfl, rfl, _, rfl, iteY (decide_eq_true ?_) ?_⟩
      · show V.int ((xp.length : Int) + (xq.length : Int)) = V.int 30
        congr 1
        omega
      · refine ⟨_, rfl, rfl, ?_⟩
        rw [decide_eq_true rfl]
        exact k H1 d g1 (Dat.Fix.refl d) rfl
    · have m1 := g.mid k1 h1 h2 h3 hC
      obtain ⟨kvs, ek, hkf⟩ := m1.lv.dk
      obtain ⟨ep, xp, exp_, prp⟩ := hkf "d:p" (.inl rfl)
      obtain ⟨eq, xq, exq, prq⟩ := hkf "d:q" (.inr rfl)
      obtain ⟨et, xt, ext_, prt⟩ := hkf t hd
      have l1 : xp.length = (d.Vs "d:p").length := prp.length
      have l2 : xq.length = (d.Vs "d:q").length := prq.length
      have lt : xt.length = (d.Vs t).length := prt.length
      have hnn := g.nn
      refine ⟨_, rfl, d.vd, .ref (d.ms "d:p"), rfl, by rw [← ep]; exact DGet.k (k := .inr "d:p") ek, d.ms "d:p", xp, rfl, .inl (SqL.of exp_), _, rfl, d.vd, .ref (d.ms "d:q"), rfl, by rw [← eq]; exact DGet.k (k := .inr "d:q") ek, d.ms "d:q", xq, rfl, .inl (SqL.of exq), _, _, rfl, rfl, rfl, _, rfl, iteN (decide_eq_false ?_) ?_⟩
      · intro z
        have z2 := V.int.inj z
        omega
      · refine ⟨_, rfl, _, rfl, d.vd, .ref (d.ms t), rfl, by rw [← et]; exact DGet.k (k := .inr t) ek, .inl ⟨rfl, xt, .inl (.inl ext_)⟩, ?_⟩
        refine ⟨_, rfl, _, rfl, d.p, d.c.1, _, rfl, m1.pr.ob, rfl, d.p, _, d.c, 0, d.rs, rfl, m1.pr, g.po, fun H2 k2 => ⟨by show 2 ≤ sizeLine; decide, fun a ha => ?_⟩⟩
        have k3 : Kp Nil H2 (upd H2 a (.tup [.str x, .int (rv 0 d.rs : Int)])) := Kp.new ha
        have k23 := k2.trans k3
        have m3 := m1.kp0 k23
        have ext3 := k23.lst0 ext_
        have prt3 : Paired (VerF natV (upd H2 a (.tup [.str x, .int (rv 0 d.rs : Int)]))) xt (d.Vs t) := Paired.mapP prt fun _ _ z => z.kp k23 tupFree_nil
        have ea : (upd H2 a (.tup [.str x, .int (rv 0 d.rs : Int)])) a = some (.tup [.str x, natV (rv 0 d.rs)]) := upd_same
        have er3 := k23.tup0 er
        generalize hH3 : upd H2 a (.tup [.str x, .int (rv 0 d.rs : Int)]) = H3 at k23 m3 ext3 prt3 ea er3
        have hlen := g.ct.len t
        refine ⟨d.ms t, xt, .ref a, rfl, rfl, ext3, by rw [sizeLine_eq]; omega, ?_⟩
        have g4 := m3.good ⟨H, g⟩ hd h30 ext3 prt3 ea
        have er4 : (upd H3 (d.ms t) (.lst (xt ++ [.ref a]))) r = _ := o2 er3 (ne_of er3 ext3 fun z => by cases z)
        have em4 : (upd H3 (d.ms t) (.lst (xt ++ [.ref a]))) (d.ms t) = some (.lst (xt ++ [.ref a])) := upd_same
        generalize hH4 : upd H3 (d.ms t) (.lst (xt ++ [.ref a])) = H4 at g4 er4 em4
        obtain ⟨kvs4, ek4, hkf4⟩ := g4.lv.dk
        have et4 : valV kvs4 (.inr t) = some (.ref (d.ms t)) := (hkf4 t hd).1
        refine ⟨_, rfl, _, rfl, _, rfl, d.vd, .ref (d.ms t), rfl, by rw [← et4]; exact DGet.k (k := .inr t) ek4, d.ms t, _, rfl, .inl (SqL.of em4), ?_⟩
        refine ⟨_, rfl, d.p, d.c.1, _, rfl, g4.pr.ob, rfl, d.p, _, d.c, 0, d.rs, rfl, g4.pr, g.po, fun H5 k5 => ?_⟩
        refine ⟨_, rfl, log_le hn40, _, _, rfl, rfl, main_len hn40, by show 2 ≤ sizeLine; decide, fun t6 ht6 => ?_⟩
        have hxl : (xt ++ [V.ref a]).length = (d.Vs t).length + 1 := by rw [List.length_append, lt]; rfl
        have k6 := Kp.new (S := Nil) (o := .tup [.int (((xt ++ [V.ref a]).length : Nat) : Int), .str (("main@" : Str) ++ Str.ofString (toString ((rv 0 d.rs : Nat) : Int)))]) ht6
        have k56 := k5.trans k6
        refine ⟨r, t6, [.int (((d.Vs t).length + 1 : Nat) : Int), .str (tok (rv 0 d.rs))], rfl, k56.tup0 er4, by rw [← main_tok hn40, ← hxl]; exact upd_same, by show 2 ≤ 100; decide, fun y hy => ?_, fun H7 k7 => k H7 _ (g4.kp0 (k56.trans k7)) ⟨rfl, rfl, rfl, rfl⟩ rfl⟩
        rcases List.mem_cons.mp hy with rfl | hy
        · exact .int _
        · rw [List.mem_singleton.mp hy]
          exact .str _
end
end Au
/-! Authsync: _law_store(script, 3, 0). -/
namespace Au
open PySem PySem.Spec PyProof.Rows L2
def spStoreL (K : PySem.W.Frag) : Sp := fun vs H Q _ => ∃ l i, vs = [.ref l, .int i, .int 0] ∧ Tabs K H ∧
  ∀ H' p c r, Kp Nil H H' → H p = none → H c.2 = none → c.2 ≠ p → PrimAt K (fun b => H b = none ∧ b ≠ c.2 ∧ b ≠ p) H' p c 0 [r] → RevOk r → Q (.ref p) H'
section
variable {P : Program} {w : World} {K : PySem.W.Frag} {mg : Str → Option Value} {base : Heap}
abbrev N_st : List Str := ["_law_script", "_law_start", "_law_many", "_law_schema", "_law_primary", "_law_k", "_law_draws_here", "_law_updates", "_law_j", "_law_kind", "_law_thing", "_law_who", "_law_line"]
theorem sc_law_store : FnScope N_st ["_law_script", "_law_start", "_law_many"] (defScope s__law_store) := ⟨rfl, rfl, rfl, by decide +kernel, rfl, by decide +kernel, by decide +kernel⟩
theorem ok_law_store (T : Top K mg base) : Cal P w K mg base CX0 13 ("_law_store", none) ["_law_script", "_law_start", "_law_many"] (spStoreL K) := by
  obtain ⟨fd, F⟩ := T.d__law_store
  obtain ⟨fd1, ds, F1, hds, b1⟩ := ok_Primary_init (P := P) (w := w) T
  refine ⟨⟨fd, FunD.ok F sc_law_store (fun vs H Q E h => ?_) (fun cdv A outer s H vs Q E hr h => ?_), FunD.bindsN F fun _ _ _ _ _ _ us hl => match us, hl with | [_, _, _], _ => rfl⟩, F.kp⟩
  · obtain ⟨l, i, rfl, _⟩ := h
    rfl
  · obtain ⟨l, i, rfl, ht, k⟩ := h
    have nd := sc_law_store.nd
    refine ⟨_, pss_cons (ps_set (i := 3) nd rfl (.inl rfl) pe_str)
      (pss_cons (ps_set (i := 4) nd rfl (.inl rfl) (pe_make T.k_Primary F1 hr rfl T.g_Primary b1 hds pass0 (pa_cons pe_str (pa_cons (pv 3) pa_nil))))
      (pss_cons (ps_for (passes_of rfl) rfl (pi_range1 (by rfl) T.f_range (pa_cons (pv 2) pa_nil)) (pg_name (i := 5) nd rfl (.inl rfl))
        (pss_cons ps_never (pss_cons ps_never (pss_cons ps_never (pss_cons ps_never (pss_one ps_never))))))
      (pss_one (ps_ret (pv 4))))), ?_⟩
    refine ⟨_, rfl, fun x dx hx hdx ndx => ?_⟩
    have k1 : Kp Nil H (upd H dx (.own x)) := Kp.new hdx
    have hx' : (upd H dx (.own x)) x = none := by rw [upd_ne (Ne.symm ndx)]; exact hx
    have k2 : Kp Nil (upd H dx (.own x)) (upd (upd H dx (.own x)) x (.ins (He.ga K "Primary") dx [])) := Kp.new hx'
    have k12 := k1.trans k2
    have e2 : (upd (upd H dx (.own x)) x (.ins (He.ga K "Primary") dx [])) x = some (.ins (He.ga K "Primary") dx []) := upd_same
    generalize hH2 : upd (upd H dx (.own x)) x (.ins (He.ga K "Primary") dx []) = H2 at k12 e2
    refine ⟨x, He.dflAt ("Primary", some "__init__") 0 K, dx, rfl, e2, T.dfl H2, ht.kp k12, fun H3 l2 r k3 hl2 hp hr2 => ⟨rfl, ?_⟩⟩
    have nlx : l2 ≠ x := fun z => by
      rw [z, e2] at hl2
      cases hl2
    have k03 : Kp Nil H H3 := k12.less k3 fun b (hb : b = x) => .inr (by rw [hb]; exact hx)
    have hp' : PrimAt K (fun b => H b = none ∧ b ≠ l2 ∧ b ≠ x) H3 x (dx, l2) 0 [r] := hp.to fun b hb _ => ⟨k12.fr _ hb.1, hb.2, fun z => by
      have h := hb.1
      rw [z, e2] at h
      cases h⟩
    refine ⟨_, rfl, 0, rfl, by decide, by decide, ?_⟩
    refine for_it walk_range (fun i σ H' => H' = H3 ∧ σ = _) ⟨rfl, rfl⟩ (fun _ _ _ _ _ => trivial) (fun i y σ H4 H5 hi pv y => ?_) fun σ H4 pv => ?_
    · exact absurd hi (Nat.not_lt_zero _)
    · obtain ⟨rfl, rfl⟩ := pv
      exact ⟨_, rfl, k _ x (dx, l2) r k03 hx (k12.fr _ hl2) nlx hp' hr2⟩
end
end Au
/-! Authsync: the law's state at the start; the spec of _law_is_read for both kinds of readers. -/
namespace Au
open PySem PySem.Spec PyProof.Rows L2
/-- a new replica -/
structure NewRep (K : PySem.W.Frag) (H H' : Hp) (z : Addr) (cz : Addr × Addr) (ts : List T3) : Prop where
  ex : ∃ tb, H' z = some (.ins (He.ga K "Replica") cz.1 [("name", .str "main"), ("number", .int ((0 : Nat) : Int)), ("table", .ref tb), ("later", .ref cz.2)]) ∧ TriL H' tb ts ∧ H tb = none
  ld : H' cz.2 = some (.dK [])
  nz : H z = none
  nl : H cz.2 = none
theorem nodup2 {l : List Addr} {H : Hp} {a b : Addr} (h : l.Nodup) (hl : ∀ x ∈ l, H x ≠ none) (ha : H a = none) (hb : H b = none) (n : a ≠ b) : (l ++ [a, b]).Nodup := by
  refine List.nodup_append.mpr ⟨h, by simp [n], fun x hx y hy e => ?_⟩
  have hn : H y = none := by
    rcases List.mem_cons.mp hy with hy | hy
    · rw [hy]; exact ha
    · rw [List.mem_singleton.mp hy]; exact hb
  rw [← e] at hn
  exact hl x hx hn
theorem nodup_ixA : ∀ {l : List Addr} {i j : Nat} {a : Addr}, l.Nodup → l[i]? = some a → l[j]? = some a → i = j
  | [], i, j, a, _, h, _ => by simp at h
  | x :: l, 0, 0, a, _, _, _ => rfl
  | x :: l, 0, j + 1, a, hn, h, h' => by
    obtain ⟨h1, _⟩ := List.nodup_cons.mp hn
    have e : x = a := Option.some.inj h
    exact absurd (by rw [e]; exact List.mem_of_getElem? (show l[j]? = some a from h')) h1
  | x :: l, i + 1, 0, a, hn, h, h' => by
    obtain ⟨h1, _⟩ := List.nodup_cons.mp hn
    have e : x = a := Option.some.inj h'
    exact absurd (by rw [e]; exact List.mem_of_getElem? (show l[i]? = some a from h)) h1
  | x :: l, i + 1, j + 1, a, hn, h, h' => by
    obtain ⟨_, h2⟩ := List.nodup_cons.mp hn
    rw [nodup_ixA h2 (show l[i]? = some a from h) (show l[j]? = some a from h')]
theorem alloc {H H' : Hp} (k : Kp Nil H H') {x : Addr} (h : H x ≠ none) : H' x ≠ none := fun z => h (k.fr _ z)
theorem some_ne {H : Hp} {a : Addr} {o : HO} (h : H a = some o) : H a ≠ none := by
  rw [h]
  intro z
  cases z
def Sl.code : Sl → Nat
  | .p => 0
  | .c => 1
  | .q => 2
  | .d => 3
  | .z b => if b then 6 else 4
  | .e b => if b then 7 else 5
  | .m t => if t = "d:p" then 8 else 9
  | .l _ => 10
theorem code_inj {d : Dat} (hv : ∀ t, d.Vs t = []) {i j : Sl} (hi : d.live i) (hj : d.live j) (e : i.code = j.code) : i = j := by
  have nl : ∀ t, ¬ d.live (.l t) := fun t h => h (hv t)
  have hm : ∀ {t u : Str}, IsDoc t → IsDoc u → (Sl.m t).code = (Sl.m u).code → t = u := fun {t u} ht hu e => by
    unfold Sl.code at e
    dsimp only at e
    rcases ht with rfl | rfl <;> rcases hu with rfl | rfl
    · rfl
    · rw [if_pos rfl, if_neg (fun z => doc_pq.mp z)] at e; cases e
    · rw [if_neg (fun z => doc_pq.mp z), if_pos rfl] at e; cases e
    · rfl
  have hm2 : ∀ t, (Sl.m t).code = 8 ∨ (Sl.m t).code = 9 := fun t => by
    unfold Sl.code
    dsimp only
    split
    · exact .inl rfl
    · exact .inr rfl
  cases i with
  | l t => exact absurd hi (nl t)
  | m t =>
    cases j with
    | l t => exact absurd hj (nl t)
    | m u => rw [hm hi hj e]
    | z b => rcases hm2 t with h | h <;> rw [h] at e <;> cases b <;> cases e
    | e b => rcases hm2 t with h | h <;> rw [h] at e <;> cases b <;> cases e
    | _ => rcases hm2 t with h | h <;> rw [h] at e <;> cases e
  | z b =>
    cases j with
    | l t => exact absurd hj (nl t)
    | m t => rcases hm2 t with h | h <;> rw [h] at e <;> cases b <;> cases e
    | z b' => cases b <;> cases b' <;> first | rfl | cases e
    | e b' => cases b <;> cases b' <;> cases e
    | _ => cases b <;> cases e
  | e b =>
    cases j with
    | l t => exact absurd hj (nl t)
    | m t => rcases hm2 t with h | h <;> rw [h] at e <;> cases b <;> cases e
    | z b' => cases b <;> cases b' <;> cases e
    | e b' => cases b <;> cases b' <;> first | rfl | cases e
    | _ => cases b <;> cases e
  | p =>
    cases j with
    | l t => exact absurd hj (nl t)
    | m t => rcases hm2 t with h | h <;> rw [h] at e <;> cases e
    | z b => cases b <;> cases e
    | e b => cases b <;> cases e
    | _ => first | rfl | cases e
  | c =>
    cases j with
    | l t => exact absurd hj (nl t)
    | m t => rcases hm2 t with h | h <;> rw [h] at e <;> cases e
    | z b => cases b <;> cases e
    | e b => cases b <;> cases e
    | _ => first | rfl | cases e
  | q =>
    cases j with
    | l t => exact absurd hj (nl t)
    | m t => rcases hm2 t with h | h <;> rw [h] at e <;> cases e
    | z b => cases b <;> cases e
    | e b => cases b <;> cases e
    | _ => first | rfl | cases e
  | d =>
    cases j with
    | l t => exact absurd hj (nl t)
    | m t => rcases hm2 t with h | h <;> rw [h] at e <;> cases e
    | z b => cases b <;> cases e
    | e b => cases b <;> cases e
    | _ => first | rfl | cases e
def pick {α : Type} (x y : α) (b : Bool) : α := if b then y else x
def pickT (x y : Addr) (t : Str) : Addr := if t = "d:p" then x else y
/-- the state at the start -/
def dat0 (p : Addr) (c : Addr × Addr) (q : Addr) (cq : Addr × Addr) (z0 z1 : Addr) (cz0 cz1 : Addr × Addr) (rl vd m0 m1 : Addr) (ls : Str → Addr) (r : Rev) : Dat :=
  { p := p, c := c, q := q, cq := cq, z := pick z0 z1, cz := pick cz0 cz1, rl := rl, vd := vd, ms := pickT m0 m1, ls := ls, Vs := fun _ => [], n := 0, rs := [r], nz := fun _ => 0, ts := fun _ => sortT r.2, B := 0 }
theorem good0 {K : PySem.W.Frag} {H0 H1 H2 H3 H4 H5 : Hp} {p q z0 z1 rl vd m0 m1 : Addr} {c cq cz0 cz1 : Addr × Addr} {ls : Str → Addr} {r : Rev} {kvs : List (Key × V)}
    (k1 : Kp Nil H0 H1) (hP : PrimAt K (fun b => H0 b = none ∧ b ≠ c.2 ∧ b ≠ p) H1 p c 0 [r]) (hp : H0 p = none) (hc : H0 c.2 = none) (ncp : c.2 ≠ p) (hr : RevOk r)
    (k2 : Kp Nil H1 H2) (hC : ContAt K H2 q p cq ls (fun _ => []) 0) (hq : H1 q = none) (hcq : H1 cq.2 = none)
    (k3 : Kp Nil H2 H3) (hZ0 : NewRep K H2 H3 z0 cz0 (sortT r.2))
    (k4 : Kp Nil H3 H4) (hZ1 : NewRep K H3 H4 z1 cz1 (sortT r.2))
    (k5 : Kp Nil H4 H5) (erl : H5 rl = some (.lst [.ref z0, .ref z1])) (hrl : H4 rl = none) (evd : H5 vd = some (.dK kvs)) (hvd : H4 vd = none)
    (em0 : H5 m0 = some (.lst [])) (em1 : H5 m1 = some (.lst [])) (hm0 : H4 m0 = none) (hm1 : H4 m1 = none) (nm : m0 ≠ m1) (nr0 : rl ≠ m0) (nr1 : rl ≠ m1)
    (e0 : valV kvs (.inr "d:p") = some (.ref m0)) (e1 : valV kvs (.inr "d:q") = some (.ref m1)) (ht : Tabs K H0) :
    Good K H0 H5 (dat0 p c q cq z0 z1 cz0 cz1 rl vd m0 m1 ls r) := by
  obtain ⟨kvq, ekq, _, _⟩ := hC.dt
  obtain ⟨t0, ez0, hT0, ht0⟩ := hZ0.ex
  obtain ⟨t1, ez1, hT1, ht1⟩ := hZ1.ex
  obtain ⟨xs, ec, _⟩ := hP.ls
  have ap := some_ne hP.ob
  have ac := some_ne ec
  have aq := some_ne hC.ob
  have ad := some_ne ekq
  have nqd : q ≠ cq.2 := ne_of hC.ob ekq fun z => by cases z
  have nz0 : z0 ≠ cz0.2 := ne_of ez0 hZ0.ld fun z => by cases z
  have nz1 : z1 ≠ cz1.2 := ne_of ez1 hZ1.ld fun z => by cases z
  have L1 : ([p, c.2] : List Addr).Nodup := by simp [Ne.symm ncp]
  have A1 : ∀ x ∈ ([p, c.2] : List Addr), H1 x ≠ none := fun x hx => by
    rcases List.mem_cons.mp hx with hx | hx
    · rw [hx]; exact ap
    · rw [List.mem_singleton.mp hx]; exact ac
  have Lb := nodup2 L1 A1 hq hcq nqd
  have A2 : ∀ x ∈ ([p, c.2] ++ [q, cq.2] : List Addr), H2 x ≠ none := fun x hx => by
    rcases List.mem_append.mp hx with hx | hx
    · exact alloc k2 (A1 x hx)
    · rcases List.mem_cons.mp hx with hx | hx
      · rw [hx]; exact aq
      · rw [List.mem_singleton.mp hx]; exact ad
  have L3 := nodup2 Lb A2 hZ0.nz hZ0.nl nz0
  have A3 : ∀ x ∈ ([p, c.2] ++ [q, cq.2] ++ [z0, cz0.2] : List Addr), H3 x ≠ none := fun x hx => by
    rcases List.mem_append.mp hx with hx | hx
    · exact alloc k3 (A2 x hx)
    · rcases List.mem_cons.mp hx with hx | hx
      · rw [hx]; exact some_ne ez0
      · rw [List.mem_singleton.mp hx]; exact some_ne hZ0.ld
  have L4 := nodup2 L3 A3 hZ1.nz hZ1.nl nz1
  have A4 : ∀ x ∈ ([p, c.2] ++ [q, cq.2] ++ [z0, cz0.2] ++ [z1, cz1.2] : List Addr), H4 x ≠ none := fun x hx => by
    rcases List.mem_append.mp hx with hx | hx
    · exact alloc k4 (A3 x hx)
    · rcases List.mem_cons.mp hx with hx | hx
      · rw [hx]; exact some_ne ez1
      · rw [List.mem_singleton.mp hx]; exact some_ne hZ1.ld
  have L5 := nodup2 L4 A4 hm0 hm1 nm
  have A5 : ∀ x ∈ ([p, c.2] ++ [q, cq.2] ++ [z0, cz0.2] ++ [z1, cz1.2] ++ [m0, m1] : List Addr), H5 x ≠ none := fun x hx => by
    rcases List.mem_append.mp hx with hx | hx
    · exact alloc k5 (A4 x hx)
    · rcases List.mem_cons.mp hx with hx | hx
      · rw [hx]; exact some_ne em0
      · rw [List.mem_singleton.mp hx]; exact some_ne em1
  generalize hd : dat0 p c q cq z0 z1 cz0 cz1 rl vd m0 m1 ls r = d
  have hat : ∀ i, d.live i → ([p, c.2] ++ [q, cq.2] ++ [z0, cz0.2] ++ [z1, cz1.2] ++ [m0, m1] : List Addr)[i.code]? = some (d.ad i) := fun i hi => by
    subst hd
    cases i with
    | p => rfl
    | c => rfl
    | q => rfl
    | d => rfl
    | z b => cases b <;> rfl
    | e b => cases b <;> rfl
    | m t =>
      rcases hi with rfl | rfl
      · rfl
      · unfold Sl.code
        dsimp only
        rw [if_neg (fun z => doc_pq.mp z)]
        show some m1 = some (pickT m0 m1 "d:q")
        unfold pickT
        rw [if_neg (fun z => doc_pq.mp z)]
    | l t => exact absurd rfl hi
  have k15 : Kp Nil H1 H5 := k2.trans (k3.trans (k4.trans k5))
  have k35 : Kp Nil H3 H5 := k4.trans k5
  have k25 : Kp Nil H2 H5 := k3.trans k35
  -- what lies ahead of a stage, and is no slot of it
  have cd : ∀ i, d.live i → i.code < 10 := fun i hi => by
    have h := hat i hi
    by_cases z : i.code < 10
    · exact z
    · rw [List.getElem?_eq_none (by simp; omega)] at h
      cases h
  have inL : ∀ i, d.live i → ∀ b, d.ad i = b → b = p ∨ b = c.2 ∨ b = q ∨ b = cq.2 ∨ b = z0 ∨ b = cz0.2 ∨ b = z1 ∨ b = cz1.2 ∨ b = m0 ∨ b = m1 := fun i hi b e => by
    have h := List.mem_of_getElem? (hat i hi)
    rw [e] at h
    simpa using h
  have h01 : ∀ {b}, H1 b = none → H0 b = none := fun h => k1.fr _ h
  have h12 : ∀ {b}, H2 b = none → H1 b = none := fun h => k2.fr _ h
  have h23 : ∀ {b}, H3 b = none → H2 b = none := fun h => k3.fr _ h
  have h34 : ∀ {b}, H4 b = none → H3 b = none := fun h => k4.fr _ h
  have toD1 : ∀ b, (H0 b = none ∧ b ≠ c.2 ∧ b ≠ p) → H1 b ≠ none → d.D b := fun b hb hn i hi e => by
    rcases inL i hi b e with h | h | h | h | h | h | h | h | h | h
    · exact hb.2.2 h
    · exact hb.2.1 h
    · rw [h] at hn; exact hn hq
    · rw [h] at hn; exact hn hcq
    · rw [h] at hn; exact hn (h12 hZ0.nz)
    · rw [h] at hn; exact hn (h12 hZ0.nl)
    · rw [h] at hn; exact hn (h12 (h23 hZ1.nz))
    · rw [h] at hn; exact hn (h12 (h23 hZ1.nl))
    · rw [h] at hn; exact hn (h12 (h23 (h34 hm0)))
    · rw [h] at hn; exact hn (h12 (h23 (h34 hm1)))
  have dt0 : d.D t0 := fun i hi e => by
    have hn := hT0.there
    rcases inL i hi t0 e with h | h | h | h | h | h | h | h | h | h
    · exact alloc k2 ap (by rw [← h]; exact ht0)
    · exact alloc k2 ac (by rw [← h]; exact ht0)
    · exact aq (by rw [← h]; exact ht0)
    · exact ad (by rw [← h]; exact ht0)
    · obtain ⟨vs, ev, _⟩ := hT0
      rw [h, ez0] at ev
      cases ev
    · obtain ⟨vs, ev, _⟩ := hT0
      rw [h, hZ0.ld] at ev
      cases ev
    · rw [h] at hn; exact hn hZ1.nz
    · rw [h] at hn; exact hn hZ1.nl
    · rw [h] at hn; exact hn (h34 hm0)
    · rw [h] at hn; exact hn (h34 hm1)
  have dt1 : d.D t1 := fun i hi e => by
    have hn := hT1.there
    rcases inL i hi t1 e with h | h | h | h | h | h | h | h | h | h
    · exact alloc (k2.trans k3) ap (by rw [← h]; exact ht1)
    · exact alloc (k2.trans k3) ac (by rw [← h]; exact ht1)
    · exact alloc k3 aq (by rw [← h]; exact ht1)
    · exact alloc k3 ad (by rw [← h]; exact ht1)
    · exact some_ne ez0 (by rw [← h]; exact ht1)
    · exact some_ne hZ0.ld (by rw [← h]; exact ht1)
    · obtain ⟨vs, ev, _⟩ := hT1
      rw [h, ez1] at ev
      cases ev
    · obtain ⟨vs, ev, _⟩ := hT1
      rw [h, hZ1.ld] at ev
      cases ev
    · rw [h] at hn; exact hn hm0
    · rw [h] at hn; exact hn hm1
  have new5 : ∀ b, H4 b = none → b ≠ m0 → b ≠ m1 → d.D b := fun b hb n0 n1 i hi e => by
    have hx : b ∉ ([p, c.2] ++ [q, cq.2] ++ [z0, cz0.2] ++ [z1, cz1.2] : List Addr) := fun hm => A4 b hm hb
    rcases inL i hi b e with h | h | h | h | h | h | h | h | h | h
    all_goals first | exact n0 h | exact n1 h | exact hx (by rw [h]; simp)
  have tOk : TabOk r.2 := ⟨hr.tnd, hr.tl⟩
  have sm : Same (sortT r.2) (tabN [r] 0) := ⟨sortT_nodup hr.tnd, fun t => by
    rw [sortT_mem]
    exact Iff.rfl⟩
  have ok1 : ∀ y ∈ [r], RevOk y := fun y hy => by rw [List.mem_singleton.mp hy]; exact hr
  have rep0 : RepAt K d.D H5 z0 cz0 0 (sortT r.2) 0 [r] := ⟨⟨t0, k35.ins0 ez0, dt0, hT0.kp0 k35⟩, [], k35.dK0 hZ0.ld, Nat.le_refl _, fun k v h => by cases h⟩
  have rep1 : RepAt K d.D H5 z1 cz1 0 (sortT r.2) 0 [r] := ⟨⟨t1, k5.ins0 ez1, dt1, hT1.kp0 k5⟩, [], k5.dK0 hZ1.ld, Nat.le_refl _, fun k v h => by cases h⟩
  have g : Good K H0 H5 d :=
    { pr := by
        have := (hP.to toD1).kp0 k15
        subst hd
        exact this,
      po := by
        subst hd
        exact ⟨by simp [dat0], ok1, by show 0 + 1 ≤ 41; decide⟩,
      ct := by
        subst hd
        exact hC.kp0 k25,
      rp := fun b => by
        subst hd
        cases b
        · exact rep0
        · exact rep1,
      ro := fun b => by
        subst hd
        exact ⟨by show 0 < 1; decide, sm, ok1, by show 1 ≤ 41; decide⟩,
      lv := by
        subst hd
        refine ⟨kvs, evd, fun t ht => ?_⟩
        rcases ht with rfl | rfl
        · exact ⟨e0, [], em0, .nil⟩
        · refine ⟨?_, [], ?_, .nil⟩
          · show valV kvs (.inr "d:q") = some (.ref (pickT m0 m1 "d:q"))
            unfold pickT
            rw [if_neg (fun z => doc_pq.mp z)]
            exact e1
          · show H5 (pickT m0 m1 "d:q") = _
            unfold pickT
            rw [if_neg (fun z => doc_pq.mp z)]
            exact em1,
      rl := by
        subst hd
        exact erl,
      nn := by
        subst hd
        rfl,
      le := by
        subst hd
        exact Nat.zero_le _,
      bd := fun t x hx => by
        subst hd
        exact absurd hx (List.not_mem_nil),
      tb := (ht.kp k1).kp k15,
      inj := fun i j hi hj e => by
        have h1 := hat i hi
        have h2 := hat j hj
        rw [e] at h1
        exact code_inj (by subst hd; exact fun _ => rfl) hi hj (nodup_ixA L5 h1 h2),
      al := fun i hi => A5 _ (List.mem_of_getElem? (hat i hi)),
      dv := by
        have h := new5 vd hvd (ne_of evd em0 fun z => by cases z) (ne_of evd em1 fun z => by cases z)
        subst hd
        exact h,
      dr := by
        have h := new5 rl hrl nr0 nr1
        subst hd
        exact h,
      k0 := k1.trans k15,
      n0 := fun i hi => by
        rcases inL i hi _ rfl with h | h | h | h | h | h | h | h | h | h
        · rw [h]; exact hp
        · rw [h]; exact hc
        · rw [h]; exact h01 hq
        · rw [h]; exact h01 hcq
        · rw [h]; exact h01 (h12 hZ0.nz)
        · rw [h]; exact h01 (h12 hZ0.nl)
        · rw [h]; exact h01 (h12 (h23 hZ1.nz))
        · rw [h]; exact h01 (h12 (h23 hZ1.nl))
        · rw [h]; exact h01 (h12 (h23 (h34 hm0)))
        · rw [h]; exact h01 (h12 (h23 (h34 hm1))) }
  exact g
end Au
/-! Authsync: the law's loop: its statements one by one. -/
namespace Au
open PySem PySem.Spec PyProof.Rows L2
theorem PS_imp {X : Cx} {st : Stmt} {t t' : TS} (h : PS X st t) (hi : ∀ D σ H, t' D σ H → t D σ H) : PS X st t' := ⟨fun pins s σ H D I q => h.run pins s σ H D I (hi D σ H q)⟩
theorem PSs_imp {X : Cx} {st : List Stmt} {t t' : TS} (h : PSs X st t) (hi : ∀ D σ H, t' D σ H → t D σ H) : PSs X st t' := ⟨fun pins s σ H D I q => h.run pins s σ H D I (hi D σ H q)⟩
def forBody : Stmt → List Stmt
  | .For _ _ b _ _ => b
  | _ => []
def ifBody : Stmt → List Stmt
  | .If _ b _ _ => b
  | _ => []
def ifElse : Stmt → Stmt
  | .If _ _ (b :: _) _ => b
  | _ => .Pass ⟨0, 0, 0, 0⟩
/-- the loop's statements, the branches of its if -/
def lawF : List Stmt := forBody ((defBody s_law).getD 4 (.Pass ⟨0, 0, 0, 0⟩))
def lawI0 : Stmt := lawF.getD 4 (.Pass ⟨0, 0, 0, 0⟩)
def lawI1 : Stmt := ifElse lawI0
def lawI2 : Stmt := ifElse lawI1
def lawI3 : Stmt := ifElse lawI2
def lawC : Stmt := lawF.getD 5 (.Pass ⟨0, 0, 0, 0⟩)
abbrev N_law : List Str := ["_law_script", "_law_primary", "_law_contents", "_law_replicas", "_law_versions", "_law_k", "_law_draws_here", "_law_kind", "_law_thing", "_law_who", "_law_line", "_law_is_there", "_law_reader", "_law_name", "_law_due"]
theorem sc_law : FnScope N_law ["_law_script"] (defScope s_law) := ⟨rfl, rfl, rfl, by decide +kernel, rfl, by decide +kernel, by decide +kernel⟩
def IsWho (u : Str) : Prop := u = "u:a" ∨ u = "u:b" ∨ u = "u:c"
theorem pq_at (i : Int) (h0 : 0 ≤ i) (h1 : i < 2) : ∃ c t, atI ("pq" : Str).cps.toList i = some c ∧ ("d:" : Str) ++ (⟨#[c]⟩ : Str) = t ∧ IsDoc t := by
  obtain rfl | rfl : i = 0 ∨ i = 1 := by omega
  · exact ⟨112, _, by decide +kernel, rfl, .inl (by decide +kernel)⟩
  · exact ⟨113, _, by decide +kernel, rfl, .inr (by decide +kernel)⟩
theorem abc_at (i : Int) (h0 : 0 ≤ i) (h1 : i < 3) : ∃ c t, atI ("abc" : Str).cps.toList i = some c ∧ ("u:" : Str) ++ (⟨#[c]⟩ : Str) = t ∧ IsWho t := by
  obtain rfl | rfl | rfl : i = 0 ∨ i = 1 ∨ i = 2 := by omega
  · exact ⟨97, _, by decide +kernel, rfl, .inl (by decide +kernel)⟩
  · exact ⟨98, _, by decide +kernel, rfl, .inr (.inl (by decide +kernel))⟩
  · exact ⟨99, _, by decide +kernel, rfl, .inr (.inr (by decide +kernel))⟩
theorem line_U {t u : Str} (ht : IsDoc t) (hu : IsWho u) : ((t, "o", u) : T3) ∈ U ∧ ((t, "w", u) : T3) ∈ U ∧ ((t, "b", u) : T3) ∈ U ∧ ((t, "w", "g:x#m") : T3) ∈ U ∧ (("g:x", "m", u) : T3) ∈ U := by
  rcases ht with rfl | rfl <;> rcases hu with rfl | rfl | rfl <;> decide +kernel
theorem quest_v {t u : Str} (ht : IsDoc t) (hu : IsWho u) : Quest t "v" u := by
  rcases ht with rfl | rfl <;> rcases hu with rfl | rfl | rfl <;> exact ⟨by decide +kernel, by decide +kernel, by decide +kernel, by decide +kernel, by decide +kernel⟩
/-- the slots in a turn -/
def Slots (a : Addr) (d : Dat) (i : Int) (dr : Addr) (kd : Int) (t u : Str) (σ : L2.St) : Prop := ∃ x10 x11 x12 x13 x14, σ = [some (.ref a), some (.ref d.p), some (.ref d.q), some (.ref d.rl), some (.ref d.vd), some (.int i), some (.ref dr), some (.int kd), some (.str t), some (.str u), x10, x11, x12, x13, x14]
theorem Slots.fix {a dr : Addr} {d d' : Dat} {i kd : Int} {t u : Str} {σ : L2.St} (f : d.Fix d') (h : Slots a d i dr kd t u σ) : Slots a d' i dr kd t u σ := by
  obtain ⟨x10, x11, x12, x13, x14, e⟩ := h
  exact ⟨x10, x11, x12, x13, x14, by rw [f.p, f.q, f.rl, f.vd]; exact e⟩
structure Turn (K : PySem.W.Frag) (H0 H : Hp) (a : Addr) (d : Dat) (i : Nat) (dr : Addr) (kd : Int) (t u : Str) (ds : List Nat) (σ : L2.St) : Prop where
  g : Good K H0 H d
  s : Slots a d (0 + (i : Int)) dr kd t u σ
  t : IsDoc t
  u : IsWho u
  e : H dr = some (.lst (ds.map natV))
  l : ds.length = 8
  b : d.B ≤ i
  k : i < 46
/-- what a branch leaves -/
def Left (K : PySem.W.Frag) (H0 : Hp) (a : Addr) (d : Dat) (i : Nat) (dr : Addr) (kd : Int) (t u : Str) (N : L2.St → Hp → Prop) : Prop := ∀ H' d' σ', Good K H0 H' d' → d.Fix d' → d'.B ≤ d.B + 1 → Slots a d' (0 + (i : Int)) dr kd t u σ' → N σ' H'
def tBr (K : PySem.W.Frag) (C : Dat → Prop) : TS := fun D σ H => ∃ H0 a d i dr kd t u ds, Turn K H0 H a d i dr kd t u ds σ ∧ C d ∧ Left K H0 a d i dr kd t u D.nx
/-- the look at the end of a turn -/
def tChk (K : PySem.W.Frag) : TS := fun D σ H => ∃ H0 a d i dr kd t u, Good K H0 H d ∧ Slots a d i dr kd t u σ ∧ ∀ H' σ', Good K H0 H' d → Slots a d i dr kd t u σ' → D.nx σ' H'
section
variable {P : Program} {w : World} {K : PySem.W.Frag} {mg : Str → Option Value} {base : Heap} {cdv : Value} {A : Around} {outer : List Env} {s : Shared} {Hs : Hp} {E : XK}
abbrev XL (P : Program) (w : World) (K : PySem.W.Frag) (mg : Str → Option Value) (base : Heap) (cdv : Value) (A : Around) (outer : List Env) (s : Shared) (Hs : Hp) (E : XK) : Cx := cxOf CX0 P w K mg base N_law Au.d_law.qual Au.d_law.scope (He.fAd K Au.d_law.at_) cdv A outer s Hs E
theorem ps_chk (T : Top K mg base) (hr : Room 13 (XL P w K mg base cdv A outer s Hs E).A) : PS (XL P w K mg base cdv A outer s Hs E) lawC (tChk K) := by
  have nd := sc_law.nd
  have cs := ok_Cont_version (P := P) (w := w) T
  obtain ⟨fd1, F1, b1⟩ := cs.ex
  have cs2 := ok_Cont_token (P := P) (w := w) T
  obtain ⟨fd2, F2, b2⟩ := cs2.ex
  refine PS_imp (ps_for (passes_of rfl) rfl (pi_tup (pe_tup (pa_cons pe_str (pa_cons pe_str pa_nil)))) (pg_name (i := 13) nd rfl (.inl rfl))
    (pss_cons (ps_set (i := 14) nd rfl (.inl rfl) (pe_ifExp (pt_cmpR op_gt (pe_callB call_len_seq (by rfl) T.f_len PySem.boot_len (pa_cons (pe_dget hr.u1 (pv 4) (pv 13) (fun _ _ => rfl)) pa_nil)) pe_int (nomark _))
        (pe_op op_add_str pe_str (pe_callTy call_str_int (by rfl) T.f_str (by decide +kernel) (pa_cons (pe_ix ix_tup (pe_ix ix_list (pe_dget hr.u1 (pv 4) (pv 13) (fun _ _ => rfl)) (pe_un un_neg pe_int) (fun _ _ => rfl)) pe_int (fun _ _ => rfl)) pa_nil))) pe_str))
    (pss_one (ps_if (PW.pt (pw_or (pt_cmpR op_ne (pe_meth (pv 2) T.c_ContentStore T.m_ContentStore_version F1 (hr.mono (by decide)) b1 .nil pass0 (pa_cons (pv 13) pa_nil)) (pe_callB call_len_seq (by rfl) T.f_len PySem.boot_len (pa_cons (pe_dget hr.u1 (pv 4) (pv 13) (fun _ _ => rfl)) pa_nil)) (nomark _))
      (pw_or1 (pt_cmpR op_ne (pe_meth (pv 2) T.c_ContentStore T.m_ContentStore_token F2 (hr.mono (by decide)) b2 .nil pass0 (pa_cons (pv 13) pa_nil)) (pv 14) (nomark _))))) (pss_one ps_never) pss_nil)))) ?_
  intro D σ H hh
  obtain ⟨H0, a, d, i, dr, kd, t, u, g, ⟨x10, x11, x12, x13, x14, rfl⟩, k⟩ := hh
  refine ⟨by show 2 ≤ sizeLine; decide, fun tp htp => ?_⟩
  have k1 : Kp Nil H (upd H tp (.tup [.str "d:p", .str "d:q"])) := Kp.new htp
  have etp : (upd H tp (.tup [.str "d:p", .str "d:q"])) tp = some (.tup [.str "d:p", .str "d:q"]) := upd_same
  have g1 := g.kp0 k1
  generalize hH1 : upd H tp (.tup [.str "d:p", .str "d:q"]) = H1 at k1 etp g1
  refine ⟨tp, rfl, ⟨_, SqT.of etp⟩, ?_⟩
  refine for_it (walk_tup (K := K) (a := tp) (xs := [.str "d:p", .str "d:q"])) (fun j σ H' => Kp Nil H1 H' ∧ Slots a d i dr kd t u σ) ⟨Kp.refl, _, _, _, _, _, rfl⟩ (fun j σ H' _ p => SqT.of (p.1.tup0 etp)) (fun j x σ H2 H3 hj p y => ?_) fun σ H2 p => ?_
  · obtain ⟨rfl, hx⟩ := y
    obtain ⟨k2, y10, y11, y12, y13, y14, rfl⟩ := p
    obtain ⟨z, rfl, hz⟩ : ∃ z, x = .str z ∧ IsDoc z := by
      match j, hj, hx with
      | 0, _, hx => exact ⟨_, (Option.some.inj hx).symm, .inl rfl⟩
      | 1, _, hx => exact ⟨_, (Option.some.inj hx).symm, .inr rfl⟩
      | j + 2, hj, _ => exact absurd hj (by show ¬ j + 2 < 2; omega)
    have g2 := g1.kp0 k2
    obtain ⟨kvs, ek, hkf⟩ := g2.lv.dk
    obtain ⟨ez, xs, ex, pr⟩ := hkf z hz
    have hl : xs.length = (d.Vs z).length := pr.length
    have dg : ∀ {H'}, Kp Nil H3 H' → DGet H' d.vd (.str z) (some (.ref (d.ms z))) := fun k => by
      rw [← ez]
      exact DGet.k (k := .inr z) (k.dK0 ek)
    refine ⟨_, rfl, _, rfl, d.vd, _, rfl, dg Kp.refl, d.ms z, xs, rfl, .inl (SqL.of ex), _, _, rfl, rfl, _, rfl, ?_⟩
    by_cases hz0 : d.Vs z = []
    · have h0 : xs.length = 0 := by rw [hl, hz0]; rfl
      refine iteN (decide_eq_false (by omega)) ?_
      refine ⟨_, rfl, d.q, d.cq.1, _, rfl, g2.ct.ob, rfl, _, rfl, d.q, d.p, d.cq, d.ls, d.Vs, d.n, z, rfl, g2.ct, fun H4 k4 => ?_⟩
      have g4 := g2.kp0 k4
      refine ⟨_, rfl, _, rfl, d.vd, _, rfl, dg k4, d.ms z, xs, rfl, .inl (SqL.of (k4.lst0 ex)), rfl, _, rfl, iteN ?_ ?_⟩
      · rw [hl]
        simp
      · refine ⟨_, rfl, d.q, d.cq.1, _, rfl, g4.ct.ob, rfl, _, rfl, d.q, d.p, d.cq, d.ls, d.Vs, d.n, z, rfl, g4.ct, fun H5 k5 => ⟨_, rfl, rfl, _, rfl, iteN ?_ ⟨k2.trans (k4.trans k5), _, _, _, _, _, rfl⟩⟩⟩
        rw [hz0]
        show (!decide (V.str "" = V.str "")) = false
        simp
    · have h0 : 0 < xs.length := by
        rw [hl]
        exact List.length_pos_iff.mpr hz0
      obtain ⟨v, y, hv, ⟨b, rfl, eb⟩, hlast⟩ := last_pair pr hz0
      have hy40 : y.2 ≤ 40 := by
        have h1 := g.bd z y (List.mem_of_getLast? hlast)
        have h2 := g.po.rv_le
        omega
      refine iteY (decide_eq_true (by omega)) ?_
      refine ⟨_, rfl, _, rfl, d.vd, _, rfl, dg Kp.refl, _, rfl, d.ms z, xs, -1, .ref b, rfl, rfl, SqL.of ex, hv, b, _, 1, _, rfl, rfl, SqT.of eb, rfl, _, rfl, log_le hy40, _, _, rfl, rfl, main_len hy40, ?_⟩
      refine ⟨_, rfl, d.q, d.cq.1, _, rfl, g2.ct.ob, rfl, _, rfl, d.q, d.p, d.cq, d.ls, d.Vs, d.n, z, rfl, g2.ct, fun H4 k4 => ?_⟩
      have g4 := g2.kp0 k4
      refine ⟨_, rfl, _, rfl, d.vd, _, rfl, dg k4, d.ms z, xs, rfl, .inl (SqL.of (k4.lst0 ex)), rfl, _, rfl, iteN ?_ ?_⟩
      · rw [hl]
        simp
      · refine ⟨_, rfl, d.q, d.cq.1, _, rfl, g4.ct.ob, rfl, _, rfl, d.q, d.p, d.cq, d.ls, d.Vs, d.n, z, rfl, g4.ct, fun H5 k5 => ⟨_, rfl, rfl, _, rfl, iteN ?_ ⟨k2.trans (k4.trans k5), _, _, _, _, _, rfl⟩⟩⟩
        have e1 : lastTok (d.Vs z) = tok y.2 := by
          unfold lastTok
          rw [hlast]
        rw [e1, ← main_tok hy40]
        show (!decide (V.str _ = V.str _)) = false
        rw [decide_eq_true rfl]
        rfl
  · exact k H2 σ (g1.kp0 p.1) p.2
end
end Au
/-! Authsync: the law's loop: a write. -/
namespace Au
open PySem PySem.Spec PyProof.Rows L2
theorem PE_imp {X : Cx} {e : Expr} {t t' : TE} (h : PE X e t) (hi : ∀ σ H Q, t' σ H Q → t σ H Q) : PE X e t' := ⟨fun pins s σ H Q I q => h.run pins s σ H Q I (hi σ H Q q)⟩
/-- how the update is named -/
def tKind : TE := fun σ H Q => ∃ (b : Bool) (dr : Addr) (ds : List Nat) (PRE : Str → Prop), σ[11]? = some (some (.bl b)) ∧ σ[6]? = some (some (.ref dr)) ∧ H dr = some (.lst (ds.map natV)) ∧ ds.length = 8 ∧ (b = true → PRE "delete") ∧ PRE "touch" ∧ ∀ kd, PRE kd → Q (.str kd) H
theorem eight {ds : List Nat} (h : ds.length = 8) : ∃ d0 d1 d2 d3 d4 d5 d6 d7, ds = [d0, d1, d2, d3, d4, d5, d6, d7] := by
  match ds, h with
  | [d0, d1, d2, d3, d4, d5, d6, d7], _ => exact ⟨d0, d1, d2, d3, d4, d5, d6, d7, rfl⟩
section
variable {P : Program} {w : World} {K : PySem.W.Frag} {mg : Str → Option Value} {base : Heap} {cdv : Value} {A : Around} {outer : List Env} {s : Shared} {Hs : Hp} {E : XK}
theorem ps_wr (T : Top K mg base) (hr : Room 13 (XL P w K mg base cdv A outer s Hs E).A) : PSs (XL P w K mg base cdv A outer s Hs E) (ifBody lawI0) (tBr K fun d => rv 0 d.rs < 30) := by
  have nd := sc_law.nd
  have cs := ok_Primary_relationships (P := P) (w := w) T
  obtain ⟨fd1, F1, b1⟩ := cs.ex
  have cs2 := ok_Primary_write (P := P) (w := w) T
  obtain ⟨fd2, F2, b2⟩ := cs2.ex
  refine PSs_imp (pss_cons (ps_set (i := 10) nd rfl (.inl rfl) (pe_ix ix_list (pe_lst
      (pa_cons (pe_tup (pa_cons (pv 8) (pa_cons pe_str (pa_cons (pv 9) pa_nil))))
      (pa_cons (pe_tup (pa_cons (pv 8) (pa_cons pe_str (pa_cons (pv 9) pa_nil))))
      (pa_cons (pe_tup (pa_cons (pv 8) (pa_cons pe_str (pa_cons (pv 9) pa_nil))))
      (pa_cons (pe_tup (pa_cons (pv 8) (pa_cons pe_str (pa_cons pe_str pa_nil))))
      (pa_cons (pe_tup (pa_cons pe_str (pa_cons pe_str (pa_cons (pv 9) pa_nil)))) pa_nil))))))
      (pe_op op_mod (pe_callTy call_int1 (by rfl) T.f_int (by decide +kernel) (pa_cons (pe_ix ix_list (pv 6) pe_int (fun _ _ => rfl)) pa_nil)) pe_int) (fun _ _ => rfl)))
    (pss_cons (ps_set (i := 11) nd rfl (.inl rfl) (pe_cmpR (op_inP hr.units) (pv 10) (pe_meth (pv 1) T.c_Primary T.m_Primary_relationships F1 (hr.mono (by decide)) b1 .nil pass0 (pa_cons pe_str pa_nil)) rfl))
    (pss_one (ps_expr (pe_meth (pv 1) T.c_Primary T.m_Primary_write F2 (hr.mono (by decide)) b2 .nil pass0 (pa_cons (pe_lst (pa_cons (pe_op op_catT (pe_tup (pa_cons
      (PE_imp (t' := tKind) (pe_ifExp (PW.pt (pw_and (pt_val (pv 11)) (pw_and1 (pt_cmpR op_eq (pe_op op_mod (pe_callTy call_int1 (by rfl) T.f_int (by decide +kernel) (pa_cons (pe_ix ix_list (pv 6) pe_int (fun _ _ => rfl)) pa_nil)) pe_int) pe_int (nomark _))))) pe_str pe_str) ?kk)
      pa_nil)) (pv 10)) pa_nil)) pa_nil)))))) ?_
  case kk =>
    intro σ H Q hh
    obtain ⟨b, dr, ds, PRE, e11, e6, ed, hl, h1, h2, hq⟩ := hh
    obtain ⟨d0, d1, d2, d3, d4, d5, d6, d7, rfl⟩ := eight hl
    refine ⟨_, e11, b, rfl, itb (fun c1 => ?_) fun c1 => ?_⟩
    · refine ⟨_, e6, dr, _, 4, natV d4, rfl, rfl, SqL.of ed, rfl, .inl ⟨_, rfl, _, _, rfl, rfl, by show (0 : Int) < 2; decide, rfl, _, rfl, itb (fun c2 => ?_) fun c2 => ?_⟩⟩
      · exact hq _ (h1 c1)
      · exact hq _ h2
    · exact hq _ h2
  intro D σ H hh
  obtain ⟨H0, a, d, i, dr, kd, t, u, ds, hT, hlt, k⟩ := hh
  obtain ⟨g, ⟨x10, x11, x12, x13, x14, rfl⟩, ht, hu, ed, hl, hb, hk⟩ := hT
  obtain ⟨d0, d1, d2, d3, d4, d5, d6, d7, eds⟩ := eight hl
  obtain ⟨u1, u2, u3, u4, u5⟩ := line_U ht hu
  refine ⟨_, rfl, _, rfl, by show 3 ≤ sizeLine; decide, fun t1 h1 => ?_⟩
  have k1 : Kp Nil H (upd H t1 (.tup [.str t, .str "o", .str u])) := Kp.new h1
  have e1 : (upd H t1 (.tup [.str t, .str "o", .str u])) t1 = some (.tup [.str t, .str "o", .str u]) := upd_same
  generalize hG1 : upd H t1 (.tup [.str t, .str "o", .str u]) = G1 at k1 e1
  refine ⟨_, rfl, _, rfl, by show 3 ≤ sizeLine; decide, fun t2 h2 => ?_⟩
  have k2 : Kp Nil G1 (upd G1 t2 (.tup [.str t, .str "w", .str u])) := Kp.new h2
  have e2 : (upd G1 t2 (.tup [.str t, .str "w", .str u])) t2 = some (.tup [.str t, .str "w", .str u]) := upd_same
  generalize hG2 : upd G1 t2 (.tup [.str t, .str "w", .str u]) = G2 at k2 e2
  refine ⟨_, rfl, _, rfl, by show 3 ≤ sizeLine; decide, fun t3 h3 => ?_⟩
  have k3 : Kp Nil G2 (upd G2 t3 (.tup [.str t, .str "b", .str u])) := Kp.new h3
  have e3 : (upd G2 t3 (.tup [.str t, .str "b", .str u])) t3 = some (.tup [.str t, .str "b", .str u]) := upd_same
  generalize hG3 : upd G2 t3 (.tup [.str t, .str "b", .str u]) = G3 at k3 e3
  refine ⟨_, rfl, by show 3 ≤ sizeLine; decide, fun t4 h4 => ?_⟩
  have k4 : Kp Nil G3 (upd G3 t4 (.tup [.str t, .str "w", .str "g:x#m"])) := Kp.new h4
  have e4 : (upd G3 t4 (.tup [.str t, .str "w", .str "g:x#m"])) t4 = some (.tup [.str t, .str "w", .str "g:x#m"]) := upd_same
  generalize hG4 : upd G3 t4 (.tup [.str t, .str "w", .str "g:x#m"]) = G4 at k4 e4
  refine ⟨_, rfl, by show 3 ≤ sizeLine; decide, fun t5 h5 => ?_⟩
  have k5 : Kp Nil G4 (upd G4 t5 (.tup [.str "g:x", .str "m", .str u])) := Kp.new h5
  have e5 : (upd G4 t5 (.tup [.str "g:x", .str "m", .str u])) t5 = some (.tup [.str "g:x", .str "m", .str u]) := upd_same
  generalize hG5 : upd G4 t5 (.tup [.str "g:x", .str "m", .str u]) = G5 at k5 e5
  refine ⟨by show 5 ≤ sizeLine; decide, fun t6 h6 => ?_⟩
  have k6 : Kp Nil G5 (upd G5 t6 (.lst [.ref t1, .ref t2, .ref t3, .ref t4, .ref t5])) := Kp.new h6
  have e6 : (upd G5 t6 (.lst [.ref t1, .ref t2, .ref t3, .ref t4, .ref t5])) t6 = some (.lst [.ref t1, .ref t2, .ref t3, .ref t4, .ref t5]) := upd_same
  generalize hG6 : upd G5 t6 (.lst [.ref t1, .ref t2, .ref t3, .ref t4, .ref t5]) = G6 at k6 e6
  have e1 := (k2.trans (k3.trans (k4.trans (k5.trans k6)))).tup0 e1
  have e2 := (k3.trans (k4.trans (k5.trans k6))).tup0 e2
  have e3 := (k4.trans (k5.trans k6)).tup0 e3
  have e4 := (k5.trans k6).tup0 e4
  have e5 := k6.tup0 e5
  have k06 := k1.trans (k2.trans (k3.trans (k4.trans (k5.trans k6))))
  have ed6 := k06.lst0 ed
  have g6 := g.kp0 k06
  rw [eds] at ed6
  refine ⟨_, rfl, dr, _, 3, natV d3, rfl, rfl, SqL.of ed6, rfl, .inl ⟨_, rfl, _, _, rfl, rfl, by show (0 : Int) < 5; decide, ?_⟩⟩
  obtain ⟨al, l, hat, el, hU⟩ : ∃ al, ∃ l : T3, atI [V.ref t1, .ref t2, .ref t3, .ref t4, .ref t5] ((d3 : Int) % 5) = some (.ref al) ∧ G6 al = some (.tup [.str l.1, .str l.2.1, .str l.2.2]) ∧ l ∈ U := by
    obtain h | h | h | h | h : (d3 : Int) % 5 = 0 ∨ (d3 : Int) % 5 = 1 ∨ (d3 : Int) % 5 = 2 ∨ (d3 : Int) % 5 = 3 ∨ (d3 : Int) % 5 = 4 := by omega
    · rw [h]; exact ⟨t1, (t, "o", u), rfl, e1, u1⟩
    · rw [h]; exact ⟨t2, (t, "w", u), rfl, e2, u2⟩
    · rw [h]; exact ⟨t3, (t, "b", u), rfl, e3, u3⟩
    · rw [h]; exact ⟨t4, (t, "w", "g:x#m"), rfl, e4, u4⟩
    · rw [h]; exact ⟨t5, ("g:x", "m", u), rfl, e5, u5⟩
  refine ⟨t6, _, _, .ref al, rfl, rfl, SqL.of e6, hat, ?_⟩
  have hne := g.po.ne
  obtain ⟨r, hlast⟩ : ∃ r, d.rs.getLast? = some r := ⟨d.rs.getLast hne, List.getLast?_eq_getLast hne⟩
  have rn : d.rs[rv 0 d.rs - 0]? = some r := by
    rw [← hlast, List.getLast?_eq_getElem?]
    congr 1
    unfold rv
    omega
  refine ⟨_, rfl, _, rfl, d.p, d.c.1, _, rfl, g6.pr.ob, rfl, d.p, d.D, d.c, 0, d.rs, "", rv 0 d.rs, r, rfl, g6.pr, g6.po, .inl ⟨rfl, rfl⟩, rn, g6.tb, fun H7 l7 k7 _ hT7 => ?_⟩
  obtain ⟨vs, ev, pr⟩ := hT7
  refine ⟨l7, vs, r.1.map l3, l3 l, ⟨al, rfl, k7.tup0 el⟩, rfl, .inl (SqL.of ev), tris_part pr, ?_⟩
  generalize hbb : (if false = true then !decide (l3 l ∈ r.1.map l3) else decide (l3 l ∈ r.1.map l3)) = bb
  have hmem : bb = true → l ∈ r.1 := fun z => by
    rw [← hbb, if_neg (by decide), mem_l3] at z
    exact of_decide_eq_true z
  have g7 := g6.kp0 k7
  have el7 := k7.tup0 el
  have ed7 := k7.lst0 ed6
  refine ⟨_, rfl, d.p, d.c.1, _, rfl, g7.pr.ob, rfl, bb, dr, _, fun kd => KindOk kd l r.1, rfl, rfl, ed7, rfl, fun z => .inr ⟨rfl, hmem z⟩, .inl rfl, fun kd2 hkd => ⟨by show 1 ≤ sizeLine; decide, fun t8 h8 => ?_⟩⟩
  have k8 := Kp.new (S := Nil) (o := .tup [.str kd2]) h8
  have e8 : (upd H7 t8 (.tup [.str kd2])) t8 = some (.tup [.str kd2]) := upd_same
  generalize hH8 : upd H7 t8 (.tup [.str kd2]) = H8 at k8 e8
  refine ⟨_, rfl, t8, al, _, _, rfl, rfl, SqT.of e8, SqT.of (k8.tup0 el7), by simp, by show 1 + 3 ≤ sizeLine; decide, fun z => by simp at z, fun _ t9 h9 => ⟨by show 1 ≤ sizeLine; decide, fun ul hul => ?_⟩⟩
  have k9 := Kp.new (S := Nil) (o := .tup ([.str kd2] ++ [.str l.1, .str l.2.1, .str l.2.2])) h9
  have k10 := Kp.new (S := Nil) (o := .lst [.ref t9]) hul
  have hU10 : UpdAt (upd (upd H8 t9 (.tup ([.str kd2] ++ [.str l.1, .str l.2.1, .str l.2.2]))) ul (.lst [.ref t9])) ul kd2 l := ⟨t9, upd_same, k10.tup0 upd_same⟩
  have g10 := g7.kp0 (k8.trans (k9.trans k10))
  generalize hH10 : upd (upd H8 t9 (.tup ([.str kd2] ++ [.str l.1, .str l.2.1, .str l.2.2]))) ul (.lst [.ref t9]) = H10 at hU10 g10
  refine ⟨d.p, d.D, d.c, 0, d.rs, ul, kd2, l, r, rfl, g10.pr, g10.po, by omega, hU10, hU, hlast, hkd, d.nD .c trivial, fun b hb => g10.new hb, fun H11 r' s' k11 hp' ho' => ?_⟩
  exact k H11 _ _ (g10.write k11 hp' ho') ⟨rfl, rfl, rfl, rfl⟩ (Nat.le_succ _) ⟨_, _, _, _, _, rfl⟩
end
end Au
/-! Authsync: the law's loop: a text is stored, an entry received, a text read. -/
namespace Au
open PySem PySem.Spec PyProof.Rows L2
theorem t_len {i : Nat} (h : i < 46) : ("t" : Str).length + (Str.ofString (toString (0 + (i : Int)))).length ≤ sizeLine := by
  have : ∀ n : Nat, n < 46 → ("t" : Str).length + (Str.ofString (toString (n : Int))).length ≤ 1000 := by decide +kernel
  rw [Int.zero_add]
  exact Nat.le_trans (this i h) (by decide)
theorem t_log {i : Nat} (h : i < 46) : (0 + (i : Int)).natAbs.log2 < 1920 := by
  rw [Int.zero_add]
  exact Nat.lt_of_le_of_lt (Nat.log2_le_self _) (by omega)
section
variable {P : Program} {w : World} {K : PySem.W.Frag} {mg : Str → Option Value} {base : Heap} {cdv : Value} {A : Around} {outer : List Env} {s : Shared} {Hs : Hp} {E : XK}
theorem ps_pt (T : Top K mg base) (Y : TopX P K) (hr : Room 13 (XL P w K mg base cdv A outer s Hs E).A) : PSs (XL P w K mg base cdv A outer s Hs E) (ifBody lawI1) (tBr K fun _ => True) := by
  have cs := ok_is_put (P := P) (w := w) T Y
  obtain ⟨fd1, F1, b1⟩ := cs.ex
  refine PSs_imp (pss_one (ps_if (pt_not (pt_val (pe_call F1 (hr.mono (by decide)) rfl T.g__law_is_put cs.kp b1 .nil pass0 (pa_cons (pv 2) (pa_cons (pv 1) (pa_cons (pv 4) (pa_cons (pv 8) (pa_cons (pe_op op_add_str pe_str (pe_callTy call_str_int (by rfl) T.f_str (by decide +kernel) (pa_cons (pv 5) pa_nil))) pa_nil)))))))) (pss_one ps_never) pss_nil)) ?_
  intro D σ H hh
  obtain ⟨H0, a, d, i, dr, kd, t, u, ds, hT, _, k⟩ := hh
  obtain ⟨g, hs, ht, hu, ed, hl, hb, hk⟩ := hT
  have hs' := hs
  obtain ⟨x10, x11, x12, x13, x14, rfl⟩ := hs
  refine ⟨_, rfl, _, rfl, _, rfl, _, rfl, _, rfl, _, rfl, t_log hk, _, _, rfl, rfl, t_len hk, d, H0, t, _, rfl, g, ht, fun H' d' g' fx hB => ⟨true, rfl, iteF ?_⟩⟩
  exact k H' d' _ g' fx (by omega) (hs'.fix fx)
theorem ps_rc (T : Top K mg base) (hr : Room 13 (XL P w K mg base cdv A outer s Hs E).A) : PSs (XL P w K mg base cdv A outer s Hs E) (ifBody lawI2) (tBr K fun d => 0 < rv 0 d.rs) := by
  have cs := ok_receive (P := P) (w := w) T
  obtain ⟨fd1, F1, b1⟩ := cs.ex
  have cs2 := ok_Primary_entry (P := P) (w := w) T
  obtain ⟨fd2, F2, b2⟩ := cs2.ex
  have cs3 := ok_Primary_revision (P := P) (w := w) T
  obtain ⟨fd3, F3, b3⟩ := cs3.ex
  refine PSs_imp (pss_one (ps_expr (pe_meth (pe_ix ix_list (pv 3) (pe_op op_mod (pe_callTy call_int1 (by rfl) T.f_int (by decide +kernel) (pa_cons (pe_ix ix_list (pv 6) pe_int (fun _ _ => rfl)) pa_nil)) pe_int) (fun _ _ => rfl)) T.c_Replica T.m_Replica_receive F1 (hr.mono (by decide)) b1 .nil pass0
    (pa_cons (pe_meth (pv 1) T.c_Primary T.m_Primary_entry F2 (hr.mono (by decide)) b2 .nil pass0 (pa_cons (pe_op op_add pe_int (pe_op op_mod (pe_callTy call_int1 (by rfl) T.f_int (by decide +kernel) (pa_cons (pe_ix ix_list (pv 6) pe_int (fun _ _ => rfl)) pa_nil)) (pe_meth0 (pv 1) T.c_Primary T.m_Primary_revision F3 (hr.mono (by decide)) b3 .nil pass0))) pa_nil)) pa_nil)))) ?_
  intro D σ H hh
  obtain ⟨H0, a, d, i, dr, kd, t, u, ds, hT, hpos, k⟩ := hh
  obtain ⟨g, hs, ht, hu, ed, hl, hb, hk⟩ := hT
  have hs' := hs
  obtain ⟨x10, x11, x12, x13, x14, rfl⟩ := hs
  obtain ⟨d0, d1, d2, d3, d4, d5, d6, d7, rfl⟩ := eight hl
  obtain ⟨b, hat⟩ : ∃ b, atI [V.ref (d.z false), .ref (d.z true)] ((d5 : Int) % 2) = some (.ref (d.z b)) := by
    obtain h | h : (d5 : Int) % 2 = 0 ∨ (d5 : Int) % 2 = 1 := by omega
    · rw [h]; exact ⟨false, rfl⟩
    · rw [h]; exact ⟨true, rfl⟩
  obtain ⟨tb, ez, _⟩ := (g.rp b).ob
  have hrl : rv 0 d.rs = d.rs.length - 1 := by unfold rv; omega
  have hle := (g.ro b).le
  have hmod : d6 % rv 0 d.rs < rv 0 d.rs := Nat.mod_lt _ hpos
  refine ⟨_, rfl, _, rfl, dr, _, 5, natV d5, rfl, rfl, SqL.of ed, rfl, .inl ⟨_, rfl, _, _, rfl, rfl, by show (0 : Int) < 2; decide, d.rl, _, _, .ref (d.z b), rfl, rfl, SqL.of g.rl, hat, ?_⟩⟩
  refine ⟨d.z b, (d.cz b).1, _, rfl, ez, rfl, ?_⟩
  refine ⟨_, rfl, d.p, d.c.1, _, rfl, g.pr.ob, rfl, _, rfl, dr, _, 6, natV d6, rfl, rfl, SqL.of ed, rfl, .inl ⟨_, rfl, ?_⟩⟩
  refine ⟨_, rfl, d.p, d.c.1, _, rfl, g.pr.ob, rfl, d.p, d.D, d.c, 0, d.rs, rfl, g.pr, g.po, fun H1 k1 => ?_⟩
  have g1 := g.kp0 k1
  refine ⟨_, _, rfl, rfl, by show (0 : Int) < (rv 0 d.rs : Int); omega, _, _, rfl, rfl, ?_⟩
  generalize hn : 1 + d6 % rv 0 d.rs = n
  have h0 : d.rs[n - 1 - 0]? = some d.rs[n - 1] := List.getElem?_eq_getElem (by omega)
  have h1 : d.rs[n - 0]? = some d.rs[n] := List.getElem?_eq_getElem (by omega)
  refine ⟨d.p, d.D, d.c, 0, d.rs, n, _, _, by rw [← hn]; rfl, g1.pr, g1.po, by omega, by omega, h0, h1, fun H2 e gg ll k2 ee hg hll => ?_⟩
  have g2 := g1.kp0 k2
  have t1 : tabN d.rs n = d.rs[n].2 := by
    unfold tabN
    rw [show d.rs[n]? = some d.rs[n] from h1]
  have t0 : tabN d.rs (n - 1) = d.rs[n - 1].2 := by
    unfold tabN
    rw [show d.rs[n - 1]? = some d.rs[n - 1] from h0]
  have hg' : TriL H2 gg (chgN d.rs n).1 := by
    show TriL H2 gg (sortT (without (tabN d.rs n) (tabN d.rs (n - 1))))
    rw [t1, t0]
    exact hg
  have hl' : TriL H2 ll (chgN d.rs n).2 := by
    show TriL H2 ll (sortT (without (tabN d.rs (n - 1)) (tabN d.rs n)))
    rw [t1, t0]
    exact hll
  refine ⟨d.z b, d.D, d.cz b, d.nz b, d.ts b, d.B, d.rs, n, e, gg, ll, rfl, g2.rp b, g2.ro b, by omega, by omega, ee, hg', hl', g2.tb, d.nD (.z b) trivial, d.nD (.e b) trivial, fun b hb => g2.new hb, fun H3 n' ts' j k3 R3 O3 => ?_⟩
  exact k H3 _ _ (g2.receive k3 R3 O3) ⟨rfl, rfl, rfl, rfl⟩ (Nat.le_refl _) ⟨_, _, _, _, _, rfl⟩
theorem ps_rd (T : Top K mg base) (Y : TopX P K) (hr : Room 13 (XL P w K mg base cdv A outer s Hs E).A) : PSs (XL P w K mg base cdv A outer s Hs E) (ifBody lawI3) (tBr K fun _ => True) := by
  have nd := sc_law.nd
  have cs := ok_is_read (P := P) (w := w) T Y
  obtain ⟨fd1, F1, b1⟩ := cs.ex
  refine PSs_imp (pss_cons (ps_set (i := 12) nd rfl (.inl rfl) (pe_ix ix_list (pe_lst (pa_cons (pv 1) (pa_cons (pe_ix ix_list (pv 3) pe_int (fun _ _ => rfl)) (pa_cons (pe_ix ix_list (pv 3) pe_int (fun _ _ => rfl)) pa_nil))))
      (pe_op op_mod (pe_callTy call_int1 (by rfl) T.f_int (by decide +kernel) (pa_cons (pe_ix ix_list (pv 6) pe_int (fun _ _ => rfl)) pa_nil)) pe_int) (fun _ _ => rfl)))
    (pss_one (ps_if (pt_not (pt_val (pe_call F1 (hr.mono (by decide)) rfl T.g__law_is_read cs.kp b1 .nil pass0 (pa_cons (pv 2) (pa_cons (pv 1) (pa_cons (pv 12) (pa_cons (pv 4) (pa_cons (pv 8) (pa_cons (pv 9) pa_nil))))))))) (pss_one ps_never) pss_nil))) ?_
  intro D σ H hh
  obtain ⟨H0, a, d, i, dr, kd, t, u, ds, hT, _, k⟩ := hh
  obtain ⟨g, hs, ht, hu, ed, hl, hb, hk⟩ := hT
  obtain ⟨x10, x11, x12, x13, x14, rfl⟩ := hs
  obtain ⟨d0, d1, d2, d3, d4, d5, d6, d7, rfl⟩ := eight hl
  refine ⟨_, rfl, _, rfl, d.rl, _, 0, .ref (d.z false), rfl, rfl, SqL.of g.rl, rfl, _, rfl, d.rl, _, 1, .ref (d.z true), rfl, rfl, SqL.of g.rl, rfl, by show 3 ≤ sizeLine; decide, fun ll hll => ?_⟩
  have k1 : Kp Nil H (upd H ll (.lst [.ref d.p, .ref (d.z false), .ref (d.z true)])) := Kp.new hll
  have e1 : (upd H ll (.lst [.ref d.p, .ref (d.z false), .ref (d.z true)])) ll = some (.lst [.ref d.p, .ref (d.z false), .ref (d.z true)]) := upd_same
  generalize hH1 : upd H ll (.lst [.ref d.p, .ref (d.z false), .ref (d.z true)]) = H1 at k1 e1
  have g1 := g.kp0 k1
  refine ⟨_, rfl, dr, _, 5, natV d5, rfl, rfl, SqL.of (k1.lst0 ed), rfl, .inl ⟨_, rfl, _, _, rfl, rfl, by show (0 : Int) < 3; decide, ?_⟩⟩
  have hne := g.po.ne
  obtain ⟨r, hlast⟩ : ∃ r, d.rs.getLast? = some r := ⟨d.rs.getLast hne, List.getLast?_eq_getLast hne⟩
  have h40 : ∀ x ∈ d.Vs t, x.2 ≤ 40 := fun x hx => Nat.le_trans (g.bd t x hx) g.po.rv_le.2
  obtain h | h | h : (d5 : Int) % 3 = 0 ∨ (d5 : Int) % 3 = 1 ∨ (d5 : Int) % 3 = 2 := by omega
  · refine ⟨ll, _, _, .ref d.p, rfl, rfl, SqL.of e1, by rw [h]; rfl, ?_⟩
    refine ⟨_, rfl, _, rfl, _, rfl, _, rfl, _, rfl, _, rfl, .inl ⟨d.q, d.p, d.cq, d.ls, d.Vs, d.n, d.D, d.c, 0, d.rs, r, t, u, d.vd, d.ms, rfl, g1.ct, g1.pr, g1.po, g1.tb, quest_v ht hu, hlast, g.bd t, g1.lv, ht, fun H2 k2 => ⟨true, rfl, iteF ?_⟩⟩⟩
    exact k H2 d _ (g1.kp0 k2) (Dat.Fix.refl d) (Nat.le_succ _) ⟨_, _, _, _, _, rfl⟩
  · refine ⟨ll, _, _, .ref (d.z false), rfl, rfl, SqL.of e1, by rw [h]; rfl, ?_⟩
    refine ⟨_, rfl, _, rfl, _, rfl, _, rfl, _, rfl, _, rfl, .inr ⟨d.q, d.p, d.cq, d.ls, d.Vs, d.n, d.D, d.c, d.rs, d.z false, d.cz false, d.nz false, d.ts false, d.B, t, u, d.vd, d.ms, rfl, g1.ct, g1.pr, g1.po, g1.rp false, g1.ro false, g1.tb, h40, g1.lv, ht, fun H2 k2 => ⟨true, rfl, iteF ?_⟩⟩⟩
    exact k H2 d _ (g1.kp0 k2) (Dat.Fix.refl d) (Nat.le_succ _) ⟨_, _, _, _, _, rfl⟩
  · refine ⟨ll, _, _, .ref (d.z true), rfl, rfl, SqL.of e1, by rw [h]; rfl, ?_⟩
    refine ⟨_, rfl, _, rfl, _, rfl, _, rfl, _, rfl, _, rfl, .inr ⟨d.q, d.p, d.cq, d.ls, d.Vs, d.n, d.D, d.c, d.rs, d.z true, d.cz true, d.nz true, d.ts true, d.B, t, u, d.vd, d.ms, rfl, g1.ct, g1.pr, g1.po, g1.rp true, g1.ro true, g1.tb, h40, g1.lv, ht, fun H2 k2 => ⟨true, rfl, iteF ?_⟩⟩⟩
    exact k H2 d _ (g1.kp0 k2) (Dat.Fix.refl d) (Nat.le_succ _) ⟨_, _, _, _, _, rfl⟩
end
end Au
/-! Authsync: the law. -/
namespace Au
open PySem PySem.Spec PyProof.Rows L2
def tTurn (K : PySem.W.Frag) : TS := fun D σ H => ∃ H0 a d i dr kd t u ds, Turn K H0 H a d i dr kd t u ds σ ∧ Left K H0 a d i dr kd t u D.nx
theorem Turn.kp0 {K : PySem.W.Frag} {H0 H H' : Hp} {a : Addr} {d : Dat} {i : Nat} {dr : Addr} {kd : Int} {t u : Str} {ds : List Nat} {σ : L2.St} (k : Kp Nil H H') (h : Turn K H0 H a d i dr kd t u ds σ) : Turn K H0 H' a d i dr kd t u ds σ :=
  ⟨h.g.kp0 k, h.s, h.t, h.u, k.lst0 h.e, h.l, h.b, h.k⟩
def spLaw (K : PySem.W.Frag) : Sp := fun vs H Q _ => ∃ (a : Addr) (ns : List Int), vs = [.ref a] ∧ SqL K H a (ns.map V.int) ∧ Tabs K H ∧ ∀ H', Q (.bl true) H'
theorem rep_none {H H1 : Hp} (k : Kp Nil H H1) {q dx : Addr} {o : HO} {b : Addr} (h : (upd (upd H1 dx (.own q)) q o) b = none) : H b = none := k.fr _ (f1 (f1 h))
section
variable {P : Program} {w : World} {K : PySem.W.Frag} {mg : Str → Option Value} {base : Heap}
theorem ps_turn {cdv : Value} {A : Around} {outer : List Env} {s : Shared} {Hs : Hp} {E : XK} (T : Top K mg base) (Y : TopX P K) (hr : Room 13 (XL P w K mg base cdv A outer s Hs E).A) : PS (XL P w K mg base cdv A outer s Hs E) lawI0 (tTurn K) := by
  have cs := ok_Primary_revision (P := P) (w := w) T
  obtain ⟨fd1, F1, b1⟩ := cs.ex
  refine PS_imp (ps_if (PW.pt (pw_and (pt_cmpR op_eq (pv 7) pe_int (nomark _)) (pw_and1 (pt_cmpR op_lt (pe_meth0 (pv 1) T.c_Primary T.m_Primary_revision F1 (hr.mono (by decide)) b1 .nil pass0) pe_int (nomark _))))) (ps_wr T hr)
    (pss_one (ps_if (pt_cmpR op_eq (pv 7) pe_int (nomark _)) (ps_pt T Y hr)
    (pss_one (ps_if (PW.pt (pw_and (pt_cmpR op_eq (pv 7) pe_int (nomark _)) (pw_and1 (pt_cmpR op_gt (pe_meth0 (pv 1) T.c_Primary T.m_Primary_revision F1 (hr.mono (by decide)) b1 .nil pass0) pe_int (nomark _))))) (ps_rc T hr)
    (pss_one (ps_if (pt_cmpR op_gt (pv 7) pe_int (nomark _)) (ps_rd T Y hr) pss_nil))))))) ?_
  intro D σ H hh
  obtain ⟨H0, a, d, i, dr, kd, t, u, ds, hT, k⟩ := hh
  have hs := hT.s
  obtain ⟨x10, x11, x12, x13, x14, eσ⟩ := hs
  subst eσ
  have done : ∀ H1, Kp Nil H H1 → D.nx _ H1 := fun H1 k1 => k H1 d _ (hT.g.kp0 k1) (Dat.Fix.refl d) (Nat.le_succ _) hT.s
  refine ⟨_, rfl, rfl, _, rfl, itb (fun c1 => ?_) fun c1 => ?_⟩
  · refine ⟨_, rfl, d.p, d.c.1, _, rfl, hT.g.pr.ob, rfl, d.p, d.D, d.c, 0, d.rs, rfl, hT.g.pr, hT.g.po, fun H1 k1 => ⟨_, _, rfl, rfl, _, rfl, itb (fun c2 => ?_) fun c2 => ?_⟩⟩
    · have hlt : rv 0 d.rs < 30 := by
        have := of_decide_eq_true c2
        omega
      exact ⟨H0, a, d, i, dr, kd, t, u, ds, hT.kp0 k1, hlt, k⟩
    · have hk0 : kd = 0 := V.int.inj (of_decide_eq_true c1)
      subst hk0
      refine ⟨_, rfl, rfl, _, rfl, iteN (by decide) ?_⟩
      refine ⟨_, rfl, rfl, _, rfl, iteN (by decide) ?_⟩
      exact ⟨_, rfl, _, _, rfl, rfl, _, rfl, iteN (by decide) (done H1 k1)⟩
  · refine ⟨_, rfl, rfl, _, rfl, itb (fun c2 => ?_) fun c2 => ?_⟩
    · exact ⟨H0, a, d, i, dr, kd, t, u, ds, hT, trivial, k⟩
    · refine ⟨_, rfl, rfl, _, rfl, itb (fun c3 => ?_) fun c3 => ?_⟩
      · refine ⟨_, rfl, d.p, d.c.1, _, rfl, hT.g.pr.ob, rfl, d.p, d.D, d.c, 0, d.rs, rfl, hT.g.pr, hT.g.po, fun H1 k1 => ⟨_, _, rfl, rfl, _, rfl, itb (fun c4 => ?_) fun c4 => ?_⟩⟩
        · have hlt : 0 < rv 0 d.rs := by
            have := of_decide_eq_true c4
            omega
          exact ⟨H0, a, d, i, dr, kd, t, u, ds, hT.kp0 k1, hlt, k⟩
        · have hk0 : kd = 2 := V.int.inj (of_decide_eq_true c3)
          subst hk0
          exact ⟨_, rfl, _, _, rfl, rfl, _, rfl, iteN (by decide) (done H1 k1)⟩
      · refine ⟨_, rfl, _, _, rfl, rfl, _, rfl, itb (fun c4 => ?_) fun c4 => ?_⟩
        · exact ⟨H0, a, d, i, dr, kd, t, u, ds, hT, trivial, k⟩
        · exact done H Kp.refl
theorem ok_law (T : Top K mg base) (Y : TopX P K) {fd : FuncData} (F : FunOf K Au.d_law fd) : FnOk P w K mg base CX0 14 (He.fAd K ("law", none)) fd ["_law_script"] (spLaw K) := by
  have cs1 := ok_law_store (P := P) (w := w) T
  obtain ⟨fd1, F1, b1⟩ := cs1.ex
  have cs2 := ok_Cont_init (P := P) (w := w) T
  obtain ⟨fd2, F2, b2⟩ := cs2.ex
  have cs3 := ok_Replica_init (P := P) (w := w) T
  obtain ⟨fd3, F3, b3⟩ := cs3.ex
  have cs4 := ok_Primary_snapshot (P := P) (w := w) T
  obtain ⟨fd4, F4, b4⟩ := cs4.ex
  have cs5 := ok_cell (P := P) (w := w) T
  obtain ⟨fd5, F5, b5⟩ := cs5.ex
  have cs6 := ok_draws (P := P) (w := w) T
  obtain ⟨fd6, F6, b6⟩ := cs6.ex
  have cs7 := ok_Primary_compact (P := P) (w := w) T
  obtain ⟨fd7, F7, b7⟩ := cs7.ex
  have cs8 := ok_Primary_revision (P := P) (w := w) T
  obtain ⟨fd8, F8, b8⟩ := cs8.ex
  have cs9 := ok_is_read (P := P) (w := w) T Y
  obtain ⟨fd9, F9, b9⟩ := cs9.ex
  refine FunD.ok F sc_law (fun vs H Q E h => ?_) (fun cdv A outer s H vs Q E hr h => ?_)
  · obtain ⟨a, ns, rfl, _⟩ := h
    rfl
  · obtain ⟨a, ns, rfl, hS, ht, qq⟩ := h
    have nd := sc_law.nd
    refine ⟨_, pss_cons (ps_set (i := 1) nd rfl (.inl rfl) (pe_call F1 hr rfl T.g__law_store cs1.kp b1 .nil pass0 (pa_cons (pv 0) (pa_cons pe_int (pa_cons pe_int pa_nil)))))
      (pss_cons (ps_set (i := 2) nd rfl (.inl rfl) (pe_make T.k_ContentStore F2 (hr.mono (by decide)) rfl T.g_ContentStore b2 .nil pass0 (pa_cons (pv 1) pa_nil)))
      (pss_cons (ps_set (i := 3) nd rfl (.inl rfl) (pe_lst
        (pa_cons (pe_make T.k_Replica F3 (hr.mono (by decide)) rfl T.g_Replica b3 .nil pass0 (pa_cons (pe_meth (pv 1) T.c_Primary T.m_Primary_snapshot F4 (hr.mono (by decide)) b4 .nil pass0 (pa_cons pe_str pa_nil)) pa_nil))
        (pa_cons (pe_make T.k_Replica F3 (hr.mono (by decide)) rfl T.g_Replica b3 .nil pass0 (pa_cons (pe_meth (pv 1) T.c_Primary T.m_Primary_snapshot F4 (hr.mono (by decide)) b4 .nil pass0 (pa_cons pe_str pa_nil)) pa_nil)) pa_nil))))
      (pss_cons (ps_set (i := 4) nd rfl (.inl rfl) (pe_disp (pps_cons pe_str (pe_lst pa_nil) (pps_cons pe_str (pe_lst pa_nil) pps_nil)) (by rfl) (by rfl) (fun z => by cases z) (by decide)))
      (pss_cons (ps_for (passes_of rfl) rfl (pi_range1 (by rfl) T.f_range (pa_cons (pe_op op_mod (pe_call F5 (hr.mono (by decide)) rfl T.g__law_cell cs5.kp b5 .nil pass0 (pa_cons (pv 0) (pa_cons pe_int pa_nil))) pe_int) pa_nil)) (pg_name (i := 5) nd rfl (.inl rfl))
        (pss_cons (ps_set (i := 6) nd rfl (.inl rfl) (pe_call F6 (hr.mono (by decide)) rfl T.g__law_draws cs6.kp b6 .nil pass0 (pa_cons (pe_call F5 (hr.mono (by decide)) rfl T.g__law_cell cs5.kp b5 .nil pass0 (pa_cons (pv 0) (pa_cons (pe_op op_add pe_int (pv 5)) pa_nil))) (pa_cons pe_int pa_nil))))
        (pss_cons (ps_set (i := 7) nd rfl (.inl rfl) (pe_op op_mod (pe_callTy call_int1 (by rfl) T.f_int (by decide +kernel) (pa_cons (pe_ix ix_list (pv 6) pe_int (fun _ _ => rfl)) pa_nil)) pe_int))
        (pss_cons (ps_set (i := 8) nd rfl (.inl rfl) (pe_op op_add_str pe_str (pe_ix ix_str pe_str (pe_op op_mod (pe_callTy call_int1 (by rfl) T.f_int (by decide +kernel) (pa_cons (pe_ix ix_list (pv 6) pe_int (fun _ _ => rfl)) pa_nil)) pe_int) (fun _ _ => rfl))))
        (pss_cons (ps_set (i := 9) nd rfl (.inl rfl) (pe_op op_add_str pe_str (pe_ix ix_str pe_str (pe_op op_mod (pe_callTy call_int1 (by rfl) T.f_int (by decide +kernel) (pa_cons (pe_ix ix_list (pv 6) pe_int (fun _ _ => rfl)) pa_nil)) pe_int) (fun _ _ => rfl))))
        (pss_cons (ps_turn T Y hr) (pss_one (ps_chk T hr))))))))
      (pss_cons (ps_expr (pe_meth (pv 1) T.c_Primary T.m_Primary_compact F7 (hr.mono (by decide)) b7 .nil pass0 (pa_cons (pe_meth0 (pv 1) T.c_Primary T.m_Primary_revision F8 (hr.mono (by decide)) b8 .nil pass0) pa_nil)))
      (pss_one (ps_ret (pe_call F9 (hr.mono (by decide)) rfl T.g__law_is_read cs9.kp b9 .nil pass0 (pa_cons (pv 2) (pa_cons (pv 1) (pa_cons (pv 1) (pa_cons (pv 4) (pa_cons pe_str (pa_cons pe_str pa_nil)))))))))))))), ?_⟩
    refine ⟨_, rfl, a, 3, rfl, ht, fun H1 p c r k1 hp hc ncp hP hr => ?_⟩
    have hO : PrimOk 0 [r] := ⟨by simp, fun y hy => by rw [List.mem_singleton.mp hy]; exact hr, by show 0 + 1 ≤ 41; decide⟩
    -- the store of contents
    refine ⟨_, rfl, fun q dq hq hdq ndq => ?_⟩
    have k2a : Kp Nil H1 (upd H1 dq (.own q)) := Kp.new hdq
    have hq' : (upd H1 dq (.own q)) q = none := by rw [upd_ne (Ne.symm ndq)]; exact hq
    have k2b : Kp Nil (upd H1 dq (.own q)) (upd (upd H1 dq (.own q)) q (.ins (He.ga K "ContentStore") dq [])) := Kp.new hq'
    have k2c := k2a.trans k2b
    have e2 : (upd (upd H1 dq (.own q)) q (.ins (He.ga K "ContentStore") dq [])) q = some (.ins (He.ga K "ContentStore") dq []) := upd_same
    generalize hG2 : upd (upd H1 dq (.own q)) q (.ins (He.ga K "ContentStore") dq []) = G2 at k2c e2
    refine ⟨q, p, dq, rfl, e2, fun H2 cd ls k2d hcd hC => ⟨rfl, ?_⟩⟩
    have k2 : Kp Nil H1 H2 := k2c.less k2d fun b (hb : b = q) => .inr (by rw [hb]; exact hq)
    have hcd1 : H1 cd = none := k2c.fr _ hcd
    have hP2 := hP.kp0 k2
    have ht2 := (ht.kp k1).kp k2
    -- the first replica
    refine ⟨_, rfl, p, c.1, _, rfl, hP2.ob, rfl, p, _, c, 0, [r], "", 0, r, rfl, hP2, hO, .inl ⟨rfl, rfl⟩, rfl, ht2, fun H3 st l3 k3 _ est hTl => ?_⟩
    refine fun z0 dz0 hz0 hdz0 ndz0 => ?_
    have k3a : Kp Nil H3 (upd H3 dz0 (.own z0)) := Kp.new hdz0
    have hz0' : (upd H3 dz0 (.own z0)) z0 = none := by rw [upd_ne (Ne.symm ndz0)]; exact hz0
    have k3b : Kp Nil (upd H3 dz0 (.own z0)) (upd (upd H3 dz0 (.own z0)) z0 (.ins (He.ga K "Replica") dz0 [])) := Kp.new hz0'
    have k3c := k3.trans (k3a.trans k3b)
    have e3 : (upd (upd H3 dz0 (.own z0)) z0 (.ins (He.ga K "Replica") dz0 [])) z0 = some (.ins (He.ga K "Replica") dz0 []) := upd_same
    have est3 := (k3a.trans k3b).tup0 est
    have hTl3 := hTl.kp0 (k3a.trans k3b)
    generalize hG3 : upd (upd H3 dz0 (.own z0)) z0 (.ins (He.ga K "Replica") dz0 []) = G3 at k3c e3 est3 hTl3
    refine ⟨z0, st, l3, dz0, _, r.2, rfl, e3, est3, hTl3, fun H4 tb0 ld0 k4 htb0 hld0 ntl0 ez0 hT0 eld0 => ⟨rfl, ?_⟩⟩
    have hz00 : H2 z0 = none := k3.fr _ hz0
    have k24 : Kp Nil H2 H4 := k3c.less k4 fun b (hb : b = z0) => .inr (by rw [hb]; exact hz00)
    have N0 : NewRep K H2 H4 z0 (dz0, ld0) (sortT r.2) := ⟨⟨tb0, ez0, hT0, k3c.fr _ htb0⟩, eld0, hz00, k3c.fr _ hld0⟩
    have hP4 := hP2.kp0 k24
    have ht4 := ht2.kp k24
    -- the second replica
    refine ⟨_, rfl, p, c.1, _, rfl, hP4.ob, rfl, p, _, c, 0, [r], "", 0, r, rfl, hP4, hO, .inl ⟨rfl, rfl⟩, rfl, ht4, fun H5 st1 l5 k5 _ est1 hTl1 => ?_⟩
    refine fun z1 dz1 hz1 hdz1 ndz1 => ?_
    have k5a : Kp Nil H5 (upd H5 dz1 (.own z1)) := Kp.new hdz1
    have hz1' : (upd H5 dz1 (.own z1)) z1 = none := by rw [upd_ne (Ne.symm ndz1)]; exact hz1
    have k5b : Kp Nil (upd H5 dz1 (.own z1)) (upd (upd H5 dz1 (.own z1)) z1 (.ins (He.ga K "Replica") dz1 [])) := Kp.new hz1'
    have k5c := k5.trans (k5a.trans k5b)
    have e5 : (upd (upd H5 dz1 (.own z1)) z1 (.ins (He.ga K "Replica") dz1 [])) z1 = some (.ins (He.ga K "Replica") dz1 []) := upd_same
    have est5 := (k5a.trans k5b).tup0 est1
    have hTl5 := hTl1.kp0 (k5a.trans k5b)
    generalize hG5 : upd (upd H5 dz1 (.own z1)) z1 (.ins (He.ga K "Replica") dz1 []) = G5 at k5c e5 est5 hTl5
    refine ⟨z1, st1, l5, dz1, _, r.2, rfl, e5, est5, hTl5, fun H6 tb1 ld1 k6 htb1 hld1 ntl1 ez1 hT1 eld1 => ⟨rfl, ?_⟩⟩
    have hz10 : H4 z1 = none := k5.fr _ hz1
    have k46 : Kp Nil H4 H6 := k5c.less k6 fun b (hb : b = z1) => .inr (by rw [hb]; exact hz10)
    have N1 : NewRep K H4 H6 z1 (dz1, ld1) (sortT r.2) := ⟨⟨tb1, ez1, hT1, k5c.fr _ htb1⟩, eld1, hz10, k5c.fr _ hld1⟩
    -- the list of them, the law's own versions
    refine ⟨by show 2 ≤ sizeLine; decide, fun rl hrl => ?_⟩
    have k7 : Kp Nil H6 (upd H6 rl (.lst [.ref z0, .ref z1])) := Kp.new hrl
    have erl : (upd H6 rl (.lst [.ref z0, .ref z1])) rl = some (.lst [.ref z0, .ref z1]) := upd_same
    generalize hH7 : upd H6 rl (.lst [.ref z0, .ref z1]) = H7 at k7 erl
    refine fun vd hvd => ?_
    have k8 : Kp Nil H7 (upd H7 vd (.dK [])) := Kp.new hvd
    have evd : (upd H7 vd (.dK [])) vd = some (.dK []) := upd_same
    generalize hH8 : upd H7 vd (.dK []) = H8 at k8 evd
    refine ⟨by show 0 ≤ sizeLine; decide, fun m0 hm0 => ?_⟩
    have k9 : Kp Nil H8 (upd H8 m0 (.lst [])) := Kp.new hm0
    have em0 : (upd H8 m0 (.lst [])) m0 = some (.lst []) := upd_same
    generalize hH9 : upd H8 m0 (.lst []) = H9 at k9 em0
    refine ⟨by show 0 ≤ sizeLine; decide, fun m1 hm1 => ?_⟩
    have k10 : Kp Nil H9 (upd H9 m1 (.lst [])) := Kp.new hm1
    have em1 : (upd H9 m1 (.lst [])) m1 = some (.lst []) := upd_same
    have nm : m0 ≠ m1 := ne_of_none em0 hm1
    generalize hH10 : upd H9 m1 (.lst []) = H10 at k10 em1
    have evd10 := k10.dK0 (k9.dK0 evd)
    refine ⟨evd10, [(.inr "d:p", .ref m0), (.inr "d:q", .ref m1)], rfl, by show 2 ≤ 15; decide, ?_⟩
    have k11 : Kp (Only vd) H10 (upd H10 vd (.dK (mergeK [] [(.inr "d:p", .ref m0), (.inr "d:q", .ref m1)]))) := Kp.put evd10 nt_dK rfl
    have hv0 : valV (mergeK [] [((.inr "d:p" : Key), V.ref m0), (.inr "d:q", .ref m1)]) (.inr "d:p") = some (.ref m0) := by rfl
    have hv1 : valV (mergeK [] [((.inr "d:p" : Key), V.ref m0), (.inr "d:q", .ref m1)]) (.inr "d:q") = some (.ref m1) := by rfl
    have evd11 : (upd H10 vd (.dK (mergeK [] [(.inr "d:p", .ref m0), (.inr "d:q", .ref m1)]))) vd = some (.dK (mergeK [] [(.inr "d:p", .ref m0), (.inr "d:q", .ref m1)])) := upd_same
    generalize mergeK [] [((.inr "d:p" : Key), V.ref m0), (.inr "d:q", .ref m1)] = mk at k11 hv0 hv1 evd11
    have erl11 := k11.old _ _ ((k8.trans (k9.trans k10)).lst0 erl) (ne_of ((k8.trans (k9.trans k10)).lst0 erl) evd10 fun z => by cases z) nt_lst
    have em011 := k11.old _ _ (k10.lst0 em0) (ne_of (k10.lst0 em0) evd10 fun z => by cases z) nt_lst
    have em111 := k11.old _ _ em1 (ne_of em1 evd10 fun z => by cases z) nt_lst
    generalize hH11 : upd H10 vd (.dK mk) = H11 at k11 evd11 erl11 em011 em111
    have k67 := k7
    have hvd6 : H6 vd = none := k7.fr _ hvd
    have hm06 : H6 m0 = none := k7.fr _ (k8.fr _ hm0)
    have hm16 : H6 m1 = none := k7.fr _ (k8.fr _ (k9.fr _ hm1))
    have k6b : Kp Nil H6 H11 := (k7.trans (k8.trans (k9.trans k10))).less k11 fun b (hb : b = vd) => .inr (by rw [hb]; exact hvd6)
    have nr0 : rl ≠ m0 := ne_of_none (k8.lst0 erl) hm0
    have nr1 : rl ≠ m1 := ne_of_none ((k8.trans k9).lst0 erl) hm1
    have g := good0 k1 hP hp hc ncp hr k2 hC hq hcd1 k24 N0 k46 N1 k6b erl11 hrl evd11 hvd6 em011 em111 hm06 hm16 nm nr0 nr1 hv0 hv1 ht
    generalize hd0 : dat0 p c q (dq, cd) z0 z1 (dz0, ld0) (dz1, ld1) rl vd m0 m1 ls r = d0 at g
    have hB0 : d0.B = 0 := by rw [← hd0]; rfl
    have hσ0 : p = d0.p ∧ q = d0.q ∧ rl = d0.rl ∧ vd = d0.vd := by rw [← hd0]; exact ⟨rfl, rfl, rfl, rfl⟩
    obtain ⟨ep, eq, er, ev⟩ := hσ0
    have hS11 := sqL_kp0 g.k0 hS
    have hj0 : 0 ≤ cellOf ns 0 % 46 := Int.emod_nonneg _ (by decide)
    have hj1 : cellOf ns 0 % 46 < 46 := Int.emod_lt_of_pos _ (by decide)
    refine ⟨_, rfl, a, ns, 0, rfl, hS11, _, _, rfl, rfl, by show (0 : Int) < 46; decide, _, rfl, by omega, by omega, ?_⟩
    refine for_it walk_range (fun i σ H' => ∃ d, Good K H H' d ∧ d.B ≤ i ∧ ∃ x5 x6 x7 x8 x9 x10 x11 x12 x13 x14, σ = [some (.ref a), some (.ref d.p), some (.ref d.q), some (.ref d.rl), some (.ref d.vd), x5, x6, x7, x8, x9, x10, x11, x12, x13, x14])
      ⟨d0, g, Nat.le_of_eq hB0, _, _, _, _, _, _, _, _, _, _, by rw [← ep, ← eq, ← er, ← ev]; rfl⟩ (fun _ _ _ _ _ => trivial) (fun i y σ Ha Hb hi pv yy => ?_) fun σ Ha pv => ?_
    · obtain ⟨d, g, hB, x5, x6, x7, x8, x9, x10, x11, x12, x13, x14, rfl⟩ := pv
      obtain ⟨rfl, rfl⟩ := yy
      have hi46 : i < 46 := by
        have h1 : i < (cellOf ns 0 % 46).toNat := hi
        omega
      have hSb := sqL_kp0 g.k0 hS
      refine ⟨_, rfl, _, rfl, _, _, rfl, rfl, a, ns, 16 + i, by show [V.ref a, V.int (16 + (0 + (i : Int)))] = [V.ref a, V.int ((16 + i : Nat) : Int)]; rw [show (16 + (0 + (i : Int))) = ((16 + i : Nat) : Int) by omega], hSb, ?_⟩
      refine ⟨_, 8, rfl, by decide, fun Hc dr ds kc _ edr hdl => ?_⟩
      have gc := g.kp0 kc
      obtain ⟨e0, e1, e2, e3, e4, e5, e6, e7, eds⟩ := eight hdl
      have edr' := edr
      rw [eds] at edr'
      refine ⟨_, rfl, dr, _, 0, natV e0, rfl, rfl, SqL.of edr', rfl, .inl ⟨_, rfl, _, _, rfl, rfl, by show (0 : Int) < 6; decide, ?_⟩⟩
      obtain ⟨ct, t, hct, et, hdoc⟩ := pq_at ((e1 : Int) % 2) (Int.emod_nonneg _ (by decide)) (Int.emod_lt_of_pos _ (by decide))
      obtain ⟨cu, u, hcu, eu, hwho⟩ := abc_at ((e2 : Int) % 3) (Int.emod_nonneg _ (by decide)) (Int.emod_lt_of_pos _ (by decide))
      refine ⟨_, rfl, dr, _, 1, natV e1, rfl, rfl, SqL.of edr', rfl, .inl ⟨_, rfl, _, _, rfl, rfl, by show (0 : Int) < 2; decide, _, _, ct, rfl, rfl, by show 2 ≤ sizeLine; decide, hct, _, _, rfl, rfl, by show 2 + 1 ≤ sizeLine; decide, ?_⟩⟩
      rw [et]
      refine ⟨_, rfl, dr, _, 2, natV e2, rfl, rfl, SqL.of edr', rfl, .inl ⟨_, rfl, _, _, rfl, rfl, by show (0 : Int) < 3; decide, _, _, cu, rfl, rfl, by show 3 ≤ sizeLine; decide, hcu, _, _, rfl, rfl, by show 2 + 1 ≤ sizeLine; decide, ?_⟩⟩
      rw [eu]
      refine ⟨H, a, d, i, dr, _, t, u, ds, ⟨gc, ⟨_, _, _, _, _, rfl⟩, hdoc, hwho, edr, hdl, hB, hi46⟩, fun Hd d' σ' g' fx hB' sl => ?_⟩
      refine ⟨H, a, d', _, dr, _, t, u, g', sl, fun He σ'' g'' sl' => ?_⟩
      obtain ⟨y10, y11, y12, y13, y14, eσ⟩ := sl'
      exact ⟨d', g'', by omega, _, _, _, _, _, _, _, _, _, _, eσ⟩
    · obtain ⟨d, g, hB, x5, x6, x7, x8, x9, x10, x11, x12, x13, x14, rfl⟩ := pv
      refine ⟨_, rfl, d.p, d.c.1, _, rfl, g.pr.ob, rfl, _, rfl, d.p, d.c.1, _, rfl, g.pr.ob, rfl, d.p, d.D, d.c, 0, d.rs, rfl, g.pr, g.po, fun Hb kb => ?_⟩
      have gb := g.kp0 kb
      have hne := g.po.ne
      obtain ⟨r', hlast⟩ : ∃ r, d.rs.getLast? = some r := ⟨d.rs.getLast hne, List.getLast?_eq_getLast hne⟩
      have hr' : RevOk r' := g.po.ok r' (List.mem_of_getLast? hlast)
      refine ⟨d.p, d.D, d.c, 0, d.rs, r', rfl, gb.pr, gb.po, hlast, d.nD .p trivial, fun Hc l kc _ hPc => ?_⟩
      have tf : TupFree (Only d.p) Hb := ins_tup gb.pr.ob
      have hSp : ∀ b, Only d.p b → ∃ j, (j = Sl.p) ∧ d.live j ∧ d.ad j = b := fun b (hb : b = d.p) => ⟨.p, rfl, trivial, hb.symm⟩
      have o := gb.out hSp
      have nD := gb.keep hSp
      have hrv := g.po.rv_le
      have ctc := gb.ct.kp kc tf (o .q trivial (by intro z; cases z)) (o .d trivial (by intro z; cases z)) (fun t ht => o (.l t) ht (by intro z; cases z))
      have lvc := gb.lv.kp kc tf (fun z => nD _ z gb.dv) (fun t ht => o (.m t) ht (by intro z; cases z))
      have hOc : PrimOk (rv 0 d.rs) [r'] := ⟨by simp, fun y hy => by rw [List.mem_singleton.mp hy]; exact hr', by show rv 0 d.rs + 1 ≤ 41; omega⟩
      refine ⟨_, rfl, _, rfl, _, rfl, _, rfl, .inl ⟨d.q, d.p, d.cq, d.ls, d.Vs, d.n, d.D, (d.c.1, l), rv 0 d.rs, [r'], r', "d:p", "u:a", d.vd, d.ms, rfl, ctc, hPc, hOc, gb.tb.kp kc, quest_v (.inl rfl) (.inl rfl), rfl, fun x hx => ?_, lvc, .inl rfl, fun Hd _ => qq Hd⟩⟩
      have h1 := g.bd "d:p" x hx
      show x.2 ≤ rv 0 d.rs + 1 - 1
      omega
end
end Au
set_option maxHeartbeats 0
/-! Authsync: the part of the heap that the head reads. -/
namespace Au
open PySem PySem.Spec PyProof.Rows L2
abbrev R : PySem.W.OpenRow := PySem.W.OpenLaw.row PySem.Challenge.rw_authsync_k82_whole_contents
/-- what an object names, of what we need -/
def refsP (o : Obj) : List Addr := match o.data with
  | .seq its _ => its.toList.flatMap He.refV
  | .dict es _ => es.toList.flatMap fun e => He.refV e.val
  | .func fd => He.refV fd.code ++ He.refV fd.defaults ++ fd.closure.map (·.2)
  | .cls cd => [cd.ns]
  | _ => []
def keepP (o : Obj) : Bool := match o.data with
  | .seq _ _ => true
  | .dict _ _ => true
  | .func _ => true
  | .cls _ => true
  | .fields _ => true
  | .cell _ => true
  | _ => false
/-- what these name, and is there -/
def lvlP (g : Addr → Option Obj) (l : List (Addr × Obj)) : PySem.W.Frag := l.flatMap fun p => (refsP p.2).filterMap fun a => match g a with
  | some o => (match keepP o with
    | true => some (a, o)
    | false => none)
  | none => none
def atP (g : Addr → Option Obj) (a : Addr) : PySem.W.Frag := match g a with
  | some o => [(a, o)]
  | none => []
def fragP (g : Addr → Option Obj) : PySem.W.Frag :=
  let l0 := atP g mainGlobals
  let l1 := lvlP g l0
  let l2 := lvlP g l1
  let l3 := lvlP g l2
  let l4 := lvlP g l3
  let l5 := lvlP g l4
  l0 ++ l1 ++ l2 ++ l3 ++ l4 ++ l5 ++ atP g cStatics

/-- the frag without the empty tables -/
def fragT (g : Addr → Option Obj) : PySem.W.Frag := (fragP g).filter fun q => !He.emptyTab q.2
def loose : List PySem.Str := (["_wall", "__name__", "AuthError", "BadSchema", "Refused", "difference", "applies", "apply_change", "MOST", "REVISION_MOST", "is_sign", "is_word", "is_identifier", "type_of", "split_reference"] : List PySem.Str) ++ (["token_of", "split_token", "TYPES_MOST", "NAMES_MOST", "SUBJECTS_MOST", "TERMS_MOST", "OPERATORS", "Line", "parts_of_line", "read_subject", "read_relation", "read_term", "read_permission", "read_line", "check_duplicates"] : List PySem.Str) ++ (["entry_of", "definition", "led_types", "is_known", "needs_of", "strata", "read_schema", "conforms", "check_relationships", "check_question", "Graph", "count_of", "least", "both", "rule_count"] : List PySem.Str) ++ (["names_by_stratum", "ranks_for", "ranked", "evaluate", "MOST_REVISIONS", "MOST_RELATIONSHIPS", "Revision", "Primary", "VERSIONS_MOST", "ContentStore", "MOST_GRANTS", "MOST_AHEAD", "Replica", "_law_cell", "_law_draws"] : List PySem.Str) ++ (["_law_same", "_law_store", "_law_question", "_law_at", "_law_put", "_law_read", "_law_is_put", "_law_is_read"] : List PySem.Str)
end Au
set_option maxHeartbeats 1000000
/-! Authsync: what the head tells, as a Hook over a part of the heap. -/
namespace Au
open PySem PySem.Spec PyProof.Rows L2
/-! ### the part of the heap -/
theorem lvlP_mem {g : Addr → Option Obj} {l : List (Addr × Obj)} {a : Addr} {o : Obj} (h : (a, o) ∈ lvlP g l) : g a = some o := by
  unfold lvlP at h
  obtain ⟨p, _, h⟩ := List.mem_flatMap.mp h
  obtain ⟨b, _, e⟩ := List.mem_filterMap.mp h
  cases hb : g b with
  | none =>
    rw [hb] at e
    cases e
  | some u =>
    rw [hb] at e
    have e2 : (match keepP u with
      | true => some (b, u)
      | false => none) = some (a, o) := e
    cases hk : keepP u with
    | false =>
      rw [hk] at e2
      cases e2
    | true =>
      rw [hk] at e2
      have e3 : (b, u) = (a, o) := Option.some.inj e2
      injection e3 with e4 e5
      rw [← e4, ← e5]
      exact hb
theorem atP_mem {g : Addr → Option Obj} {b a : Addr} {o : Obj} (h : (a, o) ∈ atP g b) : g a = some o := by
  unfold atP at h
  cases hb : g b with
  | none =>
    rw [hb] at h
    exact absurd h (List.not_mem_nil)
  | some u =>
    rw [hb] at h
    have e : (a, o) = (b, u) := List.mem_singleton.mp h
    injection e with e4 e5
    rw [e4, e5]
    exact hb
theorem fragP_mem {g : Addr → Option Obj} {a : Addr} {o : Obj} (h : (a, o) ∈ fragP g) : g a = some o := by
  unfold fragP at h
  dsimp only at h
  rcases List.mem_append.mp h with h | h
  · rcases List.mem_append.mp h with h | h
    · rcases List.mem_append.mp h with h | h
      · rcases List.mem_append.mp h with h | h
        · rcases List.mem_append.mp h with h | h
          · rcases List.mem_append.mp h with h | h
            · exact atP_mem h
            · exact lvlP_mem h
          · exact lvlP_mem h
        · exact lvlP_mem h
      · exact lvlP_mem h
    · exact lvlP_mem h
  · exact atP_mem h
theorem fragT_mem {g : Addr → Option Obj} {a : Addr} {o : Obj} (h : (fragT g).lookup a = some o) : g a = some o ∧ He.emptyTab o = false := by
  obtain ⟨h1, h2⟩ := List.mem_filter.mp (He.lookup_mem h)
  refine ⟨fragP_mem h1, ?_⟩
  cases q : He.emptyTab o with
  | false => rfl
  | true =>
    have h3 : (!He.emptyTab o) = true := h2
    rw [q] at h3
    cases h3
theorem fragT_in {h : Heap} : PySem.W.Frag.In (fragT h.get?) h := fun _ _ e => (fragT_mem e).1
theorem fragT_none {g : Addr → Option Obj} {a : Addr} {o : Obj} (h : g a = some o) (ht : He.emptyTab o = true) : (fragT g).lookup a = none := by
  cases e : (fragT g).lookup a with
  | none => rfl
  | some u =>
    obtain ⟨h1, h2⟩ := fragT_mem e
    rw [h] at h1
    rw [← Option.some.inj h1, ht] at h2
    cases h2
/-! ### Refused -/
abbrev P0 : Program := PySem.Challenge.rw_authsync_k82_whole_contents.prog
def clsB (K : PySem.W.Frag) (C : Addr) : Bool := match K.lookup C with
  | some ⟨.type c, _, .cls cd, sl⟩ => decide (c = "type") && (match cd.mro, sl.toList with
    | .ref C' :: bm, [_, _, _, _, some (.builtin n), _] => decide (C' = C) && (decide (n = "ValueError.__new__") && (!cd.hasDel && (cd.hasDict && PySem.HandSPX.refsVE bm)))
    | _, _ => false)
  | _ => false
theorem clsB_ok {K : PySem.W.Frag} {C : Addr} (h : clsB K C = true) : ∃ nm q N bs bm sn sub ab col dd k0 k1 k2 k3 k5, K.lookup C = some (excClassObj nm q C N bs bm true sn sub ab col dd k0 k1 k2 k3 k5 "ValueError.__new__") ∧ PySem.HandSPX.refsVE bm = true := by
  unfold clsB at h
  split at h
  · rename_i c dd cd sl ho
    obtain ⟨h1, h2⟩ := He.ba h
    split at h2
    · rename_i C' bm k0 k1 k2 k3 n k5 hm hs
      obtain ⟨h3, h2⟩ := He.ba h2
      obtain ⟨h4, h2⟩ := He.ba h2
      obtain ⟨h5, h2⟩ := He.ba h2
      obtain ⟨h6, h7⟩ := He.ba h2
      obtain ⟨nm, bs, mro, ns, qn, hd, sn, sub, ab, col, del⟩ := cd
      dsimp only at hm h5 h6
      subst hm
      have e1 := of_decide_eq_true h1
      have e3 := of_decide_eq_true h3
      have e4 := of_decide_eq_true h4
      subst e1 e3 e4 h6
      have e5 : del = false := by
        cases del with
        | false => rfl
        | true => cases h5
      subst e5
      have hsl : sl = #[k0, k1, k2, k3, some (.builtin "ValueError.__new__"), k5] := by
        obtain ⟨l⟩ := sl
        simp only at hs
        rw [hs]
      subst hsl
      exact ⟨nm, qn, ns, bs, bm, sn, sub, ab, col, dd, k0, k1, k2, k3, k5, ho, h7⟩
    · cases h2
  · cases h
abbrev RefW : Type := Option (Str × Str × Arguments × FuncBody × Scope × Addr × List Str × Addr)
abbrev refAt : Str × Option Str := ("Refused", some "__init__")
def refW (K : PySem.W.Frag) : RefW := match K.lookup (He.fAd K refAt) with
  | some ⟨_, _, .func fd, _⟩ => some (fd.name, fd.qualname, fd.params, fd.body, fd.scope, fd.globals, fd.closure.map (·.1), fd.builtins)
  | _ => none
def refVal : RefW := some ("__init__", "Refused.__init__", defArgs s_Refused_init, .stmts (defBody s_Refused_init), defScope s_Refused_init, mainGlobals, ["__class__"], builtinsNs)
def refB (K : PySem.W.Frag) : Bool := match K.lookup (He.fAd K refAt) with
  | some ⟨_, _, .func fd, _⟩ => (match fd.defaults with
      | .none => true
      | _ => false) && ((match fd.code with
      | .ref cda => PySem.W.codeIn K (.ref cda) "Refused.__init__" && (match K.lookup cda with
        | some ⟨_, _, .fields vs, _⟩ => (match (vs[2]? : Option Value) with
          | some (.str f _) => ((P0.main.file : Str) == f)
          | _ => false)
        | _ => false)
      | _ => false) && (match fd.closure with
      | [(_, cc)] => (match K.lookup cc with
        | some ⟨_, _, .cell (some (.ref C)), _⟩ => decide (C = He.ga K "Refused")
        | _ => false)
      | _ => false))
  | _ => false
theorem refB_ok {K : PySem.W.Frag} (e : refW K = refVal) (h : refB K = true) :
    ∃ oc od osl kV doc pm an cda ct cc, K.lookup (He.fAd K ("Refused", some "__init__")) = some ⟨oc, od, .func (PySem.W.ksFn "__init__" "Refused.__init__" (L2.defArgs s_Refused_init) (L2.defBody s_Refused_init) (L2.defScope s_Refused_init) .none kV doc pm an (.ref cda) ct cc), osl⟩ ∧
      PySem.W.codeIn K (.ref cda) "Refused.__init__" = true ∧ (∃ cl cld csl, K.lookup cc = some ⟨cl, cld, .cell (some (.ref (He.ga K "Refused"))), csl⟩) ∧ ∃ ccl cdd vs ccs file tf, K.lookup cda = some ⟨ccl, cdd, .fields vs, ccs⟩ ∧ vs[2]? = some (.str file tf) ∧ ((P0.main.file : Str) == file) = true := by
  unfold refW at e
  unfold refB at h
  cases q : K.lookup (He.fAd K refAt) with
  | none =>
    rw [q] at h
    cases h
  | some o =>
    obtain ⟨oc, od, dt, osl⟩ := o
    rw [q] at h e
    cases dt with
    | func fd =>
      obtain ⟨n1, n2, n3, n4, n5, n6, n7, n8, n9, n10, n11, n12, n13, n14, n15⟩ := fd
      have e2 : (some (n1, n2, n3, n4, n5, n6, n7.map (·.1), n15) : RefW) = refVal := e
      unfold refVal at e2
      simp only [Option.some.injEq, Prod.mk.injEq] at e2
      obtain ⟨h1, h2, h3, h4, h5, h6, h7, h8⟩ := e2
      subst h1 h2 h3 h4 h5 h6 h8
      obtain ⟨a1, a2⟩ := He.ba h
      obtain ⟨a3, a4⟩ := He.ba a2
      dsimp only at a1 a3 a4
      cases n8 with
      | none =>
        cases n13 with
        | ref cda =>
          dsimp only at a3
          obtain ⟨b1, b2⟩ := He.ba a3
          cases qc : K.lookup cda with
          | none =>
            rw [qc] at b2
            cases b2
          | some oc2 =>
            obtain ⟨c1, c2, c3, c4⟩ := oc2
            rw [qc] at b2
            cases c3 with
            | fields vs =>
              dsimp only at b2
              cases qv : (vs[2]? : Option Value) with
              | none =>
                rw [qv] at b2
                cases b2
              | some v =>
                rw [qv] at b2
                cases v with
                | str f tf =>
                  dsimp only at b2
                  match n7, h7, a4 with
                  | [(y, cc)], h7, a4 =>
                    have hy : y = "__class__" := by
                      have := h7
                      simpa using this
                    subst hy
                    dsimp only at a4
                    cases ql : K.lookup cc with
                    | none =>
                      rw [ql] at a4
                      cases a4
                    | some o3 =>
                      obtain ⟨f1, f2, f3, f4⟩ := o3
                      rw [ql] at a4
                      cases f3 with
                      | cell cv =>
                        cases cv with
                        | none => cases a4
                        | some cv =>
                          cases cv with
                          | ref C =>
                            have eC : C = He.ga K "Refused" := of_decide_eq_true a4
                            subst eC
                            exact ⟨oc, od, osl, n9, n10, n11, n12, cda, n14, cc, rfl, b1, ⟨f1, f2, f4, ql⟩, c1, c2, vs, c4, f, tf, qc, qv, b2⟩
                          | _ => cases a4
                      | _ => cases a4
                | _ => cases b2
            | _ => cases b2
        | _ => cases a3
      | _ => cases a1
    | _ => cases h
/-! ### a tuple of the top by its address -/
def tupAtB (K : PySem.W.Frag) (a : Addr) (vs : List V) : Bool := match K.lookup a with
  | some ⟨.type c, _, .seq its _, _⟩ => decide (c = "tuple") && (decide (its.size ≤ sizeLine) && He.relAll vs its.toList)
  | _ => false
theorem tupAtB_ok {K : PySem.W.Frag} {a : Addr} {vs : List V} (h : tupAtB K a vs = true) (H : L2.Hp) : SqT K H a vs := by
  unfold tupAtB at h
  cases q : K.lookup a with
  | none =>
    rw [q] at h
    cases h
  | some o =>
    obtain ⟨oc, od, dt, osl⟩ := o
    rw [q] at h
    cases oc with
    | type c =>
      cases dt with
      | seq its n =>
        obtain ⟨h1, h2⟩ := He.ba (show (decide (c = "tuple") && (decide (its.size ≤ sizeLine) && He.relAll vs its.toList)) = true from h)
        obtain ⟨h3, h4⟩ := He.ba h2
        exact .inr ⟨_, its, n, q, congrArg Value.type (of_decide_eq_true h1), rfl, of_decide_eq_true h3, He.relAll_ok h4⟩
      | _ => cases h
    | _ => cases dt <;> cases h
/-! ### all that is told beside the facts -/
abbrev C0 (K : PySem.W.Frag) : Addr := He.ga K "Refused"
def exB (K : PySem.W.Frag) : Bool := (He.Fa.glo "OPERATORS").ok K && (tupAtB K (He.ga K "OPERATORS") [.str "|", .str "&", .str "-"] && (tupAtB K (He.dflAt ("Primary", some "__init__") 0 K) [] &&
  (clsB K (C0 K) && (He.eqO (PySem.W.findIn K (.ref (C0 K)) "__setattr__") (some (some (.builtin "object.__setattr__"))) && (decide (PySem.W.subIn K (.ref (C0 K)) (.type "BaseException") = some true) && (decide (PySem.W.typeIn K (.ref (C0 K)) = some (.type "type")) && (PySem.W.keepIn K (.ref (C0 K)) &&
  (He.eqO (PySem.W.findIn K (.ref (C0 K)) "__init__") (some (some (.ref (He.fAd K refAt)))) && (decide (PySem.W.typeIn K (.ref (He.fAd K refAt)) = some (.type "function")) && (refB K && (decide (PySem.W.mroIn K (C0 K) (.ref (C0 K)) = some true) && (He.eqO (PySem.W.nsIn K cStatics "thirdparty.any") (some none) &&
  (He.eqO (PySem.W.ks_superIn K (C0 K) (C0 K) "__init__") (some (some (.builtin "ValueError.__init__"))) && (decide (PySem.W.subIn K (.ref (C0 K)) (.type "ValueError") = some true) && (He.eqO (PySem.W.findIn K (.ref (C0 K)) "what") (some none) && (He.eqO (PySem.W.findIn K (.ref (C0 K)) "index") (some none) &&
  (xfB K (C0 K) && (decide (PySem.W.exmOne K (.ref (C0 K)) (.ref (C0 K)) = some true) && (He.eqO (PySem.W.findIn K (.ref (He.ga K "Primary")) "__class__") (some (some (.builtin "object.__class__"))) && (He.eqO (PySem.W.findIn K (.ref (He.ga K "Replica")) "__class__") (some (some (.builtin "object.__class__"))) &&
  (He.eqO (PySem.W.specialIn K (.builtin "object.__class__") "__get__") (some (some (.builtin "getset_descriptor.__get__"))) && (decide (PySem.W.takesIn K (.builtin "object.__class__") = some true) && (decide (PySem.W.mroIn K (He.ga K "Primary") (.type "object") = some true) && (decide (PySem.W.mroIn K (He.ga K "Replica") (.type "object") = some true) &&
  (decide (PySem.W.kitOne K (.ref (He.ga K "Primary")) (.ref (He.ga K "Primary")) = some true) && decide (PySem.W.kitOne K (.ref (He.ga K "Replica")) (.ref (He.ga K "Primary")) = some false))))))))))))))))))))))))))
theorem topX_of {K : PySem.W.Frag} (e : refW K = refVal) (h : exB K = true) : TopX P0 K := by
  unfold exB at h
  obtain ⟨_, h⟩ := He.ba h
  obtain ⟨_, h⟩ := He.ba h
  obtain ⟨_, h⟩ := He.ba h
  obtain ⟨h1, h⟩ := He.ba h
  obtain ⟨h2, h⟩ := He.ba h
  obtain ⟨h3, h⟩ := He.ba h
  obtain ⟨h4, h⟩ := He.ba h
  obtain ⟨h5, h⟩ := He.ba h
  obtain ⟨h6, h⟩ := He.ba h
  obtain ⟨h7, h⟩ := He.ba h
  obtain ⟨h8, h⟩ := He.ba h
  obtain ⟨h9, h⟩ := He.ba h
  obtain ⟨h10, h⟩ := He.ba h
  obtain ⟨h11, h⟩ := He.ba h
  obtain ⟨h12, h⟩ := He.ba h
  obtain ⟨h13, h⟩ := He.ba h
  obtain ⟨h14, h⟩ := He.ba h
  obtain ⟨h15, h⟩ := He.ba h
  obtain ⟨h16, h⟩ := He.ba h
  obtain ⟨h17, h⟩ := He.ba h
  obtain ⟨h18, h⟩ := He.ba h
  obtain ⟨h19, h⟩ := He.ba h
  obtain ⟨h20, h⟩ := He.ba h
  obtain ⟨h21, h⟩ := He.ba h
  obtain ⟨h22, h⟩ := He.ba h
  obtain ⟨h23, h24⟩ := He.ba h
  exact
    { rk := { oex := ⟨clsB_ok h1, He.eqO_ok h2, of_decide_eq_true h3, of_decide_eq_true h4, h5⟩, init := He.eqO_ok h6, tyI := of_decide_eq_true h7, fn := refB_ok e h8, sub := of_decide_eq_true h9, opq := He.eqO_ok h10, sup := He.eqO_ok h11, ve := of_decide_eq_true h12, what := He.eqO_ok h13, index := He.eqO_ok h14, top := by decide +kernel },
      xf := xfB_ok h15, te := of_decide_eq_true h16, cp := He.eqO_ok h17, cr := He.eqO_ok h18, hn := He.eqO_ok h19, tk := of_decide_eq_true h20, mp := of_decide_eq_true h21, mr := of_decide_eq_true h22, ip := of_decide_eq_true h23, ir := of_decide_eq_true h24 }
/-! ### the Hook -/
abbrev AlP : Type := He.AlX × RefW
def obsP (g : Addr → Option Obj) : AlP := ((He.obsT fas fns [] (fragT g), exB (fragT g) && He.tabsB g tfs (fragT g)), refW (fragT g))
def valP (w : World) : AlP := (He.valX fns [] w, refVal)
theorem saysP_of {w : World} {h : Heap} (e : obsP h.get? = valP w) : He.SaysX fas fns [] tfs exB w h (fragT h.get?) ∧ refW (fragT h.get?) = refVal := by
  have e0 : ((He.obsT fas fns [] (fragT h.get?), exB (fragT h.get?) && He.tabsB h.get? tfs (fragT h.get?)) : He.AlX) = He.valX fns [] w := congrArg (fun z : AlP => z.1) e
  have e3 : refW (fragT h.get?) = refVal := congrArg (fun z : AlP => z.2) e
  have e1 : He.obsT fas fns [] (fragT h.get?) = He.valT fns [] w := congrArg (fun z : He.AlX => z.1) e0
  have e2 : (exB (fragT h.get?) && He.tabsB h.get? tfs (fragT h.get?)) = true := congrArg (fun z : He.AlX => z.2) e0
  obtain ⟨h1, h2⟩ := He.ba e2
  have key : ∀ p ∈ tfs, PySem.W.codeHdIn (fragT h.get?) (He.cT (fragT h.get?) p).1 (He.cT (fragT h.get?) p).2 = true ∧ ∃ o, h.get? (He.cT (fragT h.get?) p).2 = some o ∧ He.emptyTab o = true := fun p hp => by
    obtain ⟨h3, h4⟩ := He.ba (List.all_eq_true.mp h2 p hp)
    refine ⟨h3, ?_⟩
    cases q : h.get? (He.cT (fragT h.get?) p).2 with
    | none =>
      rw [q] at h4
      cases h4
    | some o =>
      rw [q] at h4
      exact ⟨o, rfl, h4⟩
  refine ⟨⟨e1, h1, fun p hp => (key p hp).1, fun p hp => ?_, fun p hp => ?_⟩, e3⟩
  · obtain ⟨_, o, q, z⟩ := key p hp
    exact fragT_none q z
  · obtain ⟨_, o, q, z⟩ := key p hp
    rw [q, He.emptyTab_eq z]
def hkP : PySem.W.Hook where
  α := AlP
  obs := fun s => obsP s.heap.get?
  val := fun w => valP w
  says := fun w h => ∃ K : PySem.W.Frag, K.In h ∧ He.SaysX fas fns [] tfs exB w h K ∧ refW K = refVal
  of := fun _ _ e => ⟨_, fragT_in, (saysP_of e).1, (saysP_of e).2⟩
  keeps := fun _ _ _ ⟨K, hK, c, e⟩ k => ⟨K, PySem.W.Frag.In.keeps hK k, ⟨c.t, c.more, c.hd, c.out, fun p hp => k _ _ (c.empty p hp)⟩, e⟩
def ob (s : PySem.W.SharedT) : AlP := obsP (HandSHeadRun.getT s)
theorem ob_eq (s : PySem.W.SharedT) : ob s = hkP.obs s.abs := by
  have e : HandSHeadRun.getT s = s.abs.heap.get? := funext fun a => HandSHeadRun.getT_eq s a
  show obsP (HandSHeadRun.getT s) = obsP s.abs.heap.get?
  rw [e]
/-- Top out of what the Hook tells -/
theorem top_of {w : World} {h base : Heap} {K : PySem.W.Frag} {mg : Str → Option Value} (c : He.SaysX fas fns [] tfs exB w h K) (KB : K.In base) (G : base.Ns mainGlobals mg) (tab : ∀ p ∈ tfs, GxR.TabB base mg (He.cT K p).1 (He.cT K p).2) : Top K mg base := by
  have h := c.more
  unfold exB at h
  obtain ⟨h1, h⟩ := He.ba h
  obtain ⟨h2, h⟩ := He.ba h
  obtain ⟨h3, _⟩ := He.ba h
  exact ⟨c.t.d, KB, G, tab, ⟨_, He.glo_ok KB G h1, fun H => tupAtB_ok h2 H⟩, fun H => tupAtB_ok h3 H⟩
end Au
set_option maxHeartbeats 0
/-! Authsync: the run of the top. -/
namespace Au
open PySem PySem.Spec PyProof.Rows L2
theorem run (w : World) : HandSHeadRun.RunEq R (PySem.W.view R.prog [76]) hkP ob 9000 loose w := by
  intro os
  kernel_rfl
end Au
/-! Authsync: the law's row. -/
namespace Au
open PySem PySem.Spec PyProof.Rows L2
theorem law_at {w : World} {mg : Str → Option Value} {fa : Addr} {h : Heap} (Y : hkP.says w h) (G : h.Ns mainGlobals mg) (hmg : mg ("law" : Str) = some (.ref fa)) :
    ∃ K : PySem.W.Frag, K.In h ∧ LamX.LawAtS PySem.Challenge.rw_authsync_k82_whole_contents w K CX0 14 63 "_law_script" mg fa h := by
  obtain ⟨K, KX, c, e⟩ := Y
  refine ⟨K, KX, ?_⟩
  have X := topX_of e c.more
  obtain ⟨fd, F⟩ : ∃ fd, FunOf K Au.d_law fd := c.t.d.defs (d := Au.d_law) (by
    unfold fns
    simp)
  have hg : mg ("law" : Str) = some (.ref (He.ga K "law")) := He.glo_ok KX G (c.t.d.facts (f := .glo "law") (by
    unfold fas
    simp))
  have efa : fa = He.fAd K ("law", none) := by
    have := hmg.symm.trans hg
    exact Value.ref.inj (Option.some.inj this)
  subst efa
  have b := FunD.bindsA (ps := ["_law_script"]) F fun _ _ _ _ _ _ us hl => match us, hl with | [_], _ => rfl
  refine ⟨fd, tfs.map (He.cT K), spLaw K, fun p hp => ?_, fun p hp => ?_, fun p hp => ?_, fun s v => b s [v] rfl, fun H a ns _ _ ht hS => ⟨a, ns, rfl, hS, fun p hp => ⟨#[], ht _ (List.mem_map.mpr ⟨p, hp, rfl⟩), trivial⟩, fun _ => rfl⟩, fun base KB GB tab => ?_⟩
  · obtain ⟨q, hq, rfl⟩ := List.mem_map.mp hp
    exact c.empty q hq
  · obtain ⟨q, hq, rfl⟩ := List.mem_map.mp hp
    exact c.out q hq
  · obtain ⟨q, hq, rfl⟩ := List.mem_map.mp hp
    exact PySem.W.codeHd_of_K KX (c.hd q hq)
  · have T : Top K mg base := top_of c KB GB fun p hp => by
      obtain ⟨t1, t2, t3⟩ := tab _ (List.mem_map.mpr ⟨p, hp, rfl⟩)
      exact ⟨t1, t2, t3⟩
    exact ok_law T X F
end Au
open PySem PySem.W PySem.Calls PyProof.Rows
theorem PySem.Challenge.cw_authsync_k82_whole_contents_holds : PySem.Challenge.rw_authsync_k82_whole_contents.Holds := by
  w_on; o_law
  refine HandSHeadRun.head_any (r := OpenLaw.row PySem.Challenge.rw_authsync_k82_whole_contents) (q := view (OpenLaw.row PySem.Challenge.rw_authsync_k82_whole_contents).prog [76]) (H := Au.hkP) (ob := Au.ob) (M := 9000) (loose := Au.loose) (d := HandSHeadRun.topDef (OpenLaw.row PySem.Challenge.rw_authsync_k82_whole_contents).prog 76) (kwd := []) Au.ob_eq
    (by kernel_rfl) (fun s => by kernel_rfl) Au.run (by kernel_rfl) (by kernel_rfl) (by kernel_rfl) (by rfl) (by first | assumption | decide +kernel) (by decide +kernel) ⟨rfl, rfl, rfl, rfl, rfl, by decide +kernel⟩ ?hw ?hc
  case hw => w_witness2
  case hc =>
    refine LamX.walk_ofTsE (l := PySem.Challenge.rw_authsync_k82_whole_contents) (n := 63) (k := 14) (x := "_law_script") (CX := fun _ => L2.CX0) rfl (by decide) (by kernel_rfl) ⟨rfl, by decide, by decide⟩ ?F (fun _ _ _ _ _ z => z)
    intro w mg fa h Y G hmg0
    have hmg : mg ("law" : PySem.Str) = some (.ref fa) := by
      have e : (HandSHeadRun.topDef (OpenLaw.row PySem.Challenge.rw_authsync_k82_whole_contents).prog 76).name = ("law" : PySem.Str) := by kernel_rfl
      rw [← e]
      exact hmg0
    exact Au.law_at Y G hmg
