import PyProof.Rows.All
import HandS.Base
import HandS.Call
import HandS.CallLocal
import HandS.Comp
import HandS.Conv
import HandS.Deep
import HandS.Defaults
import HandS.Dict
import HandS.Ends
import HandS.ForSpec
import HandS.Head0
import HandS.Head1
import HandS.Head2
import HandS.Head3
import HandS.Head4
import HandS.HeadEnd
import HandS.HeadHook1
import HandS.HeadHook2
import HandS.HeadHook3
import HandS.HeadHook4
import HandS.Iter
import HandS.Lambda
import HandS.List
import HandS.More
import HandS.NoneIn
import HandS.SortInts
import HandS.SortKw
import HandS.Style
import HandS.Text
import HandS.TupLen
import HandS.Walk
import HandS.Wide
import HandS.WideBits
import HandS.Words
import HandS.WordsExc
import KE.KDictCopyH
import KE.KDictKeyed
import KE.KDictList
import KE.KDictWalk
import KE.KStateDown
import KE.KeyNested
import KE.OsGo
import KE.OsHead
import Lean
import Open.SpecLaws
import OpenK.AllK
import Wide.All
import Wide.FinOn
import PyKex2
import PySem.Challenge.RW_variantbuckets_s01_answers
set_option Elab.async false
set_option linter.all false
set_option maxRecDepth 100000
set_option maxHeartbeats 0
/-! The program's text by places, the facts of the head. Printed by gen_head.py. -/
namespace Vb
open PySem PySem.Spec PyProof.Rows L2
def top (i : Nat) : Stmt := PySem.Challenge.pw_variantbuckets_s01_answers.main.body.getD i (.Pass ⟨0, 0, 0, 0⟩)
abbrev s_followed : Stmt := top 9
abbrev s_finished : Stmt := top 10
abbrev s_hash_of : Stmt := top 11
abbrev s_salted : Stmt := top 12
abbrev s_bucket_behind : Stmt := top 13
abbrev s_sample_unit : Stmt := top 14
abbrev s_quarters : Stmt := top 15
abbrev s_targets_of : Stmt := top 19
abbrev s_owned_by : Stmt := top 20
abbrev s_given_up : Stmt := top 21
abbrev s_reallocated : Stmt := top 22
abbrev s_moved : Stmt := top 23
abbrev s_runs_of : Stmt := top 24
abbrev s_Layer_init : Stmt := inClass (top 27) 0
abbrev s_Experiment_init : Stmt := inClass (top 28) 0
abbrev s_Experiment_targets : Stmt := inClass (top 28) 1
abbrev s_Stored_init : Stmt := inClass (top 29) 0
abbrev s_Platform_init : Stmt := inClass (top 30) 0
abbrev s_Platform_start : Stmt := inClass (top 30) 1
abbrev s_Platform_has_experiment : Stmt := inClass (top 30) 2
abbrev s_Platform_layer_of : Stmt := inClass (top 30) 3
abbrev s_Platform_is_held_out : Stmt := inClass (top 30) 4
abbrev s_Platform_valid : Stmt := inClass (top 30) 5
abbrev s_Platform_stored_in : Stmt := inClass (top 30) 6
abbrev s_Platform_assignment : Stmt := inClass (top 30) 7
abbrev s_Platform_remove : Stmt := inClass (top 30) 8
abbrev s_are_octets : Stmt := top 41
abbrev s_are_weights : Stmt := top 42
abbrev s_call_create : Stmt := top 43
abbrev s_call_add_layer : Stmt := top 44
abbrev s_call_add_experiment : Stmt := top 45
abbrev s_call_remove_experiment : Stmt := top 46
abbrev s_change : Stmt := top 47
abbrev s_new_traffic : Stmt := top 48
abbrev s_new_weights : Stmt := top 49
abbrev s_call_set_traffic : Stmt := top 50
abbrev s_call_set_weights : Stmt := top 51
abbrev s_call_preview_traffic : Stmt := top 52
abbrev s_call_preview_weights : Stmt := top 53
abbrev s_call_set_holdout : Stmt := top 54
abbrev s_call_set_override : Stmt := top 55
abbrev s_call_remove_override : Stmt := top 56
abbrev s_call_advance : Stmt := top 57
abbrev s_call_enter : Stmt := top 58
abbrev s_call_assign : Stmt := top 59
abbrev s_call_experiment_of : Stmt := top 60
abbrev s_call_bucket : Stmt := top 61
abbrev s_call_hash : Stmt := top 62
abbrev s_call_is_held_out : Stmt := top 63
abbrev s_call_allocation : Stmt := top 64
abbrev s_call_free_count : Stmt := top 65
abbrev s_call_targets : Stmt := top 66
abbrev s_call_get_experiment : Stmt := top 67
abbrev s_call_list_stored : Stmt := top 68
abbrev s_call_sample_counts : Stmt := top 69
abbrev s_call_cross_table : Stmt := top 70
abbrev s_call_summary : Stmt := top 71
abbrev s_answered : Stmt := top 75
abbrev s_answers : Stmt := top 76
def d_followed : He.DefD := ⟨("followed", none), "followed", "followed", defArgs s_followed, defBody s_followed, defScope s_followed, [], []⟩
def d_finished : He.DefD := ⟨("finished", none), "finished", "finished", defArgs s_finished, defBody s_finished, defScope s_finished, [], []⟩
def d_hash_of : He.DefD := ⟨("hash_of", none), "hash_of", "hash_of", defArgs s_hash_of, defBody s_hash_of, defScope s_hash_of, [], []⟩
def d_salted : He.DefD := ⟨("salted", none), "salted", "salted", defArgs s_salted, defBody s_salted, defScope s_salted, [], []⟩
def d_bucket_behind : He.DefD := ⟨("bucket_behind", none), "bucket_behind", "bucket_behind", defArgs s_bucket_behind, defBody s_bucket_behind, defScope s_bucket_behind, [], []⟩
def d_sample_unit : He.DefD := ⟨("sample_unit", none), "sample_unit", "sample_unit", defArgs s_sample_unit, defBody s_sample_unit, defScope s_sample_unit, [], []⟩
def d_quarters : He.DefD := ⟨("quarters", none), "quarters", "quarters", defArgs s_quarters, defBody s_quarters, defScope s_quarters, [], []⟩
def d_targets_of : He.DefD := ⟨("targets_of", none), "targets_of", "targets_of", defArgs s_targets_of, defBody s_targets_of, defScope s_targets_of, [], []⟩
def d_owned_by : He.DefD := ⟨("owned_by", none), "owned_by", "owned_by", defArgs s_owned_by, defBody s_owned_by, defScope s_owned_by, [], []⟩
def d_given_up : He.DefD := ⟨("given_up", none), "given_up", "given_up", defArgs s_given_up, defBody s_given_up, defScope s_given_up, [], []⟩
def d_reallocated : He.DefD := ⟨("reallocated", none), "reallocated", "reallocated", defArgs s_reallocated, defBody s_reallocated, defScope s_reallocated, [], []⟩
def d_moved : He.DefD := ⟨("moved", none), "moved", "moved", defArgs s_moved, defBody s_moved, defScope s_moved, [], []⟩
def d_runs_of : He.DefD := ⟨("runs_of", none), "runs_of", "runs_of", defArgs s_runs_of, defBody s_runs_of, defScope s_runs_of, [], []⟩
def d_Layer_init : He.DefD := ⟨("Layer", some "__init__"), "__init__", "Layer.__init__", defArgs s_Layer_init, defBody s_Layer_init, defScope s_Layer_init, [], []⟩
def d_Experiment_init : He.DefD := ⟨("Experiment", some "__init__"), "__init__", "Experiment.__init__", defArgs s_Experiment_init, defBody s_Experiment_init, defScope s_Experiment_init, [], []⟩
def d_Experiment_targets : He.DefD := ⟨("Experiment", some "targets"), "targets", "Experiment.targets", defArgs s_Experiment_targets, defBody s_Experiment_targets, defScope s_Experiment_targets, [], []⟩
def d_Stored_init : He.DefD := ⟨("Stored", some "__init__"), "__init__", "Stored.__init__", defArgs s_Stored_init, defBody s_Stored_init, defScope s_Stored_init, [], []⟩
def d_Platform_init : He.DefD := ⟨("Platform", some "__init__"), "__init__", "Platform.__init__", defArgs s_Platform_init, defBody s_Platform_init, defScope s_Platform_init, [], []⟩
def d_Platform_start : He.DefD := ⟨("Platform", some "start"), "start", "Platform.start", defArgs s_Platform_start, defBody s_Platform_start, defScope s_Platform_start, [], []⟩
def d_Platform_has_experiment : He.DefD := ⟨("Platform", some "has_experiment"), "has_experiment", "Platform.has_experiment", defArgs s_Platform_has_experiment, defBody s_Platform_has_experiment, defScope s_Platform_has_experiment, [], []⟩
def d_Platform_layer_of : He.DefD := ⟨("Platform", some "layer_of"), "layer_of", "Platform.layer_of", defArgs s_Platform_layer_of, defBody s_Platform_layer_of, defScope s_Platform_layer_of, [], []⟩
def d_Platform_is_held_out : He.DefD := ⟨("Platform", some "is_held_out"), "is_held_out", "Platform.is_held_out", defArgs s_Platform_is_held_out, defBody s_Platform_is_held_out, defScope s_Platform_is_held_out, [], []⟩
def d_Platform_valid : He.DefD := ⟨("Platform", some "valid"), "valid", "Platform.valid", defArgs s_Platform_valid, defBody s_Platform_valid, defScope s_Platform_valid, [], []⟩
def d_Platform_stored_in : He.DefD := ⟨("Platform", some "stored_in"), "stored_in", "Platform.stored_in", defArgs s_Platform_stored_in, defBody s_Platform_stored_in, defScope s_Platform_stored_in, [], []⟩
def d_Platform_assignment : He.DefD := ⟨("Platform", some "assignment"), "assignment", "Platform.assignment", defArgs s_Platform_assignment, defBody s_Platform_assignment, defScope s_Platform_assignment, [], []⟩
def d_Platform_remove : He.DefD := ⟨("Platform", some "remove"), "remove", "Platform.remove", defArgs s_Platform_remove, defBody s_Platform_remove, defScope s_Platform_remove, [], []⟩
def d_are_octets : He.DefD := ⟨("are_octets", none), "are_octets", "are_octets", defArgs s_are_octets, defBody s_are_octets, defScope s_are_octets, [], []⟩
def d_are_weights : He.DefD := ⟨("are_weights", none), "are_weights", "are_weights", defArgs s_are_weights, defBody s_are_weights, defScope s_are_weights, [], []⟩
def d_call_create : He.DefD := ⟨("call_create", none), "call_create", "call_create", defArgs s_call_create, defBody s_call_create, defScope s_call_create, [], []⟩
def d_call_add_layer : He.DefD := ⟨("call_add_layer", none), "call_add_layer", "call_add_layer", defArgs s_call_add_layer, defBody s_call_add_layer, defScope s_call_add_layer, [], []⟩
def d_call_add_experiment : He.DefD := ⟨("call_add_experiment", none), "call_add_experiment", "call_add_experiment", defArgs s_call_add_experiment, defBody s_call_add_experiment, defScope s_call_add_experiment, [], []⟩
def d_call_remove_experiment : He.DefD := ⟨("call_remove_experiment", none), "call_remove_experiment", "call_remove_experiment", defArgs s_call_remove_experiment, defBody s_call_remove_experiment, defScope s_call_remove_experiment, [], []⟩
def d_change : He.DefD := ⟨("change", none), "change", "change", defArgs s_change, defBody s_change, defScope s_change, [], []⟩
def d_new_traffic : He.DefD := ⟨("new_traffic", none), "new_traffic", "new_traffic", defArgs s_new_traffic, defBody s_new_traffic, defScope s_new_traffic, [], []⟩
def d_new_weights : He.DefD := ⟨("new_weights", none), "new_weights", "new_weights", defArgs s_new_weights, defBody s_new_weights, defScope s_new_weights, [], []⟩
def d_call_set_traffic : He.DefD := ⟨("call_set_traffic", none), "call_set_traffic", "call_set_traffic", defArgs s_call_set_traffic, defBody s_call_set_traffic, defScope s_call_set_traffic, [], []⟩
def d_call_set_weights : He.DefD := ⟨("call_set_weights", none), "call_set_weights", "call_set_weights", defArgs s_call_set_weights, defBody s_call_set_weights, defScope s_call_set_weights, [], []⟩
def d_call_preview_traffic : He.DefD := ⟨("call_preview_traffic", none), "call_preview_traffic", "call_preview_traffic", defArgs s_call_preview_traffic, defBody s_call_preview_traffic, defScope s_call_preview_traffic, [], []⟩
def d_call_preview_weights : He.DefD := ⟨("call_preview_weights", none), "call_preview_weights", "call_preview_weights", defArgs s_call_preview_weights, defBody s_call_preview_weights, defScope s_call_preview_weights, [], []⟩
def d_call_set_holdout : He.DefD := ⟨("call_set_holdout", none), "call_set_holdout", "call_set_holdout", defArgs s_call_set_holdout, defBody s_call_set_holdout, defScope s_call_set_holdout, [], []⟩
def d_call_set_override : He.DefD := ⟨("call_set_override", none), "call_set_override", "call_set_override", defArgs s_call_set_override, defBody s_call_set_override, defScope s_call_set_override, [], []⟩
def d_call_remove_override : He.DefD := ⟨("call_remove_override", none), "call_remove_override", "call_remove_override", defArgs s_call_remove_override, defBody s_call_remove_override, defScope s_call_remove_override, [], []⟩
def d_call_advance : He.DefD := ⟨("call_advance", none), "call_advance", "call_advance", defArgs s_call_advance, defBody s_call_advance, defScope s_call_advance, [], []⟩
def d_call_enter : He.DefD := ⟨("call_enter", none), "call_enter", "call_enter", defArgs s_call_enter, defBody s_call_enter, defScope s_call_enter, [], []⟩
def d_call_assign : He.DefD := ⟨("call_assign", none), "call_assign", "call_assign", defArgs s_call_assign, defBody s_call_assign, defScope s_call_assign, [], []⟩
def d_call_experiment_of : He.DefD := ⟨("call_experiment_of", none), "call_experiment_of", "call_experiment_of", defArgs s_call_experiment_of, defBody s_call_experiment_of, defScope s_call_experiment_of, [], []⟩
def d_call_bucket : He.DefD := ⟨("call_bucket", none), "call_bucket", "call_bucket", defArgs s_call_bucket, defBody s_call_bucket, defScope s_call_bucket, [], []⟩
def d_call_hash : He.DefD := ⟨("call_hash", none), "call_hash", "call_hash", defArgs s_call_hash, defBody s_call_hash, defScope s_call_hash, [], []⟩
def d_call_is_held_out : He.DefD := ⟨("call_is_held_out", none), "call_is_held_out", "call_is_held_out", defArgs s_call_is_held_out, defBody s_call_is_held_out, defScope s_call_is_held_out, [], []⟩
def d_call_allocation : He.DefD := ⟨("call_allocation", none), "call_allocation", "call_allocation", defArgs s_call_allocation, defBody s_call_allocation, defScope s_call_allocation, [], []⟩
def d_call_free_count : He.DefD := ⟨("call_free_count", none), "call_free_count", "call_free_count", defArgs s_call_free_count, defBody s_call_free_count, defScope s_call_free_count, [], []⟩
def d_call_targets : He.DefD := ⟨("call_targets", none), "call_targets", "call_targets", defArgs s_call_targets, defBody s_call_targets, defScope s_call_targets, [], []⟩
def d_call_get_experiment : He.DefD := ⟨("call_get_experiment", none), "call_get_experiment", "call_get_experiment", defArgs s_call_get_experiment, defBody s_call_get_experiment, defScope s_call_get_experiment, [], []⟩
def d_call_list_stored : He.DefD := ⟨("call_list_stored", none), "call_list_stored", "call_list_stored", defArgs s_call_list_stored, defBody s_call_list_stored, defScope s_call_list_stored, [], []⟩
def d_call_sample_counts : He.DefD := ⟨("call_sample_counts", none), "call_sample_counts", "call_sample_counts", defArgs s_call_sample_counts, defBody s_call_sample_counts, defScope s_call_sample_counts, [], []⟩
def d_call_cross_table : He.DefD := ⟨("call_cross_table", none), "call_cross_table", "call_cross_table", defArgs s_call_cross_table, defBody s_call_cross_table, defScope s_call_cross_table, [], []⟩
def d_call_summary : He.DefD := ⟨("call_summary", none), "call_summary", "call_summary", defArgs s_call_summary, defBody s_call_summary, defScope s_call_summary, [], []⟩
def d_answered : He.DefD := ⟨("answered", none), "answered", "answered", defArgs s_answered, defBody s_answered, defScope s_answered, [], []⟩
def d_answers : He.DefD := ⟨("answers", none), "answers", "answers", defArgs s_answers, defBody s_answers, defScope s_answers, [], []⟩
def fn : List He.DefD := [d_followed, d_finished, d_hash_of, d_salted, d_bucket_behind, d_sample_unit, d_quarters, d_targets_of, d_owned_by, d_given_up, d_reallocated, d_moved, d_runs_of, d_Layer_init, d_Experiment_init, d_Experiment_targets, d_Stored_init, d_Platform_init, d_Platform_start, d_Platform_has_experiment, d_Platform_layer_of, d_Platform_is_held_out, d_Platform_valid, d_Platform_stored_in, d_Platform_assignment, d_Platform_remove, d_are_octets, d_are_weights, d_call_create, d_call_add_layer, d_call_add_experiment, d_call_remove_experiment, d_change, d_new_traffic, d_new_weights, d_call_set_traffic, d_call_set_weights, d_call_preview_traffic, d_call_preview_weights, d_call_set_holdout, d_call_set_override, d_call_remove_override, d_call_advance, d_call_enter, d_call_assign, d_call_experiment_of, d_call_bucket, d_call_hash, d_call_is_held_out, d_call_allocation, d_call_free_count, d_call_targets, d_call_get_experiment, d_call_list_stored, d_call_sample_counts, d_call_cross_table, d_call_summary, d_answered, d_answers]
def fa_0 : List He.Fa := [.glo "followed", .glo "finished", .glo "hash_of", .glo "salted", .glo "bucket_behind", .glo "sample_unit", .glo "quarters", .glo "FREE", .glo "targets_of", .glo "owned_by", .glo "given_up", .glo "reallocated", .glo "moved", .glo "runs_of", .glo "NONE", .glo "Layer", .glo "Experiment", .glo "Stored", .glo "Platform", .glo "are_octets", .glo "are_weights", .glo "call_create", .glo "call_add_layer", .glo "call_add_experiment", .glo "call_remove_experiment", .glo "change", .glo "new_traffic", .glo "new_weights", .glo "call_set_traffic", .glo "call_set_weights"]
def fa_1 : List He.Fa := [.glo "call_preview_traffic", .glo "call_preview_weights", .glo "call_set_holdout", .glo "call_set_override", .glo "call_remove_override", .glo "call_advance", .glo "call_enter", .glo "call_assign", .glo "call_experiment_of", .glo "call_bucket", .glo "call_hash", .glo "call_is_held_out", .glo "call_allocation", .glo "call_free_count", .glo "call_targets", .glo "call_get_experiment", .glo "call_list_stored", .glo "call_sample_counts", .glo "call_cross_table", .glo "call_summary", .glo "DEEDS", .glo "NUMBERS", .glo "WITH_ROW", .glo "answered", .glo "answers", .int "FIRST" 14695981039346656037, .int "PRIME" 1099511628211, .int "ONE" 18397679294719823053, .int "TWO" 14181476777654086739, .int "HALF" 8589934592]
def fa_2 : List He.Fa := [.int "WHOLE" 18446744073709551616, .int "BETWEEN" 58, .int "SAMPLE" 117, .int "BUCKETS" 100, .int "MOST_LAYERS" 4, .int "MOST_EXPERIMENTS" 8, .int "MOST_TRAFFIC" 100, .int "MOST_WEIGHT" 100, .int "MOST_OVERRIDES" 16, .int "MOST_STORED" 32, .int "MOST_TIME" 10000, .int "MOST_UNITS" 300, .int "MOST_LENGTH" 1000, .free "sum", .free "sorted", .free "range", .free "len", .free "enumerate", .free "list", .free "max", .free "tuple", .free "all", .cls "Layer", .noat "Layer" "salt", .noat "Layer" "begun", .noat "Layer" "owners", .mkr "Layer", .cls "Experiment", .noat "Experiment" "layer", .noat "Experiment" "traffic"]
def fa_3 : List He.Fa := [.noat "Experiment" "weights", .meth "Experiment" "targets", .mkr "Experiment", .cls "Stored", .noat "Stored" "unit", .noat "Stored" "experiment", .noat "Stored" "variant", .noat "Stored" "expiry", .mkr "Stored", .cls "Platform", .noat "Platform" "is_ready", .noat "Platform" "salt", .noat "Platform" "begun", .noat "Platform" "holdout", .noat "Platform" "clock", .noat "Platform" "layers", .noat "Platform" "experiments", .noat "Platform" "overrides", .noat "Platform" "stored", .meth "Platform" "start", .meth "Platform" "has_experiment", .meth "Platform" "layer_of", .meth "Platform" "is_held_out", .meth "Platform" "valid", .meth "Platform" "stored_in", .meth "Platform" "assignment", .meth "Platform" "remove", .mkr "Platform"]
def fa : List He.Fa := fa_0 ++ (fa_1 ++ (fa_2 ++ (fa_3)))
def loose_0 : List PySem.Str := ["FIRST", "PRIME", "ONE", "TWO", "HALF", "WHOLE", "BETWEEN", "SAMPLE", "followed", "finished", "hash_of", "salted", "bucket_behind", "sample_unit", "quarters", "FREE", "BUCKETS", "targets_of", "owned_by", "given_up", "reallocated", "moved", "runs_of", "NONE", "Layer", "Experiment", "Stored", "Platform", "MOST_LAYERS", "MOST_EXPERIMENTS"]
def loose_1 : List PySem.Str := ["MOST_TRAFFIC", "MOST_WEIGHT", "MOST_OVERRIDES", "MOST_STORED", "MOST_TIME", "MOST_UNITS", "MOST_LENGTH", "are_octets", "are_weights", "call_create", "call_add_layer", "call_add_experiment", "call_remove_experiment", "change", "new_traffic", "new_weights", "call_set_traffic", "call_set_weights", "call_preview_traffic", "call_preview_weights", "call_set_holdout", "call_set_override", "call_remove_override", "call_advance", "call_enter", "call_assign", "call_experiment_of", "call_bucket", "call_hash", "call_is_held_out"]
def loose_2 : List PySem.Str := ["call_allocation", "call_free_count", "call_targets", "call_get_experiment", "call_list_stored", "call_sample_counts", "call_cross_table", "call_summary", "DEEDS", "NUMBERS", "WITH_ROW", "answered"]
def loose : List PySem.Str := loose_0 ++ (loose_1 ++ (loose_2))
/-- DEEDS: its keys and the names that it holds -/
def deeds : List (Int × Str) := [(1, "call_add_layer"), (2, "call_add_experiment"), (3, "call_remove_experiment"), (4, "call_set_traffic"), (5, "call_set_weights"), (6, "call_set_holdout"), (7, "call_set_override"), (8, "call_remove_override"), (9, "call_advance"), (10, "call_enter"), (11, "call_assign"), (12, "call_experiment_of"), (13, "call_bucket"), (14, "call_hash"), (15, "call_is_held_out"), (16, "call_allocation"), (17, "call_free_count"), (18, "call_targets"), (19, "call_preview_traffic"), (20, "call_preview_weights"), (21, "call_get_experiment"), (22, "call_list_stored"), (23, "call_sample_counts"), (24, "call_cross_table"), (25, "call_summary")]
def numbers : List (Int × Int) := [(0, 0), (1, 0), (2, 2), (3, 1), (4, 2), (5, 1), (6, 1), (7, 2), (8, 1), (9, 1), (10, 2), (11, 1), (12, 1), (13, 1), (14, 0), (15, 0), (16, 1), (17, 1), (18, 1), (19, 2), (20, 1), (21, 1), (22, 1), (23, 2), (24, 3), (25, 0)]
def withRow : List Int := [0, 1, 2, 5, 7, 8, 10, 11, 12, 13, 14, 15, 20]
/-- a written dict with int keys: its entries -/
def entI (K : PySem.W.Frag) : DictEntry → (Int × He.Dv) → Bool := fun e q => (match e.key with
  | .int k _ => decide (k = q.1)
  | _ => false) && (decide (e.hash = hashInt q.1) && He.relB (q.2.v K) e.val)
def entsI (K : PySem.W.Frag) : List DictEntry → List (Int × He.Dv) → Bool
  | [], [] => true
  | e :: es, q :: qs => entI K e q && entsI K es qs
  | _, _ => false
def dicI (K : PySem.W.Frag) (x : Str) (kvs : List (Int × He.Dv)) : Bool := match K.lookup (He.ga K x) with
  | some ⟨.type c, none, .dict es _, sl⟩ => decide (c = "dict") && (sl.isEmpty && (!(He.ga K x == sysModules) && entsI K es.toList kvs))
  | _ => false
/-- the facts beside the hook's own -/
def more (K : PySem.W.Frag) : Bool := He.tupB K "FREE" [.int (-1), .int (-1)] && (He.tupB K "NONE" [.int (-1), .int (-1)] && (He.tupB K "WITH_ROW" (withRow.map .int) &&
  (dicI K "NUMBERS" (numbers.map fun q => (q.1, .int q.2)) && dicI K "DEEDS" (deeds.map fun q => (q.1, .glo q.2)))))
def tf : List He.Defn := [("targets_of", none)]
abbrev R : PySem.W.OpenSpec := PySem.Challenge.rw_variantbuckets_s01_answers
abbrev hk : PySem.W.Hook := He.hookX 5 fa fn [] tf more
def ob (s : PySem.W.SharedT) : He.AlX := He.obsX 5 fa fn [] tf more (HandSHeadRun.getT s)
theorem ob_eq (s : PySem.W.SharedT) : ob s = hk.obs s.abs := He.obsX_eq (HandSHeadRun.getT_eq s)
abbrev qv : Program := PySem.W.view R.prog [76]
end Vb

set_option Elab.async false
set_option linter.all false
set_option maxRecDepth 100000
set_option maxHeartbeats 0
namespace Vb
open PySem PySem.Spec PyProof.Rows L2
theorem run_f (w : World) : HandSHeadRun.RunEqS R qv hk ob 6000 loose (w.withFollow "special-get-raises" false) := by
  intro os
  kernel_rfl
theorem run_t (w : World) : HandSHeadRun.RunEqS R qv hk ob 6000 loose (w.withFollow "special-get-raises" true) := by
  intro os
  kernel_rfl
theorem run (w : World) : HandSHeadRun.RunEqS R qv hk ob 6000 loose w := PySem.W.byRow2 "special-get-raises" run_f run_t w
end Vb

set_option maxHeartbeats 4000000
/-! Owners of buckets: the program's way of reallocating is the specification's. -/
namespace Vb
open Kex2

/-- the places below n at which o stands -/
def idxN (l : List Nat) (o n : Nat) : List Nat := (List.range n).filter fun i => l[i]? == some o
/-- the places at which o stands -/
def idxs (l : List Nat) (o : Nat) : List Nat := idxN l o l.length
def setAll (l : List Nat) (is : List Nat) (o : Nat) : List Nat := is.foldl (fun l i => l.set i o) l

theorem mem_idxN {l : List Nat} {o n i : Nat} : i ∈ idxN l o n ↔ i < n ∧ l[i]? = some o := by
  unfold idxN
  rw [List.mem_filter, List.mem_range, beq_iff_eq]
theorem mem_idxs {l : List Nat} {o i : Nat} : i ∈ idxs l o ↔ l[i]? = some o := by
  unfold idxs
  rw [mem_idxN]
  constructor
  · exact fun h => h.2
  · exact fun h => ⟨(List.getElem?_eq_some_iff.mp h).1, h⟩
theorem idxN_nodup (l : List Nat) (o n : Nat) : (idxN l o n).Nodup := List.nodup_range.filter _
theorem idxs_nodup (l : List Nat) (o : Nat) : (idxs l o).Nodup := idxN_nodup l o _
theorem idxN_sorted (l : List Nat) (o n : Nat) : (idxN l o n).Pairwise (· < ·) := List.pairwise_lt_range.filter _
theorem idxs_sorted (l : List Nat) (o : Nat) : (idxs l o).Pairwise (· < ·) := idxN_sorted l o _
theorem idxN_succ (l : List Nat) (o n : Nat) : idxN l o (n + 1) = idxN l o n ++ (if l[n]? = some o then [n] else []) := by
  unfold idxN
  rw [List.range_succ, List.filter_append]
  congr 1
  by_cases h : l[n]? = some o
  · simp [h]
  · simp [h]
theorem setAll_length (o : Nat) : ∀ (is l : List Nat), (setAll l is o).length = l.length
  | [], _ => rfl
  | i :: is, l => by
    show (setAll (l.set i o) is o).length = _
    rw [setAll_length o is, List.length_set]
theorem setAll_get (o : Nat) : ∀ (is l : List Nat) (j : Nat), (setAll l is o)[j]? = if j ∈ is ∧ j < l.length then some o else l[j]?
  | [], l, j => by
    show l[j]? = _
    rw [if_neg (by simp)]
  | i :: is, l, j => by
    show (setAll (l.set i o) is o)[j]? = _
    rw [setAll_get o is, List.length_set]
    by_cases hj : j < l.length
    · by_cases h1 : j ∈ is
      · rw [if_pos ⟨h1, hj⟩, if_pos ⟨List.mem_cons_of_mem _ h1, hj⟩]
      · rw [if_neg (fun z => h1 z.1)]
        by_cases h2 : j = i
        · subst h2
          rw [if_pos ⟨List.mem_cons_self, hj⟩, List.getElem?_set_self hj]
        · rw [if_neg (fun z => (List.mem_cons.mp z.1).elim h2 h1), List.getElem?_set_ne (Ne.symm h2)]
    · rw [if_neg (fun z => hj z.2), if_neg (fun z => hj z.2)]
      rw [List.getElem?_eq_none (by rw [List.length_set]; omega), List.getElem?_eq_none (by omega)]
theorem setAll_append (l is js : List Nat) (o : Nat) : setAll l (is ++ js) o = setAll (setAll l is o) js o := by
  unfold setAll
  rw [List.foldl_append]
theorem map_set (f : Nat → Nat) (l : List Nat) (i x : Nat) : (l.set i x).map f = (l.map f).set i (f x) := by
  apply List.ext_getElem?
  intro j
  simp only [List.getElem?_map, List.getElem?_set, List.length_map]
  by_cases h : i = j
  · subst h
    by_cases h2 : i < l.length
    · simp [h2]
    · simp [h2]
  · simp [h]
theorem setAll_map (f : Nat → Nat) (o : Nat) : ∀ (is l : List Nat), (setAll l is o).map f = setAll (l.map f) is (f o)
  | [], _ => rfl
  | i :: is, l => by
    show (setAll (l.set i o) is o).map f = setAll ((l.map f).set i (f o)) is (f o)
    rw [setAll_map f o is, map_set]
/-- equal by places -/
theorem idx_ext {l m : List Nat} (h : ∀ i : Nat, l[i]? = m[i]?) : l = m := List.ext_getElem? h
theorem filter_congr_mem {p q : Nat → Bool} {l : List Nat} (h : ∀ x ∈ l, p x = q x) : l.filter p = l.filter q := List.filter_congr h
theorem idxs_setAll {l is : List Nat} {o q : Nat} (h : q ≠ o) : idxs (setAll l is o) q = (idxs l q).filter fun i => decide (i ∉ is) := by
  unfold idxs idxN
  rw [setAll_length, List.filter_filter]
  refine filter_congr_mem fun i hi => ?_
  have hl := List.mem_range.mp hi
  rw [setAll_get]
  by_cases h1 : i ∈ is
  · rw [if_pos ⟨h1, hl⟩]
    have e : (some o == some q) = false := by simp [Ne.symm h]
    rw [e]
    simp [h1]
  · rw [if_neg (fun z => h1 z.1)]
    simp [h1]
theorem filter_not_take : ∀ (l : List Nat) (m : Nat), l.Nodup → l.filter (fun i => decide (i ∉ l.take m)) = l.drop m
  | [], _, _ => by simp
  | x :: l, 0, _ => by simp
  | x :: l, m + 1, h => by
    obtain ⟨h1, h2⟩ := List.nodup_cons.mp h
    rw [List.take_succ_cons, List.drop_succ_cons, List.filter_cons]
    rw [if_neg (by simp)]
    rw [← filter_not_take l m h2]
    refine filter_congr_mem fun y hy => ?_
    have : y ≠ x := fun e => h1 (e ▸ hy)
    simp [this]
theorem filter_not_of {l s : List Nat} (h : ∀ i ∈ l, i ∉ s) : l.filter (fun i => decide (i ∉ s)) = l := by
  rw [List.filter_eq_self]
  intro i hi
  simpa using h i hi
theorem count_idxs (l : List Nat) (o : Nat) : countOwner l o = (idxs l o).length := by
  unfold countOwner idxs
  have : ∀ n, n ≤ l.length → (l.take n).countP (· == o) = (idxN l o n).length := by
    intro n
    induction n with
    | zero => intro _; rfl
    | succ n ih =>
      intro h
      rw [idxN_succ, List.length_append, ← ih (by omega), List.take_add_one, List.countP_append]
      have hn : l[n]? = some l[n] := List.getElem?_eq_getElem (by omega)
      rw [hn]
      congr 1
      by_cases e : l[n] = o
      · simp [e]
      · simp [e]
  have h := this l.length (Nat.le_refl _)
  rw [List.take_length] at h
  exact h

theorem idxN_split (l : List Nat) (o n : Nat) : ∀ k, ∃ X, idxN l o (n + k) = idxN l o n ++ X ∧ ∀ x ∈ X, n ≤ x
  | 0 => ⟨[], by simp, by simp⟩
  | k + 1 => by
    obtain ⟨X, e, h⟩ := idxN_split l o n k
    refine ⟨X ++ (if l[n + k]? = some o then [n + k] else []), ?_, fun x hx => ?_⟩
    · rw [show n + (k + 1) = n + k + 1 by omega, idxN_succ, e, List.append_assoc]
    · rcases List.mem_append.mp hx with h1 | h1
      · exact h x h1
      · split at h1
        · have := List.mem_singleton.mp h1
          omega
        · simp at h1
theorem idxs_at {l : List Nat} {o n : Nat} (hn : l[n]? = some o) : ∃ X, idxs l o = idxN l o n ++ n :: X ∧ ∀ x ∈ X, n < x := by
  have hl : n < l.length := (List.getElem?_eq_some_iff.mp hn).1
  obtain ⟨X, e, h⟩ := idxN_split l o (n + 1) (l.length - (n + 1))
  refine ⟨X, ?_, fun x hx => h x hx⟩
  unfold idxs
  rw [show l.length = n + 1 + (l.length - (n + 1)) by omega, e, idxN_succ, if_pos hn, List.append_assoc]
  rfl
theorem mem_drop_idx {l : List Nat} {o n k : Nat} : n ∈ (idxs l o).drop k ↔ l[n]? = some o ∧ k ≤ (idxN l o n).length := by
  constructor
  · intro h
    have h1 : l[n]? = some o := mem_idxs.mp (List.mem_of_mem_drop h)
    refine ⟨h1, ?_⟩
    obtain ⟨X, e, hX⟩ := idxs_at h1
    rw [e, List.drop_append] at h
    by_cases hk : k ≤ (idxN l o n).length
    · exact hk
    · exfalso
      rw [List.drop_eq_nil_of_le (by omega), List.nil_append] at h
      obtain ⟨j, hj⟩ : ∃ j, k - (idxN l o n).length = j + 1 := ⟨k - (idxN l o n).length - 1, by omega⟩
      rw [hj, List.drop_succ_cons] at h
      have := hX n (List.mem_of_mem_drop h)
      omega
  · rintro ⟨h1, hk⟩
    obtain ⟨X, e, hX⟩ := idxs_at h1
    rw [e, List.drop_append, show k - (idxN l o n).length = 0 by omega]
    exact List.mem_append_right _ List.mem_cons_self
theorem mem_take_idx {l : List Nat} {o n k : Nat} : n ∈ (idxs l o).take k ↔ l[n]? = some o ∧ (idxN l o n).length < k := by
  constructor
  · intro h
    have h1 : l[n]? = some o := mem_idxs.mp (List.mem_of_mem_take h)
    refine ⟨h1, ?_⟩
    obtain ⟨X, e, hX⟩ := idxs_at h1
    rw [e, List.take_append] at h
    by_cases hk : (idxN l o n).length < k
    · exact hk
    · exfalso
      rw [show k - (idxN l o n).length = 0 by omega, List.take_zero, List.append_nil] at h
      have := (mem_idxN.mp (List.mem_of_mem_take h)).1
      omega
  · rintro ⟨h1, hk⟩
    obtain ⟨X, e, hX⟩ := idxs_at h1
    rw [e, List.take_append]
    obtain ⟨j, hj⟩ : ∃ j, k - (idxN l o n).length = j + 1 := ⟨k - (idxN l o n).length - 1, by omega⟩
    rw [hj, List.take_succ_cons]
    exact List.mem_append_right _ List.mem_cons_self
theorem take_snoc {α : Type} {l : List α} {n : Nat} {x : α} (h : l[n]? = some x) : l.take (n + 1) = l.take n ++ [x] := by
  rw [List.take_add_one, h]
  rfl
theorem fold_keep (l : List Nat) (o keep : Nat) : ∀ n, n ≤ l.length →
    (l.take n).foldl (fun (s : Nat × List Nat) x => if x = o then (if s.1 < keep then (s.1 + 1, x :: s.2) else (s.1, pool :: s.2)) else (s.1, x :: s.2)) (0, []) =
      (min (idxN l o n).length keep, ((setAll l ((idxs l o).drop keep) pool).take n).reverse)
  | 0, _ => by simp [idxN]
  | n + 1, h => by
    have hx : l[n]? = some l[n] := List.getElem?_eq_getElem (by omega)
    rw [take_snoc hx, List.foldl_append, fold_keep l o keep n (by omega), idxN_succ]
    have ht : (setAll l ((idxs l o).drop keep) pool)[n]? = some (if l[n] = o ∧ keep ≤ (idxN l o n).length then pool else l[n]) := by
      rw [setAll_get]
      by_cases c : l[n] = o ∧ keep ≤ (idxN l o n).length
      · rw [if_pos ⟨mem_drop_idx.mpr ⟨by rw [hx, c.1], c.2⟩, by omega⟩, if_pos c]
      · rw [if_neg (fun z => c ?_), if_neg c, hx]
        obtain ⟨z1, z2⟩ := mem_drop_idx.mp z.1
        rw [hx] at z1
        exact ⟨Option.some.inj z1, z2⟩
    rw [take_snoc ht, List.reverse_append, hx]
    simp only [List.foldl_cons, List.foldl_nil, List.reverse_cons, List.reverse_nil, List.nil_append, List.singleton_append, Option.some.injEq]
    by_cases e : l[n] = o
    · by_cases k : keep ≤ (idxN l o n).length
      · simp [e, k, show ¬ min (idxN l o n).length keep < keep by omega]
        omega
      · simp [e, k, show min (idxN l o n).length keep < keep by omega]
        omega
    · simp [e]
theorem keepFirst_eq (l : List Nat) (o keep : Nat) : keepFirst l o keep = setAll l ((idxs l o).drop keep) pool := by
  unfold keepFirst
  have h := fold_keep l o keep l.length (Nat.le_refl _)
  rw [List.take_length] at h
  rw [h, List.reverse_reverse, List.take_of_length_le (by rw [setAll_length]; exact Nat.le_refl _)]
theorem fold_take (l : List Nat) (src tgt most : Nat) : ∀ n, n ≤ l.length →
    (l.take n).foldl (fun (s : Nat × List Nat) x => if x = src ∧ s.1 < most then (s.1 + 1, tgt :: s.2) else (s.1, x :: s.2)) (0, []) =
      (min (idxN l src n).length most, ((setAll l ((idxs l src).take most) tgt).take n).reverse)
  | 0, _ => by simp [idxN]
  | n + 1, h => by
    have hx : l[n]? = some l[n] := List.getElem?_eq_getElem (by omega)
    rw [take_snoc hx, List.foldl_append, fold_take l src tgt most n (by omega), idxN_succ]
    have ht : (setAll l ((idxs l src).take most) tgt)[n]? = some (if l[n] = src ∧ (idxN l src n).length < most then tgt else l[n]) := by
      rw [setAll_get]
      by_cases c : l[n] = src ∧ (idxN l src n).length < most
      · rw [if_pos ⟨mem_take_idx.mpr ⟨by rw [hx, c.1], c.2⟩, by omega⟩, if_pos c]
      · rw [if_neg (fun z => c ?_), if_neg c, hx]
        obtain ⟨z1, z2⟩ := mem_take_idx.mp z.1
        rw [hx] at z1
        exact ⟨Option.some.inj z1, z2⟩
    rw [take_snoc ht, List.reverse_append, hx]
    simp only [List.foldl_cons, List.foldl_nil, List.reverse_cons, List.reverse_nil, List.nil_append, List.singleton_append, Option.some.injEq]
    by_cases e : l[n] = src
    · by_cases k : (idxN l src n).length < most
      · simp [e, k, show min (idxN l src n).length most < most by omega]
        omega
      · simp [e, k, show ¬ min (idxN l src n).length most < most by omega]
        omega
    · simp [e]
theorem takeFirst_eq (l : List Nat) (src tgt most : Nat) : takeFirst l src tgt most = setAll l ((idxs l src).take most) tgt := by
  unfold takeFirst
  have h := fold_take l src tgt most l.length (Nat.le_refl _)
  rw [List.take_length] at h
  rw [h, List.reverse_reverse, List.take_of_length_le (by rw [setAll_length]; exact Nat.le_refl _)]
end Vb

set_option maxHeartbeats 4000000
/-! The reallocation: the program's loops over spare buckets give the specification's reallocate. -/
namespace Vb
open Kex2

theorem setAll_get_in {l is : List Nat} {o j : Nat} (h : j ∈ is) (hj : j < l.length) : (setAll l is o)[j]? = some o := by
  rw [setAll_get, if_pos ⟨h, hj⟩]
theorem setAll_get_out {l is : List Nat} {o j : Nat} (h : j ∉ is) : (setAll l is o)[j]? = l[j]? := by
  rw [setAll_get, if_neg (fun z => h z.1)]
theorem setAll_congr {l is js : List Nat} {o : Nat} (h : ∀ i, i < l.length → (i ∈ is ↔ i ∈ js)) : setAll l is o = setAll l js o := by
  refine idx_ext fun i => ?_
  rw [setAll_get, setAll_get]
  by_cases hi : i < l.length
  · by_cases hm : i ∈ is
    · rw [if_pos ⟨hm, hi⟩, if_pos ⟨(h i hi).mp hm, hi⟩]
    · rw [if_neg (fun z => hm z.1), if_neg (fun z => hm ((h i hi).mpr z.1))]
  · rw [if_neg (fun z => hi z.2), if_neg (fun z => hi z.2)]
theorem own_inj {e v w : Nat} (h : ownerOf e v = ownerOf e w) : v = w := by
  have h : (1 + 4 * e + v : Nat) = 1 + 4 * e + w := h
  omega
theorem own_ne0 (e v : Nat) : ownerOf e v ≠ 0 := by
  show (1 + 4 * e + v : Nat) ≠ 0
  omega
/-- what the first k variants give up -/
def givN (l : List Nat) (e : Nat) (goal : List Nat) (k : Nat) : List Nat :=
  (List.range l.length).filter fun i => (List.range k).any fun v => decide (i ∈ (idxs l (ownerOf e v)).drop (goal.getD v 0))
def giv (l : List Nat) (e : Nat) (goal : List Nat) : List Nat := givN l e goal goal.length
theorem mem_givN {l : List Nat} {e k i : Nat} {goal : List Nat} : i ∈ givN l e goal k ↔ ∃ v, v < k ∧ i ∈ (idxs l (ownerOf e v)).drop (goal.getD v 0) := by
  unfold givN
  rw [List.mem_filter, List.mem_range, List.any_eq_true]
  constructor
  · rintro ⟨_, v, hv, h⟩
    exact ⟨v, List.mem_range.mp hv, of_decide_eq_true h⟩
  · rintro ⟨v, hv, h⟩
    exact ⟨(List.getElem?_eq_some_iff.mp (mem_idxs.mp (List.mem_of_mem_drop h))).1, v, List.mem_range.mpr hv, decide_eq_true h⟩
theorem givN_own {l : List Nat} {e k i : Nat} {goal : List Nat} (h : i ∈ givN l e goal k) : ∃ v, v < k ∧ l[i]? = some (ownerOf e v) := by
  obtain ⟨v, hv, h⟩ := mem_givN.mp h
  exact ⟨v, hv, mem_idxs.mp (List.mem_of_mem_drop h)⟩
theorem givN_nodup (l : List Nat) (e k : Nat) (goal : List Nat) : (givN l e goal k).Nodup := List.nodup_range.filter _
theorem release (l : List Nat) (e : Nat) (goal : List Nat) (hp : ∀ v, v < goal.length → ownerOf e v ≠ pool) : ∀ k, k ≤ goal.length →
    (List.range k).foldl (fun l v => keepFirst l (ownerOf e v) (goal.getD v 0)) l = setAll l (givN l e goal k) pool
  | 0, _ => by
    show l = _
    have : givN l e goal 0 = [] := by
      unfold givN
      simp
    rw [this]
    rfl
  | k + 1, h => by
    rw [List.range_succ, List.foldl_append, release l e goal hp k (by omega)]
    show keepFirst (setAll l (givN l e goal k) pool) (ownerOf e k) (goal.getD k 0) = _
    rw [keepFirst_eq, idxs_setAll (hp k (by omega)), filter_not_of fun i hi hg => ?_, ← setAll_append]
    · refine setAll_congr fun i _ => ?_
      rw [List.mem_append, mem_givN, mem_givN]
      constructor
      · rintro (⟨v, hv, hm⟩ | hm)
        · exact ⟨v, by omega, hm⟩
        · exact ⟨k, by omega, hm⟩
      · rintro ⟨v, hv, hm⟩
        by_cases e : v = k
        · subst e
          exact .inr hm
        · exact .inl ⟨v, by omega, hm⟩
    · obtain ⟨v, hv, h1⟩ := givN_own hg
      rw [mem_idxs.mp hi] at h1
      have := own_inj (Option.some.inj h1)
      omega
theorem perm_of {A B : List Nat} (ha : A.Nodup) (hb : B.Nodup) (h : ∀ x, x ∈ A ↔ x ∈ B) : A.Perm B := (List.perm_ext_iff_of_nodup ha hb).mpr fun a => h a
theorem idxs_set_same {l S : List Nat} {o : Nat} (hn : S.Nodup) (hr : ∀ i ∈ S, i < l.length) (ho : ∀ i ∈ S, l[i]? ≠ some o) : (idxs (setAll l S o) o).Perm (idxs l o ++ S) := by
  refine perm_of (idxs_nodup _ _) ?_ fun i => ?_
  · rw [List.nodup_append]
    refine ⟨idxs_nodup _ _, hn, fun a ha b hb e => ?_⟩
    subst e
    exact ho _ hb (mem_idxs.mp ha)
  · rw [mem_idxs, List.mem_append, mem_idxs]
    by_cases hi : i ∈ S
    · rw [setAll_get_in hi (hr i hi)]
      simp [hi]
    · rw [setAll_get_out hi]
      simp [hi]
theorem count_set {l S : List Nat} {o : Nat} (hn : S.Nodup) (hr : ∀ i ∈ S, i < l.length) (ho : ∀ i ∈ S, l[i]? ≠ some o) : (idxs (setAll l S o) o).length = (idxs l o).length + S.length := by
  rw [(idxs_set_same hn hr ho).length_eq, List.length_append]
/-- how many buckets a variant lacks -/
def need (l : List Nat) (e : Nat) (goal : List Nat) (v : Nat) : Nat := goal.getD v 0 - (idxs l (ownerOf e v)).length
def needs (l : List Nat) (e : Nat) (goal : List Nat) (k : Nat) : Nat := ((List.range k).map (need l e goal)).sum
theorem needs_succ (l : List Nat) (e : Nat) (goal : List Nat) (k : Nat) : needs l e goal (k + 1) = needs l e goal k + need l e goal k := by
  unfold needs
  rw [List.range_succ, List.map_append, List.sum_append]
  simp
theorem needs_le (l : List Nat) (e : Nat) (goal : List Nat) {j k : Nat} (h : j ≤ k) : needs l e goal j ≤ needs l e goal k := by
  induction k with
  | zero => 
    have : j = 0 := by omega
    rw [this]
    exact Nat.le_refl _
  | succ k ih =>
    by_cases e1 : j = k + 1
    · rw [e1]
      exact Nat.le_refl _
    · rw [needs_succ]
      have := ih (by omega)
      omega
def spare (l : List Nat) (e : Nat) (goal : List Nat) : List Nat := giv l e goal ++ idxs l 0
def unpool (x : Nat) : Nat := if x = pool then 0 else x
/-- the program's buckets behind the first k variants -/
def fill (l : List Nat) (e : Nat) (goal : List Nat) : Nat → List Nat
  | 0 => setAll l (giv l e goal) 0
  | k + 1 => setAll (fill l e goal k) (((spare l e goal).drop (needs l e goal k)).take (need l e goal k)) (ownerOf e k)
def specFill (goal : List Nat) (e : Nat) (l : List Nat) (v : Nat) : List Nat :=
  let o := ownerOf e v
  let nd := goal.getD v 0 - countOwner l o
  let fromPool := takeFirst l pool o nd
  takeFirst fromPool 0 o (goal.getD v 0 - countOwner fromPool o)
structure FillInv (l : List Nat) (e : Nat) (goal : List Nat) (k : Nat) (l' : List Nat) : Prop where
  len : l'.length = l.length
  same : fill l e goal k = l'.map unpool
  rest : (spare l e goal).drop (needs l e goal k) = idxs l' pool ++ idxs l' 0
  later : ∀ v, k ≤ v → v < goal.length → idxs l' (ownerOf e v) = (idxs l (ownerOf e v)).take (goal.getD v 0)
  done : ∀ v, v < k → (idxs l' (ownerOf e v)).length = goal.getD v 0
  other : ∀ q, q ≠ pool → q ≠ 0 → (∀ v, v < goal.length → q ≠ ownerOf e v) → idxs l' q = idxs l q
  vals : ∀ x ∈ l', x ∈ l ∨ x = 0 ∨ x = pool ∨ ∃ v, v < goal.length ∧ x = ownerOf e v
theorem setAll_vals {o : Nat} : ∀ {S l : List Nat}, ∀ x ∈ setAll l S o, x ∈ l ∨ x = o
  | [], _, x, h => .inl h
  | i :: S, l, x, h => by
    rcases setAll_vals (S := S) (l := l.set i o) x h with h1 | h1
    · rcases List.mem_or_eq_of_mem_set h1 with h2 | h2
      · exact .inl h2
      · exact .inr h2
    · exact .inr h1
theorem fill0 {l : List Nat} {e : Nat} {goal : List Nat} (hl : pool ∉ l) (hp : ∀ v, v < goal.length → ownerOf e v ≠ pool) : FillInv l e goal 0 (setAll l (giv l e goal) pool) where
  len := setAll_length _ _ _
  same := by
    show setAll l (giv l e goal) 0 = _
    rw [setAll_map]
    have e1 : l.map unpool = l := by
      conv => rhs; rw [← List.map_id l]
      refine List.map_congr_left fun x hx => ?_
      unfold unpool
      rw [if_neg (fun z : x = pool => hl (by rw [← z]; exact hx))]
      rfl
    rw [e1]
    rfl
  rest := by
    have e0 : needs l e goal 0 = 0 := rfl
    rw [e0, List.drop_zero]
    unfold spare
    have e1 : idxs (setAll l (giv l e goal) pool) pool = giv l e goal := by
      unfold idxs idxN
      rw [setAll_length]
      show _ = (List.range l.length).filter _
      refine filter_congr_mem fun i hi => ?_
      have hi' := List.mem_range.mp hi
      rw [setAll_get]
      by_cases hg : i ∈ giv l e goal
      · rw [if_pos ⟨hg, hi'⟩]
        have h2 := (List.mem_filter.mp (show i ∈ (List.range l.length).filter _ from hg)).2
        rw [h2]
        simp
      · rw [if_neg (fun z => hg z.1)]
        have h2 : ¬ ((List.range goal.length).any fun v => decide (i ∈ (idxs l (ownerOf e v)).drop (goal.getD v 0))) = true := fun z => hg (List.mem_filter.mpr ⟨hi, z⟩)
        rw [Bool.eq_false_iff.mpr h2]
        rw [beq_eq_false_iff_ne]
        intro z
        exact hl (List.mem_of_getElem? z)
    have e2 : idxs (setAll l (giv l e goal) pool) 0 = idxs l 0 := by
      rw [idxs_setAll (by decide)]
      refine filter_not_of fun i hi hg => ?_
      obtain ⟨v, _, h1⟩ := givN_own hg
      rw [mem_idxs.mp hi] at h1
      exact own_ne0 e v (Option.some.inj h1).symm
    rw [e1, e2]
  later := fun v _ hv => by
    rw [idxs_setAll (hp v hv)]
    have h1 : (idxs l (ownerOf e v)).filter (fun i => decide (i ∉ giv l e goal)) = (idxs l (ownerOf e v)).filter (fun i => decide (i ∉ (idxs l (ownerOf e v)).drop (goal.getD v 0))) := by
      refine filter_congr_mem fun i hi => ?_
      congr 1
      apply propext
      refine not_congr ?_
      unfold giv
      rw [mem_givN]
      constructor
      · rintro ⟨w, hw, h2⟩
        have h3 := mem_idxs.mp (List.mem_of_mem_drop h2)
        rw [mem_idxs.mp hi] at h3
        have := own_inj (Option.some.inj h3)
        subst this
        exact h2
      · exact fun h2 => ⟨v, hv, h2⟩
    rw [h1]
    have nd := idxs_nodup l (ownerOf e v)
    generalize idxs l (ownerOf e v) = A at nd
    generalize goal.getD v 0 = k
    have h2 : A = A.take k ++ A.drop k := (List.take_append_drop k A).symm
    have nd2 : (A.take k ++ A.drop k).Nodup := by rw [← h2]; exact nd
    rw [List.nodup_append] at nd2
    conv => lhs; rw [show A.filter (fun i => decide (i ∉ A.drop k)) = (A.take k ++ A.drop k).filter (fun i => decide (i ∉ A.drop k)) by rw [← h2]]
    rw [List.filter_append, filter_not_of (fun i h3 h4 => nd2.2.2 i h3 i h4 rfl)]
    have h5 : (A.drop k).filter (fun i => decide (i ∉ A.drop k)) = [] := by
      rw [List.filter_eq_nil_iff]
      intro i hi
      simp [hi]
    rw [h5, List.append_nil]
  done := fun v h => absurd h (by omega)
  other := fun q h1 h2 h3 => by
    rw [idxs_setAll h1]
    refine filter_not_of fun i hi hg => ?_
    obtain ⟨v, hv, h4⟩ := givN_own hg
    rw [mem_idxs.mp hi] at h4
    exact h3 v hv (Option.some.inj h4)
  vals := fun x hx => by
    rcases setAll_vals x hx with h | h
    · exact .inl h
    · exact .inr (.inr (.inl h))
theorem fill1 {l : List Nat} {e : Nat} {goal : List Nat} (hp : ∀ v, v < goal.length → ownerOf e v ≠ pool) (hs : needs l e goal goal.length ≤ (spare l e goal).length) {k : Nat} {l' : List Nat} (hk : k < goal.length) (I : FillInv l e goal k l') :
    FillInv l e goal (k + 1) (specFill goal e l' k) ∧ specFill goal e l' k = setAll l' (((spare l e goal).drop (needs l e goal k)).take (need l e goal k)) (ownerOf e k) := by
  have hA : ∀ i ∈ idxs l' pool, l'[i]? = some pool := fun i hi => mem_idxs.mp hi
  have hB : ∀ i ∈ idxs l' 0, l'[i]? = some 0 := fun i hi => mem_idxs.mp hi
  have ndA := idxs_nodup l' pool
  have ndB := idxs_nodup l' 0
  have dis : ∀ i ∈ idxs l' pool, i ∉ idxs l' 0 := fun i h1 h2 => by
    have := (hA i h1).symm.trans (hB i h2)
    cases this
  have h0 := I.later k (Nat.le_refl _) hk
  have hc : countOwner l' (ownerOf e k) = min (goal.getD k 0) (idxs l (ownerOf e k)).length := by
    rw [count_idxs, h0, List.length_take]
  have hm : goal.getD k 0 - countOwner l' (ownerOf e k) = need l e goal k := by
    rw [hc]
    unfold need
    omega
  have hop := hp k hk
  have ho0 := own_ne0 e k
  have hle : need l e goal k ≤ (idxs l' pool ++ idxs l' 0).length := by
    rw [← I.rest, List.length_drop]
    have h1 := needs_succ l e goal k
    have h2 := needs_le l e goal (show k + 1 ≤ goal.length from hk)
    omega
  have nA : ∀ i ∈ (idxs l' pool).take (need l e goal k), l'[i]? ≠ some (ownerOf e k) := fun i hi z => by
    rw [hA i (List.mem_of_mem_take hi)] at z
    exact hop (Option.some.inj z).symm
  have rA : ∀ i ∈ (idxs l' pool).take (need l e goal k), i < l'.length := fun i hi => (List.getElem?_eq_some_iff.mp (hA i (List.mem_of_mem_take hi))).1
  have key : specFill goal e l' k = setAll l' (((spare l e goal).drop (needs l e goal k)).take (need l e goal k)) (ownerOf e k) := by
    unfold specFill
    dsimp only
    rw [hm, takeFirst_eq l', takeFirst_eq]
    have c1 : countOwner (setAll l' ((idxs l' pool).take (need l e goal k)) (ownerOf e k)) (ownerOf e k) = countOwner l' (ownerOf e k) + min (need l e goal k) (idxs l' pool).length := by
      rw [count_idxs, count_set (ndA.sublist (List.take_sublist _ _)) rA nA, List.length_take, count_idxs]
    have c2 : goal.getD k 0 - countOwner (setAll l' ((idxs l' pool).take (need l e goal k)) (ownerOf e k)) (ownerOf e k) = need l e goal k - (idxs l' pool).length := by
      rw [c1, ← hm]
      omega
    have c3 : idxs (setAll l' ((idxs l' pool).take (need l e goal k)) (ownerOf e k)) 0 = idxs l' 0 := by
      rw [idxs_setAll (Ne.symm ho0)]
      exact filter_not_of fun i h1 h2 => dis i (List.mem_of_mem_take h2) h1
    rw [c2, c3, ← setAll_append, I.rest, List.take_append]
  refine ⟨?_, key⟩
  rw [key]
  have eS : ((spare l e goal).drop (needs l e goal k)).take (need l e goal k) = (idxs l' pool).take (need l e goal k) ++ (idxs l' 0).take (need l e goal k - (idxs l' pool).length) := by
    rw [I.rest, List.take_append]
  have hS : ∀ i ∈ ((spare l e goal).drop (needs l e goal k)).take (need l e goal k), l'[i]? = some pool ∨ l'[i]? = some 0 := fun i hi => by
    rw [eS] at hi
    rcases List.mem_append.mp hi with h | h
    · exact .inl (hA i (List.mem_of_mem_take h))
    · exact .inr (hB i (List.mem_of_mem_take h))
  have ndS : (((spare l e goal).drop (needs l e goal k)).take (need l e goal k)).Nodup := by
    rw [I.rest]
    refine List.Nodup.sublist (List.take_sublist _ _) ?_
    rw [List.nodup_append]
    exact ⟨ndA, ndB, fun a ha b hb e => dis a ha (e ▸ hb)⟩
  have rS : ∀ i ∈ ((spare l e goal).drop (needs l e goal k)).take (need l e goal k), i < l'.length := fun i hi => by
    rcases hS i hi with h | h <;> exact (List.getElem?_eq_some_iff.mp h).1
  refine ⟨(setAll_length _ _ _).trans I.len, ?_, ?_, fun v h1 h2 => ?_, fun v hv => ?_, fun q h1 h2 h3 => ?_, fun x hx => ?_⟩
  · show setAll (fill l e goal k) _ (ownerOf e k) = _
    rw [I.same, setAll_map]
    congr 1
    unfold unpool
    rw [if_neg hop]
  · rw [needs_succ, ← List.drop_drop, I.rest, List.drop_append]
    rw [idxs_setAll (Ne.symm hop), idxs_setAll (Ne.symm ho0), ← I.rest, eS]
    congr 1
    · rw [← filter_not_take _ _ ndA]
      refine filter_congr_mem fun i hi => ?_
      congr 1
      apply propext
      rw [List.mem_append]
      constructor
      · exact fun h z => z.elim h fun z2 => dis i hi (List.mem_of_mem_take z2)
      · exact fun h z => h (.inl z)
    · rw [← filter_not_take _ _ ndB]
      refine filter_congr_mem fun i hi => ?_
      congr 1
      apply propext
      rw [List.mem_append]
      constructor
      · exact fun h z => z.elim (fun z2 => dis i (List.mem_of_mem_take z2) hi) h
      · exact fun h z => h (.inr z)
  · have hne : ownerOf e v ≠ ownerOf e k := fun z => by
      have := own_inj z
      omega
    rw [idxs_setAll hne, filter_not_of fun i hi hg => ?_]
    · exact I.later v (by omega) h2
    · have h3 := mem_idxs.mp hi
      rcases hS i hg with h | h
      · rw [h3] at h
        exact hp v h2 (Option.some.inj h)
      · rw [h3] at h
        exact own_ne0 e v (Option.some.inj h)
  · by_cases hvk : v = k
    · subst hvk
      rw [count_set ndS rS fun i hi z => ?_]
      · rw [← count_idxs, hc, List.length_take, I.rest]
        unfold need at hle ⊢
        omega
      · rcases hS i hi with h | h
        · rw [h] at z
          exact hop (Option.some.inj z).symm
        · rw [h] at z
          exact ho0 (Option.some.inj z).symm
    · have hne : ownerOf e v ≠ ownerOf e k := fun z => hvk (own_inj z)
      rw [idxs_setAll hne, filter_not_of fun i hi hg => ?_]
      · exact I.done v (by omega)
      · have h3 := mem_idxs.mp hi
        rcases hS i hg with h | h
        · rw [h3] at h
          exact hp v (by omega) (Option.some.inj h)
        · rw [h3] at h
          exact own_ne0 e v (Option.some.inj h)
  · rw [idxs_setAll (h3 k hk), filter_not_of fun i hi hg => ?_]
    · exact I.other q h1 h2 h3
    · have h4 := mem_idxs.mp hi
      rcases hS i hg with h | h
      · rw [h4] at h
        exact h1 (Option.some.inj h)
      · rw [h4] at h
        exact h2 (Option.some.inj h)
  · rcases setAll_vals x hx with h | h
    · exact I.vals x h
    · exact .inr (.inr (.inr ⟨k, hk, h⟩))
theorem fill_all {l : List Nat} {e : Nat} {goal : List Nat} (hl : pool ∉ l) (hp : ∀ v, v < goal.length → ownerOf e v ≠ pool) (hs : needs l e goal goal.length ≤ (spare l e goal).length) : ∀ k, k ≤ goal.length →
    FillInv l e goal k ((List.range k).foldl (specFill goal e) (setAll l (giv l e goal) pool))
  | 0, _ => fill0 hl hp
  | k + 1, h => by
    rw [List.range_succ, List.foldl_append]
    exact (fill1 hp hs h (fill_all hl hp hs k (by omega))).1
theorem reallocate_unfold (l : List Nat) (e : Nat) (goal : List Nat) : reallocate l e goal =
    ((List.range goal.length).foldl (specFill goal e) ((List.range goal.length).foldl (fun l v => keepFirst l (ownerOf e v) (goal.getD v 0)) l)).map unpool := rfl
/-- what stands behind a reallocation -/
structure Realloc (l : List Nat) (e : Nat) (goal : List Nat) (m : List Nat) : Prop where
  len : m.length = l.length
  count : ∀ v, v < goal.length → countOwner m (ownerOf e v) = goal.getD v 0
  other : ∀ q, q ≠ pool → q ≠ 0 → (∀ v, v < goal.length → q ≠ ownerOf e v) → countOwner m q = countOwner l q
  vals : ∀ x ∈ m, x ∈ l ∨ x = 0 ∨ ∃ v, v < goal.length ∧ x = ownerOf e v
theorem idxs_unpool {l : List Nat} {q : Nat} (h1 : q ≠ pool) (h2 : q ≠ 0) : idxs (l.map unpool) q = idxs l q := by
  unfold idxs idxN
  rw [List.length_map]
  refine filter_congr_mem fun i _ => ?_
  rw [List.getElem?_map]
  cases l[i]? with
  | none => rfl
  | some x =>
    show (some (unpool x) == some q) = (some x == some q)
    unfold unpool
    by_cases hx : x = pool
    · rw [if_pos hx, hx]
      have e1 : (some 0 == some q) = false := by
        rw [beq_eq_false_iff_ne]
        exact fun z => h2 (Option.some.inj z).symm
      have e2 : (some pool == some q) = false := by
        rw [beq_eq_false_iff_ne]
        exact fun z => h1 (Option.some.inj z).symm
      exact e1.trans e2.symm
    · rw [if_neg hx]
theorem reallocate_is {l : List Nat} {e : Nat} {goal : List Nat} (hl : pool ∉ l) (hp : ∀ v, v < goal.length → ownerOf e v ≠ pool) (hs : needs l e goal goal.length ≤ (spare l e goal).length) :
    reallocate l e goal = fill l e goal goal.length ∧ Realloc l e goal (reallocate l e goal) := by
  have I := fill_all hl hp hs goal.length (Nat.le_refl _)
  rw [reallocate_unfold, release l e goal hp _ (Nat.le_refl _)]
  refine ⟨I.same.symm, by rw [List.length_map]; exact I.len, fun v hv => ?_, fun q h1 h2 h3 => ?_, fun x hx => ?_⟩
  · rw [count_idxs, idxs_unpool (hp v hv) (own_ne0 e v)]
    exact I.done v hv
  · rw [count_idxs, idxs_unpool h1 h2, count_idxs]
    exact congrArg List.length (I.other q h1 h2 h3)
  · obtain ⟨y, hy, rfl⟩ := List.mem_map.mp hx
    unfold unpool
    by_cases hyp : y = pool
    · rw [if_pos hyp]
      exact .inr (.inl rfl)
    · rw [if_neg hyp]
      rcases I.vals y hy with h | h | h | h
      · exact .inl h
      · exact .inr (.inl h)
      · exact absurd h hyp
      · exact .inr (.inr h)
end Vb

set_option maxHeartbeats 4000000
/-! The hash in plain Lean. -/
namespace Vb
def stp (h x : Nat) : Nat := (h ^^^ x) * 1099511628211 % Kex2.word
/-- the state behind some bytes -/
def foll (st : Nat) (b : List Nat) : Nat := b.foldl stp st
theorem foll_snoc (st : Nat) (b : List Nat) (x : Nat) : foll st (b ++ [x]) = stp (foll st b) x := by
  unfold foll
  rw [List.foldl_append, List.foldl_cons, List.foldl_nil]
theorem foll_app (st : Nat) (b c : List Nat) : foll st (b ++ c) = foll (foll st b) c := by
  unfold foll
  rw [List.foldl_append]
theorem stp_int (h x : Nat) : (((h ^^^ x : Nat) : Int) * 1099511628211) % 18446744073709551616 = ((stp h x : Nat) : Int) := by
  unfold stp Kex2.word
  rw [Int.natCast_emod, Int.natCast_mul]
  rfl
theorem stp_lt (h x : Nat) : stp h x < 18446744073709551616 := Nat.mod_lt _ (by decide)
def fst0 : Nat := 14695981039346656037
theorem fnv_eq (b : List Nat) : Kex2.fnv b = foll fst0 b := rfl
theorem foll_lt : ∀ (b : List Nat) (st : Nat), st < 18446744073709551616 → foll st b < 18446744073709551616
  | [], _, h => h
  | x :: b, st, _ => foll_lt b (stp st x) (stp_lt _ _)
def rnd (x f : Nat) : Nat := Kex2.mixRound x f
theorem shr33 (x : Nat) : x >>> 33 = x / 8589934592 := by
  rw [Nat.shiftRight_eq_div_pow]
theorem rnd_int (x f : Nat) : (((x ^^^ (x / 8589934592) : Nat) : Int) * (f : Int)) % 18446744073709551616 = ((rnd x f : Nat) : Int) := by
  unfold rnd Kex2.mixRound Kex2.word
  rw [shr33, Int.natCast_emod, Int.natCast_mul]
  rfl
theorem rnd_lt (x f : Nat) : rnd x f < 18446744073709551616 := Nat.mod_lt _ (by decide)
def mixed (x : Nat) : Nat := Kex2.mix x
theorem mixed_eq (x : Nat) : mixed x = rnd (rnd x 18397679294719823053) 14181476777654086739 ^^^ (rnd (rnd x 18397679294719823053) 14181476777654086739 / 8589934592) := by
  unfold mixed Kex2.mix
  rw [← shr33]
  rfl
theorem mixed_lt (x : Nat) : mixed x < 18446744073709551616 := by
  rw [mixed_eq]
  have h1 := rnd_lt (rnd x 18397679294719823053) 14181476777654086739
  generalize rnd (rnd x 18397679294719823053) 14181476777654086739 = y at h1
  have h2 : y / 8589934592 < 2 ^ 64 := Nat.lt_of_le_of_lt (Nat.div_le_self _ _) h1
  exact Nat.xor_lt_two_pow (n := 64) h1 h2
theorem hash_eq (b : List Nat) : Kex2.hash b = mixed (foll fst0 b) := rfl
/-- the state behind a salt and the byte between -/
def sltd (salt : List Nat) : Nat := foll (foll fst0 salt) [58]
def bkt (st : Nat) (b : List Nat) : Nat := 100 * mixed (foll st b) / 18446744073709551616
theorem bucket_eq (salt b : List Nat) : Kex2.bucket salt b = bkt (sltd salt) b := by
  unfold Kex2.bucket bkt sltd Kex2.bucketCount
  rw [hash_eq, foll_app, foll_app, Nat.mul_comm]
  rfl
theorem bkt_lt (st : Nat) (b : List Nat) : bkt st b < 100 := by
  unfold bkt
  have := mixed_lt (foll st b)
  omega
/-- a sample unit, its digits from the last -/
def digR : Nat → Nat → List Nat
  | 0, n => [48 + n]
  | f + 1, n => if n < 10 then [48 + n] else (48 + n % 10) :: digR f (n / 10)
theorem digR_eq : ∀ (f n : Nat), n < 10 ^ (f + 1) → (digR f n).reverse = Kex2.digitsOf (f + 1) n
  | 0, n, h => by
    have : n < 10 := by simpa using h
    simp [digR, Kex2.digitsOf, this]
  | f + 1, n, h => by
    unfold digR Kex2.digitsOf
    by_cases c : n < 10
    · simp [c]
    · rw [if_neg c, if_neg c, List.reverse_cons, digR_eq f (n / 10)]
      rw [Nat.pow_succ] at h
      omega
theorem words_eq (h : Nat) (hl : h < 18446744073709551616) : Kex2.words16 h = [h / 281474976710656, h / 4294967296 % 65536, h / 65536 % 65536, h % 65536] := by
  unfold Kex2.words16
  rw [Nat.div_div_eq_div_mul, Nat.div_div_eq_div_mul]
  have : h / 281474976710656 < 65536 := by omega
  simp only [List.cons.injEq, and_true]
  omega
end Vb

set_option maxHeartbeats 4000000
/-! Moved buckets, runs of buckets, in plain Lean. -/
namespace Vb
open Kex2
/-- the places below n at which two lists differ -/
def mvN (a b : List Nat) (n : Nat) : List Nat := (List.range n).filter fun i => a[i]? != b[i]?
theorem mvN_succ (a b : List Nat) (n : Nat) : mvN a b (n + 1) = mvN a b n ++ (if a[n]? = b[n]? then [] else [n]) := by
  unfold mvN
  rw [List.range_succ, List.filter_append]
  congr 1
  by_cases h : a[n]? = b[n]?
  · simp [h]
  · simp [h]
theorem mvN_len (a b : List Nat) (n : Nat) : (mvN a b n).length ≤ n := by
  unfold mvN
  exact Nat.le_trans (List.length_filter_le _ _) (by simp)
theorem moved_eq {a b : List Nat} (h : a.length = b.length) : movedCount a b = (mvN a b a.length).length := by
  unfold movedCount
  have : ∀ n, n ≤ a.length → (((a.take n).zip (b.take n)).filter fun z => z.1 != z.2).length = (mvN a b n).length := by
    intro n
    induction n with
    | zero => intro _; rfl
    | succ n ih =>
      intro hn
      have ha : a[n]? = some a[n] := List.getElem?_eq_getElem (by omega)
      have hb : b[n]? = some b[n] := List.getElem?_eq_getElem (by omega)
      rw [take_snoc ha, take_snoc hb, List.zip_append (by rw [List.length_take, List.length_take]; omega), List.filter_append, List.length_append, ih (by omega), mvN_succ, List.length_append]
      congr 1
      rw [ha, hb]
      by_cases c : a[n] = b[n]
      · simp [c]
      · simp [c]
  have h2 := this a.length (Nat.le_refl _)
  rw [List.take_length, List.take_of_length_le (by omega)] at h2
  exact h2
/-- one turn of the specification's runs -/
def runStep (s : Nat × List (Nat × Nat × Owner)) (x : Nat) : Nat × List (Nat × Nat × Owner) := (s.1 + 1, match s.2 with
  | (first, length, o) :: rest => if x = o ∧ first + length = s.1 then (first, length + 1, o) :: rest else if x = 0 then (first, length, o) :: rest else (s.1, 1, x) :: (first, length, o) :: rest
  | [] => if x = 0 then [] else [(s.1, 1, x)])
def runF (l : List Nat) : Nat × List (Nat × Nat × Owner) := l.foldl runStep (0, [])
theorem runs_def (l : List Nat) : runs l = (runF l).2.reverse := rfl
theorem runF_snoc {l : List Nat} {n x : Nat} (h : l[n]? = some x) : runF (l.take (n + 1)) = runStep (runF (l.take n)) x := by
  unfold runF
  rw [take_snoc h, List.foldl_append]
  rfl
/-- the runs so far end ahead of b, and none of them goes on at b -/
def Ahead (l : List Nat) (b : Nat) (acc : List (Nat × Nat × Owner)) : Prop := ∀ f n o rest, acc = (f, n, o) :: rest → f + n ≤ b ∧ (f + n = b → l[b]? ≠ some o)
/-- within a run that began at b0 -/
def runAcc (b0 b : Nat) (o : Nat) (acc : List (Nat × Nat × Owner)) : List (Nat × Nat × Owner) := if b = b0 then acc else if o = 0 then acc else (b0, b - b0, o) :: acc
theorem runAcc_self (b o : Nat) (acc : List (Nat × Nat × Owner)) : runAcc b b o acc = acc := if_pos rfl
theorem runAcc_free {b0 b : Nat} (h : b0 < b) (acc : List (Nat × Nat × Owner)) : runAcc b0 b 0 acc = acc := by
  unfold runAcc
  split <;> rfl
theorem runAcc_own {b0 b o : Nat} (h : b0 < b) (ho : o ≠ 0) (acc : List (Nat × Nat × Owner)) : runAcc b0 b o acc = (b0, b - b0, o) :: acc := by
  unfold runAcc
  rw [if_neg (by omega), if_neg ho]
theorem step_nil (n x : Nat) : runStep (n, []) x = (n + 1, if x = 0 then [] else [(n, 1, x)]) := rfl
theorem step_cons (n x f m o : Nat) (rest : List (Nat × Nat × Owner)) : runStep (n, (f, m, o) :: rest) x = (n + 1, if x = o ∧ f + m = n then (f, m + 1, o) :: rest else if x = 0 then (f, m, o) :: rest else (n, 1, x) :: (f, m, o) :: rest) := rfl
theorem run_first {l : List Nat} {b0 o : Nat} {acc : List (Nat × Nat × Owner)} (h : l[b0]? = some o) (ha : Ahead l b0 acc) (hr : runF (l.take b0) = (b0, acc)) : runF (l.take (b0 + 1)) = (b0 + 1, runAcc b0 (b0 + 1) o acc) := by
  rw [runF_snoc h, hr]
  have e1 : b0 + 1 - b0 = 1 := by omega
  cases acc with
  | nil =>
    rw [step_nil]
    by_cases c : o = 0
    · rw [if_pos c, c, runAcc_free (by omega)]
    · rw [if_neg c, runAcc_own (by omega) c, e1]
  | cons r rest =>
    obtain ⟨f, n, o'⟩ := r
    obtain ⟨h1, h2⟩ := ha f n o' rest rfl
    rw [step_cons, if_neg (fun z => h2 z.2 (by rw [← z.1]; exact h))]
    by_cases c : o = 0
    · rw [if_pos c, c, runAcc_free (by omega)]
    · rw [if_neg c, runAcc_own (by omega) c, e1]
theorem run_next {l : List Nat} {b0 b o : Nat} {acc : List (Nat × Nat × Owner)} (h : l[b]? = some o) (hb : b0 < b) (ha : Ahead l b0 acc) (hr : runF (l.take b) = (b, runAcc b0 b o acc)) : runF (l.take (b + 1)) = (b + 1, runAcc b0 (b + 1) o acc) := by
  rw [runF_snoc h, hr]
  by_cases c : o = 0
  · subst c
    rw [runAcc_free hb, runAcc_free (by omega)]
    cases acc with
    | nil => rw [step_nil, if_pos rfl]
    | cons r rest =>
      obtain ⟨f, n, o'⟩ := r
      obtain ⟨h1, h2⟩ := ha f n o' rest rfl
      rw [step_cons, if_neg (fun z => absurd z.2 (by omega)), if_pos rfl]
  · rw [runAcc_own hb c, runAcc_own (by omega) c, step_cons, if_pos ⟨rfl, by omega⟩]
    rw [show b - b0 + 1 = b + 1 - b0 by omega]
theorem ahead_next {l : List Nat} {b0 b o : Nat} {acc : List (Nat × Nat × Owner)} (hb : b0 < b) (ha : Ahead l b0 acc) (hn : l[b]? ≠ some o) : Ahead l b (runAcc b0 b o acc) := by
  by_cases c : o = 0
  · subst c
    rw [runAcc_free hb]
    intro f n o' rest e
    obtain ⟨h1, _⟩ := ha f n o' rest e
    exact ⟨by omega, fun z => absurd z (by omega)⟩
  · rw [runAcc_own hb c]
    intro f n o' rest e
    injection e with e1 e2
    injection e1 with e3 e4
    injection e4 with e5 e6
    subst e3 e5 e6
    exact ⟨by omega, fun _ => hn⟩
end Vb

set_option Elab.async false
set_option linter.all false
set_option maxRecDepth 100000
set_option maxHeartbeats 2000000
/-! Rules that the layer lacks: a list or a tuple walked, summed; a list extended by a tuple; o[i] of a list for o[i] op= e. -/
namespace Vb
open PySem PySem.Spec PyProof.Rows L2
section
variable {X : Cx}
/-! ### a list or a tuple -/
def SqA (K : PySem.W.Frag) (H : Hp) (a : Addr) (xs : List V) : Prop := SqL K H a xs ∨ SqT K H a xs
theorem pi_or {tg e : Expr} {w1 w2 : TI} (h1 : PI X tg e w1) (h2 : PI X tg e w2) : PI X tg e (fun σ H R => w1 σ H R ∨ w2 σ H R) :=
  ⟨fun pins s σ H R I h => h.elim (fun h => h1.run pins s σ H R I h) (fun h => h2.run pins s σ H R I h)⟩
abbrev iSeq (K : PySem.W.Frag) (tl : TE) : TI := fun σ H R => iList K tl σ H R ∨ iTup K tl σ H R
theorem pi_seq {tg l : Expr} {tl : TE} (hl : PE X l tl) : PI X tg l (iSeq X.K tl) := pi_or (pi_list hl) (pi_tup hl)
theorem sum_tupG {A : Around} {E : Value → Shared → Prop} {s : Shared} {l : Addr} {xs : Array (Int × Tok)} {prog : Program} {w : World} {Q : Value → Shared → Prop} (hh : A.handled = none) (hl : s.heap.IsTuple l (intItems xs))
    (h : ∀ h' tk t', (∀ b o, s.heap.get? b = some o → h'.get? b = some o) → Q (.int (preSum (numAt xs) xs.size) t') { s with heap := h', toks := tk }) :
    wpAny (model prog w) A (call (.builtin "sum") [.ref l]) Q E s := by
  have hlt : l < s.heap.objs.size := by obtain ⟨_, e, _⟩ := hl; exact Heap.lt_size e
  refine call_sum_walkG (wpAny_pyIter_tuple hl ?_)
  have hlI : l ≠ s.heap.objs.size := Nat.ne_of_lt hlt
  refine ⟨_, _, _, _, _, _, numAt xs, rfl, Walks.tuple (A := A.in1) hh _ l hlI (intItems xs), ⟨⟨_, Heap.get?_push_size _ rfl, rfl, rfl⟩, hl.push _⟩, fun b hb => ?_, (fun _ _ => intItems_at), fun h' tk t' hk => ?_⟩
  · show b < (s.heap.push _).objs.size
    rw [Heap.size_push]
    rcases List.mem_cons.mp hb with rfl | hb
    · exact Nat.lt_succ_self _
    · rcases List.mem_cons.mp hb with rfl | hb
      · exact Nat.lt_succ_of_lt hlt
      · cases hb
  · have hold : ∀ b o, s.heap.get? b = some o → h'.get? b = some o := fun b o e => by
      refine hk b o (fun hm => ?_) (Heap.get?_push_of_some _ e)
      have e1 : b = s.heap.objs.size := by simpa using hm
      rw [e1] at e
      exact Nat.lt_irrefl _ (Heap.lt_size e)
    have := h h' tk t' hold
    simpa [intItems] using this
theorem sum_rawT {A : Around} {E : Value → Shared → Prop} {s : Shared} {l : Addr} {its : List Value} {ns : List Int} {prog : Program} {w : World} {Q : Value → Shared → Prop} (hh : A.handled = none) (hl : s.heap.IsTuple l its.toArray) (hi : IntsAre its ns)
    (h : ∀ h' tk t', (∀ b o, s.heap.get? b = some o → h'.get? b = some o) → Q (.int ns.sum t') { s with heap := h', toks := tk }) : wpAny (model prog w) A (call (.builtin "sum") [.ref l]) Q E s := by
  obtain ⟨xs, e⟩ := hi.allInts.items
  have hn : numsOf (intItems xs).toList = ns := by rw [← e]; exact hi.numsOf
  rw [nums_intItems] at hn
  rw [e] at hl
  refine sum_tupG hh hl fun h' tk t' hk => ?_
  have := h h' tk t' hk
  rw [preSum_eq, List.take_of_length_le (by simp), hn]; exact this
/-- sum(xs) of a list or a tuple of ints -/
def rSumA (K : PySem.W.Frag) : List V → Hp → VK → Prop := fun vs H Q => ∃ (a : Addr) (ns : List Int), vs = [V.ref a] ∧ SqA K H a (ns.map V.int) ∧ Q (.int ns.sum) H
theorem cr_sumA (hc : X.calm = true) : CallR X (.builtin "sum") (rSumA X.K) := by
  intro pins s σ H vs us Q I r h
  obtain ⟨a, ns, rfl, hs, q⟩ := h
  rw [Vals.ref1 r]
  rcases hs with hs | hs
  · obtain ⟨its, rv, hl, _⟩ := I.list hs
    exact sum_raw (I.ok.hd hc) hl.isList rv.ints fun h' tk t' hk => ⟨.int _, H, I.kept hk, ⟨_, rfl⟩, q⟩
  · obtain ⟨its, rv, hl, _⟩ := I.tuple hs
    exact sum_rawT (I.ok.hd hc) (show s.heap.IsTuple a its.toArray from hl) rv.ints fun h' tk t' hk => ⟨.int _, H, I.kept hk, ⟨_, rfl⟩, q⟩
/-! ### xs.extend(a tuple) -/
theorem extend_tup {prog : Program} {w : World} {A : Around} {s : Shared} {S it : Addr} {o : Obj} {mine items : List Value} {n c0 : Nat} {R : Result → Shared → Prop}
    (hS : s.heap.get? S = some { cls := .type "list", data := .seq mine.toArray c0 }) (ho : s.heap.get? it = some o) (hc : o.cls = .type "tuple") (hd : o.data = .seq items.toArray n)
    (hz : mine.length + items.length ≤ sizeLine)
    (hR : R (.ok (.ret .none)) { s with heap := s.heap.update S (Obj.mapSeq (· ++ items.toArray)) }) :
    wpAny (model prog w) A.in1 (Builtin.«list.extend» ⟨[.ref S, .ref it], []⟩)
      (fun fin s' => match fin with | .done f => R (.ok f) s' | .again c' => c'.quiet = true ∧ codeAny (model prog w) A c' R s') (fun e s' => R (.error e) s') s := by
  show wpAny _ _ (Builtin.List.listExtendWith (.ref S) (.ref it) .none) _ _ s
  unfold Builtin.List.listExtendWith
  refine wpAny_bind (wpAny_typeOf ⟨o, ho, hc⟩ ?_)
  have h1 : (Builtin.List.listSameRef (.ref S) (.ref it) || Value.type "tuple" == Value.type "list" || Value.type "tuple" == Value.type "tuple") = true := by
    simp
  simp only [h1, if_true]
  refine wpAny_bind ?_
  unfold Builtin.List.listItems
  refine wpAny_bind (wpAny_seqItems ho hd (wpAny_pure ?_))
  refine wpAny_bind ?_
  refine wpAny_bind (wpAny_seqItems hS rfl (wpAny_pure ?_))
  have hlong : (!mine.toArray.isEmpty && Builtin.List.listTooLong (mine.toArray.size + items.toArray.size)) = false := by
    rw [notLongL (by rw [List.size_toArray, List.size_toArray]; exact hz), Bool.and_false]
  show wpAny _ _ (if (!mine.toArray.isEmpty && Builtin.List.listTooLong (mine.toArray.size + items.toArray.size)) = true then _ else _) _ _ s
  rw [hlong, if_neg Bool.false_ne_true]
  show wpAny _ _ (updateSeq S (· ++ items.toArray) >>= fun _ => ret .none) _ _ s
  refine wpAny_bind (wpAny_updateSeq hS rfl ?_ (by rw [List.size_toArray]; omega) (by rw [Array.size_append, List.size_toArray, List.size_toArray]; omega))
  exact wpAny_pure hR
theorem meets_extend_tup {S it : Addr} {o : Obj} {mine items : List Value} {n c0 : Nat} (hc : o.cls = .type "tuple") (hd : o.data = .seq items.toArray n) (hz : mine.length + items.length ≤ sizeLine) :
    Meets (Builtin.«list.extend» ⟨[.ref S, .ref it], []⟩) (fun _ R s => s.heap.get? S = some { cls := .type "list", data := .seq mine.toArray c0 } ∧ s.heap.get? it = some o ∧ R (.ok (.ret .none)) { s with heap := s.heap.update S (Obj.mapSeq (· ++ items.toArray)) }) :=
  fun prog w A R s ⟨h1, h2, h3⟩ => extend_tup h1 h2 hc hd hz h3
def rExtendT (K : PySem.W.Frag) : V → List V → Hp → VK → Prop := fun x vs H Q => ∃ l b xs zs, x = .ref l ∧ vs = [.ref b] ∧ H l = some (.lst xs) ∧ SqT K H b zs ∧ xs.length + zs.length ≤ sizeLine ∧ Q .non (upd H l (.lst (xs ++ zs)))
theorem mt_extendT : MtM X "list.extend" (rExtendT X.K) := by
  intro pins s σ H x vs v us Q I rx rv h
  obtain ⟨l, b, xs, zs, rfl, rfl, hH, hB, hz, q⟩ := h
  cases rx
  obtain ⟨u, rfl, ru⟩ := rv.one
  cases ru
  obtain ⟨z, its, n, r, hl, e⟩ := I.lstM hH
  obtain ⟨its2, r2, ⟨o, ho, hc, n2, hd⟩, z2⟩ := I.tuple hB
  have hl2 := r2.length
  refine call_meets F.slot_list_extend ⟨_, e, rfl⟩ F.entry_list_extend (F.args_list_extend_2 _ _) (meets_extend_tup (S := l) (it := b) (mine := its) (c0 := n) hc hd (by omega)) ⟨e, ho, ?_⟩
  refine ⟨.non, _, I.lset (its' := its ++ its2) hH e (by simp) (r.append r2) ?_, rfl, q⟩
  rw [List.length_append]
  omega
/-! ### o[i] of a list, by values -/
def gIxL (K : PySem.W.Frag) : V → V → Hp → VK → Prop := fun x y H Q => ∃ p xs j v, x = .ref p ∧ y = .int ((j : Nat) : Int) ∧ SqL K H p xs ∧ xs[j]? = some v ∧ Q v H
theorem get_list : PGet X (gIxL X.K) := by
  intro pins s σ H x y v u Q I rx ry h
  obtain ⟨p, xs, j, z, rfl, rfl, hq, he, q⟩ := h
  cases rx
  obtain ⟨t, rfl⟩ := ry
  obtain ⟨its, r, pl, hz⟩ := I.list hq
  obtain ⟨w, ew, rw'⟩ := r.get he
  have hl := r.length
  have hn := line63
  have hj := (List.getElem?_eq_some_iff.mp he).1
  exact wpAny_getItem_list pl.isList (by omega) (by omega) (by simpa using ew) ⟨z, H, I, rw', q⟩
/-! ### a written dict with int keys, read -/
/-- at a stands a dict of the module; k is a key of it, of the value v -/
structure KInt (K : PySem.W.Frag) (a : Addr) (kvs : List (Int × V)) : Prop where
  ex : ∃ (es : Array DictEntry) (n : Nat), K.lookup a = some ⟨.type "dict", none, .dict es n, #[]⟩ ∧ (a == sysModules) = false ∧
    Paired (fun (e : DictEntry) (q : Int × V) => (∃ t, e.key = .int q.1 t) ∧ e.hash = hashInt q.1 ∧ RelV q.2 e.val) es.toList kvs
theorem kint_find {v : V} {k : Int} : ∀ {es : List DictEntry} {kvs : List (Int × V)}, Paired (fun (e : DictEntry) (q : Int × V) => (∃ t, e.key = .int q.1 t) ∧ e.hash = hashInt q.1 ∧ RelV q.2 e.val) es kvs → kvs.lookup k = some v →
    ∃ u, (es.find? fun e => Value.isInt k e.key).map (·.val) = some u ∧ RelV v u
  | _, _, .nil, h => by cases h
  | e :: es, q :: kvs, .cons r t, h => by
    obtain ⟨⟨tk, e1⟩, e2, e3⟩ := r
    obtain ⟨q1, q2⟩ := q
    have h2 : (match k == q1 with | true => some q2 | false => kvs.lookup k) = some v := h
    rw [List.find?_cons, e1]
    have e4 : Value.isInt k (Value.int q1 tk) = (q1 == k) := rfl
    rw [e4]
    by_cases c : k = q1
    · subst c
      rw [beq_self_eq_true] at h2 ⊢
      have e5 : q2 = v := Option.some.inj h2
      subst e5
      exact ⟨_, rfl, e3⟩
    · have c1 : (k == q1) = false := beq_eq_false_iff_ne.mpr c
      have c2 : (q1 == k) = false := beq_eq_false_iff_ne.mpr (Ne.symm c)
      rw [c1] at h2
      rw [c2]
      exact kint_find t h2
theorem paired_mem {α β : Type} {F : α → β → Prop} : ∀ {l : List α} {m : List β}, Paired F l m → ∀ x ∈ l, ∃ y, F x y
  | _, _, .nil, x, h => by cases h
  | _, _, .cons r t, x, h => by
    rcases List.mem_cons.mp h with e | h
    · rw [e]
      exact ⟨_, r⟩
    · exact paired_mem t x h
theorem kint_map {prog : Program} {w : World} {K : PySem.W.Frag} {h : Heap} {a : Addr} {kvs : List (Int × V)} {k : Int} {v : V} (X : K.In h) (d : KInt K a kvs) (hk : kvs.lookup k = some v) :
    ∃ f u, h.MapOf (PySem.intKind prog w) a f ∧ f k = some u ∧ RelV v u := by
  obtain ⟨es, n, hl, _, hp⟩ := d.ex
  obtain ⟨u, e, r⟩ := kint_find hp hk
  refine ⟨fun k => findBy Value.isInt es k, u, ⟨_, es, n, X _ _ hl, ⟨rfl, rfl, rfl⟩, rfl, fun e he => ?_, fun _ => rfl⟩, ?_, r⟩
  · obtain ⟨q, ⟨t, e1⟩, e2, _⟩ := paired_mem hp e (Array.mem_toList_iff.mpr he)
    exact ⟨q.1, by rw [e1]; exact intKind_is prog w _ t, e2⟩
  · obtain ⟨l⟩ := es
    show (Array.find? (fun e => Value.isInt k e.key) l.toArray).map (·.val) = some u
    rw [List.find?_toArray]
    exact e
/-- d[k] of such a dict -/
def rIxI (K : PySem.W.Frag) : R2 := fun x y H Q => ∃ p k kvs v, x = .ref p ∧ y = .int k ∧ KInt K p kvs ∧ kvs.lookup k = some v ∧ Q v H
theorem ix_int : IxR X (rIxI X.K) := by
  intro value slice pins s σ H x y v u Q I rx ry h hs
  obtain ⟨p, k, kvs, z, rfl, rfl, d, hk, q⟩ := h
  obtain rfl : v = Value.ref p := rx
  obtain ⟨t, rfl⟩ := ry
  obtain ⟨f, u0, hm, e, r⟩ := kint_map (prog := X.prog) (w := X.w) I.kIn d hk
  exact tail_any hm.typeIs slot_dict_getitem.lookup (wpAny_getItem_of (intKind_is X.prog X.w k t) hm e ⟨z, H, I.tok _, r, q⟩) hs
end
/-- the head's own fact of such a dict -/
theorem dicI_ok {K : PySem.W.Frag} {x : Str} {kvs : List (Int × He.Dv)} (h : dicI K x kvs = true) : KInt K (He.ga K x) (kvs.map fun q => (q.1, q.2.v K)) := by
  unfold dicI at h
  cases q : K.lookup (He.ga K x) with
  | none =>
    rw [q] at h
    cases h
  | some o =>
    obtain ⟨oc, od, dt, osl⟩ := o
    rw [q] at h
    cases oc with
    | type c =>
      cases od with
      | none =>
        cases dt with
        | dict es n =>
          obtain ⟨h1, h2⟩ := He.ba (show (decide (c = "dict") && (osl.isEmpty && (!(He.ga K x == sysModules) && entsI K es.toList kvs))) = true from h)
          obtain ⟨h3, h4⟩ := He.ba h2
          obtain ⟨h5, h6⟩ := He.ba h4
          have e1 : c = "dict" := of_decide_eq_true h1
          have e2 : osl = #[] := Array.isEmpty_iff.mp h3
          subst e1 e2
          refine ⟨es, n, q, ?_, ?_⟩
          · cases y : He.ga K x == sysModules with
            | false => rfl
            | true =>
              rw [y] at h5
              cases h5
          · have all : ∀ (l : List DictEntry) (kvs : List (Int × He.Dv)), entsI K l kvs = true → Paired (fun (e : DictEntry) (q : Int × V) => (∃ t, e.key = .int q.1 t) ∧ e.hash = hashInt q.1 ∧ RelV q.2 e.val) l (kvs.map fun q => (q.1, q.2.v K)) := by
              intro l
              induction l with
              | nil =>
                intro kvs h
                cases kvs with
                | nil => exact .nil
                | cons _ _ => cases h
              | cons e l ih =>
                intro kvs h
                cases kvs with
                | nil => cases h
                | cons q kvs =>
                  obtain ⟨k1, k2⟩ := He.ba (show (entI K e q && entsI K l kvs) = true from h)
                  unfold entI at k1
                  obtain ⟨k3, k4⟩ := He.ba k1
                  obtain ⟨k5, k6⟩ := He.ba k4
                  refine .cons ⟨?_, of_decide_eq_true k5, He.relB_ok k6⟩ (ih kvs k2)
                  cases ek : e.key with
                  | int k t =>
                    rw [ek] at k3
                    exact ⟨t, congrArg (fun z => Value.int z t) (of_decide_eq_true k3)⟩
                  | _ =>
                    rw [ek] at k3
                    cases k3
            exact all _ _ h6
        | _ => cases h
      | some b => cases dt <;> cases h
    | _ => cases od <;> cases dt <;> cases h
end Vb

set_option Elab.async false
set_option linter.all false
set_option maxRecDepth 100000
set_option maxHeartbeats 2000000
/-! What the top has written, fact by fact. Printed by gen_head.py. -/
namespace Vb
open PySem PySem.Spec PyProof.Rows L2
/-- what the top has written -/
structure Txt (K : PySem.W.Frag) (mg : Str → Option Value) : Prop where
  hp : ∃ h : Heap, K.In h ∧ h.Ns mainGlobals mg
  d : He.SaysD fa fn K
  m : more K = true
section
variable {K : PySem.W.Frag} {mg : Str → Option Value}
theorem Txt.glo (T : Txt K mg) {x : Str} (c : (He.Fa.glo x).ok K = true) : mg x = some (.ref (He.ga K x)) := let ⟨_, X, G⟩ := T.hp; He.glo_ok X G c
theorem Txt.free (T : Txt K mg) {x : Str} (c : (He.Fa.free x).ok K = true) : mg x = none := let ⟨_, X, G⟩ := T.hp; He.free_ok X G c
theorem Txt.int (T : Txt K mg) {x : Str} {i : Int} (c : (He.Fa.int x i).ok K = true) : ∃ t, mg x = some (.int i t) := let ⟨_, X, G⟩ := T.hp; He.int_ok X G c
theorem Txt.g_followed (T : Txt K mg) : mg "followed" = some (.ref (He.ga K "followed")) := T.glo (T.d.fact 0 (f := .glo "followed") rfl)
theorem Txt.g_finished (T : Txt K mg) : mg "finished" = some (.ref (He.ga K "finished")) := T.glo (T.d.fact 1 (f := .glo "finished") rfl)
theorem Txt.g_hash_of (T : Txt K mg) : mg "hash_of" = some (.ref (He.ga K "hash_of")) := T.glo (T.d.fact 2 (f := .glo "hash_of") rfl)
theorem Txt.g_salted (T : Txt K mg) : mg "salted" = some (.ref (He.ga K "salted")) := T.glo (T.d.fact 3 (f := .glo "salted") rfl)
theorem Txt.g_bucket_behind (T : Txt K mg) : mg "bucket_behind" = some (.ref (He.ga K "bucket_behind")) := T.glo (T.d.fact 4 (f := .glo "bucket_behind") rfl)
theorem Txt.g_sample_unit (T : Txt K mg) : mg "sample_unit" = some (.ref (He.ga K "sample_unit")) := T.glo (T.d.fact 5 (f := .glo "sample_unit") rfl)
theorem Txt.g_quarters (T : Txt K mg) : mg "quarters" = some (.ref (He.ga K "quarters")) := T.glo (T.d.fact 6 (f := .glo "quarters") rfl)
theorem Txt.g_FREE (T : Txt K mg) : mg "FREE" = some (.ref (He.ga K "FREE")) := T.glo (T.d.fact 7 (f := .glo "FREE") rfl)
theorem Txt.g_targets_of (T : Txt K mg) : mg "targets_of" = some (.ref (He.ga K "targets_of")) := T.glo (T.d.fact 8 (f := .glo "targets_of") rfl)
theorem Txt.g_owned_by (T : Txt K mg) : mg "owned_by" = some (.ref (He.ga K "owned_by")) := T.glo (T.d.fact 9 (f := .glo "owned_by") rfl)
theorem Txt.g_given_up (T : Txt K mg) : mg "given_up" = some (.ref (He.ga K "given_up")) := T.glo (T.d.fact 10 (f := .glo "given_up") rfl)
theorem Txt.g_reallocated (T : Txt K mg) : mg "reallocated" = some (.ref (He.ga K "reallocated")) := T.glo (T.d.fact 11 (f := .glo "reallocated") rfl)
theorem Txt.g_moved (T : Txt K mg) : mg "moved" = some (.ref (He.ga K "moved")) := T.glo (T.d.fact 12 (f := .glo "moved") rfl)
theorem Txt.g_runs_of (T : Txt K mg) : mg "runs_of" = some (.ref (He.ga K "runs_of")) := T.glo (T.d.fact 13 (f := .glo "runs_of") rfl)
theorem Txt.g_NONE (T : Txt K mg) : mg "NONE" = some (.ref (He.ga K "NONE")) := T.glo (T.d.fact 14 (f := .glo "NONE") rfl)
theorem Txt.g_Layer (T : Txt K mg) : mg "Layer" = some (.ref (He.ga K "Layer")) := T.glo (T.d.fact 15 (f := .glo "Layer") rfl)
theorem Txt.g_Experiment (T : Txt K mg) : mg "Experiment" = some (.ref (He.ga K "Experiment")) := T.glo (T.d.fact 16 (f := .glo "Experiment") rfl)
theorem Txt.g_Stored (T : Txt K mg) : mg "Stored" = some (.ref (He.ga K "Stored")) := T.glo (T.d.fact 17 (f := .glo "Stored") rfl)
theorem Txt.g_Platform (T : Txt K mg) : mg "Platform" = some (.ref (He.ga K "Platform")) := T.glo (T.d.fact 18 (f := .glo "Platform") rfl)
theorem Txt.g_are_octets (T : Txt K mg) : mg "are_octets" = some (.ref (He.ga K "are_octets")) := T.glo (T.d.fact 19 (f := .glo "are_octets") rfl)
theorem Txt.g_are_weights (T : Txt K mg) : mg "are_weights" = some (.ref (He.ga K "are_weights")) := T.glo (T.d.fact 20 (f := .glo "are_weights") rfl)
theorem Txt.g_call_create (T : Txt K mg) : mg "call_create" = some (.ref (He.ga K "call_create")) := T.glo (T.d.fact 21 (f := .glo "call_create") rfl)
theorem Txt.g_call_add_layer (T : Txt K mg) : mg "call_add_layer" = some (.ref (He.ga K "call_add_layer")) := T.glo (T.d.fact 22 (f := .glo "call_add_layer") rfl)
theorem Txt.g_call_add_experiment (T : Txt K mg) : mg "call_add_experiment" = some (.ref (He.ga K "call_add_experiment")) := T.glo (T.d.fact 23 (f := .glo "call_add_experiment") rfl)
theorem Txt.g_call_remove_experiment (T : Txt K mg) : mg "call_remove_experiment" = some (.ref (He.ga K "call_remove_experiment")) := T.glo (T.d.fact 24 (f := .glo "call_remove_experiment") rfl)
theorem Txt.g_change (T : Txt K mg) : mg "change" = some (.ref (He.ga K "change")) := T.glo (T.d.fact 25 (f := .glo "change") rfl)
theorem Txt.g_new_traffic (T : Txt K mg) : mg "new_traffic" = some (.ref (He.ga K "new_traffic")) := T.glo (T.d.fact 26 (f := .glo "new_traffic") rfl)
theorem Txt.g_new_weights (T : Txt K mg) : mg "new_weights" = some (.ref (He.ga K "new_weights")) := T.glo (T.d.fact 27 (f := .glo "new_weights") rfl)
theorem Txt.g_call_set_traffic (T : Txt K mg) : mg "call_set_traffic" = some (.ref (He.ga K "call_set_traffic")) := T.glo (T.d.fact 28 (f := .glo "call_set_traffic") rfl)
theorem Txt.g_call_set_weights (T : Txt K mg) : mg "call_set_weights" = some (.ref (He.ga K "call_set_weights")) := T.glo (T.d.fact 29 (f := .glo "call_set_weights") rfl)
theorem Txt.g_call_preview_traffic (T : Txt K mg) : mg "call_preview_traffic" = some (.ref (He.ga K "call_preview_traffic")) := T.glo (T.d.fact 30 (f := .glo "call_preview_traffic") rfl)
theorem Txt.g_call_preview_weights (T : Txt K mg) : mg "call_preview_weights" = some (.ref (He.ga K "call_preview_weights")) := T.glo (T.d.fact 31 (f := .glo "call_preview_weights") rfl)
theorem Txt.g_call_set_holdout (T : Txt K mg) : mg "call_set_holdout" = some (.ref (He.ga K "call_set_holdout")) := T.glo (T.d.fact 32 (f := .glo "call_set_holdout") rfl)
theorem Txt.g_call_set_override (T : Txt K mg) : mg "call_set_override" = some (.ref (He.ga K "call_set_override")) := T.glo (T.d.fact 33 (f := .glo "call_set_override") rfl)
theorem Txt.g_call_remove_override (T : Txt K mg) : mg "call_remove_override" = some (.ref (He.ga K "call_remove_override")) := T.glo (T.d.fact 34 (f := .glo "call_remove_override") rfl)
theorem Txt.g_call_advance (T : Txt K mg) : mg "call_advance" = some (.ref (He.ga K "call_advance")) := T.glo (T.d.fact 35 (f := .glo "call_advance") rfl)
theorem Txt.g_call_enter (T : Txt K mg) : mg "call_enter" = some (.ref (He.ga K "call_enter")) := T.glo (T.d.fact 36 (f := .glo "call_enter") rfl)
theorem Txt.g_call_assign (T : Txt K mg) : mg "call_assign" = some (.ref (He.ga K "call_assign")) := T.glo (T.d.fact 37 (f := .glo "call_assign") rfl)
theorem Txt.g_call_experiment_of (T : Txt K mg) : mg "call_experiment_of" = some (.ref (He.ga K "call_experiment_of")) := T.glo (T.d.fact 38 (f := .glo "call_experiment_of") rfl)
theorem Txt.g_call_bucket (T : Txt K mg) : mg "call_bucket" = some (.ref (He.ga K "call_bucket")) := T.glo (T.d.fact 39 (f := .glo "call_bucket") rfl)
theorem Txt.g_call_hash (T : Txt K mg) : mg "call_hash" = some (.ref (He.ga K "call_hash")) := T.glo (T.d.fact 40 (f := .glo "call_hash") rfl)
theorem Txt.g_call_is_held_out (T : Txt K mg) : mg "call_is_held_out" = some (.ref (He.ga K "call_is_held_out")) := T.glo (T.d.fact 41 (f := .glo "call_is_held_out") rfl)
theorem Txt.g_call_allocation (T : Txt K mg) : mg "call_allocation" = some (.ref (He.ga K "call_allocation")) := T.glo (T.d.fact 42 (f := .glo "call_allocation") rfl)
theorem Txt.g_call_free_count (T : Txt K mg) : mg "call_free_count" = some (.ref (He.ga K "call_free_count")) := T.glo (T.d.fact 43 (f := .glo "call_free_count") rfl)
theorem Txt.g_call_targets (T : Txt K mg) : mg "call_targets" = some (.ref (He.ga K "call_targets")) := T.glo (T.d.fact 44 (f := .glo "call_targets") rfl)
theorem Txt.g_call_get_experiment (T : Txt K mg) : mg "call_get_experiment" = some (.ref (He.ga K "call_get_experiment")) := T.glo (T.d.fact 45 (f := .glo "call_get_experiment") rfl)
theorem Txt.g_call_list_stored (T : Txt K mg) : mg "call_list_stored" = some (.ref (He.ga K "call_list_stored")) := T.glo (T.d.fact 46 (f := .glo "call_list_stored") rfl)
theorem Txt.g_call_sample_counts (T : Txt K mg) : mg "call_sample_counts" = some (.ref (He.ga K "call_sample_counts")) := T.glo (T.d.fact 47 (f := .glo "call_sample_counts") rfl)
theorem Txt.g_call_cross_table (T : Txt K mg) : mg "call_cross_table" = some (.ref (He.ga K "call_cross_table")) := T.glo (T.d.fact 48 (f := .glo "call_cross_table") rfl)
theorem Txt.g_call_summary (T : Txt K mg) : mg "call_summary" = some (.ref (He.ga K "call_summary")) := T.glo (T.d.fact 49 (f := .glo "call_summary") rfl)
theorem Txt.g_DEEDS (T : Txt K mg) : mg "DEEDS" = some (.ref (He.ga K "DEEDS")) := T.glo (T.d.fact 50 (f := .glo "DEEDS") rfl)
theorem Txt.g_NUMBERS (T : Txt K mg) : mg "NUMBERS" = some (.ref (He.ga K "NUMBERS")) := T.glo (T.d.fact 51 (f := .glo "NUMBERS") rfl)
theorem Txt.g_WITH_ROW (T : Txt K mg) : mg "WITH_ROW" = some (.ref (He.ga K "WITH_ROW")) := T.glo (T.d.fact 52 (f := .glo "WITH_ROW") rfl)
theorem Txt.g_answered (T : Txt K mg) : mg "answered" = some (.ref (He.ga K "answered")) := T.glo (T.d.fact 53 (f := .glo "answered") rfl)
theorem Txt.g_answers (T : Txt K mg) : mg "answers" = some (.ref (He.ga K "answers")) := T.glo (T.d.fact 54 (f := .glo "answers") rfl)
theorem Txt.i_FIRST (T : Txt K mg) : ∃ t, mg "FIRST" = some (.int 14695981039346656037 t) := T.int (T.d.fact 55 (f := .int "FIRST" 14695981039346656037) rfl)
theorem Txt.i_PRIME (T : Txt K mg) : ∃ t, mg "PRIME" = some (.int 1099511628211 t) := T.int (T.d.fact 56 (f := .int "PRIME" 1099511628211) rfl)
theorem Txt.i_ONE (T : Txt K mg) : ∃ t, mg "ONE" = some (.int 18397679294719823053 t) := T.int (T.d.fact 57 (f := .int "ONE" 18397679294719823053) rfl)
theorem Txt.i_TWO (T : Txt K mg) : ∃ t, mg "TWO" = some (.int 14181476777654086739 t) := T.int (T.d.fact 58 (f := .int "TWO" 14181476777654086739) rfl)
theorem Txt.i_HALF (T : Txt K mg) : ∃ t, mg "HALF" = some (.int 8589934592 t) := T.int (T.d.fact 59 (f := .int "HALF" 8589934592) rfl)
theorem Txt.i_WHOLE (T : Txt K mg) : ∃ t, mg "WHOLE" = some (.int 18446744073709551616 t) := T.int (T.d.fact 60 (f := .int "WHOLE" 18446744073709551616) rfl)
theorem Txt.i_BETWEEN (T : Txt K mg) : ∃ t, mg "BETWEEN" = some (.int 58 t) := T.int (T.d.fact 61 (f := .int "BETWEEN" 58) rfl)
theorem Txt.i_SAMPLE (T : Txt K mg) : ∃ t, mg "SAMPLE" = some (.int 117 t) := T.int (T.d.fact 62 (f := .int "SAMPLE" 117) rfl)
theorem Txt.i_BUCKETS (T : Txt K mg) : ∃ t, mg "BUCKETS" = some (.int 100 t) := T.int (T.d.fact 63 (f := .int "BUCKETS" 100) rfl)
theorem Txt.i_MOST_LAYERS (T : Txt K mg) : ∃ t, mg "MOST_LAYERS" = some (.int 4 t) := T.int (T.d.fact 64 (f := .int "MOST_LAYERS" 4) rfl)
theorem Txt.i_MOST_EXPERIMENTS (T : Txt K mg) : ∃ t, mg "MOST_EXPERIMENTS" = some (.int 8 t) := T.int (T.d.fact 65 (f := .int "MOST_EXPERIMENTS" 8) rfl)
theorem Txt.i_MOST_TRAFFIC (T : Txt K mg) : ∃ t, mg "MOST_TRAFFIC" = some (.int 100 t) := T.int (T.d.fact 66 (f := .int "MOST_TRAFFIC" 100) rfl)
theorem Txt.i_MOST_WEIGHT (T : Txt K mg) : ∃ t, mg "MOST_WEIGHT" = some (.int 100 t) := T.int (T.d.fact 67 (f := .int "MOST_WEIGHT" 100) rfl)
theorem Txt.i_MOST_OVERRIDES (T : Txt K mg) : ∃ t, mg "MOST_OVERRIDES" = some (.int 16 t) := T.int (T.d.fact 68 (f := .int "MOST_OVERRIDES" 16) rfl)
theorem Txt.i_MOST_STORED (T : Txt K mg) : ∃ t, mg "MOST_STORED" = some (.int 32 t) := T.int (T.d.fact 69 (f := .int "MOST_STORED" 32) rfl)
theorem Txt.i_MOST_TIME (T : Txt K mg) : ∃ t, mg "MOST_TIME" = some (.int 10000 t) := T.int (T.d.fact 70 (f := .int "MOST_TIME" 10000) rfl)
theorem Txt.i_MOST_UNITS (T : Txt K mg) : ∃ t, mg "MOST_UNITS" = some (.int 300 t) := T.int (T.d.fact 71 (f := .int "MOST_UNITS" 300) rfl)
theorem Txt.i_MOST_LENGTH (T : Txt K mg) : ∃ t, mg "MOST_LENGTH" = some (.int 1000 t) := T.int (T.d.fact 72 (f := .int "MOST_LENGTH" 1000) rfl)
theorem Txt.f_sum (T : Txt K mg) : mg "sum" = none := T.free (T.d.fact 73 (f := .free "sum") rfl)
theorem Txt.f_sorted (T : Txt K mg) : mg "sorted" = none := T.free (T.d.fact 74 (f := .free "sorted") rfl)
theorem Txt.f_range (T : Txt K mg) : mg "range" = none := T.free (T.d.fact 75 (f := .free "range") rfl)
theorem Txt.f_len (T : Txt K mg) : mg "len" = none := T.free (T.d.fact 76 (f := .free "len") rfl)
theorem Txt.f_enumerate (T : Txt K mg) : mg "enumerate" = none := T.free (T.d.fact 77 (f := .free "enumerate") rfl)
theorem Txt.f_list (T : Txt K mg) : mg "list" = none := T.free (T.d.fact 78 (f := .free "list") rfl)
theorem Txt.f_max (T : Txt K mg) : mg "max" = none := T.free (T.d.fact 79 (f := .free "max") rfl)
theorem Txt.f_tuple (T : Txt K mg) : mg "tuple" = none := T.free (T.d.fact 80 (f := .free "tuple") rfl)
theorem Txt.f_all (T : Txt K mg) : mg "all" = none := T.free (T.d.fact 81 (f := .free "all") rfl)
theorem Txt.c_Layer (T : Txt K mg) : Cls K (He.ga K "Layer") := He.cls_ok (T.d.fact 82 (f := .cls "Layer") rfl)
theorem Txt.n_Layer_salt (T : Txt K mg) : NoAttr K (He.ga K "Layer") "salt" := He.noat_ok (T.d.fact 83 (f := .noat "Layer" "salt") rfl)
theorem Txt.n_Layer_begun (T : Txt K mg) : NoAttr K (He.ga K "Layer") "begun" := He.noat_ok (T.d.fact 84 (f := .noat "Layer" "begun") rfl)
theorem Txt.n_Layer_owners (T : Txt K mg) : NoAttr K (He.ga K "Layer") "owners" := He.noat_ok (T.d.fact 85 (f := .noat "Layer" "owners") rfl)
theorem Txt.k_Layer (T : Txt K mg) : Mk K (He.ga K "Layer") (He.ma K (He.ga K "Layer") "__init__") := He.mkr_ok (T.d.fact 86 (f := .mkr "Layer") rfl)
theorem Txt.c_Experiment (T : Txt K mg) : Cls K (He.ga K "Experiment") := He.cls_ok (T.d.fact 87 (f := .cls "Experiment") rfl)
theorem Txt.n_Experiment_layer (T : Txt K mg) : NoAttr K (He.ga K "Experiment") "layer" := He.noat_ok (T.d.fact 88 (f := .noat "Experiment" "layer") rfl)
theorem Txt.n_Experiment_traffic (T : Txt K mg) : NoAttr K (He.ga K "Experiment") "traffic" := He.noat_ok (T.d.fact 89 (f := .noat "Experiment" "traffic") rfl)
theorem Txt.n_Experiment_weights (T : Txt K mg) : NoAttr K (He.ga K "Experiment") "weights" := He.noat_ok (T.d.fact 90 (f := .noat "Experiment" "weights") rfl)
theorem Txt.m_Experiment_targets (T : Txt K mg) : Meth K (He.ga K "Experiment") "targets" (He.ma K (He.ga K "Experiment") "targets") := He.meth_ok (T.d.fact 91 (f := .meth "Experiment" "targets") rfl)
theorem Txt.k_Experiment (T : Txt K mg) : Mk K (He.ga K "Experiment") (He.ma K (He.ga K "Experiment") "__init__") := He.mkr_ok (T.d.fact 92 (f := .mkr "Experiment") rfl)
theorem Txt.c_Stored (T : Txt K mg) : Cls K (He.ga K "Stored") := He.cls_ok (T.d.fact 93 (f := .cls "Stored") rfl)
theorem Txt.n_Stored_unit (T : Txt K mg) : NoAttr K (He.ga K "Stored") "unit" := He.noat_ok (T.d.fact 94 (f := .noat "Stored" "unit") rfl)
theorem Txt.n_Stored_experiment (T : Txt K mg) : NoAttr K (He.ga K "Stored") "experiment" := He.noat_ok (T.d.fact 95 (f := .noat "Stored" "experiment") rfl)
theorem Txt.n_Stored_variant (T : Txt K mg) : NoAttr K (He.ga K "Stored") "variant" := He.noat_ok (T.d.fact 96 (f := .noat "Stored" "variant") rfl)
theorem Txt.n_Stored_expiry (T : Txt K mg) : NoAttr K (He.ga K "Stored") "expiry" := He.noat_ok (T.d.fact 97 (f := .noat "Stored" "expiry") rfl)
theorem Txt.k_Stored (T : Txt K mg) : Mk K (He.ga K "Stored") (He.ma K (He.ga K "Stored") "__init__") := He.mkr_ok (T.d.fact 98 (f := .mkr "Stored") rfl)
theorem Txt.c_Platform (T : Txt K mg) : Cls K (He.ga K "Platform") := He.cls_ok (T.d.fact 99 (f := .cls "Platform") rfl)
theorem Txt.n_Platform_is_ready (T : Txt K mg) : NoAttr K (He.ga K "Platform") "is_ready" := He.noat_ok (T.d.fact 100 (f := .noat "Platform" "is_ready") rfl)
theorem Txt.n_Platform_salt (T : Txt K mg) : NoAttr K (He.ga K "Platform") "salt" := He.noat_ok (T.d.fact 101 (f := .noat "Platform" "salt") rfl)
theorem Txt.n_Platform_begun (T : Txt K mg) : NoAttr K (He.ga K "Platform") "begun" := He.noat_ok (T.d.fact 102 (f := .noat "Platform" "begun") rfl)
theorem Txt.n_Platform_holdout (T : Txt K mg) : NoAttr K (He.ga K "Platform") "holdout" := He.noat_ok (T.d.fact 103 (f := .noat "Platform" "holdout") rfl)
theorem Txt.n_Platform_clock (T : Txt K mg) : NoAttr K (He.ga K "Platform") "clock" := He.noat_ok (T.d.fact 104 (f := .noat "Platform" "clock") rfl)
theorem Txt.n_Platform_layers (T : Txt K mg) : NoAttr K (He.ga K "Platform") "layers" := He.noat_ok (T.d.fact 105 (f := .noat "Platform" "layers") rfl)
theorem Txt.n_Platform_experiments (T : Txt K mg) : NoAttr K (He.ga K "Platform") "experiments" := He.noat_ok (T.d.fact 106 (f := .noat "Platform" "experiments") rfl)
theorem Txt.n_Platform_overrides (T : Txt K mg) : NoAttr K (He.ga K "Platform") "overrides" := He.noat_ok (T.d.fact 107 (f := .noat "Platform" "overrides") rfl)
theorem Txt.n_Platform_stored (T : Txt K mg) : NoAttr K (He.ga K "Platform") "stored" := He.noat_ok (T.d.fact 108 (f := .noat "Platform" "stored") rfl)
theorem Txt.m_Platform_start (T : Txt K mg) : Meth K (He.ga K "Platform") "start" (He.ma K (He.ga K "Platform") "start") := He.meth_ok (T.d.fact 109 (f := .meth "Platform" "start") rfl)
theorem Txt.m_Platform_has_experiment (T : Txt K mg) : Meth K (He.ga K "Platform") "has_experiment" (He.ma K (He.ga K "Platform") "has_experiment") := He.meth_ok (T.d.fact 110 (f := .meth "Platform" "has_experiment") rfl)
theorem Txt.m_Platform_layer_of (T : Txt K mg) : Meth K (He.ga K "Platform") "layer_of" (He.ma K (He.ga K "Platform") "layer_of") := He.meth_ok (T.d.fact 111 (f := .meth "Platform" "layer_of") rfl)
theorem Txt.m_Platform_is_held_out (T : Txt K mg) : Meth K (He.ga K "Platform") "is_held_out" (He.ma K (He.ga K "Platform") "is_held_out") := He.meth_ok (T.d.fact 112 (f := .meth "Platform" "is_held_out") rfl)
theorem Txt.m_Platform_valid (T : Txt K mg) : Meth K (He.ga K "Platform") "valid" (He.ma K (He.ga K "Platform") "valid") := He.meth_ok (T.d.fact 113 (f := .meth "Platform" "valid") rfl)
theorem Txt.m_Platform_stored_in (T : Txt K mg) : Meth K (He.ga K "Platform") "stored_in" (He.ma K (He.ga K "Platform") "stored_in") := He.meth_ok (T.d.fact 114 (f := .meth "Platform" "stored_in") rfl)
theorem Txt.m_Platform_assignment (T : Txt K mg) : Meth K (He.ga K "Platform") "assignment" (He.ma K (He.ga K "Platform") "assignment") := He.meth_ok (T.d.fact 115 (f := .meth "Platform" "assignment") rfl)
theorem Txt.m_Platform_remove (T : Txt K mg) : Meth K (He.ga K "Platform") "remove" (He.ma K (He.ga K "Platform") "remove") := He.meth_ok (T.d.fact 116 (f := .meth "Platform" "remove") rfl)
theorem Txt.k_Platform (T : Txt K mg) : Mk K (He.ga K "Platform") (He.ma K (He.ga K "Platform") "__init__") := He.mkr_ok (T.d.fact 117 (f := .mkr "Platform") rfl)
theorem Txt.d_followed (T : Txt K mg) : ∃ fd, FunD K "followed" "followed" (defArgs s_followed) (defBody s_followed) (defScope s_followed) [] [] (He.fAd K ("followed", none)) fd := T.d.def_ 0 (d := Vb.d_followed) rfl
theorem Txt.d_finished (T : Txt K mg) : ∃ fd, FunD K "finished" "finished" (defArgs s_finished) (defBody s_finished) (defScope s_finished) [] [] (He.fAd K ("finished", none)) fd := T.d.def_ 1 (d := Vb.d_finished) rfl
theorem Txt.d_hash_of (T : Txt K mg) : ∃ fd, FunD K "hash_of" "hash_of" (defArgs s_hash_of) (defBody s_hash_of) (defScope s_hash_of) [] [] (He.fAd K ("hash_of", none)) fd := T.d.def_ 2 (d := Vb.d_hash_of) rfl
theorem Txt.d_salted (T : Txt K mg) : ∃ fd, FunD K "salted" "salted" (defArgs s_salted) (defBody s_salted) (defScope s_salted) [] [] (He.fAd K ("salted", none)) fd := T.d.def_ 3 (d := Vb.d_salted) rfl
theorem Txt.d_bucket_behind (T : Txt K mg) : ∃ fd, FunD K "bucket_behind" "bucket_behind" (defArgs s_bucket_behind) (defBody s_bucket_behind) (defScope s_bucket_behind) [] [] (He.fAd K ("bucket_behind", none)) fd := T.d.def_ 4 (d := Vb.d_bucket_behind) rfl
theorem Txt.d_sample_unit (T : Txt K mg) : ∃ fd, FunD K "sample_unit" "sample_unit" (defArgs s_sample_unit) (defBody s_sample_unit) (defScope s_sample_unit) [] [] (He.fAd K ("sample_unit", none)) fd := T.d.def_ 5 (d := Vb.d_sample_unit) rfl
theorem Txt.d_quarters (T : Txt K mg) : ∃ fd, FunD K "quarters" "quarters" (defArgs s_quarters) (defBody s_quarters) (defScope s_quarters) [] [] (He.fAd K ("quarters", none)) fd := T.d.def_ 6 (d := Vb.d_quarters) rfl
theorem Txt.d_targets_of (T : Txt K mg) : ∃ fd, FunD K "targets_of" "targets_of" (defArgs s_targets_of) (defBody s_targets_of) (defScope s_targets_of) [] [] (He.fAd K ("targets_of", none)) fd := T.d.def_ 7 (d := Vb.d_targets_of) rfl
theorem Txt.d_owned_by (T : Txt K mg) : ∃ fd, FunD K "owned_by" "owned_by" (defArgs s_owned_by) (defBody s_owned_by) (defScope s_owned_by) [] [] (He.fAd K ("owned_by", none)) fd := T.d.def_ 8 (d := Vb.d_owned_by) rfl
theorem Txt.d_given_up (T : Txt K mg) : ∃ fd, FunD K "given_up" "given_up" (defArgs s_given_up) (defBody s_given_up) (defScope s_given_up) [] [] (He.fAd K ("given_up", none)) fd := T.d.def_ 9 (d := Vb.d_given_up) rfl
theorem Txt.d_reallocated (T : Txt K mg) : ∃ fd, FunD K "reallocated" "reallocated" (defArgs s_reallocated) (defBody s_reallocated) (defScope s_reallocated) [] [] (He.fAd K ("reallocated", none)) fd := T.d.def_ 10 (d := Vb.d_reallocated) rfl
theorem Txt.d_moved (T : Txt K mg) : ∃ fd, FunD K "moved" "moved" (defArgs s_moved) (defBody s_moved) (defScope s_moved) [] [] (He.fAd K ("moved", none)) fd := T.d.def_ 11 (d := Vb.d_moved) rfl
theorem Txt.d_runs_of (T : Txt K mg) : ∃ fd, FunD K "runs_of" "runs_of" (defArgs s_runs_of) (defBody s_runs_of) (defScope s_runs_of) [] [] (He.fAd K ("runs_of", none)) fd := T.d.def_ 12 (d := Vb.d_runs_of) rfl
theorem Txt.d_Layer_init (T : Txt K mg) : ∃ fd, FunD K "__init__" "Layer.__init__" (defArgs s_Layer_init) (defBody s_Layer_init) (defScope s_Layer_init) [] [] (He.fAd K ("Layer", some "__init__")) fd := T.d.def_ 13 (d := Vb.d_Layer_init) rfl
theorem Txt.d_Experiment_init (T : Txt K mg) : ∃ fd, FunD K "__init__" "Experiment.__init__" (defArgs s_Experiment_init) (defBody s_Experiment_init) (defScope s_Experiment_init) [] [] (He.fAd K ("Experiment", some "__init__")) fd := T.d.def_ 14 (d := Vb.d_Experiment_init) rfl
theorem Txt.d_Experiment_targets (T : Txt K mg) : ∃ fd, FunD K "targets" "Experiment.targets" (defArgs s_Experiment_targets) (defBody s_Experiment_targets) (defScope s_Experiment_targets) [] [] (He.fAd K ("Experiment", some "targets")) fd := T.d.def_ 15 (d := Vb.d_Experiment_targets) rfl
theorem Txt.d_Stored_init (T : Txt K mg) : ∃ fd, FunD K "__init__" "Stored.__init__" (defArgs s_Stored_init) (defBody s_Stored_init) (defScope s_Stored_init) [] [] (He.fAd K ("Stored", some "__init__")) fd := T.d.def_ 16 (d := Vb.d_Stored_init) rfl
theorem Txt.d_Platform_init (T : Txt K mg) : ∃ fd, FunD K "__init__" "Platform.__init__" (defArgs s_Platform_init) (defBody s_Platform_init) (defScope s_Platform_init) [] [] (He.fAd K ("Platform", some "__init__")) fd := T.d.def_ 17 (d := Vb.d_Platform_init) rfl
theorem Txt.d_Platform_start (T : Txt K mg) : ∃ fd, FunD K "start" "Platform.start" (defArgs s_Platform_start) (defBody s_Platform_start) (defScope s_Platform_start) [] [] (He.fAd K ("Platform", some "start")) fd := T.d.def_ 18 (d := Vb.d_Platform_start) rfl
theorem Txt.d_Platform_has_experiment (T : Txt K mg) : ∃ fd, FunD K "has_experiment" "Platform.has_experiment" (defArgs s_Platform_has_experiment) (defBody s_Platform_has_experiment) (defScope s_Platform_has_experiment) [] [] (He.fAd K ("Platform", some "has_experiment")) fd := T.d.def_ 19 (d := Vb.d_Platform_has_experiment) rfl
theorem Txt.d_Platform_layer_of (T : Txt K mg) : ∃ fd, FunD K "layer_of" "Platform.layer_of" (defArgs s_Platform_layer_of) (defBody s_Platform_layer_of) (defScope s_Platform_layer_of) [] [] (He.fAd K ("Platform", some "layer_of")) fd := T.d.def_ 20 (d := Vb.d_Platform_layer_of) rfl
theorem Txt.d_Platform_is_held_out (T : Txt K mg) : ∃ fd, FunD K "is_held_out" "Platform.is_held_out" (defArgs s_Platform_is_held_out) (defBody s_Platform_is_held_out) (defScope s_Platform_is_held_out) [] [] (He.fAd K ("Platform", some "is_held_out")) fd := T.d.def_ 21 (d := Vb.d_Platform_is_held_out) rfl
theorem Txt.d_Platform_valid (T : Txt K mg) : ∃ fd, FunD K "valid" "Platform.valid" (defArgs s_Platform_valid) (defBody s_Platform_valid) (defScope s_Platform_valid) [] [] (He.fAd K ("Platform", some "valid")) fd := T.d.def_ 22 (d := Vb.d_Platform_valid) rfl
theorem Txt.d_Platform_stored_in (T : Txt K mg) : ∃ fd, FunD K "stored_in" "Platform.stored_in" (defArgs s_Platform_stored_in) (defBody s_Platform_stored_in) (defScope s_Platform_stored_in) [] [] (He.fAd K ("Platform", some "stored_in")) fd := T.d.def_ 23 (d := Vb.d_Platform_stored_in) rfl
theorem Txt.d_Platform_assignment (T : Txt K mg) : ∃ fd, FunD K "assignment" "Platform.assignment" (defArgs s_Platform_assignment) (defBody s_Platform_assignment) (defScope s_Platform_assignment) [] [] (He.fAd K ("Platform", some "assignment")) fd := T.d.def_ 24 (d := Vb.d_Platform_assignment) rfl
theorem Txt.d_Platform_remove (T : Txt K mg) : ∃ fd, FunD K "remove" "Platform.remove" (defArgs s_Platform_remove) (defBody s_Platform_remove) (defScope s_Platform_remove) [] [] (He.fAd K ("Platform", some "remove")) fd := T.d.def_ 25 (d := Vb.d_Platform_remove) rfl
theorem Txt.d_are_octets (T : Txt K mg) : ∃ fd, FunD K "are_octets" "are_octets" (defArgs s_are_octets) (defBody s_are_octets) (defScope s_are_octets) [] [] (He.fAd K ("are_octets", none)) fd := T.d.def_ 26 (d := Vb.d_are_octets) rfl
theorem Txt.d_are_weights (T : Txt K mg) : ∃ fd, FunD K "are_weights" "are_weights" (defArgs s_are_weights) (defBody s_are_weights) (defScope s_are_weights) [] [] (He.fAd K ("are_weights", none)) fd := T.d.def_ 27 (d := Vb.d_are_weights) rfl
theorem Txt.d_call_create (T : Txt K mg) : ∃ fd, FunD K "call_create" "call_create" (defArgs s_call_create) (defBody s_call_create) (defScope s_call_create) [] [] (He.fAd K ("call_create", none)) fd := T.d.def_ 28 (d := Vb.d_call_create) rfl
theorem Txt.d_call_add_layer (T : Txt K mg) : ∃ fd, FunD K "call_add_layer" "call_add_layer" (defArgs s_call_add_layer) (defBody s_call_add_layer) (defScope s_call_add_layer) [] [] (He.fAd K ("call_add_layer", none)) fd := T.d.def_ 29 (d := Vb.d_call_add_layer) rfl
theorem Txt.d_call_add_experiment (T : Txt K mg) : ∃ fd, FunD K "call_add_experiment" "call_add_experiment" (defArgs s_call_add_experiment) (defBody s_call_add_experiment) (defScope s_call_add_experiment) [] [] (He.fAd K ("call_add_experiment", none)) fd := T.d.def_ 30 (d := Vb.d_call_add_experiment) rfl
theorem Txt.d_call_remove_experiment (T : Txt K mg) : ∃ fd, FunD K "call_remove_experiment" "call_remove_experiment" (defArgs s_call_remove_experiment) (defBody s_call_remove_experiment) (defScope s_call_remove_experiment) [] [] (He.fAd K ("call_remove_experiment", none)) fd := T.d.def_ 31 (d := Vb.d_call_remove_experiment) rfl
theorem Txt.d_change (T : Txt K mg) : ∃ fd, FunD K "change" "change" (defArgs s_change) (defBody s_change) (defScope s_change) [] [] (He.fAd K ("change", none)) fd := T.d.def_ 32 (d := Vb.d_change) rfl
theorem Txt.d_new_traffic (T : Txt K mg) : ∃ fd, FunD K "new_traffic" "new_traffic" (defArgs s_new_traffic) (defBody s_new_traffic) (defScope s_new_traffic) [] [] (He.fAd K ("new_traffic", none)) fd := T.d.def_ 33 (d := Vb.d_new_traffic) rfl
theorem Txt.d_new_weights (T : Txt K mg) : ∃ fd, FunD K "new_weights" "new_weights" (defArgs s_new_weights) (defBody s_new_weights) (defScope s_new_weights) [] [] (He.fAd K ("new_weights", none)) fd := T.d.def_ 34 (d := Vb.d_new_weights) rfl
theorem Txt.d_call_set_traffic (T : Txt K mg) : ∃ fd, FunD K "call_set_traffic" "call_set_traffic" (defArgs s_call_set_traffic) (defBody s_call_set_traffic) (defScope s_call_set_traffic) [] [] (He.fAd K ("call_set_traffic", none)) fd := T.d.def_ 35 (d := Vb.d_call_set_traffic) rfl
theorem Txt.d_call_set_weights (T : Txt K mg) : ∃ fd, FunD K "call_set_weights" "call_set_weights" (defArgs s_call_set_weights) (defBody s_call_set_weights) (defScope s_call_set_weights) [] [] (He.fAd K ("call_set_weights", none)) fd := T.d.def_ 36 (d := Vb.d_call_set_weights) rfl
theorem Txt.d_call_preview_traffic (T : Txt K mg) : ∃ fd, FunD K "call_preview_traffic" "call_preview_traffic" (defArgs s_call_preview_traffic) (defBody s_call_preview_traffic) (defScope s_call_preview_traffic) [] [] (He.fAd K ("call_preview_traffic", none)) fd := T.d.def_ 37 (d := Vb.d_call_preview_traffic) rfl
theorem Txt.d_call_preview_weights (T : Txt K mg) : ∃ fd, FunD K "call_preview_weights" "call_preview_weights" (defArgs s_call_preview_weights) (defBody s_call_preview_weights) (defScope s_call_preview_weights) [] [] (He.fAd K ("call_preview_weights", none)) fd := T.d.def_ 38 (d := Vb.d_call_preview_weights) rfl
theorem Txt.d_call_set_holdout (T : Txt K mg) : ∃ fd, FunD K "call_set_holdout" "call_set_holdout" (defArgs s_call_set_holdout) (defBody s_call_set_holdout) (defScope s_call_set_holdout) [] [] (He.fAd K ("call_set_holdout", none)) fd := T.d.def_ 39 (d := Vb.d_call_set_holdout) rfl
theorem Txt.d_call_set_override (T : Txt K mg) : ∃ fd, FunD K "call_set_override" "call_set_override" (defArgs s_call_set_override) (defBody s_call_set_override) (defScope s_call_set_override) [] [] (He.fAd K ("call_set_override", none)) fd := T.d.def_ 40 (d := Vb.d_call_set_override) rfl
theorem Txt.d_call_remove_override (T : Txt K mg) : ∃ fd, FunD K "call_remove_override" "call_remove_override" (defArgs s_call_remove_override) (defBody s_call_remove_override) (defScope s_call_remove_override) [] [] (He.fAd K ("call_remove_override", none)) fd := T.d.def_ 41 (d := Vb.d_call_remove_override) rfl
theorem Txt.d_call_advance (T : Txt K mg) : ∃ fd, FunD K "call_advance" "call_advance" (defArgs s_call_advance) (defBody s_call_advance) (defScope s_call_advance) [] [] (He.fAd K ("call_advance", none)) fd := T.d.def_ 42 (d := Vb.d_call_advance) rfl
theorem Txt.d_call_enter (T : Txt K mg) : ∃ fd, FunD K "call_enter" "call_enter" (defArgs s_call_enter) (defBody s_call_enter) (defScope s_call_enter) [] [] (He.fAd K ("call_enter", none)) fd := T.d.def_ 43 (d := Vb.d_call_enter) rfl
theorem Txt.d_call_assign (T : Txt K mg) : ∃ fd, FunD K "call_assign" "call_assign" (defArgs s_call_assign) (defBody s_call_assign) (defScope s_call_assign) [] [] (He.fAd K ("call_assign", none)) fd := T.d.def_ 44 (d := Vb.d_call_assign) rfl
theorem Txt.d_call_experiment_of (T : Txt K mg) : ∃ fd, FunD K "call_experiment_of" "call_experiment_of" (defArgs s_call_experiment_of) (defBody s_call_experiment_of) (defScope s_call_experiment_of) [] [] (He.fAd K ("call_experiment_of", none)) fd := T.d.def_ 45 (d := Vb.d_call_experiment_of) rfl
theorem Txt.d_call_bucket (T : Txt K mg) : ∃ fd, FunD K "call_bucket" "call_bucket" (defArgs s_call_bucket) (defBody s_call_bucket) (defScope s_call_bucket) [] [] (He.fAd K ("call_bucket", none)) fd := T.d.def_ 46 (d := Vb.d_call_bucket) rfl
theorem Txt.d_call_hash (T : Txt K mg) : ∃ fd, FunD K "call_hash" "call_hash" (defArgs s_call_hash) (defBody s_call_hash) (defScope s_call_hash) [] [] (He.fAd K ("call_hash", none)) fd := T.d.def_ 47 (d := Vb.d_call_hash) rfl
theorem Txt.d_call_is_held_out (T : Txt K mg) : ∃ fd, FunD K "call_is_held_out" "call_is_held_out" (defArgs s_call_is_held_out) (defBody s_call_is_held_out) (defScope s_call_is_held_out) [] [] (He.fAd K ("call_is_held_out", none)) fd := T.d.def_ 48 (d := Vb.d_call_is_held_out) rfl
theorem Txt.d_call_allocation (T : Txt K mg) : ∃ fd, FunD K "call_allocation" "call_allocation" (defArgs s_call_allocation) (defBody s_call_allocation) (defScope s_call_allocation) [] [] (He.fAd K ("call_allocation", none)) fd := T.d.def_ 49 (d := Vb.d_call_allocation) rfl
theorem Txt.d_call_free_count (T : Txt K mg) : ∃ fd, FunD K "call_free_count" "call_free_count" (defArgs s_call_free_count) (defBody s_call_free_count) (defScope s_call_free_count) [] [] (He.fAd K ("call_free_count", none)) fd := T.d.def_ 50 (d := Vb.d_call_free_count) rfl
theorem Txt.d_call_targets (T : Txt K mg) : ∃ fd, FunD K "call_targets" "call_targets" (defArgs s_call_targets) (defBody s_call_targets) (defScope s_call_targets) [] [] (He.fAd K ("call_targets", none)) fd := T.d.def_ 51 (d := Vb.d_call_targets) rfl
theorem Txt.d_call_get_experiment (T : Txt K mg) : ∃ fd, FunD K "call_get_experiment" "call_get_experiment" (defArgs s_call_get_experiment) (defBody s_call_get_experiment) (defScope s_call_get_experiment) [] [] (He.fAd K ("call_get_experiment", none)) fd := T.d.def_ 52 (d := Vb.d_call_get_experiment) rfl
theorem Txt.d_call_list_stored (T : Txt K mg) : ∃ fd, FunD K "call_list_stored" "call_list_stored" (defArgs s_call_list_stored) (defBody s_call_list_stored) (defScope s_call_list_stored) [] [] (He.fAd K ("call_list_stored", none)) fd := T.d.def_ 53 (d := Vb.d_call_list_stored) rfl
theorem Txt.d_call_sample_counts (T : Txt K mg) : ∃ fd, FunD K "call_sample_counts" "call_sample_counts" (defArgs s_call_sample_counts) (defBody s_call_sample_counts) (defScope s_call_sample_counts) [] [] (He.fAd K ("call_sample_counts", none)) fd := T.d.def_ 54 (d := Vb.d_call_sample_counts) rfl
theorem Txt.d_call_cross_table (T : Txt K mg) : ∃ fd, FunD K "call_cross_table" "call_cross_table" (defArgs s_call_cross_table) (defBody s_call_cross_table) (defScope s_call_cross_table) [] [] (He.fAd K ("call_cross_table", none)) fd := T.d.def_ 55 (d := Vb.d_call_cross_table) rfl
theorem Txt.d_call_summary (T : Txt K mg) : ∃ fd, FunD K "call_summary" "call_summary" (defArgs s_call_summary) (defBody s_call_summary) (defScope s_call_summary) [] [] (He.fAd K ("call_summary", none)) fd := T.d.def_ 56 (d := Vb.d_call_summary) rfl
theorem Txt.d_answered (T : Txt K mg) : ∃ fd, FunD K "answered" "answered" (defArgs s_answered) (defBody s_answered) (defScope s_answered) [] [] (He.fAd K ("answered", none)) fd := T.d.def_ 57 (d := Vb.d_answered) rfl
theorem Txt.d_answers (T : Txt K mg) : ∃ fd, FunD K "answers" "answers" (defArgs s_answers) (defBody s_answers) (defScope s_answers) [] [] (He.fAd K ("answers", none)) fd := T.d.def_ 58 (d := Vb.d_answers) rfl
theorem Txt.m1 (T : Txt K mg) : He.tupB K "FREE" [.int (-1), .int (-1)] = true := (He.ba T.m).1
theorem Txt.m2 (T : Txt K mg) : He.tupB K "NONE" [.int (-1), .int (-1)] = true := (He.ba (He.ba T.m).2).1
theorem Txt.m3 (T : Txt K mg) : He.tupB K "WITH_ROW" (withRow.map .int) = true := (He.ba (He.ba (He.ba T.m).2).2).1
theorem Txt.m4 (T : Txt K mg) : dicI K "NUMBERS" (numbers.map fun q => (q.1, .int q.2)) = true := (He.ba (He.ba (He.ba (He.ba T.m).2).2).2).1
theorem Txt.m5 (T : Txt K mg) : dicI K "DEEDS" (deeds.map fun q => (q.1, .glo q.2)) = true := (He.ba (He.ba (He.ba (He.ba T.m).2).2).2).2
theorem Txt.free_tup (T : Txt K mg) (H : Hp) : SqT K H (He.ga K "FREE") [.int (-1), .int (-1)] := He.tupB_ok T.m1 H
theorem Txt.none_tup (T : Txt K mg) (H : Hp) : SqT K H (He.ga K "NONE") [.int (-1), .int (-1)] := He.tupB_ok T.m2 H
end
end Vb

set_option Elab.async false
set_option linter.all false
set_option maxRecDepth 100000
set_option maxHeartbeats 2000000
/-! How a def is held and called; numbers as values. -/
namespace Vb
open PySem PySem.Spec PyProof.Rows L2
abbrev nI (n : Nat) : V := .int (n : Int)
abbrev nats (l : List Nat) : List V := l.map nI
section
variable {P : Program} {w : World} {K : PySem.W.Frag} {mg : Str → Option Value} {base : Heap}
/-- a def that keeps its promise, at most k rooms deep -/
theorem held_of {x qual : Str} {params : Arguments} {body : List Stmt} {scope : Scope} {f : Addr} {N ps : List Str} {k : Nat} {sp : Sp} (F : ∃ fd, FunD K x qual params body scope [] [] f fd) (S : FnScope N ps scope)
    (len : ∀ vs H Q E, sp vs H Q E → vs.length = ps.length)
    (hb : ∀ (kV doc pm : Value) (an : Option Addr) (cdv ct : Value) (us : List Value), us.length = ps.length → bindArgs (PySem.W.fnOf x qual params body scope .none kV doc pm an cdv ct) ⟨us, []⟩ = pure (ps.zip us))
    (hbody : ∀ (cdv : Value) (A : Around) (outer : List Env) (s : Shared) (H : Hp) (vs : List V) (Q : VK) (E : XK), Room k (A.deeper (envOfC qual scope s.heap.objs.size f cdv)) → sp vs H Q E →
      ∃ t, PSs (cxOf CX0 P w K mg base N qual scope f cdv A outer s H E).nox body t ∧ t { nx := fun _ H' => Q .non H', rt := Q } (start N vs) H) : Held P w K mg base (k + 1) f sp := by
  obtain ⟨fd, F⟩ := F
  refine ⟨fd, ps, F.ok S len fun cdv A outer s H vs Q E hr h => ?_, F.kp, F.bindsN hb⟩
  obtain ⟨t, h1, h2⟩ := hbody cdv A outer s H vs Q E hr h
  exact ⟨t, h1.nox, h2⟩
theorem Held.mono {j k : Nat} {f : Addr} {sp : Sp} (h : Held P w K mg base j f sp) (l : j ≤ k) : Held P w K mg base k f sp := by
  obtain ⟨fd, ps, F, a, b⟩ := h.ex
  exact ⟨fd, ps, F.mono l, a, b⟩
end
section
variable {X : Cx} {k : Nat} {f : Addr} {sp : Sp} {x : Str} {e : Expr} {es : List Expr} {t : TA} {p pos : Pos}
abbrev tCa (sp : Sp) (t : TA) : TE := tCall sp [] E0 t
theorem pe_callH (h : Held X.prog X.w X.K X.mg X.base k f sp) (hr : Room k X.A) (hm : X.mg x = some (.ref f)) (ha : PA X (e :: es) t) (hg : Gl X x := by rfl)
    (hdb : (x == ("__debug__" : Str)) = false := by decide) (he : starEach (e :: es) X.env = (false, eval e X.env) :: starEach es X.env := by rfl) (hpl : (backTo pos (starEach es X.env)).any (·.1) = false := by rfl) :
    PE X (.Call (.Name x p) (e :: es) [] pos) (tCa sp t) := by
  obtain ⟨fd, ps, F, a, b⟩ := h.ex
  exact pe_call F hr hg hm a b .nil pass0 ha hdb he hpl
theorem pe_gi {i : Int} (h : ∃ t, X.mg x = some (.int i t)) (hg : Gl X x := by rfl) (hd : (x == ("__debug__" : Str)) = false := by decide) : PE X (.Name x pos) (tC (.int i)) := by
  obtain ⟨t, e⟩ := h
  exact pe_glob hg e ⟨t, rfl⟩ hd
theorem pe_gr {a : Addr} (h : X.mg x = some (.ref a)) (hg : Gl X x := by rfl) (hd : (x == ("__debug__" : Str)) = false := by decide) : PE X (.Name x pos) (tC (.ref a)) := pe_glob hg h rfl hd
end
/-! ### numbers -/
theorem map_get {l : List Nat} {i : Nat} {y : V} (h : (nats l)[i]? = some y) : ∃ n, l[i]? = some n ∧ y = nI n := by
  rw [List.getElem?_map] at h
  cases e : l[i]? with
  | none =>
    rw [e] at h
    cases h
  | some n =>
    rw [e] at h
    exact ⟨n, rfl, (Option.some.inj h).symm⟩
theorem nats_take (l : List Nat) : l.take (nats l).length = l := by
  rw [List.length_map, List.take_length]
end Vb

set_option Elab.async false
set_option linter.all false
set_option maxRecDepth 100000
set_option maxHeartbeats 2000000
/-! The hash: each def's promise and body. -/
namespace Vb
open PySem PySem.Spec PyProof.Rows L2
theorem xorI (a b : Nat) : Builtin.bitXor (a : Int) (b : Int) = ((a ^^^ b : Nat) : Int) := by
  rw [Bits.bitXor_pp (Int.natCast_nonneg a) (Int.natCast_nonneg b)]
  rfl
def spFollowed (K : PySem.W.Frag) : Sp := fun vs H Q _ => ∃ (st : Nat) (a : Addr) (b : List Nat), vs = [nI st, .ref a] ∧ SqA K H a (nats b) ∧ Q (nI (foll st b)) H
section
variable {P : Program} {w : World} {K : PySem.W.Frag} {mg : Str → Option Value} {base : Heap}
theorem sc_followed : FnScope ["state", "octets", "octet"] ["state", "octets"] (defScope s_followed) := ⟨rfl, rfl, rfl, by decide +kernel, rfl, by decide +kernel, by decide +kernel⟩
theorem h_followed (T : Txt K mg) : Held P w K mg base 1 (He.ga K "followed") (spFollowed K) := by
  refine held_of (ps := ["state", "octets"]) T.d_followed sc_followed (fun vs H Q E h => by obtain ⟨st, a, b, rfl, _⟩ := h; rfl) (fun _ _ _ _ _ _ us hl => match us, hl with | [_, _], _ => rfl) (fun cdv A outer s H vs Q E hr h => ?_)
  refine ⟨_, pss_cons (ps_for PassesOwn.never rfl (pi_seq (pv 1)) (pg_name (i := 2) sc_followed.nd rfl (Or.inl rfl))
      (pss_one (ps_set (i := 0) sc_followed.nd rfl (Or.inl rfl) (pe_op op_mod (pe_op op_mul (pe_op op_xor (pv 0) (pv 2)) (pe_gi T.i_PRIME)) (pe_gi T.i_WHOLE)))))
    (pss_one (ps_ret (pv 0))), ?_⟩
  obtain ⟨st, a, b, rfl, hS, k⟩ := h
  have step : ∀ (i : Nat) (y : V) (σ : L2.St) (H1 : Hp) (D : Ends), (nats b)[i]? = some y → (∃ v : Option V, σ = [some (nI (foll st (b.take i))), some (.ref a), v] ∧ H1 = H) →
      (∀ σ' H', (∃ v : Option V, σ' = [some (nI (foll st (b.take (i + 1)))), some (.ref a), v] ∧ H' = H) → D.nx σ' H') →
      gName 2 y σ H1 fun σ2 H2 => tAsg (tOp (rI (fun _ j => 0 < j) fun i j => .int (i % j)) (tOp (rI CMul fun i j => .int (i * j)) (tOp (rI0 fun i j => .int (Builtin.bitXor i j)) (tVar 0) (tVar 2)) (tC (.int 1099511628211))) (tC (.int 18446744073709551616))) (gName 0) D σ2 H2 := by
    rintro i y σ H1 D hy ⟨v, rfl, rfl⟩ hD
    obtain ⟨x, hx, rfl⟩ := map_get hy
    refine ⟨_, rfl, _, rfl, _, _, rfl, rfl, _, _, rfl, rfl, .inr (by decide), _, _, rfl, rfl, (by show (0 : Int) < 18446744073709551616; decide), ?_⟩
    refine hD _ _ ⟨some (nI x), ?_, rfl⟩
    rw [take_snoc hx, foll_snoc, xorI]
    exact congrArg (fun z => [some (V.int z), some (V.ref a), some (nI x)]) (stp_int _ _)
  have fin : ∀ (σ : L2.St) (H1 : Hp), (∃ v : Option V, σ = [some (nI (foll st (b.take (nats b).length))), some (.ref a), v] ∧ H1 = H) → tRet (tVar 0) { nx := fun _ H' => Q .non H', rt := Q } σ H1 := by
    rintro σ H1 ⟨v, rfl, rfl⟩
    rw [nats_take]
    exact ⟨_, rfl, k⟩
  rcases hS with hS | hS
  · refine .inl ⟨_, rfl, a, rfl, ⟨_, hS⟩, for_list (K := K) (a := a) (xs := nats b) (fun i σ H1 => ∃ v : Option V, σ = [some (nI (foll st (b.take i))), some (.ref a), v] ∧ H1 = H) ⟨none, rfl, rfl⟩ (fun i σ H1 _ ⟨_, _, e⟩ => by rw [e]; exact hS)
      (fun i y σ H1 hy p => step i y σ H1 _ hy p fun _ _ q => q) fin⟩
  · refine .inr ⟨_, rfl, a, rfl, ⟨_, hS⟩, for_tup (K := K) (a := a) (xs := nats b) (fun i σ H1 => ∃ v : Option V, σ = [some (nI (foll st (b.take i))), some (.ref a), v] ∧ H1 = H) ⟨none, rfl, rfl⟩ (fun i σ H1 _ ⟨_, _, e⟩ => by rw [e]; exact hS)
      (fun i y σ H1 hy p => step i y σ H1 _ hy p fun _ _ q => q) fin⟩

theorem divI (a b : Nat) : (a : Int) / (b : Int) = ((a / b : Nat) : Int) := (Int.natCast_ediv a b).symm
theorem modI (a b : Nat) : (a : Int) % (b : Int) = ((a % b : Nat) : Int) := (Int.natCast_emod a b).symm
theorem divC {j : Int} (h : 0 < j) (h2 : j.natAbs < 2 ^ 64) (i : Int) : CDivW i j := wide_div h h2 (by decide) (by decide)
def spFinished : Sp := fun vs H Q _ => ∃ st : Nat, vs = [nI st] ∧ Q (nI (mixed st)) H
theorem sc_finished : FnScope ["state"] ["state"] (defScope s_finished) := ⟨rfl, rfl, rfl, by decide +kernel, rfl, by decide +kernel, by decide +kernel⟩
theorem h_finished (T : Txt K mg) : Held P w K mg base 1 (He.ga K "finished") spFinished := by
  refine held_of (ps := ["state"]) T.d_finished sc_finished (fun vs H Q E h => by obtain ⟨st, rfl, _⟩ := h; rfl) (fun _ _ _ _ _ _ us hl => match us, hl with | [_], _ => rfl) (fun cdv A outer s H vs Q E hr h => ?_)
  refine ⟨_, pss_cons (ps_set (i := 0) sc_finished.nd rfl (Or.inl rfl) (pe_op op_mod (pe_op op_mul (pe_op op_xor (pv 0) (pe_op op_fdivW (pv 0) (pe_gi T.i_HALF))) (pe_gi T.i_ONE)) (pe_gi T.i_WHOLE)))
    (pss_cons (ps_set (i := 0) sc_finished.nd rfl (Or.inl rfl) (pe_op op_mod (pe_op op_mul (pe_op op_xor (pv 0) (pe_op op_fdivW (pv 0) (pe_gi T.i_HALF))) (pe_gi T.i_TWO)) (pe_gi T.i_WHOLE)))
    (pss_one (ps_ret (pe_op op_xor (pv 0) (pe_op op_fdivW (pv 0) (pe_gi T.i_HALF)))))), ?_⟩
  obtain ⟨st, rfl, k⟩ := h
  have step : ∀ (x f : Nat), (Builtin.bitXor (x : Int) ((x : Int) / 8589934592) * (f : Int)) % 18446744073709551616 = ((rnd x f : Nat) : Int) := fun x f => by
    rw [show (x : Int) / 8589934592 = ((x / 8589934592 : Nat) : Int) from divI x 8589934592, xorI]
    exact rnd_int x f
  refine ⟨_, rfl, _, rfl, _, _, rfl, rfl, divC (by decide) (by decide) _, _, _, rfl, rfl, _, _, rfl, rfl, .inr (by decide), _, _, rfl, rfl, (by show (0 : Int) < 18446744073709551616; decide), ?_⟩
  show tSeq _ _ _ [some (V.int ((Builtin.bitXor (st : Int) ((st : Int) / 8589934592) * ((18397679294719823053 : Nat) : Int)) % 18446744073709551616))] H
  rw [step]
  refine ⟨_, rfl, _, rfl, _, _, rfl, rfl, divC (by decide) (by decide) _, _, _, rfl, rfl, _, _, rfl, rfl, .inr (by decide), _, _, rfl, rfl, (by show (0 : Int) < 18446744073709551616; decide), ?_⟩
  show gName 0 (V.int ((Builtin.bitXor ((rnd st 18397679294719823053 : Nat) : Int) (((rnd st 18397679294719823053 : Nat) : Int) / 8589934592) * ((14181476777654086739 : Nat) : Int)) % 18446744073709551616)) _ _ _
  rw [step]
  refine ⟨_, rfl, _, rfl, _, _, rfl, rfl, divC (by decide) (by decide) _, _, _, rfl, rfl, ?_⟩
  rw [mixed_eq] at k
  show Q (V.int (Builtin.bitXor ((rnd (rnd st 18397679294719823053) 14181476777654086739 : Nat) : Int) (((rnd (rnd st 18397679294719823053) 14181476777654086739 : Nat) : Int) / 8589934592))) H
  rw [show ((rnd (rnd st 18397679294719823053) 14181476777654086739 : Nat) : Int) / 8589934592 = ((rnd (rnd st 18397679294719823053) 14181476777654086739 / 8589934592 : Nat) : Int) from divI _ 8589934592, xorI]
  exact k
def spHashOf (K : PySem.W.Frag) : Sp := fun vs H Q _ => ∃ (a : Addr) (b : List Nat), vs = [.ref a] ∧ SqA K H a (nats b) ∧ Q (nI (mixed (foll fst0 b))) H
theorem sc_hash_of : FnScope ["octets"] ["octets"] (defScope s_hash_of) := ⟨rfl, rfl, rfl, by decide +kernel, rfl, by decide +kernel, by decide +kernel⟩
theorem h_hash_of (T : Txt K mg) : Held P w K mg base 2 (He.ga K "hash_of") (spHashOf K) := by
  refine held_of (ps := ["octets"]) T.d_hash_of sc_hash_of (fun vs H Q E h => by obtain ⟨a, b, rfl, _⟩ := h; rfl) (fun _ _ _ _ _ _ us hl => match us, hl with | [_], _ => rfl) (fun cdv A outer s H vs Q E hr h => ?_)
  refine ⟨_, pss_one (ps_ret (pe_callH (h_finished T) hr T.g_finished (pa_cons (pe_callH (h_followed T) hr T.g_followed (pa_cons (pe_gi T.i_FIRST) (pa_cons (pv 0) pa_nil))) pa_nil))), ?_⟩
  obtain ⟨a, b, rfl, hS, k⟩ := h
  exact ⟨_, rfl, fst0, a, b, rfl, hS, _, rfl, k⟩
def spSalted (K : PySem.W.Frag) : Sp := fun vs H Q _ => ∃ (a : Addr) (b : List Nat), vs = [.ref a] ∧ SqA K H a (nats b) ∧ ∀ H', Same H H' → Q (nI (sltd b)) H'
theorem sc_salted : FnScope ["salt"] ["salt"] (defScope s_salted) := ⟨rfl, rfl, rfl, by decide +kernel, rfl, by decide +kernel, by decide +kernel⟩
theorem same_new {H : Hp} {p : Addr} {o : HO} (h : H p = none) : Same H (upd H p o) := fun b u e => by
  rw [upd_ne (ne_of_none e h)]
  exact e
theorem h_salted (T : Txt K mg) : Held P w K mg base 2 (He.ga K "salted") (spSalted K) := by
  refine held_of (ps := ["salt"]) T.d_salted sc_salted (fun vs H Q E h => by obtain ⟨a, b, rfl, _⟩ := h; rfl) (fun _ _ _ _ _ _ us hl => match us, hl with | [_], _ => rfl) (fun cdv A outer s H vs Q E hr h => ?_)
  refine ⟨_, pss_one (ps_ret (pe_callH (h_followed T) hr T.g_followed (pa_cons (pe_callH (h_followed T) hr T.g_followed (pa_cons (pe_gi T.i_FIRST) (pa_cons (pv 0) pa_nil))) (pa_cons (pe_lst (pa_cons (pe_gi T.i_BETWEEN) pa_nil)) pa_nil)))), ?_⟩
  obtain ⟨a, b, rfl, hS, k⟩ := h
  refine ⟨_, rfl, fst0, a, b, rfl, hS, (by show 1 ≤ sizeLine; decide), fun p hp => ?_⟩
  exact ⟨foll fst0 b, p, [58], rfl, .inl (SqL.of upd_same), k _ (same_new hp)⟩
def spBucket (K : PySem.W.Frag) : Sp := fun vs H Q _ => ∃ (st : Nat) (a : Addr) (b : List Nat), vs = [nI st, .ref a] ∧ SqA K H a (nats b) ∧ Q (nI (bkt st b)) H
theorem sc_bucket_behind : FnScope ["state", "unit"] ["state", "unit"] (defScope s_bucket_behind) := ⟨rfl, rfl, rfl, by decide +kernel, rfl, by decide +kernel, by decide +kernel⟩
theorem h_bucket_behind (T : Txt K mg) : Held P w K mg base 2 (He.ga K "bucket_behind") (spBucket K) := by
  refine held_of (ps := ["state", "unit"]) T.d_bucket_behind sc_bucket_behind (fun vs H Q E h => by obtain ⟨st, a, b, rfl, _⟩ := h; rfl) (fun _ _ _ _ _ _ us hl => match us, hl with | [_, _], _ => rfl) (fun cdv A outer s H vs Q E hr h => ?_)
  refine ⟨_, pss_one (ps_ret (pe_op op_fdivW (pe_op op_mul pe_int (pe_callH (h_finished T) hr T.g_finished (pa_cons (pe_callH (h_followed T) hr T.g_followed (pa_cons (pv 0) (pa_cons (pv 1) pa_nil))) pa_nil))) (pe_gi T.i_WHOLE))), ?_⟩
  obtain ⟨st, a, b, rfl, hS, k⟩ := h
  refine ⟨_, rfl, _, rfl, st, a, b, rfl, hS, _, rfl, _, _, rfl, rfl, .inl (by decide), _, _, rfl, rfl, wide_div (by decide) (b := 65) (by decide) (by decide) (by decide), ?_⟩
  have e : (100 * ((mixed (foll st b) : Nat) : Int)) / 18446744073709551616 = ((bkt st b : Nat) : Int) := by
    rw [show (100 : Int) * ((mixed (foll st b) : Nat) : Int) = ((100 * mixed (foll st b) : Nat) : Int) from (Int.natCast_mul 100 _).symm]
    exact divI _ 18446744073709551616
  show Q (V.int ((100 * ((mixed (foll st b) : Nat) : Int)) / 18446744073709551616)) H
  rw [e]
  exact k
def spQuarters : Sp := fun vs H Q _ => ∃ n : Nat, vs = [nI n] ∧ ∀ H' p, Same H H' → H p = none → H' p = some (.lst (nats [n / 281474976710656, n / 4294967296 % 65536, n / 65536 % 65536, n % 65536])) → Q (.ref p) H'
theorem sc_quarters : FnScope ["number"] ["number"] (defScope s_quarters) := ⟨rfl, rfl, rfl, by decide +kernel, rfl, by decide +kernel, by decide +kernel⟩
theorem h_quarters (T : Txt K mg) : Held P w K mg base 1 (He.ga K "quarters") spQuarters := by
  refine held_of (ps := ["number"]) T.d_quarters sc_quarters (fun vs H Q E h => by obtain ⟨st, rfl, _⟩ := h; rfl) (fun _ _ _ _ _ _ us hl => match us, hl with | [_], _ => rfl) (fun cdv A outer s H vs Q E hr h => ?_)
  refine ⟨_, pss_one (ps_ret (pe_lst (pa_cons (pe_op op_fdivW (pv 0) pe_int) (pa_cons (pe_op op_mod (pe_op op_fdivW (pv 0) pe_int) pe_int) (pa_cons (pe_op op_mod (pe_op op_fdivW (pv 0) pe_int) pe_int) (pa_cons (pe_op op_mod (pv 0) pe_int) pa_nil)))))), ?_⟩
  obtain ⟨n, rfl, k⟩ := h
  have h6 : (0 : Int) < 65536 := by decide
  refine ⟨_, rfl, _, _, rfl, rfl, divC (by decide) (by decide) _, _, rfl, _, _, rfl, rfl, divC (by decide) (by decide) _, _, _, rfl, rfl, h6, _, rfl, _, _, rfl, rfl, divC (by decide) (by decide) _, _, _, rfl, rfl, h6, _, rfl, _, _, rfl, rfl, h6, (by show 4 ≤ sizeLine; decide), fun p hp => ?_⟩
  refine k _ p (same_new hp) hp ?_
  rw [upd_same]
  rfl
end
end Vb

set_option Elab.async false
set_option linter.all false
set_option maxRecDepth 100000
set_option maxHeartbeats 2000000
namespace Vb
open PySem PySem.Spec PyProof.Rows L2
section
variable {P : Program} {w : World} {K : PySem.W.Frag} {mg : Str → Option Value} {base : Heap}
theorem digR_small {f n : Nat} (h : n < 10) : digR f n = [48 + n] := by
  cases f with
  | zero => rfl
  | succ f =>
    unfold digR
    rw [if_pos h]
theorem sample_eq {n : Nat} (h : n < 10 ^ 12) : Kex2.sampleUnit n = (digR 11 n ++ [117]).reverse := by
  unfold Kex2.sampleUnit
  rw [List.reverse_append, digR_eq 11 n h]
  rfl
theorem nats_app (a b : List Nat) : nats (a ++ b) = nats a ++ nats b := List.map_append
theorem nats_len (a : List Nat) : (nats a).length = a.length := List.length_map _
def spSample : Sp := fun vs H Q _ => ∃ n : Nat, vs = [nI n] ∧ n < 10 ^ 12 ∧ ∀ H' p, Same H H' → H p = none → H' p = some (.lst (nats (Kex2.sampleUnit n))) → Q (.ref p) H'
theorem sc_sample_unit : FnScope ["number", "digits", "left"] ["number"] (defScope s_sample_unit) := ⟨rfl, rfl, rfl, by decide +kernel, rfl, by decide +kernel, by decide +kernel⟩
theorem digR_len : ∀ (f n : Nat), (digR f n).length ≤ f + 1
  | 0, n => by simp [digR]
  | f + 1, n => by
    unfold digR
    split
    · simp
    · have := digR_len f (n / 10)
      simp
      omega
/-- the digits so far -/
def DigInv (n : Nat) (D : Addr) (H0 : Hp) (σ : L2.St) (H1 : Hp) : Prop := ∃ (l f : Nat) (pre : List Nat), σ = [some (nI n), some (.ref D), some (nI l)] ∧ H1 D = some (.lst (nats pre)) ∧ pre ++ digR f l = digR 11 n ∧ l < 10 ^ (f + 1) ∧ Same H0 H1 ∧ H0 D = none
theorem same_upd {H0 H1 : Hp} {D : Addr} {o : HO} (s : Same H0 H1) (n : H0 D = none) : Same H0 (upd H1 D o) := fun b u e => by
  rw [upd_ne (ne_of_none e n)]
  exact s b u e
theorem h_sample_unit (T : Txt K mg) : Held P w K mg base 1 (He.ga K "sample_unit") spSample := by
  refine held_of (ps := ["number"]) T.d_sample_unit sc_sample_unit (fun vs H Q E h => by obtain ⟨st, rfl, _⟩ := h; rfl) (fun _ _ _ _ _ _ us hl => match us, hl with | [_], _ => rfl) (fun cdv A outer s H vs Q E hr h => ?_)
  refine ⟨_, pss_cons (ps_set (i := 1) sc_sample_unit.nd rfl (Or.inl rfl) (pe_lst pa_nil)) (pss_cons (ps_set (i := 2) sc_sample_unit.nd rfl (Or.inl rfl) (pv 0))
    (pss_cons (ps_while PassesOwn.never (pt_cmpR op_ge (pv 2) pe_int (nomark _))
      (pss_cons (ps_expr (pe_bm PySem.F.plainAttrs_list PySem.F.slot_list_append PySem.F.type_list_append mt_append (pv 1) (pa_cons (pe_op op_add pe_int (pe_op op_mod (pv 2) pe_int)) pa_nil)))
      (pss_one (ps_set (i := 2) sc_sample_unit.nd rfl (Or.inl rfl) (pe_op op_fdiv (pv 2) pe_int)))))
    (pss_cons (ps_expr (pe_bm PySem.F.plainAttrs_list PySem.F.slot_list_append PySem.F.type_list_append mt_append (pv 1) (pa_cons (pe_op op_add pe_int (pv 2)) pa_nil)))
    (pss_cons (ps_expr (pe_bm PySem.F.plainAttrs_list PySem.F.slot_list_append PySem.F.type_list_append mt_append (pv 1) (pa_cons (pe_gi T.i_SAMPLE) pa_nil)))
    (pss_one (ps_ret (pe_revL (pv 1)))))))), ?_⟩
  obtain ⟨n, rfl, hn, k⟩ := h
  refine ⟨Nat.zero_le _, fun D hD => ?_⟩
  refine ⟨_, rfl, ?_⟩
  refine while_by (DigInv n D H) (fun σ _ => match σ with | [_, _, some (.int l)] => l.toNat | _ => 0) ⟨n, 11, [], rfl, upd_same, rfl, hn, same_new hD, hD⟩ ?_ (fun σ H Q Q' h q => by
    obtain ⟨v, h1, h2⟩ := q
    obtain ⟨i, j, e1, e2, h3⟩ := h2
    obtain ⟨b, h4, h5⟩ := h3
    exact ⟨v, h1, i, j, e1, e2, b, h4, h _ _ h5⟩)
  rintro σ H1 ⟨l, f, pre, rfl, hp, he, hl, hs, hD0⟩
  have hlen : (nats pre).length < 100 := by
    have h1 := congrArg List.length he
    have h2 := digR_len 11 n
    rw [List.length_append] at h1
    rw [nats_len]
    omega
  refine ⟨_, rfl, _, _, rfl, rfl, _, rfl, ?_⟩
  by_cases c : (10 : Int) ≤ (l : Int)
  · rw [decide_eq_true c]
    refine iteT ?_
    have c' : 10 ≤ l := by omega
    obtain ⟨g, rfl⟩ : ∃ g, f = g + 1 := by
      cases f with
      | zero => 
        have : l < 10 := by simpa using hl
        omega
      | succ g => exact ⟨g, rfl⟩
    refine ⟨_, rfl, .inl ⟨rfl, _, SqL.of hp⟩, _, rfl, _, _, rfl, rfl, (by show (0 : Int) < 10; decide), _, _, rfl, rfl, _, _, _, rfl, rfl, hp, Nat.lt_trans hlen (by decide), ?_⟩
    refine ⟨_, rfl, _, _, rfl, rfl, ⟨by decide, by decide⟩, ?_⟩
    refine ⟨⟨l / 10, g, pre ++ [48 + l % 10], ?_, ?_, ?_, ?_, same_upd hs hD0, hD0⟩, ?_⟩
    · show [some (nI n), some (V.ref D), some (V.int ((l : Int) / 10))] = _
      rw [show (l : Int) / 10 = ((l / 10 : Nat) : Int) from divI l 10]
    · rw [upd_same, nats_app]
      show some (HO.lst (nats pre ++ [V.int (48 + (l : Int) % 10)])) = _
      rw [show (48 : Int) + (l : Int) % 10 = ((48 + l % 10 : Nat) : Int) by omega]
      rfl
    · rw [← he, List.append_assoc]
      congr 1
      show [48 + l % 10] ++ digR g (l / 10) = digR (g + 1) l
      conv => rhs; unfold digR
      rw [if_neg (by omega)]
      rfl
    · rw [Nat.pow_succ] at hl
      omega
    · show ((l : Int) / 10).toNat < (l : Int).toNat
      omega
  · rw [decide_eq_false c]
    refine iteF ?_
    have c' : l < 10 := by omega
    rw [digR_small c'] at he
    refine ⟨_, rfl, .inl ⟨rfl, _, SqL.of hp⟩, _, rfl, _, _, rfl, rfl, _, _, _, rfl, rfl, hp, Nat.lt_trans hlen (by decide), ?_⟩
    refine ⟨_, rfl, .inl ⟨rfl, _, SqL.of upd_same⟩, _, _, _, rfl, rfl, upd_same, ?_, ?_⟩
    · rw [List.length_append]
      exact Nat.lt_of_lt_of_le (Nat.succ_lt_succ hlen) (by decide)
    refine ⟨_, rfl, _, _, rfl, SqL.of upd_same, fun p hp2 => ?_⟩
    have s1 : Same H (upd (upd H1 D (.lst (nats pre ++ [.int (48 + (l : Int))]))) D (.lst ((nats pre ++ [.int (48 + (l : Int))]) ++ [.int 117]))) := same_upd (same_upd hs hD0) hD0
    refine k _ p (s1.trans (same_new hp2)) (s1.free hp2) ?_
    rw [upd_same, sample_eq hn, ← he]
    have e1 : V.int (48 + (l : Int)) = nI (48 + l) := congrArg V.int (by omega)
    show some (HO.lst (nats pre ++ [V.int (48 + (l : Int))] ++ [V.int 117]).reverse) = _
    rw [e1]
    simp only [List.map_reverse, List.map_append, List.map_cons, List.map_nil]
    rfl
end
end Vb

set_option Elab.async false
set_option linter.all false
set_option maxRecDepth 100000
set_option maxHeartbeats 2000000
/-! Owners of buckets in the heap; owned_by. -/
namespace Vb
open PySem PySem.Spec PyProof.Rows L2
/-- two lists agree place by place -/
structure Each {α β : Type} (F : α → β → Prop) (xs : List α) (ys : List β) : Prop where
  len : xs.length = ys.length
  at_ : ∀ (i : Nat) x y, xs[i]? = some x → ys[i]? = some y → F x y
theorem Each.mono {α β : Type} {F G : α → β → Prop} {xs : List α} {ys : List β} (e : Each F xs ys) (h : ∀ x y, F x y → G x y) : Each G xs ys := ⟨e.len, fun i x y a b => h x y (e.at_ i x y a b)⟩
theorem Each.nil {α β : Type} {F : α → β → Prop} : Each F [] [] := ⟨rfl, fun i x y a => by simp at a⟩
theorem Each.left {α β : Type} {F : α → β → Prop} {xs : List α} {ys : List β} (e : Each F xs ys) {i : Nat} {x : α} (h : xs[i]? = some x) : ∃ y, ys[i]? = some y ∧ F x y := by
  have hl : i < ys.length := by rw [← e.len]; exact (List.getElem?_eq_some_iff.mp h).1
  exact ⟨ys[i], List.getElem?_eq_getElem hl, e.at_ i x _ h (List.getElem?_eq_getElem hl)⟩
theorem Each.right {α β : Type} {F : α → β → Prop} {xs : List α} {ys : List β} (e : Each F xs ys) {i : Nat} {y : β} (h : ys[i]? = some y) : ∃ x, xs[i]? = some x ∧ F x y := by
  have hl : i < xs.length := by rw [e.len]; exact (List.getElem?_eq_some_iff.mp h).1
  exact ⟨xs[i], List.getElem?_eq_getElem hl, e.at_ i _ y (List.getElem?_eq_getElem hl) h⟩
theorem Each.set {α β : Type} {F : α → β → Prop} {xs : List α} {ys : List β} (e : Each F xs ys) (i : Nat) {x : α} {y : β} (h : F x y) : Each F (xs.set i x) (ys.set i y) := by
  refine ⟨by rw [List.length_set, List.length_set]; exact e.len, fun j a b ha hb => ?_⟩
  rw [List.getElem?_set] at ha hb
  by_cases c : i = j
  · subst c
    rw [if_pos rfl] at ha hb
    split at ha
    · split at hb
      · rw [← Option.some.inj ha, ← Option.some.inj hb]
        exact h
      · cases hb
    · cases ha
  · rw [if_neg c] at ha hb
    exact e.at_ j a b ha hb
theorem Each.snoc {α β : Type} {F : α → β → Prop} {xs : List α} {ys : List β} (e : Each F xs ys) {x : α} {y : β} (h : F x y) : Each F (xs ++ [x]) (ys ++ [y]) := by
  refine ⟨by rw [List.length_append, List.length_append, e.len]; rfl, fun j a b ha hb => ?_⟩
  by_cases c : j < xs.length
  · rw [List.getElem?_append_left c] at ha
    rw [List.getElem?_append_left (by rw [← e.len]; exact c)] at hb
    exact e.at_ j a b ha hb
  · rw [List.getElem?_append_right (by omega)] at ha
    rw [List.getElem?_append_right (by rw [← e.len]; omega), ← e.len] at hb
    cases q : j - xs.length with
    | zero =>
      rw [q] at ha hb
      have e1 : x = a := Option.some.inj ha
      have e2 : y = b := Option.some.inj hb
      rw [← e1, ← e2]
      exact h
    | succ n =>
      rw [q] at ha
      simp at ha
theorem Each.replicate {α β : Type} {F : α → β → Prop} {x : α} {y : β} (h : F x y) (n : Nat) : Each F (List.replicate n x) (List.replicate n y) := by
  refine ⟨by simp, fun j a b ha hb => ?_⟩
  rw [List.getElem?_replicate] at ha hb
  split at ha
  · rename_i c
    rw [if_pos c] at hb
    rw [← Option.some.inj ha, ← Option.some.inj hb]
    exact h
  · cases ha
/-! ### owners -/
/-- an owner's tuple -/
def ownE (o : Nat) : Int := if o = 0 then -1 else ((o - 1) / 4 : Nat)
def ownV (o : Nat) : Int := if o = 0 then -1 else ((o - 1) % 4 : Nat)
abbrev ownT (o : Nat) : List V := [.int (ownE o), .int (ownV o)]
theorem own_inj2 {o q : Nat} (h1 : ownE o = ownE q) (h2 : ownV o = ownV q) : o = q := by
  unfold ownE at h1
  unfold ownV at h2
  split at h1 <;> split at h1 <;> simp_all <;> omega
theorem ownE_of {e v : Nat} (h : v < 4) : ownE (Kex2.ownerOf e v) = e := by
  unfold ownE Kex2.ownerOf
  rw [if_neg (by omega)]
  congr 1
  omega
theorem ownV_of {e v : Nat} (h : v < 4) : ownV (Kex2.ownerOf e v) = v := by
  unfold ownV Kex2.ownerOf
  rw [if_neg (by omega)]
  congr 1
  omega
theorem ownT_of {e v : Nat} (h : v < 4) : ownT (Kex2.ownerOf e v) = [nI e, nI v] := by
  unfold ownT
  rw [ownE_of h, ownV_of h]
def ownD (o : Nat) : PyData := .tuple [.int (ownE o), .int (ownV o)]
theorem pair_eqv (a b c d : Int) : PyData.eqv (.tuple [.int a, .int b]) (.tuple [.int c, .int d]) = (decide (a = c) && decide (b = d)) := by
  simp only [PyData.eqv, PyData.eqvAll, Bool.and_true]
  rfl
theorem pair_shaped (a b : Int) : SeqAt.shaped (.tuple [.int a, .int b]) = true := by
  unfold SeqAt.shaped
  simp [PyData.canLay0, PyData.canLayAll0, PyData.depth, PyData.depthAll]
theorem own_eqv (o q : Nat) : PyData.eqv (ownD o) (ownD q) = decide (o = q) := by
  unfold ownD
  rw [pair_eqv]
  by_cases h : o = q
  · subst h
    simp
  · rw [decide_eq_false h]
    by_cases c : ownE o = ownE q
    · rw [decide_eq_false (fun z => h (own_inj2 c z)), Bool.and_false]
    · rw [decide_eq_false c, Bool.false_and]
theorem own_dp {K : PySem.W.Frag} {H : Hp} {t : Addr} {a b : Int} (h : SqT K H t [.int a, .int b]) : Dp K H (.ref t) (.tuple [.int a, .int b]) := .tup h (.cons (.int _) (.cons (.int _) .nil))
def OwnsT (K : PySem.W.Frag) (H : Hp) (x : V) (o : Nat) : Prop := ∃ t, x = .ref t ∧ SqT K H t (ownT o)
/-- a list of owners -/
def OwnL (K : PySem.W.Frag) (H : Hp) (l : Addr) (os : List Nat) : Prop := os.length = 100 ∧ ∃ xs, SqL K H l xs ∧ Each (OwnsT K H) xs os
theorem same_seqT {K : PySem.W.Frag} {H H' : Hp} {a : Addr} {xs : List V} (e : Same H H') (h : SqT K H a xs) : SqT K H' a xs := by
  rcases h with (h | ⟨o, h⟩) | h
  · exact .inl (.inl (e _ _ h))
  · exact .inl (.inr ⟨o, e _ _ h⟩)
  · exact .inr h
theorem OwnsT.same {K : PySem.W.Frag} {H H' : Hp} {x : V} {o : Nat} (e : Same H H') (h : OwnsT K H x o) : OwnsT K H' x o := let ⟨t, a, b⟩ := h; ⟨t, a, same_seqT e b⟩
theorem OwnL.same {K : PySem.W.Frag} {H H' : Hp} {l : Addr} {os : List Nat} (e : Same H H') (h : OwnL K H l os) : OwnL K H' l os := let ⟨n, xs, a, b⟩ := h; ⟨n, xs, e.seq a, b.mono fun _ _ => OwnsT.same e⟩
def spOwnedBy (K : PySem.W.Frag) : Sp := fun vs H Q _ => ∃ (l t : Addr) (os : List Nat) (q : Nat), vs = [.ref l, .ref t] ∧ OwnL K H l os ∧ SqT K H t (ownT q) ∧
  ∀ H' p, Same H H' → H p = none → H' p = some (.lst (nats (idxs os q))) → Q (.ref p) H'
section
variable {P : Program} {w : World} {K : PySem.W.Frag} {mg : Str → Option Value} {base : Heap}
theorem sc_owned_by : FnScope ["owners", "owner", "bucket", "one"] ["owners", "owner"] (defScope s_owned_by) := ⟨rfl, rfl, rfl, by decide +kernel, rfl, by decide +kernel, by decide +kernel⟩
theorem idxN_len (l : List Nat) (o n : Nat) : (idxN l o n).length ≤ n := by
  unfold idxN
  exact Nat.le_trans (List.length_filter_le _ _) (by simp)
theorem h_owned_by (T : Txt K mg) : Held P w K mg base 1 (He.ga K "owned_by") (spOwnedBy K) := by
  refine held_of (ps := ["owners", "owner"]) T.d_owned_by sc_owned_by (fun vs H Q E h => by obtain ⟨l, t, os, q, rfl, _⟩ := h; rfl) (fun _ _ _ _ _ _ us hl => match us, hl with | [_, _], _ => rfl) (fun cdv A outer s H vs Q E hr h => ?_)
  refine ⟨_, pss_one (ps_ret (pe_lc (own := [("bucket", 2), ("one", 3)]) (g := gTup K 2 (gCons (gName 2) (gCons (gName 3) gNil))) (tt := tTest (tOp (rEqD K) (tVar 3) (tVar 1))) (te := tVar 2) rfl sc_owned_by.nd (pi_enum rfl T.f_enumerate (pa_cons (pv 0) pa_nil)) (blkOk_by (own := [("bucket", 2), ("one", 3)]) (N := ["owners", "owner", "bucket", "one"]) (sc := defScope s_owned_by) (by decide +kernel))
    (fun _ _ _ _ _ => pg_tup rfl (pgs_cons (pg_name (i := 2) sc_owned_by.nd rfl (Or.inl rfl)) (pgs_cons (pg_name (i := 3) sc_owned_by.nd rfl (Or.inl rfl)) pgs_nil)))
    (fun _ _ _ _ _ => pts_one (pt_cmpR (op_eqD hr.units) (pv 3) (pv 1) (nomark _))) (fun _ _ _ _ _ => pv 2))), ?_⟩
  obtain ⟨l, t, os, q, rfl, ⟨h100, xs, hL, hE⟩, hT, k⟩ := h
  refine ⟨_, rfl, l, xs, rfl, hL, fun D hD => ?_⟩
  refine lc_it (walk_enum (K := K) (a := l) (xs := xs)) (fun i H1 => Same H H1 ∧ H1 D = some (.lst (nats (idxN os q i)))) ⟨same_new hD, upd_same⟩ (fun i H1 _ p => p.1.seq hL) ?_ ?_
  · rintro i x H1 H2 hi ⟨s1, hD1⟩ ⟨T0, y0, y, rfl, hT0, rfl, e0, hy⟩
    have e0' : y0 = nI i := (Option.some.inj e0).symm
    subst e0'
    obtain ⟨o, ho, t2, rfl, ht2⟩ := hE.left hy
    have s2 := s1.trans (same_new (o := .tup [nI i, .ref t2]) hT0)
    have hD2 : upd H1 T0 (.tup [nI i, .ref t2]) D = some (.lst (nats (idxN os q i))) := (same_new hT0) _ _ hD1
    have ho' : os[i]? = some o := ho
    have hnx := idxN_succ os q i
    refine ⟨T0, _, rfl, SqT.of upd_same, rfl, _, _, rfl, _, _, rfl, rfl, rfl, ?_⟩
    refine ⟨_, rfl, _, rfl, ownD o, ownD q, own_dp (same_seqT s2 ht2), own_dp (same_seqT s2 hT), pair_shaped _ _, pair_shaped _ _, _, rfl, ?_⟩
    rw [own_eqv]
    by_cases c : o = q
    · subst c
      rw [decide_eq_true rfl]
      refine iteT ⟨_, rfl, _, hD2, ?_, ?_, ?_⟩
      · rw [nats_len]
        have := idxN_len os o i
        have hi' : i < 100 := by rw [← h100, ← hE.len]; exact hi
        exact Nat.lt_of_le_of_lt (Nat.le_of_lt (Nat.lt_of_le_of_lt this hi')) (by decide)
      · exact same_upd s2 hD
      · rw [upd_same, hnx, if_pos ho', nats_app]
        rfl
    · rw [decide_eq_false c]
      refine iteF ⟨s2, ?_⟩
      rw [hD2, hnx, if_neg (fun z => c (by rw [ho'] at z; exact Option.some.inj z)), List.append_nil]
  · rintro H1 ⟨s1, hD1⟩
    refine k H1 D s1 hD ?_
    rw [hD1, hE.len]
    rfl
end
end Vb

set_option Elab.async false
set_option linter.all false
set_option maxRecDepth 100000
set_option maxHeartbeats 2000000
/-! given_up. -/
namespace Vb
open PySem PySem.Spec PyProof.Rows L2
/-- what the first k variants give up, variant by variant -/
def gcat (l : List Nat) (e : Nat) (goal : List Nat) (k : Nat) : List Nat := (List.range k).flatMap fun v => (idxs l (Kex2.ownerOf e v)).drop (goal.getD v 0)
theorem gcat_succ (l : List Nat) (e : Nat) (goal : List Nat) (k : Nat) : gcat l e goal (k + 1) = gcat l e goal k ++ (idxs l (Kex2.ownerOf e k)).drop (goal.getD k 0) := by
  unfold gcat
  rw [List.range_succ, List.flatMap_append]
  simp
theorem mem_gcat {l : List Nat} {e k i : Nat} {goal : List Nat} : i ∈ gcat l e goal k ↔ ∃ v, v < k ∧ i ∈ (idxs l (Kex2.ownerOf e v)).drop (goal.getD v 0) := by
  unfold gcat
  rw [List.mem_flatMap]
  constructor
  · rintro ⟨v, h1, h2⟩
    exact ⟨v, List.mem_range.mp h1, h2⟩
  · rintro ⟨v, h1, h2⟩
    exact ⟨v, List.mem_range.mpr h1, h2⟩
theorem gcat_nodup (l : List Nat) (e : Nat) (goal : List Nat) : ∀ k, (gcat l e goal k).Nodup
  | 0 => by simp [gcat]
  | k + 1 => by
    rw [gcat_succ, List.nodup_append]
    refine ⟨gcat_nodup l e goal k, (idxs_nodup _ _).sublist (List.drop_sublist _ _), fun a ha b hb e1 => ?_⟩
    subst e1
    obtain ⟨v, hv, h1⟩ := mem_gcat.mp ha
    have h2 := mem_idxs.mp (List.mem_of_mem_drop h1)
    have h3 := mem_idxs.mp (List.mem_of_mem_drop hb)
    rw [h2] at h3
    have := own_inj (Option.some.inj h3)
    omega
theorem gcat_perm (l : List Nat) (e : Nat) (goal : List Nat) : (gcat l e goal goal.length).Perm (giv l e goal) :=
  perm_of (gcat_nodup l e goal _) (givN_nodup l e _ goal) fun x => by
    unfold giv
    rw [mem_gcat, mem_givN]
theorem giv_sorted (l : List Nat) (e : Nat) (goal : List Nat) : (giv l e goal).Pairwise (· < ·) := List.pairwise_lt_range.filter _
theorem sorted_giv {l : List Nat} {e : Nat} {goal : List Nat} {ns : List Int} (h1 : ns.Perm ((gcat l e goal goal.length).map fun (n : Nat) => (n : Int))) (h2 : ns.Pairwise (· ≤ ·)) : ns.map V.int = nats (giv l e goal) := by
  have h3 : ns.Perm ((giv l e goal).map fun (n : Nat) => (n : Int)) := h1.trans ((gcat_perm l e goal).map _)
  have h4 : ((giv l e goal).map fun (n : Nat) => (n : Int)).Pairwise (· ≤ ·) := by
    rw [List.pairwise_map]
    exact (giv_sorted l e goal).imp fun h => by omega
  rw [List.Perm.eq_of_pairwise (fun x y _ _ h1 h2 => Int.le_antisymm h1 h2) h2 h4 h3, List.map_map]
  rfl
theorem idxs_len (l : List Nat) (o : Nat) : (idxs l o).length ≤ l.length := idxN_len l o l.length
theorem gcat_len (l : List Nat) (e : Nat) (goal : List Nat) : ∀ k, (gcat l e goal k).length ≤ k * l.length
  | 0 => by simp [gcat]
  | k + 1 => by
    rw [gcat_succ, List.length_append, List.length_drop, Nat.succ_mul]
    have h1 := gcat_len l e goal k
    have h2 := idxs_len l (Kex2.ownerOf e k)
    omega
theorem cut_drop (xs : List V) (t : Nat) : cutV xs (some (t : Int)) none = xs.drop t := by
  unfold cutV
  rw [HT.sIx_nat, HT.sIx_none]
  by_cases h : t ≤ xs.length
  · rw [Nat.min_eq_left h, List.take_of_length_le (by rw [List.length_drop]; exact Nat.le_refl _)]
  · rw [Nat.min_eq_right (by omega), List.drop_eq_nil_of_le (Nat.le_refl _), List.drop_eq_nil_of_le (by omega)]
    simp
theorem nats_drop (l : List Nat) (t : Nat) : (nats l).drop t = nats (l.drop t) := by
  show (l.map nI).drop t = (l.drop t).map nI
  rw [List.map_drop]
theorem getD_of {l : List Nat} {i x : Nat} (h : l[i]? = some x) : l.getD i 0 = x := by
  rw [List.getD_eq_getElem?_getD, h]
  rfl
def spGiven (K : PySem.W.Frag) : Sp := fun vs H Q _ => ∃ (l tl : Addr) (os : List Nat) (e : Nat) (goal : List Nat), vs = [.ref l, nI e, .ref tl] ∧ OwnL K H l os ∧ SqL K H tl (nats goal) ∧ goal.length ≤ 4 ∧
  ∀ H' p, Same H H' → H p = none → H' p = some (.lst (nats (giv os e goal))) → Q (.ref p) H'
section
variable {P : Program} {w : World} {K : PySem.W.Frag} {mg : Str → Option Value} {base : Heap}
theorem sc_given_up : FnScope ["owners", "experiment", "targets", "found", "variant", "target"] ["owners", "experiment", "targets"] (defScope s_given_up) := ⟨rfl, rfl, rfl, by decide +kernel, rfl, by decide +kernel, by decide +kernel⟩
theorem h_given_up (T : Txt K mg) : Held P w K mg base 2 (He.ga K "given_up") (spGiven K) := by
  refine held_of (ps := ["owners", "experiment", "targets"]) T.d_given_up sc_given_up (fun vs H Q E h => by obtain ⟨l, tl, os, e, goal, rfl, _⟩ := h; rfl) (fun _ _ _ _ _ _ us hl => match us, hl with | [_, _, _], _ => rfl) (fun cdv A outer s H vs Q E hr h => ?_)
  have nd := sc_given_up.nd
  refine ⟨_, pss_cons (ps_set (i := 3) nd rfl (Or.inl rfl) (pe_lst pa_nil))
    (pss_cons (ps_for PassesOwn.never rfl (pi_enum rfl T.f_enumerate (pa_cons (pv 2) pa_nil)) (pg_tup rfl (pgs_cons (pg_name (i := 4) nd rfl (Or.inl rfl)) (pgs_cons (pg_name (i := 5) nd rfl (Or.inl rfl)) pgs_nil)))
      (pss_one (ps_expr (pe_bm PySem.F.plainAttrs_list PySem.F.slot_list_extend PySem.F.type_list_extend mt_extend (pv 3)
        (pa_cons (pe_slice sl_list (pe_callH (h_owned_by T) hr T.g_owned_by (pa_cons (pv 0) (pa_cons (pe_tup (pa_cons (pv 1) (pa_cons (pv 4) pa_nil))) pa_nil))) (po_some (pv 5)) po_none) pa_nil)))))
    (pss_one (ps_ret (pe_callB cr_sortedI (by rfl) T.f_sorted (by decide +kernel) (pa_cons (pv 3) pa_nil))))), ?_⟩
  obtain ⟨l, tl, os, e, goal, rfl, hO, hG, h4, k⟩ := h
  have h100 := hO.1
  refine ⟨Nat.zero_le _, fun D hD => ?_⟩
  refine ⟨_, rfl, tl, _, rfl, (same_new hD).seq hG, ?_⟩
  refine for_it (walk_enum (K := K) (a := tl) (xs := nats goal)) (fun i σ H1 => ∃ v4 v5 : Option V, σ = [some (.ref l), some (nI e), some (.ref tl), some (.ref D), v4, v5] ∧ Same H H1 ∧ H1 D = some (.lst (nats (gcat os e goal i))))
    ⟨none, none, rfl, same_new hD, upd_same⟩ (fun i σ H1 _ p => by obtain ⟨_, _, _, s1, _⟩ := p; exact s1.seq hG) ?_ ?_
  · rintro i x σ H1 H2 hi ⟨v4, v5, rfl, s1, hD1⟩ ⟨T0, y0, y, rfl, hT0, rfl, e0, hy⟩
    have e0' : y0 = nI i := (Option.some.inj e0).symm
    subst e0'
    obtain ⟨t, ht, rfl⟩ := map_get hy
    have hi4 : i < 4 := by
      rw [nats_len] at hi
      omega
    have s2 := s1.trans (same_new (o := .tup [nI i, nI t]) hT0)
    have hD2 : upd H1 T0 (.tup [nI i, nI t]) D = some (.lst (nats (gcat os e goal i))) := (same_new hT0) _ _ hD1
    refine ⟨T0, _, rfl, SqT.of upd_same, rfl, _, _, rfl, _, _, rfl, rfl, ?_⟩
    refine ⟨_, rfl, .inl ⟨rfl, _, SqL.of hD2⟩, _, rfl, _, rfl, _, rfl, (by show 2 ≤ sizeLine; decide), fun p hp => ?_⟩
    have s3 := s2.trans (same_new (o := .tup [nI e, nI i]) hp)
    refine ⟨l, p, os, Kex2.ownerOf e i, rfl, hO.same s3, ?_, fun H3 q s4 hq hq2 => ?_⟩
    · rw [ownT_of hi4]
      exact SqT.of upd_same
    · refine ⟨_, rfl, _, rfl, ?_⟩
      refine ⟨q, _, rfl, SqL.of hq2, fun r hr2 => ?_⟩
      have hD3 : H3 D = some (.lst (nats (gcat os e goal i))) := s4 _ _ ((same_new hp) _ _ hD2)
      have s5 : Same H (upd H3 r (.lst (cutV (nats (idxs os (Kex2.ownerOf e i))) (some (t : Int)) none))) := (s3.trans s4).trans (same_new hr2)
      refine ⟨D, r, _, _, rfl, rfl, (same_new hr2) _ _ hD3, upd_same, ?_, ?_⟩
      · have h1 := gcat_len os e goal i
        have h2 := idxs_len os (Kex2.ownerOf e i)
        have h3 := cutV_length (nats (idxs os (Kex2.ownerOf e i))) (some (t : Int)) none
        rw [nats_len] at h3 ⊢
        have h5 : i * os.length ≤ 3 * 100 := by rw [h100]; exact Nat.mul_le_mul (by omega) (Nat.le_refl _)
        refine Nat.le_trans (show _ ≤ 400 by omega) (by decide)
      · refine ⟨_, _, rfl, same_upd s5 hD, ?_⟩
        rw [upd_same, cut_drop, nats_drop, gcat_succ, getD_of ht, nats_app]
  · rintro σ H1 ⟨v4, v5, rfl, s1, hD1⟩
    rw [nats_len] at hD1
    refine ⟨_, rfl, D, (gcat os e goal goal.length).map fun (n : Nat) => (n : Int), rfl, ?_, fun ns p hp1 hp2 hp3 => ?_⟩
    · rw [List.map_map]
      exact SqL.of hD1
    · refine k _ p (same_upd s1 (s1.free hp3)) (s1.free hp3) ?_
      rw [upd_same, sorted_giv hp1 hp2]
end
end Vb

set_option Elab.async false
set_option linter.all false
set_option maxRecDepth 100000
set_option maxHeartbeats 4000000
/-! reallocated, moved. -/
namespace Vb
open PySem PySem.Spec PyProof.Rows L2
/-- a tracked list of owners -/
def OwnM (K : PySem.W.Frag) (H : Hp) (l : Addr) (os : List Nat) : Prop := os.length = 100 ∧ ∃ xs, H l = some (.lst xs) ∧ Each (OwnsT K H) xs os
theorem OwnM.l {K : PySem.W.Frag} {H : Hp} {l : Addr} {os : List Nat} (h : OwnM K H l os) : OwnL K H l os := let ⟨n, xs, a, b⟩ := h; ⟨n, xs, SqL.of a, b⟩
theorem sqT_upd {K : PySem.W.Frag} {H : Hp} {x a : Addr} {o0 o : HO} {xs : List V} (h : H x = some o0) (n1 : ∀ ys, o0 ≠ .tup ys) (n2 : ∀ ob u, o0 ≠ .frz ob u) (s : SqT K H a xs) : SqT K (upd H x o) a xs := by
  rcases s with (s | ⟨ob, s⟩) | s
  · exact .inl (.inl (by rw [upd_ne (fun z => n1 xs (by rw [z, h] at s; exact Option.some.inj s))]; exact s))
  · exact .inl (.inr ⟨ob, by rw [upd_ne (fun z => n2 ob _ (by rw [z, h] at s; exact Option.some.inj s))]; exact s⟩)
  · exact .inr s
theorem sqT_updL {K : PySem.W.Frag} {H : Hp} {x a : Addr} {o : HO} {xs ys : List V} (h : H x = some (.lst ys)) (s : SqT K H a xs) : SqT K (upd H x o) a xs := sqT_upd h (fun _ z => by cases z) (fun _ _ z => by cases z) s
theorem ownsT_updL {K : PySem.W.Frag} {H : Hp} {x : Addr} {o : HO} {ys : List V} {y : V} {q : Nat} (h : H x = some (.lst ys)) (s : OwnsT K H y q) : OwnsT K (upd H x o) y q := let ⟨t, a, b⟩ := s; ⟨t, a, sqT_updL h b⟩
theorem ixN_nat {n j : Nat} (h : j < n) : ixN n (j : Int) = some j := by
  unfold ixN
  rw [if_pos (by omega), if_pos (by omega), Int.toNat_natCast]
theorem Each.setAll1 {K : PySem.W.Frag} {H : Hp} {xs : List V} {os : List Nat} (e : Each (OwnsT K H) xs os) {b o : Nat} {v : V} (h : OwnsT K H v o) : Each (OwnsT K H) (xs.set b v) (setAll os [b] o) := e.set b h
theorem spare_lt {l : List Nat} {e : Nat} {goal : List Nat} {i b : Nat} (h : (spare l e goal)[i]? = some b) : b < l.length := by
  have h1 := List.mem_of_getElem? h
  unfold spare giv at h1
  rcases List.mem_append.mp h1 with h2 | h2
  · obtain ⟨v, _, h3⟩ := givN_own h2
    exact (List.getElem?_eq_some_iff.mp h3).1
  · exact (List.getElem?_eq_some_iff.mp (mem_idxs.mp h2)).1
theorem fill_len (l : List Nat) (e : Nat) (goal : List Nat) : ∀ k, (fill l e goal k).length = l.length
  | 0 => setAll_length _ _ _
  | k + 1 => (setAll_length _ _ _).trans (fill_len l e goal k)
def spRealloc (K : PySem.W.Frag) : Sp := fun vs H Q _ => ∃ (l tl : Addr) (os : List Nat) (e : Nat) (goal : List Nat), vs = [.ref l, nI e, .ref tl] ∧ OwnL K H l os ∧ SqL K H tl (nats goal) ∧ goal.length ≤ 4 ∧ needs os e goal goal.length ≤ (spare os e goal).length ∧
  ∀ H' p, Same H H' → H p = none → OwnM K H' p (fill os e goal goal.length) → Q (.ref p) H'
section
variable {P : Program} {w : World} {K : PySem.W.Frag} {mg : Str → Option Value} {base : Heap}
theorem sc_reallocated : FnScope ["owners", "experiment", "targets", "found", "given", "free", "bucket", "spare", "taken", "variant", "target", "missing", "turn"] ["owners", "experiment", "targets"] (defScope s_reallocated) := ⟨rfl, rfl, rfl, by decide +kernel, rfl, by decide +kernel, by decide +kernel⟩
theorem h_reallocated (T : Txt K mg) : Held P w K mg base 3 (He.ga K "reallocated") (spRealloc K) := by
  refine held_of (ps := ["owners", "experiment", "targets"]) T.d_reallocated sc_reallocated (fun vs H Q E h => by obtain ⟨l, tl, os, e, goal, rfl, _⟩ := h; rfl) (fun _ _ _ _ _ _ us hl => match us, hl with | [_, _, _], _ => rfl) (fun cdv A outer s H vs Q E hr h => ?_)
  have nd := sc_reallocated.nd
  have hr1 : Room 1 _ := hr.mono (by decide)
  refine ⟨_, pss_cons (ps_set (i := 3) nd rfl (Or.inl rfl) (pe_callTy call_list_of (by rfl) T.f_list (by decide +kernel) (pa_cons (pv 0) pa_nil)))
    (pss_cons (ps_set (i := 4) nd rfl (Or.inl rfl) (pe_callH (h_given_up T) hr T.g_given_up (pa_cons (pv 0) (pa_cons (pv 1) (pa_cons (pv 2) pa_nil)))))
    (pss_cons (ps_set (i := 5) nd rfl (Or.inl rfl) (pe_callH (h_owned_by T) hr1 T.g_owned_by (pa_cons (pv 0) (pa_cons (pe_gr T.g_FREE) pa_nil))))
    (pss_cons (ps_for PassesOwn.never rfl (pi_list (pv 4)) (pg_name (i := 6) nd rfl (Or.inl rfl)) (pss_one (ps_asg (pe_gr T.g_FREE) (pg_sub (pv 3) (pv 6) set_list))))
    (pss_cons (ps_set (i := 7) nd rfl (Or.inl rfl) (pe_op op_cat (pv 4) (pv 5)))
    (pss_cons (ps_set (i := 8) nd rfl (Or.inl rfl) pe_int)
    (pss_cons (ps_for PassesOwn.never rfl (pi_enum rfl T.f_enumerate (pa_cons (pv 2) pa_nil)) (pg_tup rfl (pgs_cons (pg_name (i := 9) nd rfl (Or.inl rfl)) (pgs_cons (pg_name (i := 10) nd rfl (Or.inl rfl)) pgs_nil)))
      (pss_cons (ps_set (i := 11) nd rfl (Or.inl rfl) (pe_op op_sub (pv 10) (pe_callB call_len_seq (by rfl) T.f_len PySem.boot_len (pa_cons (pe_callH (h_owned_by T) hr1 T.g_owned_by (pa_cons (pv 0) (pa_cons (pe_tup (pa_cons (pv 1) (pa_cons (pv 9) pa_nil))) pa_nil))) pa_nil))))
      (pss_one (ps_for PassesOwn.never rfl (pi_range1 rfl T.f_range (pa_cons (pe_callB (call_max2 rfl) (by rfl) T.f_max (by decide +kernel) (pa_cons pe_int (pa_cons (pv 11) pa_nil))) pa_nil)) (pg_name (i := 12) nd rfl (Or.inl rfl))
        (pss_cons (ps_asg (pe_tup (pa_cons (pv 1) (pa_cons (pv 9) pa_nil))) (pg_sub (pv 3) (pe_ix ix_list (pv 7) (pv 8) (fun _ _ => rfl)) set_list))
        (pss_one (ps_aug (i := 8) nd rfl (Or.inl rfl) pe_int ip_add)))))))
    (pss_one (ps_ret (pv 3))))))))), ?_⟩
  obtain ⟨l, tl, os, e, goal, rfl, hO, hG, h4, hN, k⟩ := h
  have h100 := hO.1
  obtain ⟨_, xs0, hL0, hE0⟩ := hO
  have hO : OwnL K H l os := ⟨h100, xs0, hL0, hE0⟩
  -- found = list(owners)
  refine ⟨_, rfl, l, xs0, rfl, .inl hL0, fun F hF => ?_⟩
  have s1 : Same H (upd H F (.lst xs0)) := same_new hF
  -- given
  refine ⟨_, rfl, _, rfl, _, rfl, l, tl, os, e, goal, rfl, hO.same s1, s1.seq hG, h4, fun H2 G s2 hGn hG2 => ?_⟩
  -- free
  refine ⟨_, rfl, l, He.ga K "FREE", os, 0, rfl, hO.same (s1.trans s2), T.free_tup _, fun H3 R s3 hRn hR3 => ?_⟩
  have hF3 : H3 F = some (.lst xs0) := s3 _ _ (s2 _ _ upd_same)
  have hG3 : H3 G = some (.lst (nats (giv os e goal))) := s3 _ _ hG2
  have s13 : Same H H3 := (s1.trans s2).trans s3
  have nFG : G ≠ F := (ne_of_none (H := upd H F (.lst xs0)) (upd_same) hGn).symm
  have nFR : R ≠ F := (ne_of_none (H := H2) (s2 _ _ upd_same) hRn).symm
  -- for bucket in given: found[bucket] = FREE
  refine ⟨_, rfl, G, rfl, ⟨_, SqL.of hG3⟩, ?_⟩
  refine for_it (walk_list (K := K) (a := G) (xs := nats (giv os e goal))) (fun i σ H1 => ∃ vb : Option V, σ = [some (.ref l), some (nI e), some (.ref tl), some (.ref F), some (.ref G), some (.ref R), vb, none, none, none, none, none, none] ∧
      Same H H1 ∧ H1 G = some (.lst (nats (giv os e goal))) ∧ H1 R = some (.lst (nats (idxs os 0))) ∧ ∃ xs, H1 F = some (.lst xs) ∧ Each (OwnsT K H1) xs (setAll os ((giv os e goal).take i) 0))
    ⟨none, rfl, s13, hG3, hR3, xs0, hF3, hE0.mono fun _ _ h => h.same s13⟩ (fun i σ H1 _ p => by obtain ⟨_, _, _, h1, _⟩ := p; exact SqL.of h1) ?_ ?_
  · rintro i x σ H1 H1' hi ⟨vb, rfl, s4, g1, r1, xs, f1, ee⟩ ⟨rfl, hx⟩
    obtain ⟨b, hb, rfl⟩ := map_get hx
    have hb100 : b < 100 := by
      obtain ⟨v, _, h3⟩ := givN_own (List.mem_of_getElem? hb)
      rw [← h100]
      exact (List.getElem?_eq_some_iff.mp h3).1
    have hxl : xs.length = 100 := by rw [ee.len, setAll_length, h100]
    refine ⟨_, rfl, _, rfl, F, xs, _, b, rfl, rfl, f1, by rw [hxl]; exact ixN_nat hb100, ?_⟩
    refine ⟨_, rfl, same_upd s4 hF, by rw [upd_ne nFG]; exact g1, by rw [upd_ne nFR]; exact r1, _, upd_same, ?_⟩
    rw [take_snoc hb, setAll_append]
    refine (ee.mono fun _ _ h => ownsT_updL f1 h).setAll1 ⟨_, rfl, ?_⟩
    exact T.free_tup _
  · rintro σ H1 ⟨vb, rfl, s4, g1, r1, xs, f1, ee⟩
    rw [nats_len, List.take_length] at ee
    -- spare = given + free
    have lg : (giv os e goal).length ≤ 100 := by
      unfold giv givN
      rw [← h100]
      exact Nat.le_trans (List.length_filter_le _ _) (by simp)
    have lf : (idxs os 0).length ≤ 100 := by
      rw [← h100]
      exact idxs_len os 0
    refine ⟨_, rfl, _, rfl, G, R, _, _, rfl, rfl, g1, r1, ?_, fun S hS => ?_⟩
    · rw [nats_len, nats_len]
      exact Nat.le_trans (show _ ≤ 200 by omega) (by decide)
    have hS1 : upd H1 S (.lst (nats (giv os e goal) ++ nats (idxs os 0))) S = some (.lst (nats (spare os e goal))) := by
      rw [upd_same, ← nats_app]
      rfl
    generalize hHS : upd H1 S (.lst (nats (giv os e goal) ++ nats (idxs os 0))) = HS at hS1
    have s5 : Same H1 HS := by
      rw [← hHS]
      exact same_new hS
    have nSF : S ≠ F := (ne_of_none f1 hS).symm
    show tSeq _ _ _ _ _
    refine ⟨_, rfl, tl, _, rfl, (s4.trans s5).seq hG, ?_⟩
    refine for_it (walk_enum (K := K) (a := tl) (xs := nats goal)) (fun i σ H1 => ∃ v9 v10 v11 v12 : Option V, σ = [some (.ref l), some (nI e), some (.ref tl), some (.ref F), some (.ref G), some (.ref R), vb, some (.ref S), some (nI (needs os e goal i)), v9, v10, v11, v12] ∧
        Same H H1 ∧ H1 S = some (.lst (nats (spare os e goal))) ∧ ∃ xs, H1 F = some (.lst xs) ∧ Each (OwnsT K H1) xs (fill os e goal i))
      ⟨none, none, none, none, rfl, s4.trans s5, hS1, xs, s5 _ _ f1, ee.mono fun _ _ h => h.same s5⟩ (fun i σ H1 _ p => by obtain ⟨_, _, _, _, _, h1, _⟩ := p; exact h1.seq hG) ?_ ?_
    · rintro i x σ H2 H2' hi ⟨v9, v10, v11, v12, rfl, s6, hS2, xs2, f2, ee2⟩ ⟨T0, y0, y, rfl, hT0, rfl, e0, hy⟩
      have e0' : y0 = nI i := (Option.some.inj e0).symm
      subst e0'
      obtain ⟨t, ht, rfl⟩ := map_get hy
      have hin : i < goal.length := by
        rw [nats_len] at hi
        exact hi
      have hi4 : i < 4 := by omega
      have s7 : Same H2 (upd H2 T0 (.tup [nI i, nI t])) := same_new hT0
      refine ⟨T0, _, rfl, SqT.of upd_same, rfl, _, _, rfl, _, _, rfl, rfl, ?_⟩
      -- missing
      refine ⟨_, rfl, _, rfl, _, rfl, _, rfl, (by show 2 ≤ sizeLine; decide), fun p hp => ?_⟩
      have s8 := s7.trans (same_new (o := .tup [nI e, nI i]) hp)
      refine ⟨l, p, os, Kex2.ownerOf e i, rfl, hO.same (s6.trans s8), by rw [ownT_of hi4]; exact SqT.of upd_same, fun H3 q s9 hq hq2 => ?_⟩
      refine ⟨q, _, rfl, .inl (SqL.of hq2), _, _, rfl, rfl, ?_⟩
      have s10 := s8.trans s9
      have hnd : (if (t : Int) - ((nats (idxs os (Kex2.ownerOf e i))).length : Int) > 0 then (t : Int) - ((nats (idxs os (Kex2.ownerOf e i))).length : Int) else 0) = ((need os e goal i : Nat) : Int) := by
        unfold need
        rw [getD_of ht, nats_len]
        split <;> omega
      have hnl : need os e goal i ≤ 200 := by
        have h1 := needs_succ os e goal i
        have h2 := needs_le os e goal (show i + 1 ≤ goal.length from hin)
        have h3 : (spare os e goal).length ≤ 200 := by
          unfold spare
          rw [List.length_append]
          omega
        omega
      refine ⟨_, rfl, _, _, rfl, ?_⟩
      refine ⟨((need os e goal i : Nat) : Int), congrArg (fun z => [V.int z]) hnd, by omega, by omega, ?_⟩
      rw [Int.toNat_natCast]
      refine for_range (lo := 0) (n := need os e goal i) (fun j σ H1 => ∃ v12 : Option V, σ = [some (.ref l), some (nI e), some (.ref tl), some (.ref F), some (.ref G), some (.ref R), vb, some (.ref S), some (nI (needs os e goal i + j)), some (nI i), some (nI t), some (.int ((t : Int) - ((nats (idxs os (Kex2.ownerOf e i))).length : Int))), v12] ∧
          Same H H1 ∧ H1 S = some (.lst (nats (spare os e goal))) ∧ ∃ xs, H1 F = some (.lst xs) ∧ Each (OwnsT K H1) xs (setAll (fill os e goal i) (((spare os e goal).drop (needs os e goal i)).take j) (Kex2.ownerOf e i)))
        ⟨v12, rfl, s6.trans s10, s10 _ _ hS2, xs2, s10 _ _ f2, ee2.mono fun _ _ h => h.same s10⟩ ?_ ?_
      · rintro j σ H4 hj ⟨v12', rfl, s11, hS4, xs4, f4, ee4⟩
        refine ⟨_, rfl, _, rfl, (by show 2 ≤ sizeLine; decide), fun p2 hp2 => ?_⟩
        have s12 : Same H4 (upd H4 p2 (.tup [nI e, nI i])) := same_new hp2
        have hlt : needs os e goal i + j < (spare os e goal).length := by
          have h1 := needs_succ os e goal i
          have h2 := needs_le os e goal (show i + 1 ≤ goal.length from hin)
          omega
        obtain ⟨b, hb⟩ : ∃ b, (spare os e goal)[needs os e goal i + j]? = some b := ⟨_, List.getElem?_eq_getElem hlt⟩
        have hb100 : b < 100 := by
          rw [← h100]
          exact spare_lt hb
        have hbn : (nats (spare os e goal))[needs os e goal i + j]? = some (nI b) := by
          show ((spare os e goal).map nI)[needs os e goal i + j]? = _
          rw [List.getElem?_map, hb]
          rfl
        have hb2 : ((spare os e goal).drop (needs os e goal i))[j]? = some b := by
          rw [List.getElem?_drop]
          exact hb
        have hxl : xs4.length = 100 := by rw [ee4.len, setAll_length, fill_len, h100]
        refine ⟨_, rfl, _, rfl, _, rfl, S, _, _, _, rfl, rfl, SqL.of (s12 _ _ hS4), atI_nat hbn, ?_⟩
        refine ⟨F, xs4, _, b, rfl, rfl, s12 _ _ f4, by rw [hxl]; exact ixN_nat hb100, ?_⟩
        refine ⟨_, rfl, _, _, rfl, rfl, ?_⟩
        refine ⟨some (.int (0 + (j : Int))), ?_, same_upd (s11.trans s12) hF, by rw [upd_ne nSF]; exact s12 _ _ hS4, _, upd_same, ?_⟩
        · show _ = [some (V.ref l), some (nI e), some (V.ref tl), some (V.ref F), some (V.ref G), some (V.ref R), vb, some (V.ref S), some (nI (needs os e goal i + (j + 1))), some (nI i), some (nI t), _, _]
          have e9 : nI (needs os e goal i + (j + 1)) = V.int (((needs os e goal i + j : Nat) : Int) + 1) := congrArg V.int (by omega)
          rw [e9]
          rfl
        · rw [take_snoc hb2, setAll_append]
          refine (ee4.mono fun _ _ h => ownsT_updL (s12 _ _ f4) (h.same s12)).setAll1 ⟨_, rfl, ?_⟩
          rw [ownT_of hi4]
          exact sqT_updL (s12 _ _ f4) (SqT.of upd_same)
      · rintro σ H4 ⟨v12', rfl, s11, hS4, xs4, f4, ee4⟩
        exact ⟨some (nI i), some (nI t), some (.int ((t : Int) - ((nats (idxs os (Kex2.ownerOf e i))).length : Int))), v12', by rw [needs_succ], s11, hS4, xs4, f4, ee4⟩
    · rintro σ H2 ⟨v9, v10, v11, v12, rfl, s6, hS2, xs2, f2, ee2⟩
      rw [nats_len] at ee2
      exact ⟨_, rfl, k _ F s6 hF ⟨by rw [fill_len]; exact h100, xs2, f2, ee2⟩⟩
end
end Vb

set_option Elab.async false
set_option linter.all false
set_option maxRecDepth 100000
set_option maxHeartbeats 4000000
/-! moved, runs_of. -/
namespace Vb
open PySem PySem.Spec PyProof.Rows L2
def spMoved (K : PySem.W.Frag) : Sp := fun vs H Q _ => ∃ (l m : Addr) (a b : List Nat), vs = [.ref l, .ref m] ∧ OwnL K H l a ∧ OwnL K H m b ∧ ∀ H', Same H H' → Q (nI (Kex2.movedCount a b)) H'
/-- the runs in the heap -/
def RunT (K : PySem.W.Frag) (H : Hp) (x : V) (r : Nat × Nat × Nat) : Prop := ∃ t, x = .ref t ∧ SqT K H t [nI r.1, nI r.2.1, .int (ownE r.2.2), .int (ownV r.2.2)]
def spRuns (K : PySem.W.Frag) : Sp := fun vs H Q _ => ∃ (l : Addr) (a : List Nat), vs = [.ref l] ∧ OwnL K H l a ∧ ∀ H' p xs, Same H H' → H p = none → H' p = some (.lst xs) → Each (RunT K H') xs (Kex2.runs a) → xs.length ≤ 100 → Q (.ref p) H'
theorem RunT.same {K : PySem.W.Frag} {H H' : Hp} {x : V} {r : Nat × Nat × Nat} (e : Same H H') (h : RunT K H x r) : RunT K H' x r := let ⟨t, a, b⟩ := h; ⟨t, a, same_seqT e b⟩
section
variable {P : Program} {w : World} {K : PySem.W.Frag} {mg : Str → Option Value} {base : Heap}
theorem sc_moved : FnScope ["before", "behind", "bucket", "owner"] ["before", "behind"] (defScope s_moved) := ⟨rfl, rfl, rfl, by decide +kernel, rfl, by decide +kernel, by decide +kernel⟩
theorem h_moved (T : Txt K mg) : Held P w K mg base 1 (He.ga K "moved") (spMoved K) := by
  refine held_of (ps := ["before", "behind"]) T.d_moved sc_moved (fun vs H Q E h => by obtain ⟨l, m, a, b, rfl, _⟩ := h; rfl) (fun _ _ _ _ _ _ us hl => match us, hl with | [_, _], _ => rfl) (fun cdv A outer s H vs Q E hr h => ?_)
  have nd := sc_moved.nd
  refine ⟨_, pss_one (ps_ret (pe_callB call_len_seq (by rfl) T.f_len PySem.boot_len (pa_cons (pe_lc (own := [("bucket", 2), ("owner", 3)]) (g := gTup K 2 (gCons (gName 2) (gCons (gName 3) gNil))) (tt := tTest (tOp (rNeD K) (tVar 3) (tOp (rIxL K) (tVar 1) (tVar 2)))) (te := tVar 2) rfl nd (pi_enum rfl T.f_enumerate (pa_cons (pv 0) pa_nil)) (blkOk_by (own := [("bucket", 2), ("owner", 3)]) (N := ["before", "behind", "bucket", "owner"]) (sc := defScope s_moved) (by decide +kernel))
    (fun _ _ _ _ _ => pg_tup rfl (pgs_cons (pg_name (i := 2) nd rfl (Or.inl rfl)) (pgs_cons (pg_name (i := 3) nd rfl (Or.inl rfl)) pgs_nil)))
    (fun _ _ _ _ _ => pts_one (pt_cmpR (op_neD hr.units) (pv 3) (pe_ix ix_list (pv 1) (pv 2) (fun _ _ => rfl)) (nomark _))) (fun _ _ _ _ _ => pv 2)) pa_nil))), ?_⟩
  obtain ⟨l, m, a, b, rfl, ⟨ha, xs, hL, hE⟩, ⟨hb, ys, hM, hF⟩, k⟩ := h
  refine ⟨_, rfl, l, xs, rfl, hL, fun D hD => ?_⟩
  refine lc_it (walk_enum (K := K) (a := l) (xs := xs)) (fun i H1 => Same H H1 ∧ H1 D = some (.lst (nats (mvN a b i)))) ⟨same_new hD, upd_same⟩ (fun i H1 _ p => p.1.seq hL) ?_ ?_
  · rintro i x H1 H2 hi ⟨s1, hD1⟩ ⟨T0, y0, y, rfl, hT0, rfl, e0, hy⟩
    have e0' : y0 = nI i := (Option.some.inj e0).symm
    subst e0'
    obtain ⟨o, ho, t2, rfl, ht2⟩ := hE.left hy
    have hi' : i < 100 := by rw [← ha, ← hE.len]; exact hi
    obtain ⟨q, hq⟩ : ∃ q, b[i]? = some q := ⟨_, List.getElem?_eq_getElem (by omega)⟩
    obtain ⟨y3, hy3, t3, rfl, ht3⟩ := hF.right hq
    have s2 := s1.trans (same_new (o := .tup [nI i, .ref t2]) hT0)
    have hD2 : upd H1 T0 (.tup [nI i, .ref t2]) D = some (.lst (nats (mvN a b i))) := (same_new hT0) _ _ hD1
    have ho' : a[i]? = some o := ho
    have hnx := mvN_succ a b i
    refine ⟨T0, _, rfl, SqT.of upd_same, rfl, _, _, rfl, _, _, rfl, rfl, rfl, ?_⟩
    refine ⟨_, rfl, _, rfl, _, rfl, m, ys, _, _, rfl, rfl, s2.seq hM, atI_nat hy3, ownD o, ownD q, own_dp (same_seqT s2 ht2), own_dp (same_seqT s2 ht3), pair_shaped _ _, pair_shaped _ _, _, rfl, ?_⟩
    rw [own_eqv]
    by_cases c : o = q
    · rw [decide_eq_true c]
      refine iteF ⟨s2, ?_⟩
      rw [hD2, hnx, if_pos (by rw [ho', hq, c]), List.append_nil]
    · rw [decide_eq_false c]
      refine iteT ⟨_, rfl, _, hD2, ?_, ?_, ?_⟩
      · rw [nats_len]
        have := mvN_len a b i
        exact Nat.lt_of_le_of_lt (Nat.le_of_lt (Nat.lt_of_le_of_lt this hi')) (by decide)
      · exact same_upd s2 hD
      · rw [upd_same, hnx, if_neg (fun z => c (by rw [ho', hq] at z; exact Option.some.inj z)), nats_app]
        rfl
  · rintro H1 ⟨s1, hD1⟩
    refine ⟨D, _, rfl, .inl (SqL.of hD1), ?_⟩
    have e : ((nats (mvN a b xs.length)).length : Int) = ((Kex2.movedCount a b : Nat) : Int) := by
      rw [nats_len, moved_eq (by omega), hE.len]
    have k2 := k H1 s1
    rw [show nI (Kex2.movedCount a b) = V.int ((nats (mvN a b xs.length)).length : Int) from congrArg V.int e.symm] at k2
    exact k2
theorem sc_runs_of : FnScope ["owners", "found", "bucket", "first"] ["owners"] (defScope s_runs_of) := ⟨rfl, rfl, rfl, by decide +kernel, rfl, by decide +kernel, by decide +kernel⟩
theorem h_runs_of (T : Txt K mg) : Held P w K mg base 1 (He.ga K "runs_of") (spRuns K) := by
  refine held_of (ps := ["owners"]) T.d_runs_of sc_runs_of (fun vs H Q E h => by obtain ⟨l, a, rfl, _⟩ := h; rfl) (fun _ _ _ _ _ _ us hl => match us, hl with | [_], _ => rfl) (fun cdv A outer s H vs Q E hr h => ?_)
  have nd := sc_runs_of.nd
  refine ⟨_, pss_cons (ps_set (i := 1) nd rfl (Or.inl rfl) (pe_lst pa_nil)) (pss_cons (ps_set (i := 2) nd rfl (Or.inl rfl) pe_int)
    (pss_cons (ps_while PassesOwn.never (pt_cmpR op_lt (pv 2) (pe_callB call_len_seq (by rfl) T.f_len PySem.boot_len (pa_cons (pv 0) pa_nil)) (nomark _))
      (pss_cons (ps_set (i := 3) nd rfl (Or.inl rfl) (pv 2))
      (pss_cons (ps_while PassesOwn.never (PW.pt (pw_and (pt_cmpR op_lt (pv 2) (pe_callB call_len_seq (by rfl) T.f_len PySem.boot_len (pa_cons (pv 0) pa_nil)) (nomark _)) (pw_and1 (pt_cmpR (op_eqD hr.units) (pe_ix ix_list (pv 0) (pv 2) (fun _ _ => rfl)) (pe_ix ix_list (pv 0) (pv 3) (fun _ _ => rfl)) (nomark _)))))
          (pss_one (ps_aug (i := 2) nd rfl (Or.inl rfl) pe_int ip_add)))
      (pss_one (ps_if (pt_cmpR (op_neD hr.units) (pe_ix ix_list (pv 0) (pv 3) (fun _ _ => rfl)) (pe_gr T.g_FREE) (nomark _))
        (pss_one (ps_expr (pe_bm PySem.F.plainAttrs_list PySem.F.slot_list_append PySem.F.type_list_append mt_append (pv 1) (pa_cons (pe_tup (pa_cons (pv 3) (pa_cons (pe_op op_sub (pv 2) (pv 3))
          (pa_cons (pe_ix ix_tup (pe_ix ix_list (pv 0) (pv 3) (fun _ _ => rfl)) pe_int (fun _ _ => rfl)) (pa_cons (pe_ix ix_tup (pe_ix ix_list (pv 0) (pv 3) (fun _ _ => rfl)) pe_int (fun _ _ => rfl)) pa_nil))))) pa_nil))))
        pss_nil)))))
    (pss_one (ps_ret (pv 1))))), ?_⟩
  obtain ⟨l, a, rfl, ⟨ha, xs, hL, hE⟩, k⟩ := h
  refine ⟨Nat.zero_le _, fun D hD => ?_⟩
  refine ⟨fun m σ H1 => ∃ (b : Nat) (v3 : Option V) (acc : List (Nat × Nat × Nat)) (zs : List V), m = 100 - b ∧ b ≤ 100 ∧ σ = [some (.ref l), some (.ref D), some (nI b), v3] ∧ Same H H1 ∧ H1 D = some (.lst zs) ∧ Each (RunT K H1) zs acc.reverse ∧ zs.length ≤ b ∧ runF (a.take b) = (b, acc) ∧ Ahead a b acc,
    ⟨100, 0, none, [], [], rfl, Nat.zero_le _, rfl, same_new hD, upd_same, Each.nil, Nat.le_refl _, rfl, fun _ _ _ _ z => by cases z⟩, ?_⟩
  rintro m σ H1 ⟨b0, v3, acc, zs, rfl, hb0, rfl, s1, hD1, hZ, hzl, hr1, hah⟩
  refine ⟨_, rfl, _, rfl, l, xs, rfl, .inl (s1.seq hL), _, _, rfl, rfl, _, rfl, ?_⟩
  rw [hE.len, ha]
  by_cases c : b0 < 100
  · rw [decide_eq_true (show (b0 : Int) < ((100 : Nat) : Int) by omega)]
    refine iteT ⟨_, fun σ' H' h => h, ?_⟩
    obtain ⟨o, ho⟩ : ∃ o, a[b0]? = some o := ⟨_, List.getElem?_eq_getElem (by omega)⟩
    obtain ⟨y, hy, t, rfl, ht⟩ := hE.right ho
    refine ⟨_, rfl, ?_⟩
    -- while bucket < len(owners) and owners[bucket] == owners[first]
    refine ⟨fun m σ H2 => ∃ b : Nat, m = 100 - b ∧ b0 ≤ b ∧ b ≤ 100 ∧ σ = [some (.ref l), some (.ref D), some (nI b), some (nI b0)] ∧ H2 = H1 ∧ runF (a.take b) = (b, runAcc b0 b o acc), ⟨_, b0, rfl, Nat.le_refl _, hb0, rfl, rfl, by rw [runAcc_self]; exact hr1⟩, ?_⟩
    rintro m2 σ2 H2 ⟨b, rfl, hb1, hb2, rfl, rfl, hr2⟩
    -- what follows the inner loop
    have behind : b0 < b → a[b]? ≠ some o → (∀ D0 : Ends, (∀ σ' H', (∃ m', m' < 100 - b0 ∧ ∃ (b : Nat) (v3 : Option V) (acc : List (Nat × Nat × Nat)) (zs : List V), m' = 100 - b ∧ b ≤ 100 ∧ σ' = [some (.ref l), some (.ref D), some (nI b), v3] ∧ Same H H' ∧ H' D = some (.lst zs) ∧ Each (RunT K H') zs acc.reverse ∧ zs.length ≤ b ∧ runF (a.take b) = (b, acc) ∧ Ahead a b acc) → D0.nx σ' H') →
        tIfS (tTest (tOp (rNeD K) (tOp (rIxL K) (tVar 0) (tVar 3)) (tC (.ref (He.ga K "FREE"))))) (tDrop (tBM K "list" rAppend (tVar 1) (tCons (tTup (tCons (tVar 3) (tCons (tOp (rI0 fun i j => .int (i - j)) (tVar 2) (tVar 3)) (tCons (tOp (rIxT K) (tOp (rIxL K) (tVar 0) (tVar 3)) (tC (.int 0))) (tCons (tOp (rIxT K) (tOp (rIxL K) (tVar 0) (tVar 3)) (tC (.int 1))) tNil))))) tNil))) tNext D0 [some (.ref l), some (.ref D), some (nI b), some (nI b0)] H2) := by
      intro hlt hne D0 hD0
      have hA := ahead_next hlt hah hne
      refine ⟨_, rfl, _, rfl, l, xs, _, _, rfl, rfl, s1.seq hL, atI_nat hy, ownD o, ownD 0, own_dp (same_seqT s1 ht), own_dp (T.free_tup _), pair_shaped _ _, pair_shaped _ _, _, rfl, ?_⟩
      rw [own_eqv]
      by_cases c0 : o = 0
      · rw [decide_eq_true c0]
        subst c0
        rw [runAcc_free hlt] at hr2 hA
        exact iteF (hD0 _ _ ⟨_, by omega, b, _, acc, zs, rfl, hb2, rfl, s1, hD1, hZ, by omega, hr2, hA⟩)
      · rw [decide_eq_false c0]
        rw [runAcc_own hlt c0] at hr2 hA
        refine iteT ⟨_, rfl, .inl ⟨rfl, _, SqL.of hD1⟩, ?_⟩
        refine ⟨_, rfl, _, rfl, _, rfl, _, _, rfl, rfl, _, rfl, _, rfl, l, xs, _, _, rfl, rfl, s1.seq hL, atI_nat hy, t, _, 0, _, rfl, rfl, same_seqT s1 ht, rfl, _, rfl, _, rfl, l, xs, _, _, rfl, rfl, s1.seq hL, atI_nat hy, t, _, 1, _, rfl, rfl, same_seqT s1 ht, rfl, (by show 4 ≤ sizeLine; decide), fun p hp => ?_⟩
        have s2 : Same H2 (upd H2 p (.tup [nI b0, .int ((b : Int) - (b0 : Int)), .int (ownE o), .int (ownV o)])) := same_new hp
        refine ⟨D, zs, _, rfl, rfl, s2 _ _ hD1, Nat.lt_of_le_of_lt (show zs.length ≤ 100 by omega) (by decide), ?_⟩
        refine hD0 _ _ ⟨_, by omega, b, _, _, _, rfl, hb2, rfl, same_upd (s1.trans s2) hD, upd_same, ?_, ?_, hr2, hA⟩
        · rw [List.reverse_cons]
          have e3 : (b : Int) - (b0 : Int) = ((b - b0 : Nat) : Int) := by omega
          refine (hZ.mono fun x r h => ?_).snoc ⟨p, rfl, ?_⟩
          · obtain ⟨t0, e0, h0⟩ := h
            exact ⟨t0, e0, sqT_updL (s2 _ _ hD1) (same_seqT s2 h0)⟩
          · rw [show nI (b0, b - b0, o).2.1 = V.int ((b : Int) - (b0 : Int)) from congrArg V.int e3.symm]
            exact sqT_updL (s2 _ _ hD1) (SqT.of upd_same)
        · rw [List.length_append]
          show zs.length + 1 ≤ b
          omega
    refine ⟨_, rfl, _, rfl, l, xs, rfl, .inl (s1.seq hL), _, _, rfl, rfl, _, rfl, ?_⟩
    rw [hE.len, ha]
    by_cases cb : b < 100
    · rw [decide_eq_true (show (b : Int) < ((100 : Nat) : Int) by omega)]
      refine iteT ?_
      obtain ⟨o2, ho2⟩ : ∃ o2, a[b]? = some o2 := ⟨_, List.getElem?_eq_getElem (by omega)⟩
      obtain ⟨y2, hy2, t2, rfl, ht2⟩ := hE.right ho2
      refine ⟨_, rfl, _, rfl, l, xs, _, _, rfl, rfl, s1.seq hL, atI_nat hy2, _, rfl, _, rfl, l, xs, _, _, rfl, rfl, s1.seq hL, atI_nat hy, ownD o2, ownD o, own_dp (same_seqT s1 ht2), own_dp (same_seqT s1 ht), pair_shaped _ _, pair_shaped _ _, _, rfl, ?_⟩
      rw [own_eqv]
      by_cases co : o2 = o
      · subst co
        rw [decide_eq_true rfl]
        refine iteT ⟨_, fun σ' H' h => h, ?_⟩
        refine ⟨_, rfl, _, _, rfl, rfl, 100 - (b + 1), by omega, b + 1, rfl, by omega, by omega, rfl, rfl, ?_⟩
        by_cases cf : b = b0
        · subst cf
          exact run_first ho hah hr1
        · exact run_next ho2 (by omega) hah hr2
      · rw [decide_eq_false co]
        refine iteF (behind ?_ (fun z => co ?_) _ fun σ' H' h => h)
        · by_cases cf : b = b0
          · subst cf
            rw [ho] at ho2
            exact absurd (Option.some.inj ho2).symm co
          · omega
        · rw [ho2] at z
          exact Option.some.inj z
    · rw [decide_eq_false (show ¬ (b : Int) < ((100 : Nat) : Int) by omega)]
      refine iteF (iteF (behind (by omega) (fun z => ?_) _ fun σ' H' h => h))
      have := (List.getElem?_eq_some_iff.mp z).1
      omega
  · rw [decide_eq_false (show ¬ (b0 : Int) < ((100 : Nat) : Int) by omega)]
    refine iteF ⟨_, rfl, ?_⟩
    have e100 : b0 = 100 := by omega
    subst e100
    rw [List.take_of_length_le (by omega)] at hr1
    refine k _ D zs s1 hD hD1 ?_ hzl
    rw [runs_def, hr1]
    exact hZ
end
end Vb

set_option Elab.async false
set_option linter.all false
set_option maxRecDepth 100000
set_option maxHeartbeats 4000000
/-! A lambda of one parameter: entered, called. -/
namespace Vb
open PySem PySem.Spec PyProof.Rows L2
/-- one parameter, no name of its own besides: captured ones and globals -/
structure LamP (sc scope : Scope) (p : Str) : Prop where
  kind : scope.kind = .function
  co : scope.isCoroutine = false
  gen : scope.isGenerator = false
  own : ∀ y ∈ scope.names, y.2 ≠ .cell ∧ (y.2 = .local → y.1 = p)
  free : ∀ y ∈ scope.names, y.2 = .free → sc.names.lookup y.1 = some .cell ∨ sc.names.lookup y.1 = some .free
  par : scope.names.lookup p = some .local
def lamPB (sc scope : Scope) (p : Str) : Bool :=
  decide (scope.kind = .function) && !scope.isCoroutine && !scope.isGenerator && (scope.names.all fun y => !decide (y.2 = .cell) && (!decide (y.2 = .local) || decide (y.1 = p)) && (!decide (y.2 = .free) || decide (sc.names.lookup y.1 = some .cell) || decide (sc.names.lookup y.1 = some .free))) && decide (scope.names.lookup p = some .local)
theorem lamP_by {sc scope : Scope} {p : Str} (h : lamPB sc scope p = true) : LamP sc scope p := by
  unfold lamPB at h
  simp only [Bool.and_eq_true, Bool.or_eq_true, Bool.not_eq_true', decide_eq_true_eq, decide_eq_false_iff_not, List.all_eq_true] at h
  obtain ⟨⟨⟨⟨h1, h2⟩, h3⟩, h4⟩, h5⟩ := h
  refine ⟨h1, h2, h3, fun y hy => ⟨(h4 y hy).1.1, fun e => ?_⟩, fun y hy e => ?_, h5⟩
  · rcases (h4 y hy).1.2 with z | z
    · exact absurd e z
    · exact z
  · rcases (h4 y hy).2 with (z | z) | z
    · exact absurd e z
    · exact .inl z
    · exact .inr z
theorem LamP.has {X : Cx} {scope : Scope} {p : Str} (L : LamP X.env.scope scope p) (ok : X.Ok) : ∀ y ∈ scope.names, y.2 = .free → ∃ c, X.env.cells.lookup y.1 = some c := fun y hy e => by
  rcases L.free y hy e with k | k
  · exact ok.has _ (.inl k)
  · exact ok.has _ (.inr k)
section
variable {X : Cx} {pins : List (Addr × Obj)} {σ : L2.St} {H : Hp} {s : Shared}
theorem lam_start1 {A : Around} {outer : List Env} {E : XK} {scope : Scope} {f c' : Addr} {h₁ : Heap} {tk i : Nat} {p : Str} {v : V} {u : Value} (I : Inv X pins σ H s) (L : LamP X.env.scope scope p) (hNd : X.N.Nodup) (hp : X.N[i]? = some p)
    (e0 : Env0 X.prog X.w X.K X.mg X.base A outer s H) (hd : A.handled = none) (r : RelV v u)
    (hns : h₁.Ns s.heap.objs.size fun y => ([(p, u)] : List (Str × Value)).reverse.lookup y) (kp : ∀ b o, s.heap.get? b = some o → h₁.get? b = some o) :
    Inv (LamX.lamCx X A outer s H E scope f c') [] (σ.set i (some v)) H { s with heap := h₁, toks := tk } := by
  have hfree := L.has I.ok
  have cm : ∀ {y c}, (cloFrom X.env.cells scope.names []).lookup y = some c → X.env.cells.lookup y = some c := fun {y c} e => by
    rcases cloFrom_mem (PySem.mem_of_lookup e) with hm | ⟨h1, h2⟩
    · cases hm
    · obtain ⟨c1, hc⟩ := hfree _ h1 rfl
      have hc : X.env.cells.lookup y = some c1 := hc
      have e2 : c = c1 := by
        rw [h2, hc] <;> rfl
      rw [e2]
      exact hc
  have look : ∀ {y}, scope.names.lookup y = some .free → ∃ c, (cloFrom X.env.cells scope.names []).lookup y = some c := fun {y} hl => by
    have hy : (y, NameKind.free) ∈ scope.names := PySem.mem_of_lookup hl
    exact mem_lookup (cloFrom_has (cells := X.env.cells) (acc := []) hy)
  have cellK : ∀ {c : Addr} {v : Option Value}, s.heap.IsCell c v → h₁.IsCell c v := fun {c v} ⟨o, ho, hd⟩ => ⟨_, kp _ _ ho, hd⟩
  have noA : ∀ b : Addr, b ∉ (LamX.lamCx X A outer s H E scope f c').ex := fun b z => absurd (show b ∈ ([] : List Addr) from z) (by simp)
  have hi : i < σ.length := by
    rw [I.len]
    exact (List.getElem?_eq_some_iff.mp hp).1
  refine ⟨⟨e0.mod, L.kind, rfl, rfl, Nat.le_refl _, fun y z c e1 e2 => I.ok.inj y z c (cm e1) (cm e2), fun y hy => ?_, fun y c z _ => ?_, fun _ => hd, Around.frames_deeper e0.frames, .inr ⟨rfl, rfl⟩, fun b z => absurd z (noA b), e0.bs, e0.bsz, fun b _ _ => noA b,
      fun b z => absurd z (noA b), e0.funs, e0.frf⟩,
    rfl, e0.bare, Un.kept kp, ⟨_, hns, fun j y v' e1 e2 e3 => ?_⟩, fun y c e => ?_, e0.hok.fresh (Nat.le_refl _), fun y c e => ?_, fun q hq => absurd (show q ∈ ([] : List (Addr × Obj)) ++ [] from hq) (by simp), e0.hok.kept kp, (List.length_set ..).trans I.len⟩
  · have hy : scope.names.lookup y = some .cell ∨ scope.names.lookup y = some .free := hy
    rcases hy with hy | hy
    · exact absurd rfl (L.own _ (PySem.mem_of_lookup hy)).1
    · exact look hy
  · have z : false = true := z
    cases z
  · have e3 : Vis scope y := e3
    have e1 : X.N[j]? = some y := e1
    rcases e3 with k | k | k
    · have ey : y = p := (L.own _ (PySem.mem_of_lookup k)).2 rfl
      subst ey
      have ej : i = j := nodup_ix hNd hp e1
      subst ej
      rw [List.getElem?_set_self hi] at e2
      cases e2
      refine ⟨u, r, .inl ⟨k, ?_⟩⟩
      show ([(y, u)] : List (Str × Value)).lookup y = some u
      simp
    · exact absurd rfl (L.own _ (PySem.mem_of_lookup k)).1
    · have nj : i ≠ j := fun z => by
        subst z
        rw [hp] at e1
        have ey : p = y := Option.some.inj e1
        subst ey
        rw [L.par] at k
        cases k
      rw [List.getElem?_set_ne nj] at e2
      obtain ⟨m, hn, hl⟩ := I.loc
      have hvis : Vis X.env.scope y := (L.free _ (PySem.mem_of_lookup k) rfl).elim (fun k => .inr (.inl k)) (fun k => .inr (.inr k))
      obtain ⟨w', r', q⟩ := hl j y v' e1 e2 hvis
      obtain ⟨c2, h2⟩ := look k
      refine ⟨w', r', .inr ⟨.inr k, c2, h2, ?_⟩⟩
      have c1 := cm h2
      rcases q with ⟨k', _⟩ | ⟨_, c3, e', z⟩
      · have k' : X.env.scope.names.lookup y = some .local := k'
        rcases L.free _ (PySem.mem_of_lookup k) rfl with k2 | k2 <;> rw [show X.env.scope.names.lookup y = _ from k2] at k' <;> cases k'
      · rw [c1] at e'
        cases e'
        exact cellK z
  · obtain ⟨w', z⟩ := I.cell y c (cm e)
    exact ⟨w', cellK z⟩
  · exact I.freeC y c (cm e)
/-- its call, from a state that the def's own invariant describes -/
theorem lam_call1 {A : Around} {k i : Nat} {scope : Scope} {params : Arguments} {body : Expr} {f c' : Addr} {pm ctv : Value} {p : Str} {v : V} {u : Value} {tb : TE} {Q : VK} (I : Inv X pins σ H s) (L : LamP X.env.scope scope p) (hNd : X.N.Nodup) (hp : X.N[i]? = some p)
    (e0 : Env0 X.prog X.w X.K X.mg X.base A X.stack s H) (hr : Room (k + 1) A) (r : RelV v u)
    (hf : s.heap.get? f = some (PySem.W.kla_obj "<lambda>" (X.env.qual ++ "<lambda>") params body scope (cloFrom X.env.cells scope.names []) pm c' ctv)) (hco : H c' = some (LamX.CodeO c' (X.env.qual ++ "<lambda>")))
    (hbind : bindArgs (PySem.W.kla_fn "<lambda>" (X.env.qual ++ "<lambda>") params body scope (cloFrom X.env.cells scope.names []) pm (.ref c') ctv) ⟨[u], []⟩ = pure [(p, u)])
    (hbody : PE (LamX.lamCx X A X.stack s H C8.E0 scope f c') body tb) (ht : tb (σ.set i (some v)) H Q) :
    codeAny (model X.prog X.w) A (.call (.ref f) ⟨[u], []⟩) (CR (L2.CX X.prog X.w) X.stack X.prog X.w H s Q C8.E0) s := by
  obtain ⟨⟨oc, vs, t, hoc, hdc, hvc⟩, _, _⟩ := I.hok c' _ hco
  refine PySem.W.kla_callFunE hr.depth hf rfl L.co L.gen rfl ⟨c', oc, vs, t, rfl, hoc, hdc, hvc⟩ ?_
  rw [hbind]
  refine wpAny_pure (wpAny_newFunctionEnv (fun y hy => (L.own y hy).1) (fun y hy => ?_) (fun h₁ hns hsb => ⟨I.nolimit.fresh _ hsb, ?_⟩) L.kind)
  · have ey : y = (p, u) := by simpa using hy
    rw [ey]
    exact L.par
  · show codeAny _ _ (.expr body (LamX.lamEnv X scope s.heap.objs.size f c')) _ _
    have kp : ∀ b o, s.heap.get? b = some o → h₁.get? b = some o := fun b o e => hsb.extBut b o (Nat.ne_of_lt (Heap.lt_size e)) (Heap.get?_push_of_some _ e)
    have J : Inv (LamX.lamCx X A X.stack s H C8.E0 scope f c') [] (σ.set i (some v)) H { s with heap := h₁, toks := s.toks + ([(p, u)] : List (Str × Value)).length } := lam_start1 I L hNd hp e0 hr.hd r hns kp
    refine PySem.W.kla_codeExpr (wpAny_mono (hbody.run [] _ _ H Q J ht) (fun v s' hq => ?_) fun e s' hq => hq)
    obtain ⟨w', H', J', rv, q⟩ := hq
    exact ⟨w', H', J'.os, J'.bare, J'.base, J'.hok, rv, q⟩
end
end Vb

set_option Elab.async false
set_option linter.all false
set_option maxRecDepth 100000
set_option maxHeartbeats 4000000
/-! list.sort(key=f), f's keys pairs of ints made by a call. -/
namespace Vb
open PySem PySem.Spec PyProof.Rows L2
/-- the pair of ints that stands at a value -/
def kfOf (h : Heap) (v : Value) : Int × Int := match v with
  | .ref a => (match h.get? a with
    | some ⟨_, _, .seq its _, _⟩ => (match its.toList with
      | [.int x _, .int y _] => (x, y)
      | _ => (0, 0))
    | _ => (0, 0))
  | _ => (0, 0)
theorem kfOf_pair {h : Heap} {v : Value} {x y : Int} (p : Srt.IsPair h v x y) : kfOf h v = (x, y) := by
  obtain ⟨a, o, t, u, n, e, ho, hc, hd⟩ := p
  subst e
  obtain ⟨oc, od, dt, sl⟩ := o
  have hd' : dt = .seq #[.int x t, .int y u] n := hd
  subst hd'
  show (match h.get? a with
    | some ⟨_, _, .seq its _, _⟩ => (match its.toList with
      | [.int x _, .int y _] => (x, y)
      | _ => (0, 0))
    | _ => (0, 0)) = (x, y)
  rw [ho]
def nmV (v : Value) : Nat := match v with
  | .int i _ => i.toNat
  | _ => 0
section
variable {X : Cx} {pins : List (Addr × Obj)} {σ : L2.St} {H : Hp} {s : Shared}
theorem Inv.upd1 {H' : Hp} {s' : Shared} {b : Addr} {g : Array Value → Array Value} (I : Inv X pins σ H' s') (fb : FpOk X pins H' b) : Inv X pins σ H' { s' with heap := s'.heap.update b (Obj.mapSeq g) } := by
  obtain ⟨f0, f1, f2, f3, f4, f5⟩ := fb
  exact I.turned (t' := s'.toks) (fun c o hc e => (Heap.get?_update_ne _ _ _ _ hc).trans e) f0 f1 f3 f4 f5
/-- what a key's call gives -/
def KeyPost (X : Cx) (pins : List (Addr × Obj)) (σ : L2.St) (k : Int × Int) (s' : Shared) (H' : Hp) (u : Value) (s'' : Shared) : Prop :=
  ∃ p H'', u = .ref p ∧ Inv X pins σ H'' s'' ∧ Same H' H'' ∧ H'' p = some (.tup [.int k.1, .int k.2]) ∧ ∀ b o, s'.heap.get? b = some o → H' b = none → b ∉ frs X.stack → s''.heap.get? b = some o ∧ H'' b = none
theorem pair_of {H' : Hp} {s' : Shared} {p : Addr} {x y : Int} (I : Inv X pins σ H' s') (h : H' p = some (.tup [.int x, .int y])) : Srt.IsPair s'.heap (.ref p) x y := by
  obtain ⟨_, its, r, o, ho, hc, n, hd⟩ := I.hok p _ h
  obtain ⟨u1, u2, rfl, r1, r2⟩ := vals2 r
  obtain ⟨t1, rfl⟩ := r1
  obtain ⟨t2, rfl⟩ := r2
  exact ⟨p, o, t1, t2, n, rfl, ho, hc, hd⟩
theorem sort_tree {A : Around} {a : Addr} {vs : List Value} {ky : Nat → Int × Int} {fv : Addr} {n0 : Nat} {R : PySem.Fin → Shared → Prop} {E : Value → Shared → Prop} (I : Inv X pins σ H s) (ho : s.heap.get? a = some (seqObj "list" vs.toArray n0)) (fa : FpOk X pins H a) (hz : vs.length ≤ 1000)
    (hvs : ∀ (j : Nat) v, vs[j]? = some v → nmV v = j)
    (key : ∀ (j : Nat) v s' H', vs[j]? = some v → Inv X pins σ H' s' → Same H H' → (∀ b o, s.heap.get? b = some o → H b = none → b ≠ a → b ∉ frs X.stack → s'.heap.get? b = some o ∧ H' b = none) →
      wpAny (model X.prog X.w) A (call (.ref fv) [v]) (KeyPost X pins σ (ky j) s' H') (fun _ _ => False) s')
    (h : ∀ s' H' (out : List Value) c, Inv X pins σ H' s' → Same H H' → H' a = none → s'.heap.get? a = some (seqObj "list" out.toArray c) → out.Perm vs → out.Pairwise (fun v u => SrtO.lexB (ky (nmV u)) (ky (nmV v)) = false) → R (.done (.ret .none)) s') :
    wpAny (model X.prog X.w) A (ksk_tree a (.ref fv) false) R E s := by
  have hzl : vs.length ≤ sizeLine := Nat.le_trans hz (by decide)
  unfold ksk_tree
  refine wpAny_bind (listItems_at ho rfl ?_)
  refine wpAny_bind (listUpdate_at ho rfl ?_ (by rw [List.size_toArray]; exact hzl) (Nat.zero_le _))
  have I1 := Inv.upd1 (g := fun _ => #[]) I fa
  obtain ⟨e1, ho1⟩ : ∃ e1, (s.heap.update a (Obj.mapSeq fun _ => (#[] : Array Value))).get? a = some (seqObj "list" #[] e1) := ⟨_, get?_update_seq ho fun _ => #[]⟩
  refine wpAny_bind (seqEpoch_at ho1 rfl ?_)
  refine wpAny_bind (wpAny_newTuple ?_ hzl)
  refine wpAny_bind (wpAny_newList ?_ (Nat.zero_le _))
  refine wpAny_holding ?_
  generalize hS : (s.heap.update a (Obj.mapSeq fun _ => (#[] : Array Value))) = h1 at I1 ho1
  have I2 : Inv X pins σ H { s with heap := h1.push { cls := .type "tuple", data := .seq vs.toArray } } := I1.kept (t' := s.toks) fun b o e => Heap.get?_push_of_some _ e
  have hkn : H (h1.push { cls := .type "tuple", data := .seq vs.toArray }).objs.size = none := I2.hok.fresh (Nat.le_refl _)
  have fk : FpOk X pins H (h1.push { cls := .type "tuple", data := .seq vs.toArray }).objs.size := I2.fpOk (Nat.le_refl _) hkn
  have I3 : Inv X pins σ H { s with heap := (h1.push { cls := .type "tuple", data := .seq vs.toArray }).push { cls := .type "list", data := .seq ([] : List Value).toArray } } := I2.kept (t' := s.toks) fun b o e => Heap.get?_push_of_some _ e
  have hok3 : ((h1.push { cls := .type "tuple", data := .seq vs.toArray }).push { cls := .type "list", data := .seq ([] : List Value).toArray }).get? (h1.push { cls := .type "tuple", data := .seq vs.toArray }).objs.size = some (seqObj "list" #[] 0) := Heap.get?_push_size _ rfl
  have ho3 : ((h1.push { cls := .type "tuple", data := .seq vs.toArray }).push { cls := .type "list", data := .seq ([] : List Value).toArray }).get? a = some (seqObj "list" #[] e1) := Heap.get?_push_of_some _ (Heap.get?_push_of_some _ ho1)
  have nak : a ≠ (h1.push { cls := .type "tuple", data := .seq vs.toArray }).objs.size := Nat.ne_of_lt (Heap.lt_size (Heap.get?_push_of_some { cls := .type "tuple", data := .seq vs.toArray } ho1))
  have keep3 : ∀ b o, b ≠ a → s.heap.get? b = some o → ((h1.push { cls := .type "tuple", data := .seq vs.toArray }).push { cls := .type "list", data := .seq ([] : List Value).toArray }).get? b = some o := fun b o hb e => by
    refine Heap.get?_push_of_some _ (Heap.get?_push_of_some _ ?_)
    rw [← hS]
    exact (Heap.get?_update_ne _ _ _ _ hb).trans e
  have nk0 : ∀ b o, s.heap.get? b = some o → b ≠ (h1.push { cls := .type "tuple", data := .seq vs.toArray }).objs.size := fun b o e z => by
    have h3 : h1.objs.size = s.heap.objs.size := by rw [← hS, Heap.size_update]
    have h4 := Heap.lt_size e
    rw [z, Heap.size_push, h3] at h4
    exact Nat.lt_irrefl _ (Nat.lt_of_succ_lt h4)
  show wpAny (model X.prog X.w) A (ksk_rest a (.ref fv) false vs.toArray e1 (.ref (h1.push { cls := .type "tuple", data := .seq vs.toArray }).objs.size)) R E { s with heap := (h1.push { cls := .type "tuple", data := .seq vs.toArray }).push { cls := .type "list", data := .seq ([] : List Value).toArray } }
  generalize (h1.push { cls := .type "tuple", data := .seq vs.toArray }).objs.size = kS at hkn fk hok3 nak nk0 ⊢
  generalize (h1.push { cls := .type "tuple", data := .seq vs.toArray }).push { cls := .type "list", data := .seq ([] : List Value).toArray } = h3 at I3 hok3 ho3 keep3 ⊢
  -- from here on the three objects: a, kS, all else is Inv's
  have nfr : ∀ {b : Addr} {H' : Hp}, FpOk X pins H' b → b ∉ frs X.stack := fun {b H'} fb z => by
    obtain ⟨_, f1, f2, _⟩ := fb
    rcases List.mem_cons.mp (I.stkSub b z) with e | e
    · exact f1 e
    · exact f2 e
  have fp_of : ∀ {b : Addr} {H' : Hp}, FpOk X pins H b → H' b = none → FpOk X pins H' b := fun {b H'} fb hn => ⟨hn, fb.2⟩
  unfold ksk_rest
  refine wpAny_bind (wpAny_rule ?_)
  first
    | rw [List.forIn_toArray]
    | (rw [← Array.forIn_toList]; simp only [List.toList_toArray])
    | rw [← Array.forIn_toList]
  refine wpAny_bind (ksk_fold (fun i s' => ∃ (H' : Hp) (kA : Array Value) (e : Nat), Inv X pins σ H' s' ∧ Same H H' ∧ H' a = none ∧ H' kS = none ∧ s'.heap.get? a = some (seqObj "list" #[] e1) ∧ s'.heap.get? kS = some (seqObj "list" kA e) ∧ kA.size = i ∧
      (∀ (j : Nat) v, kA[j]? = some v → ∃ p, v = .ref p ∧ H' p = some (.tup [.int (ky j).1, .int (ky j).2])) ∧ (∀ b o, s.heap.get? b = some o → H b = none → b ≠ a → b ∉ frs X.stack → s'.heap.get? b = some o ∧ H' b = none)) vs 0 { s with heap := h3 }
    ⟨H, #[], 0, I3, Same.refl H, fa.1, hkn, ho3, hok3, rfl, fun j v z => by simp at z, fun b o e n hb _ => ⟨keep3 b o hb e, n⟩⟩ ?step ?done)
  case step =>
    rintro j x s' hx ⟨H', kA, e, I', eN, na, nk, ga, gk, hsz, hk, hkeep⟩
    simp only [Nat.zero_add] at hsz ⊢
    have hj : j < vs.length := (List.getElem?_eq_some_iff.mp hx).1
    refine wpAny_bind (wpAny_attempt (wpAny_mono (key j x s' H' hx I' eN hkeep) (fun v s'' he => ?_) fun _ _ hF => hF.elim))
    obtain ⟨p, H2, rfl, I2', eN2, hp, hk2⟩ := he
    try dsimp only
    obtain ⟨ga2, na2⟩ := hk2 a _ ga na (nfr fa)
    obtain ⟨gk2, nk2⟩ := hk2 kS _ gk nk (nfr fk)
    have I4 := Inv.upd1 (g := fun x => x.push (.ref p)) I2' (fp_of fk nk2)
    obtain ⟨c2, hc2⟩ : ∃ c2, (s''.heap.update kS (Obj.mapSeq (·.push (.ref p)))).get? kS = some (seqObj "list" (kA.push (.ref p)) c2) := ⟨_, get?_update_seq gk2 (·.push (.ref p))⟩
    refine wpAny_bind (listUpdate_at gk2 rfl ?_ (by rw [hsz]; omega) (Nat.le_trans (Nat.le_of_eq (Array.size_push ..)) (by rw [hsz]; omega)))
    refine wpAny_pure ⟨rfl, H2, kA.push (.ref p), c2, I4, eN.trans eN2, na2, nk2, (Heap.get?_update_ne _ _ _ _ nak).trans ga2, hc2, by rw [Array.size_push, hsz], fun i v hv => ?_, fun b o eb nb hb hfr => ?_⟩
    · rw [Array.getElem?_push] at hv
      split at hv
      · rename_i c
        rw [hsz] at c
        exact ⟨p, (Option.some.inj hv).symm, by rw [c]; exact hp⟩
      · obtain ⟨p', e1', e2'⟩ := hk i v hv
        exact ⟨p', e1', eN2 _ _ e2'⟩
    · obtain ⟨q1, q2⟩ := hkeep b o eb nb hb hfr
      obtain ⟨q3, q4⟩ := hk2 b o q1 q2 hfr
      exact ⟨(Heap.get?_update_ne _ _ _ _ (nk0 b o eb)).trans q3, q4⟩
  case done =>
    rintro s' ⟨H', kA, e, I', eN, na, nk, ga, gk, hsz, hk, hkeep⟩
    simp only [Nat.zero_add] at hsz
    try dsimp only
    refine wpAny_bind (listItems_at gk rfl ?_)
    -- the keys, paired with the items
    have hpair : ∀ v ∈ kA.toList, Srt.IsPair s'.heap v (kfOf s'.heap v).1 (kfOf s'.heap v).2 := fun v hv => by
      obtain ⟨j, hj⟩ := List.mem_iff_getElem?.mp hv
      rw [Array.getElem?_toList] at hj
      obtain ⟨p, rfl, hp⟩ := hk j v hj
      have q := pair_of I' hp
      rw [kfOf_pair q]
      exact q
    have hky : ∀ (j : Nat) v, kA[j]? = some v → kfOf s'.heap v = ky j := fun j v hj => by
      obtain ⟨p, rfl, hp⟩ := hk j v hj
      rw [kfOf_pair (pair_of I' hp)]
    have hzip : ∀ p : Keyed, p ∈ (kA.zip vs.toArray).toList → p.1 ∈ kA.toList ∧ kfOf s'.heap p.1 = ky (nmV p.2) := fun p hp => by
      rw [ksk_zip] at hp
      obtain ⟨j, hj⟩ := List.mem_iff_getElem?.mp hp
      rw [List.getElem?_zip_eq_some] at hj
      obtain ⟨j1, j2⟩ := hj
      refine ⟨List.mem_of_getElem? j1, ?_⟩
      rw [Array.getElem?_toList] at j1
      rw [hvs j _ j2]
      exact hky j _ j1
    have hzs : (kA.zip vs.toArray).size = vs.length := by rw [Array.size_zip, hsz, List.size_toArray, Nat.min_self]
    have hsnd : ((kA.zip vs.toArray).toList).map (·.2) = vs := by
      rw [ksk_zip]
      exact List.map_snd_zip (by
        have e := Array.length_toList (xs := kA)
        omega)
    -- behind the sort
    have tail : ∀ st : SortSt, SrtO.Srtd (SrtO.lt2 fun v u => SrtO.lexB (kfOf s'.heap v) (kfOf s'.heap u)) (arrOf st).toList → (arrOf st).toList.Perm (kA.zip vs.toArray).toList → failedOf st = none → wpAny (model X.prog X.w) A (ksk_tail a false e1 (.ref kS) st) R E s' := by
      intro st h1 h2 h3
      have hsz2 : (arrOf st).size = vs.length := by
        rw [← Array.length_toList, h2.length_eq, Array.length_toList, hzs]
      unfold ksk_tail
      try dsimp only
      refine wpAny_bind (listUpdate_at gk rfl ?_ (by rw [hsz]; omega) (Nat.zero_le _))
      refine wpAny_bind (wpAny_letGo ?_)
      have I5 := Inv.upd1 (g := fun _ => #[]) I' (fp_of fk nk)
      have ga5 : (s'.heap.update kS (Obj.mapSeq fun _ => (#[] : Array Value))).get? a = some (seqObj "list" #[] e1) := (Heap.get?_update_ne _ _ _ _ nak).trans ga
      refine wpAny_bind (seqEpoch_at ga5 rfl ?_)
      refine wpAny_bind (listUpdate_at ga5 rfl ?_ (Nat.zero_le _) (by
        show (if false = true then ((arrOf st).map (·.2)).reverse else (arrOf st).map (·.2)).size ≤ _
        rw [if_neg Bool.false_ne_true, Array.size_map, hsz2]
        omega))
      rw [h3]
      simp only [bne_self_eq_false, Bool.false_eq_true, if_false]
      have I6 := Inv.upd1 (g := fun _ => (arrOf st).map (·.2)) I5 (fp_of fa na)
      obtain ⟨c6, hc6⟩ : ∃ c6, ((s'.heap.update kS (Obj.mapSeq fun _ => (#[] : Array Value))).update a (Obj.mapSeq fun _ => (arrOf st).map (·.2))).get? a = some (seqObj "list" ((arrOf st).map (·.2)) c6) := ⟨_, get?_update_seq ga5 fun _ => (arrOf st).map (·.2)⟩
      refine wpAny_pure (h _ H' ((arrOf st).map (·.2)).toList c6 I6 eN na ?_ ?_ ?_)
      · rw [Array.toArray_toList]
        exact hc6
      · rw [Array.toList_map]
        have q := h2.map (fun p : Keyed => p.2)
        rw [hsnd] at q
        exact q
      · rw [Array.toList_map, List.pairwise_map]
        refine List.Pairwise.imp_of_mem (fun {p q} hp hq hlt => ?_) h1
        have p1 := (hzip p (h2.mem_iff.mp hp)).2
        have q1 := (hzip q (h2.mem_iff.mp hq)).2
        have hlt' : SrtO.lexB (kfOf s'.heap q.1) (kfOf s'.heap p.1) = false := hlt
        rw [p1, q1] at hlt'
        exact hlt'
    unfold ksk_end
    try dsimp only
    simp only [Bool.false_eq_true, if_false]
    by_cases h2 : vs.toArray.size < 2
    · rw [if_pos h2, if_pos h2]
      refine wpAny_bind (wpAny_pure ?_)
      rw [StateT.run_pure]
      refine wpAny_bind (wpAny_pure ?_)
      try dsimp only
      refine tail (SortSt.mk' general' (kA.zip vs.toArray) #[] 7 none) ?_ (List.Perm.refl _) rfl
      have hl : (kA.zip vs.toArray).toList.length < 2 := by
        rw [Array.length_toList, hzs]
        rw [List.size_toArray] at h2
        exact h2
      show SrtO.Srtd _ (kA.zip vs.toArray).toList
      revert hl
      generalize (kA.zip vs.toArray).toList = l
      intro hl
      match l, hl with
      | [], _ => exact List.Pairwise.nil
      | [v], _ => exact List.pairwise_singleton _ _
      | _ :: _ :: l, h => exact absurd h (by rw [List.length_cons, List.length_cons]; omega)
    · rw [if_neg h2, if_neg h2]
      rw [List.size_toArray] at h2
      obtain ⟨fs, g1, g2, g3⟩ := Srt.firsts_of (h := s'.heap) (vs := kA.toList) fun v hm => ⟨_, _, hpair v hm⟩
      have kind : ∀ (Q : SortKind → Shared → Prop) (E : Value → Shared → Prop), Q (tuples' true) s' → wpAny (model X.prog X.w) A (keyKind' kA) Q E s' := fun Q E hq => by
        have q := PySem.W.kat_kind (M := model X.prog X.w) (A := A) (s := s') (T := .type "int") (Q := Q) (E := E) g1 (by
          have e := Array.length_toList (xs := kA)
          omega) (fun f hm => by
          obtain ⟨x, t, rfl⟩ := g3 f hm
          exact PySem.W.Looks.now) (by rfl) (by
          have e : (Value.type "int" != Value.type "tuple") = true := by first | decide +kernel | rfl | decide
          rw [e]
          exact hq)
        rw [Array.toArray_toList] at q
        exact q
      refine wpAny_bind (kind _ _ ?_)
      have T := SrtO.pair_cmp (prog := X.prog) (w := X.w) (A := A) (s := s') (vs := kA.toList) (k := kfOf s'.heap) hpair
      refine wpAny_bind (wpAny_mono (SrtO.wpS_sortO (st0 := SortSt.mk' (tuples' true) (kA.zip vs.toArray) #[] 7 none)
        (Q := fun _ st' => SrtO.Srtd (SrtO.lt2 fun v u => SrtO.lexB (kfOf s'.heap v) (kfOf s'.heap u)) (arrOf st').toList ∧ (arrOf st').toList.Perm (kA.zip vs.toArray).toList ∧ failedOf st' = none) (SrtO.swo2 (SrtO.swo_lex (kfOf s'.heap))) T rfl (fun p hm => (hzip p hm).1) rfl rfl fun st' a1 a2 a3 => ⟨a1, a2.perm, a3⟩) ?_ fun _ _ e => e)
      rintro ⟨⟨⟩, st'⟩ s2 ⟨rfl, hp1, hp2, hf⟩
      try dsimp only
      exact tail st' hp1 hp2 hf
end
end Vb

set_option Elab.async false
set_option linter.all false
set_option maxRecDepth 100000
set_option maxHeartbeats 4000000
/-! sorted(range(n), key=lambda ..) as a rule. -/
namespace Vb
open PySem PySem.Spec PyProof.Rows L2
section
variable {X : Cx} {pins : List (Addr × Obj)} {σ : L2.St} {H : Hp} {s : Shared}
/-- an object of ours that was not tracked is tracked from now on -/
theorem Inv.track {a : Addr} {o : HO} (I : Inv X pins σ H s) (fa : FpOk X pins H a) (new : ObjOk X.prog X.w (upd H a o) s.heap a o) : Inv X pins σ (upd H a o) s := by
  obtain ⟨f0, f1, f2, f3, f4, f5⟩ := fa
  refine I.step (g' := s.gens) (t' := s.toks) (d' := s.drawn) (h' := s.heap) (ch := [a]) (fun b hb => ?_) (fun b u _ _ _ e _ => e) (fun b u _ _ _ e _ => ⟨u.slots, e⟩) (fun b u hb _ n => ?_) (fun b u _ e => ⟨u, e⟩) (fun b xs e => ?_) (fun b u v e => ?_) (fun b ps e => ⟨#[], ?_⟩) (fun m hm => hm) (fun b u e => ?_) I.bare
  · have e : b = a := by simpa using hb
    subst e
    exact ⟨f3, f1, f4, f5⟩
  · rw [upd_ne (fun z => hb (by simp [z]))]
    exact n
  · rw [upd_ne (ne_of_none e f0)]
    exact e
  · rw [upd_ne (ne_of_none e f0)]
    exact e
  · rw [upd_ne (ne_of_none e f0), e]
    simp
  · by_cases hb : b = a
    · subst hb
      rw [upd_same] at e
      cases e
      exact new
    · rw [upd_ne hb] at e
      exact (I.hok b u e).stay (fun c v _ q => q) (fun c q => by rw [upd_ne (ne_of_none q f0)]; exact q) fun c xs q => by rw [upd_ne (ne_of_none q f0)]; exact q
theorem cr_range1 : CallR X (.type "range") (fun vs H Q => ∃ j : Int, vs = [V.int j] ∧ ∀ p, H p = none → Q (.ref p) (upd H p (.rng 0 j))) := by
  intro pins s σ H vs us Q I r h
  obtain ⟨j, rfl, q⟩ := h
  obtain ⟨u, rfl, ru⟩ := vals1 r
  obtain ⟨t, rfl⟩ := ru
  refine call_range_1 ⟨.ref s.heap.objs.size, upd H s.heap.objs.size (.rng 0 j), I.laid (t' := s.toks + 2) (fun b o e => Heap.get?_push_of_some _ e) (Nat.le_refl _) ?_, rfl, q _ (I.hok.fresh (Nat.le_refl _))⟩
  exact ⟨_, _, _, Heap.get?_push_size _ rfl⟩
theorem ints_back : ∀ {l : List Value}, (∀ v ∈ l, ∃ (j : Nat) (t : Tok), v = .int (j : Int) t) → Vals (nats (l.map nmV)) l
  | [], _ => .nil
  | v :: l, h => by
    obtain ⟨j, t, rfl⟩ := h _ List.mem_cons_self
    refine .cons ⟨t, ?_⟩ (ints_back fun u hu => h u (List.mem_cons_of_mem _ hu))
    rfl
theorem sorted_keyed {r f : Addr} {n : Nat} {ky : Nat → Int × Int} {Q : Value → Shared → Prop} {E : Value → Shared → Prop} (I : Inv X pins σ H s) (hh : X.A.handled = none) (hr : H r = some (.rng 0 (n : Nat))) (hn : n ≤ 1000)
    (key : ∀ (j : Nat) v s' H', j < n → L2.RelV (nI j) v → Inv X pins σ H' s' → Same H H' → (∀ b o, s.heap.get? b = some o → H b = none → b ∉ frs X.stack → s'.heap.get? b = some o ∧ H' b = none) →
      wpAny (model X.prog X.w) X.A.in1.in1 (call (.ref f) [v]) (KeyPost X pins σ (ky j) s' H') (fun _ _ => False) s')
    (h : ∀ s' H' d (out : List Nat), Inv X pins σ H' s' → Same H H' → H' d = some (.lst (nats out)) → out.Perm (List.range n) → out.Pairwise (fun a b => SrtO.lexB (ky b) (ky a) = false) → Q (.ref d) s') :
    wpAny (model X.prog X.w) X.A (call (.builtin "sorted") [.ref r] [(Str.ofString "key", .ref f)]) Q E s := by
  obtain ⟨t1, t2, t3, hrg⟩ := I.hok r _ hr
  have hnl : n ≤ sizeLine := Nat.le_trans hn (by decide)
  refine call_function_entry_kw kind_sorted plain_sorted entry_sorted (ksk_s1 _ _) ?_
  unfold Builtin.«sorted»
  refine wpAny_bind (m := checkCount "sorted" 1 1 _) (wpAny_pure ?_)
  refine wpAny_bind (collect_range (A := X.A.in1) (n := n) hh (show IsRange s.heap r 0 (n : Int) 1 t1 t2 t3 from hrg) (small_one (by omega) (by omega) (by omega) (by omega)) (by rw [rangeSize_one]; split <;> omega) (Nat.le_trans hn (by decide)) fun h' tk acc hk hacc => ?_)
  obtain ⟨hsz, hat⟩ := hacc
  have hlen : acc.toList.length = n := by rw [Array.length_toList, hsz]
  refine wpAny_bind (wpAny_newList ?_ (by rw [hlen]; exact hnl))
  have I1 : Inv X pins σ H { s with heap := h', toks := tk } := I.kept hk
  have hdn : H h'.objs.size = none := I1.hok.fresh (Nat.le_refl _)
  have fd : FpOk X pins H h'.objs.size := I1.fpOk (Nat.le_refl _) hdn
  have I2 : Inv X pins σ H { s with heap := h'.push { cls := .type "list", data := .seq acc.toList.toArray }, toks := tk } := I1.kept (t' := tk) fun b o e => Heap.get?_push_of_some _ e
  have hoL : (h'.push { cls := .type "list", data := .seq acc.toList.toArray }).get? h'.objs.size = some (seqObj "list" acc.toList.toArray 0) := Heap.get?_push_size _ rfl
  have hint : ∀ (j : Nat) v, acc.toList[j]? = some v → ∃ t, v = .int (j : Int) t := fun j v hj => by
    obtain ⟨t, e⟩ := hat j v (by rw [← Array.getElem?_toList]; exact hj)
    exact ⟨t, by rw [e]; congr 1; omega⟩
  refine wpAny_bind (wpAny_holding (wpAny_call_entry_kw slot_list_sort ⟨_, hoL, rfl⟩ entry_list_sort ?_ (ksk_l1 _ _)))
  rw [ksk_t1]
  refine sort_tree (vs := acc.toList) (ky := ky) I2 hoL fd (by omega) (fun j v hj => ?_) (fun j v s' H' hj I' eN hkeep => ?_) fun s' H' out c I' eN na ga hp hs => ⟨_, rfl, ?_⟩
  · obtain ⟨t, rfl⟩ := hint j v hj
    show (j : Int).toNat = j
    omega
  · obtain ⟨t, rfl⟩ := hint j v hj
    have hjn : j < n := by
      rw [← hlen]
      exact (List.getElem?_eq_some_iff.mp hj).1
    refine key j _ s' H' hjn ⟨t, rfl⟩ I' eN fun b o e nb hfr => ?_
    have hlt : b < s.heap.objs.size := Heap.lt_size e
    have e2 := hk b o e
    exact hkeep b o (Heap.get?_push_of_some _ e2) nb (Nat.ne_of_lt (Heap.lt_size e2)) hfr
  · refine wpAny_pure ⟨_, rfl, ?_⟩
    have hol : out.length = n := by rw [hp.length_eq, hlen]
    have hall : ∀ v ∈ out, ∃ (j : Nat) (t : Tok), v = .int (j : Int) t := fun v hv => by
      obtain ⟨j, hj⟩ := List.mem_iff_getElem?.mp (hp.mem_iff.mp hv)
      obtain ⟨t, e⟩ := hint j v hj
      exact ⟨j, t, e⟩
    have I3 : Inv X pins σ (upd H' h'.objs.size (.lst (nats (out.map nmV)))) s' := Inv.track I' ⟨na, fd.2⟩ ⟨by rw [nats_len, List.length_map, hol]; exact hnl, out, c, ints_back hall, ga⟩
    have eN3 : Same H (upd H' h'.objs.size (.lst (nats (out.map nmV)))) := fun b o e => by
      have e2 := eN b o e
      rw [upd_ne (ne_of_none e2 na)]
      exact e2
    refine h s' _ h'.objs.size (out.map nmV) I3 eN3 upd_same ?_ ?_
    · have q := hp.map nmV
      have e : acc.toList.map nmV = List.range n := by
        apply List.ext_getElem?
        intro j
        rw [List.getElem?_map]
        by_cases hj : j < n
        · have e1 : acc.toList[j]? = some acc.toList[j] := List.getElem?_eq_getElem (by omega)
          obtain ⟨t, e2⟩ := hint j _ e1
          rw [e1, e2, List.getElem?_range hj]
          show some (j : Int).toNat = some j
          rw [Int.toNat_natCast]
        · rw [List.getElem?_eq_none (by omega), List.getElem?_eq_none (by rw [List.length_range]; omega)]
          rfl
      rw [e] at q
      exact q
    · rw [List.pairwise_map]
      exact hs
end
def tSortKey (T : List (Addr × Str)) (i : Nat) (ta : TA) (tb : TE) : TE := fun σ H Q => ta σ H fun vs H1 => ∃ (r : Addr) (n : Nat) (ky : Nat → Int × Int), vs = [.ref r] ∧ H1 r = some (.rng 0 (n : Nat)) ∧ n ≤ 1000 ∧ LamX.Tabs T H1 ∧
  (∀ (j : Nat) (H2 : Hp) (Q2 : VK), j < n → LamX.ExtN H1 H2 → (∀ p, H2 p = none → Q2 (.ref p) (upd H2 p (.tup [.int (ky j).1, .int (ky j).2]))) → tb (σ.set i (some (nI j))) H2 Q2) ∧
  ∀ (H3 : Hp) (d : Addr) (out : List Nat), out.Perm (List.range n) → out.Pairwise (fun a b => SrtO.lexB (ky b) (ky a) = false) → LamX.ExtN H1 H3 → LamX.Tabs T H3 → H3 d = some (.lst (nats out)) → Q (.ref d) H3
section
variable {X : Cx}
theorem tabs_ext {T : List (Addr × Str)} {H H' : Hp} (t : LamX.Tabs T H) (e : Same H H') : LamX.Tabs T H' := t.ext e
theorem pe_sortKey {T : List (Addr × Str)} {i k : Nat} {ta : TA} {tb : TE} {e body : Expr} {params : Arguments} {scope : Scope} {p : Str} {c P : Addr} {p0 lpos kpos pos : Pos} (hg : Gl X "sorted") (hm : X.mg "sorted" = none) (hh : X.A.handled = none) (hNd : X.N.Nodup) (ha : PA X [e] ta)
    (TB : LamX.TabB X.base X.mg c P) (hcode : X.env.code = .ref c) (hmT : (P, X.env.qual ++ "<lambda>") ∈ T) (hu : ∀ q ∈ T, q.1 = P → q.2 = X.env.qual ++ "<lambda>") (hr : Room (k + 4) X.A) (L : LamP X.env.scope scope p) (hp : X.N[i]? = some p) (hdef : defaultsOf params X.env = ([], []))
    (hbind : ∀ (q : Str) (cl : List (Str × Addr)) (pm cv ctv u : Value), bindArgs (PySem.W.kla_fn "<lambda>" q params body scope cl pm cv ctv) ⟨[u], []⟩ = pure [(p, u)])
    (hbody : ∀ (A : Around) (outer : List Env) (s : Shared) (H : Hp) (f c' : Addr), PE (LamX.lamCx X A outer s H C8.E0 scope f c') body tb)
    (he : backTo pos (starEach [e] X.env) = (false, eval e X.env) :: backTo pos (starEach [] X.env) := by rfl) (hpl : (backTo pos (starEach [e] X.env)).any (·.1) = false := by rfl) :
    PE X (.Call (.Name "sorted" p0) [e] [⟨some "key", .Lambda params body scope lpos, kpos⟩] pos) (tSortKey T i ta tb) := by
  refine ⟨fun pins s σ H Q I h => ?_⟩
  refine wpAny_Call_Name_kw (ld_blt I hg hm (show bootBuiltins "sorted" = some (.builtin "sorted") from by decide +kernel) ?_ (by decide) (by decide))
  refine PyProof.Rows.callWith_kw (thn (ha.run pos pins s σ H _ I h) fun us s1 ⟨vs, H1, I1, r1, q1⟩ => ?_) he hpl (by rfl) (by rfl)
  obtain ⟨r, n, ky, rfl, hrg, hn, hT, hb, q⟩ := q1
  obtain rfl := Vals.ref1 r1
  show wpAny _ _ (evalAll [(do let v ← eval (.Lambda params body scope lpos) X.env; standAt pos; pure v)]) _ _ s1
  refine wpAny_evalAll_cons (wpAny_bind (LamX.lam_make2 I1 TB hcode hmT hu hT hdef (L.has I1.ok) fun f c' pm ctv H2 s2 I2 eN T2 hf hfn hfr hco => wpAny_bind (wpAny_standAt (wpAny_pure (wpAny_evalAll_nil ?_)))))
  show wpAny _ _ (call (.builtin "sorted") [.ref r] [(Str.ofString "key", .ref f)]) _ _ _
  refine sorted_keyed (ky := ky) I2 hh (eN _ _ hrg (fun ps z => by cases z)) hn (fun j v s' H' hj rv I' eN' hkeep => ?_) fun s' H' d out I' eN' hd hp1 hp2 => ?_
  · have e0 : Env0 X.prog X.w X.K X.mg X.base X.A.in1.in1 X.stack s' H' := I'.env0.in1.in1
    have hr2 : Room (k + 2) X.A.in1.in1 := (hr.in1 (k := k + 3)).in1 (k := k + 2)
    obtain ⟨hf', hfn'⟩ := hkeep f _ hf hfn hfr
    refine wpAny_call (codeAny_mono (lam_call1 (k := k + 1) (Q := fun u H'' => ∃ p, u = .ref p ∧ H' p = none ∧ H'' = upd H' p (.tup [.int (ky j).1, .int (ky j).2])) I' L hNd hp e0 hr2 rv hf' (eN' _ _ hco) (hbind _ _ _ _ _ _) (hbody _ _ _ _ _ _) (hb j H' _ hj (eN.trans (.of eN')) fun p hpn => ⟨p, rfl, hpn, rfl⟩)) fun r s'' hq => ?_)
    cases r with
    | error e =>
      obtain ⟨_, _, _, _, _, _, _, _, _, _, _, _, z⟩ := hq
      exact z.elim
    | ok fl =>
      cases fl with
      | next => exact False.elim hq
      | brk => exact False.elim hq
      | cont => exact False.elim hq
      | ret u =>
        obtain ⟨v, H'', os, bare, un, hok, r, p, rfl, hpn, rfl⟩ := id hq
        obtain ⟨v3, H3, I3, r3, p3, ev, hp3, e3⟩ := I'.after hq
        subst e3
        obtain rfl : u = Value.ref p := r
        have r3' : L2.RelV v3 (Value.ref p) := r3
        rw [ev] at r3'
        have ep : p3 = p := by
          have r4 : Value.ref p = Value.ref p3 := r3'
          exact (Value.ref.inj r4).symm
        subst ep
        refine ⟨p3, _, rfl, I3, fun b o e => by rw [upd_ne (ne_of_none e hp3)]; exact e, upd_same, fun b o e nb hfr => ?_⟩
        refine ⟨un.keep b o e nb hfr (by simp), un.free b o e nb (by simp)⟩
  · have T3 : LamX.Tabs T H' := T2.ext eN'
    exact ⟨.ref d, H', I', rfl, q H' d out hp1 hp2 (eN.trans (.of eN')) T3 hd⟩
end
end Vb

set_option maxHeartbeats 4000000
set_option Elab.async false
set_option linter.all false
/-! targets: by an order of the variants. -/
namespace Vb
theorem foldl_add (l : List Nat) : ∀ z, l.foldl (· + ·) z = z + l.sum := by
  induction l with
  | nil => intro z; simp
  | cons a r ih => intro z; rw [List.foldl_cons, ih, List.sum_cons]; omega
theorem foldl_sum (l : List Nat) : l.foldl (· + ·) 0 = l.sum := by rw [foldl_add]; omega
def shares (t : Nat) (w : List Nat) : List Nat := w.map fun x => t * x / w.sum
def rems (t : Nat) (w : List Nat) : List Nat := w.map fun x => t * x % w.sum
theorem share_sum (t W : Nat) : ∀ w : List Nat, W * (w.map fun x => t * x / W).sum + (w.map fun x => t * x % W).sum = t * w.sum
  | [] => by simp
  | x :: r => by
    have ih := share_sum t W r
    have h := Nat.div_add_mod (t * x) W
    rw [List.map_cons, List.map_cons, List.sum_cons, List.sum_cons, List.sum_cons, Nat.mul_add, Nat.mul_add]
    omega
theorem rem_sum_lt (t W : Nat) (hW : 0 < W) : ∀ w : List Nat, (w.map fun x => t * x % W).sum ≤ w.length * W
  | [] => by simp
  | x :: r => by
    have ih := rem_sum_lt t W hW r
    have h := Nat.mod_lt (t * x) hW
    rw [List.map_cons, List.sum_cons, List.length_cons, Nat.succ_mul]
    omega
theorem shares_le {t : Nat} {w : List Nat} (hW : 0 < w.sum) : (shares t w).sum ≤ t := by
  have h := share_sum t w.sum w
  have h2 : w.sum * (shares t w).sum ≤ w.sum * t := by
    rw [Nat.mul_comm w.sum t]
    unfold shares
    omega
  exact Nat.le_of_mul_le_mul_left h2 hW
theorem rest_le {t : Nat} {w : List Nat} (hW : 0 < w.sum) : t - (shares t w).sum ≤ w.length := by
  have h := share_sum t w.sum w
  have h3 := rem_sum_lt t w.sum hW w
  have h2 : w.sum * t ≤ w.sum * ((shares t w).sum + w.length) := by
    rw [Nat.mul_add, Nat.mul_comm w.sum t, ← h, Nat.mul_comm w.sum w.length]
    unfold shares
    omega
  have := Nat.le_of_mul_le_mul_left h2 hW
  omega
theorem shares_len (t : Nat) (w : List Nat) : (shares t w).length = w.length := List.length_map ..
theorem rems_len (t : Nat) (w : List Nat) : (rems t w).length = w.length := List.length_map ..
/-- i stands before j -/
def bef (r : List Nat) (i j : Nat) : Bool := decide (r.getD j 0 < r.getD i 0) || (r.getD i 0 == r.getD j 0 && decide (i < j))
theorem bef_irr (r : List Nat) (i : Nat) : bef r i i = false := by simp [bef]
theorem bef_asym {r : List Nat} {i j : Nat} (h : bef r i j = true) : bef r j i = false := by
  unfold bef at h ⊢
  simp only [Bool.or_eq_true, Bool.and_eq_true, decide_eq_true_eq, beq_iff_eq, Bool.or_eq_false_iff, Bool.and_eq_false_iff, decide_eq_false_iff_not, beq_eq_false_iff_ne] at h ⊢
  omega
theorem bef_total {r : List Nat} {i j : Nat} (h : i ≠ j) (n : bef r j i = false) : bef r i j = true := by
  unfold bef at n ⊢
  simp only [Bool.or_eq_true, Bool.and_eq_true, decide_eq_true_eq, beq_iff_eq, Bool.or_eq_false_iff, Bool.and_eq_false_iff, decide_eq_false_iff_not, beq_eq_false_iff_ne] at n ⊢
  omega
theorem bef_trans {r : List Nat} {i j k : Nat} (h : bef r i j = true) (h2 : bef r j k = true) : bef r i k = true := by
  unfold bef at h h2 ⊢
  simp only [Bool.or_eq_true, Bool.and_eq_true, decide_eq_true_eq, beq_iff_eq] at h h2 ⊢
  omega
/-- all before it come first -/
theorem place {r l : List Nat} {n i q : Nat} (hp : l.Perm (List.range n)) (hs : l.Pairwise fun a b => bef r a b = true) (hi : i < n) :
    i ∈ l.take q ↔ ((List.range n).filter fun j => bef r j i).length < q := by
  have hm : i ∈ l := hp.mem_iff.mpr (List.mem_range.mpr hi)
  obtain ⟨l1, l2, rfl⟩ := List.append_of_mem hm
  have hs' := List.pairwise_append.mp hs
  obtain ⟨_, s2, s3⟩ := hs'
  have s4 := (List.pairwise_cons.mp s2).1
  have e : ((List.range n).filter fun j => bef r j i).length = l1.length := by
    rw [← List.countP_eq_length_filter, ← hp.countP_eq, List.countP_append, List.countP_cons, bef_irr]
    have e1 : l1.countP (fun j => bef r j i) = l1.length := List.countP_eq_length.mpr fun x hx => s3 x hx i List.mem_cons_self
    have e2 : l2.countP (fun j => bef r j i) = 0 := List.countP_eq_zero.mpr fun x hx => by rw [bef_asym (s4 x hx)]; simp
    rw [e1, e2]
    simp
  rw [e, List.take_append, List.mem_append]
  constructor
  · rintro (h | h)
    · have h1 := s3 i (List.mem_of_mem_take h) i List.mem_cons_self
      rw [bef_irr] at h1
      cases h1
    · have := List.length_pos_of_mem h
      rw [List.length_take] at this
      omega
  · intro h
    right
    obtain ⟨k, hk⟩ : ∃ k, q - l1.length = k + 1 := ⟨q - l1.length - 1, by omega⟩
    rw [hk, List.take_succ_cons]
    exact List.mem_cons_self
/-- one more for those of l -/
def bump (s l : List Nat) : List Nat := (List.range s.length).map fun i => s.getD i 0 + if i ∈ l then 1 else 0
theorem bump_len (s l : List Nat) : (bump s l).length = s.length := by unfold bump; rw [List.length_map, List.length_range]
theorem bump_get {s l : List Nat} {i : Nat} (h : i < s.length) : (bump s l)[i]? = some (s.getD i 0 + if i ∈ l then 1 else 0) := by
  unfold bump
  rw [List.getElem?_map, List.getElem?_range h]
  rfl
theorem bump_nil (s : List Nat) : bump s [] = s := by
  apply List.ext_getElem?
  intro i
  by_cases h : i < s.length
  · rw [bump_get h, List.getD_eq_getElem?_getD, List.getElem?_eq_getElem h]
    simp
  · rw [List.getElem?_eq_none (by rw [bump_len]; omega), List.getElem?_eq_none (by omega)]
theorem bump_snoc {s l : List Nat} {a : Nat} (ha : a < s.length) (hn : a ∉ l) : bump s (l ++ [a]) = (bump s l).set a (s.getD a 0 + 1) := by
  apply List.ext_getElem?
  intro i
  rw [List.getElem?_set]
  by_cases h : i < s.length
  · rw [bump_get h, bump_get h]
    by_cases e : a = i
    · subst e
      rw [if_pos rfl, if_pos (show a < (bump s l).length by rw [bump_len]; exact ha), if_pos (show a ∈ l ++ [a] from List.mem_append_right _ List.mem_cons_self)]
    · rw [if_neg e]
      have : (i ∈ l ++ [a]) ↔ i ∈ l := by simp [Ne.symm e]
      simp only [this]
  · rw [List.getElem?_eq_none (by rw [bump_len]; omega), if_neg (by omega), List.getElem?_eq_none (by rw [bump_len]; omega)]
theorem targets_bump {t : Nat} {w l : List Nat} (hp : l.Perm (List.range w.length)) (hs : l.Pairwise fun a b => bef (rems t w) a b = true) :
    Kex2.targets t w = bump (shares t w) (l.take (t - (shares t w).sum)) := by
  unfold Kex2.targets bump
  simp only [foldl_sum]
  rw [shares_len]
  apply List.map_congr_left
  intro i hi
  have hi' := List.mem_range.mp hi
  have e : (i ∈ l.take (t - (shares t w).sum)) ↔ _ := place (q := t - (shares t w).sum) hp hs hi'
  simp only [e]
  have e2 : ((List.range w.length).filter fun j => bef (rems t w) j i) = (List.range w.length).filter fun j => decide ((w.map fun x => t * x % w.sum).getD i 0 < (w.map fun x => t * x % w.sum).getD j 0) || ((w.map fun x => t * x % w.sum).getD j 0 == (w.map fun x => t * x % w.sum).getD i 0 && decide (j < i)) := rfl
  rw [e2]
  rfl
theorem targets_len (t : Nat) (w : List Nat) : (Kex2.targets t w).length = w.length := by
  unfold Kex2.targets
  simp
/-- an order there is -/
theorem order_is (r : List Nat) (n : Nat) : ∃ l : List Nat, l.Perm (List.range n) ∧ l.Pairwise fun a b => bef r a b = true := by
  refine ⟨(List.range n).mergeSort (fun a b => !bef r b a), List.mergeSort_perm _ _, ?_⟩
  have h1 := List.pairwise_mergeSort (le := fun a b => !bef r b a) (fun a b c h1 h2 => by
    simp only [Bool.not_eq_true'] at h1 h2 ⊢
    cases e : bef r c a with
    | false => rfl
    | true =>
      by_cases hab : a = b
      · subst hab; rw [e] at h2; exact h2
      · by_cases hbc : b = c
        · subst hbc; rw [e] at h1; exact h1
        · have q1 := bef_total hab h1
          have q2 := bef_total hbc h2
          have q3 := bef_trans q1 q2
          rw [bef_asym q3] at e
          cases e) (fun a b => by
    cases e : bef r b a with
    | false => rfl
    | true => rw [bef_asym e]; rfl) (List.range n)
  have h2 : ((List.range n).mergeSort (fun a b => !bef r b a)).Nodup := (List.mergeSort_perm _ _).nodup_iff.mpr List.nodup_range
  refine (h1.and h2).imp fun ⟨q1, q2⟩ => bef_total q2 ?_
  simpa using q1
theorem sum_ind (l : List Nat) : ∀ m : List Nat, (m.map fun i => if i ∈ l then 1 else 0).sum = (m.filter fun i => decide (i ∈ l)).length
  | [] => rfl
  | a :: r => by
    rw [List.map_cons, List.sum_cons, sum_ind l r, List.filter_cons]
    by_cases h : a ∈ l
    · rw [if_pos h, if_pos (decide_eq_true h), List.length_cons]
      omega
    · rw [if_neg h, if_neg (by simp [h])]
      omega
theorem sum_two (f g : Nat → Nat) : ∀ m : List Nat, (m.map fun i => f i + g i).sum = (m.map f).sum + (m.map g).sum
  | [] => rfl
  | a :: r => by
    rw [List.map_cons, List.map_cons, List.map_cons, List.sum_cons, List.sum_cons, List.sum_cons, sum_two f g r]
    omega
theorem range_getD (s : List Nat) : ((List.range s.length).map fun i => s.getD i 0) = s := by
  apply List.ext_getElem?
  intro i
  rw [List.getElem?_map]
  by_cases h : i < s.length
  · rw [List.getElem?_range h]
    show some (s.getD i 0) = _
    rw [List.getD_eq_getElem?_getD, List.getElem?_eq_getElem h]
    rfl
  · rw [List.getElem?_eq_none (by rw [List.length_range]; omega), List.getElem?_eq_none (by omega)]
    rfl
theorem sum_bump {s l : List Nat} (hn : l.Nodup) (hb : ∀ a ∈ l, a < s.length) : (bump s l).sum = s.sum + l.length := by
  unfold bump
  rw [sum_two (fun i => s.getD i 0), sum_ind, range_getD]
  have hp : ((List.range s.length).filter fun i => decide (i ∈ l)).Perm l := perm_of (List.nodup_range.filter _) hn fun x => by
    rw [List.mem_filter, List.mem_range, decide_eq_true_eq]
    exact ⟨fun h => h.2, fun h => ⟨hb x h, h⟩⟩
  rw [hp.length_eq]
theorem targets_sum {t : Nat} {w : List Nat} (hW : 0 < w.sum) : (Kex2.targets t w).sum = t := by
  obtain ⟨l, hp, hs⟩ := order_is (rems t w) w.length
  have hn : l.Nodup := hp.nodup_iff.mpr List.nodup_range
  rw [targets_bump hp hs, sum_bump (hn.sublist (List.take_sublist _ _)) (fun a ha => by
    rw [shares_len]
    exact List.mem_range.mp (hp.mem_iff.mp (List.mem_of_mem_take ha))), List.length_take, hp.length_eq, List.length_range, Nat.min_eq_left (rest_le hW)]
  have := shares_le (t := t) hW
  omega
end Vb

set_option maxHeartbeats 4000000
set_option Elab.async false
set_option linter.all false
/-! What holds of every state. -/
namespace Vb
open Kex2 (experimentAt)
/-- the weights of an experiment -/
def Wts (w : List Nat) : Prop := 2 ≤ w.length ∧ w.length ≤ 4 ∧ ∀ x ∈ w, 1 ≤ x ∧ x ≤ 100
/-- how many buckets the variants of an experiment own -/
def ownSum (os : List Nat) (e n : Nat) : Nat := ((List.range n).map fun v => Kex2.countOwner os (Kex2.ownerOf e v)).sum
structure Wf (a : Kex2.Assigner) : Prop where
  nl : a.layers.length ≤ 4
  ne : a.experiments.length ≤ 8
  no : a.overrides.length ≤ 16
  ns : a.sticky.length ≤ 32
  own : ∀ i l, a.layers[i]? = some l → l.owners.length = 100 ∧ ∀ o ∈ l.owners, o = 0 ∨ ∃ e v x, o = Kex2.ownerOf e v ∧ experimentAt a e = some x ∧ x.layer = i ∧ v < x.weights.length
  exp : ∀ e x, experimentAt a e = some x → x.layer < a.layers.length ∧ Wts x.weights ∧ x.traffic ≤ 100 ∧ ∀ l, a.layers[x.layer]? = some l → ownSum l.owners e x.weights.length = x.traffic
  ov : ∀ o ∈ a.overrides, ∃ x, experimentAt a o.experiment = some x ∧ o.variant < x.weights.length
  ovn : (a.overrides.map fun o => (o.experiment, o.unit)).Nodup
  st : ∀ s ∈ a.sticky, ∃ x, experimentAt a s.experiment = some x ∧ s.variant < x.weights.length
  stn : (a.sticky.filter fun s => decide (a.clock < s.expiry)).Pairwise fun s t => ¬ (s.experiment = t.experiment ∧ s.unit = t.unit)
end Vb

set_option Elab.async false
set_option linter.all false
set_option maxRecDepth 100000
set_option maxHeartbeats 4000000
/-! targets_of. -/
namespace Vb
open PySem PySem.Spec PyProof.Rows L2
open LamX (ExtN Tabs TabB)
section
variable {K : PySem.W.Frag}
theorem iSeq_by {a : Addr} {xs : List V} {tl : TE} {σ : L2.St} {H H1 : Hp} {R : It → Hp → Prop} (hS : SqA K H1 a xs) (ht : ∀ k : V → Hp → Prop, k (.ref a) H1 → tl σ H k)
    (h : ∀ (J : It) (G : Hp → Prop), Walk J xs.length G (YAt xs) → (∀ H', Same H1 H' → G H') → R J H1) : iSeq K tl σ H R := by
  rcases hS with hS | hS
  · exact .inl (ht _ ⟨a, rfl, ⟨xs, hS⟩, h _ _ walk_list fun H' s => s.seq hS⟩)
  · exact .inr (ht _ ⟨a, rfl, ⟨xs, hS⟩, h _ _ walk_tup fun H' s => same_seqT s hS⟩)
theorem SqA.same {H H' : Hp} {a : Addr} {xs : List V} (h : SqA K H a xs) (s : Same H H') : SqA K H' a xs := h.elim (fun h => .inl (s.seq h)) (fun h => .inr (same_seqT s h))
theorem seqN {H H' : Hp} {a : Addr} {xs : List V} (e : ExtN H H') (h : SqL K H a xs) : SqL K H' a xs := by
  rcases h with (h | ⟨o, h⟩) | h
  · exact .inl (.inl (e _ _ h fun ps z => by cases z))
  · exact .inl (.inr ⟨o, e _ _ h fun ps z => by cases z⟩)
  · exact .inr h
theorem seqTN {H H' : Hp} {a : Addr} {xs : List V} (e : ExtN H H') (h : SqT K H a xs) : SqT K H' a xs := by
  rcases h with (h | ⟨o, h⟩) | h
  · exact .inl (.inl (e _ _ h fun ps z => by cases z))
  · exact .inl (.inr ⟨o, e _ _ h fun ps z => by cases z⟩)
  · exact .inr h
theorem SqA.ext {H H' : Hp} {a : Addr} {xs : List V} (h : SqA K H a xs) (s : ExtN H H') : SqA K H' a xs := h.elim (fun h => .inl (seqN s h)) (fun h => .inr (seqTN s h))
end
theorem nats_get {l : List Nat} {i x : Nat} (h : l[i]? = some x) : (nats l)[i]? = some (nI x) := by rw [List.getElem?_map, h]; rfl
theorem getD_get {l : List Nat} {i : Nat} (h : i < l.length) : l[i]? = some (l.getD i 0) := by rw [List.getD_eq_getElem?_getD, List.getElem?_eq_getElem h]; rfl
theorem sum_nats : ∀ l : List Nat, (l.map fun (n : Nat) => (n : Int)).sum = ((l.sum : Nat) : Int)
  | [] => rfl
  | a :: r => by rw [List.map_cons, List.sum_cons, List.sum_cons, sum_nats r]; exact (Int.natCast_add a r.sum).symm
theorem cut_take (xs : List V) (t : Nat) : cutV xs none (some (t : Int)) = xs.take t := by
  unfold cutV
  rw [HT.sIx_nat, HT.sIx_none, List.drop_zero, Nat.sub_zero]
  by_cases h : t ≤ xs.length
  · rw [Nat.min_eq_left h]
  · rw [Nat.min_eq_right (by omega), List.take_length, List.take_of_length_le (by omega)]
theorem nats_takeN (l : List Nat) (t : Nat) : (nats l).take t = nats (l.take t) := by
  show (l.map nI).take t = (l.take t).map nI
  rw [List.map_take]
theorem nats_set (l : List Nat) (i x : Nat) : (nats l).set i (nI x) = nats (l.set i x) := by
  show (l.map nI).set i (nI x) = (l.set i x).map nI
  rw [List.map_set]
theorem sum_pos : ∀ {w : List Nat}, w ≠ [] → (∀ x ∈ w, 1 ≤ x) → 0 < w.sum
  | [], h, _ => absurd rfl h
  | a :: r, _, h => by
    rw [List.sum_cons]
    have := h a List.mem_cons_self
    omega
theorem sum_most : ∀ {w : List Nat}, (∀ x ∈ w, x ≤ 100) → w.sum ≤ w.length * 100
  | [], _ => by simp
  | a :: r, h => by
    rw [List.sum_cons, List.length_cons, Nat.succ_mul]
    have := h a List.mem_cons_self
    have := sum_most (w := r) fun x hx => h x (List.mem_cons_of_mem _ hx)
    omega
theorem Wts.pos {w : List Nat} (h : Wts w) : 0 < w.sum := sum_pos (by rintro rfl; exact absurd h.1 (by decide)) fun x hx => (h.2.2 x hx).1
theorem Wts.most {w : List Nat} (h : Wts w) : w.sum ≤ 400 := by
  have := sum_most fun x hx => (h.2.2 x hx).2
  have := h.2.1
  omega
/-- the key of the order -/
def tky (t : Nat) (w : List Nat) (i : Nat) : Int × Int := (-(((rems t w).getD i 0 : Nat) : Int), ((i : Nat) : Int))
theorem tky_bef {t : Nat} {w : List Nat} {i j : Nat} (h : SrtO.lexB (tky t w j) (tky t w i) = false) : bef (rems t w) j i = false := by
  unfold SrtO.lexB tky at h
  unfold bef
  by_cases c : (rems t w).getD j 0 = (rems t w).getD i 0
  · have h1 : (if (-(((rems t w).getD j 0 : Nat) : Int)) = (-(((rems t w).getD i 0 : Nat) : Int)) then decide (((j : Nat) : Int) < ((i : Nat) : Int)) else decide ((-(((rems t w).getD j 0 : Nat) : Int)) < (-(((rems t w).getD i 0 : Nat) : Int)))) = false := h
    rw [if_pos (by rw [c])] at h1
    have h2 := of_decide_eq_false h1
    rw [c, Bool.or_eq_false_iff, Bool.and_eq_false_iff]
    exact ⟨decide_eq_false (by omega), .inr (decide_eq_false (by omega))⟩
  · rw [if_neg (by simp only; omega)] at h
    simp only [decide_eq_false_iff_not] at h
    rw [Bool.or_eq_false_iff]
    refine ⟨decide_eq_false (by omega), ?_⟩
    rw [Bool.and_eq_false_iff]
    exact .inl (beq_eq_false_iff_ne.mpr c)
theorem tky_sorted {t : Nat} {w l : List Nat} (hp : l.Perm (List.range w.length)) (hs : l.Pairwise fun a b => SrtO.lexB (tky t w b) (tky t w a) = false) : l.Pairwise fun a b => bef (rems t w) a b = true := by
  have hn : l.Nodup := hp.nodup_iff.mpr List.nodup_range
  refine (hs.and hn).imp fun ⟨q1, q2⟩ => bef_total q2 ?_
  exact tky_bef q1
/-- the table of the code objects of targets_of -/
def tT (K : PySem.W.Frag) : List (Addr × Str) := [((He.cT K ("targets_of", none)).2, ("targets_of" : Str) ++ ".<locals>." ++ "<lambda>")]
/-- what the making of its lambda asks -/
def TabK (base : Heap) (mg : Str → Option Value) (K : PySem.W.Frag) : Prop := TabB base mg (He.cT K ("targets_of", none)).1 (He.cT K ("targets_of", none)).2
def spTargets (K : PySem.W.Frag) : Sp := fun vs H Q _ => ∃ (t : Nat) (a : Addr) (w : List Nat), vs = [nI t, .ref a] ∧ SqA K H a (nats w) ∧ Wts w ∧ t ≤ 100 ∧ Tabs (tT K) H ∧
  ∀ H' q, ExtN H H' → Tabs (tT K) H' → H q = none → H' q = some (.lst (nats (Kex2.targets t w))) → Q (.ref q) H'
section
variable {P : Program} {w : World} {K : PySem.W.Frag} {mg : Str → Option Value} {base : Heap}
theorem held_ofT {x qual : Str} {params : Arguments} {body : List Stmt} {scope : Scope} {p : He.Defn} {N ps : List Str} {k : Nat} {sp : Sp} (F : ∃ fd, FunD K x qual params body scope [] [] (He.fAd K p) fd) (S : FnScope N ps scope)
    (len : ∀ vs H Q E, sp vs H Q E → vs.length = ps.length)
    (hb : ∀ (kV doc pm : Value) (an : Option Addr) (cdv ct : Value) (us : List Value), us.length = ps.length → bindArgs (PySem.W.fnOf x qual params body scope .none kV doc pm an cdv ct) ⟨us, []⟩ = pure (ps.zip us))
    (hbody : ∀ (A : Around) (outer : List Env) (s : Shared) (H : Hp) (vs : List V) (Q : VK) (E : XK), Room k (A.deeper (envOfC qual scope s.heap.objs.size (He.fAd K p) (.ref (He.cT K p).1))) → sp vs H Q E →
      ∃ t, PSs (cxOf CX0 P w K mg base N qual scope (He.fAd K p) (.ref (He.cT K p).1) A outer s H E).nox body t ∧ t { nx := fun _ H' => Q .non H', rt := Q } (start N vs) H) : Held P w K mg base (k + 1) (He.fAd K p) sp := by
  obtain ⟨fd, F⟩ := F
  refine ⟨fd, ps, ?_, F.kp, F.bindsN hb⟩
  obtain ⟨oc, od, dV, kV, doc, pm, an, cdv, ct, osl, rfl, lk, hcd, _, _⟩ := F.ex
  obtain ⟨c, rfl⟩ := He.codeIn_ref hcd
  have ec : (He.cT K p).1 = c := He.codeOf_eq lk rfl
  subst ec
  refine fn_of lk hcd S len fun A outer s H vs Q E hr h => ?_
  obtain ⟨t, h1, h2⟩ := hbody A outer s H vs Q E hr h
  exact ⟨t, h1.nox, h2⟩
theorem sc_targets_of : FnScope ["traffic", "weights", "whole", "found", "order", "at", "rests", "weight"] ["traffic", "weights"] (defScope s_targets_of) := ⟨rfl, rfl, rfl, by decide +kernel, rfl, by decide +kernel, by decide +kernel⟩
/-- the lambda of the key, as the text has it -/
def keyLam : Stmt → Option (Arguments × Expr × Scope)
  | .Assign _ (.Call _ _ [⟨_, .Lambda a b s _, _⟩] _) _ => some (a, b, s)
  | _ => none
theorem h_targets_of (T : Txt K mg) (TK : TabK base mg K) : Held P w K mg base 6 (He.ga K "targets_of") (spTargets K) := by
  refine held_ofT (p := ("targets_of", none)) (ps := ["traffic", "weights"]) T.d_targets_of sc_targets_of (fun vs H Q E h => by obtain ⟨t, a, w, rfl, _⟩ := h; rfl) (fun _ _ _ _ _ _ us hl => match us, hl with | [_, _], _ => rfl) (fun A outer s H vs Q E hr h => ?_)
  have nd := sc_targets_of.nd
  refine ⟨_, pss_cons (ps_set (i := 2) nd rfl (Or.inr rfl) (pe_callB (cr_sumA rfl) (by rfl) T.f_sum (by decide +kernel) (pa_cons (pv 1) pa_nil)))
    (pss_cons (ps_setLc (i := 3) (own := [("weight", 7)]) (g := gName 7) (tt := tYes) (te := tOp (fun x y H Q => ∃ n m : Nat, x = .int (n : Int) ∧ y = .int (m : Int) ∧ (1 ≤ m ∧ m < 1073741824) ∧ Q (.int ((n / m : Nat) : Int)) H) (tOp (fun x y H Q => ∃ n m : Nat, x = .int (n : Int) ∧ y = .int (m : Int) ∧ n ≤ 4294967296 ∧ Q (.int ((n * m : Nat) : Int)) H) (tVar 0) (tVar 7)) (tVar 2)) rfl nd rfl rfl (sw_true rfl rfl rfl (by decide +kernel)) (pi_seq (pv 1))
        (blkOk_by (own := [("weight", 7)]) (N := ["traffic", "weights", "whole", "found", "order", "at", "rests", "weight"]) (sc := defScope s_targets_of) (by decide +kernel))
        (fun _ _ _ _ _ => pg_name (i := 7) nd rfl (Or.inl rfl)) (fun _ _ _ _ _ => pts_nil) (fun _ _ _ _ _ => pe_op op_fdivNN (pe_op op_mulN (pv 0) (pv 7)) (pv 2)))
    (pss_cons (ps_set (i := 6) nd rfl (Or.inr rfl) (pe_lc (own := [("weight", 7)]) (g := gName 7) (tt := tYes) (te := tOp (rI (fun _ j => 0 < j) fun i j => .int (i % j)) (tOp (fun x y H Q => ∃ n m : Nat, x = .int (n : Int) ∧ y = .int (m : Int) ∧ n ≤ 4294967296 ∧ Q (.int ((n * m : Nat) : Int)) H) (tVar 0) (tVar 7)) (tVar 2)) rfl nd (pi_seq (pv 1))
        (blkOk_by (own := [("weight", 7)]) (N := ["traffic", "weights", "whole", "found", "order", "at", "rests", "weight"]) (sc := defScope s_targets_of) (by decide +kernel))
        (fun _ _ _ _ _ => pg_name (i := 7) nd rfl (Or.inl rfl)) (fun _ _ _ _ _ => pts_nil) (fun _ _ _ _ _ => pe_op op_mod (pe_op op_mulN (pv 0) (pv 7)) (pv 2))))
    (pss_cons (ps_set (i := 4) nd rfl (Or.inl rfl) (pe_sortKey (T := tT K) (i := 5) (k := 1) (tb := tTup (tCons (tUn (rU fun i => .int (-i)) (tOp (rIxL K) (tVar 6) (tVar 5))) (tCons (tVar 5) tNil))) (by rfl) T.f_sorted hr.hd nd
        (pa_cons (pe_callTy cr_range1 (by rfl) T.f_range (by decide +kernel) (pa_cons (pe_callB call_len_seq (by rfl) T.f_len PySem.boot_len (pa_cons (pv 1) pa_nil)) pa_nil)) pa_nil)
        TK rfl (List.mem_singleton.mpr rfl) (fun q hq _ => by rw [List.mem_singleton.mp hq]; rfl) hr (lamP_by (sc := defScope s_targets_of) (by decide +kernel)) rfl rfl (fun _ _ _ _ _ _ => rfl)
        (fun _ _ _ _ _ _ => pe_tup (pa_cons (pe_un un_neg (pe_ix ix_list (pv 6) (pv 5) (fun _ _ => rfl))) (pa_cons (pv 5) pa_nil)))))
    (pss_cons (ps_for PassesOwn.never rfl (pi_list (pe_slice sl_list (pv 4) po_none (po_some (pe_op op_subN (pv 0) (pe_callB (cr_sumA rfl) (by rfl) T.f_sum (by decide +kernel) (pa_cons (pv 3) pa_nil)))))) (pg_name (i := 5) nd rfl (Or.inl rfl))
      (pss_one (ps_augS (pv 3) (pv 5) get_list pe_int ip_add set_list)))
    (pss_one (ps_ret (pv 3))))))), ?_⟩
  obtain ⟨t, a, ws, rfl, hS, hW, ht, hT, k⟩ := h
  have hn4 := hW.2.1
  have hsum : (nats ws) = (ws.map fun (n : Nat) => (n : Int)).map V.int := by rw [List.map_map]; rfl
  -- whole
  refine ⟨_, rfl, a, ws.map fun (n : Nat) => (n : Int), rfl, by rw [← hsum]; exact hS, ?_⟩
  rw [sum_nats]
  have hdiv : 1 ≤ ws.sum ∧ ws.sum < 1073741824 := ⟨hW.pos, by have := hW.most; omega⟩
  -- found
  refine iSeq_by (xs := nats ws) hS (fun k hk => ⟨_, rfl, hk⟩) fun J G wk hG D hD => ?_
  refine lc_it wk (fun i H1 => Same H H1 ∧ H1 D = some (.lst (nats ((shares t ws).take i)))) ⟨same_new hD, by rw [upd_same]; rfl⟩ (fun i H1 _ p => hG H1 p.1) ?_ ?_
  · rintro i x H1 H2 hi ⟨s1, hD1⟩ ⟨rfl, hx⟩
    obtain ⟨n, hn, rfl⟩ := map_get hx
    have hsh : (shares t ws)[i]? = some (t * n / ws.sum) := by unfold shares; rw [List.getElem?_map, hn]; rfl
    refine ⟨rfl, ?_⟩
    refine ⟨_, rfl, _, rfl, t, n, rfl, rfl, by omega, _, rfl, _, _, rfl, rfl, hdiv, _, hD1, ?_, same_upd s1 hD, ?_⟩
    · rw [nats_len, List.length_take]
      exact Nat.lt_of_le_of_lt (show _ ≤ 4 by rw [shares_len]; omega) (by decide)
    · rw [upd_same, take_snoc hsh, nats_app]
      rfl
  rintro H1 ⟨s1, hD1⟩
  rw [nats_len, List.take_of_length_le (by rw [shares_len]; exact Nat.le_refl _)] at hD1
  -- rests
  refine iSeq_by (xs := nats ws) (hS.same s1) (fun k hk => ⟨_, rfl, hk⟩) fun J G wk hG R hR => ?_
  refine lc_it wk (fun i H2 => Same H1 H2 ∧ H2 R = some (.lst (nats ((rems t ws).take i)))) ⟨same_new hR, by rw [upd_same]; rfl⟩ (fun i H1 _ p => hG H1 p.1) ?_ ?_
  · rintro i x H2 H3 hi ⟨s2, hR2⟩ ⟨rfl, hx⟩
    obtain ⟨n, hn, rfl⟩ := map_get hx
    have hsh : (rems t ws)[i]? = some (t * n % ws.sum) := by unfold rems; rw [List.getElem?_map, hn]; rfl
    refine ⟨rfl, ?_⟩
    refine ⟨_, rfl, _, rfl, t, n, rfl, rfl, by omega, _, rfl, _, _, rfl, rfl, by have := hdiv.1; omega, _, hR2, ?_, same_upd s2 hR, ?_⟩
    · rw [nats_len, List.length_take]
      exact Nat.lt_of_le_of_lt (show _ ≤ 4 by rw [rems_len]; omega) (by decide)
    · rw [upd_same, take_snoc hsh, nats_app]
      exact congrArg (fun z => some (HO.lst (nats ((rems t ws).take i) ++ [V.int z]))) (modI (t * n) ws.sum)
  rintro H2 ⟨s2, hR2⟩
  rw [nats_len, List.take_of_length_le (by rw [rems_len]; exact Nat.le_refl _)] at hR2
  have s02 := s1.trans s2
  -- order
  refine ⟨_, rfl, a, _, rfl, hS.same s02, _, rfl, fun r hr0 => ?_⟩
  rw [nats_len]
  have s3 : Same H2 (upd H2 r (.rng 0 ((ws.length : Nat) : Int))) := same_new hr0
  refine ⟨r, ws.length, tky t ws, rfl, upd_same, by omega, hT.ext (s02.trans s3), fun j H3 Q2 hj e3 hq => ?_, fun H3 O out hp hs e3 hT3 hO => ?_⟩
  · have hR3 : H3 R = some (.lst (nats (rems t ws))) := e3 _ _ (s3 _ _ hR2) fun ps z => by cases z
    refine ⟨_, rfl, _, rfl, R, _, _, _, rfl, rfl, SqL.of hR3, atI_nat (nats_get (getD_get (show j < (rems t ws).length by rw [rems_len]; exact hj))), _, rfl, _, rfl, (by show 2 ≤ sizeLine; decide), fun p hpn => hq p hpn⟩
  -- the loop
  have hD3 : H3 D = some (.lst (nats (shares t ws))) := e3 _ _ (s3 _ _ (s2 _ _ hD1)) fun ps z => by cases z
  have e03 : ExtN H H3 := (ExtN.of (s02.trans s3)).trans e3
  have hso := tky_sorted hp hs
  have hno : out.Nodup := hp.nodup_iff.mpr List.nodup_range
  refine ⟨_, rfl, _, rfl, _, rfl, D, (shares t ws).map fun (n : Nat) => (n : Int), rfl, .inl (by rw [List.map_map]; exact SqL.of hD3), ?_⟩
  rw [sum_nats]
  refine ⟨_, _, rfl, rfl, shares_le hW.pos, _, rfl, O, _, rfl, SqL.of hO, fun S hSn => ?_⟩
  rw [cut_take, nats_takeN]
  generalize hq : t - (shares t ws).sum = q at *
  have s4 : Same H3 (upd H3 S (.lst (nats (out.take q)))) := same_new hSn
  generalize hH4 : upd H3 S (.lst (nats (out.take q))) = H4 at *
  have hS4 : H4 S = some (.lst (nats (out.take q))) := by rw [← hH4]; exact upd_same
  have nSD : S ≠ D := (ne_of_none hD3 hSn).symm
  have nD0 : H D = none := hD
  refine ⟨S, rfl, ⟨_, SqL.of hS4⟩, ?_⟩
  refine for_it (walk_list (K := K) (a := S) (xs := nats (out.take q))) (fun i σ H5 => ∃ v5 v7 : Option V, σ = [some (nI t), some (.ref a), some (nI ws.sum), some (.ref D), some (.ref O), v5, some (.ref R), v7] ∧
      ExtN H H5 ∧ Tabs (tT K) H5 ∧ H5 S = some (.lst (nats (out.take q))) ∧ H5 D = some (.lst (nats (bump (shares t ws) ((out.take q).take i)))))
    ⟨_, _, rfl, e03.trans (.of s4), hT3.ext s4, hS4, by rw [List.take_zero, bump_nil]; exact s4 _ _ hD3⟩ (fun i σ H5 _ p => by obtain ⟨_, _, _, _, _, h1, _⟩ := p; exact SqL.of h1) ?_ ?_
  · rintro i x σ H5 H5' hi ⟨v5, v7, rfl, e5, T5, hS5, hD5⟩ ⟨rfl, hx⟩
    obtain ⟨b, hb, rfl⟩ := map_get hx
    have hbl : b < (shares t ws).length := by
      rw [shares_len]
      exact List.mem_range.mp (hp.mem_iff.mp (List.mem_of_mem_take (List.mem_of_getElem? hb)))
    have hnot : b ∉ (out.take q).take i := fun z => by
      obtain ⟨j, hj⟩ := List.mem_iff_getElem?.mp z
      rw [List.getElem?_take] at hj
      split at hj
      · rename_i c
        have hn2 : (out.take q).Nodup := hno.sublist (List.take_sublist _ _)
        have := (List.getElem?_inj (List.getElem?_eq_some_iff.mp hj).1 hn2).mp (hj.trans hb.symm)
        omega
      · cases hj
    have hget : (bump (shares t ws) ((out.take q).take i))[b]? = some ((shares t ws).getD b 0) := by
      rw [bump_get hbl, if_neg hnot]
      rfl
    refine ⟨_, rfl, _, rfl, D, _, _, _, rfl, rfl, SqL.of hD5, nats_get hget, _, _, rfl, rfl, D, _, _, b, rfl, rfl, hD5, ixN_nat (by rw [nats_len, bump_len]; exact hbl), ?_⟩
    refine ⟨_, _, rfl, fun b' o e ne => ?_, fun p hp => ?_, by rw [upd_ne nSD]; exact hS5, ?_⟩
    · rw [upd_ne (ne_of_none e hD)]
      exact e5 _ _ e ne
    · obtain ⟨ps, h1, h2, h3⟩ := T5 p hp
      have nD : D ≠ p.1 := fun z => by rw [← z, hD5] at h1; cases h1
      refine ⟨ps, by rw [upd_ne nD.symm]; exact h1, h2, fun pos cv hc => ?_⟩
      obtain ⟨c, e1, e2⟩ := h3 pos cv hc
      refine ⟨c, e1, ?_⟩
      rw [upd_ne (fun z => by rw [z, hD5] at e2; unfold LamX.CodeO at e2; cases e2)]
      exact e2
    · rw [upd_same, take_snoc hb, bump_snoc hbl hnot]
      rw [show V.int (((shares t ws).getD b 0 : Nat) + (1 : Int)) = nI ((shares t ws).getD b 0 + 1) from rfl, nats_set]
  · rintro σ H5 ⟨v5, v7, rfl, e5, T5, hS5, hD5⟩
    rw [nats_len, List.take_length] at hD5
    refine ⟨_, rfl, ?_⟩
    refine k H5 D e5 T5 hD ?_
    rw [hD5, ← hq, targets_bump hp hso]
end
end Vb

set_option Elab.async false
set_option linter.all false
set_option maxRecDepth 100000
set_option maxHeartbeats 4000000
/-! The dict of the overrides: keys (number, tuple of numbers). -/
namespace Vb
open PySem PySem.Spec PyProof.Rows L2
structure Ov where
  e : Nat
  u : List Nat
  ad : Addr
  v : Nat
def isO (e : Nat) (u : List Nat) (x : Ov) : Bool := x.e == e && x.u == u
def findO (xs : List Ov) (e : Nat) (u : List Nat) : Option Ov := xs.find? (isO e u)
def putO (e : Nat) (u : List Nat) (v : Nat) (x : Ov) : Ov := if isO e u x = true then { x with v := v } else x
def storeO (xs : List Ov) (e : Nat) (u : List Nat) (a : Addr) (v : Nat) : List Ov := if (findO xs e u).isSome then xs.map (putO e u v) else xs ++ [⟨e, u, a, v⟩]
def dropO (xs : List Ov) (e : Nat) (u : List Nat) : List Ov := xs.filter fun x => !isO e u x
def uKey (e : Nat) (u : List Nat) : NestedKey := .tup [.num (e : Int), .tup (u.map fun (n : Nat) => .num (n : Int))]
theorem num_inj : ∀ {u v : List Nat}, (u.map fun (n : Nat) => NestedKey.num (n : Int)) = v.map (fun (n : Nat) => NestedKey.num (n : Int)) → u = v
  | [], [], _ => rfl
  | [], _ :: _, h => by cases h
  | _ :: _, [], h => by cases h
  | a :: u, b :: v, h => by
    rw [List.map_cons, List.map_cons] at h
    injection h with h1 h2
    injection h1 with h1
    rw [num_inj h2, Int.ofNat.inj h1]
theorem uKey_inj {e f : Nat} {u v : List Nat} (h : uKey e u = uKey f v) : e = f ∧ u = v := by
  unfold uKey at h
  injection h with h
  injection h with h1 h2
  injection h1 with h1
  injection h2 with h2 _
  injection h2 with h2
  exact ⟨Int.ofNat.inj h1, num_inj h2⟩
theorem depth_nums : ∀ u : List Nat, NestedKey.depthAll (u.map fun (n : Nat) => .num (n : Int)) = 0
  | [] => rfl
  | a :: u => by
    rw [List.map_cons, NestedKey.depthAll, depth_nums u]
    rfl
theorem uKey_depth (e : Nat) (u : List Nat) : (uKey e u).depth ≤ 8 := by
  unfold uKey
  simp only [NestedKey.depth, NestedKey.depthAll, depth_nums]
  decide
def EvR (x : Ov) (y : NestedKey × Addr × Value) : Prop := y.1 = uKey x.e x.u ∧ y.2.1 = x.ad ∧ ∃ t, y.2.2 = .int (x.v : Int) t
def DicO (P : Program) (w : World) (d : Addr) (xs : List Ov) : HO := .ext fun h => xs.length ≤ sizeLine ∧ (d == sysModules) = false ∧ ∃ ys, Paired EvR xs ys ∧
  (∃ o es ep, h.get? d = some o ∧ o.ExactDict ∧ o.data = .dict es ep ∧ es.toList = ys.map (entryOfKey (nestedKind P w))) ∧ (ys.map (·.1)).Nodup
/-- the tuple of a key -/
def KeyT (K : PySem.W.Frag) (H : Hp) (a : Addr) (e : Nat) (u : List Nat) : Prop := ∃ q, H a = some (.tup [nI e, .ref q]) ∧ SqT K H q (nats u)
def KeysT (K : PySem.W.Frag) (H : Hp) (xs : List Ov) : Prop := ∀ x ∈ xs, KeyT K H x.ad x.e x.u
theorem isO_iff {e : Nat} {u : List Nat} {x : Ov} : isO e u x = true ↔ x.e = e ∧ x.u = u := by unfold isO; simp
theorem isO_key {e : Nat} {u : List Nat} {x : Ov} : isO e u x = decide (uKey x.e x.u = uKey e u) := by
  by_cases h : isO e u x = true
  · obtain ⟨rfl, rfl⟩ := isO_iff.mp h
    rw [h, decide_eq_true rfl]
  · rw [decide_eq_false fun z => h (isO_iff.mpr (uKey_inj z))]
    exact Bool.not_eq_true _ ▸ h
theorem find_pair {e : Nat} {u : List Nat} : ∀ {xs : List Ov} {ys : List (NestedKey × Addr × Value)}, Paired EvR xs ys →
    (findO xs e u = none ∧ atKey ys (uKey e u) = none) ∨ ∃ x p t, findO xs e u = some x ∧ atKey ys (uKey e u) = some p ∧ p.2 = .int (x.v : Int) t
  | _, _, .nil => .inl ⟨rfl, rfl⟩
  | x :: xs, y :: ys, .cons r t => by
    obtain ⟨r1, r2, tk, r3⟩ := r
    have ed : decide (y.1 = uKey e u) = isO e u x := by rw [isO_key, r1]
    cases c : isO e u x with
    | true =>
      refine .inr ⟨x, y.2, tk, ?_, ?_, r3⟩
      · unfold findO
        rw [List.find?_cons, c]
      · unfold atKey
        rw [List.find?_cons, ed, c]
        rfl
    | false =>
      have e1 : findO (x :: xs) e u = findO xs e u := by
        unfold findO
        rw [List.find?_cons, c]
      have e2 : atKey (y :: ys) (uKey e u) = atKey ys (uKey e u) := by
        unfold atKey
        rw [List.find?_cons, ed, c]
      rw [e1, e2]
      exact find_pair t
theorem drop_pair {e : Nat} {u : List Nat} : ∀ {xs : List Ov} {ys : List (NestedKey × Addr × Value)}, Paired EvR xs ys → Paired EvR (dropO xs e u) (withoutH ys (uKey e u))
  | _, _, .nil => .nil
  | x :: xs, y :: ys, .cons r t => by
    have ed : decide (y.1 ≠ uKey e u) = !isO e u x := by rw [isO_key, r.1]; simp
    unfold dropO withoutH
    rw [List.filter_cons, List.filter_cons, ed]
    cases c : isO e u x with
    | true => exact drop_pair t
    | false => exact .cons r (drop_pair t)
theorem put_pair {e v : Nat} {tk : Tok} {u : List Nat} : ∀ {xs : List Ov} {ys : List (NestedKey × Addr × Value)}, Paired EvR xs ys → Paired EvR (xs.map (putO e u v)) (ys.map (putAt (uKey e u) (.int (v : Int) tk)))
  | _, _, .nil => .nil
  | x :: xs, y :: ys, .cons r t => by
    refine .cons ?_ (put_pair t)
    obtain ⟨r1, r2, r3⟩ := r
    unfold putO putAt
    by_cases c : isO e u x = true
    · rw [if_pos c, if_pos (by rw [r1, (isO_iff.mp c).1, (isO_iff.mp c).2])]
      exact ⟨r1, r2, tk, rfl⟩
    · rw [if_neg c, if_neg fun z => c (isO_iff.mpr (uKey_inj (r1.symm.trans z)))]
      exact ⟨r1, r2, r3⟩
theorem store_pair {e v : Nat} {tk : Tok} {a : Addr} {u : List Nat} {xs : List Ov} {ys : List (NestedKey × Addr × Value)} (h : Paired EvR xs ys) : Paired EvR (storeO xs e u a v) (storedH ys (uKey e u) a (.int (v : Int) tk)) := by
  unfold storeO storedH
  rcases find_pair (e := e) (u := u) h with ⟨h1, h2⟩ | ⟨x, p, t, h1, h2, _⟩
  · rw [h1, h2]
    exact h.snoc ⟨rfl, rfl, tk, rfl⟩
  · rw [h1, h2]
    exact put_pair h
theorem paired_ex {α β : Type} {F : α → β → Prop} : ∀ {l : List α} {m : List β}, Paired F l m → ∀ y ∈ m, ∃ x ∈ l, F x y
  | _, _, .nil, x, h => by cases h
  | _, _, .cons r t, y, h => by
    rcases List.mem_cons.mp h with e | h
    · rw [e]
      exact ⟨_, List.mem_cons_self, r⟩
    · obtain ⟨x, h1, h2⟩ := paired_ex t y h
      exact ⟨x, List.mem_cons_of_mem _ h1, h2⟩
theorem paired_get {α β : Type} {F : α → β → Prop} : ∀ {l : List α} {m : List β} {j : Nat} {x : α}, Paired F l m → l[j]? = some x → ∃ y, m[j]? = some y ∧ F x y
  | _, _, _, _, .nil, h => by simp at h
  | _, _, 0, _, .cons r t, h => by
    simp at h
    subst h
    exact ⟨_, rfl, r⟩
  | _, _, j + 1, _, .cons r t, h => by
    simp at h
    obtain ⟨y, h1, h2⟩ := paired_get t h
    exact ⟨y, by simpa using h1, h2⟩
theorem vals_by : ∀ {xs : List V} {us : List Value}, xs.length = us.length → (∀ (j : Nat) x, xs[j]? = some x → ∃ u, us[j]? = some u ∧ RelV x u) → Vals xs us
  | [], [], _, _ => .nil
  | [], _ :: _, h, _ => by cases h
  | _ :: _, [], h, _ => by cases h
  | x :: xs, u :: us, h, k => by
    refine .cons ?_ (vals_by (Nat.succ.inj h) fun j y hy => ?_)
    · obtain ⟨v, e, r⟩ := k 0 x rfl
      cases e
      exact r
    · obtain ⟨v, e, r⟩ := k (j + 1) y (by simpa using hy)
      exact ⟨v, by simpa using e, r⟩
theorem nested_nats {h : Heap} : ∀ {u : List Nat} {us : List Value}, Vals (nats u) us → NestedAll h (u.map fun (n : Nat) => .num (n : Int)) us
  | [], _, .nil => .nil
  | _ :: _, _, .cons ⟨t, r⟩ q => by
    rw [r]
    exact .cons (.int _ t) (nested_nats q)
section
variable {X : Cx} {pins : List (Addr × Obj)} {σ : L2.St} {H : Hp} {s : Shared}
theorem tup_is {a : Addr} {u : List Nat} (I : Inv X pins σ H s) (h : SqT X.K H a (nats u)) : NestedIs s.heap (.tup (u.map fun (n : Nat) => .num (n : Int))) (.ref a) := by
  obtain ⟨its, r, ⟨o, ho, hc, n, hd⟩, _⟩ := I.tuple h
  exact .tup ho hc hd (nested_nats (by simpa using r))
theorem key_is {a : Addr} {e : Nat} {u : List Nat} (I : Inv X pins σ H s) (h : KeyT X.K H a e u) : (nestedKind X.prog X.w).is s.heap (uKey e u) a := by
  obtain ⟨q, h1, h2⟩ := h
  obtain ⟨_, its, r, o, ho, hc, n, hd⟩ := I.hok a _ h1
  obtain ⟨u1, u2, rfl, r1, r2⟩ := vals2 r
  obtain ⟨t1, rfl⟩ := r1
  cases r2
  exact ⟨.tup ho hc hd (.cons (.int _ t1) (.cons (tup_is I h2) .nil)), uKey_depth _ _⟩
theorem dic_of {d : Addr} {xs : List Ov} (I : Inv X pins σ H s) (h : H d = some (DicO X.prog X.w d xs)) (hk : KeysT X.K H xs) : xs.length ≤ sizeLine ∧ (d == sysModules) = false ∧ ∃ ys, Paired EvR xs ys ∧ s.heap.DictOfH (nestedKind X.prog X.w) d ys := by
  obtain ⟨⟨z, hd, ys, hp, ⟨o, es, ep, h1, h2, h3, h4⟩, hn⟩, _⟩ := I.hok d _ h
  refine ⟨z, hd, ys, hp, o, es, ep, h1, h2, h3, h4, fun y hy => ?_, hn⟩
  obtain ⟨x, hx, r1, r2, _⟩ := paired_ex hp y hy
  rw [r1, r2]
  exact key_is I (hk x hx)
theorem dic_new {P : Program} {w : World} {H' : Hp} {h' : Heap} {d : Addr} {xs : List Ov} {ys : List (NestedKey × Addr × Value)} (z : xs.length ≤ sizeLine) (hd : (d == sysModules) = false) (hp : Paired EvR xs ys) (dd : h'.DictOfH (nestedKind P w) d ys) : ObjOk P w H' h' d (DicO P w d xs) := by
  obtain ⟨o, es, ep, h1, h2, h3, h4, _, hn⟩ := dd
  refine ⟨⟨z, hd, ys, hp, ⟨o, es, ep, h1, h2, h3, h4⟩, hn⟩, ⟨o, h1⟩, fun g1 g2 ⟨z, hd, ys, hp, ⟨o, es, ep, h1, h2, h3, h4⟩, hn⟩ st => ?_⟩
  exact ⟨z, hd, ys, hp, ⟨o, es, ep, st o h1, h2, h3, h4⟩, hn⟩
theorem dic_write {d : Addr} {xs xs' : List Ov} {ys' : List (NestedKey × Addr × Value)} {h' : Heap} {tk : Nat} (I : Inv X pins σ H s) (h : H d = some (DicO X.prog X.w d xs)) (z : xs'.length ≤ sizeLine) (hd : (d == sysModules) = false) (hp : Paired EvR xs' ys')
    (dd : h'.DictOfH (nestedKind X.prog X.w) d ys') (hs : Heap.SameBut d s.heap h') : Inv X pins σ (upd H d (DicO X.prog X.w d xs')) { s with heap := h', toks := tk } := by
  have ex : ∃ u, h'.get? d = some u := let ⟨o, _, _, e, _⟩ := dd; ⟨o, e⟩
  exact I.write (x := d) (e := d) (by rw [h]; exact True.intro) (.inl rfl) (fun b q hb z => (hs.2 b hb).trans z) ex (dic_new z hd hp dd)
end
section
variable {X : Cx} {pos : Pos}
def tDNewO (P : Program) (w : World) : TE := fun _ H Q => ∀ p, H p = none → Q (.ref p) (upd H p (DicO P w p []))
theorem pe_dnewO : PE X (.Dict [] [] pos) (tDNewO X.prog X.w) := ⟨fun pins s σ H Q I h =>
  wpAny_Dict_empty ⟨.ref s.heap.objs.size, _, I.laid (a := s.heap.objs.size) (o := DicO X.prog X.w s.heap.objs.size []) (t' := s.toks) (fun _ _ q => Heap.get?_push_of_some _ q) (Nat.le_refl _)
    (dic_new (ys := []) (Nat.zero_le _) (beq_eq_false_iff_ne.mpr (Ne.symm (Nat.ne_of_lt I.big))) .nil (Heap.DictOfH.new s.heap)), rfl, h _ (I.hok.fresh (Nat.le_refl _))⟩⟩
/-- (e, u) in d -/
def rInO (P : Program) (w : World) (K : PySem.W.Frag) (g : Bool → Bool) : R2 := fun x y H Q => ∃ a d e u xs, x = .ref a ∧ y = .ref d ∧ H d = some (DicO P w d xs) ∧ KeysT K H xs ∧ KeyT K H a e u ∧ Q (.bl (g (findO xs e u).isSome)) H
theorem op_inO (hu : X.A.units + 9 < cLine) : OpR X (compareOp .In) (rInO X.prog X.w X.K id) := by
  intro pins s σ H x y v u Q I rx ry h
  obtain ⟨a, d, e, un, xs, rfl, rfl, hH, hk, hkey, q⟩ := h
  cases rx
  cases ry
  obtain ⟨z, hd, ys, hp, dd⟩ := dic_of I hH hk
  refine wpAny_in_heap (show X.A.in1.units + 8 < cLine by rw [Around.in1_units]; omega) (key_is I hkey) hd dd ?_
  have e2 : (atKey ys (uKey e un)).isSome = (findO xs e un).isSome := by
    rcases find_pair (e := e) (u := un) hp with ⟨h1, h2⟩ | ⟨x, p, t, h1, h2, _⟩ <;> rw [h1, h2] <;> rfl
  rw [e2]
  exact ⟨.bl _, H, I.tok _, rfl, q⟩
theorem op_notinO (hu : X.A.units + 9 < cLine) : OpR X (compareOp .NotIn) (rInO X.prog X.w X.K not) := by
  intro pins s σ H x y v u Q I rx ry h
  obtain ⟨a, d, e, un, xs, rfl, rfl, hH, hk, hkey, q⟩ := h
  cases rx
  cases ry
  obtain ⟨z, hd, ys, hp, dd⟩ := dic_of I hH hk
  refine notIn_keyed (kvs := pairsH ys) (show X.A.in1.units + 8 < cLine by rw [Around.in1_units]; omega) (key_is I hkey) hd ⟨ys, dd, rfl⟩ ?_
  have e2 : (valueAt (pairsH ys) (uKey e un)).isSome = (findO xs e un).isSome := by
    rw [valueAt_pairsH, Option.isSome_map]
    rcases find_pair (e := e) (u := un) hp with ⟨h1, h2⟩ | ⟨x, p, t, h1, h2, _⟩ <;> rw [h1, h2] <;> rfl
  rw [e2]
  exact ⟨.bl _, H, I.tok _, rfl, q⟩
/-- d[(e, u)] -/
def rIxO (P : Program) (w : World) (K : PySem.W.Frag) : R2 := fun x y H Q => ∃ d a e u xs o, x = .ref d ∧ y = .ref a ∧ H d = some (DicO P w d xs) ∧ KeysT K H xs ∧ KeyT K H a e u ∧ findO xs e u = some o ∧ Q (nI o.v) H
theorem ix_O (hu : X.A.units + 9 < cLine) : IxR X (rIxO X.prog X.w X.K) := by
  intro value slice pins s σ H x y v u Q I rx ry h hs
  obtain ⟨d, a, e, un, xs, o, rfl, rfl, hH, hk, hkey, hf, q⟩ := h
  cases rx
  cases ry
  obtain ⟨z, hd, ys, hp, dd⟩ := dic_of I hH hk
  rcases find_pair (e := e) (u := un) hp with ⟨h1, _⟩ | ⟨x, p, t, h1, h2, h3⟩
  · rw [hf] at h1
    cases h1
  · rw [hf] at h1
    cases h1
    refine tail_any dd.typeIs slot_dict_getitem.lookup (wpAny_getItem_heap (show X.A.in1.units + 8 < cLine by rw [Around.in1_units]; omega) (key_is I hkey) dd h2 ?_) hs
    exact ⟨nI o.v, H, I.tok _, ⟨t, h3⟩, q⟩
/-- d[(e, u)] = v -/
def rSetO (P : Program) (w : World) (K : PySem.W.Frag) : V → V → V → Hp → (Hp → Prop) → Prop := fun o i v H Q => ∃ d a e u xs n, o = .ref d ∧ i = .ref a ∧ v = nI n ∧ H d = some (DicO P w d xs) ∧ KeysT K H xs ∧ KeyT K H a e u ∧ xs.length < 1000 ∧ Q (upd H d (DicO P w d (storeO xs e u a n)))
theorem storeO_len (xs : List Ov) (e : Nat) (u : List Nat) (a : Addr) (v : Nat) : (storeO xs e u a v).length ≤ xs.length + 1 := by
  unfold storeO
  split
  · rw [List.length_map]; omega
  · rw [List.length_append]; exact Nat.le_refl _
theorem set_O (hu : X.A.units + 9 < cLine) : PSet X (rSetO X.prog X.w X.K) := by
  intro pins s σ H o i v ov iv u Q I ro ri rv h
  obtain ⟨d, a, e, un, xs, n, rfl, rfl, rfl, hH, hk, hkey, hl, q⟩ := h
  cases ro
  cases ri
  obtain ⟨t, rfl⟩ := rv
  obtain ⟨z, hd, ys, hp, dd⟩ := dic_of I hH hk
  refine wpAny_setItem_heap (hsz := by rw [← Paired.length hp]; exact z) (show X.A.in1.units + 8 < cLine by rw [Around.in1_units]; omega) (key_is I hkey) dd fun h' dd' hs => ?_
  exact ⟨_, dic_write I hH (Nat.le_trans (storeO_len ..) (Nat.le_trans (show _ ≤ 1000 by omega) (by decide))) hd (store_pair hp) dd' hs, q⟩
/-- d.pop((e, u)) -/
def rPopO (P : Program) (w : World) (K : PySem.W.Frag) : V → List V → Hp → VK → Prop := fun x vs H Q => ∃ d a e u xs o, x = .ref d ∧ vs = [.ref a] ∧ H d = some (DicO P w d xs) ∧ KeysT K H xs ∧ KeyT K H a e u ∧ findO xs e u = some o ∧ Q (nI o.v) (upd H d (DicO P w d (dropO xs e u)))
theorem mt_popO (hu : X.A.units + 9 < cLine) : MtM X "dict.pop" (rPopO X.prog X.w X.K) := by
  intro pins s σ H x vs v us Q I rx rv h
  obtain ⟨d, a, e, un, xs, o, rfl, rfl, hH, hk, hkey, hf, q⟩ := h
  cases rx
  obtain ⟨u, rfl, ru⟩ := rv.one
  cases ru
  obtain ⟨z, hd, ys, hp, dd⟩ := dic_of I hH hk
  rcases find_pair (e := e) (u := un) hp with ⟨h1, _⟩ | ⟨x, p, t, h1, h2, h3⟩
  · rw [hf] at h1
    cases h1
  · rw [hf] at h1
    cases h1
    refine call_pop_heap (more := []) (.inl rfl) (PySem.F.args_dict_pop_2 _ _) (show X.A.in1.units + 8 < cLine by rw [Around.in1_units]; omega) (key_is I hkey) hd dd h2 (fun h' dd' hs => ?_) (by rw [← Paired.length hp]; exact z)
    exact ⟨nI o.v, _, dic_write I hH (Nat.le_trans (List.length_filter_le _ _) z) hd (drop_pair hp) dd' hs, ⟨t, h3⟩, q⟩
/-- len(d) -/
def rLenO (P : Program) (w : World) (K : PySem.W.Frag) : List V → Hp → VK → Prop := fun vs H Q => ∃ d xs, vs = [.ref d] ∧ H d = some (DicO P w d xs) ∧ KeysT K H xs ∧ Q (nI xs.length) H
theorem cr_lenO : CallR X (.builtin "len") (rLenO X.prog X.w X.K) := by
  intro pins s σ H vs us Q I r h
  obtain ⟨d, xs, rfl, hH, hk, q⟩ := h
  rw [Vals.ref1 r]
  obtain ⟨z, hd, ys, hp, dd⟩ := dic_of I hH hk
  have hl := Paired.length hp
  refine call_len_dictH hd dd (by rw [← hl]; rw [sizeLine_eq] at z; omega) ?_
  rw [← hl]
  exact ⟨nI xs.length, H, I.tok _, ⟨_, rfl⟩, q⟩
/-- list(d) -/
def rListO (P : Program) (w : World) (K : PySem.W.Frag) : List V → Hp → VK → Prop := fun vs H Q => ∃ d xs, vs = [.ref d] ∧ H d = some (DicO P w d xs) ∧ KeysT K H xs ∧ ∀ p, H p = none → Q (.ref p) (upd H p (.lst (xs.map fun x => .ref x.ad)))
theorem cr_listO (hh : X.A.handled = none) : CallR X (.type "list") (rListO X.prog X.w X.K) := by
  intro pins s σ H vs us Q I r h
  obtain ⟨d, xs, rfl, hH, hk, q⟩ := h
  rw [Vals.ref1 r]
  obtain ⟨z, hd, ys, hp, dd⟩ := dic_of I hH hk
  obtain ⟨o, es, ep, h1, h2, h3, h4, _, hn⟩ := id dd
  have hl := Paired.length hp
  have hes : es.size = xs.length := by rw [← Array.length_toList, h4, List.length_map, hl]
  refine PySem.W.kdl_call (PySem.KdlSrc.rawDict (es := es) (ep := ep) hd) hh ⟨o, h1, h2, h3⟩ (by rw [hes]; exact z) fun h' tk acc' c' hkp hnew hacc => ?_
  obtain ⟨hsz, hat⟩ := hacc
  have hv : Vals (xs.map fun x => V.ref x.ad) acc'.toList := by
    refine vals_by ((List.length_map _).trans (hes.symm.trans (hsz.symm.trans (Array.length_toList (xs := acc')).symm))) fun j x hx => ?_
    rw [List.getElem?_map] at hx
    cases e : xs[j]? with
    | none =>
      rw [e] at hx
      cases hx
    | some o =>
      rw [e] at hx
      cases hx
      have hj : j < es.size := by rw [hes]; exact (List.getElem?_eq_some_iff.mp e).1
      obtain ⟨v, hv⟩ : ∃ v, acc'[j]? = some v := ⟨acc'[j]'(by rw [hsz]; exact hj), Array.getElem?_eq_getElem _⟩
      obtain ⟨_, hvk⟩ := hat j v hv
      refine ⟨v, by rw [Array.getElem?_toList]; exact hv, ?_⟩
      obtain ⟨y, hy, r1, r2, _⟩ := paired_get hp e
      have h5 : es[j]? = some (entryOfKey (nestedKind X.prog X.w) y) := by rw [← Array.getElem?_toList, h4, List.getElem?_map, hy]; rfl
      rw [Array.getElem?_eq_getElem hj] at h5
      rw [hvk, Option.some.inj h5]
      show Value.ref y.2.1 = Value.ref o.ad
      rw [r2]
  refine ⟨.ref s.heap.objs.size, _, I.laid (a := s.heap.objs.size) (o := .lst (xs.map fun x => V.ref x.ad)) (t' := tk) hkp (Nat.le_refl _) ⟨by rw [List.length_map]; exact z, acc'.toList, c', hv, by rw [Array.toArray_toList]; exact hnew⟩, rfl, q _ (I.hok.fresh (Nat.le_refl _))⟩
end
end Vb

set_option Elab.async false
set_option linter.all false
set_option maxRecDepth 100000
set_option maxHeartbeats 2000000
/-! The state and how it stands in the heap. -/
namespace Vb
open PySem PySem.Spec PyProof.Rows L2
open LamX (ExtN Tabs TabB)
open Kex2 (experimentAt)
abbrev layF (s b o : V) : List (Str × V) := [("salt", s), ("begun", b), ("owners", o)]
abbrev expF (l t w : V) : List (Str × V) := [("layer", l), ("traffic", t), ("weights", w)]
abbrev stoF (u e v x : V) : List (Str × V) := [("unit", u), ("experiment", e), ("variant", v), ("expiry", x)]
abbrev plaF (r s b h c l e o t : V) : List (Str × V) := [("is_ready", r), ("salt", s), ("begun", b), ("holdout", h), ("clock", c), ("layers", l), ("experiments", e), ("overrides", o), ("stored", t)]
/-! ### kinds of objects -/
def headRef : List V → Bool
  | .ref _ :: _ => true
  | _ => false
def nameIs (x : Str) : List (Str × V) → Bool
  | (y, _) :: _ => decide (x = y)
  | _ => false
def sTup : HO → Bool
  | .tup _ => true
  | .frz _ _ => true
  | _ => false
def sLay : HO → Bool
  | .tup _ => true
  | .frz _ _ => true
  | .ins _ _ fs => nameIs "salt" fs
  | .lst xs => decide (xs.length = 100) && headRef xs
  | _ => false
def sExp : HO → Bool
  | .tup _ => true
  | .frz _ _ => true
  | .ins _ _ fs => nameIs "layer" fs
  | _ => false
def sSto : HO → Bool
  | .tup _ => true
  | .frz _ _ => true
  | .ins _ _ fs => nameIs "unit" fs
  | _ => false
/-- what is of the kind stays -/
def Keep (S : HO → Bool) (H H' : Hp) : Prop := ∀ b o, H b = some o → S o = true → H' b = some o
theorem Keep.upd {S : HO → Bool} {H : Hp} {a : Addr} {oa o : HO} (h : H a = some oa) (n : S oa = false) : Keep S H (upd H a o) := fun b u e s => by
  rw [upd_ne]
  · exact e
  · rintro rfl
    rw [h] at e
    cases e
    rw [n] at s
    cases s
theorem Keep.new {S : HO → Bool} {H : Hp} {a : Addr} {o : HO} (h : H a = none) : Keep S H (L2.upd H a o) := fun b u e s => by rw [upd_ne (ne_of_none e h)]; exact e
theorem Keep.same {S : HO → Bool} {H H' : Hp} (h : Same H H') : Keep S H H' := fun b u e _ => h b u e
theorem Keep.ext {S : HO → Bool} {H H' : Hp} (h : ExtN H H') (n : ∀ ps, S (.tbl ps) = false := by intro _; rfl) : Keep S H H' := fun b u e s => h b u e fun ps z => by
  rw [z, n ps] at s
  cases s
theorem Keep.trans {S : HO → Bool} {H H' H2 : Hp} (h : Keep S H H') (k : Keep S H' H2) : Keep S H H2 := fun b u e s => k b u (h b u e s) s
theorem Keep.lay {H H' : Hp} (h : Keep sLay H H') : Keep sTup H H' := fun b u e s => h b u e (by cases u <;> first | rfl | cases s)
theorem Keep.exp {H H' : Hp} (h : Keep sExp H H') : Keep sTup H H' := fun b u e s => h b u e (by cases u <;> first | rfl | cases s)
theorem Keep.sto {H H' : Hp} (h : Keep sSto H H') : Keep sTup H H' := fun b u e s => h b u e (by cases u <;> first | rfl | cases s)
section
variable {K : PySem.W.Frag} {H H' : Hp}
theorem sqT_keep {a : Addr} {xs : List V} (k : Keep sTup H H') (h : SqT K H a xs) : SqT K H' a xs := by
  rcases h with (h | ⟨o, h⟩) | h
  · exact .inl (.inl (k _ _ h rfl))
  · exact .inl (.inr ⟨o, k _ _ h rfl⟩)
  · exact .inr h
theorem ownM_keep {q : Addr} {os : List Nat} (k : Keep sLay H H') (h : OwnM K H q os) : OwnM K H' q os := by
  obtain ⟨n, xs, h1, h2⟩ := h
  refine ⟨n, xs, k _ _ h1 ?_, h2.mono fun x o ⟨t, a, b⟩ => ⟨t, a, sqT_keep k.lay b⟩⟩
  show (decide (xs.length = 100) && headRef xs) = true
  have hl : xs.length = 100 := h2.len.trans n
  rw [decide_eq_true hl, Bool.true_and]
  cases xs with
  | nil => cases hl
  | cons x r =>
    obtain ⟨y, _, t, rfl, _⟩ := h2.left (i := 0) (x := x) rfl
    rfl
def LayR (K : PySem.W.Frag) (H : Hp) (v : V) (l : Kex2.Layer) : Prop := ∃ a dx p q, v = .ref a ∧ H a = some (.ins (He.ga K "Layer") dx (layF (.ref p) (nI (sltd l.salt)) (.ref q))) ∧ SqT K H p (nats l.salt) ∧ OwnM K H q l.owners
def ExpR (K : PySem.W.Frag) (H : Hp) (v : V) : Option Kex2.Experiment → Prop
  | none => v = .non
  | some x => ∃ a dx p, v = .ref a ∧ H a = some (.ins (He.ga K "Experiment") dx (expF (nI x.layer) (nI x.traffic) (.ref p))) ∧ SqT K H p (nats x.weights)
def StoR (K : PySem.W.Frag) (H : Hp) (v : V) (s : Kex2.Sticky) : Prop := ∃ a dx p, v = .ref a ∧ H a = some (.ins (He.ga K "Stored") dx (stoF (.ref p) (nI s.experiment) (nI s.variant) (nI s.expiry))) ∧ SqT K H p (nats s.unit)
theorem LayR.keep {v : V} {l : Kex2.Layer} (k : Keep sLay H H') (h : LayR K H v l) : LayR K H' v l := by
  obtain ⟨a, dx, p, q, e, h1, h2, h3⟩ := h
  exact ⟨a, dx, p, q, e, k _ _ h1 rfl, sqT_keep k.lay h2, ownM_keep k h3⟩
theorem ExpR.keep {v : V} {x : Option Kex2.Experiment} (k : Keep sExp H H') (h : ExpR K H v x) : ExpR K H' v x := by
  cases x with
  | none => exact h
  | some x =>
    obtain ⟨a, dx, p, e, h1, h2⟩ := h
    exact ⟨a, dx, p, e, k _ _ h1 rfl, sqT_keep k.exp h2⟩
theorem StoR.keep {v : V} {x : Kex2.Sticky} (k : Keep sSto H H') (h : StoR K H v x) : StoR K H' v x := by
  obtain ⟨a, dx, p, e, h1, h2⟩ := h
  exact ⟨a, dx, p, e, k _ _ h1 rfl, sqT_keep k.sto h2⟩
theorem KeyT.keep {a : Addr} {e : Nat} {u : List Nat} (k : Keep sTup H H') (h : KeyT K H a e u) : KeyT K H' a e u := by
  obtain ⟨q, h1, h2⟩ := h
  exact ⟨q, k _ _ h1 rfl, sqT_keep k h2⟩
theorem KeysT.keep {xs : List Ov} (k : Keep sTup H H') (h : KeysT K H xs) : KeysT K H' xs := fun x hx => (h x hx).keep k
end
/-- no reference stands twice -/
def Dst (vs : List V) : Prop := ∀ (i j : Nat) (a : Addr), vs[i]? = some (V.ref a) → vs[j]? = some (V.ref a) → i = j
theorem Dst.nil : Dst [] := fun i j a h => by simp at h
theorem Dst.snoc {vs : List V} {y : V} (h : Dst vs) (n : ∀ a, y = .ref a → V.ref a ∉ vs) : Dst (vs ++ [y]) := fun i j a hi hj => by
  have key : ∀ {i : Nat}, (vs ++ [y])[i]? = some (V.ref a) → (i < vs.length ∧ vs[i]? = some (V.ref a)) ∨ (i = vs.length ∧ y = .ref a) := fun {i} hi => by
    by_cases c : i < vs.length
    · rw [List.getElem?_append_left c] at hi
      exact .inl ⟨c, hi⟩
    · rw [List.getElem?_append_right (by omega)] at hi
      by_cases d : i = vs.length
      · subst d
        simp at hi
        exact .inr ⟨rfl, hi⟩
      · obtain ⟨k, hk⟩ : ∃ k, i - vs.length = k + 1 := ⟨i - vs.length - 1, by omega⟩
        rw [hk] at hi
        simp at hi
  rcases key hi with ⟨a1, a2⟩ | ⟨a1, a2⟩ <;> rcases key hj with ⟨b1, b2⟩ | ⟨b1, b2⟩
  · exact h _ _ _ a2 b2
  · exact absurd (List.mem_of_getElem? a2) (n _ b2)
  · exact absurd (List.mem_of_getElem? b2) (n _ a2)
  · omega
theorem Dst.set_non {vs : List V} (h : Dst vs) (k : Nat) : Dst (vs.set k .non) := fun i j a hi hj => by
  have key : ∀ {i : Nat}, (vs.set k .non)[i]? = some (V.ref a) → vs[i]? = some (V.ref a) := fun {i} hi => by
    rw [List.getElem?_set] at hi
    split at hi
    · split at hi
      · cases hi
      · cases hi
    · exact hi
  exact h _ _ _ (key hi) (key hj)
theorem Dst.sub {vs ws : List V} (h : Dst vs) (s : ws.Sublist vs) : Dst ws := by
  have nd : ∀ {l : List V}, Dst l ↔ l.Pairwise fun x y => ∀ a, x = .ref a → y = .ref a → False := fun {l} => by
    rw [List.pairwise_iff_getElem]
    constructor
    · intro d i j hi hj hij a e1 e2
      have := d i j a (by rw [List.getElem?_eq_getElem hi, e1]) (by rw [List.getElem?_eq_getElem hj, e2])
      omega
    · intro p i j a e1 e2
      obtain ⟨hi, e1⟩ := List.getElem?_eq_some_iff.mp e1
      obtain ⟨hj, e2⟩ := List.getElem?_eq_some_iff.mp e2
      rcases Nat.lt_trichotomy i j with c | c | c
      · exact (p i j hi hj c a e1 e2).elim
      · exact c
      · exact (p j i hj hi c a e2 e1).elim
  exact nd.mpr ((nd.mp h).sublist s)
/-! ### the overrides -/
def Ov.spec (x : Ov) : Kex2.Override := ⟨x.e, x.u, x.v⟩
/-- the entries are the overrides, in any order -/
structure OvP (os : List Ov) (ovs : List Kex2.Override) : Prop where
  perm : (os.map Ov.spec).Perm ovs
  nodup : (os.map fun x => (x.e, x.u)).Nodup
/-! ### where it stands -/
structure Loc where
  ls : Addr
  es : Addr
  od : Addr
  st : Addr
section
variable (P : Program) (w : World) (K : PySem.W.Frag) (H : Hp) (p : Addr)
def PlR (c : Loc) (a : Kex2.Assigner) : Prop := ∃ dx q, H p = some (.ins (He.ga K "Platform") dx (plaF (.bl true) (.ref q) (nI (sltd a.salt)) (nI a.holdout) (nI a.clock) (.ref c.ls) (.ref c.es) (.ref c.od) (.ref c.st))) ∧ SqT K H q (nats a.salt)
def LsR (x : Addr) (l : List Kex2.Layer) : Prop := ∃ vs, H x = some (.lst vs) ∧ Each (LayR K H) vs l ∧ Dst vs
def EsR (x : Addr) (l : List (Option Kex2.Experiment)) : Prop := ∃ vs, H x = some (.lst vs) ∧ Each (ExpR K H) vs l ∧ Dst vs
def StR (x : Addr) (l : List Kex2.Sticky) : Prop := ∃ vs, H x = some (.lst vs) ∧ Each (StoR K H) vs l ∧ Dst vs
def OdR (x : Addr) (l : List Kex2.Override) : Prop := ∃ os, H x = some (DicO P w x os) ∧ KeysT K H os ∧ OvP os l
structure Rep (c : Loc) (a : Kex2.Assigner) : Prop where
  pl : PlR K H p c a
  ls : LsR K H c.ls a.layers
  es : EsR K H c.es a.experiments
  od : OdR P w K H c.od a.overrides
  st : StR K H c.st a.sticky
  n1 : c.ls ≠ c.es
  n2 : c.ls ≠ c.st
  n3 : c.es ≠ c.st
end
section
variable {P : Program} {w : World} {K : PySem.W.Frag} {H H' : Hp} {p : Addr} {c : Loc} {a : Kex2.Assigner}
theorem PlR.keep (h : PlR K H p c a) (k : ∀ o, H p = some o → H' p = some o) (t : Keep sTup H H') : PlR K H' p c a := by
  obtain ⟨dx, q, h1, h2⟩ := h
  exact ⟨dx, q, k _ h1, sqT_keep t h2⟩
theorem LsR.keep {x : Addr} {l : List Kex2.Layer} (h : LsR K H x l) (k : ∀ o, H x = some o → H' x = some o) (t : Keep sLay H H') : LsR K H' x l := by
  obtain ⟨vs, h1, h2, h3⟩ := h
  exact ⟨vs, k _ h1, h2.mono fun _ _ => LayR.keep t, h3⟩
theorem EsR.keep {x : Addr} {l : List (Option Kex2.Experiment)} (h : EsR K H x l) (k : ∀ o, H x = some o → H' x = some o) (t : Keep sExp H H') : EsR K H' x l := by
  obtain ⟨vs, h1, h2, h3⟩ := h
  exact ⟨vs, k _ h1, h2.mono fun _ _ => ExpR.keep t, h3⟩
theorem StR.keep {x : Addr} {l : List Kex2.Sticky} (h : StR K H x l) (k : ∀ o, H x = some o → H' x = some o) (t : Keep sSto H H') : StR K H' x l := by
  obtain ⟨vs, h1, h2, h3⟩ := h
  exact ⟨vs, k _ h1, h2.mono fun _ _ => StoR.keep t, h3⟩
theorem OdR.keep {x : Addr} {l : List Kex2.Override} (h : OdR P w K H x l) (k : ∀ o, H x = some o → H' x = some o) (t : Keep sTup H H') : OdR P w K H' x l := by
  obtain ⟨vs, h1, h2, h3⟩ := h
  exact ⟨vs, k _ h1, h2.keep t, h3⟩
/-- all but the tables stay -/
theorem Rep.ext (h : Rep P w K H p c a) (e : ExtN H H') : Rep P w K H' p c a := by
  refine ⟨h.pl.keep (fun o q => ?_) (.ext e), h.ls.keep (fun o q => ?_) (.ext e), h.es.keep (fun o q => ?_) (.ext e), h.od.keep (fun o q => ?_) (.ext e), h.st.keep (fun o q => ?_) (.ext e), h.n1, h.n2, h.n3⟩
  · obtain ⟨dx, z, h1, _⟩ := h.pl
    exact e _ _ q fun ps z => by rw [q, z] at h1; cases h1
  · obtain ⟨vs, h1, _⟩ := h.ls
    exact e _ _ q fun ps z => by rw [q, z] at h1; cases h1
  · obtain ⟨vs, h1, _⟩ := h.es
    exact e _ _ q fun ps z => by rw [q, z] at h1; cases h1
  · obtain ⟨vs, h1, _⟩ := h.od
    exact e _ _ q fun ps z => by rw [q, z] at h1; unfold DicO at h1; cases h1
  · obtain ⟨vs, h1, _⟩ := h.st
    exact e _ _ q fun ps z => by rw [q, z] at h1; cases h1
theorem Rep.same (h : Rep P w K H p c a) (e : Same H H') : Rep P w K H' p c a := h.ext (.of e)
/-- a list that is none of ours is written -/
theorem Rep.found {f : Addr} {ns : List Int} {o : HO} (h : Rep P w K H p c a) (hf : H f = some (.lst (ns.map V.int))) (f1 : f ≠ c.ls) (f2 : f ≠ c.es) (f3 : f ≠ c.st) : Rep P w K (upd H f o) p c a := by
  have hr : headRef (ns.map V.int) = false := by cases ns <;> rfl
  have hl : sLay (.lst (ns.map V.int)) = false := by
    show (decide ((ns.map V.int).length = 100) && headRef (ns.map V.int)) = false
    rw [hr, Bool.and_false]
  refine ⟨h.pl.keep (fun o q => ?_) (.upd hf rfl), h.ls.keep (fun o q => ?_) (.upd hf hl), h.es.keep (fun o q => ?_) (.upd hf rfl), h.od.keep (fun o q => ?_) (.upd hf rfl), h.st.keep (fun o q => ?_) (.upd hf rfl), h.n1, h.n2, h.n3⟩
  · obtain ⟨dx, z, h1, _⟩ := h.pl
    rw [upd_ne (fun z => by rw [z, hf] at h1; cases h1)]
    exact q
  · rw [upd_ne f1.symm]
    exact q
  · rw [upd_ne f2.symm]
    exact q
  · obtain ⟨vs, h1, _⟩ := h.od
    rw [upd_ne (fun z => by rw [z, hf] at h1; unfold DicO at h1; cases h1)]
    exact q
  · rw [upd_ne f3.symm]
    exact q
/-- plain data -/
def Flat : HO → Bool
  | .lst _ => true
  | .tup _ => true
  | .frz _ _ => true
  | _ => false
def NF (H : Hp) (x : Addr) : Prop := ∀ o, H x = some o → Flat o = false
theorem NF.of {x : Addr} (h : H x = none) : NF H x := fun o z => by rw [h] at z; cases z
theorem NF.back {x : Addr} (h : NF H' x) (e : ExtN H H') : NF H x := fun o z => by
  cases f : Flat o with
  | false => rfl
  | true =>
    have := h o (e _ _ z fun ps w => by rw [w] at f; cases f)
    rw [f] at this
    cases this
/-- a place of c, or a new one -/
def InL (H : Hp) (c : Loc) (x : Addr) : Prop := x = c.ls ∨ x = c.es ∨ x = c.st ∨ NF H x
/-- what a call leaves of the lists and tuples of others -/
structure Fr (H : Hp) (c : Loc) (H' : Hp) (c' : Loc) : Prop where
  keep : ∀ b o, H b = some o → Flat o = true → b ≠ c.ls → b ≠ c.es → b ≠ c.st → H' b = some o
  l : InL H c c'.ls
  e : InL H c c'.es
  t : InL H c c'.st
theorem Fr.of (k : ∀ b o, H b = some o → Flat o = true → b ≠ c.ls → b ≠ c.es → b ≠ c.st → H' b = some o) : Fr H c H' c := ⟨k, .inl rfl, .inr (.inl rfl), .inr (.inr (.inl rfl))⟩
theorem Fr.ext (e : ExtN H H') : Fr H c H' c := .of fun b o h f _ _ _ => e b o h fun ps z => by { rw [z] at f; cases f }
theorem Fr.same (e : Same H H') : Fr H c H' c := .ext (.of e)
theorem Fr.refl : Fr H c H c := .of fun _ _ h _ _ _ _ => h
theorem Fr.upd {x : Addr} {ox o : HO} (h : H x = some ox) (f : Flat ox = false) : Fr H c (L2.upd H x o) c := .of fun b u e q _ _ _ => by
  rw [upd_ne]
  · exact e
  · rintro rfl
    rw [h] at e
    cases e
    rw [f] at q
    cases q
theorem Fr.at_ls {o : HO} : Fr H c (L2.upd H c.ls o) c := .of fun b u e q n _ _ => by rw [upd_ne n]; exact e
theorem Fr.at_es {o : HO} : Fr H c (L2.upd H c.es o) c := .of fun b u e q _ n _ => by rw [upd_ne n]; exact e
theorem Fr.at_st {o : HO} : Fr H c (L2.upd H c.st o) c := .of fun b u e q _ _ n => by rw [upd_ne n]; exact e
theorem InL.trans {H1 : Hp} {c1 : Loc} {x : Addr} (f : Fr H c H1 c1) (h : InL H1 c1 x) : InL H c x := by
  rcases h with h | h | h | h
  · rw [h]; exact f.l
  · rw [h]; exact f.e
  · rw [h]; exact f.t
  · by_cases d1 : x = c.ls
    · exact .inl d1
    · by_cases d2 : x = c.es
      · exact .inr (.inl d2)
      · by_cases d3 : x = c.st
        · exact .inr (.inr (.inl d3))
        · refine .inr (.inr (.inr fun o z => ?_))
          cases q : Flat o with
          | false => rfl
          | true =>
            have := h o (f.keep x o z q d1 d2 d3)
            rw [q] at this
            cases this
theorem Fr.trans {H1 H2 : Hp} {c1 c2 : Loc} (f : Fr H c H1 c1) (g : Fr H1 c1 H2 c2) : Fr H c H2 c2 := by
  refine ⟨fun b o h q n1 n2 n3 => ?_, .trans f g.l, .trans f g.e, .trans f g.t⟩
  have ne : ∀ x, InL H c x → b ≠ x := fun x hx z => by
    rcases hx with e | e | e | e
    · exact n1 (z.trans e)
    · exact n2 (z.trans e)
    · exact n3 (z.trans e)
    · rw [← z] at e
      have := e o h
      rw [q] at this
      cases this
  exact g.keep b o (f.keep b o h q n1 n2 n3) q (ne _ f.l) (ne _ f.e) (ne _ f.t)
theorem Fr.to {c' : Loc} (f : Fr H c H' c) (l : InL H c c'.ls) (e : InL H c c'.es) (t : InL H c c'.st) : Fr H c H' c' := ⟨f.keep, l, e, t⟩
/-! ### changes -/
theorem LayR.upd {v : V} {l : Kex2.Layer} {x : Addr} {C dx : Addr} {fs : List (Str × V)} {o : HO} (h : LayR K H v l) (n : v ≠ .ref x) (hx : H x = some (.ins C dx fs)) : LayR K (L2.upd H x o) v l := by
  obtain ⟨b, dx, p, q, e, h1, h2, hl, xs, h3, h4⟩ := h
  have kt : Keep sTup H (L2.upd H x o) := .upd hx rfl
  refine ⟨b, dx, p, q, e, ?_, sqT_keep kt h2, hl, xs, ?_, h4.mono fun _ _ ⟨t, y, z⟩ => ⟨t, y, sqT_keep kt z⟩⟩
  · rw [upd_ne (fun z => n (by rw [e, z]))]
    exact h1
  · rw [upd_ne (fun z => by rw [z, hx] at h3; cases h3)]
    exact h3
theorem ExpR.upd {v : V} {l : Option Kex2.Experiment} {x : Addr} {C dx : Addr} {fs : List (Str × V)} {o : HO} (h : ExpR K H v l) (n : v ≠ .ref x) (hx : H x = some (.ins C dx fs)) : ExpR K (L2.upd H x o) v l := by
  cases l with
  | none => exact h
  | some l =>
    obtain ⟨b, dx, p, e, h1, h2⟩ := h
    have kt : Keep sTup H (L2.upd H x o) := .upd hx rfl
    refine ⟨b, dx, p, e, ?_, sqT_keep kt h2⟩
    rw [upd_ne (fun z => n (by rw [e, z]))]
    exact h1
theorem StoR.upd {v : V} {l : Kex2.Sticky} {x : Addr} {C dx : Addr} {fs : List (Str × V)} {o : HO} (h : StoR K H v l) (n : v ≠ .ref x) (hx : H x = some (.ins C dx fs)) : StoR K (L2.upd H x o) v l := by
  obtain ⟨b, dx, p, e, h1, h2⟩ := h
  have kt : Keep sTup H (L2.upd H x o) := .upd hx rfl
  refine ⟨b, dx, p, e, ?_, sqT_keep kt h2⟩
  rw [upd_ne (fun z => n (by rw [e, z]))]
  exact h1
theorem each_set {α : Type} {F G : V → α → Prop} {vs : List V} {l : List α} {i : Nat} {x : Addr} {y : α} (e : Each F vs l) (d : Dst vs) (hi : vs[i]? = some (.ref x)) (hy : G (.ref x) y) (k : ∀ v z, F v z → v ≠ .ref x → G v z) : Each G vs (l.set i y) := by
  refine ⟨by rw [List.length_set]; exact e.len, fun j v z hv hz => ?_⟩
  rw [List.getElem?_set] at hz
  split at hz
  · rename_i c
    subst c
    split at hz
    · cases hz
      rw [hi] at hv
      cases hv
      exact hy
    · cases hz
  · rename_i c
    exact k v z (e.at_ j v z hv hz) fun q => c (d _ _ x hi (by rw [hv, q]))
theorem lst_no {vs : List V} {n : Nat} (h : vs.length ≤ n) (hn : n < 100) : sLay (.lst vs) = false := by
  show (decide (vs.length = 100) && headRef vs) = false
  rw [decide_eq_false (by omega), Bool.false_and]
/-- the platform's object is written -/
theorem Rep.mk_ {C dx : Addr} {fs : List (Str × V)} {q' : Addr} {c' : Loc} {a' : Kex2.Assigner} (hp : H p = some (.ins C dx fs)) (nm : nameIs "is_ready" fs = true) (hq : SqT K H q' (nats a'.salt)) (l : LsR K H c'.ls a'.layers) (e : EsR K H c'.es a'.experiments) (od : OdR P w K H c'.od a'.overrides) (t : StR K H c'.st a'.sticky)
    (n1 : c'.ls ≠ c'.es) (n2 : c'.ls ≠ c'.st) (n3 : c'.es ≠ c'.st) : Rep P w K (L2.upd H p (.ins (He.ga K "Platform") dx (plaF (.bl true) (.ref q') (nI (sltd a'.salt)) (nI a'.holdout) (nI a'.clock) (.ref c'.ls) (.ref c'.es) (.ref c'.od) (.ref c'.st)))) p c' a' := by
  have nn : ∀ y : Str, decide (("is_ready" : Str) = y) = true → ∀ z : Str, decide (z = ("is_ready" : Str)) = false → nameIs z fs = false := fun y hy z hz => by
    cases fs with
    | nil => rfl
    | cons f fs =>
      obtain ⟨g, v⟩ := f
      have e1 : decide (("is_ready" : Str) = g) = true := nm
      have e2 := of_decide_eq_true e1
      show decide (z = g) = false
      rw [← e2]
      exact hz
  have kt : ∀ {o}, Keep sTup H (L2.upd H p o) := fun {o} => .upd hp rfl
  have kl : ∀ {o}, Keep sLay H (L2.upd H p o) := fun {o} => .upd hp (nn "is_ready" rfl "salt" rfl)
  have ke : ∀ {o}, Keep sExp H (L2.upd H p o) := fun {o} => .upd hp (nn "is_ready" rfl "layer" rfl)
  have ks : ∀ {o}, Keep sSto H (L2.upd H p o) := fun {o} => .upd hp (nn "is_ready" rfl "unit" rfl)
  refine ⟨⟨dx, q', upd_same, sqT_keep kt hq⟩, l.keep (fun o z => ?_) kl, e.keep (fun o z => ?_) ke, od.keep (fun o z => ?_) kt, t.keep (fun o z => ?_) ks, n1, n2, n3⟩
  · obtain ⟨vs, h1, _⟩ := l
    rw [upd_ne (fun w => by rw [w, hp] at h1; cases h1)]
    exact z
  · obtain ⟨vs, h1, _⟩ := e
    rw [upd_ne (fun w => by rw [w, hp] at h1; cases h1)]
    exact z
  · obtain ⟨vs, h1, _⟩ := od
    rw [upd_ne (fun w => by rw [w, hp] at h1; unfold DicO at h1; cases h1)]
    exact z
  · obtain ⟨vs, h1, _⟩ := t
    rw [upd_ne (fun w => by rw [w, hp] at h1; cases h1)]
    exact z
theorem Rep.ne_pl {x : Addr} {xs : List V} (h : Rep P w K H p c a) (hx : H x = some (.lst xs)) : p ≠ x := fun z => by
  obtain ⟨dx, q, h1, _⟩ := h.pl
  rw [z, hx] at h1
  cases h1
theorem Rep.ne_od {x : Addr} {xs : List V} (h : Rep P w K H p c a) (hx : H x = some (.lst xs)) : c.od ≠ x := fun z => by
  obtain ⟨os, h1, _⟩ := h.od
  rw [z, hx] at h1
  unfold DicO at h1
  cases h1
theorem Rep.ls_set {vs vs' : List V} {l' : List Kex2.Layer} (h : Rep P w K H p c a) (hv : H c.ls = some (.lst vs)) (hl : vs.length ≤ 4) (e : Each (LayR K H) vs' l') (d : Dst vs') : Rep P w K (L2.upd H c.ls (.lst vs')) p c { a with layers := l' } := by
  have kl : ∀ {o}, Keep sLay H (L2.upd H c.ls o) := fun {o} => .upd hv (lst_no hl (by decide))
  refine ⟨h.pl.keep (fun o z => ?_) (.upd hv rfl), ⟨vs', upd_same, e.mono fun _ _ => LayR.keep kl, d⟩, h.es.keep (fun o z => ?_) (.upd hv rfl), h.od.keep (fun o z => ?_) (.upd hv rfl), h.st.keep (fun o z => ?_) (.upd hv rfl), h.n1, h.n2, h.n3⟩
  · rw [upd_ne (h.ne_pl hv)]; exact z
  · rw [upd_ne h.n1.symm]; exact z
  · rw [upd_ne (h.ne_od hv)]; exact z
  · rw [upd_ne h.n2.symm]; exact z
theorem Rep.es_set {vs vs' : List V} {l' : List (Option Kex2.Experiment)} (h : Rep P w K H p c a) (hv : H c.es = some (.lst vs)) (hl : vs.length ≤ 8) (e : Each (ExpR K H) vs' l') (d : Dst vs') : Rep P w K (L2.upd H c.es (.lst vs')) p c { a with experiments := l' } := by
  have kl : ∀ {o}, Keep sLay H (L2.upd H c.es o) := fun {o} => .upd hv (lst_no hl (by decide))
  refine ⟨h.pl.keep (fun o z => ?_) (.upd hv rfl), h.ls.keep (fun o z => ?_) kl, ⟨vs', upd_same, e.mono fun _ _ => ExpR.keep (.upd hv rfl), d⟩, h.od.keep (fun o z => ?_) (.upd hv rfl), h.st.keep (fun o z => ?_) (.upd hv rfl), h.n1, h.n2, h.n3⟩
  · rw [upd_ne (h.ne_pl hv)]; exact z
  · rw [upd_ne h.n1]; exact z
  · rw [upd_ne (h.ne_od hv)]; exact z
  · rw [upd_ne h.n3.symm]; exact z
theorem Rep.st_set {vs vs' : List V} {l' : List Kex2.Sticky} (h : Rep P w K H p c a) (hv : H c.st = some (.lst vs)) (hl : vs.length ≤ 32) (e : Each (StoR K H) vs' l') (d : Dst vs') : Rep P w K (L2.upd H c.st (.lst vs')) p c { a with sticky := l' } := by
  have kl : ∀ {o}, Keep sLay H (L2.upd H c.st o) := fun {o} => .upd hv (lst_no hl (by decide))
  refine ⟨h.pl.keep (fun o z => ?_) (.upd hv rfl), h.ls.keep (fun o z => ?_) kl, h.es.keep (fun o z => ?_) (.upd hv rfl), h.od.keep (fun o z => ?_) (.upd hv rfl), ⟨vs', upd_same, e.mono fun _ _ => StoR.keep (.upd hv rfl), d⟩, h.n1, h.n2, h.n3⟩
  · rw [upd_ne (h.ne_pl hv)]; exact z
  · rw [upd_ne h.n2]; exact z
  · rw [upd_ne h.n3]; exact z
  · rw [upd_ne (h.ne_od hv)]; exact z
theorem Rep.od_set {os os' : List Ov} {l' : List Kex2.Override} (h : Rep P w K H p c a) (hv : H c.od = some (DicO P w c.od os)) (kt : KeysT K H os') (o : OvP os' l') : Rep P w K (L2.upd H c.od (DicO P w c.od os')) p c { a with overrides := l' } := by
  have ne : ∀ {x : Addr} {xs : List V}, H x = some (.lst xs) → x ≠ c.od := fun hx z => (h.ne_od hx) z.symm
  have hv' := hv
  unfold DicO at hv'
  refine ⟨h.pl.keep (fun o z => ?_) (.upd hv' rfl), h.ls.keep (fun o z => ?_) (.upd hv' rfl), h.es.keep (fun o z => ?_) (.upd hv' rfl), ⟨os', upd_same, kt.keep (.upd hv' rfl), o⟩, h.st.keep (fun o z => ?_) (.upd hv' rfl), h.n1, h.n2, h.n3⟩
  · obtain ⟨dx, q, h1, _⟩ := h.pl
    rw [upd_ne (fun w => by rw [w, hv'] at h1; cases h1)]
    exact z
  · obtain ⟨vs, h1, _⟩ := h.ls
    rw [upd_ne (ne h1)]; exact z
  · obtain ⟨vs, h1, _⟩ := h.es
    rw [upd_ne (ne h1)]; exact z
  · obtain ⟨vs, h1, _⟩ := h.st
    rw [upd_ne (ne h1)]; exact z
/-- one of the instances is written -/
theorem Rep.ins_set {x C dx : Addr} {fs fs' : List (Str × V)} {a' : Kex2.Assigner} (h : Rep P w K H p c a) (hx : H x = some (.ins C dx fs)) (nm : nameIs "is_ready" fs = false) (es : a'.salt = a.salt ∧ a'.holdout = a.holdout ∧ a'.clock = a.clock ∧ a'.overrides = a.overrides)
    (l : (∀ vs, H c.ls = some (.lst vs) → Each (LayR K H) vs a.layers → Dst vs → Each (LayR K (L2.upd H x (.ins C dx fs'))) vs a'.layers))
    (e : (∀ vs, H c.es = some (.lst vs) → Each (ExpR K H) vs a.experiments → Dst vs → Each (ExpR K (L2.upd H x (.ins C dx fs'))) vs a'.experiments))
    (t : (∀ vs, H c.st = some (.lst vs) → Each (StoR K H) vs a.sticky → Dst vs → Each (StoR K (L2.upd H x (.ins C dx fs'))) vs a'.sticky)) : Rep P w K (L2.upd H x (.ins C dx fs')) p c a' := by
  obtain ⟨e1, e2, e3, e4⟩ := es
  have ne : ∀ {y : Addr} {xs : List V}, H y = some (.lst xs) → y ≠ x := fun hy z => by rw [z, hx] at hy; cases hy
  obtain ⟨dp, q, p1, p2⟩ := h.pl
  obtain ⟨v1, l1, l2, l3⟩ := h.ls
  obtain ⟨v2, m1, m2, m3⟩ := h.es
  obtain ⟨v3, n1, n2, n3⟩ := h.st
  refine ⟨⟨dp, q, ?_, ?_⟩, ⟨v1, by rw [upd_ne (ne l1)]; exact l1, l v1 l1 l2 l3, l3⟩, ⟨v2, by rw [upd_ne (ne m1)]; exact m1, e v2 m1 m2 m3, m3⟩, ?_, ⟨v3, by rw [upd_ne (ne n1)]; exact n1, t v3 n1 n2 n3, n3⟩, h.n1, h.n2, h.n3⟩
  · rw [upd_ne (fun z => by rw [z, hx] at p1; cases p1; cases nm), e1, e2, e3]
    exact p1
  · rw [e1]
    exact sqT_keep (.upd hx rfl) p2
  · rw [e4]
    refine h.od.keep (fun o z => ?_) (.upd hx rfl)
    obtain ⟨os, h1, _⟩ := h.od
    rw [upd_ne (fun w => by rw [w, hx] at h1; unfold DicO at h1; cases h1)]
    exact z
end
end Vb

set_option Elab.async false
set_option linter.all false
set_option maxRecDepth 100000
set_option maxHeartbeats 4000000
/-! Methods and classes: how they are called; the classes' own. -/
namespace Vb
open PySem PySem.Spec PyProof.Rows L2
open LamX (ExtN Tabs TabB)
open Kex2 (experimentAt)
section
variable {X : Cx} {k : Nat} {f C : Addr} {sp : Sp} {x m : Str} {e o : Expr} {es : List Expr} {ta : TE} {t : TA} {p pos apos : Pos}
abbrev tMe (C : Addr) (m : Str) (sp : Sp) (ta : TE) (t : TA) : TE := tMeth C m sp [] E0 ta t
abbrev tMk (C : Addr) (sp : Sp) (t : TA) : TE := tMake C sp [] E0 t
theorem pe_methH {pl : Sem Bool} (h : Held X.prog X.w X.K X.mg X.base k f sp) (hr : Room k X.A) (c : Cls X.K C) (hm : Meth X.K C m f) (he : PE X o ta) (ha : PA X (e :: es) t)
    (hst : starEach (e :: es) X.env = (false, eval e X.env) :: starEach es X.env := by rfl) (hpl : (backTo pos (starEach es X.env)).any (·.1) = false := by rfl)
    (ht : eval (.Call (.Attribute o m apos) (e :: es) [] pos) X.env = (do
      let ov ← eval o X.env
      standAt apos.atName
      let (f, first) ← holding [ov] (getMethod ov m pl)
      callWith pos f first (backTo pos (starEach (e :: es) X.env)) (backToKw pos (keywordEach [] X.env))) := by rfl) :
    PE X (.Call (.Attribute o m apos) (e :: es) [] pos) (tMe C m sp ta t) := by
  obtain ⟨fd, ps, F, a, b⟩ := h.ex
  exact pe_meth he c hm F hr b .nil pass0 ha hst hpl ht
theorem pe_meth0H {pl : Sem Bool} (h : Held X.prog X.w X.K X.mg X.base k f sp) (hr : Room k X.A) (c : Cls X.K C) (hm : Meth X.K C m f) (he : PE X o ta)
    (ht : eval (.Call (.Attribute o m apos) [] [] pos) X.env = (do
      let ov ← eval o X.env
      standAt apos.atName
      let (f, first) ← holding [ov] (getMethod ov m pl)
      callWith pos f first (backTo pos (starEach [] X.env)) (backToKw pos (keywordEach [] X.env))) := by rfl) :
    PE X (.Call (.Attribute o m apos) [] [] pos) (tMe C m sp ta tNil) := by
  obtain ⟨fd, ps, F, a, b⟩ := h.ex
  exact pe_meth0 he c hm F hr b .nil pass0 ht
theorem pe_makeH (M : Mk X.K C f) (h : Held X.prog X.w X.K X.mg X.base k f sp) (hr : Room (k + 1) X.A) (hm : X.mg x = some (.ref C)) (ha : PA X (e :: es) t) (hg : Gl X x := by rfl)
    (hdb : (x == ("__debug__" : Str)) = false := by decide) (he : starEach (e :: es) X.env = (false, eval e X.env) :: starEach es X.env := by rfl) (hpl : (backTo pos (starEach es X.env)).any (·.1) = false := by rfl) :
    PE X (.Call (.Name x p) (e :: es) [] pos) (tMk C sp t) := by
  obtain ⟨fd, ps, F, a, b⟩ := h.ex
  exact pe_make M F hr hg hm b .nil pass0 ha hdb he hpl
theorem pe_make0H (M : Mk X.K C f) (h : Held X.prog X.w X.K X.mg X.base k f sp) (hr : Room (k + 1) X.A) (hm : X.mg x = some (.ref C)) (hg : Gl X x := by rfl)
    (hdb : (x == ("__debug__" : Str)) = false := by decide) :
    PE X (.Call (.Name x p) [] [] pos) (tMk C sp tNil) := by
  obtain ⟨fd, ps, F, a, b⟩ := h.ex
  exact pe_make0 M F hr hg hm b .nil pass0 hdb
end
/-- all but p stays -/
def Exc (p : Addr) (H H' : Hp) : Prop := ∀ b o, b ≠ p → H b = some o → H' b = some o
theorem Exc.refl {p : Addr} {H : Hp} : Exc p H H := fun _ _ _ h => h
theorem Exc.set {p : Addr} {H H' : Hp} {o : HO} (e : Exc p H H') : Exc p H (upd H' p o) := fun b u n h => by rw [upd_ne n]; exact e b u n h
theorem Exc.same {p : Addr} {H H' H2 : Hp} (e : Exc p H H') (s : Same H' H2) : Exc p H H2 := fun b u n h => s b u (e b u n h)
theorem Exc.trans {p : Addr} {H H' H2 : Hp} (e : Exc p H H') (s : Exc p H' H2) : Exc p H H2 := fun b u n h => s b u n (e b u n h)
theorem Exc.new {p d : Addr} {H H' : Hp} {o : HO} (e : Exc p H H') (hp : H' p = some o) (h : H' d = none) : H d = none := by
  cases q : H d with
  | none => rfl
  | some u =>
    have n : d ≠ p := fun z => by rw [z, hp] at h; cases h
    rw [e d u n q] at h
    cases h
/-- the heap, by what is known of it -/
theorem absH {G : Hp → Prop} {H : Hp} (Pr : Hp → Prop) (h : Pr H) (k : ∀ H', Pr H' → G H') : G H := k H h
theorem Exc.tup {p : Addr} {H H' : Hp} {K : PySem.W.Frag} {C dx t : Addr} {fs : List (Str × V)} {xs : List V} (e : Exc p H H') (hp : H p = some (.ins C dx fs)) (h : SqT K H t xs) : SqT K H' t xs := by
  rcases h with (h | ⟨o, h⟩) | h
  · exact .inl (.inl (e _ _ (fun z => by rw [z, hp] at h; cases h) h))
  · exact .inl (.inr ⟨o, e _ _ (fun z => by rw [z, hp] at h; cases h) h⟩)
  · exact .inr h
/-- the instance x of C, fresh -/
abbrev newI (H : Hp) (x dx C : Addr) : Hp := upd (upd H dx (.own x)) x (.ins C dx [])
def spLayInit (K : PySem.W.Frag) : Sp := fun vs H Q _ => ∃ (x t dx : Addr) (s : List Nat), vs = [.ref x, .ref t] ∧ H x = some (.ins (He.ga K "Layer") dx []) ∧ SqT K H t (nats s) ∧
  ∀ H' q, Exc x H H' → H' x = some (.ins (He.ga K "Layer") dx (layF (.ref t) (nI (sltd s)) (.ref q))) → OwnM K H' q (List.replicate 100 0) → Q .non H'
def spExpInit (K : PySem.W.Frag) : Sp := fun vs H Q _ => ∃ (x dx : Addr) (l t w : V), vs = [.ref x, l, t, w] ∧ H x = some (.ins (He.ga K "Experiment") dx []) ∧ ∀ H', Exc x H H' → H' x = some (.ins (He.ga K "Experiment") dx (expF l t w)) → Q .non H'
def spStoInit (K : PySem.W.Frag) : Sp := fun vs H Q _ => ∃ (x dx : Addr) (u e v y : V), vs = [.ref x, u, e, v, y] ∧ H x = some (.ins (He.ga K "Stored") dx []) ∧ ∀ H', Exc x H H' → H' x = some (.ins (He.ga K "Stored") dx (stoF u e v y)) → Q .non H'
def spPlaInit (K : PySem.W.Frag) : Sp := fun vs H Q _ => ∃ (x dx : Addr), vs = [.ref x] ∧ H x = some (.ins (He.ga K "Platform") dx []) ∧ ∀ H' s b h c l e o t, Exc x H H' → H' x = some (.ins (He.ga K "Platform") dx (plaF (.bl false) s b h c l e o t)) → Q .non H'
def emptyA (s : List Nat) : Kex2.Assigner := ⟨s, 0, 0, [], [], [], []⟩
def spStart (P : Program) (w : World) (K : PySem.W.Frag) : Sp := fun vs H Q _ => ∃ (p t dx : Addr) (sa : List Nat) (r s b h c l e o z : V), vs = [.ref p, .ref t] ∧ H p = some (.ins (He.ga K "Platform") dx (plaF r s b h c l e o z)) ∧ SqT K H t (nats sa) ∧
  ∀ H' c', Exc p H H' → Rep P w K H' p c' (emptyA sa) → H c'.ls = none → H c'.es = none → H c'.st = none → Q .non H'
section
variable {P : Program} {w : World} {K : PySem.W.Frag} {mg : Str → Option Value} {base : Heap}
theorem sc_Layer_init : FnScope ["self", "salt"] ["self", "salt"] (defScope s_Layer_init) := ⟨rfl, rfl, rfl, by decide +kernel, rfl, by decide +kernel, by decide +kernel⟩
theorem h_Layer_init (T : Txt K mg) : Held P w K mg base 3 (He.ma K (He.ga K "Layer") "__init__") (spLayInit K) := by
  refine held_of (ps := ["self", "salt"]) T.d_Layer_init sc_Layer_init (fun vs H Q E h => by obtain ⟨x, t, dx, s, rfl, _⟩ := h; rfl) (fun _ _ _ _ _ _ us hl => match us, hl with | [_, _], _ => rfl) (fun cdv A outer s H vs Q E hr h => ?_)
  refine ⟨_, pss_cons (ps_fld (pv 0) (pv 1) rfl)
    (pss_cons (ps_fld (pv 0) (pe_callH (h_salted T) hr T.g_salted (pa_cons (pv 1) pa_nil)) rfl)
    (pss_one (ps_fld (pv 0) (pe_op op_rep (pe_lst (pa_cons (pe_gr T.g_FREE) pa_nil)) (pe_gi T.i_BUCKETS)) rfl))), ?_⟩
  obtain ⟨x, t, dx, sa, rfl, hx, ht, k⟩ := h
  refine ⟨_, rfl, _, rfl, x, _, _, _, rfl, hx, T.c_Layer, T.n_Layer_salt, by decide, ?_⟩
  have e1 : Exc x H (upd H x (.ins (He.ga K "Layer") dx [("salt", .ref t)])) := Exc.refl.set
  refine ⟨_, rfl, t, sa, rfl, .inr (e1.tup hx ht), fun H2 s2 => ?_⟩
  refine ⟨_, rfl, x, _, _, _, rfl, s2 _ _ upd_same, T.c_Layer, T.n_Layer_begun, by show 1 < 1000; decide, ?_⟩
  have e2 := (e1.same s2).set (o := .ins (He.ga K "Layer") dx [("salt", .ref t), ("begun", nI (sltd sa))])
  refine ⟨by show 1 ≤ sizeLine; decide, fun l hl => ⟨l, _, _, rfl, rfl, upd_same, by decide, by decide, by show 1 * 100 ≤ sizeLine; decide, fun q hq => ?_⟩⟩
  have s3 : Same _ (upd _ l (.lst [V.ref (He.ga K "FREE")])) := same_new hl
  have s4 : Same _ (upd _ q (.lst (List.replicate 100 [V.ref (He.ga K "FREE")]).flatten)) := same_new hq
  have hx3 := s4 _ _ (s3 _ _ (upd_same (H := H2) (a := x) (o := .ins (He.ga K "Layer") dx [("salt", .ref t), ("begun", nI (sltd sa))])))
  refine ⟨_, rfl, x, _, _, _, rfl, hx3, T.c_Layer, T.n_Layer_owners, by show 2 < 1000; decide, ?_⟩
  refine k _ q ((e2.same s3).same s4).set upd_same ⟨List.length_replicate, List.replicate 100 (V.ref (He.ga K "FREE")), ?_, ?_⟩
  · rw [upd_ne (ne_of_none (s3 _ _ upd_same) hq).symm, upd_same]
    rfl
  · refine Each.replicate ⟨_, rfl, ?_⟩ 100
    exact T.free_tup _
theorem sc_Experiment_init : FnScope ["self", "layer", "traffic", "weights"] ["self", "layer", "traffic", "weights"] (defScope s_Experiment_init) := ⟨rfl, rfl, rfl, by decide +kernel, rfl, by decide +kernel, by decide +kernel⟩
theorem h_Experiment_init (T : Txt K mg) : Held P w K mg base 1 (He.ma K (He.ga K "Experiment") "__init__") (spExpInit K) := by
  refine held_of (ps := ["self", "layer", "traffic", "weights"]) T.d_Experiment_init sc_Experiment_init (fun vs H Q E h => by obtain ⟨x, dx, l, t, w, rfl, _⟩ := h; rfl) (fun _ _ _ _ _ _ us hl => match us, hl with | [_, _, _, _], _ => rfl) (fun cdv A outer s H vs Q E hr h => ?_)
  refine ⟨_, pss_cons (ps_fld (pv 0) (pv 1) rfl) (pss_cons (ps_fld (pv 0) (pv 2) rfl) (pss_one (ps_fld (pv 0) (pv 3) rfl))), ?_⟩
  obtain ⟨x, dx, l, t, w, rfl, hx, k⟩ := h
  refine ⟨_, rfl, _, rfl, x, _, _, _, rfl, hx, T.c_Experiment, T.n_Experiment_layer, by decide, ?_⟩
  refine ⟨_, rfl, _, rfl, x, _, _, _, rfl, upd_same, T.c_Experiment, T.n_Experiment_traffic, by show 1 < 1000; decide, ?_⟩
  refine ⟨_, rfl, _, rfl, x, _, _, _, rfl, upd_same, T.c_Experiment, T.n_Experiment_weights, by show 2 < 1000; decide, ?_⟩
  exact k _ Exc.refl.set.set.set upd_same
theorem sc_Stored_init : FnScope ["self", "unit", "experiment", "variant", "expiry"] ["self", "unit", "experiment", "variant", "expiry"] (defScope s_Stored_init) := ⟨rfl, rfl, rfl, by decide +kernel, rfl, by decide +kernel, by decide +kernel⟩
theorem h_Stored_init (T : Txt K mg) : Held P w K mg base 1 (He.ma K (He.ga K "Stored") "__init__") (spStoInit K) := by
  refine held_of (ps := ["self", "unit", "experiment", "variant", "expiry"]) T.d_Stored_init sc_Stored_init (fun vs H Q E h => by obtain ⟨x, dx, l, t, w, y, rfl, _⟩ := h; rfl) (fun _ _ _ _ _ _ us hl => match us, hl with | [_, _, _, _, _], _ => rfl) (fun cdv A outer s H vs Q E hr h => ?_)
  refine ⟨_, pss_cons (ps_fld (pv 0) (pv 1) rfl) (pss_cons (ps_fld (pv 0) (pv 2) rfl) (pss_cons (ps_fld (pv 0) (pv 3) rfl) (pss_one (ps_fld (pv 0) (pv 4) rfl)))), ?_⟩
  obtain ⟨x, dx, l, t, w, y, rfl, hx, k⟩ := h
  refine ⟨_, rfl, _, rfl, x, _, _, _, rfl, hx, T.c_Stored, T.n_Stored_unit, by decide, ?_⟩
  refine ⟨_, rfl, _, rfl, x, _, _, _, rfl, upd_same, T.c_Stored, T.n_Stored_experiment, by show 1 < 1000; decide, ?_⟩
  refine ⟨_, rfl, _, rfl, x, _, _, _, rfl, upd_same, T.c_Stored, T.n_Stored_variant, by show 2 < 1000; decide, ?_⟩
  refine ⟨_, rfl, _, rfl, x, _, _, _, rfl, upd_same, T.c_Stored, T.n_Stored_expiry, by show 3 < 1000; decide, ?_⟩
  exact k _ Exc.refl.set.set.set.set upd_same
theorem sc_Platform_init : FnScope ["self"] ["self"] (defScope s_Platform_init) := ⟨rfl, rfl, rfl, by decide +kernel, rfl, by decide +kernel, by decide +kernel⟩
theorem h_Platform_init (T : Txt K mg) : Held P w K mg base 1 (He.ma K (He.ga K "Platform") "__init__") (spPlaInit K) := by
  refine held_of (ps := ["self"]) T.d_Platform_init sc_Platform_init (fun vs H Q E h => by obtain ⟨x, dx, rfl, _⟩ := h; rfl) (fun _ _ _ _ _ _ us hl => match us, hl with | [_], _ => rfl) (fun cdv A outer s H vs Q E hr h => ?_)
  refine ⟨_, pss_cons (ps_fld (pv 0) pe_bl rfl) (pss_cons (ps_fld (pv 0) (pe_tup pa_nil) rfl) (pss_cons (ps_fld (pv 0) pe_int rfl) (pss_cons (ps_fld (pv 0) pe_int rfl) (pss_cons (ps_fld (pv 0) pe_int rfl)
    (pss_cons (ps_fld (pv 0) (pe_lst pa_nil) rfl) (pss_cons (ps_fld (pv 0) (pe_lst pa_nil) rfl) (pss_cons (ps_fld (pv 0) pe_dnewO rfl) (pss_one (ps_fld (pv 0) (pe_lst pa_nil) rfl))))))))), ?_⟩
  obtain ⟨x, dx, rfl, hx, k⟩ := h
  refine ⟨_, rfl, x, _, _, _, rfl, hx, T.c_Platform, T.n_Platform_is_ready, by decide, ?_⟩
  have e1 : Exc x H _ := Exc.refl.set (o := .ins (He.ga K "Platform") dx [("is_ready", .bl false)])
  refine ⟨Nat.zero_le _, fun d1 g1 => ?_⟩
  have e1 := e1.same (same_new (o := .tup []) g1)
  refine ⟨_, rfl, x, _, _, _, rfl, (same_new g1) _ _ upd_same, T.c_Platform, T.n_Platform_salt, by show 1 < 1000; decide, ?_⟩
  have e1 := e1.set (o := .ins (He.ga K "Platform") dx [("is_ready", .bl false), ("salt", .ref d1)])
  refine ⟨_, rfl, x, _, _, _, rfl, upd_same, T.c_Platform, T.n_Platform_begun, by show 2 < 1000; decide, ?_⟩
  have e1 := e1.set (o := .ins (He.ga K "Platform") dx [("is_ready", .bl false), ("salt", .ref d1), ("begun", .int 0)])
  refine ⟨_, rfl, x, _, _, _, rfl, upd_same, T.c_Platform, T.n_Platform_holdout, by show 3 < 1000; decide, ?_⟩
  have e1 := e1.set (o := .ins (He.ga K "Platform") dx [("is_ready", .bl false), ("salt", .ref d1), ("begun", .int 0), ("holdout", .int 0)])
  refine ⟨_, rfl, x, _, _, _, rfl, upd_same, T.c_Platform, T.n_Platform_clock, by show 4 < 1000; decide, ?_⟩
  have e1 := e1.set (o := .ins (He.ga K "Platform") dx [("is_ready", .bl false), ("salt", .ref d1), ("begun", .int 0), ("holdout", .int 0), ("clock", .int 0)])
  refine ⟨Nat.zero_le _, fun d2 g2 => ?_⟩
  have e1 := e1.same (same_new (o := .lst []) g2)
  refine ⟨_, rfl, x, _, _, _, rfl, (same_new g2) _ _ upd_same, T.c_Platform, T.n_Platform_layers, by show 5 < 1000; decide, ?_⟩
  have e1 := e1.set (o := .ins (He.ga K "Platform") dx [("is_ready", .bl false), ("salt", .ref d1), ("begun", .int 0), ("holdout", .int 0), ("clock", .int 0), ("layers", .ref d2)])
  refine ⟨Nat.zero_le _, fun d3 g3 => ?_⟩
  have e1 := e1.same (same_new (o := .lst []) g3)
  refine ⟨_, rfl, x, _, _, _, rfl, (same_new g3) _ _ upd_same, T.c_Platform, T.n_Platform_experiments, by show 6 < 1000; decide, ?_⟩
  have e1 := e1.set (o := .ins (He.ga K "Platform") dx [("is_ready", .bl false), ("salt", .ref d1), ("begun", .int 0), ("holdout", .int 0), ("clock", .int 0), ("layers", .ref d2), ("experiments", .ref d3)])
  intro d4 g4
  have e1 := e1.same (same_new (o := DicO P w d4 []) g4)
  refine ⟨_, rfl, x, _, _, _, rfl, (same_new g4) _ _ upd_same, T.c_Platform, T.n_Platform_overrides, by show 7 < 1000; decide, ?_⟩
  have e1 := e1.set (o := .ins (He.ga K "Platform") dx [("is_ready", .bl false), ("salt", .ref d1), ("begun", .int 0), ("holdout", .int 0), ("clock", .int 0), ("layers", .ref d2), ("experiments", .ref d3), ("overrides", .ref d4)])
  refine ⟨Nat.zero_le _, fun d5 g5 => ?_⟩
  have e1 := e1.same (same_new (o := .lst []) g5)
  refine ⟨_, rfl, x, _, _, _, rfl, (same_new g5) _ _ upd_same, T.c_Platform, T.n_Platform_stored, by show 8 < 1000; decide, ?_⟩
  exact k _ _ _ _ _ _ _ _ _ e1.set upd_same
theorem sc_Platform_start : FnScope ["self", "salt"] ["self", "salt"] (defScope s_Platform_start) := ⟨rfl, rfl, rfl, by decide +kernel, rfl, by decide +kernel, by decide +kernel⟩
theorem h_Platform_start (T : Txt K mg) : Held P w K mg base 3 (He.ma K (He.ga K "Platform") "start") (spStart P w K) := by
  refine held_of (ps := ["self", "salt"]) T.d_Platform_start sc_Platform_start (fun vs H Q E h => by obtain ⟨p, t, dx, sa, r, s, b, h, c, l, e, o, z, rfl, _⟩ := h; rfl) (fun _ _ _ _ _ _ us hl => match us, hl with | [_, _], _ => rfl) (fun cdv A outer s H vs Q E hr h => ?_)
  refine ⟨_, pss_cons (ps_fld (pv 0) pe_bl rfl) (pss_cons (ps_fld (pv 0) (pv 1) rfl) (pss_cons (ps_fld (pv 0) (pe_callH (h_salted T) hr T.g_salted (pa_cons (pv 1) pa_nil)) rfl) (pss_cons (ps_fld (pv 0) pe_int rfl) (pss_cons (ps_fld (pv 0) pe_int rfl)
    (pss_cons (ps_fld (pv 0) (pe_lst pa_nil) rfl) (pss_cons (ps_fld (pv 0) (pe_lst pa_nil) rfl) (pss_cons (ps_fld (pv 0) pe_dnewO rfl) (pss_one (ps_fld (pv 0) (pe_lst pa_nil) rfl))))))))), ?_⟩
  obtain ⟨p, t, dx, sa, r, s0, b, h0, c, l, e, o, z, rfl, hx, ht, k⟩ := h
  have l9 : (9 : Nat) < 1000 := by decide
  refine ⟨_, rfl, p, _, _, _, rfl, hx, T.c_Platform, T.n_Platform_is_ready, l9, ?_⟩
  have e1 : Exc p H _ := Exc.refl.set (o := .ins (He.ga K "Platform") dx (plaF (.bl true) s0 b h0 c l e o z))
  refine ⟨_, rfl, _, rfl, p, _, _, _, rfl, upd_same, T.c_Platform, T.n_Platform_salt, l9, ?_⟩
  have e1 := e1.set (o := .ins (He.ga K "Platform") dx (plaF (.bl true) (.ref t) b h0 c l e o z))
  refine ⟨_, rfl, t, sa, rfl, .inr (e1.tup hx ht), fun H2 s2 => ?_⟩
  have e1 := e1.same s2
  refine ⟨_, rfl, p, _, _, _, rfl, s2 _ _ upd_same, T.c_Platform, T.n_Platform_begun, l9, ?_⟩
  have e1 := e1.set (o := .ins (He.ga K "Platform") dx (plaF (.bl true) (.ref t) (nI (sltd sa)) h0 c l e o z))
  refine ⟨_, rfl, p, _, _, _, rfl, upd_same, T.c_Platform, T.n_Platform_holdout, l9, ?_⟩
  have e1 := e1.set (o := .ins (He.ga K "Platform") dx (plaF (.bl true) (.ref t) (nI (sltd sa)) (nI 0) c l e o z))
  refine ⟨_, rfl, p, _, _, _, rfl, upd_same, T.c_Platform, T.n_Platform_clock, l9, ?_⟩
  have e1 := e1.set (o := .ins (He.ga K "Platform") dx (plaF (.bl true) (.ref t) (nI (sltd sa)) (nI 0) (nI 0) l e o z))
  refine absH (Pr := fun HZ => Exc p H HZ ∧ HZ p = some (.ins (He.ga K "Platform") dx (plaF (.bl true) (.ref t) (nI (sltd sa)) (nI 0) (nI 0) l e o z))) ⟨e1, upd_same⟩ ?_
  rintro HZ ⟨e1, pZ⟩
  -- layers
  refine ⟨Nat.zero_le _, fun d2 g2 => ?_⟩
  refine ⟨_, rfl, p, _, _, _, rfl, (same_new g2) _ _ pZ, T.c_Platform, T.n_Platform_layers, l9, ?_⟩
  have m2 : d2 ≠ p := fun w => by rw [w, pZ] at g2; cases g2
  refine absH (Pr := fun HZ => Exc p H HZ ∧ HZ p = some (.ins (He.ga K "Platform") dx (plaF (.bl true) (.ref t) (nI (sltd sa)) (nI 0) (nI 0) (.ref d2) e o z)) ∧ H d2 = none ∧ HZ d2 = some (.lst [])) ⟨(e1.same (same_new g2)).set, upd_same, e1.new pZ g2, by rw [upd_ne m2]; exact upd_same⟩ ?_
  clear e1 pZ g2
  clear HZ
  rintro HZ ⟨e1, pZ, f2, y2⟩
  -- experiments
  refine ⟨Nat.zero_le _, fun d3 g3 => ?_⟩
  refine ⟨_, rfl, p, _, _, _, rfl, (same_new g3) _ _ pZ, T.c_Platform, T.n_Platform_experiments, l9, ?_⟩
  have m3 : d3 ≠ p := fun w => by rw [w, pZ] at g3; cases g3
  have n23 : d2 ≠ d3 := ne_of_none y2 g3
  refine absH (Pr := fun HZ => Exc p H HZ ∧ HZ p = some (.ins (He.ga K "Platform") dx (plaF (.bl true) (.ref t) (nI (sltd sa)) (nI 0) (nI 0) (.ref d2) (.ref d3) o z)) ∧ H d3 = none ∧ HZ d2 = some (.lst []) ∧ HZ d3 = some (.lst [])) ⟨(e1.same (same_new g3)).set, upd_same, e1.new pZ g3, by rw [upd_ne m2]; exact same_new g3 _ _ y2, by rw [upd_ne m3]; exact upd_same⟩ ?_
  clear e1 pZ g3 y2
  clear HZ
  rintro HZ ⟨e1, pZ, f3, y2, y3⟩
  -- overrides
  intro d4 g4
  refine ⟨_, rfl, p, _, _, _, rfl, (same_new g4) _ _ pZ, T.c_Platform, T.n_Platform_overrides, l9, ?_⟩
  have m4 : d4 ≠ p := fun w => by rw [w, pZ] at g4; cases g4
  refine absH (Pr := fun HZ => Exc p H HZ ∧ HZ p = some (.ins (He.ga K "Platform") dx (plaF (.bl true) (.ref t) (nI (sltd sa)) (nI 0) (nI 0) (.ref d2) (.ref d3) (.ref d4) z)) ∧ HZ d2 = some (.lst []) ∧ HZ d3 = some (.lst []) ∧ HZ d4 = some (DicO P w d4 [])) ⟨(e1.same (same_new g4)).set, upd_same, by rw [upd_ne m2]; exact same_new g4 _ _ y2, by rw [upd_ne m3]; exact same_new g4 _ _ y3, by rw [upd_ne m4]; exact upd_same⟩ ?_
  clear e1 pZ g4 y2 y3
  clear HZ
  rintro HZ ⟨e1, pZ, y2, y3, y4⟩
  -- stored
  refine ⟨Nat.zero_le _, fun d5 g5 => ?_⟩
  refine ⟨_, rfl, p, _, _, _, rfl, (same_new g5) _ _ pZ, T.c_Platform, T.n_Platform_stored, l9, ?_⟩
  have m5 : d5 ≠ p := fun w => by rw [w, pZ] at g5; cases g5
  refine k _ ⟨d2, d3, d4, d5⟩ (e1.same (same_new g5)).set ⟨⟨dx, t, upd_same, (e1.same (same_new g5)).set.tup hx ht⟩, ⟨[], by rw [upd_ne m2]; exact same_new g5 _ _ y2, .nil, .nil⟩, ⟨[], by rw [upd_ne m3]; exact same_new g5 _ _ y3, .nil, .nil⟩, ⟨[], by rw [upd_ne m4]; exact same_new g5 _ _ y4, fun x hx => (by cases hx), ⟨.nil, .nil⟩⟩, ⟨[], by rw [upd_ne m5]; exact upd_same, .nil, .nil⟩, n23, ne_of_none y2 g5, ne_of_none y3 g5⟩ f2 f3 (e1.new pZ g5)
end
end Vb

set_option Elab.async false
set_option linter.all false
set_option maxRecDepth 100000
set_option maxHeartbeats 4000000
/-! The platform's looks: has_experiment, layer_of, is_held_out, valid. -/
namespace Vb
open PySem PySem.Spec PyProof.Rows L2
open LamX (ExtN Tabs TabB)
open Kex2 (experimentAt)
/-! ### a choice of a list -/
def pickL {α : Type} (vs : List V) (l : List α) (g : α → Bool) : List V := ((vs.zip l).filter fun z => g z.2).map (·.1)
theorem pick_snoc {α : Type} {vs : List V} {l : List α} {g : α → Bool} {v : V} {y : α} (h : vs.length = l.length) : pickL (vs ++ [v]) (l ++ [y]) g = pickL vs l g ++ if g y = true then [v] else [] := by
  unfold pickL
  rw [List.zip_append h, List.filter_append, List.map_append]
  congr 1
  by_cases c : g y = true
  · rw [if_pos c]
    simp [c]
  · rw [if_neg c]
    simp [c]
theorem each_tail {α β : Type} {F : α → β → Prop} {x : α} {y : β} {xs : List α} {ys : List β} (e : Each F (x :: xs) (y :: ys)) : F x y ∧ Each F xs ys :=
  ⟨e.at_ 0 x y rfl rfl, Nat.succ.inj e.len, fun i a b h k => e.at_ (i + 1) a b (by simpa using h) (by simpa using k)⟩
theorem each_cons {α β : Type} {F : α → β → Prop} {x : α} {y : β} {xs : List α} {ys : List β} (h : F x y) (e : Each F xs ys) : Each F (x :: xs) (y :: ys) :=
  ⟨congrArg Nat.succ e.len, fun i a b p q => by
    cases i with
    | zero =>
      simp at p q
      rw [← p, ← q]
      exact h
    | succ i => exact e.at_ i a b (by simpa using p) (by simpa using q)⟩
theorem pick_each {α : Type} {F : V → α → Prop} {g : α → Bool} : ∀ {vs : List V} {l : List α}, Each F vs l → Each F (pickL vs l g) (l.filter g) ∧ (pickL vs l g).Sublist vs
  | [], [], _ => ⟨.nil, .slnil⟩
  | [], _ :: _, e => by cases e.len
  | _ :: _, [], e => by cases e.len
  | v :: vs, y :: l, e => by
    obtain ⟨h, e⟩ := each_tail e
    obtain ⟨i1, i2⟩ := pick_each (g := g) e
    unfold pickL at i1 i2 ⊢
    rw [List.zip_cons_cons, List.filter_cons, List.filter_cons]
    by_cases c : g y = true
    · rw [if_pos (show g (v, y).2 = true from c), if_pos c, List.map_cons]
      exact ⟨each_cons h i1, i2.cons₂ _⟩
    · rw [if_neg (show ¬ g (v, y).2 = true from c), if_neg c]
      exact ⟨i1, i2.cons _⟩
theorem pick_at {α : Type} {g : α → Bool} {vs : List V} {l : List α} {j : Nat} {y : V} (h : (pickL vs l g)[j]? = some y) : ∃ (i : Nat) (s : α), vs[i]? = some y ∧ l[i]? = some s ∧ g s = true := by
  have hm := List.mem_of_getElem? h
  unfold pickL at hm
  obtain ⟨z, hz, rfl⟩ := List.mem_map.mp hm
  obtain ⟨h1, h2⟩ := List.mem_filter.mp hz
  obtain ⟨i, hi⟩ := List.mem_iff_getElem?.mp h1
  rw [List.getElem?_zip_eq_some] at hi
  exact ⟨i, z.2, hi.1, hi.2, h2⟩
theorem mem_filt {α : Type} {g : α → Bool} {l : List α} {x : α} (h : x ∈ l.filter g) : x ∈ l := (List.mem_filter.mp h).1
theorem pick_snd {α : Type} {g : α → Bool} : ∀ {vs : List V} {l : List α}, vs.length = l.length → l.filter g = ((vs.zip l).filter fun z => g z.2).map (·.2)
  | [], [], _ => rfl
  | [], _ :: _, e => by cases e
  | _ :: _, [], e => by cases e
  | v :: vs, y :: l, e => by
    rw [List.zip_cons_cons, List.filter_cons, List.filter_cons]
    by_cases c : g y = true
    · rw [if_pos (show g (v, y).2 = true from c), if_pos c, List.map_cons, pick_snd (Nat.succ.inj e)]
    · rw [if_neg (show ¬ g (v, y).2 = true from c), if_neg c, pick_snd (Nat.succ.inj e)]
theorem pick_at2 {α : Type} {g : α → Bool} {vs : List V} {l : List α} {j : Nat} {y : V} {s : α} (e : vs.length = l.length) (h : (pickL vs l g)[j]? = some y) (k : (l.filter g)[j]? = some s) : ∃ i : Nat, vs[i]? = some y ∧ l[i]? = some s := by
  rw [pick_snd e, List.getElem?_map] at k
  unfold pickL at h
  rw [List.getElem?_map] at h
  cases q : ((vs.zip l).filter fun z => g z.2)[j]? with
  | none => rw [q] at h; cases h
  | some z =>
    rw [q] at h k
    cases h
    cases k
    obtain ⟨i, hi⟩ := List.mem_iff_getElem?.mp (mem_filt (List.mem_of_getElem? q))
    rw [List.getElem?_zip_eq_some] at hi
    exact ⟨i, hi.1, hi.2⟩
theorem pick_len {α : Type} {g : α → Bool} (vs : List V) (l : List α) : (pickL vs l g).length ≤ vs.length := by
  unfold pickL
  rw [List.length_map]
  exact Nat.le_trans (List.length_filter_le _ _) (by rw [List.length_zip]; omega)
/-! ### promises -/
def valids (a : Kex2.Assigner) : List Kex2.Sticky := a.sticky.filter fun s => decide (a.clock < s.expiry)
def spHas (P : Program) (w : World) (K : PySem.W.Frag) : Sp := fun vs H Q _ => ∃ (p : Addr) (c : Loc) (a : Kex2.Assigner) (n : Nat), vs = [.ref p, nI n] ∧ Rep P w K H p c a ∧ Q (.bl (experimentAt a n).isSome) H
def spLayerOf (P : Program) (w : World) (K : PySem.W.Frag) : Sp := fun vs H Q _ => ∃ (p : Addr) (c : Loc) (a : Kex2.Assigner) (n : Nat) (x : Kex2.Experiment) (l : Kex2.Layer), vs = [.ref p, nI n] ∧ Rep P w K H p c a ∧ experimentAt a n = some x ∧ a.layers[x.layer]? = some l ∧
  ∀ y vl, H c.ls = some (.lst vl) → vl[x.layer]? = some y → LayR K H y l → Q y H
def spHeld (P : Program) (w : World) (K : PySem.W.Frag) : Sp := fun vs H Q _ => ∃ (p t : Addr) (c : Loc) (a : Kex2.Assigner) (u : List Nat), vs = [.ref p, .ref t] ∧ Rep P w K H p c a ∧ SqA K H t (nats u) ∧ Q (.bl (Kex2.isHeldOut a u)) H
def spValid (P : Program) (w : World) (K : PySem.W.Frag) : Sp := fun vs H Q _ => ∃ (p : Addr) (c : Loc) (a : Kex2.Assigner), vs = [.ref p] ∧ Rep P w K H p c a ∧ a.sticky.length ≤ 32 ∧
  ∀ H' q ws, Same H H' → H q = none → H c.st = some (.lst ws) → H' q = some (.lst (pickL ws a.sticky fun s => decide (a.clock < s.expiry))) → Q (.ref q) H'
theorem exp_at {a : Kex2.Assigner} {n : Nat} {x : Kex2.Experiment} : experimentAt a n = some x ↔ a.experiments[n]? = some (some x) := by
  unfold experimentAt
  cases h : a.experiments[n]? with
  | none => simp [Option.join]
  | some o => cases o <;> simp [Option.join]
theorem held_eq (a : Kex2.Assigner) (u : List Nat) : decide (((bkt (sltd a.salt) u : Nat) : Int) < (a.holdout : Int)) = Kex2.isHeldOut a u := by
  unfold Kex2.isHeldOut
  rw [bucket_eq]
  by_cases h : bkt (sltd a.salt) u < a.holdout
  · rw [decide_eq_true h, decide_eq_true (by omega)]
  · rw [decide_eq_false h, decide_eq_false (by omega)]
section
variable {P : Program} {w : World} {K : PySem.W.Frag} {mg : Str → Option Value} {base : Heap}
theorem sc_Platform_has : FnScope ["self", "number"] ["self", "number"] (defScope s_Platform_has_experiment) := ⟨rfl, rfl, rfl, by decide +kernel, rfl, by decide +kernel, by decide +kernel⟩
theorem h_has (T : Txt K mg) : Held P w K mg base 1 (He.ma K (He.ga K "Platform") "has_experiment") (spHas P w K) := by
  refine held_of (ps := ["self", "number"]) T.d_Platform_has_experiment sc_Platform_has (fun vs H Q E h => by obtain ⟨p, c, a, n, rfl, _⟩ := h; rfl) (fun _ _ _ _ _ _ us hl => match us, hl with | [_, _], _ => rfl) (fun cdv A outer s H vs Q E hr h => ?_)
  refine ⟨_, pss_one (ps_ret (pe_and (pe_cmpR op_lt (pv 1) (pe_callB call_len_seq (by rfl) T.f_len PySem.boot_len (pa_cons (pe_fld (pv 0) rfl) pa_nil)) (nomark _))
    (pe_one (pe_cmp (pc_notN (pe_ix ix_list (pe_fld (pv 0) rfl) (pv 1) (fun _ _ => rfl))))))), ?_⟩
  obtain ⟨p, c, a, n, rfl, R, k⟩ := h
  obtain ⟨dx, q, hp, hq⟩ := R.pl
  obtain ⟨vs, he, hE, hD⟩ := R.es
  refine ⟨_, rfl, _, rfl, p, _, _, _, _, rfl, hp, T.c_Platform, T.n_Platform_experiments, rfl, c.es, vs, rfl, .inl (SqL.of he), _, _, rfl, rfl, _, rfl, ?_⟩
  rw [hE.len]
  by_cases h : n < a.experiments.length
  · rw [decide_eq_true (show (n : Int) < (a.experiments.length : Int) by omega)]
    obtain ⟨o, ho⟩ : ∃ o, a.experiments[n]? = some o := ⟨_, List.getElem?_eq_getElem h⟩
    obtain ⟨y, hy, hr1⟩ := hE.right ho
    refine (if_pos rfl).mpr ⟨_, rfl, p, _, _, _, _, rfl, hp, T.c_Platform, T.n_Platform_experiments, rfl, _, rfl, c.es, vs, _, _, rfl, rfl, SqL.of he, atI_nat hy, ?_⟩
    have e : (!decide (y = V.non)) = (experimentAt a n).isSome := by
      cases o with
      | none =>
        have e1 : experimentAt a n = none := by unfold experimentAt; rw [ho]; rfl
        rw [show y = V.non from hr1, e1]
        rfl
      | some x =>
        obtain ⟨b, _, _, rfl, _⟩ := hr1
        rw [exp_at.mpr ho]
        rfl
    rw [← e] at k
    exact k
  · rw [decide_eq_false (show ¬ (n : Int) < (a.experiments.length : Int) by omega)]
    have e1 : experimentAt a n = none := by unfold experimentAt; rw [List.getElem?_eq_none (by omega)]; rfl
    rw [e1] at k
    exact k
theorem sc_Platform_layer_of : FnScope ["self", "number"] ["self", "number"] (defScope s_Platform_layer_of) := ⟨rfl, rfl, rfl, by decide +kernel, rfl, by decide +kernel, by decide +kernel⟩
theorem h_layer_of (T : Txt K mg) : Held P w K mg base 1 (He.ma K (He.ga K "Platform") "layer_of") (spLayerOf P w K) := by
  refine held_of (ps := ["self", "number"]) T.d_Platform_layer_of sc_Platform_layer_of (fun vs H Q E h => by obtain ⟨p, c, a, n, x, l, rfl, _⟩ := h; rfl) (fun _ _ _ _ _ _ us hl => match us, hl with | [_, _], _ => rfl) (fun cdv A outer s H vs Q E hr h => ?_)
  refine ⟨_, pss_one (ps_ret (pe_ix ix_list (pe_fld (pv 0) rfl) (pe_fld (pe_ix ix_list (pe_fld (pv 0) rfl) (pv 1) (fun _ _ => rfl)) rfl) (fun _ _ => rfl))), ?_⟩
  obtain ⟨p, c, a, n, x, l, rfl, R, hx, hl, k⟩ := h
  obtain ⟨dx, q, hp, hq⟩ := R.pl
  obtain ⟨vs, he, hE, hD⟩ := R.es
  obtain ⟨vl, hv, hL, hD2⟩ := R.ls
  obtain ⟨y, hy, b, bx, bp, rfl, hb, _⟩ := hE.right (exp_at.mp hx)
  obtain ⟨z, hz, hzr⟩ := hL.right hl
  refine ⟨_, rfl, p, _, _, _, _, rfl, hp, T.c_Platform, T.n_Platform_layers, rfl, _, rfl, p, _, _, _, _, rfl, hp, T.c_Platform, T.n_Platform_experiments, rfl, _, rfl, c.es, vs, _, _, rfl, rfl, SqL.of he, atI_nat hy,
    b, _, _, _, _, rfl, hb, T.c_Experiment, T.n_Experiment_layer, rfl, c.ls, vl, _, _, rfl, rfl, SqL.of hv, atI_nat hz, k z vl hv hz hzr⟩
theorem sc_Platform_held : FnScope ["self", "unit"] ["self", "unit"] (defScope s_Platform_is_held_out) := ⟨rfl, rfl, rfl, by decide +kernel, rfl, by decide +kernel, by decide +kernel⟩
theorem h_held (T : Txt K mg) : Held P w K mg base 3 (He.ma K (He.ga K "Platform") "is_held_out") (spHeld P w K) := by
  refine held_of (ps := ["self", "unit"]) T.d_Platform_is_held_out sc_Platform_held (fun vs H Q E h => by obtain ⟨p, t, c, a, u, rfl, _⟩ := h; rfl) (fun _ _ _ _ _ _ us hl => match us, hl with | [_, _], _ => rfl) (fun cdv A outer s H vs Q E hr h => ?_)
  refine ⟨_, pss_one (ps_ret (pe_cmpR op_lt (pe_callH (h_bucket_behind T) hr T.g_bucket_behind (pa_cons (pe_fld (pv 0) rfl) (pa_cons (pv 1) pa_nil))) (pe_fld (pv 0) rfl) (nomark _))), ?_⟩
  obtain ⟨p, t, c, a, u, rfl, R, hu, k⟩ := h
  obtain ⟨dx, q, hp, hq⟩ := R.pl
  refine ⟨_, rfl, p, _, _, _, _, rfl, hp, T.c_Platform, T.n_Platform_begun, rfl, _, rfl, _, t, u, rfl, hu, _, rfl, p, _, _, _, _, rfl, hp, T.c_Platform, T.n_Platform_holdout, rfl, _, _, rfl, rfl, ?_⟩
  rw [← held_eq] at k
  exact k
theorem sc_Platform_valid : FnScope ["self", "one"] ["self"] (defScope s_Platform_valid) := ⟨rfl, rfl, rfl, by decide +kernel, rfl, by decide +kernel, by decide +kernel⟩
theorem h_valid (T : Txt K mg) : Held P w K mg base 1 (He.ma K (He.ga K "Platform") "valid") (spValid P w K) := by
  refine held_of (ps := ["self"]) T.d_Platform_valid sc_Platform_valid (fun vs H Q E h => by obtain ⟨p, c, a, rfl, _⟩ := h; rfl) (fun _ _ _ _ _ _ us hl => match us, hl with | [_], _ => rfl) (fun cdv A outer s H vs Q E hr h => ?_)
  have nd := sc_Platform_valid.nd
  refine ⟨_, pss_one (ps_ret (pe_lc (own := [("one", 1)]) (g := gName 1) (tt := tTest (tOp (rI0 fun i j => .bl (decide (i < j))) (tFld K (tVar 0) "clock") (tFld K (tVar 1) "expiry"))) (te := tVar 1) rfl nd (pi_list (pe_fld (pv 0) rfl)) (blkOk_by (own := [("one", 1)]) (N := ["self", "one"]) (sc := defScope s_Platform_valid) (by decide +kernel))
    (fun _ _ _ _ _ => pg_name (i := 1) nd rfl (Or.inl rfl)) (fun _ _ _ _ _ => pts_one (pt_cmpR op_lt (pe_fld (pv 0) rfl) (pe_fld (pv 1) rfl) (nomark _))) (fun _ _ _ _ _ => pv 1))), ?_⟩
  obtain ⟨p, c, a, rfl, R, h32, k⟩ := h
  obtain ⟨dx, q, hp, hq⟩ := R.pl
  obtain ⟨vs, hs, hS, hD⟩ := R.st
  refine ⟨_, rfl, p, _, _, _, _, rfl, hp, T.c_Platform, T.n_Platform_stored, rfl, c.st, rfl, ⟨vs, SqL.of hs⟩, fun D hDn => ?_⟩
  refine lc_it (walk_list (K := K) (a := c.st) (xs := vs)) (fun i H1 => Same H H1 ∧ H1 D = some (.lst (pickL (vs.take i) (a.sticky.take i) fun s => decide (a.clock < s.expiry)))) ⟨same_new hDn, upd_same⟩ (fun i H1 _ p => p.1.seq (SqL.of hs)) ?_ ?_
  · rintro i x H1 H2 hi ⟨s1, hD1⟩ ⟨rfl, hx⟩
    obtain ⟨y, hy, b, bx, bp, rfl, hb, _⟩ := hS.left hx
    refine ⟨rfl, _, rfl, p, _, _, _, _, rfl, s1 _ _ hp, T.c_Platform, T.n_Platform_clock, rfl, _, rfl, b, _, _, _, _, rfl, s1 _ _ hb, T.c_Stored, T.n_Stored_expiry, rfl, _, _, rfl, rfl, _, rfl, ?_⟩
    have hl : (vs.take i).length = (a.sticky.take i).length := by rw [List.length_take, List.length_take, hS.len]
    by_cases h : a.clock < y.expiry
    · rw [decide_eq_true (show (a.clock : Int) < (y.expiry : Int) by omega)]
      refine iteT ⟨_, rfl, _, hD1, ?_, same_upd s1 hDn, ?_⟩
      · refine Nat.lt_of_le_of_lt (Nat.le_trans (pick_len _ _) (Nat.le_trans (by rw [List.length_take]; exact Nat.min_le_right _ _) (by rw [hS.len]; exact h32))) (by decide)
      · rw [upd_same, take_snoc hx, take_snoc hy, pick_snoc hl, if_pos (decide_eq_true h)]
    · rw [decide_eq_false (show ¬ (a.clock : Int) < (y.expiry : Int) by omega)]
      refine iteF ⟨s1, ?_⟩
      rw [take_snoc hx, take_snoc hy, pick_snoc hl, if_neg (by rw [decide_eq_false h]; decide), List.append_nil]
      exact hD1
  · rintro H1 ⟨s1, hD1⟩
    rw [List.take_length, List.take_of_length_le (by rw [hS.len]; exact Nat.le_refl _)] at hD1
    exact k H1 D vs s1 hDn hs hD1
end
end Vb

set_option maxHeartbeats 4000000
set_option Elab.async false
set_option linter.all false
/-! Looks in a state that is in order. -/
namespace Vb
open Kex2 (experimentAt)
def validsA (a : Kex2.Assigner) : List Kex2.Sticky := a.sticky.filter fun s => decide (a.clock < s.expiry)
theorem find_first {α : Type} {m : α → Bool} : ∀ {l : List α} {i : Nat} {s : α}, (∀ (j : Nat) t, j < i → l[j]? = some t → m t = false) → l[i]? = some s → m s = true → l.find? m = some s
  | [], _, _, _, h, _ => by simp at h
  | x :: r, 0, s, _, h, hs => by
    simp at h
    subst h
    rw [List.find?_cons, hs]
  | x :: r, i + 1, s, hn, h, hs => by
    have h0 := hn 0 x (by omega) rfl
    rw [List.find?_cons, h0]
    exact find_first (i := i) (fun j t hj ht => hn (j + 1) t (by omega) (by simpa using ht)) (by simpa using h) hs
theorem find_none {α : Type} {m : α → Bool} {l : List α} (h : ∀ (j : Nat) t, l[j]? = some t → m t = false) : l.find? m = none := by
  rw [List.find?_eq_none]
  intro x hx
  obtain ⟨j, hj⟩ := List.mem_iff_getElem?.mp hx
  rw [h j x hj]
  decide
theorem Wf.live {a : Kex2.Assigner} (W : Wf a) {s : Kex2.Sticky} (h : s ∈ a.sticky) : Kex2.isLive a s = decide (a.clock < s.expiry) := by
  obtain ⟨x, hx, _⟩ := W.st s h
  unfold Kex2.isLive
  rw [hx]
  simp
theorem Wf.valids {a : Kex2.Assigner} (W : Wf a) : a.sticky.filter (Kex2.isLive a) = validsA a := by
  unfold validsA
  apply List.filter_congr
  intro s hs
  exact W.live hs
def inLay (a : Kex2.Assigner) (layer : Nat) (unit : List Nat) (s : Kex2.Sticky) : Bool := s.unit == unit && ((experimentAt a s.experiment).map (·.layer) == some layer)
theorem Wf.sticky {a : Kex2.Assigner} (W : Wf a) (layer : Nat) (unit : List Nat) : Kex2.stickyIn a layer unit = (validsA a).find? (inLay a layer unit) := by
  unfold Kex2.stickyIn
  rw [← W.valids, List.find?_filter]
  congr 1
  funext s
  unfold inLay
  cases Kex2.isLive a s <;> cases (s.unit == unit) <;> cases ((experimentAt a s.experiment).map (·.layer) == some layer) <;> rfl
theorem own_find {o i n : Nat} (h : o = 0 ∨ ∃ e v, o = Kex2.ownerOf e v ∧ v < 4 ∧ (e = i → v < n)) (hn : n ≤ 4) :
    (o = 0 ∧ (List.range n).find? (fun v => o == Kex2.ownerOf i v) = none) ∨ ∃ e v, o = Kex2.ownerOf e v ∧ v < 4 ∧ (List.range n).find? (fun v => o == Kex2.ownerOf i v) = if e = i then some v else none := by
  rcases h with rfl | ⟨e, v, rfl, hv, hi⟩
  · refine .inl ⟨rfl, ?_⟩
    rw [List.find?_eq_none]
    intro x _
    unfold Kex2.ownerOf
    simp
    omega
  · refine .inr ⟨e, v, rfl, hv, ?_⟩
    by_cases c : e = i
    · subst c
      rw [if_pos rfl]
      refine find_first (i := v) (fun j t hj ht => ?_) (List.getElem?_range (hi rfl)) (by simp)
      have hjn : j < n := by have := hi rfl; omega
      rw [List.getElem?_range hjn] at ht
      cases ht
      unfold Kex2.ownerOf
      rw [beq_eq_false_iff_ne]
      omega
    · rw [if_neg c, List.find?_eq_none]
      intro x hx
      have hx' := List.mem_range.mp hx
      unfold Kex2.ownerOf
      simp
      omega
/-- the assignment of a unit where there is an experiment -/
def asg (a : Kex2.Assigner) (i : Nat) (x : Kex2.Experiment) (u : List Nat) : Option (Nat × Nat) := match a.overrides.find? fun o => o.experiment == i && o.unit == u with
  | some o => some (o.variant, 0)
  | none =>
    if Kex2.isHeldOut a u then none
    else match Kex2.stickyIn a x.layer u with
      | some s => if s.experiment = i then some (s.variant, 1) else none
      | none => ((List.range x.weights.length).find? fun v => (Kex2.ownersOf a x.layer).getD (Kex2.bucket (a.layers.getD x.layer ⟨[], []⟩).salt u) 0 == Kex2.ownerOf i v) |>.map fun v => (v, 2)
theorem asg_eq {a : Kex2.Assigner} {i : Nat} {x : Kex2.Experiment} (u : List Nat) (h : experimentAt a i = some x) : Kex2.assignment a i u = asg a i x u := by
  unfold Kex2.assignment asg
  rw [h]
  rfl
theorem lay_get {a : Kex2.Assigner} {i : Nat} {l : Kex2.Layer} (h : a.layers[i]? = some l) : Kex2.ownersOf a i = l.owners ∧ (a.layers.getD i ⟨[], []⟩).salt = l.salt := by
  unfold Kex2.ownersOf
  rw [List.getD_eq_getElem?_getD, h]
  exact ⟨rfl, rfl⟩
theorem lay_of {a : Kex2.Assigner} {i : Nat} (h : i < a.layers.length) : ∃ l, a.layers[i]? = some l := ⟨_, List.getElem?_eq_getElem h⟩
end Vb

set_option Elab.async false
set_option linter.all false
set_option maxRecDepth 100000
set_option maxHeartbeats 4000000
/-! stored_in, assignment. -/
namespace Vb
open PySem PySem.Spec PyProof.Rows L2
open LamX (ExtN Tabs TabB)
open Kex2 (experimentAt)
def natsD (u : List Nat) : PyData := .tuple (u.map fun (n : Nat) => .int (n : Int))
theorem nats_dpA {K : PySem.W.Frag} {H : Hp} : ∀ u : List Nat, DpAll K H (nats u) (u.map fun (n : Nat) => PyData.int (n : Int))
  | [] => .nil
  | n :: u => .cons (.int _) (nats_dpA u)
theorem nats_dp {K : PySem.W.Frag} {H : Hp} {t : Addr} {u : List Nat} (h : SqT K H t (nats u)) : Dp K H (.ref t) (natsD u) := .tup h (nats_dpA u)
theorem nats_eqvA : ∀ u v : List Nat, PyData.eqvAll (u.map fun (n : Nat) => PyData.int (n : Int)) (v.map fun (n : Nat) => PyData.int (n : Int)) = decide (u = v)
  | [], [] => rfl
  | [], _ :: _ => rfl
  | _ :: _, [] => rfl
  | a :: u, b :: v => by
    rw [List.map_cons, List.map_cons]
    show (PyData.eqv (PyData.int (a : Int)) (PyData.int (b : Int)) && PyData.eqvAll _ _) = _
    rw [nats_eqvA u v]
    show (decide ((a : Int) = (b : Int)) && decide (u = v)) = decide (a :: u = b :: v)
    by_cases h : a = b
    · subst h
      rw [decide_eq_true (rfl : (a : Int) = (a : Int)), Bool.true_and]
      simp
    · rw [decide_eq_false (show ¬ (a : Int) = (b : Int) by omega), Bool.false_and]
      simp [h]
theorem nats_eqv (u v : List Nat) : PyData.eqv (natsD u) (natsD v) = decide (u = v) := nats_eqvA u v
theorem nats_lay : ∀ u : List Nat, PyData.canLayAll0 (u.map fun (n : Nat) => PyData.int (n : Int)) = true
  | [] => rfl
  | a :: u => by
    rw [List.map_cons]
    show (PyData.canLay0 (PyData.int (a : Int)) && PyData.canLayAll0 _) = true
    rw [nats_lay u]
    rfl
theorem nats_dep : ∀ u : List Nat, PyData.depthAll (u.map fun (n : Nat) => PyData.int (n : Int)) = 0
  | [] => rfl
  | a :: u => by
    rw [List.map_cons]
    show max (PyData.depth (PyData.int (a : Int))) (PyData.depthAll _) = 0
    rw [nats_dep u]
    rfl
theorem nats_shaped (u : List Nat) : SeqAt.shaped (natsD u) = true := by
  unfold SeqAt.shaped natsD
  simp [PyData.canLay0, PyData.depth, nats_lay, nats_dep]
theorem int_shaped (i : Int) : SeqAt.shaped (.int i) = true := by
  unfold SeqAt.shaped
  simp [PyData.canLay0, PyData.depth]
def spStoredIn (P : Program) (w : World) (K : PySem.W.Frag) : Sp := fun vs H Q _ => ∃ (p t : Addr) (c : Loc) (a : Kex2.Assigner) (n : Nat) (u : List Nat), vs = [.ref p, nI n, .ref t] ∧ Rep P w K H p c a ∧ Wf a ∧ SqT K H t (nats u) ∧
  ∀ H' y, Same H H' → (match Kex2.stickyIn a n u with
    | none => y = .non
    | some s => ∃ (i : Nat) (ws : List V), H c.st = some (.lst ws) ∧ ws[i]? = some y ∧ a.sticky[i]? = some s ∧ s ∈ validsA a ∧ inLay a n u s = true) → Q y H'
/-- an answer of assignment -/
def AnsT (K : PySem.W.Frag) (H : Hp) (y : V) : Option (Nat × Nat) → Prop
  | none => ∃ t, y = .ref t ∧ SqT K H t [.int (-1), .int (-1)]
  | some r => ∃ t, y = .ref t ∧ SqT K H t [nI r.1, nI r.2]
def spAssign (P : Program) (w : World) (K : PySem.W.Frag) : Sp := fun vs H Q _ => ∃ (p t : Addr) (c : Loc) (a : Kex2.Assigner) (n : Nat) (u : List Nat), vs = [.ref p, nI n, .ref t] ∧ Rep P w K H p c a ∧ Wf a ∧ (experimentAt a n).isSome = true ∧ SqT K H t (nats u) ∧
  ∀ H' y, Same H H' → AnsT K H' y (Kex2.assignment a n u) → Q y H'
section
variable {P : Program} {w : World} {K : PySem.W.Frag} {mg : Str → Option Value} {base : Heap}
theorem sc_Platform_stored_in : FnScope ["self", "layer", "unit", "one"] ["self", "layer", "unit"] (defScope s_Platform_stored_in) := ⟨rfl, rfl, rfl, by decide +kernel, rfl, by decide +kernel, by decide +kernel⟩
theorem h_stored_in (T : Txt K mg) : Held P w K mg base 2 (He.ma K (He.ga K "Platform") "stored_in") (spStoredIn P w K) := by
  refine held_of (ps := ["self", "layer", "unit"]) T.d_Platform_stored_in sc_Platform_stored_in (fun vs H Q E h => by obtain ⟨p, t, c, a, n, u, rfl, _⟩ := h; rfl) (fun _ _ _ _ _ _ us hl => match us, hl with | [_, _, _], _ => rfl) (fun cdv A outer s H vs Q E hr h => ?_)
  have nd := sc_Platform_stored_in.nd
  refine ⟨_, pss_cons (ps_for PassesOwn.never rfl (pi_list (pe_meth0H (h_valid T) hr T.c_Platform T.m_Platform_valid (pv 0))) (pg_name (i := 3) nd rfl (Or.inl rfl))
      (pss_one (ps_if (PW.pt (pw_and (pt_cmpR (op_eqD hr.units) (pe_fld (pv 3) rfl) (pv 2) (nomark _)) (pw_and1 (pt_cmpR (op_eqD hr.units) (pe_fld (pe_ix ix_list (pe_fld (pv 0) rfl) (pe_fld (pv 3) rfl) (fun _ _ => rfl)) rfl) (pv 1) (nomark _)))))
        (pss_one (ps_ret (pv 3))) pss_nil)))
    (pss_one (ps_ret pe_non)), ?_⟩
  obtain ⟨p, t, c, a, n, u, rfl, R, W, ht, k⟩ := h
  obtain ⟨dx, q, hp, hq⟩ := R.pl
  obtain ⟨vs, he, hE, hD⟩ := R.es
  obtain ⟨ws, hs, hS, hD2⟩ := R.st
  rw [W.sticky] at k
  refine ⟨_, rfl, p, dx, _, rfl, hp, rfl, p, c, a, rfl, R, W.ns, fun H1 L ws' s1 hLn hws hL => ?_⟩
  obtain rfl : ws' = ws := by rw [hs] at hws; cases hws; rfl
  refine ⟨L, rfl, ⟨_, SqL.of hL⟩, ?_⟩
  have hV : Each (StoR K H1) (pickL ws' a.sticky fun s => decide (a.clock < s.expiry)) (validsA a) := (pick_each hS).1.mono fun _ _ h => h.keep (.same s1)
  refine for_it (walk_list (K := K) (a := L)) (fun i σ H2 => H2 = H1 ∧ (∃ v3, σ = [some (.ref p), some (nI n), some (.ref t), v3]) ∧ ∀ (j : Nat) s, j < i → (validsA a)[j]? = some s → inLay a n u s = false)
    ⟨rfl, ⟨_, rfl⟩, fun j _ h => by omega⟩ (fun i σ H2 _ h => by rw [h.1]; exact SqL.of hL) ?_ ?_
  · rintro i x σ H2 H3 hi ⟨rfl, ⟨v3, rfl⟩, hno⟩ ⟨rfl, hx⟩
    obtain ⟨y, hy, b, bx, bp, rfl, hb, hbp⟩ := hV.left hx
    have hmem : y ∈ a.sticky := mem_filt (List.mem_of_getElem? hy)
    obtain ⟨xe, hxe, _⟩ := W.st y hmem
    obtain ⟨z, hz, eb, ebx, ebp, rfl, heb, _⟩ := hE.right (exp_at.mp hxe)
    have il : inLay a n u y = (decide (y.unit = u) && decide (xe.layer = n)) := by
      unfold inLay
      rw [hxe]
      show ((y.unit == u) && (some xe.layer == some n)) = _
      by_cases h1 : y.unit = u <;> by_cases h2 : xe.layer = n <;> simp [h1, h2]
    refine ⟨_, rfl, b, _, _, _, _, rfl, hb, T.c_Stored, T.n_Stored_unit, rfl, _, rfl, natsD y.unit, natsD u, nats_dp hbp, nats_dp (same_seqT s1 ht), nats_shaped _, nats_shaped _, _, rfl, ?_⟩
    rw [nats_eqv]
    have fail : inLay a n u y = false → ∀ (j : Nat) s, j < i + 1 → (validsA a)[j]? = some s → inLay a n u s = false := fun h j s hj hs' => by
      by_cases e : j = i
      · subst e
        rw [hy] at hs'
        cases hs'
        exact h
      · exact hno j s (by omega) hs'
    by_cases c1 : y.unit = u
    · rw [decide_eq_true c1] at il ⊢
      refine iteT ⟨_, rfl, p, _, _, _, _, rfl, s1 _ _ hp, T.c_Platform, T.n_Platform_experiments, rfl, _, rfl, b, _, _, _, _, rfl, hb, T.c_Stored, T.n_Stored_experiment, rfl, c.es, vs, _, _, rfl, rfl, SqL.of (s1 _ _ he), atI_nat hz,
        eb, _, _, _, _, rfl, s1 _ _ heb, T.c_Experiment, T.n_Experiment_layer, rfl, _, rfl, .int xe.layer, .int n, .int _, .int _, int_shaped _, int_shaped _, _, rfl, ?_⟩
      have e2 : PyData.eqv (.int (xe.layer : Int)) (.int (n : Int)) = decide (xe.layer = n) := by
        show decide ((xe.layer : Int) = (n : Int)) = _
        by_cases h : xe.layer = n
        · rw [decide_eq_true h, decide_eq_true (by omega)]
        · rw [decide_eq_false h, decide_eq_false (by omega)]
      rw [e2]
      by_cases c2 : xe.layer = n
      · rw [decide_eq_true c2] at il ⊢
        refine iteT ⟨_, rfl, ?_⟩
        have ff := find_first hno hy il
        refine k _ _ s1 ?_
        rw [ff]
        obtain ⟨i', h1, h2⟩ := pick_at2 hS.len hx hy
        exact ⟨i', ws', hs, h1, h2, List.mem_of_getElem? hy, il⟩
      · rw [decide_eq_false c2] at il ⊢
        exact iteF ⟨rfl, ⟨_, rfl⟩, fail il⟩
    · rw [decide_eq_false c1] at il ⊢
      exact iteF (iteF ⟨rfl, ⟨_, rfl⟩, fail il⟩)
  · rintro σ H2 ⟨rfl, ⟨v3, rfl⟩, hno⟩
    refine k _ _ s1 ?_
    rw [find_none fun j s hs' => hno j s (by rw [hV.len]; exact (List.getElem?_eq_some_iff.mp hs').1) hs']
theorem hu9 {A : Around} {k : Nat} (hr : Room k A) : A.units + 9 < cLine := by
  have := hr.un
  omega
theorem int_eqv (a b : Nat) : PyData.eqv (.int (a : Int)) (.int (b : Int)) = decide (a = b) := by
  show decide ((a : Int) = (b : Int)) = _
  by_cases h : a = b
  · rw [decide_eq_true h, decide_eq_true (by omega)]
  · rw [decide_eq_false h, decide_eq_false (by omega)]
theorem ovp_find {os : List Ov} {ovs : List Kex2.Override} (h : OvP os ovs) (e : Nat) (u : List Nat) : (findO os e u).map Ov.spec = ovs.find? fun o => o.experiment == e && o.unit == u := by
  have h1 : (findO os e u).map Ov.spec = (os.map Ov.spec).find? fun o => o.experiment == e && o.unit == u := by
    rw [List.find?_map]
    rfl
  rw [h1]
  have hn : ((os.map Ov.spec).map fun o => (o.experiment, o.unit)).Nodup := by
    rw [List.map_map]
    exact h.nodup
  have key : ∀ {l m : List Kex2.Override}, l.Perm m → (l.map fun o => (o.experiment, o.unit)).Nodup → (l.find? fun o => o.experiment == e && o.unit == u) = m.find? fun o => o.experiment == e && o.unit == u := by
    intro l m p
    induction p with
    | nil => intro _; rfl
    | cons x _ ih =>
      intro hn
      rw [List.find?_cons, List.find?_cons]
      split
      · rfl
      · exact ih (List.nodup_cons.mp hn).2
    | swap x y l =>
      intro hn
      rw [List.map_cons, List.map_cons, List.nodup_cons] at hn
      rw [List.find?_cons, List.find?_cons, List.find?_cons, List.find?_cons]
      cases cx : (x.experiment == e && x.unit == u) <;> cases cy : (y.experiment == e && y.unit == u)
      · rfl
      · rfl
      · rfl
      · simp only [Bool.and_eq_true, beq_iff_eq] at cx cy
        exact absurd (by rw [cx.1, cx.2, cy.1, cy.2]; exact List.mem_cons_self) hn.1
    | trans p1 _ ih1 ih2 =>
      intro hn
      rw [ih1 hn]
      exact ih2 ((p1.map _).nodup_iff.mp hn)
  exact key h.perm hn
theorem sc_Platform_assignment : FnScope ["self", "number", "unit", "stored", "layer", "owner"] ["self", "number", "unit"] (defScope s_Platform_assignment) := ⟨rfl, rfl, rfl, by decide +kernel, rfl, by decide +kernel, by decide +kernel⟩
theorem h_assignment (T : Txt K mg) : Held P w K mg base 4 (He.ma K (He.ga K "Platform") "assignment") (spAssign P w K) := by
  refine held_of (ps := ["self", "number", "unit"]) T.d_Platform_assignment sc_Platform_assignment (fun vs H Q E h => by obtain ⟨p, t, c, a, n, u, rfl, _⟩ := h; rfl) (fun _ _ _ _ _ _ us hl => match us, hl with | [_, _, _], _ => rfl) (fun cdv A outer s H vs Q E hr h => ?_)
  have nd := sc_Platform_assignment.nd
  have hr1 : Room 1 _ := hr.mono (by decide)
  have hr2 : Room 2 _ := hr.mono (by decide)
  refine ⟨_, pss_cons (ps_if (pt_cmpR (op_inO (hu9 hr)) (pe_tup (pa_cons (pv 1) (pa_cons (pv 2) pa_nil))) (pe_fld (pv 0) rfl) (by with_unfolding_all rfl))
      (pss_one (ps_ret (pe_tup (pa_cons (pe_ix (ix_O (hu9 hr)) (pe_fld (pv 0) rfl) (pe_tup (pa_cons (pv 1) (pa_cons (pv 2) pa_nil))) (fun _ _ => rfl)) (pa_cons pe_int pa_nil))))) pss_nil)
    (pss_cons (ps_if (pt_val (pe_methH (h_held T) hr T.c_Platform T.m_Platform_is_held_out (pv 0) (pa_cons (pv 2) pa_nil))) (pss_one (ps_ret (pe_gr T.g_NONE))) pss_nil)
    (pss_cons (ps_set (i := 3) nd rfl (Or.inl rfl) (pe_methH (h_stored_in T) hr2 T.c_Platform T.m_Platform_stored_in (pv 0) (pa_cons (pe_fld (pe_ix ix_list (pe_fld (pv 0) rfl) (pv 1) (fun _ _ => rfl)) rfl) (pa_cons (pv 2) pa_nil))))
    (pss_cons (ps_if (pt_cmp (pc_notN (pv 3))) (pss_one (ps_ret (pe_ifExp (pt_cmpR (op_eqD hr.units) (pe_fld (pv 3) rfl) (pv 1) (nomark _)) (pe_tup (pa_cons (pe_fld (pv 3) rfl) (pa_cons pe_int pa_nil))) (pe_gr T.g_NONE)))) pss_nil)
    (pss_cons (ps_set (i := 4) nd rfl (Or.inl rfl) (pe_methH (h_layer_of T) hr1 T.c_Platform T.m_Platform_layer_of (pv 0) (pa_cons (pv 1) pa_nil)))
    (pss_cons (ps_set (i := 5) nd rfl (Or.inl rfl) (pe_ix ix_list (pe_fld (pv 4) rfl) (pe_callH (h_bucket_behind T) hr2 T.g_bucket_behind (pa_cons (pe_fld (pv 4) rfl) (pa_cons (pv 2) pa_nil))) (fun _ _ => rfl)))
    (pss_one (ps_ret (pe_ifExp (pt_cmpR (op_eqD hr.units) (pe_ix ix_tup (pv 5) pe_int (fun _ _ => rfl)) (pv 1) (nomark _)) (pe_tup (pa_cons (pe_ix ix_tup (pv 5) pe_int (fun _ _ => rfl)) (pa_cons pe_int pa_nil))) (pe_gr T.g_NONE))))))))), ?_⟩
  obtain ⟨p, t, c, a, n, u, rfl, R, W, hsome, ht, k⟩ := h
  obtain ⟨x, hx⟩ := Option.isSome_iff_exists.mp hsome
  rw [asg_eq u hx] at k
  unfold asg at k
  obtain ⟨dx, q, hp, hq⟩ := R.pl
  obtain ⟨os, ho, hk, hP⟩ := R.od
  obtain ⟨vs, he, hE, hD⟩ := R.es
  obtain ⟨xl, xW, xt, xs⟩ := W.exp n x hx
  obtain ⟨y, hy, b, bx, bp, rfl, hb, hbp⟩ := hE.right (exp_at.mp hx)
  rw [← ovp_find hP n u] at k
  -- (number, unit) in self.overrides
  refine ⟨_, rfl, _, rfl, (by show 2 ≤ sizeLine; decide), fun t1 g1 => ?_⟩
  have s1 : Same H (upd H t1 (.tup [nI n, .ref t])) := same_new g1
  have k1 : KeyT K (upd H t1 (.tup [nI n, .ref t])) t1 n u := ⟨t, upd_same, same_seqT s1 ht⟩
  refine ⟨_, rfl, p, _, _, _, _, rfl, s1 _ _ hp, T.c_Platform, T.n_Platform_overrides, rfl, t1, c.od, n, u, os, rfl, rfl, s1 _ _ ho, hk.keep (.same s1), k1, _, rfl, ?_⟩
  clear k1 g1
  generalize upd H t1 (.tup [nI n, .ref t]) = H1 at s1 ⊢
  cases hf : findO os n u with
  | some o =>
    rw [hf] at k
    refine iteT ⟨_, rfl, p, _, _, _, _, rfl, s1 _ _ hp, T.c_Platform, T.n_Platform_overrides, rfl, _, rfl, _, rfl, (by show 2 ≤ sizeLine; decide), fun t2 g2 => ?_⟩
    have s2 : Same H (upd H1 t2 (.tup [nI n, .ref t])) := s1.trans (same_new g2)
    refine ⟨c.od, t2, n, u, os, o, rfl, rfl, s2 _ _ ho, hk.keep (.same s2), ⟨t, upd_same, same_seqT s2 ht⟩, hf, ?_⟩
    refine ⟨(by show 2 ≤ sizeLine; decide), fun t3 g3 => ?_⟩
    exact k _ _ (s2.trans (same_new g3)) ⟨t3, rfl, SqT.of upd_same⟩
  | none =>
    rw [hf] at k
    refine iteF ?_
    -- held out
    refine ⟨_, rfl, p, dx, _, rfl, s1 _ _ hp, rfl, _, rfl, p, t, c, a, u, rfl, R.same s1, .inr (same_seqT s1 ht), _, rfl, ?_⟩
    have k : ∀ H' y, Same H H' → AnsT K H' y (if Kex2.isHeldOut a u then none
      else match Kex2.stickyIn a x.layer u with
        | some s => if s.experiment = n then some (s.variant, 1) else none
        | none => ((List.range x.weights.length).find? fun v => (Kex2.ownersOf a x.layer).getD (Kex2.bucket (a.layers.getD x.layer ⟨[], []⟩).salt u) 0 == Kex2.ownerOf n v) |>.map fun v => (v, 2)) → Q y H' := k
    cases hh : Kex2.isHeldOut a u with
    | true =>
      rw [hh, if_pos rfl] at k
      exact iteT (k _ _ s1 ⟨_, rfl, T.none_tup _⟩)
    | false =>
      rw [hh, if_neg Bool.false_ne_true] at k
      refine iteF ?_
      -- stored
      refine ⟨_, rfl, p, dx, _, rfl, s1 _ _ hp, rfl, _, rfl, p, _, _, _, _, rfl, s1 _ _ hp, T.c_Platform, T.n_Platform_experiments, rfl, _, rfl, c.es, vs, _, _, rfl, rfl, SqL.of (s1 _ _ he), atI_nat hy, b, _, _, _, _, rfl, s1 _ _ hb, T.c_Experiment, T.n_Experiment_layer, rfl, _, rfl,
        p, t, c, a, x.layer, u, rfl, R.same s1, W, same_seqT s1 ht, fun H2 z s2 hz => ?_⟩
      have s12 := s1.trans s2
      cases hst : Kex2.stickyIn a x.layer u with
      | some s0 =>
        rw [hst] at hz k
        obtain ⟨i, ws, hws, hwi, hsi, _, _⟩ := hz
        obtain ⟨ws2, h2, hS, _⟩ := (R.same s1).st
        obtain rfl : ws = ws2 := by rw [h2] at hws; cases hws; rfl
        obtain ⟨sb, sbx, sp, rfl, hsb, hsp⟩ := hS.at_ i _ _ hwi hsi
        refine ⟨_, rfl, _, rfl, iteT ⟨_, rfl, sb, _, _, _, _, rfl, s2 _ _ hsb, T.c_Stored, T.n_Stored_experiment, rfl, _, rfl, .int s0.experiment, .int n, .int _, .int _, int_shaped _, int_shaped _, _, rfl, ?_⟩⟩
        rw [int_eqv]
        have k : ∀ H' y, Same H H' → AnsT K H' y (if s0.experiment = n then some (s0.variant, 1) else none) → Q y H' := k
        by_cases c1 : s0.experiment = n
        · rw [if_pos c1] at k
          rw [decide_eq_true c1]
          refine iteT ⟨_, rfl, sb, _, _, _, _, rfl, s2 _ _ hsb, T.c_Stored, T.n_Stored_variant, rfl, (by show 2 ≤ sizeLine; decide), fun t3 g3 => ?_⟩
          exact k _ _ (s12.trans (same_new g3)) ⟨t3, rfl, SqT.of upd_same⟩
        · rw [if_neg c1] at k
          rw [decide_eq_false c1]
          exact iteF (k _ _ s12 ⟨_, rfl, T.none_tup _⟩)
      | none =>
        rw [hst] at hz k
        have hz : z = .non := hz
        subst hz
        refine ⟨_, rfl, _, rfl, iteF ?_⟩
        obtain ⟨l, hl⟩ := lay_of xl
        obtain ⟨lg1, lg2⟩ := lay_get hl
        have k : ∀ H' y, Same H H' → AnsT K H' y (((List.range x.weights.length).find? fun v => (Kex2.ownersOf a x.layer).getD (Kex2.bucket (a.layers.getD x.layer ⟨[], []⟩).salt u) 0 == Kex2.ownerOf n v) |>.map fun v => (v, 2)) → Q y H' := k
        rw [lg1, lg2, bucket_eq] at k
        have s2' : Same H H2 := s12
        -- layer
        refine ⟨_, rfl, p, dx, _, rfl, s12 _ _ hp, rfl, _, rfl, p, c, a, n, x, l, rfl, R.same s12, hx, hl, fun z vl hvl hz hzr => ?_⟩
        obtain ⟨lb, lbx, lp, lo, rfl, hlb, hlp, hlo, xs0, hxs, hOw⟩ := hzr
        obtain ⟨hlen, hval⟩ := W.own _ _ hl
        have hbk : bkt (sltd l.salt) u < l.owners.length := by rw [hlen]; exact bkt_lt _ _
        obtain ⟨oo, hoo⟩ : ∃ oo, l.owners[bkt (sltd l.salt) u]? = some oo := ⟨_, List.getElem?_eq_getElem hbk⟩
        rw [List.getD_eq_getElem?_getD, hoo] at k
        obtain ⟨yy, hyy, tt, rfl, htt⟩ := hOw.right hoo
        -- owner
        refine ⟨_, rfl, lb, _, _, _, _, rfl, hlb, T.c_Layer, T.n_Layer_owners, rfl, _, rfl, lb, _, _, _, _, rfl, hlb, T.c_Layer, T.n_Layer_begun, rfl, _, rfl, _, t, u, rfl, .inr (same_seqT s12 ht), lo, xs0, _, _, rfl, rfl, SqL.of hxs, atI_nat hyy, ?_⟩
        refine ⟨_, rfl, tt, _, 0, _, rfl, rfl, htt, rfl, _, rfl, .int (ownE oo), .int n, .int _, .int _, int_shaped _, int_shaped _, _, rfl, ?_⟩
        have k : ∀ H' y, Same H H' → AnsT K H' y (((List.range x.weights.length).find? fun v => oo == Kex2.ownerOf n v).map fun v => (v, 2)) → Q y H' := k
        have e0 : PyData.eqv (.int (ownE oo)) (.int (n : Int)) = decide (ownE oo = (n : Int)) := rfl
        rw [e0]
        rcases own_find (i := n) (n := x.weights.length) (o := oo) (by
          rcases hval oo (List.mem_of_getElem? hoo) with z | ⟨e, v, x', e1, e2, e3, e4⟩
          · exact .inl z
          · refine .inr ⟨e, v, e1, ?_, fun h => ?_⟩
            · have := (W.exp e x' e2).2.1.2.1
              omega
            · subst h
              rw [hx] at e2
              cases e2
              exact e4) xW.2.1 with ⟨z, f⟩ | ⟨e, v, z, hv4, f⟩
        · rw [f] at k
          rw [decide_eq_false (by rw [z]; show ¬ (-1 : Int) = (n : Int); omega)]
          exact iteF (k _ _ s12 ⟨_, rfl, T.none_tup _⟩)
        · rw [f] at k
          rw [z, ownE_of hv4]
          by_cases c2 : e = n
          · rw [if_pos c2] at k
            rw [decide_eq_true (by omega)]
            refine iteT ⟨_, rfl, tt, _, 1, _, rfl, rfl, htt, rfl, (by show 2 ≤ sizeLine; decide), fun t3 g3 => ?_⟩
            refine k _ _ (s12.trans (same_new g3)) ⟨t3, rfl, ?_⟩
            have e5 : V.int (ownV oo) = nI v := by rw [z]; exact congrArg V.int (ownV_of hv4)
            rw [← e5]
            exact SqT.of upd_same
          · rw [if_neg c2] at k
            rw [decide_eq_false (by omega)]
            exact iteF (k _ _ s12 ⟨_, rfl, T.none_tup _⟩)
end
end Vb

set_option Elab.async false
set_option linter.all false
set_option maxRecDepth 100000
set_option maxHeartbeats 4000000
/-! The tables stay; an experiment's targets; remove. -/
namespace Vb
open PySem PySem.Spec PyProof.Rows L2
open LamX (ExtN Tabs TabB CodeO TabS)
open Kex2 (experimentAt)
/-! ### the tables stay -/
theorem dic_ne_code {P : Program} {w : World} {d c : Addr} {xs : List Ov} {q : Str} : DicO P w d xs ≠ CodeO c q := fun z => by
  unfold DicO CodeO at z
  injection z with z
  have e := congrFun z { objs := Array.replicate (max c d + 1) { cls := .none, data := .fields #[.none, .str q 0] } }
  have get : ∀ b, b ≤ max c d → (({ objs := Array.replicate (max c d + 1) { cls := .none, data := .fields #[.none, .str q 0] } } : Heap).get? b) = some { cls := .none, data := .fields #[.none, .str q 0] } := fun b hb => by
    unfold Heap.get?
    have : (Array.replicate (max c d + 1) ({ cls := .none, data := .fields #[.none, .str q 0] } : Obj))[b]? = some { cls := .none, data := .fields #[.none, .str q 0] } := by
      rw [Array.getElem?_replicate, if_pos (Nat.lt_succ_of_le hb)]
    rw [this]
  have h2 := e.mpr ⟨_, _, _, get c (Nat.le_max_left ..), rfl, rfl⟩
  obtain ⟨_, _, ys, _, ⟨o, es, ep, h3, _, h4, _⟩, _⟩ := h2
  rw [get d (Nat.le_max_right ..)] at h3
  cases h3
  cases h4
theorem tabs_upd {T : List (Addr × Str)} {H : Hp} {a : Addr} {oa o : HO} (t : Tabs T H) (h : H a = some oa) (n1 : ∀ ps, oa ≠ .tbl ps) (n2 : ∀ c q, oa ≠ CodeO c q) : Tabs T (upd H a o) := fun p hp => by
  obtain ⟨ps, h1, h2, h3⟩ := t p hp
  refine ⟨ps, by rw [upd_ne (fun z => by rw [z, h] at h1; exact n1 ps (Option.some.inj h1))]; exact h1, h2, fun pos cv hc => ?_⟩
  obtain ⟨c, e1, e2⟩ := h3 pos cv hc
  refine ⟨c, e1, ?_⟩
  rw [upd_ne (fun z => by rw [z, h] at e2; exact n2 _ _ (Option.some.inj e2))]
  exact e2
theorem tabs_ins {T : List (Addr × Str)} {H : Hp} {a C dx : Addr} {fs : List (Str × V)} {o : HO} (t : Tabs T H) (h : H a = some (.ins C dx fs)) : Tabs T (upd H a o) := tabs_upd t h (fun _ z => by cases z) fun _ _ z => by unfold CodeO at z; cases z
theorem tabs_lst {T : List (Addr × Str)} {H : Hp} {a : Addr} {xs : List V} {o : HO} (t : Tabs T H) (h : H a = some (.lst xs)) : Tabs T (upd H a o) := tabs_upd t h (fun _ z => by cases z) fun _ _ z => by unfold CodeO at z; cases z
theorem tabs_dic {T : List (Addr × Str)} {H : Hp} {P : Program} {w : World} {d : Addr} {xs : List Ov} {o : HO} (t : Tabs T H) (h : H d = some (DicO P w d xs)) : Tabs T (upd H d o) := tabs_upd t h (fun _ z => by unfold DicO at z; cases z) fun _ _ => dic_ne_code
/-! ### d.pop(key) -/
section
variable {X : Cx} {o e : Expr} {to : TE} {t : TA} {apos cpos : Pos}
def tPopO (P : Program) (w : World) (K : PySem.W.Frag) (to : TE) (t : TA) : TE := fun σ H Q => to σ H fun x H1 => (∃ d xs, x = .ref d ∧ H1 d = some (DicO P w d xs)) ∧ t σ H1 fun vs H2 => rPopO P w K x vs H2 Q
theorem pe_popO (hu : X.A.units + 9 < cLine) (ho : PE X o to) (ha : PA X [e] t) (hbase : attributeBase o "pop" X.env (eval o X.env) = eval o X.env := by rfl)
    (hfew : ((backTo cpos (starEach [e] X.env)).all (fun x => !x.1) && (backToKw cpos (keywordEach [] X.env)).all (fun x => x.1.isSome)
      && decide ([e].length + ([] : List Keyword).length + (if ([] : List Keyword).isEmpty then 0 else 1) < 30)) = true := by rfl)
    (hline : (apos.endLine == cpos.line) = true := by rfl) (hs : starEach [e] X.env = (false, eval e X.env) :: starEach [] X.env := by rfl) (hplain : (backTo cpos (starEach [] X.env)).any (·.1) = false := by rfl) :
    PE X (.Call (.Attribute o "pop" apos) [e] [] cpos) (tPopO X.prog X.w X.K to t) := by
  refine ⟨fun pins s σ H Q I h => ?_⟩
  refine wpAny_Call_method_late hbase hfew hline rfl (thn (ho.run pins s σ H _ I h) fun v s1 ⟨x, H1, I1, r1, ⟨d, xs, ex, hH⟩, q1⟩ => ?_)
  subst ex
  obtain rfl : v = Value.ref d := r1
  obtain ⟨⟨_, _, ys, _, ⟨ob, es, ep, g1, g2, _⟩, _⟩, _⟩ := I1.hok d _ hH
  refine ⟨"dict", "dict.pop", PySem.F.plainAttrs_dict, PySem.F.slot_dict_pop, PySem.F.type_dict_pop, ⟨ob, g1, g2.1⟩, fun a e2 => ?_, ?_⟩
  · cases e2
    exact ⟨ob, g1, g2.2.1⟩
  have hA := ha.run cpos pins s1 σ H1 _ I1 q1
  rw [hs] at hA ⊢
  refine Calls.callWith_builtin (by show (false || (backTo cpos (starEach [] X.env)).any (·.1)) = false; rw [hplain] <;> rfl) (Calls.evalArgs_plain ?_)
  exact thn hA fun us s2 ⟨vs, H2, I2, r2, q2⟩ => mt_popO hu pins s2 σ H2 (.ref d) vs (.ref d) us Q I2 rfl r2 q2
end
section
variable {P : Program} {w : World} {K : PySem.W.Frag} {H H' : Hp} {p : Addr} {c : Loc} {a : Kex2.Assigner}
theorem fs_ne {f g : Str} {u v : V} {fs gs : List (Str × V)} (h : f ≠ g) (e : (f, u) :: fs = (g, v) :: gs) : False := by
  injection e with e1 _
  injection e1 with e2 _
  exact h e2
/-- other owners of a layer -/
theorem Rep.set_own {vl : List V} {i : Nat} {la dx lp lo q : Addr} {l : Kex2.Layer} {os : List Nat} (R : Rep P w K H p c a) (hv : H c.ls = some (.lst vl)) (hi : vl[i]? = some (.ref la)) (hl : a.layers[i]? = some l) (ha : H la = some (.ins (He.ga K "Layer") dx (layF (.ref lp) (nI (sltd l.salt)) (.ref lo)))) (hs : SqT K H lp (nats l.salt)) (hq : OwnM K H q os) :
    Rep P w K (upd H la (.ins (He.ga K "Layer") dx (layF (.ref lp) (nI (sltd l.salt)) (.ref q)))) p c { a with layers := a.layers.set i { l with owners := os } } := by
  refine R.ins_set ha rfl ⟨rfl, rfl, rfl, rfl⟩ (fun vs h e d => ?_) (fun vs _ e _ => e.mono fun v y r => ?_) fun vs _ e _ => e.mono fun v y r => ?_
  · obtain rfl : vl = vs := by rw [hv] at h; cases h; rfl
    obtain ⟨hn, xs, h1, h2⟩ := hq
    have kt : ∀ {o}, Keep sTup H (upd H la o) := fun {o} => .upd ha rfl
    refine each_set e d hi ⟨la, dx, lp, q, rfl, upd_same, sqT_keep kt hs, hn, xs, ?_, h2.mono fun v y ⟨t, e1, e2⟩ => ⟨t, e1, sqT_keep kt e2⟩⟩ fun v y r n => r.upd n ha
    rw [upd_ne (fun z => by rw [z, ha] at h1; cases h1)]
    exact h1
  · cases y with
    | none => exact r
    | some y =>
      refine ExpR.upd (l := some y) r (fun z => ?_) ha
      obtain ⟨b, bx, bp, e1, e2, _⟩ := r
      rw [z] at e1
      cases e1
      rw [ha] at e2
      exact fs_ne (by decide) (HO.ins.inj (Option.some.inj e2)).2.2
  · refine r.upd (fun z => ?_) ha
    obtain ⟨b, bx, bp, e1, e2, _⟩ := r
    rw [z] at e1
    cases e1
    rw [ha] at e2
    exact fs_ne (by decide) (HO.ins.inj (Option.some.inj e2)).2.2
theorem Keep.exc {S : HO → Bool} {d : Addr} {oa : HO} (e : Exc d H H') (h : H d = some oa) (n : S oa = false) : Keep S H H' := fun b u g s => e b u (fun z => by
  rw [z, h] at g
  cases g
  rw [n] at s
  cases s) g
theorem Fr.exc {d : Addr} {oa : HO} (e : Exc d H H') (h : H d = some oa) (n : Flat oa = false) : Fr H c H' c := .of fun b u g s _ _ _ => e b u (fun z => by
  rw [z, h] at g
  cases g
  rw [n] at s
  cases s) g
theorem Rep.od_exc {os os' : List Ov} {l' : List Kex2.Override} (h : Rep P w K H p c a) (hv : H c.od = some (DicO P w c.od os)) (e : Exc c.od H H') (hv2 : H' c.od = some (DicO P w c.od os')) (kt : KeysT K H os') (o : OvP os' l') : Rep P w K H' p c { a with overrides := l' } := by
  have ne : ∀ {x : Addr} {xs : List V}, H x = some (.lst xs) → x ≠ c.od := fun hx z => (h.ne_od hx) z.symm
  have hv' := hv
  unfold DicO at hv'
  refine ⟨h.pl.keep (fun o z => ?_) (.exc e hv' rfl), h.ls.keep (fun o z => ?_) (.exc e hv' rfl), h.es.keep (fun o z => ?_) (.exc e hv' rfl), ⟨os', hv2, kt.keep (.exc e hv' rfl), o⟩, h.st.keep (fun o z => ?_) (.exc e hv' rfl), h.n1, h.n2, h.n3⟩
  · obtain ⟨dx, q, h1, _⟩ := h.pl
    exact e _ _ (fun w => by rw [w, hv'] at h1; cases h1) z
  · obtain ⟨vs, h1, _⟩ := h.ls
    exact e _ _ (ne h1) z
  · obtain ⟨vs, h1, _⟩ := h.es
    exact e _ _ (ne h1) z
  · obtain ⟨vs, h1, _⟩ := h.st
    exact e _ _ (ne h1) z
end
/-! ### the entries, one behind another -/
def leftO (os : List Ov) (n i : Nat) : List Ov := ((os.take i).filter fun x => !(x.e == n)) ++ os.drop i
theorem leftO_succ {os : List Ov} {n i : Nat} {x : Ov} (h : os[i]? = some x) (hn : (os.map fun x => (x.e, x.u)).Nodup) : leftO os n (i + 1) = if x.e = n then dropO (leftO os n i) x.e x.u else leftO os n i := by
  have e1 : os.take (i + 1) = os.take i ++ [x] := take_snoc h
  have hi := (List.getElem?_eq_some_iff.mp h).1
  have e2 : os.drop i = x :: os.drop (i + 1) := by
    rw [List.drop_eq_getElem_cons hi]
    rw [List.getElem?_eq_getElem hi] at h
    rw [Option.some.inj h]
  unfold leftO
  rw [e1, e2, List.filter_append]
  by_cases c : x.e = n
  · rw [if_pos c]
    have e3 : ([x].filter fun x => !(x.e == n)) = [] := by simp [c]
    rw [e3, List.append_nil]
    have e4 : os = os.take i ++ (x :: os.drop (i + 1)) := by rw [← e2, List.take_append_drop]
    rw [e4, List.map_append, List.map_cons] at hn
    have h5 := List.nodup_append.mp hn
    have h6 := List.nodup_cons.mp h5.2.1
    have nokey : ∀ y, y ∈ os.take i ∨ y ∈ os.drop (i + 1) → isO x.e x.u y = false := fun y hy => by
      cases z : isO x.e x.u y with
      | false => rfl
      | true =>
        obtain ⟨z1, z2⟩ := isO_iff.mp z
        have e5 : (y.e, y.u) = (x.e, x.u) := by rw [z1, z2]
        rcases hy with hy | hy
        · exact absurd rfl (h5.2.2 (x.e, x.u) (List.mem_map.mpr ⟨y, hy, e5⟩) (x.e, x.u) List.mem_cons_self)
        · exact absurd (List.mem_map.mpr ⟨y, hy, e5⟩) h6.1
    unfold dropO
    rw [List.filter_append, List.filter_cons, if_neg (by rw [isO_iff.mpr ⟨rfl, rfl⟩]; decide)]
    have g1 : ((os.take i).filter fun x => !(x.e == n)).filter (fun y => !isO x.e x.u y) = (os.take i).filter fun x => !(x.e == n) := List.filter_eq_self.mpr fun y hy => by
      rw [nokey y (.inl (List.mem_filter.mp hy).1)]
      rfl
    have g2 : (os.drop (i + 1)).filter (fun y => !isO x.e x.u y) = os.drop (i + 1) := List.filter_eq_self.mpr fun y hy => by
      rw [nokey y (.inr hy)]
      rfl
    rw [g1, g2]
  · rw [if_neg c]
    have e3 : ([x].filter fun x => !(x.e == n)) = [x] := by simp [c]
    rw [e3, List.append_assoc]
    rfl
theorem leftO_find {os : List Ov} {n i : Nat} {x : Ov} (h : os[i]? = some x) : ∃ y, findO (leftO os n i) x.e x.u = some y := by
  have hi := (List.getElem?_eq_some_iff.mp h).1
  have hm : x ∈ leftO os n i := by
    unfold leftO
    refine List.mem_append_right _ ?_
    rw [List.getElem?_eq_getElem hi] at h
    rw [List.drop_eq_getElem_cons hi, Option.some.inj h]
    exact List.mem_cons_self
  unfold findO
  cases q : (leftO os n i).find? (isO x.e x.u) with
  | some y => exact ⟨y, rfl⟩
  | none =>
    have := List.find?_eq_none.mp q x hm
    rw [isO_iff.mpr ⟨rfl, rfl⟩] at this
    exact absurd rfl this
theorem leftO_sub {os : List Ov} {n i : Nat} {x : Ov} (h : x ∈ leftO os n i) : x ∈ os := by
  unfold leftO at h
  rcases List.mem_append.mp h with h | h
  · exact List.mem_of_mem_take (List.mem_filter.mp h).1
  · exact List.mem_of_mem_drop h
theorem leftO_end (os : List Ov) (n : Nat) : leftO os n os.length = os.filter fun x => !(x.e == n) := by
  unfold leftO
  rw [List.take_length, List.drop_length, List.append_nil]
theorem ovp_filter {os : List Ov} {ovs : List Kex2.Override} (h : OvP os ovs) (n : Nat) : OvP (os.filter fun x => !(x.e == n)) (ovs.filter fun o => o.experiment != n) := by
  refine ⟨?_, ?_⟩
  · have := h.perm.filter fun o => o.experiment != n
    rw [List.filter_map] at this
    exact this
  · have := h.nodup
    exact this.sublist (List.filter_sublist.map _)
def spTargetsM (K : PySem.W.Frag) : Sp := fun vs H Q _ => ∃ (x dx p : Addr) (e : Kex2.Experiment), vs = [.ref x] ∧ H x = some (.ins (He.ga K "Experiment") dx (expF (nI e.layer) (nI e.traffic) (.ref p))) ∧ SqT K H p (nats e.weights) ∧ Wts e.weights ∧ e.traffic ≤ 100 ∧ Tabs (tT K) H ∧
  ∀ H' q, ExtN H H' → Tabs (tT K) H' → H q = none → H' q = some (.lst (nats (Kex2.targets e.traffic e.weights))) → Q (.ref q) H'
/-- an experiment's own buckets freed -/
def freed (i : Nat) (os : List Nat) : List Nat := os.map fun o => if decide (ownE o = (i : Int)) = true then 0 else o
def removed (a : Kex2.Assigner) (i : Nat) (x : Kex2.Experiment) (l : Kex2.Layer) : Kex2.Assigner :=
  { a with layers := a.layers.set x.layer { l with owners := freed i l.owners }, experiments := a.experiments.set i none, overrides := a.overrides.filter (fun o => o.experiment != i), sticky := a.sticky.filter (fun t => t.experiment != i) }
def spRemove (P : Program) (w : World) (K : PySem.W.Frag) : Sp := fun vs H Q _ => ∃ (p : Addr) (c : Loc) (a : Kex2.Assigner) (n : Nat) (x : Kex2.Experiment) (l : Kex2.Layer), vs = [.ref p, nI n] ∧ Rep P w K H p c a ∧ Wf a ∧ experimentAt a n = some x ∧ a.layers[x.layer]? = some l ∧ Tabs (tT K) H ∧
  ∀ H' c', Fr H c H' c' → Tabs (tT K) H' → Rep P w K H' p c' (removed a n x l) → Q .non H'
section
variable {P : Program} {w : World} {K : PySem.W.Frag} {mg : Str → Option Value} {base : Heap}
theorem sc_Experiment_targets : FnScope ["self"] ["self"] (defScope s_Experiment_targets) := ⟨rfl, rfl, rfl, by decide +kernel, rfl, by decide +kernel, by decide +kernel⟩
theorem h_Experiment_targets (T : Txt K mg) (TK : TabK base mg K) : Held P w K mg base 7 (He.ma K (He.ga K "Experiment") "targets") (spTargetsM K) := by
  refine held_of (ps := ["self"]) T.d_Experiment_targets sc_Experiment_targets (fun vs H Q E h => by obtain ⟨x, dx, p, e, rfl, _⟩ := h; rfl) (fun _ _ _ _ _ _ us hl => match us, hl with | [_], _ => rfl) (fun cdv A outer s H vs Q E hr h => ?_)
  refine ⟨_, pss_one (ps_ret (pe_callH (h_targets_of T TK) hr T.g_targets_of (pa_cons (pe_fld (pv 0) rfl) (pa_cons (pe_fld (pv 0) rfl) pa_nil)))), ?_⟩
  obtain ⟨x, dx, p, e, rfl, hx, hp, hw, ht, hT, k⟩ := h
  exact ⟨_, rfl, x, _, _, _, _, rfl, hx, T.c_Experiment, T.n_Experiment_traffic, rfl, _, rfl, x, _, _, _, _, rfl, hx, T.c_Experiment, T.n_Experiment_weights, rfl, e.traffic, p, e.weights, rfl, .inr hp, hw, ht, hT, k⟩
theorem sc_Platform_remove : FnScope ["self", "number", "layer", "key", "owner", "one"] ["self", "number"] (defScope s_Platform_remove) := ⟨rfl, rfl, rfl, by decide +kernel, rfl, by decide +kernel, by decide +kernel⟩
theorem h_remove (T : Txt K mg) : Held P w K mg base 2 (He.ma K (He.ga K "Platform") "remove") (spRemove P w K) := by
  refine held_of (ps := ["self", "number"]) T.d_Platform_remove sc_Platform_remove (fun vs H Q E h => by obtain ⟨p, c, a, n, x, l, rfl, _⟩ := h; rfl) (fun _ _ _ _ _ _ us hl => match us, hl with | [_, _], _ => rfl) (fun cdv A outer s H vs Q E hr h => ?_)
  have nd := sc_Platform_remove.nd
  refine ⟨_, pss_cons (ps_set (i := 2) nd rfl (Or.inl rfl) (pe_methH (h_layer_of T) hr T.c_Platform T.m_Platform_layer_of (pv 0) (pa_cons (pv 1) pa_nil)))
    (pss_cons (ps_fld (pv 2) (pe_lc (own := [("owner", 4)]) (g := gName 4) (tt := tYes) (te := tIf (tTest (tOp (rEqD K) (tOp (rIxT K) (tVar 4) (tC (.int 0))) (tVar 1))) (tC (.ref (He.ga K "FREE"))) (tVar 4)) rfl nd (pi_list (pe_fld (pv 2) rfl))
        (blkOk_by (own := [("owner", 4)]) (N := ["self", "number", "layer", "key", "owner", "one"]) (sc := defScope s_Platform_remove) (by decide +kernel))
        (fun _ _ _ _ _ => pg_name (i := 4) nd rfl (Or.inl rfl)) (fun _ _ _ _ _ => pts_nil) (fun _ _ _ _ _ => pe_ifExp (pt_cmpR (op_eqD hr.units) (pe_ix ix_tup (pv 4) pe_int (fun _ _ => rfl)) (pv 1) (nomark _)) (pe_gr T.g_FREE) (pv 4))) rfl)
    (pss_cons (ps_for PassesOwn.never rfl (pi_list (pe_callTy (cr_listO hr.hd) (by rfl) T.f_list (by decide +kernel) (pa_cons (pe_fld (pv 0) rfl) pa_nil))) (pg_name (i := 3) nd rfl (Or.inl rfl))
      (pss_one (ps_if (pt_cmpR (op_eqD hr.units) (pe_ix ix_tup (pv 3) pe_int (fun _ _ => rfl)) (pv 1) (nomark _)) (pss_one (ps_expr (pe_popO (hu9 hr) (pe_fld (pv 0) rfl) (pa_cons (pv 3) pa_nil)))) pss_nil)))
    (pss_cons (ps_fld (pv 0) (pe_lc (own := [("one", 5)]) (g := gName 5) (tt := tTest (tOp (rNeD K) (tFld K (tVar 5) "experiment") (tVar 1))) (te := tVar 5) rfl nd (pi_list (pe_fld (pv 0) rfl))
        (blkOk_by (own := [("one", 5)]) (N := ["self", "number", "layer", "key", "owner", "one"]) (sc := defScope s_Platform_remove) (by decide +kernel))
        (fun _ _ _ _ _ => pg_name (i := 5) nd rfl (Or.inl rfl)) (fun _ _ _ _ _ => pts_one (pt_cmpR (op_neD hr.units) (pe_fld (pv 5) rfl) (pv 1) (nomark _))) (fun _ _ _ _ _ => pv 5)) rfl)
    (pss_one (ps_asg pe_non (pg_sub (pe_fld (pv 0) rfl) (pv 1) set_list)))))), ?_⟩
  obtain ⟨p, c, a, n, x, l, rfl, R, W, hx, hl, hT, k⟩ := h
  obtain ⟨dx, q0, hp, hq0⟩ := id R.pl
  refine ⟨_, rfl, p, dx, _, rfl, hp, rfl, _, rfl, p, c, a, n, x, l, rfl, R, hx, hl, fun z vl hvl hz hzr => ?_⟩
  obtain ⟨la, lx, lp, lo, rfl, hla, hlp, hlo, xs0, hxs, hOw⟩ := hzr
  -- the owners
  refine ⟨_, rfl, la, _, _, _, _, rfl, hla, T.c_Layer, T.n_Layer_owners, rfl, lo, rfl, ⟨xs0, SqL.of hxs⟩, fun D hD => ?_⟩
  refine lc_it (walk_list (K := K) (a := lo) (xs := xs0)) (fun i H1 => Same H H1 ∧ ∃ ys, H1 D = some (.lst ys) ∧ Each (OwnsT K H1) ys ((freed n l.owners).take i)) ⟨same_new hD, [], upd_same, .nil⟩ (fun i H1 _ p => p.1.seq (SqL.of hxs)) ?_ ?_
  · rintro i y H1 H2 hi ⟨s1, ys, hD1, hE⟩ ⟨rfl, hx1⟩
    obtain ⟨o, ho, t, rfl, ht⟩ := hOw.left hx1
    have hfr : (freed n l.owners)[i]? = some (if decide (ownE o = (n : Int)) = true then 0 else o) := by unfold freed; rw [List.getElem?_map, ho]; rfl
    have hi' : i < 100 := by rw [← hlo, ← hOw.len]; exact hi
    have hyl : ys.length < sizeLine := by
      rw [hE.len, List.length_take]
      exact Nat.lt_of_le_of_lt (Nat.min_le_left _ _) (Nat.lt_of_lt_of_le hi' (by decide))
    refine ⟨rfl, _, rfl, t, _, 0, _, rfl, rfl, same_seqT s1 ht, rfl, _, rfl, .int (ownE o), .int n, .int _, .int _, int_shaped _, int_shaped _, _, rfl, ?_⟩
    have e0 : PyData.eqv (.int (ownE o)) (.int (n : Int)) = decide (ownE o = (n : Int)) := rfl
    rw [e0]
    rw [take_snoc hfr]
    have hmono := fun {y : V} (h : Each (OwnsT K H2) ys ((freed n l.owners).take i)) => h.mono fun _ _ h => ownsT_updL (o := .lst (ys ++ [y])) hD1 h
    by_cases c1 : ownE o = (n : Int)
    · rw [decide_eq_true c1]
      exact (if_pos rfl).mpr ⟨_, hD1, hyl, same_upd s1 hD, _, upd_same, (hmono hE).snoc ⟨_, rfl, T.free_tup _⟩⟩
    · rw [decide_eq_false c1]
      exact (if_neg Bool.false_ne_true).mpr ⟨_, rfl, _, hD1, hyl, same_upd s1 hD, _, upd_same, (hmono hE).snoc ⟨t, rfl, sqT_updL hD1 (same_seqT s1 ht)⟩⟩
  rintro H1 ⟨s1, ys, hD1, hE⟩
  rw [List.take_of_length_le (by unfold freed; rw [List.length_map, hOw.len]; exact Nat.le_refl _)] at hE
  have hO : OwnM K H1 D (freed n l.owners) := ⟨by unfold freed; rw [List.length_map]; exact hlo, ys, hD1, hE⟩
  have R1 := (R.same s1).set_own (s1 _ _ hvl) hz hl (s1 _ _ hla) (same_seqT s1 hlp) hO
  have T1 := tabs_ins (o := .ins (He.ga K "Layer") lx (layF (.ref lp) (nI (sltd l.salt)) (.ref D))) (hT.ext s1) (s1 _ _ hla)
  have F1 : Fr H c _ c := (Fr.same s1).trans (.upd (o := .ins (He.ga K "Layer") lx (layF (.ref lp) (nI (sltd l.salt)) (.ref D))) (s1 _ _ hla) rfl)
  refine ⟨_, rfl, la, _, _, _, rfl, s1 _ _ hla, T.c_Layer, T.n_Layer_owners, by show 3 < 1000; decide, ?_⟩
  refine absH (Pr := fun H2 => Rep P w K H2 p c { a with layers := a.layers.set x.layer { l with owners := freed n l.owners } } ∧ Tabs (tT K) H2 ∧ Fr H c H2 c) ⟨R1, T1, F1⟩ ?_
  clear R1 T1 F1 hO hE hD1 s1 ys hD hOw hxs hlo hlp hla hz hvl hp hq0
  clear H1 D
  rintro H2 ⟨R2, T2, F2⟩
  obtain ⟨dx, q0, hp, hq0⟩ := id R2.pl
  obtain ⟨os, hod, hk, hP⟩ := id R2.od
  have hP : OvP os a.overrides := hP
  -- the keys
  refine ⟨_, rfl, p, _, _, _, _, rfl, hp, T.c_Platform, T.n_Platform_overrides, rfl, c.od, os, rfl, hod, hk, fun L hL => ?_⟩
  refine ⟨L, rfl, ⟨_, SqL.of upd_same⟩, ?_⟩
  have sL : Same H2 (upd H2 L (.lst (os.map fun x => .ref x.ad))) := same_new hL
  have R3 := R2.same sL
  have T3 := T2.ext sL
  have F3 : Fr H c _ c := F2.trans (.same sL)
  have hod3 := sL _ _ hod
  have hk3 : KeysT K _ os := hk.keep (.same sL)
  have hp3 := sL _ _ hp
  have hL3 : upd H2 L (.lst (os.map fun x => .ref x.ad)) L = some (.lst (os.map fun x => .ref x.ad)) := upd_same
  generalize upd H2 L (.lst (os.map fun x => .ref x.ad)) = H3 at R3 T3 F3 hod3 hk3 hp3 hL3 ⊢
  have nLd : L ≠ c.od := fun z => by rw [z, hod3] at hL3; unfold DicO at hL3; cases hL3
  have npd : p ≠ c.od := fun z => by rw [z, hod3] at hp3; unfold DicO at hp3; cases hp3
  refine for_it (walk_list (K := K) (a := L) (xs := os.map fun x => .ref x.ad)) (fun i σ H4 => (∃ v3, σ = [some (.ref p), some (nI n), some (.ref la), v3, none, none]) ∧ Exc c.od H3 H4 ∧ Tabs (tT K) H4 ∧ H4 c.od = some (DicO P w c.od (leftO os n i)))
    ⟨⟨_, rfl⟩, Exc.refl, T3, by unfold leftO; rw [List.take_zero, List.drop_zero]; exact hod3⟩ (fun i σ H4 _ h => SqL.of (h.2.1 _ _ nLd hL3)) ?_ ?_
  · rintro i y σ H4 H5 hi ⟨⟨v3, rfl⟩, e4, T4, hod4⟩ ⟨rfl, hx1⟩
    rw [List.getElem?_map] at hx1
    obtain ⟨o, ho, rfl⟩ := Option.map_eq_some_iff.mp hx1
    have hk4 : KeysT K H5 os := hk3.keep (.exc e4 (by unfold DicO at hod3; exact hod3) rfl)
    have hkl : KeysT K H5 (leftO os n i) := fun x hx => hk4 x (leftO_sub hx)
    have hko := hk4 o (List.mem_of_getElem? ho)
    obtain ⟨qo, h1, h2⟩ := id hko
    refine ⟨_, rfl, o.ad, _, 0, _, rfl, rfl, SqT.of h1, rfl, _, rfl, .int o.e, .int n, .int _, .int _, int_shaped _, int_shaped _, _, rfl, ?_⟩
    rw [int_eqv]
    have hs := leftO_succ (n := n) ho hP.nodup
    by_cases c1 : o.e = n
    · rw [decide_eq_true c1]
      rw [if_pos c1] at hs
      obtain ⟨y, hy⟩ := leftO_find (n := n) ho
      refine iteT ⟨_, rfl, p, _, _, _, _, rfl, e4 _ _ npd hp3, T.c_Platform, T.n_Platform_overrides, rfl, ⟨c.od, _, rfl, hod4⟩, _, rfl, c.od, o.ad, o.e, o.u, _, y, rfl, rfl, hod4, hkl, hko, hy, ?_⟩
      refine ⟨⟨_, rfl⟩, e4.set, tabs_dic T4 hod4, ?_⟩
      rw [hs]
      exact upd_same
    · rw [decide_eq_false c1]
      rw [if_neg c1] at hs
      refine iteF ⟨⟨_, rfl⟩, e4, T4, ?_⟩
      rw [hs]
      exact hod4
  rintro σ H4 ⟨⟨v3, rfl⟩, e4, T4, hod4⟩
  rw [List.length_map, leftO_end] at hod4
  have R4 := R3.od_exc hod3 e4 hod4 (fun x hx => hk3 x (List.mem_filter.mp hx).1) (ovp_filter hP n)
  have F4 : Fr H c H4 c := F3.trans (.exc e4 hod3 (by unfold DicO; rfl))
  clear R3 T3 F3 hod3 hk3 hp3 hL3 hod4 e4 hk hP hod hp hq0 R2 T2 F2 sL hL
  clear H3 H2
  obtain ⟨dx, q0, hp, hq0⟩ := id R4.pl
  obtain ⟨ws, hws, hS0, hDw⟩ := id R4.st
  -- stored
  refine ⟨_, rfl, p, _, _, _, _, rfl, hp, T.c_Platform, T.n_Platform_stored, rfl, c.st, rfl, ⟨ws, SqL.of hws⟩, fun D hDn => ?_⟩
  have hS : Each (StoR K H4) ws a.sticky := hS0
  clear hS0
  refine lc_it (walk_list (K := K) (a := c.st) (xs := ws)) (fun i H5 => Same H4 H5 ∧ H5 D = some (.lst (pickL (ws.take i) (a.sticky.take i) fun s => s.experiment != n))) ⟨same_new hDn, upd_same⟩ (fun i H5 _ p => p.1.seq (SqL.of hws)) ?_ ?_
  · rintro i x H5 H6 hi ⟨s1, hD1⟩ ⟨rfl, hx1⟩
    obtain ⟨y, hy, b, bx, bp, rfl, hb, _⟩ := hS.left hx1
    refine ⟨rfl, _, rfl, b, _, _, _, _, rfl, s1 _ _ hb, T.c_Stored, T.n_Stored_experiment, rfl, _, rfl, .int y.experiment, .int n, .int _, .int _, int_shaped _, int_shaped _, _, rfl, ?_⟩
    rw [int_eqv]
    have hl : (ws.take i).length = (a.sticky.take i).length := by rw [List.length_take, List.length_take, hS.len]
    by_cases h : y.experiment = n
    · rw [decide_eq_true h]
      refine iteF ⟨s1, ?_⟩
      rw [take_snoc hx1, take_snoc hy, pick_snoc hl, if_neg (by simp [h]), List.append_nil]
      exact hD1
    · rw [decide_eq_false h]
      refine iteT ⟨_, rfl, _, hD1, ?_, same_upd s1 hDn, ?_⟩
      · refine Nat.lt_of_le_of_lt (Nat.le_trans (pick_len _ _) (Nat.le_trans (by rw [List.length_take]; exact Nat.min_le_right _ _) (by rw [hS.len]; exact W.ns))) (by decide)
      · rw [upd_same, take_snoc hx1, take_snoc hy, pick_snoc hl, if_pos (by simp [h])]
  rintro H5 ⟨s5, hD5⟩
  rw [List.take_length, List.take_of_length_le (by rw [hS.len]; exact Nat.le_refl _)] at hD5
  have R5 := R4.same s5
  have T5 := T4.ext s5
  have F5 : Fr H c H5 c := F4.trans (.same s5)
  have hp5 := s5 _ _ hp
  refine ⟨_, rfl, p, _, _, _, rfl, hp5, T.c_Platform, T.n_Platform_stored, by show 9 < 1000; decide, ?_⟩
  have ps := pick_each (g := fun s : Kex2.Sticky => s.experiment != n) hS
  have R6 := Rep.mk_ (P := P) (w := w) (c' := { c with st := D }) (a' := { a with layers := a.layers.set x.layer { l with owners := freed n l.owners }, overrides := a.overrides.filter (fun o => o.experiment != n), sticky := a.sticky.filter (fun s => s.experiment != n) })
    hp5 rfl (same_seqT s5 hq0) R5.ls R5.es R5.od ⟨_, hD5, ps.1.mono fun _ _ h => h.keep (.same s5), hDw.sub ps.2⟩ R5.n1 (fun z => ?_) (fun z => ?_)
  rotate_left
  · obtain ⟨vs, h1, _⟩ := R4.ls
    have z : c.ls = D := z
    rw [z, hDn] at h1
    cases h1
  · obtain ⟨vs, h1, _⟩ := R4.es
    have z : c.es = D := z
    rw [z, hDn] at h1
    cases h1
  have T6 := tabs_ins (o := .ins (He.ga K "Platform") dx (plaF (.bl true) (.ref q0) (nI (sltd a.salt)) (nI a.holdout) (nI a.clock) (.ref c.ls) (.ref c.es) (.ref c.od) (.ref D))) T5 hp5
  have F6 : Fr H c (upd H5 p (.ins (He.ga K "Platform") dx (plaF (.bl true) (.ref q0) (nI (sltd a.salt)) (nI a.holdout) (nI a.clock) (.ref c.ls) (.ref c.es) (.ref c.od) (.ref D)))) { c with st := D } :=
    (F5.trans (.upd hp5 rfl)).to (.inl rfl) (.inr (.inl rfl)) (InL.trans F4 (.inr (.inr (.inr (.of hDn)))))
  refine absH (Pr := fun H6 => Rep P w K H6 p { c with st := D } { a with layers := a.layers.set x.layer { l with owners := freed n l.owners }, overrides := a.overrides.filter (fun o => o.experiment != n), sticky := a.sticky.filter (fun s => s.experiment != n) } ∧ Tabs (tT K) H6 ∧ Fr H c H6 { c with st := D }) ⟨R6, T6, F6⟩ ?_
  clear R6 T6 F6 R5 T5 F5 hp5 hD5 s5 ps R4 T4 F4 hws hS hp hq0 hDn
  clear H5 H4
  rintro H6 ⟨R6, T6, F6⟩
  obtain ⟨dx, q0, hp, hq0⟩ := id R6.pl
  obtain ⟨vs, hes, hE, hDe⟩ := id R6.es
  have hE : Each (ExpR K H6) vs a.experiments := hE
  have hnl : n < vs.length := by rw [hE.len]; exact (List.getElem?_eq_some_iff.mp (exp_at.mp hx)).1
  refine ⟨_, rfl, p, _, _, _, _, rfl, hp, T.c_Platform, T.n_Platform_experiments, rfl, _, rfl, c.es, vs, _, n, rfl, rfl, hes, ixN_nat hnl, ?_⟩
  have R7 := R6.es_set (vs' := vs.set n .non) (l' := a.experiments.set n none) hes (by rw [hE.len]; exact W.ne) (hE.set n rfl) (hDe.set_non n)
  exact k _ { c with st := D } (F6.trans .at_es) (tabs_lst T6 hes) R7
end
end Vb

set_option Elab.async false
set_option linter.all false
set_option maxRecDepth 100000
set_option maxHeartbeats 4000000
/-! are_octets, are_weights; what a call promises. -/
namespace Vb
open PySem PySem.Spec PyProof.Rows L2
open LamX (ExtN Tabs TabB)
open Kex2 (experimentAt)
def octs (least : Nat) (row : List Nat) : Bool := decide (least ≤ row.length) && decide (row.length ≤ 1000) && row.all fun x => decide (x ≤ 255)
theorem octs1 {row : List Nat} (h : row.length ≤ 1000) : octs 1 row = Kex2.isUnit row := by
  unfold octs Kex2.isUnit
  rw [decide_eq_true h, Bool.and_true]
  cases row <;> rfl
theorem octs0 {row : List Nat} (h : row.length ≤ 1000) : octs 0 row = row.all fun x => decide (x ≤ 255) := by
  unfold octs
  rw [decide_eq_true h, decide_eq_true (Nat.zero_le _)]
  rfl
def spOctets (K : PySem.W.Frag) : Sp := fun vs H Q _ => ∃ (r : Addr) (row : List Nat) (least : Nat), vs = [.ref r, nI least] ∧ SqL K H r (nats row) ∧ ∀ H', Same H H' → Q (.bl (octs least row)) H'
def spWtsOk (K : PySem.W.Frag) : Sp := fun vs H Q _ => ∃ (r : Addr) (row : List Nat), vs = [.ref r] ∧ SqL K H r (nats row) ∧ ∀ H', Same H H' → Q (.bl (Kex2.areWeights row)) H'
/-- q is none of the lists and tuples of others -/
def Away (H : Hp) (c : Loc) (q : Addr) : Prop := ∀ b o, H b = some o → Flat o = true → b ≠ c.ls → b ≠ c.es → b ≠ c.st → b ≠ q
theorem Away.fr {H H1 : Hp} {c c' : Loc} {q : Addr} (F : Fr H c H1 c') (hq : H1 q = none) : Away H c q := fun b o h f n1 n2 n3 z => by
  have := F.keep b o h f n1 n2 n3
  rw [z, hq] at this
  cases this
theorem Away.back {H H1 : Hp} {c : Loc} {q : Addr} (F : Fr H c H1 c) (A : Away H1 c q) : Away H c q := fun b o h f n1 n2 n3 => A b o (F.keep b o h f n1 n2 n3) f n1 n2 n3
/-- what is wanted behind a call that answers -/
def KD (P : Program) (w : World) (K : PySem.W.Frag) (H : Hp) (p : Addr) (c : Loc) (a : Kex2.Assigner) (r : Kex2.Request) (Q : VK) : Prop :=
  ∀ H' q c' a' res, Away H c q → Fr H c H' c' → Tabs (tT K) H' → Rep P w K H' p c' a' → Kex2.step (some a) r = (some a', res) → H' q = some (.lst ((Kex2Neutral.fields res).map V.int)) → Q (.ref q) H'
/-- a call's promise: so many numbers, a row, the request that they make -/
def spDeed (P : Program) (w : World) (K : PySem.W.Frag) (nn : Nat) (rq : List Nat → List Nat → Kex2.Request) : Sp := fun vs H Q _ => ∃ (p pn pr : Addr) (c : Loc) (a : Kex2.Assigner) (nums row : List Nat), vs = [.ref p, .ref pn, .ref pr] ∧ Rep P w K H p c a ∧ Wf a ∧
  SqL K H pn (nats nums) ∧ nums.length = nn ∧ SqL K H pr (nats row) ∧ row.length ≤ 1000 ∧ Tabs (tT K) H ∧ KD P w K H p c a (rq nums row) Q
section
variable {P : Program} {w : World} {K : PySem.W.Frag} {H H1 : Hp} {p q : Addr} {c : Loc} {a : Kex2.Assigner} {r : Kex2.Request} {Q : VK} {res : Kex2.Result}
theorem KD.ext (k : KD P w K H p c a r Q) (R : Rep P w K H p c a) (e : ExtN H H1) (t : Tabs (tT K) H1) (hA : Away H c q) (hst : Kex2.step (some a) r = (some a, res)) (hq : H1 q = some (.lst ((Kex2Neutral.fields res).map V.int))) : Q (.ref q) H1 := k H1 q c a res hA (.ext e) t (R.ext e) hst hq
theorem KD.at_ (k : KD P w K H p c a r Q) (R : Rep P w K H p c a) (hT : Tabs (tT K) H) (s : Same H H1) (hA : Away H c q) (hst : Kex2.step (some a) r = (some a, res)) (hq : H1 q = some (.lst ((Kex2Neutral.fields res).map V.int))) : Q (.ref q) H1 := k.ext R (.of s) (hT.ext s) hA hst hq
theorem KD.new (k : KD P w K H p c a r Q) (R : Rep P w K H p c a) (hT : Tabs (tT K) H) (s : Same H H1) (hst : Kex2.step (some a) r = (some a, res)) {xs : List V} (hx : xs = (Kex2Neutral.fields res).map V.int) (hq : H1 q = none) : Q (.ref q) (upd H1 q (.lst xs)) := by
  subst hx
  exact k.at_ R hT (s.trans (same_new hq)) (.fr (.same s) hq) hst upd_same
end
section
variable {P : Program} {w : World} {K : PySem.W.Frag} {mg : Str → Option Value} {base : Heap}
theorem sc_are_octets : FnScope ["row", "least", "octet"] ["row", "least"] (defScope s_are_octets) := ⟨rfl, rfl, rfl, by decide +kernel, rfl, by decide +kernel, by decide +kernel⟩
theorem all_map {l : List Nat} {f : Nat → Bool} : (l.map f).all id = l.all f := by rw [List.all_map]; rfl
theorem dec_le (a b : Nat) : decide ((a : Int) ≤ (b : Int)) = decide (a ≤ b) := by
  by_cases h : a ≤ b
  · rw [decide_eq_true h, decide_eq_true (by omega)]
  · rw [decide_eq_false h, decide_eq_false (by omega)]
theorem dec_lt (a b : Nat) : decide ((a : Int) < (b : Int)) = decide (a < b) := by
  by_cases h : a < b
  · rw [decide_eq_true h, decide_eq_true (by omega)]
  · rw [decide_eq_false h, decide_eq_false (by omega)]
theorem h_are_octets (T : Txt K mg) : Held P w K mg base 1 (He.ga K "are_octets") (spOctets K) := by
  refine held_of (ps := ["row", "least"]) T.d_are_octets sc_are_octets (fun vs H Q E h => by obtain ⟨r, row, l, rfl, _⟩ := h; rfl) (fun _ _ _ _ _ _ us hl => match us, hl with | [_, _], _ => rfl) (fun cdv A outer s H vs Q E hr h => ?_)
  have nd := sc_are_octets.nd
  refine ⟨_, pss_one (ps_ret (pe_and (pe_chain op_le op_le (pv 1) (pe_callB call_len_seq (by rfl) T.f_len PySem.boot_len (pa_cons (pv 0) pa_nil)) (pe_gi T.i_MOST_LENGTH))
    (pe_one (pe_callB (cr_all rfl) (by rfl) T.f_all (by decide +kernel) (pa_cons (pe_lc (own := [("octet", 2)]) (g := gName 2) (tt := tYes) (te := tOp (rI0 fun i j => .bl (decide (i ≤ j))) (tVar 2) (tC (.int 255))) rfl nd (pi_list (pv 0))
      (blkOk_by (own := [("octet", 2)]) (N := ["row", "least", "octet"]) (sc := defScope s_are_octets) (by decide +kernel))
      (fun _ _ _ _ _ => pg_name (i := 2) nd rfl (Or.inl rfl)) (fun _ _ _ _ _ => pts_nil) (fun _ _ _ _ _ => pe_cmpR op_le (pv 2) pe_int (nomark _))) pa_nil))))), ?_⟩
  obtain ⟨r, row, least, rfl, hr0, k⟩ := h
  refine ⟨_, rfl, _, rfl, r, nats row, rfl, .inl hr0, _, _, rfl, rfl, _, rfl, ?_⟩
  rw [nats_len, dec_le]
  by_cases h1 : least ≤ row.length
  · rw [decide_eq_true h1]
    refine (if_pos rfl).mpr ⟨_, _, rfl, rfl, _, rfl, ?_⟩
    have e1 : decide (((row.length : Nat) : Int) ≤ 1000) = decide (row.length ≤ 1000) := dec_le _ 1000
    rw [e1]
    by_cases h2 : row.length ≤ 1000
    · rw [decide_eq_true h2]
      refine (if_pos rfl).mpr ⟨_, rfl, r, rfl, ⟨_, hr0⟩, fun D hD => ?_⟩
      refine lc_it (walk_list (K := K) (a := r) (xs := nats row)) (fun i H1 => Same H H1 ∧ H1 D = some (.lst (((row.take i).map fun x => decide (x ≤ 255)).map V.bl))) ⟨same_new hD, upd_same⟩ (fun i H1 _ p => p.1.seq hr0) ?_ ?_
      · rintro i x H1 H2 hi ⟨s1, hD1⟩ ⟨rfl, hx⟩
        obtain ⟨n, hn, rfl⟩ := map_get hx
        refine ⟨rfl, _, rfl, _, _, rfl, rfl, _, hD1, ?_, same_upd s1 hD, ?_⟩
        · rw [List.length_map, List.length_map, List.length_take]
          exact Nat.lt_of_le_of_lt (show _ ≤ 1000 by omega) (by decide)
        · rw [upd_same, take_snoc hn, List.map_append, List.map_append]
          exact congrArg (fun z => some (HO.lst (((row.take i).map fun x => decide (x ≤ 255)).map V.bl ++ [V.bl z]))) (dec_le n 255)
      · rintro H1 ⟨s1, hD1⟩
        rw [nats_len, List.take_length] at hD1
        refine ⟨D, _, rfl, SqL.of hD1, ?_⟩
        rw [all_map]
        have k2 := k H1 s1
        unfold octs at k2
        rw [decide_eq_true h1, decide_eq_true h2] at k2
        exact k2
    · rw [decide_eq_false h2]
      have k2 := k H (Same.refl H)
      unfold octs at k2
      rw [decide_eq_false h2, Bool.and_false, Bool.false_and] at k2
      exact (if_neg Bool.false_ne_true).mpr k2
  · rw [decide_eq_false h1]
    have k2 := k H (Same.refl H)
    unfold octs at k2
    rw [decide_eq_false h1, Bool.false_and, Bool.false_and] at k2
    exact (if_neg Bool.false_ne_true).mpr ⟨_, rfl, (if_neg Bool.false_ne_true).mpr k2⟩
theorem sc_are_weights : FnScope ["row", "weight"] ["row"] (defScope s_are_weights) := ⟨rfl, rfl, rfl, by decide +kernel, rfl, by decide +kernel, by decide +kernel⟩
theorem h_are_weights (T : Txt K mg) : Held P w K mg base 1 (He.ga K "are_weights") (spWtsOk K) := by
  refine held_of (ps := ["row"]) T.d_are_weights sc_are_weights (fun vs H Q E h => by obtain ⟨r, row, rfl, _⟩ := h; rfl) (fun _ _ _ _ _ _ us hl => match us, hl with | [_], _ => rfl) (fun cdv A outer s H vs Q E hr h => ?_)
  have nd := sc_are_weights.nd
  refine ⟨_, pss_one (ps_ret (pe_and (pe_chain op_le op_le pe_int (pe_callB call_len_seq (by rfl) T.f_len PySem.boot_len (pa_cons (pv 0) pa_nil)) pe_int)
    (pe_one (pe_callB (cr_all rfl) (by rfl) T.f_all (by decide +kernel) (pa_cons (pe_lc (own := [("weight", 1)]) (g := gName 1) (tt := tYes) (te := tChain (rI0 fun i j => .bl (decide (i ≤ j))) (rI0 fun i j => .bl (decide (i ≤ j))) (tC (.int 1)) (tVar 1) (tC (.int 100))) rfl nd (pi_list (pv 0))
      (blkOk_by (own := [("weight", 1)]) (N := ["row", "weight"]) (sc := defScope s_are_weights) (by decide +kernel))
      (fun _ _ _ _ _ => pg_name (i := 1) nd rfl (Or.inl rfl)) (fun _ _ _ _ _ => pts_nil) (fun _ _ _ _ _ => pe_chain op_le op_le pe_int (pv 1) (pe_gi T.i_MOST_WEIGHT))) pa_nil))))), ?_⟩
  obtain ⟨r, row, rfl, hr0, k⟩ := h
  refine ⟨_, rfl, r, nats row, rfl, .inl hr0, _, _, rfl, rfl, _, rfl, ?_⟩
  rw [nats_len, show decide ((2 : Int) ≤ ((row.length : Nat) : Int)) = decide (2 ≤ row.length) from dec_le 2 _]
  by_cases h1 : 2 ≤ row.length
  · rw [decide_eq_true h1]
    refine (if_pos rfl).mpr ⟨_, _, rfl, rfl, _, rfl, ?_⟩
    have e1 : decide (((row.length : Nat) : Int) ≤ 4) = decide (row.length ≤ 4) := dec_le _ 4
    rw [e1]
    by_cases h2 : row.length ≤ 4
    · rw [decide_eq_true h2]
      refine (if_pos rfl).mpr ⟨_, rfl, r, rfl, ⟨_, hr0⟩, fun D hD => ?_⟩
      refine lc_it (walk_list (K := K) (a := r) (xs := nats row)) (fun i H1 => Same H H1 ∧ H1 D = some (.lst (((row.take i).map fun x => decide (1 ≤ x) && decide (x ≤ 100)).map V.bl))) ⟨same_new hD, upd_same⟩ (fun i H1 _ p => p.1.seq hr0) ?_ ?_
      · rintro i x H1 H2 hi ⟨s1, hD1⟩ ⟨rfl, hx⟩
        obtain ⟨n, hn, rfl⟩ := map_get hx
        have hz : (((row.take i).map fun x => decide (1 ≤ x) && decide (x ≤ 100)).map V.bl).length < sizeLine := by
          rw [List.length_map, List.length_map, List.length_take]
          exact Nat.lt_of_le_of_lt (show _ ≤ 1000 by omega) (by decide)
        refine ⟨rfl, _, rfl, _, _, rfl, rfl, _, rfl, ?_⟩
        rw [show decide ((1 : Int) ≤ (n : Int)) = decide (1 ≤ n) from dec_le 1 n]
        by_cases h3 : 1 ≤ n
        · rw [decide_eq_true h3]
          refine (if_pos rfl).mpr ⟨_, _, rfl, rfl, _, hD1, hz, same_upd s1 hD, ?_⟩
          rw [upd_same, take_snoc hn, List.map_append, List.map_append]
          show _ = some (HO.lst (_ ++ [V.bl (decide (1 ≤ n) && decide (n ≤ 100))]))
          rw [decide_eq_true h3, Bool.true_and]
          exact congrArg (fun z => some (HO.lst (((row.take i).map fun x => decide (1 ≤ x) && decide (x ≤ 100)).map V.bl ++ [V.bl z]))) (dec_le n 100)
        · rw [decide_eq_false h3]
          refine (if_neg Bool.false_ne_true).mpr ⟨_, hD1, hz, same_upd s1 hD, ?_⟩
          rw [upd_same, take_snoc hn, List.map_append, List.map_append]
          show _ = some (HO.lst (_ ++ [V.bl (decide (1 ≤ n) && decide (n ≤ 100))]))
          rw [decide_eq_false h3, Bool.false_and]
      · rintro H1 ⟨s1, hD1⟩
        rw [nats_len, List.take_length] at hD1
        refine ⟨D, _, rfl, SqL.of hD1, ?_⟩
        rw [all_map]
        have k2 := k H1 s1
        unfold Kex2.areWeights at k2
        rw [decide_eq_true h1, decide_eq_true h2] at k2
        exact k2
    · rw [decide_eq_false h2]
      have k2 := k H (Same.refl H)
      unfold Kex2.areWeights at k2
      rw [decide_eq_false h2, Bool.and_false, Bool.false_and] at k2
      exact (if_neg Bool.false_ne_true).mpr k2
  · rw [decide_eq_false h1]
    have k2 := k H (Same.refl H)
    unfold Kex2.areWeights at k2
    rw [decide_eq_false h1, Bool.false_and, Bool.false_and] at k2
    exact (if_neg Bool.false_ne_true).mpr ⟨_, rfl, (if_neg Bool.false_ne_true).mpr k2⟩
end
end Vb

set_option maxHeartbeats 4000000
set_option Elab.async false
set_option linter.all false
/-! Steps in their cases. -/
namespace Vb
open Kex2 (experimentAt)
theorem step_hash {a : Kex2.Assigner} {row : List Nat} (h : row.all (fun x => decide (x ≤ 255)) = true) : Kex2.step (some a) (.hash row) =
    (some a, .values (mixed (foll fst0 row) / 281474976710656 : Nat) (Kex2.toInts [mixed (foll fst0 row) / 4294967296 % 65536, mixed (foll fst0 row) / 65536 % 65536, mixed (foll fst0 row) % 65536])) := by
  show (some a, if row.all (fun x => decide (x ≤ 255)) = false then _ else _) = _
  rw [if_neg (by rw [h]; decide), hash_eq, words_eq _ (mixed_lt _)]
theorem step_bucket {a : Kex2.Assigner} {row : List Nat} {i : Nat} {l : Kex2.Layer} (hl : a.layers[i]? = some l) (h : Kex2.isUnit row = true) : Kex2.step (some a) (.bucket i row) = (some a, .value (bkt (sltd l.salt) row : Nat)) := by
  show (some a, match a.layers[i]? with | none => _ | some l => _) = _
  rw [hl]
  show (some a, if Kex2.isUnit row = false then _ else _) = _
  rw [if_neg (by rw [h]; decide), bucket_eq]
theorem step_bucket22 {a : Kex2.Assigner} {row : List Nat} {i : Nat} {l : Kex2.Layer} (hl : a.layers[i]? = some l) (h : Kex2.isUnit row = false) : Kex2.step (some a) (.bucket i row) = (some a, .value (-22)) := by
  show (some a, match a.layers[i]? with | none => _ | some l => _) = _
  rw [hl]
  show (some a, if Kex2.isUnit row = false then _ else _) = _
  rw [if_pos h]
theorem step_bucket2 {a : Kex2.Assigner} {row : List Nat} {i : Nat} (hl : a.layers.length ≤ i) : Kex2.step (some a) (.bucket i row) = (some a, .value (-2)) := by
  show (some a, match a.layers[i]? with | none => _ | some l => _) = _
  rw [List.getElem?_eq_none hl]
theorem step_held {a : Kex2.Assigner} {row : List Nat} (h : Kex2.isUnit row = true) : Kex2.step (some a) (.isHeldOut row) = (some a, .value (if Kex2.isHeldOut a row then 1 else 0)) := by
  show (some a, if Kex2.isUnit row = false then _ else _) = _
  rw [if_neg (by rw [h]; decide)]
theorem step_none {a : Kex2.Assigner} {i : Nat} (h : experimentAt a i = none) : Kex2.step (some a) (.targets i) = (some a, .value (-2)) ∧ Kex2.step (some a) (.getExperiment i) = (some a, .value (-2)) ∧ Kex2.step (some a) (.removeExperiment i) = (some a, .value (-2)) ∧
    (∀ t, Kex2.step (some a) (.setTraffic i t) = (some a, .value (-2))) ∧ (∀ t, Kex2.step (some a) (.setWeights i t) = (some a, .value (-2))) ∧ (∀ t, Kex2.step (some a) (.previewTraffic i t) = (some a, .value (-2))) ∧ (∀ t, Kex2.step (some a) (.previewWeights i t) = (some a, .value (-2))) ∧
    (∀ v u, Kex2.step (some a) (.setOverride i v u) = (some a, .value (-2))) ∧ (∀ n, Kex2.step (some a) (.sampleCounts i n) = (some a, .value (-2))) := by
  refine ⟨?_, ?_, ?_, fun t => ?_, fun t => ?_, fun t => ?_, fun t => ?_, fun v u => ?_, fun n => ?_⟩ <;> simp only [Kex2.step, h]
theorem step_targets {a : Kex2.Assigner} {i : Nat} {x : Kex2.Experiment} (h : experimentAt a i = some x) : Kex2.step (some a) (.targets i) = (some a, Kex2.listResult (Kex2.targets x.traffic x.weights)) := by
  simp only [Kex2.step, h]
theorem step_get {a : Kex2.Assigner} {i : Nat} {x : Kex2.Experiment} (h : experimentAt a i = some x) : Kex2.step (some a) (.getExperiment i) = (some a, .values x.layer (Kex2.toInts (x.traffic :: x.weights.length :: x.weights))) := by
  simp only [Kex2.step, h]
theorem step_noneE {a : Kex2.Assigner} {i : Nat} (h : experimentAt a i = none) : (∀ d u, Kex2.step (some a) (.enter i d u) = (some a, .value (-2))) ∧ (∀ u, Kex2.step (some a) (.assign i u) = (some a, .value (-2))) ∧ Kex2.step (some a) (.listSticky i) = (some a, .value (-2)) := by
  have e : (experimentAt a i).isNone = true := by rw [h]; rfl
  exact ⟨fun d u => if_pos e, fun u => Prod.ext rfl (if_pos e), Prod.ext rfl (if_pos e)⟩
theorem runF_ne : ∀ (l : List Nat) (s : Nat × List (Nat × Nat × Nat)), (∀ z ∈ s.2, z.2.2 ≠ 0) → ∀ z ∈ (l.foldl runStep s).2, z.2.2 ≠ 0
  | [], _, h => h
  | x :: r, (n, acc), h => by
    rw [List.foldl_cons]
    refine runF_ne r _ ?_
    cases acc with
    | nil =>
      rw [step_nil]
      by_cases c : x = 0
      · rw [if_pos c]
        intro z hz
        cases hz
      · rw [if_neg c]
        intro z hz
        rw [List.mem_singleton.mp hz]
        exact c
    | cons q rest =>
      obtain ⟨f, m, o⟩ := q
      have h0 : o ≠ 0 := h (f, m, o) List.mem_cons_self
      have hr : ∀ z ∈ rest, z.2.2 ≠ 0 := fun z hz => h z (List.mem_cons_of_mem _ hz)
      rw [step_cons]
      intro z hz
      have hz : z ∈ (if x = o ∧ f + m = n then (f, m + 1, o) :: rest else if x = 0 then (f, m, o) :: rest else (n, 1, x) :: (f, m, o) :: rest) := hz
      split at hz
      · rcases List.mem_cons.mp hz with e | hz
        · rw [e]; exact h0
        · exact hr z hz
      · split at hz
        · exact h z hz
        · rename_i c
          rcases List.mem_cons.mp hz with e | hz
          · rw [e]; exact c
          · exact h z hz
theorem runs_ne (l : List Nat) : ∀ z ∈ Kex2.runs l, z.2.2 ≠ 0 := fun z hz => runF_ne l (0, []) (fun z h => by cases h) z (by
  rw [runs_def] at hz
  exact List.mem_reverse.mp hz)
theorem step_alloc {a : Kex2.Assigner} {i : Nat} {l : Kex2.Layer} (hl : a.layers[i]? = some l) : Kex2.step (some a) (.allocation i) = (some a, .values ((Kex2.runs l.owners).length : Nat) (Kex2.toInts ((Kex2.runs l.owners).flatMap fun z => [z.1, z.2.1, (z.2.2 - 1) / 4, (z.2.2 - 1) % 4]))) := by
  have hi := (List.getElem?_eq_some_iff.mp hl).1
  show (some a, if a.layers.length ≤ i then _ else _) = _
  rw [if_neg (by omega), (lay_get hl).1]
theorem step_free {a : Kex2.Assigner} {i : Nat} {l : Kex2.Layer} (hl : a.layers[i]? = some l) : Kex2.step (some a) (.freeCount i) = (some a, .value ((idxs l.owners 0).length : Nat)) := by
  have hi := (List.getElem?_eq_some_iff.mp hl).1
  show (some a, if a.layers.length ≤ i then _ else _) = _
  rw [if_neg (by omega), (lay_get hl).1, count_idxs]
theorem step_sum {a : Kex2.Assigner} (W : Wf a) : Kex2.step (some a) .summary = (some a, .values (a.clock : Nat) (Kex2.toInts [a.holdout, a.layers.length, (a.experiments.filter Option.isSome).length, a.experiments.length, a.overrides.length, (validsA a).length])) := by
  show (some a, Kex2.Result.values _ _) = _
  rw [W.valids, List.countP_eq_length_filter]
end Vb

set_option Elab.async false
set_option linter.all false
set_option maxRecDepth 100000
set_option maxHeartbeats 4000000
/-! Calls: the plain ones. -/
namespace Vb
open PySem PySem.Spec PyProof.Rows L2
open LamX (ExtN Tabs TabB)
open Kex2 (experimentAt)
theorem one_of {l : List Nat} (h : l.length = 1) : ∃ x, l = [x] := match l, h with
  | [x], _ => ⟨x, rfl⟩
theorem two_of {l : List Nat} (h : l.length = 2) : ∃ x y, l = [x, y] := match l, h with
  | [x, y], _ => ⟨x, y, rfl⟩
theorem three_of {l : List Nat} (h : l.length = 3) : ∃ x y z, l = [x, y, z] := match l, h with
  | [x, y, z], _ => ⟨x, y, z, rfl⟩
section
variable {P : Program} {w : World} {K : PySem.W.Frag} {H H1 : Hp} {p q : Addr} {c c' : Loc} {a a' : Kex2.Assigner} {r : Kex2.Request} {Q : VK} {res : Kex2.Result}
theorem KD.mut (k : KD P w K H p c a r Q) (F : Fr H c H1 c') (t : Tabs (tT K) H1) (R : Rep P w K H1 p c' a') (hst : Kex2.step (some a) r = (some a', res)) {xs : List V} (hx : xs = (Kex2Neutral.fields res).map V.int) (hq : H1 q = none) : Q (.ref q) (upd H1 q (.lst xs)) := by
  subst hx
  exact k _ q c' a' res (.fr F hq) (F.trans (.same (same_new hq))) (t.ext (same_new hq)) (R.same (same_new hq)) hst upd_same
end
theorem le1 : 1 ≤ sizeLine := by decide
theorem le2 : 2 ≤ sizeLine := by decide
section
variable {P : Program} {w : World} {K : PySem.W.Frag} {mg : Str → Option Value} {base : Heap}
theorem sc_call_set_holdout : FnScope ["own", "numbers", "row", "before"] ["own", "numbers", "row"] (defScope s_call_set_holdout) := ⟨rfl, rfl, rfl, by decide +kernel, rfl, by decide +kernel, by decide +kernel⟩
theorem h_set_holdout (T : Txt K mg) : Held P w K mg base 1 (He.ga K "call_set_holdout") (spDeed P w K 1 fun n _ => .setHoldout (n.getD 0 0)) := by
  refine held_of (ps := ["own", "numbers", "row"]) T.d_call_set_holdout sc_call_set_holdout (fun vs H Q E h => by obtain ⟨_, _, _, _, _, _, _, rfl, _⟩ := h; rfl) (fun _ _ _ _ _ _ us hl => match us, hl with | [_, _, _], _ => rfl) (fun cdv A outer s H vs Q E hr h => ?_)
  have nd := sc_call_set_holdout.nd
  refine ⟨_, pss_cons (ps_if (pt_cmpR op_gt (pe_ix ix_list (pv 1) pe_int (fun _ _ => rfl)) (pe_gi T.i_MOST_TRAFFIC) (nomark _)) (pss_one (ps_ret (pe_lst (pa_cons (pe_un un_neg pe_int) pa_nil)))) pss_nil)
    (pss_cons (ps_set (i := 3) nd rfl (Or.inl rfl) (pe_fld (pv 0) rfl)) (pss_cons (ps_fld (pv 0) (pe_ix ix_list (pv 1) pe_int (fun _ _ => rfl)) rfl)
    (pss_one (ps_ret (pe_lst (pa_cons (pv 3) pa_nil)))))), ?_⟩
  obtain ⟨p, pn, pr, c, a, nums, row, rfl, R, W, hN, hn, hR, hrow, hT, k⟩ := h
  obtain ⟨n0, rfl⟩ := one_of hn
  obtain ⟨dx, q0, hp, hq0⟩ := id R.pl
  refine ⟨_, rfl, pn, _, _, _, rfl, rfl, hN, rfl, _, _, rfl, rfl, _, rfl, ?_⟩
  rw [show decide ((100 : Int) < (n0 : Int)) = decide (100 < n0) from dec_lt 100 n0]
  by_cases h : 100 < n0
  · rw [decide_eq_true h]
    exact iteT ⟨_, rfl, le1, fun q hq => k.new R hT (Same.refl H) (res := .value (-22)) (if_pos h) rfl hq⟩
  · rw [decide_eq_false h]
    refine iteF ⟨_, rfl, p, _, _, _, _, rfl, hp, T.c_Platform, T.n_Platform_holdout, rfl, _, rfl, pn, _, _, _, rfl, rfl, hN, rfl, _, rfl, p, _, _, _, rfl, hp, T.c_Platform, T.n_Platform_holdout, (by show 9 < 1000; decide), ?_⟩
    refine ⟨_, rfl, le1, fun q hq => ?_⟩
    exact k.mut (Fr.upd hp rfl) (tabs_ins hT hp) (Rep.mk_ (c' := c) (a' := { a with holdout := n0 }) hp rfl hq0 R.ls R.es R.od R.st R.n1 R.n2 R.n3) (res := .value a.holdout) (if_neg h) rfl hq
theorem sc_call_advance : FnScope ["own", "numbers", "row"] ["own", "numbers", "row"] (defScope s_call_advance) := ⟨rfl, rfl, rfl, by decide +kernel, rfl, by decide +kernel, by decide +kernel⟩
theorem h_advance (T : Txt K mg) : Held P w K mg base 1 (He.ga K "call_advance") (spDeed P w K 1 fun n _ => .advance (n.getD 0 0)) := by
  refine held_of (ps := ["own", "numbers", "row"]) T.d_call_advance sc_call_advance (fun vs H Q E h => by obtain ⟨_, _, _, _, _, _, _, rfl, _⟩ := h; rfl) (fun _ _ _ _ _ _ us hl => match us, hl with | [_, _, _], _ => rfl) (fun cdv A outer s H vs Q E hr h => ?_)
  have nd := sc_call_advance.nd
  refine ⟨_, pss_cons (ps_if (pt_cmpR op_gt (pe_ix ix_list (pv 1) pe_int (fun _ _ => rfl)) (pe_gi T.i_MOST_TIME) (nomark _)) (pss_one (ps_ret (pe_lst (pa_cons (pe_un un_neg pe_int) pa_nil)))) pss_nil)
    (pss_cons (ps_fldaug (pv 0) (pe_ix ix_list (pv 1) pe_int (fun _ _ => rfl)) in_add)
    (pss_one (ps_ret (pe_lst (pa_cons (pe_fld (pv 0) rfl) pa_nil))))), ?_⟩
  obtain ⟨p, pn, pr, c, a, nums, row, rfl, R, W, hN, hn, hR, hrow, hT, k⟩ := h
  obtain ⟨n0, rfl⟩ := one_of hn
  obtain ⟨dx, q0, hp, hq0⟩ := id R.pl
  refine ⟨_, rfl, pn, _, _, _, rfl, rfl, hN, rfl, _, _, rfl, rfl, _, rfl, ?_⟩
  rw [show decide ((10000 : Int) < (n0 : Int)) = decide (10000 < n0) from dec_lt 10000 n0]
  by_cases h : 10000 < n0
  · rw [decide_eq_true h]
    exact iteT ⟨_, rfl, le1, fun q hq => k.new R hT (Same.refl H) (res := .value (-22)) (if_pos h) rfl hq⟩
  · rw [decide_eq_false h]
    have R1 := Rep.mk_ (P := P) (w := w) (c' := c) (a' := { a with clock := a.clock + n0 }) hp rfl hq0 R.ls R.es R.od R.st R.n1 R.n2 R.n3
    refine iteF ⟨_, rfl, p, _, _, _, _, rfl, hp, T.c_Platform, T.n_Platform_clock, rfl, _, rfl, pn, _, _, _, rfl, rfl, hN, rfl, _, _, rfl, rfl, _, _, hp, (by show 9 < 1000; decide), ?_⟩
    refine ⟨_, rfl, p, _, _, _, _, rfl, upd_same, T.c_Platform, T.n_Platform_clock, rfl, le1, fun q hq => ?_⟩
    exact k.mut (Fr.upd hp rfl) (tabs_ins hT hp) R1 (res := .value ((a.clock + n0 : Nat) : Int)) (if_neg h) rfl hq
theorem sc_call_hash : FnScope ["own", "numbers", "row"] ["own", "numbers", "row"] (defScope s_call_hash) := ⟨rfl, rfl, rfl, by decide +kernel, rfl, by decide +kernel, by decide +kernel⟩
theorem h_hash (T : Txt K mg) : Held P w K mg base 3 (He.ga K "call_hash") (spDeed P w K 0 fun _ r => .hash r) := by
  refine held_of (ps := ["own", "numbers", "row"]) T.d_call_hash sc_call_hash (fun vs H Q E h => by obtain ⟨_, _, _, _, _, _, _, rfl, _⟩ := h; rfl) (fun _ _ _ _ _ _ us hl => match us, hl with | [_, _, _], _ => rfl) (fun cdv A outer s H vs Q E hr h => ?_)
  have hr1 : Room 1 _ := hr.mono (by decide)
  refine ⟨_, pss_cons (ps_if (pt_not (pt_val (pe_callH (h_are_octets T) hr1 T.g_are_octets (pa_cons (pv 2) (pa_cons pe_int pa_nil))))) (pss_one (ps_ret (pe_lst (pa_cons (pe_un un_neg pe_int) pa_nil)))) pss_nil)
    (pss_one (ps_ret (pe_callH (h_quarters T) hr1 T.g_quarters (pa_cons (pe_callH (h_hash_of T) hr T.g_hash_of (pa_cons (pv 2) pa_nil)) pa_nil)))), ?_⟩
  obtain ⟨p, pn, pr, c, a, nums, row, rfl, R, W, hN, hn, hR, hrow, hT, k⟩ := h
  refine ⟨_, rfl, pr, row, 0, rfl, hR, fun H1 s1 => ?_⟩
  rw [octs0 hrow]
  cases h : row.all (fun x => decide (x ≤ 255)) with
  | false => exact ⟨_, rfl, iteT ⟨_, rfl, le1, fun q hq => k.new R hT s1 (res := .value (-22)) (Prod.ext rfl (if_pos h)) rfl hq⟩⟩
  | true =>
    refine ⟨_, rfl, iteF ⟨_, rfl, pr, row, rfl, .inl (s1.seq hR), _, rfl, fun H2 q s2 hq hq2 => ?_⟩⟩
    refine k.at_ R hT (s1.trans s2) (.fr (.same s1) hq) (res := .values (mixed (foll fst0 row) / 281474976710656 : Nat) (Kex2.toInts [mixed (foll fst0 row) / 4294967296 % 65536, mixed (foll fst0 row) / 65536 % 65536, mixed (foll fst0 row) % 65536])) ?_ ?_
    · exact step_hash h
    · rw [hq2]
      rfl
end
end Vb

set_option Elab.async false
set_option linter.all false
set_option maxRecDepth 100000
set_option maxHeartbeats 4000000
/-! Calls that look: bucket, is_held_out, free_count, allocation, targets, get_experiment, summary. -/
namespace Vb
open PySem PySem.Spec PyProof.Rows L2
open LamX (ExtN Tabs TabB)
open Kex2 (experimentAt)
section
variable {P : Program} {w : World} {K : PySem.W.Frag} {mg : Str → Option Value} {base : Heap}
theorem sc_call_bucket : FnScope ["own", "numbers", "row"] ["own", "numbers", "row"] (defScope s_call_bucket) := ⟨rfl, rfl, rfl, by decide +kernel, rfl, by decide +kernel, by decide +kernel⟩
theorem h_bucket (T : Txt K mg) : Held P w K mg base 3 (He.ga K "call_bucket") (spDeed P w K 1 fun n r => .bucket (n.getD 0 0) r) := by
  refine held_of (ps := ["own", "numbers", "row"]) T.d_call_bucket sc_call_bucket (fun vs H Q E h => by obtain ⟨_, _, _, _, _, _, _, rfl, _⟩ := h; rfl) (fun _ _ _ _ _ _ us hl => match us, hl with | [_, _, _], _ => rfl) (fun cdv A outer s H vs Q E hr h => ?_)
  have hr1 : Room 1 _ := hr.mono (by decide)
  refine ⟨_, pss_cons (ps_if (pt_cmpR op_ge (pe_ix ix_list (pv 1) pe_int (fun _ _ => rfl)) (pe_callB call_len_seq (by rfl) T.f_len PySem.boot_len (pa_cons (pe_fld (pv 0) rfl) pa_nil)) (nomark _)) (pss_one (ps_ret (pe_lst (pa_cons (pe_un un_neg pe_int) pa_nil)))) pss_nil)
    (pss_cons (ps_if (pt_not (pt_val (pe_callH (h_are_octets T) hr1 T.g_are_octets (pa_cons (pv 2) (pa_cons pe_int pa_nil))))) (pss_one (ps_ret (pe_lst (pa_cons (pe_un un_neg pe_int) pa_nil)))) pss_nil)
    (pss_one (ps_ret (pe_lst (pa_cons (pe_callH (h_bucket_behind T) hr T.g_bucket_behind (pa_cons (pe_fld (pe_ix ix_list (pe_fld (pv 0) rfl) (pe_ix ix_list (pv 1) pe_int (fun _ _ => rfl)) (fun _ _ => rfl)) rfl) (pa_cons (pv 2) pa_nil))) pa_nil))))), ?_⟩
  obtain ⟨p, pn, pr, c, a, nums, row, rfl, R, W, hN, hn, hR, hrow, hT, k⟩ := h
  obtain ⟨n0, rfl⟩ := one_of hn
  obtain ⟨dx, q0, hp, hq0⟩ := id R.pl
  obtain ⟨vl, hls, hL, _⟩ := id R.ls
  refine ⟨_, rfl, pn, _, _, _, rfl, rfl, hN, rfl, _, rfl, p, _, _, _, _, rfl, hp, T.c_Platform, T.n_Platform_layers, rfl, c.ls, vl, rfl, .inl (SqL.of hls), _, _, rfl, rfl, _, rfl, ?_⟩
  rw [hL.len, dec_le]
  by_cases h : a.layers.length ≤ n0
  · rw [decide_eq_true h]
    exact iteT ⟨_, rfl, le1, fun q hq => k.new R hT (Same.refl H) (res := .value (-2)) (step_bucket2 h) rfl hq⟩
  · rw [decide_eq_false h]
    obtain ⟨l, hl⟩ := lay_of (a := a) (i := n0) (by omega)
    obtain ⟨y, hy, la, lx, lp, lo, rfl, hla, hlp, _⟩ := hL.right hl
    refine iteF ⟨_, rfl, pr, row, 1, rfl, hR, fun H1 s1 => ?_⟩
    rw [octs1 hrow]
    cases h2 : Kex2.isUnit row with
    | false => exact ⟨_, rfl, iteT ⟨_, rfl, le1, fun q hq => k.new R hT s1 (res := .value (-22)) (step_bucket22 hl h2) rfl hq⟩⟩
    | true =>
      refine ⟨_, rfl, iteF ⟨_, rfl, p, _, _, _, _, rfl, s1 _ _ hp, T.c_Platform, T.n_Platform_layers, rfl, _, rfl, pn, _, _, _, rfl, rfl, s1.seq hN, rfl, c.ls, vl, _, _, rfl, rfl, SqL.of (s1 _ _ hls), atI_nat hy, la, _, _, _, _, rfl, s1 _ _ hla, T.c_Layer, T.n_Layer_begun, rfl, _, rfl, _, pr, row, rfl, .inl (s1.seq hR), le1, fun q hq => ?_⟩⟩
      exact k.new R hT s1 (res := .value (bkt (sltd l.salt) row : Nat)) (step_bucket hl h2) rfl hq
theorem sc_call_is_held_out : FnScope ["own", "numbers", "row"] ["own", "numbers", "row"] (defScope s_call_is_held_out) := ⟨rfl, rfl, rfl, by decide +kernel, rfl, by decide +kernel, by decide +kernel⟩
theorem h_is_held_out (T : Txt K mg) : Held P w K mg base 4 (He.ga K "call_is_held_out") (spDeed P w K 0 fun _ r => .isHeldOut r) := by
  refine held_of (ps := ["own", "numbers", "row"]) T.d_call_is_held_out sc_call_is_held_out (fun vs H Q E h => by obtain ⟨_, _, _, _, _, _, _, rfl, _⟩ := h; rfl) (fun _ _ _ _ _ _ us hl => match us, hl with | [_, _, _], _ => rfl) (fun cdv A outer s H vs Q E hr h => ?_)
  have hr1 : Room 1 _ := hr.mono (by decide)
  refine ⟨_, pss_cons (ps_if (pt_not (pt_val (pe_callH (h_are_octets T) hr1 T.g_are_octets (pa_cons (pv 2) (pa_cons pe_int pa_nil))))) (pss_one (ps_ret (pe_lst (pa_cons (pe_un un_neg pe_int) pa_nil)))) pss_nil)
    (pss_one (ps_ret (pe_lst (pa_cons (pe_ifExp (pt_val (pe_methH (h_held T) hr T.c_Platform T.m_Platform_is_held_out (pv 0) (pa_cons (pv 2) pa_nil))) pe_int pe_int) pa_nil)))), ?_⟩
  obtain ⟨p, pn, pr, c, a, nums, row, rfl, R, W, hN, hn, hR, hrow, hT, k⟩ := h
  obtain ⟨dx, q0, hp, hq0⟩ := id R.pl
  refine ⟨_, rfl, pr, row, 1, rfl, hR, fun H1 s1 => ?_⟩
  rw [octs1 hrow]
  cases h2 : Kex2.isUnit row with
  | false => exact ⟨_, rfl, iteT ⟨_, rfl, le1, fun q hq => k.new R hT s1 (res := .value (-22)) (Prod.ext rfl (if_pos h2)) rfl hq⟩⟩
  | true =>
    refine ⟨_, rfl, iteF ⟨_, rfl, p, dx, _, rfl, s1 _ _ hp, rfl, _, rfl, p, pr, c, a, row, rfl, R.same s1, .inl (s1.seq hR), _, rfl, ?_⟩⟩
    cases h3 : Kex2.isHeldOut a row with
    | true => exact iteT ⟨le1, fun q hq => k.new R hT s1 (res := .value 1) (by rw [step_held h2, h3]; rfl) rfl hq⟩
    | false => exact iteF ⟨le1, fun q hq => k.new R hT s1 (res := .value 0) (by rw [step_held h2, h3]; rfl) rfl hq⟩
theorem sc_call_free_count : FnScope ["own", "numbers", "row"] ["own", "numbers", "row"] (defScope s_call_free_count) := ⟨rfl, rfl, rfl, by decide +kernel, rfl, by decide +kernel, by decide +kernel⟩
theorem h_free_count (T : Txt K mg) : Held P w K mg base 2 (He.ga K "call_free_count") (spDeed P w K 1 fun n _ => .freeCount (n.getD 0 0)) := by
  refine held_of (ps := ["own", "numbers", "row"]) T.d_call_free_count sc_call_free_count (fun vs H Q E h => by obtain ⟨_, _, _, _, _, _, _, rfl, _⟩ := h; rfl) (fun _ _ _ _ _ _ us hl => match us, hl with | [_, _, _], _ => rfl) (fun cdv A outer s H vs Q E hr h => ?_)
  refine ⟨_, pss_cons (ps_if (pt_cmpR op_ge (pe_ix ix_list (pv 1) pe_int (fun _ _ => rfl)) (pe_callB call_len_seq (by rfl) T.f_len PySem.boot_len (pa_cons (pe_fld (pv 0) rfl) pa_nil)) (nomark _)) (pss_one (ps_ret (pe_lst (pa_cons (pe_un un_neg pe_int) pa_nil)))) pss_nil)
    (pss_one (ps_ret (pe_lst (pa_cons (pe_callB call_len_seq (by rfl) T.f_len PySem.boot_len (pa_cons (pe_callH (h_owned_by T) hr T.g_owned_by (pa_cons (pe_fld (pe_ix ix_list (pe_fld (pv 0) rfl) (pe_ix ix_list (pv 1) pe_int (fun _ _ => rfl)) (fun _ _ => rfl)) rfl) (pa_cons (pe_gr T.g_FREE) pa_nil))) pa_nil)) pa_nil)))), ?_⟩
  obtain ⟨p, pn, pr, c, a, nums, row, rfl, R, W, hN, hn, hR, hrow, hT, k⟩ := h
  obtain ⟨n0, rfl⟩ := one_of hn
  obtain ⟨dx, q0, hp, hq0⟩ := id R.pl
  obtain ⟨vl, hls, hL, _⟩ := id R.ls
  refine ⟨_, rfl, pn, _, _, _, rfl, rfl, hN, rfl, _, rfl, p, _, _, _, _, rfl, hp, T.c_Platform, T.n_Platform_layers, rfl, c.ls, vl, rfl, .inl (SqL.of hls), _, _, rfl, rfl, _, rfl, ?_⟩
  rw [hL.len, dec_le]
  by_cases h : a.layers.length ≤ n0
  · rw [decide_eq_true h]
    exact iteT ⟨_, rfl, le1, fun q hq => k.new R hT (Same.refl H) (res := .value (-2)) (Prod.ext rfl (if_pos h)) rfl hq⟩
  · rw [decide_eq_false h]
    obtain ⟨l, hl⟩ := lay_of (a := a) (i := n0) (by omega)
    obtain ⟨y, hy, la, lx, lp, lo, rfl, hla, hlp, hl100, xs, hxs, hOw⟩ := hL.right hl
    refine iteF ⟨_, rfl, p, _, _, _, _, rfl, hp, T.c_Platform, T.n_Platform_layers, rfl, _, rfl, pn, _, _, _, rfl, rfl, hN, rfl, c.ls, vl, _, _, rfl, rfl, SqL.of hls, atI_nat hy, la, _, _, _, _, rfl, hla, T.c_Layer, T.n_Layer_owners, rfl, lo, _, l.owners, 0, rfl, ⟨hl100, xs, SqL.of hxs, hOw⟩, T.free_tup _, fun H1 F s1 hF hF1 => ?_⟩
    refine ⟨F, _, rfl, .inl (SqL.of hF1), le1, fun q hq => ?_⟩
    exact k.new R hT s1 (res := .value ((idxs l.owners 0).length : Nat)) (step_free hl) (by rw [nats_len]; rfl) hq
end
end Vb

set_option Elab.async false
set_option linter.all false
set_option maxRecDepth 100000
set_option maxHeartbeats 4000000
/-! Calls that look: allocation, targets, get_experiment, summary. -/
namespace Vb
open PySem PySem.Spec PyProof.Rows L2
open LamX (ExtN Tabs TabB)
open Kex2 (experimentAt)
/-- the runs, told -/
def runNs (zs : List (Nat × Nat × Nat)) : List Nat := zs.flatMap fun z => [z.1, z.2.1, (z.2.2 - 1) / 4, (z.2.2 - 1) % 4]
theorem runNs_snoc (zs : List (Nat × Nat × Nat)) (z : Nat × Nat × Nat) : runNs (zs ++ [z]) = runNs zs ++ [z.1, z.2.1, (z.2.2 - 1) / 4, (z.2.2 - 1) % 4] := by
  unfold runNs
  rw [List.flatMap_append]
  simp
theorem runNs_len : ∀ zs : List (Nat × Nat × Nat), (runNs zs).length = 4 * zs.length
  | [] => rfl
  | z :: r => by
    have ih := runNs_len r
    unfold runNs at ih ⊢
    rw [List.flatMap_cons, List.length_append, ih, List.length_cons]
    show 4 + 4 * r.length = 4 * (r.length + 1)
    omega
theorem ints_nats (l : List Nat) : (Kex2.toInts l).map V.int = nats l := by
  unfold Kex2.toInts
  rw [List.map_map]
  rfl
section
variable {P : Program} {w : World} {K : PySem.W.Frag} {mg : Str → Option Value} {base : Heap}
theorem sc_call_allocation : FnScope ["own", "numbers", "row", "runs", "found", "run"] ["own", "numbers", "row"] (defScope s_call_allocation) := ⟨rfl, rfl, rfl, by decide +kernel, rfl, by decide +kernel, by decide +kernel⟩
theorem h_allocation (T : Txt K mg) : Held P w K mg base 2 (He.ga K "call_allocation") (spDeed P w K 1 fun n _ => .allocation (n.getD 0 0)) := by
  refine held_of (ps := ["own", "numbers", "row"]) T.d_call_allocation sc_call_allocation (fun vs H Q E h => by obtain ⟨_, _, _, _, _, _, _, rfl, _⟩ := h; rfl) (fun _ _ _ _ _ _ us hl => match us, hl with | [_, _, _], _ => rfl) (fun cdv A outer s H vs Q E hr h => ?_)
  have nd := sc_call_allocation.nd
  refine ⟨_, pss_cons (ps_if (pt_cmpR op_ge (pe_ix ix_list (pv 1) pe_int (fun _ _ => rfl)) (pe_callB call_len_seq (by rfl) T.f_len PySem.boot_len (pa_cons (pe_fld (pv 0) rfl) pa_nil)) (nomark _)) (pss_one (ps_ret (pe_lst (pa_cons (pe_un un_neg pe_int) pa_nil)))) pss_nil)
    (pss_cons (ps_set (i := 3) nd rfl (Or.inl rfl) (pe_callH (h_runs_of T) hr T.g_runs_of (pa_cons (pe_fld (pe_ix ix_list (pe_fld (pv 0) rfl) (pe_ix ix_list (pv 1) pe_int (fun _ _ => rfl)) (fun _ _ => rfl)) rfl) pa_nil)))
    (pss_cons (ps_set (i := 4) nd rfl (Or.inl rfl) (pe_lst (pa_cons (pe_callB call_len_seq (by rfl) T.f_len PySem.boot_len (pa_cons (pv 3) pa_nil)) pa_nil)))
    (pss_cons (ps_for PassesOwn.never rfl (pi_list (pv 3)) (pg_name (i := 5) nd rfl (Or.inl rfl))
      (pss_one (ps_expr (pe_bm PySem.F.plainAttrs_list PySem.F.slot_list_extend PySem.F.type_list_extend mt_extendT (pv 4) (pa_cons (pv 5) pa_nil)))))
    (pss_one (ps_ret (pv 4)))))), ?_⟩
  obtain ⟨p, pn, pr, c, a, nums, row, rfl, R, W, hN, hn, hR, hrow, hT, k⟩ := h
  obtain ⟨n0, rfl⟩ := one_of hn
  obtain ⟨dx, q0, hp, hq0⟩ := id R.pl
  obtain ⟨vl, hls, hL, _⟩ := id R.ls
  refine ⟨_, rfl, pn, _, _, _, rfl, rfl, hN, rfl, _, rfl, p, _, _, _, _, rfl, hp, T.c_Platform, T.n_Platform_layers, rfl, c.ls, vl, rfl, .inl (SqL.of hls), _, _, rfl, rfl, _, rfl, ?_⟩
  rw [hL.len, dec_le]
  by_cases h : a.layers.length ≤ n0
  · rw [decide_eq_true h]
    exact iteT ⟨_, rfl, le1, fun q hq => k.new R hT (Same.refl H) (res := .value (-2)) (Prod.ext rfl (if_pos h)) rfl hq⟩
  · rw [decide_eq_false h]
    obtain ⟨l, hl⟩ := lay_of (a := a) (i := n0) (by omega)
    obtain ⟨y, hy, la, lx, lp, lo, rfl, hla, hlp, hl100, xs, hxs, hOw⟩ := hL.right hl
    refine iteF ⟨_, rfl, p, _, _, _, _, rfl, hp, T.c_Platform, T.n_Platform_layers, rfl, _, rfl, pn, _, _, _, rfl, rfl, hN, rfl, c.ls, vl, _, _, rfl, rfl, SqL.of hls, atI_nat hy, la, _, _, _, _, rfl, hla, T.c_Layer, T.n_Layer_owners, rfl, lo, l.owners, rfl, ⟨hl100, xs, SqL.of hxs, hOw⟩, fun H1 F zs s1 hF hF1 hZ hz100 => ?_⟩
    refine ⟨_, rfl, F, zs, rfl, .inl (SqL.of hF1), le1, fun D hD => ?_⟩
    have s2 : Same H1 (upd H1 D (.lst [V.int (zs.length : Nat)])) := same_new hD
    refine ⟨_, rfl, F, rfl, ⟨_, SqL.of (s2 _ _ hF1)⟩, ?_⟩
    have nFD : F ≠ D := ne_of_none hF1 hD
    refine for_it (walk_list (K := K) (a := F) (xs := zs)) (fun i σ H2 => (∃ v5, σ = [some (.ref p), some (.ref pn), some (.ref pr), some (.ref F), some (.ref D), v5]) ∧ Same H1 H2 ∧ H2 D = some (.lst (nI zs.length :: nats (runNs ((Kex2.runs l.owners).take i)))))
      ⟨⟨_, rfl⟩, s2, by rw [upd_same]; rfl⟩ (fun i σ H2 _ h => SqL.of (h.2.1 _ _ hF1)) ?_ ?_
    · rintro i x σ H2 H3 hi ⟨⟨v5, rfl⟩, s3, hD2⟩ ⟨rfl, hx⟩
      obtain ⟨z, hz, t, rfl, ht⟩ := hZ.left hx
      have hne := runs_ne l.owners z (List.mem_of_getElem? hz)
      refine ⟨_, rfl, .inl ⟨rfl, _, SqL.of hD2⟩, _, rfl, D, t, _, _, rfl, rfl, hD2, same_seqT s3 ht, ?_, ⟨_, rfl⟩, same_upd s3 hD, ?_⟩
      · rw [List.length_cons, nats_len, runNs_len, List.length_take]
        exact Nat.le_trans (show _ ≤ 1000 by
          show 4 * min i (Kex2.runs l.owners).length + 1 + 4 ≤ 1000
          have := hZ.len
          omega) (by decide)
      · rw [upd_same, take_snoc hz, runNs_snoc, nats_app]
        have e1 : ownE z.2.2 = (((z.2.2 - 1) / 4 : Nat) : Int) := if_neg hne
        have e2 : ownV z.2.2 = (((z.2.2 - 1) % 4 : Nat) : Int) := if_neg hne
        rw [e1, e2]
        rfl
    · rintro σ H2 ⟨⟨v5, rfl⟩, s3, hD2⟩
      rw [List.take_of_length_le (by rw [hZ.len]; exact Nat.le_refl _)] at hD2
      refine ⟨_, rfl, ?_⟩
      refine k.at_ R hT (s1.trans s3) (.fr (.same s1) hD) (step_alloc hl) ?_
      rw [hD2, hZ.len]
      show _ = some (HO.lst (V.int _ :: (Kex2.toInts _).map V.int))
      rw [ints_nats]
      rfl
theorem sc_call_targets : FnScope ["own", "numbers", "row", "found"] ["own", "numbers", "row"] (defScope s_call_targets) := ⟨rfl, rfl, rfl, by decide +kernel, rfl, by decide +kernel, by decide +kernel⟩
theorem h_targets (T : Txt K mg) (TK : TabK base mg K) : Held P w K mg base 8 (He.ga K "call_targets") (spDeed P w K 1 fun n _ => .targets (n.getD 0 0)) := by
  refine held_of (ps := ["own", "numbers", "row"]) T.d_call_targets sc_call_targets (fun vs H Q E h => by obtain ⟨_, _, _, _, _, _, _, rfl, _⟩ := h; rfl) (fun _ _ _ _ _ _ us hl => match us, hl with | [_, _, _], _ => rfl) (fun cdv A outer s H vs Q E hr h => ?_)
  have nd := sc_call_targets.nd
  have hr1 : Room 1 _ := hr.mono (by decide)
  refine ⟨_, pss_cons (ps_if (pt_not (pt_val (pe_methH (h_has T) hr1 T.c_Platform T.m_Platform_has_experiment (pv 0) (pa_cons (pe_ix ix_list (pv 1) pe_int (fun _ _ => rfl)) pa_nil)))) (pss_one (ps_ret (pe_lst (pa_cons (pe_un un_neg pe_int) pa_nil)))) pss_nil)
    (pss_cons (ps_set (i := 3) nd rfl (Or.inl rfl) (pe_meth0H (h_Experiment_targets T TK) hr T.c_Experiment T.m_Experiment_targets (pe_ix ix_list (pe_fld (pv 0) rfl) (pe_ix ix_list (pv 1) pe_int (fun _ _ => rfl)) (fun _ _ => rfl))))
    (pss_one (ps_ret (pe_op op_cat (pe_lst (pa_cons (pe_callB call_len_seq (by rfl) T.f_len PySem.boot_len (pa_cons (pv 3) pa_nil)) pa_nil)) (pv 3))))), ?_⟩
  obtain ⟨p, pn, pr, c, a, nums, row, rfl, R, W, hN, hn, hR, hrow, hT, k⟩ := h
  obtain ⟨n0, rfl⟩ := one_of hn
  obtain ⟨dx, q0, hp, hq0⟩ := id R.pl
  obtain ⟨vs, he, hE, hD⟩ := R.es
  refine ⟨_, rfl, p, dx, _, rfl, hp, rfl, _, rfl, pn, _, _, _, rfl, rfl, hN, rfl, p, c, a, n0, rfl, R, _, rfl, ?_⟩
  cases h : experimentAt a n0 with
  | none => exact iteT ⟨_, rfl, le1, fun q hq => k.new R hT (Same.refl H) (res := .value (-2)) (step_none h).1 rfl hq⟩
  | some x =>
    obtain ⟨y, hy, b, bx, bp, rfl, hb, hbp⟩ := hE.right (exp_at.mp h)
    obtain ⟨_, xW, xt, _⟩ := W.exp n0 x h
    refine iteF ⟨_, rfl, p, _, _, _, _, rfl, hp, T.c_Platform, T.n_Platform_experiments, rfl, _, rfl, pn, _, _, _, rfl, rfl, hN, rfl, c.es, vs, _, _, rfl, rfl, SqL.of he, atI_nat hy, b, _, _, rfl, hb, rfl, b, bx, bp, x, rfl, hb, hbp, xW, xt, hT, fun H1 F e1 T1 hF hF1 => ?_⟩
    refine ⟨_, rfl, F, _, rfl, .inl (SqL.of hF1), le1, fun D hD => ?_⟩
    have s2 := same_new (o := .lst [V.int ((nats (Kex2.targets x.traffic x.weights)).length : Nat)]) hD
    refine ⟨_, rfl, D, F, _, _, rfl, rfl, upd_same, s2 _ _ hF1, ?_, fun q hq => ?_⟩
    · rw [nats_len, targets_len]
      exact Nat.le_trans (show 1 + x.weights.length ≤ 5 by have := xW.2.1; omega) (by decide)
    · have s3 := s2.trans (same_new (o := .lst ([V.int ((nats (Kex2.targets x.traffic x.weights)).length : Nat)] ++ nats (Kex2.targets x.traffic x.weights))) hq)
      refine k.ext R (e1.trans (.of s3)) (T1.ext s3) (.fr (.ext (e1.trans (.of s2))) hq) (step_targets h) ?_
      rw [upd_same, nats_len]
      show _ = some (HO.lst (V.int _ :: (Kex2.toInts _).map V.int))
      rw [ints_nats]
      rfl
theorem sc_call_get_experiment : FnScope ["own", "numbers", "row", "one"] ["own", "numbers", "row"] (defScope s_call_get_experiment) := ⟨rfl, rfl, rfl, by decide +kernel, rfl, by decide +kernel, by decide +kernel⟩
theorem h_get_experiment (T : Txt K mg) : Held P w K mg base 2 (He.ga K "call_get_experiment") (spDeed P w K 1 fun n _ => .getExperiment (n.getD 0 0)) := by
  refine held_of (ps := ["own", "numbers", "row"]) T.d_call_get_experiment sc_call_get_experiment (fun vs H Q E h => by obtain ⟨_, _, _, _, _, _, _, rfl, _⟩ := h; rfl) (fun _ _ _ _ _ _ us hl => match us, hl with | [_, _, _], _ => rfl) (fun cdv A outer s H vs Q E hr h => ?_)
  have nd := sc_call_get_experiment.nd
  refine ⟨_, pss_cons (ps_if (pt_not (pt_val (pe_methH (h_has T) hr T.c_Platform T.m_Platform_has_experiment (pv 0) (pa_cons (pe_ix ix_list (pv 1) pe_int (fun _ _ => rfl)) pa_nil)))) (pss_one (ps_ret (pe_lst (pa_cons (pe_un un_neg pe_int) pa_nil)))) pss_nil)
    (pss_cons (ps_set (i := 3) nd rfl (Or.inl rfl) (pe_ix ix_list (pe_fld (pv 0) rfl) (pe_ix ix_list (pv 1) pe_int (fun _ _ => rfl)) (fun _ _ => rfl)))
    (pss_one (ps_ret (pe_op op_cat (pe_lst (pa_cons (pe_fld (pv 3) rfl) (pa_cons (pe_fld (pv 3) rfl) (pa_cons (pe_callB call_len_seq (by rfl) T.f_len PySem.boot_len (pa_cons (pe_fld (pv 3) rfl) pa_nil)) pa_nil)))) (pe_callTy call_list_of (by rfl) T.f_list (by decide +kernel) (pa_cons (pe_fld (pv 3) rfl) pa_nil)))))), ?_⟩
  obtain ⟨p, pn, pr, c, a, nums, row, rfl, R, W, hN, hn, hR, hrow, hT, k⟩ := h
  obtain ⟨n0, rfl⟩ := one_of hn
  obtain ⟨dx, q0, hp, hq0⟩ := id R.pl
  obtain ⟨vs, he, hE, hD⟩ := R.es
  refine ⟨_, rfl, p, dx, _, rfl, hp, rfl, _, rfl, pn, _, _, _, rfl, rfl, hN, rfl, p, c, a, n0, rfl, R, _, rfl, ?_⟩
  cases h : experimentAt a n0 with
  | none => exact iteT ⟨_, rfl, le1, fun q hq => k.new R hT (Same.refl H) (res := .value (-2)) (step_none h).2.1 rfl hq⟩
  | some x =>
    obtain ⟨y, hy, b, bx, bp, rfl, hb, hbp⟩ := hE.right (exp_at.mp h)
    obtain ⟨_, xW, xt, _⟩ := W.exp n0 x h
    refine iteF ⟨_, rfl, p, _, _, _, _, rfl, hp, T.c_Platform, T.n_Platform_experiments, rfl, _, rfl, pn, _, _, _, rfl, rfl, hN, rfl, c.es, vs, _, _, rfl, rfl, SqL.of he, atI_nat hy, ?_⟩
    refine ⟨_, rfl, b, _, _, _, _, rfl, hb, T.c_Experiment, T.n_Experiment_layer, rfl, _, rfl, b, _, _, _, _, rfl, hb, T.c_Experiment, T.n_Experiment_traffic, rfl, _, rfl, b, _, _, _, _, rfl, hb, T.c_Experiment, T.n_Experiment_weights, rfl, bp, _, rfl, .inr hbp, (by show 3 ≤ sizeLine; decide), fun D hDn => ?_⟩
    have s2 : Same H (upd H D (.lst [nI x.layer, nI x.traffic, V.int ((nats x.weights).length : Nat)])) := same_new hDn
    refine ⟨_, rfl, b, _, _, _, _, rfl, s2 _ _ hb, T.c_Experiment, T.n_Experiment_weights, rfl, bp, _, rfl, .inr (same_seqT s2 hbp), fun F hF => ?_⟩
    have s3 := same_new (o := .lst (nats x.weights)) hF
    refine ⟨D, F, _, _, rfl, rfl, s3 _ _ upd_same, upd_same, ?_, fun q hq => ?_⟩
    · rw [nats_len]
      exact Nat.le_trans (show 3 + x.weights.length ≤ 7 by have := xW.2.1; omega) (by decide)
    · refine k.new R hT (s2.trans s3) (step_get h) ?_ hq
      rw [nats_len]
      show _ = V.int _ :: (Kex2.toInts _).map V.int
      rw [ints_nats]
      rfl
theorem sc_call_summary : FnScope ["own", "numbers", "row", "there", "one"] ["own", "numbers", "row"] (defScope s_call_summary) := ⟨rfl, rfl, rfl, by decide +kernel, rfl, by decide +kernel, by decide +kernel⟩
theorem h_summary (T : Txt K mg) : Held P w K mg base 2 (He.ga K "call_summary") (spDeed P w K 0 fun _ _ => .summary) := by
  refine held_of (ps := ["own", "numbers", "row"]) T.d_call_summary sc_call_summary (fun vs H Q E h => by obtain ⟨_, _, _, _, _, _, _, rfl, _⟩ := h; rfl) (fun _ _ _ _ _ _ us hl => match us, hl with | [_, _, _], _ => rfl) (fun cdv A outer s H vs Q E hr h => ?_)
  have nd := sc_call_summary.nd
  refine ⟨_, pss_cons (ps_set (i := 3) nd rfl (Or.inl rfl) (pe_callB call_len_seq (by rfl) T.f_len PySem.boot_len (pa_cons (pe_lc (own := [("one", 4)]) (g := gName 4) (tt := tB (tNotN (tVar 4))) (te := tVar 4) rfl nd (pi_list (pe_fld (pv 0) rfl))
        (blkOk_by (own := [("one", 4)]) (N := ["own", "numbers", "row", "there", "one"]) (sc := defScope s_call_summary) (by decide +kernel))
        (fun _ _ _ _ _ => pg_name (i := 4) nd rfl (Or.inl rfl)) (fun _ _ _ _ _ => pts_one (pt_cmp (pc_notN (pv 4)))) (fun _ _ _ _ _ => pv 4)) pa_nil)))
    (pss_one (ps_ret (pe_lst (pa_cons (pe_fld (pv 0) rfl) (pa_cons (pe_fld (pv 0) rfl) (pa_cons (pe_callB call_len_seq (by rfl) T.f_len PySem.boot_len (pa_cons (pe_fld (pv 0) rfl) pa_nil)) (pa_cons (pv 3) (pa_cons (pe_callB call_len_seq (by rfl) T.f_len PySem.boot_len (pa_cons (pe_fld (pv 0) rfl) pa_nil))
      (pa_cons (pe_callB cr_lenO (by rfl) T.f_len PySem.boot_len (pa_cons (pe_fld (pv 0) rfl) pa_nil)) (pa_cons (pe_callB call_len_seq (by rfl) T.f_len PySem.boot_len (pa_cons (pe_meth0H (h_valid T) hr T.c_Platform T.m_Platform_valid (pv 0)) pa_nil)) pa_nil)))))))))), ?_⟩
  obtain ⟨p, pn, pr, c, a, nums, row, rfl, R, W, hN, hn, hR, hrow, hT, k⟩ := h
  obtain ⟨dx, q0, hp, hq0⟩ := id R.pl
  obtain ⟨vs, he, hE, hD⟩ := id R.es
  obtain ⟨vl, hls, hL, _⟩ := id R.ls
  obtain ⟨os, hod, hk, hP⟩ := id R.od
  obtain ⟨ws, hst, hS, _⟩ := id R.st
  refine ⟨_, rfl, p, _, _, _, _, rfl, hp, T.c_Platform, T.n_Platform_experiments, rfl, c.es, rfl, ⟨vs, SqL.of he⟩, fun D hDn => ?_⟩
  refine lc_it (walk_list (K := K) (a := c.es) (xs := vs)) (fun i H1 => Same H H1 ∧ H1 D = some (.lst (pickL (vs.take i) (a.experiments.take i) Option.isSome))) ⟨same_new hDn, upd_same⟩ (fun i H1 _ p => p.1.seq (SqL.of he)) ?_ ?_
  · rintro i x H1 H2 hi ⟨s1, hD1⟩ ⟨rfl, hx⟩
    obtain ⟨y, hy, hr1⟩ := hE.left hx
    have hl : (vs.take i).length = (a.experiments.take i).length := by rw [List.length_take, List.length_take, hE.len]
    refine ⟨rfl, _, rfl, _, rfl, ?_⟩
    cases y with
    | none =>
      have e : x = .non := hr1
      subst e
      refine iteF ⟨s1, ?_⟩
      rw [take_snoc hx, take_snoc hy, pick_snoc hl, if_neg (by decide), List.append_nil]
      exact hD1
    | some z =>
      obtain ⟨b, _, _, rfl, _⟩ := hr1
      refine iteT ⟨_, rfl, _, hD1, ?_, same_upd s1 hDn, ?_⟩
      · refine Nat.lt_of_le_of_lt (Nat.le_trans (pick_len _ _) (Nat.le_trans (by rw [List.length_take]; exact Nat.min_le_right _ _) (by rw [hE.len]; exact W.ne))) (by decide)
      · rw [upd_same, take_snoc hx, take_snoc hy, pick_snoc hl]
        rfl
  rintro H1 ⟨s1, hD1⟩
  rw [List.take_length, List.take_of_length_le (by rw [hE.len]; exact Nat.le_refl _)] at hD1
  refine ⟨D, _, rfl, .inl (SqL.of hD1), ?_⟩
  refine ⟨_, rfl, p, _, _, _, _, rfl, s1 _ _ hp, T.c_Platform, T.n_Platform_clock, rfl, _, rfl, p, _, _, _, _, rfl, s1 _ _ hp, T.c_Platform, T.n_Platform_holdout, rfl, _, rfl, p, _, _, _, _, rfl, s1 _ _ hp, T.c_Platform, T.n_Platform_layers, rfl, c.ls, vl, rfl, .inl (SqL.of (s1 _ _ hls)),
    _, rfl, _, rfl, p, _, _, _, _, rfl, s1 _ _ hp, T.c_Platform, T.n_Platform_experiments, rfl, c.es, vs, rfl, .inl (SqL.of (s1 _ _ he)), _, rfl, p, _, _, _, _, rfl, s1 _ _ hp, T.c_Platform, T.n_Platform_overrides, rfl, c.od, os, rfl, s1 _ _ hod, hk.keep (.same s1),
    _, rfl, p, dx, _, rfl, s1 _ _ hp, rfl, p, c, a, rfl, R.same s1, W.ns, fun H2 F ws' s2 hFn hws hF => ?_⟩
  obtain rfl : ws' = ws := by rw [s1 _ _ hst] at hws; cases hws; rfl
  refine ⟨F, _, rfl, .inl (SqL.of hF), (by show 7 ≤ sizeLine; decide), fun q hq => ?_⟩
  refine k.new R hT (s1.trans s2) (step_sum W) ?_ hq
  have e1 : (pickL vs a.experiments Option.isSome).length = (a.experiments.filter Option.isSome).length := (pick_each hE).1.len
  have e2 : (pickL ws' a.sticky fun s => decide (a.clock < s.expiry)).length = (validsA a).length := (pick_each hS).1.len
  have e3 : os.length = a.overrides.length := by rw [← hP.perm.length_eq, List.length_map]
  rw [e1, e2, e3, hE.len, hL.len]
  rfl
end
end Vb

set_option Elab.async false
set_option linter.all false
set_option maxRecDepth 100000
set_option maxHeartbeats 4000000
/-! Laws behind the calls that write. -/
namespace Vb
open PySem PySem.Spec PyProof.Rows L2
open LamX (ExtN Tabs TabB)
open Kex2 (experimentAt)
/-! ### overrides -/
def isV (e : Nat) (u : List Nat) (o : Kex2.Override) : Bool := o.experiment == e && o.unit == u
theorem ovp_drop {os : List Ov} {ovs : List Kex2.Override} (h : OvP os ovs) (e : Nat) (u : List Nat) : OvP (dropO os e u) (ovs.filter fun o => !isV e u o) := by
  refine ⟨?_, ?_⟩
  · have := h.perm.filter fun o => !isV e u o
    rw [List.filter_map] at this
    exact this
  · have := h.nodup
    exact this.sublist (List.filter_sublist.map _)
theorem find_none_of {os : List Ov} {ovs : List Kex2.Override} (h : OvP os ovs) (e : Nat) (u : List Nat) : findO os e u = none ↔ (ovs.filter fun o => !isV e u o).length = ovs.length := by
  have h1 := ovp_find h e u
  rw [List.length_filter_eq_length_iff]
  constructor
  · intro hn
    rw [hn] at h1
    have h2 := List.find?_eq_none.mp h1.symm
    intro o ho
    have := h2 o ho
    show (!(o.experiment == e && o.unit == u)) = true
    rw [Bool.not_eq_true', Bool.eq_false_iff]
    exact this
  · intro hall
    cases q : findO os e u with
    | none => rfl
    | some x =>
      rw [q] at h1
      have h2 := List.mem_of_find?_eq_some h1.symm
      have h3 := List.find?_some h1.symm
      have := hall _ h2
      unfold isV at this
      rw [h3] at this
      cases this
theorem ovp_store {os : List Ov} {ovs : List Kex2.Override} (h : OvP os ovs) (e : Nat) (u : List Nat) (a : Addr) (v : Nat) : OvP (storeO os e u a v) ((ovs.filter fun o => !isV e u o) ++ [⟨e, u, v⟩]) := by
  have hd := ovp_drop h e u
  unfold storeO
  cases q : findO os e u with
  | none =>
    have hall : dropO os e u = os := by
      unfold dropO
      rw [List.filter_eq_self]
      intro x hx
      have := List.find?_eq_none.mp q x hx
      simpa using this
    refine ⟨?_, ?_⟩
    · rw [if_neg (by simp), List.map_append]
      rw [hall] at hd
      exact hd.perm.append_right _
    · rw [if_neg (by simp), List.map_append, List.nodup_append]
      refine ⟨h.nodup, by simp, fun z hz y hy => ?_⟩
      have ey : y = (e, u) := by simpa using hy
      obtain ⟨x, hx, rfl⟩ := List.mem_map.mp hz
      intro z
      rw [ey] at z
      have := List.find?_eq_none.mp q x hx
      rw [isO_iff.mpr ⟨(Prod.mk.inj z).1, (Prod.mk.inj z).2⟩] at this
      exact this rfl
  | some x =>
    rw [if_pos (by rfl)]
    have hx : x ∈ os := List.mem_of_find?_eq_some q
    have hi : isO e u x = true := List.find?_some q
    obtain ⟨l1, l2, rfl⟩ := List.append_of_mem hx
    obtain ⟨e1, e2⟩ := isO_iff.mp hi
    have hn := h.nodup
    rw [List.map_append, List.map_cons] at hn
    have h5 := List.nodup_append.mp hn
    have h6 := List.nodup_cons.mp h5.2.1
    have nokey : ∀ y, y ∈ l1 ∨ y ∈ l2 → isO e u y = false := fun y hy => by
      cases z : isO e u y with
      | false => rfl
      | true =>
        obtain ⟨z1, z2⟩ := isO_iff.mp z
        have e5 : (y.e, y.u) = (x.e, x.u) := by rw [z1, z2, e1, e2]
        rcases hy with hy | hy
        · exact absurd rfl (h5.2.2 (x.e, x.u) (List.mem_map.mpr ⟨y, hy, e5⟩) (x.e, x.u) List.mem_cons_self)
        · exact absurd (List.mem_map.mpr ⟨y, hy, e5⟩) h6.1
    have m1 : l1.map (putO e u v) = l1 := by
      rw [List.map_congr_left (g := id) (fun y hy => by unfold putO; rw [nokey y (.inl hy)]; rfl), List.map_id]
    have m2 : l2.map (putO e u v) = l2 := by
      rw [List.map_congr_left (g := id) (fun y hy => by unfold putO; rw [nokey y (.inr hy)]; rfl), List.map_id]
    have mx : putO e u v x = { x with v := v } := by unfold putO; rw [if_pos hi]
    have f1 : dropO (l1 ++ x :: l2) e u = l1 ++ l2 := by
      unfold dropO
      rw [List.filter_append, List.filter_cons, hi]
      have g1 : l1.filter (fun y => !isO e u y) = l1 := List.filter_eq_self.mpr fun y hy => by rw [nokey y (.inl hy)]; rfl
      have g2 : l2.filter (fun y => !isO e u y) = l2 := List.filter_eq_self.mpr fun y hy => by rw [nokey y (.inr hy)]; rfl
      rw [g1, g2]
      rfl
    rw [List.map_append, List.map_cons, m1, m2, mx]
    rw [f1] at hd
    refine ⟨?_, ?_⟩
    · have p1 := hd.perm
      rw [List.map_append] at p1
      rw [List.map_append, List.map_cons]
      have ex : Ov.spec { x with v := v } = ⟨e, u, v⟩ := by
        unfold Ov.spec
        rw [← e1, ← e2]
      rw [ex]
      exact (List.perm_middle.trans (List.perm_append_singleton _ _).symm).trans (p1.append_right _)
    · have := h.nodup
      rw [List.map_append, List.map_cons] at this ⊢
      exact this
theorem storeO_length {os : List Ov} {ovs : List Kex2.Override} (h : OvP os ovs) (e : Nat) (u : List Nat) (a : Addr) (v : Nat) : (storeO os e u a v).length = (ovs.filter fun o => !isV e u o).length + 1 := by
  have := (ovp_store h e u a v).perm.length_eq
  rw [List.length_map, List.length_append] at this
  exact this
theorem storeO_keys {K : PySem.W.Frag} {H : Hp} {os : List Ov} {e : Nat} {u : List Nat} {a : Addr} {v : Nat} (h : KeysT K H os) (ha : KeyT K H a e u) : KeysT K H (storeO os e u a v) := by
  intro x hx
  unfold storeO at hx
  split at hx
  · obtain ⟨y, hy, rfl⟩ := List.mem_map.mp hx
    unfold putO
    split
    · exact h y hy
    · exact h y hy
  · rcases List.mem_append.mp hx with hx | hx
    · exact h x hx
    · rw [List.mem_singleton.mp hx]
      exact ha
/-! ### fresh ones -/
theorem lay_fresh {K : PySem.W.Frag} {H : Hp} {vs : List V} {l : List Kex2.Layer} {x : Addr} (e : Each (LayR K H) vs l) (h : H x = none) : V.ref x ∉ vs := fun m => by
  obtain ⟨i, hi⟩ := List.mem_iff_getElem?.mp m
  obtain ⟨y, _, b, _, _, _, e1, e2, _⟩ := e.left hi
  cases e1
  rw [h] at e2
  cases e2
theorem exp_fresh {K : PySem.W.Frag} {H : Hp} {vs : List V} {l : List (Option Kex2.Experiment)} {x : Addr} (e : Each (ExpR K H) vs l) (h : H x = none) : V.ref x ∉ vs := fun m => by
  obtain ⟨i, hi⟩ := List.mem_iff_getElem?.mp m
  obtain ⟨y, _, r⟩ := e.left hi
  cases y with
  | none => cases r
  | some y =>
    obtain ⟨b, _, _, e1, e2, _⟩ := r
    cases e1
    rw [h] at e2
    cases e2
theorem sto_fresh {K : PySem.W.Frag} {H : Hp} {vs : List V} {l : List Kex2.Sticky} {x : Addr} (e : Each (StoR K H) vs l) (h : H x = none) : V.ref x ∉ vs := fun m => by
  obtain ⟨i, hi⟩ := List.mem_iff_getElem?.mp m
  obtain ⟨y, _, b, _, _, e1, e2, _⟩ := e.left hi
  cases e1
  rw [h] at e2
  cases e2
/-! ### buckets -/
theorem modify_set {α : Type} {l : List α} {i : Nat} {x : α} (f : α → α) (h : l[i]? = some x) : l.modify i f = l.set i (f x) := by
  apply List.ext_getElem?
  intro j
  rw [List.getElem?_modify, List.getElem?_set]
  by_cases c : i = j
  · subst c
    rw [if_pos rfl, if_pos (List.getElem?_eq_some_iff.mp h).1, h]
    simp
  · rw [if_neg c]
    cases l[j]? <;> simp [c]
theorem gcat_sum (l : List Nat) (e : Nat) (goal : List Nat) : ∀ k, (gcat l e goal k).length = ((List.range k).map fun v => (idxs l (Kex2.ownerOf e v)).length - goal.getD v 0).sum
  | 0 => rfl
  | k + 1 => by
    rw [gcat_succ, List.length_append, List.length_drop, gcat_sum l e goal k, List.range_succ, List.map_append, List.sum_append]
    rfl
theorem enough {l : List Nat} {e : Nat} {goal : List Nat} (h : goal.sum ≤ ownSum l e goal.length + (idxs l 0).length) : needs l e goal goal.length ≤ (spare l e goal).length := by
  unfold spare
  rw [List.length_append, ← (gcat_perm l e goal).length_eq, gcat_sum]
  have key : ∀ k, ((List.range k).map (need l e goal)).sum + ((List.range k).map fun v => Kex2.countOwner l (Kex2.ownerOf e v)).sum = ((List.range k).map fun v => (idxs l (Kex2.ownerOf e v)).length - goal.getD v 0).sum + ((List.range k).map fun v => goal.getD v 0).sum := by
    intro k
    induction k with
    | zero => rfl
    | succ k ih =>
      rw [List.range_succ, List.map_append, List.map_append, List.map_append, List.map_append, List.sum_append, List.sum_append, List.sum_append, List.sum_append]
      simp only [List.map_cons, List.map_nil, List.sum_cons, List.sum_nil, Nat.add_zero]
      rw [count_idxs, show need l e goal k = goal.getD k 0 - (idxs l (Kex2.ownerOf e k)).length from rfl]
      omega
  have h1 := key goal.length
  rw [range_getD] at h1
  unfold needs
  unfold ownSum at h
  omega
end Vb

set_option Elab.async false
set_option linter.all false
set_option maxRecDepth 100000
set_option maxHeartbeats 4000000
/-! Buckets given again, in a state that is in order. -/
namespace Vb
open Kex2 (experimentAt)
theorem exp_lt {a : Kex2.Assigner} (W : Wf a) {e : Nat} {x : Kex2.Experiment} (h : experimentAt a e = some x) : e < 8 := by
  have := (List.getElem?_eq_some_iff.mp (exp_at.mp h)).1
  have := W.ne
  omega
theorem own_ne_pool {e v : Nat} (he : e < 8) (hv : v < 4) : Kex2.ownerOf e v ≠ Kex2.pool := by
  intro h
  have h : (1 + 4 * e + v : Nat) = (1000000 : Nat) := h
  omega
theorem pool_not {a : Kex2.Assigner} (W : Wf a) {i : Nat} {l : Kex2.Layer} (hl : a.layers[i]? = some l) : Kex2.pool ∉ l.owners := fun h => by
  rcases (W.own i l hl).2 _ h with z | ⟨e, v, x, e1, e2, _, e4⟩
  · cases z
  · have h1 := exp_lt W e2
    have h2 := (W.exp e x e2).2.1.2.1
    exact own_ne_pool h1 (by omega) e1.symm
theorem realloc_of {a : Kex2.Assigner} (W : Wf a) {i e : Nat} {l : Kex2.Layer} {goal : List Nat} (hl : a.layers[i]? = some l) (he : e < 8) (hg : goal.length ≤ 4) (hs : goal.sum ≤ ownSum l.owners e goal.length + (idxs l.owners 0).length) :
    needs l.owners e goal goal.length ≤ (spare l.owners e goal).length ∧ Kex2.reallocate l.owners e goal = fill l.owners e goal goal.length ∧ Realloc l.owners e goal (Kex2.reallocate l.owners e goal) := by
  have h1 := enough hs
  obtain ⟨h2, h3⟩ := reallocate_is (pool_not W hl) (fun v hv => own_ne_pool he (by omega)) h1
  exact ⟨h1, h2, h3⟩
theorem fill_zero (l : List Nat) (e : Nat) (goal : List Nat) (h : ∀ v, need l e goal v = 0) : ∀ k, fill l e goal k = setAll l (giv l e goal) 0
  | 0 => rfl
  | k + 1 => by
    show setAll (fill l e goal k) (((spare l e goal).drop (needs l e goal k)).take (need l e goal k)) (Kex2.ownerOf e k) = _
    rw [h k, List.take_zero, fill_zero l e goal h k]
    rfl
theorem zeros_at (w : List Nat) (v : Nat) : (w.map fun _ => (0 : Nat)).getD v 0 = 0 := by
  rw [List.getD_eq_getElem?_getD, List.getElem?_map]
  cases w[v]? <;> rfl
theorem zeros_sum : ∀ w : List Nat, (w.map fun _ => (0 : Nat)).sum = 0
  | [] => rfl
  | _ :: r => by rw [List.map_cons, List.sum_cons, zeros_sum r]
theorem freed_is {a : Kex2.Assigner} (W : Wf a) {i : Nat} {x : Kex2.Experiment} {l : Kex2.Layer} (hx : experimentAt a i = some x) (hl : a.layers[x.layer]? = some l) : Kex2.reallocate l.owners i (x.weights.map fun _ => 0) = freed i l.owners := by
  have h4 := (W.exp i x hx).2.1.2.1
  obtain ⟨_, h2, _⟩ := realloc_of W (goal := x.weights.map fun _ => 0) hl (exp_lt W hx) (by rw [List.length_map]; exact h4) (by rw [zeros_sum]; exact Nat.zero_le _)
  rw [h2, fill_zero]
  · apply List.ext_getElem?
    intro j
    rw [setAll_get]
    unfold freed
    rw [List.getElem?_map]
    by_cases hj : j < l.owners.length
    · obtain ⟨o, ho⟩ : ∃ o, l.owners[j]? = some o := ⟨_, List.getElem?_eq_getElem hj⟩
      rw [ho]
      show _ = some (if decide (ownE o = (i : Int)) = true then 0 else o)
      have hmem : j ∈ giv l.owners i (x.weights.map fun _ => 0) ↔ ∃ v, v < x.weights.length ∧ o = Kex2.ownerOf i v := by
        unfold giv
        rw [mem_givN, List.length_map]
        constructor
        · rintro ⟨v, hv, h⟩
          rw [zeros_at, List.drop_zero, mem_idxs, ho] at h
          exact ⟨v, hv, Option.some.inj h⟩
        · rintro ⟨v, hv, h⟩
          refine ⟨v, hv, ?_⟩
          rw [zeros_at, List.drop_zero, mem_idxs, ho, h]
      rcases (W.own _ l hl).2 o (List.mem_of_getElem? ho) with z | ⟨e, v, x', e1, e2, e3, e4⟩
      · subst z
        rw [if_neg (fun h => by
          obtain ⟨v, _, h⟩ := hmem.mp h.1
          exact own_ne0 i v h.symm), decide_eq_false (show ¬ ownE 0 = (i : Int) by show ¬ (-1 : Int) = (i : Int); omega), if_neg Bool.false_ne_true]
      · have hv4 : v < 4 := by have := (W.exp e x' e2).2.1.2.1; omega
        rw [e1, ownE_of hv4]
        by_cases c : e = i
        · subst c
          rw [hx] at e2
          cases e2
          rw [if_pos ⟨hmem.mpr ⟨v, e4, e1⟩, hj⟩, decide_eq_true rfl, if_pos rfl]
        · rw [if_neg (fun h => by
            obtain ⟨v', hv', h⟩ := hmem.mp h.1
            rw [e1] at h
            have h : (1 + 4 * e + v : Nat) = (1 + 4 * i + v' : Nat) := h
            omega), decide_eq_false (show ¬ (e : Int) = (i : Int) by omega), if_neg Bool.false_ne_true]
    · rw [if_neg (fun h => hj h.2), List.getElem?_eq_none (by omega)]
      rfl
  · intro v
    unfold need
    rw [zeros_at, Nat.zero_sub]
theorem step_rem {a : Kex2.Assigner} (W : Wf a) {i : Nat} {x : Kex2.Experiment} {l : Kex2.Layer} (hx : experimentAt a i = some x) (hl : a.layers[x.layer]? = some l) : Kex2.step (some a) (.removeExperiment i) = (some (removed a i x l), .value x.traffic) := by
  have e1 := freed_is W hx hl
  have e2 : Kex2.ownersOf a x.layer = l.owners := (lay_get hl).1
  have e3 : a.layers.modify x.layer (fun l' => { l' with owners := freed i l.owners }) = a.layers.set x.layer { l with owners := freed i l.owners } := modify_set (fun l' => { l' with owners := freed i l.owners }) hl
  simp only [Kex2.step, hx]
  rw [e2, e1]
  unfold Kex2.withOwners removed
  rw [e3]
end Vb

set_option Elab.async false
set_option linter.all false
set_option maxRecDepth 100000
set_option maxHeartbeats 4000000
/-! Calls that write: overrides, add_layer, remove_experiment. -/
namespace Vb
open PySem PySem.Spec PyProof.Rows L2
open LamX (ExtN Tabs TabB)
open Kex2 (experimentAt)
theorem call_tupL {X : Cx} : CallR X (.type "tuple") (fun xs H Q => ∃ p ys, xs = [.ref p] ∧ SqL X.K H p ys ∧ ∀ l, H l = none → Q (.ref l) (upd H l (.tup ys))) := fun pins s σ H xs us Q I r ⟨p, ys, e, h1, h2⟩ => call_tuple_of pins s σ H xs us Q I r ⟨p, ys, e, .inl ⟨h1, h2⟩⟩
theorem step_remO {a : Kex2.Assigner} (i : Nat) (u : List Nat) : Kex2.step (some a) (.removeOverride i u) = (if (a.overrides.filter fun o => !isV i u o).length = a.overrides.length then (some a, .value (-33)) else (some { a with overrides := a.overrides.filter fun o => !isV i u o }, .value ((a.overrides.filter fun o => !isV i u o).length : Nat))) := rfl
theorem step_setO {a : Kex2.Assigner} {i v : Nat} {u : List Nat} {x : Kex2.Experiment} (hx : experimentAt a i = some x) : Kex2.step (some a) (.setOverride i v u) = (if x.weights.length ≤ v ∨ Kex2.isUnit u = false then (some a, .value (-22))
      else if (a.overrides.filter fun o => !isV i u o).length = a.overrides.length ∧ Kex2.maxOverrides ≤ a.overrides.length then (some a, .value (-28))
        else (some { a with overrides := (a.overrides.filter fun o => !isV i u o) ++ [⟨i, u, v⟩] }, .value ((a.overrides.filter fun o => !isV i u o).length + 1 : Nat))) := by
  simp only [Kex2.step, hx]
  rfl
theorem andV {tA tB : TT} {σ : L2.St} {H : Hp} {Q : Bool → Hp → Prop} {b1 b2 : Bool} (h1 : ∀ Q' : Bool → Hp → Prop, Q' b1 H → tA σ H Q') (h2 : ∀ Q' : Bool → Hp → Prop, Q' b2 H → tB σ H Q') (q : Q (b1 && b2) H) : tAnd tA tB σ H Q := h1 _ (by
  cases b1 with
  | false => exact q
  | true => exact h2 _ q)
theorem orV {tA tB : TT} {σ : L2.St} {H : Hp} {Q : Bool → Hp → Prop} {b1 b2 : Bool} (h1 : ∀ Q' : Bool → Hp → Prop, Q' b1 H → tA σ H Q') (h2 : ∀ Q' : Bool → Hp → Prop, Q' b2 H → tB σ H Q') (q : Q (b1 || b2) H) : tOr tA tB σ H Q := h1 _ (by
  cases b1 with
  | true => exact q
  | false => exact h2 _ q)
theorem dec_eq (a b : Nat) : decide (a = b) = decide ((a : Int) = (b : Int)) := by
  by_cases h : a = b
  · rw [decide_eq_true h, decide_eq_true (by omega)]
  · rw [decide_eq_false h, decide_eq_false (by omega)]
section
variable {P : Program} {w : World} {K : PySem.W.Frag} {mg : Str → Option Value} {base : Heap}
theorem sc_call_remove_override : FnScope ["own", "numbers", "row", "key"] ["own", "numbers", "row"] (defScope s_call_remove_override) := ⟨rfl, rfl, rfl, by decide +kernel, rfl, by decide +kernel, by decide +kernel⟩
theorem h_remove_override (T : Txt K mg) : Held P w K mg base 1 (He.ga K "call_remove_override") (spDeed P w K 1 fun n r => .removeOverride (n.getD 0 0) r) := by
  refine held_of (ps := ["own", "numbers", "row"]) T.d_call_remove_override sc_call_remove_override (fun vs H Q E h => by obtain ⟨_, _, _, _, _, _, _, rfl, _⟩ := h; rfl) (fun _ _ _ _ _ _ us hl => match us, hl with | [_, _, _], _ => rfl) (fun cdv A outer s H vs Q E hr h => ?_)
  have nd := sc_call_remove_override.nd
  refine ⟨_, pss_cons (ps_set (i := 3) nd rfl (Or.inl rfl) (pe_tup (pa_cons (pe_ix ix_list (pv 1) pe_int (fun _ _ => rfl)) (pa_cons (pe_callTy call_tupL (by rfl) T.f_tuple (by decide +kernel) (pa_cons (pv 2) pa_nil)) pa_nil))))
    (pss_cons (ps_if (pt_cmpR (op_notinO (hu9 hr)) (pv 3) (pe_fld (pv 0) rfl) (by with_unfolding_all rfl)) (pss_one (ps_ret (pe_lst (pa_cons (pe_un un_neg pe_int) pa_nil)))) pss_nil)
    (pss_cons (ps_expr (pe_popO (hu9 hr) (pe_fld (pv 0) rfl) (pa_cons (pv 3) pa_nil)))
    (pss_one (ps_ret (pe_lst (pa_cons (pe_callB cr_lenO (by rfl) T.f_len PySem.boot_len (pa_cons (pe_fld (pv 0) rfl) pa_nil)) pa_nil)))))), ?_⟩
  obtain ⟨p, pn, pr, c, a, nums, row, rfl, R, W, hN, hn, hR, hrow, hT, k⟩ := h
  obtain ⟨n0, rfl⟩ := one_of hn
  obtain ⟨dx, q0, hp, hq0⟩ := id R.pl
  obtain ⟨os, hod, hk, hP⟩ := id R.od
  refine ⟨_, rfl, pn, _, _, _, rfl, rfl, hN, rfl, _, rfl, pr, _, rfl, hR, fun t g1 => ⟨le2, fun kk g2 => ?_⟩⟩
  have s1 : Same H (upd H t (.tup (nats row))) := same_new g1
  have s2 := s1.trans (same_new (o := .tup [nI n0, .ref t]) g2)
  have hkey : KeyT K (upd (upd H t (.tup (nats row))) kk (.tup [nI n0, .ref t])) kk n0 row := ⟨t, upd_same, .inl (.inl (same_new g2 _ _ upd_same))⟩
  refine absH (Pr := fun H1 => Same H H1 ∧ KeyT K H1 kk n0 row) ⟨s2, hkey⟩ ?_
  clear s1 s2 hkey g1 g2
  rintro H1 ⟨s1, hkey⟩
  have hk1 : KeysT K H1 os := hk.keep (.same s1)
  refine ⟨_, rfl, _, rfl, p, _, _, _, _, rfl, s1 _ _ hp, T.c_Platform, T.n_Platform_overrides, rfl, kk, c.od, n0, row, os, rfl, rfl, s1 _ _ hod, hk1, hkey, _, rfl, ?_⟩
  have hst := step_remO (a := a) n0 row
  cases hf : findO os n0 row with
  | none =>
    rw [if_pos ((find_none_of hP n0 row).mp hf)] at hst
    exact iteT ⟨_, rfl, le1, fun q hq => k.new R hT s1 (res := .value (-33)) hst rfl hq⟩
  | some o =>
    rw [if_neg (fun z => by rw [(find_none_of hP n0 row).mpr z] at hf; cases hf)] at hst
    refine iteF ⟨_, rfl, p, _, _, _, _, rfl, s1 _ _ hp, T.c_Platform, T.n_Platform_overrides, rfl, ⟨c.od, _, rfl, s1 _ _ hod⟩, _, rfl, c.od, kk, n0, row, os, o, rfl, rfl, s1 _ _ hod, hk1, hkey, hf, ?_⟩
    have hod1 := s1 _ _ hod
    have R2 := (R.same s1).od_set (os' := dropO os n0 row) hod1 (fun x hx => hk1 x (List.mem_filter.mp hx).1) (ovp_drop hP n0 row)
    have npd : p ≠ c.od := fun z => by rw [z, hod] at hp; unfold DicO at hp; cases hp
    have hp2 := s1 _ _ hp
    refine ⟨_, rfl, p, _, _, _, _, rfl, by rw [upd_ne npd]; exact hp2, T.c_Platform, T.n_Platform_overrides, rfl, c.od, _, rfl, upd_same, (R2.od.elim fun os2 h => by
      obtain ⟨h1, h2, _⟩ := h
      exact (fun x hx => (hk1 x (List.mem_filter.mp hx).1).keep (.upd (by unfold DicO at hod1; exact hod1) rfl))), le1, fun q hq => ?_⟩
    refine k.mut ((Fr.same s1).trans (.upd (by unfold DicO at hod1; exact hod1) rfl)) (tabs_dic (hT.ext s1) hod1) R2 hst ?_ hq
    have e3 : (dropO os n0 row).length = (a.overrides.filter fun o => !isV n0 row o).length := by rw [← (ovp_drop hP n0 row).perm.length_eq, List.length_map]
    rw [e3]
    rfl
theorem sc_call_set_override : FnScope ["own", "numbers", "row", "number", "variant", "key"] ["own", "numbers", "row"] (defScope s_call_set_override) := ⟨rfl, rfl, rfl, by decide +kernel, rfl, by decide +kernel, by decide +kernel⟩
theorem h_set_override (T : Txt K mg) : Held P w K mg base 2 (He.ga K "call_set_override") (spDeed P w K 2 fun n r => .setOverride (n.getD 0 0) (n.getD 1 0) r) := by
  refine held_of (ps := ["own", "numbers", "row"]) T.d_call_set_override sc_call_set_override (fun vs H Q E h => by obtain ⟨_, _, _, _, _, _, _, rfl, _⟩ := h; rfl) (fun _ _ _ _ _ _ us hl => match us, hl with | [_, _, _], _ => rfl) (fun cdv A outer s H vs Q E hr h => ?_)
  have nd := sc_call_set_override.nd
  refine ⟨_, pss_cons (ps_asg (pv 1) (pg_unl rfl (pgs_cons (pg_name (i := 3) nd rfl (Or.inl rfl)) (pgs_cons (pg_name (i := 4) nd rfl (Or.inl rfl)) pgs_nil))))
    (pss_cons (ps_if (pt_not (pt_val (pe_methH (h_has T) hr T.c_Platform T.m_Platform_has_experiment (pv 0) (pa_cons (pv 3) pa_nil)))) (pss_one (ps_ret (pe_lst (pa_cons (pe_un un_neg pe_int) pa_nil)))) pss_nil)
    (pss_cons (ps_if (PW.pt (pw_or (pt_cmpR op_ge (pv 4) (pe_callB call_len_seq (by rfl) T.f_len PySem.boot_len (pa_cons (pe_fld (pe_ix ix_list (pe_fld (pv 0) rfl) (pv 3) (fun _ _ => rfl)) rfl) pa_nil)) (nomark _)) (pw_or1 (pt_not (pt_val (pe_callH (h_are_octets T) hr T.g_are_octets (pa_cons (pv 2) (pa_cons pe_int pa_nil))))))))
      (pss_one (ps_ret (pe_lst (pa_cons (pe_un un_neg pe_int) pa_nil)))) pss_nil)
    (pss_cons (ps_set (i := 5) nd rfl (Or.inl rfl) (pe_tup (pa_cons (pv 3) (pa_cons (pe_callTy call_tupL (by rfl) T.f_tuple (by decide +kernel) (pa_cons (pv 2) pa_nil)) pa_nil))))
    (pss_cons (ps_if (PW.pt (pw_and (pt_cmp (pc_eqI (pe_callB cr_lenO (by rfl) T.f_len PySem.boot_len (pa_cons (pe_fld (pv 0) rfl) pa_nil)) (pe_gi T.i_MOST_OVERRIDES))) (pw_and1 (pt_cmpR (op_notinO (hu9 hr)) (pv 5) (pe_fld (pv 0) rfl) (by with_unfolding_all rfl)))))
      (pss_one (ps_ret (pe_lst (pa_cons (pe_un un_neg pe_int) pa_nil)))) pss_nil)
    (pss_cons (ps_asg (pv 4) (pg_sub (pe_fld (pv 0) rfl) (pv 5) (set_O (hu9 hr))))
    (pss_one (ps_ret (pe_lst (pa_cons (pe_callB cr_lenO (by rfl) T.f_len PySem.boot_len (pa_cons (pe_fld (pv 0) rfl) pa_nil)) pa_nil))))))))), ?_⟩
  obtain ⟨p, pn, pr, c, a, nums, row, rfl, R, W, hN, hn, hR, hrow, hT, k⟩ := h
  obtain ⟨n0, n1, rfl⟩ := two_of hn
  obtain ⟨dx, q0, hp, hq0⟩ := id R.pl
  obtain ⟨os, hod, hk, hP⟩ := id R.od
  obtain ⟨vs, he, hE, _⟩ := id R.es
  refine ⟨_, rfl, pn, _, rfl, hN, rfl, ?_⟩
  refine ⟨_, _, rfl, _, _, rfl, rfl, ?_⟩
  -- has_experiment
  refine ⟨_, rfl, p, dx, _, rfl, hp, rfl, _, rfl, p, c, a, n0, rfl, R, _, rfl, ?_⟩
  cases h : experimentAt a n0 with
  | none => exact iteT ⟨_, rfl, le1, fun q hq => k.new R hT (Same.refl H) (res := .value (-2)) ((step_none h).2.2.2.2.2.2.2.1 n1 row) rfl hq⟩
  | some x =>
    have hst := step_setO (v := n1) (u := row) h
    obtain ⟨y, hy, b, bx, bp, rfl, hb, hbp⟩ := hE.right (exp_at.mp h)
    refine iteF ⟨_, rfl, _, rfl, p, _, _, _, _, rfl, hp, T.c_Platform, T.n_Platform_experiments, rfl, _, rfl, c.es, vs, _, _, rfl, rfl, SqL.of he, atI_nat hy, b, _, _, _, _, rfl, hb, T.c_Experiment, T.n_Experiment_weights, rfl, bp, _, rfl, .inr hbp, _, _, rfl, rfl, _, rfl, ?_⟩
    rw [nats_len, dec_le]
    by_cases h1 : x.weights.length ≤ n1
    · rw [if_pos (.inl h1)] at hst
      rw [decide_eq_true h1]
      exact iteT (iteT ⟨_, rfl, le1, fun q hq => k.new R hT (Same.refl H) (res := .value (-22)) hst rfl hq⟩)
    rw [decide_eq_false h1]
    refine iteF ⟨_, rfl, pr, row, 1, rfl, hR, fun H0 s0 => ?_⟩
    rw [octs1 hrow]
    cases h2 : Kex2.isUnit row with
    | false =>
      rw [if_pos (.inr h2)] at hst
      exact ⟨_, rfl, iteT ⟨_, rfl, le1, fun q hq => k.new R hT s0 (res := .value (-22)) hst rfl hq⟩⟩
    | true =>
      rw [if_neg (fun z => z.elim h1 (fun z => by rw [h2] at z; cases z))] at hst
      -- key
      refine ⟨_, rfl, iteF ⟨_, rfl, _, rfl, pr, _, rfl, s0.seq hR, fun t g1 => ⟨le2, fun kk g2 => ?_⟩⟩⟩
      have s1 : Same H (upd H0 t (.tup (nats row))) := s0.trans (same_new g1)
      have s2 := s1.trans (same_new (o := .tup [nI n0, .ref t]) g2)
      have hkey : KeyT K (upd (upd H0 t (.tup (nats row))) kk (.tup [nI n0, .ref t])) kk n0 row := ⟨t, upd_same, .inl (.inl (same_new g2 _ _ upd_same))⟩
      refine absH (Pr := fun H1 => Same H H1 ∧ KeyT K H1 kk n0 row) ⟨s2, hkey⟩ ?_
      clear s1 s2 hkey g1 g2
      rintro H1 ⟨s1, hkey⟩
      have hk1 : KeysT K H1 os := hk.keep (.same s1)
      have hod1 := s1 _ _ hod
      have hlen : os.length = a.overrides.length := by rw [← hP.perm.length_eq, List.length_map]
      dsimp only [gName, tSeq, tIfS]
      refine andV (b1 := decide (os.length = 16)) (b2 := !(findO os n0 row).isSome) (fun Q' q => ⟨_, rfl, p, _, _, _, _, rfl, s1 _ _ hp, T.c_Platform, T.n_Platform_overrides, rfl, c.od, os, rfl, hod1, hk1, _, _, rfl, rfl, _, rfl, ?_⟩) (fun Q' q => ⟨_, rfl, _, rfl, p, _, _, _, _, rfl, s1 _ _ hp, T.c_Platform, T.n_Platform_overrides, rfl, kk, c.od, n0, row, os, rfl, rfl, hod1, hk1, hkey, _, rfl, q⟩) ?_
      · rw [dec_eq os.length 16] at q
        exact q
      cases hb : (decide (os.length = 16) && !(findO os n0 row).isSome) with
      | true =>
        rw [Bool.and_eq_true] at hb
        have h16 := of_decide_eq_true hb.1
        have hno : findO os n0 row = none := by
          cases q : findO os n0 row with
          | none => rfl
          | some o => rw [q] at hb; cases hb.2
        rw [if_pos ⟨(find_none_of hP n0 row).mp hno, by show 16 ≤ _; omega⟩] at hst
        exact iteT ⟨_, rfl, le1, fun q hq => k.new R hT s1 (res := .value (-28)) hst rfl hq⟩
      | false =>
        have hl16 := W.no
        rw [if_neg (fun z => by
          have h16 : (16 : Nat) ≤ a.overrides.length := z.2
          rw [decide_eq_true (show os.length = 16 by omega), (find_none_of hP n0 row).mpr z.1] at hb
          cases hb)] at hst
        refine iteF ⟨_, rfl, _, rfl, p, _, _, _, _, rfl, s1 _ _ hp, T.c_Platform, T.n_Platform_overrides, rfl, _, rfl, c.od, kk, n0, row, os, n1, rfl, rfl, rfl, hod1, hk1, hkey, by omega, ?_⟩
        have hks : KeysT K H1 (storeO os n0 row kk n1) := storeO_keys hk1 hkey
        have R2 := (R.same s1).od_set (os' := storeO os n0 row kk n1) hod1 hks (ovp_store hP n0 row kk n1)
        have npd : p ≠ c.od := fun z => by rw [z, hod] at hp; unfold DicO at hp; cases hp
        have hp2 := s1 _ _ hp
        refine ⟨_, rfl, p, _, _, _, _, rfl, by rw [upd_ne npd]; exact hp2, T.c_Platform, T.n_Platform_overrides, rfl, c.od, _, rfl, upd_same, hks.keep (.upd (by unfold DicO at hod1; exact hod1) rfl), le1, fun q hq => ?_⟩
        refine k.mut ((Fr.same s1).trans (.upd (by unfold DicO at hod1; exact hod1) rfl)) (tabs_dic (hT.ext s1) hod1) R2 hst ?_ hq
        rw [storeO_length hP]
        rfl
end
end Vb

set_option Elab.async false
set_option linter.all false
set_option maxRecDepth 100000
set_option maxHeartbeats 4000000
/-! Calls that write: add_layer, remove_experiment; create. -/
namespace Vb
open PySem PySem.Spec PyProof.Rows L2
open LamX (ExtN Tabs TabB)
open Kex2 (experimentAt)
theorem step_addL {a : Kex2.Assigner} (s : List Nat) : Kex2.step (some a) (.addLayer s) = (if Kex2.isUnit s = false then (some a, .value (-22)) else if a.layers.any (fun l => l.salt == s) ∨ a.salt = s then (some a, .value (-17))
    else if Kex2.maxLayers ≤ a.layers.length then (some a, .value (-28)) else (some { a with layers := a.layers ++ [⟨s, List.replicate Kex2.bucketCount 0⟩] }, .value (a.layers.length : Nat))) := rfl
theorem no_of {p : Prop} [Decidable p] (h : ¬ p) : ¬ decide p = true := by
  rw [decide_eq_false h]
  exact Bool.false_ne_true
def saltsD (ls : List Kex2.Layer) : List PyData := ls.map fun l => natsD l.salt
theorem salts_lay : ∀ ls : List Kex2.Layer, PyData.canLayAll0 (saltsD ls) = true ∧ PyData.depthAll (saltsD ls) ≤ 1
  | [] => ⟨rfl, by show 0 ≤ 1; decide⟩
  | l :: ls => by
    obtain ⟨h1, h2⟩ := salts_lay ls
    refine ⟨?_, ?_⟩
    · show (PyData.canLay0 (natsD l.salt) && PyData.canLayAll0 (saltsD ls)) = true
      rw [h1]
      show (PyData.canLayAll0 (l.salt.map fun (n : Nat) => PyData.int (n : Int)) && true) = true
      rw [nats_lay]
      rfl
    · show max (PyData.depth (natsD l.salt)) (PyData.depthAll (saltsD ls)) ≤ 1
      have : PyData.depth (natsD l.salt) = 1 := by
        show PyData.depthAll (l.salt.map fun (n : Nat) => PyData.int (n : Int)) + 1 = 1
        rw [nats_dep]
      omega
theorem salts_shaped (ls : List Kex2.Layer) : SeqAt.shaped (.list (saltsD ls)) = true := by
  obtain ⟨h1, h2⟩ := salts_lay ls
  unfold SeqAt.shaped
  simp only [PyData.canLay0, PyData.depth, h1]
  simp
  omega
theorem salts_any (ls : List Kex2.Layer) (u : List Nat) : ((saltsD ls).any fun z => PyData.eqv z (natsD u)) = ls.any fun l => l.salt == u := by
  unfold saltsD
  rw [List.any_map]
  congr 1
  funext l
  show PyData.eqv (natsD l.salt) (natsD u) = _
  rw [nats_eqv]
  by_cases h : l.salt = u <;> simp [h]
theorem salts_dp {K : PySem.W.Frag} {H : Hp} : ∀ {xs : List V} {ls : List Kex2.Layer}, Each (fun (x : V) (l : Kex2.Layer) => ∃ t, x = .ref t ∧ SqT K H t (nats l.salt)) xs ls → DpAll K H xs (saltsD ls)
  | [], [], _ => .nil
  | [], _ :: _, e => by cases e.len
  | _ :: _, [], e => by cases e.len
  | x :: xs, l :: ls, e => by
    obtain ⟨⟨t, ex, h⟩, e2⟩ := each_tail e
    subst ex
    exact .cons (nats_dp h) (salts_dp e2)
section
variable {P : Program} {w : World} {K : PySem.W.Frag} {mg : Str → Option Value} {base : Heap}
theorem sc_call_add_layer : FnScope ["own", "numbers", "row", "layer"] ["own", "numbers", "row"] (defScope s_call_add_layer) := ⟨rfl, rfl, rfl, by decide +kernel, rfl, by decide +kernel, by decide +kernel⟩
theorem hu65 {A : Around} {k : Nat} (hr : Room k A) : A.units + 65 < cLine := by
  have := hr.un
  omega
theorem h_add_layer (T : Txt K mg) : Held P w K mg base 5 (He.ga K "call_add_layer") (spDeed P w K 0 fun _ r => .addLayer r) := by
  refine held_of (ps := ["own", "numbers", "row"]) T.d_call_add_layer sc_call_add_layer (fun vs H Q E h => by obtain ⟨_, _, _, _, _, _, _, rfl, _⟩ := h; rfl) (fun _ _ _ _ _ _ us hl => match us, hl with | [_, _, _], _ => rfl) (fun cdv A outer s H vs Q E hr h => ?_)
  have nd := sc_call_add_layer.nd
  have hr1 : Room 1 _ := hr.mono (by decide)
  refine ⟨_, pss_cons (ps_if (pt_not (pt_val (pe_callH (h_are_octets T) hr1 T.g_are_octets (pa_cons (pv 2) (pa_cons pe_int pa_nil))))) (pss_one (ps_ret (pe_lst (pa_cons (pe_un un_neg pe_int) pa_nil)))) pss_nil)
    (pss_cons (ps_if (PW.pt (pw_or (pt_cmpR (op_eqD hr.units) (pe_callTy call_tupL (by rfl) T.f_tuple (by decide +kernel) (pa_cons (pv 2) pa_nil)) (pe_fld (pv 0) rfl) (nomark _))
        (pw_or1 (pt_cmpR (op_inD (hu65 hr)) (pe_callTy call_tupL (by rfl) T.f_tuple (by decide +kernel) (pa_cons (pv 2) pa_nil)) (pe_lc (own := [("layer", 3)]) (g := gName 3) (tt := tYes) (te := tFld K (tVar 3) "salt") rfl nd (pi_list (pe_fld (pv 0) rfl))
          (blkOk_by (own := [("layer", 3)]) (N := ["own", "numbers", "row", "layer"]) (sc := defScope s_call_add_layer) (by decide +kernel))
          (fun _ _ _ _ _ => pg_name (i := 3) nd rfl (Or.inl rfl)) (fun _ _ _ _ _ => pts_nil) (fun _ _ _ _ _ => pe_fld (pv 3) rfl)) (by with_unfolding_all rfl)))))
      (pss_one (ps_ret (pe_lst (pa_cons (pe_un un_neg pe_int) pa_nil)))) pss_nil)
    (pss_cons (ps_if (pt_cmp (pc_eqI (pe_callB call_len_seq (by rfl) T.f_len PySem.boot_len (pa_cons (pe_fld (pv 0) rfl) pa_nil)) (pe_gi T.i_MOST_LAYERS))) (pss_one (ps_ret (pe_lst (pa_cons (pe_un un_neg pe_int) pa_nil)))) pss_nil)
    (pss_cons (ps_expr (pe_bm PySem.F.plainAttrs_list PySem.F.slot_list_append PySem.F.type_list_append mt_append (pe_fld (pv 0) rfl) (pa_cons (pe_makeH T.k_Layer (h_Layer_init T) hr T.g_Layer (pa_cons (pe_callTy call_tupL (by rfl) T.f_tuple (by decide +kernel) (pa_cons (pv 2) pa_nil)) pa_nil)) pa_nil)))
    (pss_one (ps_ret (pe_lst (pa_cons (pe_op op_sub (pe_callB call_len_seq (by rfl) T.f_len PySem.boot_len (pa_cons (pe_fld (pv 0) rfl) pa_nil)) pe_int) pa_nil))))))), ?_⟩
  obtain ⟨p, pn, pr, c, a, nums, row, rfl, R, W, hN, hn, hR, hrow, hT, k⟩ := h
  obtain ⟨dx, q0, hp, hq0⟩ := id R.pl
  obtain ⟨vl, hls, hL, hDl⟩ := id R.ls
  have hst := step_addL (a := a) row
  refine ⟨_, rfl, pr, row, 1, rfl, hR, fun H1 s1 => ?_⟩
  rw [octs1 hrow]
  cases h2 : Kex2.isUnit row with
  | false =>
    rw [if_pos h2] at hst
    exact ⟨_, rfl, iteT ⟨_, rfl, le1, fun q hq => k.new R hT s1 (res := .value (-22)) hst rfl hq⟩⟩
  | true =>
    rw [if_neg (by rw [h2]; decide)] at hst
    refine ⟨_, rfl, iteF ?_⟩
    -- tuple(row) == own.salt
    refine ⟨_, rfl, pr, _, rfl, s1.seq hR, fun t g1 => ?_⟩
    have s2 : Same H (upd H1 t (.tup (nats row))) := s1.trans (same_new g1)
    refine ⟨_, rfl, p, _, _, _, _, rfl, s2 _ _ hp, T.c_Platform, T.n_Platform_salt, rfl, natsD row, natsD a.salt, nats_dp (SqT.of upd_same), nats_dp (same_seqT s2 hq0), nats_shaped _, nats_shaped _, _, rfl, ?_⟩
    rw [nats_eqv]
    by_cases c1 : row = a.salt
    · rw [decide_eq_true c1]
      rw [if_pos (.inr c1.symm)] at hst
      exact iteT (iteT ⟨_, rfl, le1, fun q hq => k.new R hT s2 (res := .value (-17)) hst rfl hq⟩)
    rw [decide_eq_false c1]
    clear g1
    generalize upd H1 t (.tup (nats row)) = H2 at s2 ⊢
    refine iteF ⟨_, rfl, pr, _, rfl, s2.seq hR, fun t2 g2 => ?_⟩
    have s3 : Same H (upd H2 t2 (.tup (nats row))) := s2.trans (same_new g2)
    have ht2 : SqT K (upd H2 t2 (.tup (nats row))) t2 (nats row) := SqT.of upd_same
    clear g2
    generalize upd H2 t2 (.tup (nats row)) = H3 at s3 ht2 ⊢
    refine ⟨_, rfl, p, _, _, _, _, rfl, s3 _ _ hp, T.c_Platform, T.n_Platform_layers, rfl, c.ls, rfl, ⟨vl, SqL.of (s3 _ _ hls)⟩, fun D hD => ?_⟩
    refine lc_it (walk_list (K := K) (a := c.ls) (xs := vl)) (fun i H4 => Same H3 H4 ∧ ∃ ys, H4 D = some (.lst ys) ∧ Each (fun (x : V) (l : Kex2.Layer) => ∃ t, x = .ref t ∧ SqT K H4 t (nats l.salt)) ys (a.layers.take i)) ⟨same_new hD, [], upd_same, .nil⟩ (fun i H4 _ p => p.1.seq (SqL.of (s3 _ _ hls))) ?_ ?_
    · rintro i x H4 H5 hi ⟨s4, ys, hD4, hE⟩ ⟨rfl, hx⟩
      obtain ⟨l, hl, la, lx, lp, lo, rfl, hla, hlp, _⟩ := hL.left hx
      have s34 := s3.trans s4
      refine ⟨rfl, _, rfl, la, _, _, _, _, rfl, s34 _ _ hla, T.c_Layer, T.n_Layer_salt, rfl, _, hD4, ?_, same_upd s4 hD, _, upd_same, ?_⟩
      · rw [hE.len, List.length_take]
        exact Nat.lt_of_le_of_lt (show _ ≤ 4 by have := W.nl; omega) (by decide)
      · rw [take_snoc hl]
        exact (hE.mono fun x l ⟨t, e, h⟩ => ⟨t, e, sqT_updL hD4 h⟩).snoc ⟨lp, rfl, sqT_updL hD4 (same_seqT s34 hlp)⟩
    rintro H4 ⟨s4, ys, hD4, hE⟩
    rw [List.take_of_length_le (by rw [hL.len]; exact Nat.le_refl _)] at hE
    have s34 := s3.trans s4
    refine ⟨natsD row, saltsD a.layers, nats_dp (same_seqT s4 ht2), .lst (SqL.of hD4) (salts_dp hE), nats_shaped _, salts_shaped _, _, rfl, ?_⟩
    rw [salts_any]
    cases c2 : a.layers.any (fun l => l.salt == row) with
    | true =>
      rw [if_pos (.inl c2)] at hst
      exact iteT ⟨_, rfl, le1, fun q hq => k.new R hT s34 (res := .value (-17)) hst rfl hq⟩
    | false =>
      rw [if_neg (fun z => z.elim (fun z => by rw [c2] at z; cases z) (fun z => c1 z.symm))] at hst
      refine iteF ⟨_, rfl, p, _, _, _, _, rfl, s34 _ _ hp, T.c_Platform, T.n_Platform_layers, rfl, c.ls, vl, rfl, .inl (SqL.of (s34 _ _ hls)), _, _, rfl, rfl, _, rfl, ?_⟩
      rw [hL.len]
      have h4 := W.nl
      by_cases c3 : a.layers.length = 4
      · rw [if_pos (show Kex2.maxLayers ≤ a.layers.length by show 4 ≤ _; omega)] at hst
        exact (if_pos (decide_eq_true (show ((a.layers.length : Nat) : Int) = 4 by omega))).mpr ⟨_, rfl, le1, fun q hq => k.new R hT s34 (res := .value (-28)) hst rfl hq⟩
      · rw [if_neg (show ¬ Kex2.maxLayers ≤ a.layers.length by show ¬ 4 ≤ _; omega)] at hst
        -- the layer
        refine (if_neg (no_of (show ¬ ((a.layers.length : Nat) : Int) = 4 by omega))).mpr ⟨_, rfl, p, _, _, _, _, rfl, s34 _ _ hp, T.c_Platform, T.n_Platform_layers, rfl, .inl ⟨rfl, _, SqL.of (s34 _ _ hls)⟩, _, rfl, pr, _, rfl, s34.seq hR, fun t3 g3 => ?_⟩
        have s5 : Same H (upd H4 t3 (.tup (nats row))) := s34.trans (same_new g3)
        have ht3 : upd H4 t3 (.tup (nats row)) t3 = some (.tup (nats row)) := upd_same
        clear g3
        generalize upd H4 t3 (.tup (nats row)) = H5 at s5 ht3 ⊢
        intro x dx2 nx ndx hne
        have n3x : t3 ≠ x := ne_of_none ht3 nx
        have n3d : t3 ≠ dx2 := ne_of_none ht3 ndx
        refine ⟨x, t3, dx2, row, rfl, upd_same, .inl (.inl (by rw [upd_ne n3x, upd_ne n3d]; exact ht3)), fun H6 q e6 hx6 hO6 => ⟨rfl, ?_⟩⟩
        have s6 : Same H5 H6 := Same.made nx ndx fun b o h n => e6 b o n h
        have s56 := s5.trans s6
        have hx0 : H x = none := by
          cases q : H x with
          | none => rfl
          | some o => rw [s5 _ _ q] at nx; cases nx
        have hls6 := s56 _ _ hls
        have hE6 : Each (LayR K H6) (vl ++ [.ref x]) (a.layers ++ [⟨row, List.replicate 100 0⟩]) := (hL.mono fun _ _ h => h.keep (.same s56)).snoc ⟨x, dx2, t3, q, rfl, hx6, .inl (.inl (s6 _ _ ht3)), hO6⟩
        have hD6 : Dst (vl ++ [.ref x]) := hDl.snoc fun b eb => by cases eb; exact lay_fresh hL hx0
        have R7 := (R.same s56).ls_set hls6 (by rw [hL.len]; exact h4) hE6 hD6
        refine ⟨c.ls, vl, _, rfl, rfl, hls6, by rw [hL.len]; exact Nat.lt_of_le_of_lt h4 (by decide), ?_⟩
        have hp6 := s56 _ _ hp
        have npl : p ≠ c.ls := fun z => by rw [z, hls] at hp; cases hp
        refine ⟨_, rfl, p, _, _, _, _, rfl, by rw [upd_ne npl]; exact hp6, T.c_Platform, T.n_Platform_layers, rfl, c.ls, _, rfl, .inl (SqL.of upd_same), _, _, rfl, rfl, le1, fun q2 hq2 => ?_⟩
        refine k.mut ((Fr.same s56).trans .at_ls) (tabs_lst (hT.ext s56) hls6) R7 hst ?_ hq2
        have e9 : ((vl ++ [V.ref x]).length : Int) - 1 = ((a.layers.length : Nat) : Int) := by
          rw [List.length_append, hL.len]
          show ((a.layers.length + 1 : Nat) : Int) - 1 = _
          omega
        exact congrArg (fun z => [V.int z]) e9
theorem sc_call_remove_experiment : FnScope ["own", "numbers", "row", "freed"] ["own", "numbers", "row"] (defScope s_call_remove_experiment) := ⟨rfl, rfl, rfl, by decide +kernel, rfl, by decide +kernel, by decide +kernel⟩
theorem h_remove_experiment (T : Txt K mg) : Held P w K mg base 3 (He.ga K "call_remove_experiment") (spDeed P w K 1 fun n _ => .removeExperiment (n.getD 0 0)) := by
  refine held_of (ps := ["own", "numbers", "row"]) T.d_call_remove_experiment sc_call_remove_experiment (fun vs H Q E h => by obtain ⟨_, _, _, _, _, _, _, rfl, _⟩ := h; rfl) (fun _ _ _ _ _ _ us hl => match us, hl with | [_, _, _], _ => rfl) (fun cdv A outer s H vs Q E hr h => ?_)
  have nd := sc_call_remove_experiment.nd
  have hr1 : Room 1 _ := hr.mono (by decide)
  refine ⟨_, pss_cons (ps_if (pt_not (pt_val (pe_methH (h_has T) hr1 T.c_Platform T.m_Platform_has_experiment (pv 0) (pa_cons (pe_ix ix_list (pv 1) pe_int (fun _ _ => rfl)) pa_nil)))) (pss_one (ps_ret (pe_lst (pa_cons (pe_un un_neg pe_int) pa_nil)))) pss_nil)
    (pss_cons (ps_set (i := 3) nd rfl (Or.inl rfl) (pe_fld (pe_ix ix_list (pe_fld (pv 0) rfl) (pe_ix ix_list (pv 1) pe_int (fun _ _ => rfl)) (fun _ _ => rfl)) rfl))
    (pss_cons (ps_expr (pe_methH (h_remove T) hr T.c_Platform T.m_Platform_remove (pv 0) (pa_cons (pe_ix ix_list (pv 1) pe_int (fun _ _ => rfl)) pa_nil)))
    (pss_one (ps_ret (pe_lst (pa_cons (pv 3) pa_nil)))))), ?_⟩
  obtain ⟨p, pn, pr, c, a, nums, row, rfl, R, W, hN, hn, hR, hrow, hT, k⟩ := h
  obtain ⟨n0, rfl⟩ := one_of hn
  obtain ⟨dx, q0, hp, hq0⟩ := id R.pl
  obtain ⟨vs, he, hE, _⟩ := id R.es
  refine ⟨_, rfl, p, dx, _, rfl, hp, rfl, _, rfl, pn, _, _, _, rfl, rfl, hN, rfl, p, c, a, n0, rfl, R, _, rfl, ?_⟩
  cases h : experimentAt a n0 with
  | none => exact iteT ⟨_, rfl, le1, fun q hq => k.new R hT (Same.refl H) (res := .value (-2)) (step_none h).2.2.1 rfl hq⟩
  | some x =>
    obtain ⟨y, hy, b, bx, bp, rfl, hb, hbp⟩ := hE.right (exp_at.mp h)
    obtain ⟨l, hl⟩ := lay_of (W.exp n0 x h).1
    refine iteF ⟨_, rfl, p, _, _, _, _, rfl, hp, T.c_Platform, T.n_Platform_experiments, rfl, _, rfl, pn, _, _, _, rfl, rfl, hN, rfl, c.es, vs, _, _, rfl, rfl, SqL.of he, atI_nat hy, b, _, _, _, _, rfl, hb, T.c_Experiment, T.n_Experiment_traffic, rfl, ?_⟩
    refine ⟨_, rfl, p, dx, _, rfl, hp, rfl, _, rfl, pn, _, _, _, rfl, rfl, hN, rfl, p, c, a, n0, x, l, rfl, R, W, h, hl, hT, fun H1 c1 F1 T1 R1 => ?_⟩
    exact ⟨_, rfl, le1, fun q hq => k.mut F1 T1 R1 (step_rem W h hl) rfl hq⟩
end
end Vb

set_option Elab.async false
set_option linter.all false
set_option maxRecDepth 100000
set_option maxHeartbeats 4000000
/-! Calls that write: experiments. -/
namespace Vb
open PySem PySem.Spec PyProof.Rows L2
open LamX (ExtN Tabs TabB)
open Kex2 (experimentAt)
def changedA (a : Kex2.Assigner) (i : Nat) (x : Kex2.Experiment) (l : Kex2.Layer) (t : Nat) (ws : List Nat) : Kex2.Assigner :=
  { a with layers := a.layers.set x.layer { l with owners := Kex2.reallocate l.owners i (Kex2.targets t ws) }, experiments := a.experiments.set i (some { x with traffic := t, weights := ws }) }
theorem chg_owners {a : Kex2.Assigner} {i t : Nat} {x : Kex2.Experiment} {l : Kex2.Layer} {ws : List Nat} (hl : a.layers[x.layer]? = some l) : Kex2.changedOwners a i x t ws = if (idxs l.owners 0).length + x.traffic < t then none else some (Kex2.reallocate l.owners i (Kex2.targets t ws)) := by
  unfold Kex2.changedOwners
  rw [(lay_get hl).1]
  show (if Kex2.countOwner l.owners 0 + x.traffic < t then none else some _) = _
  rw [count_idxs]
theorem chg_is {a : Kex2.Assigner} {i t : Nat} {x : Kex2.Experiment} {l : Kex2.Layer} {ws : List Nat} (hl : a.layers[x.layer]? = some l) : Kex2.change a i x t ws = if (idxs l.owners 0).length + x.traffic < t then (some a, .value (-33)) else (some (changedA a i x l t ws), .value (Kex2.movedCount l.owners (Kex2.reallocate l.owners i (Kex2.targets t ws)) : Nat)) := by
  unfold Kex2.change
  rw [chg_owners hl]
  by_cases h : (idxs l.owners 0).length + x.traffic < t
  · rw [if_pos h, if_pos h]
  · rw [if_neg h, if_neg h, (lay_get hl).1]
    unfold changedA Kex2.withOwners
    have e3 : a.layers.modify x.layer (fun l' => { l' with owners := Kex2.reallocate l.owners i (Kex2.targets t ws) }) = a.layers.set x.layer { l with owners := Kex2.reallocate l.owners i (Kex2.targets t ws) } := modify_set (fun l' => { l' with owners := Kex2.reallocate l.owners i (Kex2.targets t ws) }) hl
    rw [← e3]
theorem pre_is {a : Kex2.Assigner} {i t : Nat} {x : Kex2.Experiment} {l : Kex2.Layer} {ws : List Nat} (hl : a.layers[x.layer]? = some l) : Kex2.preview a i x t ws = if (idxs l.owners 0).length + x.traffic < t then .value (-33) else .value (Kex2.movedCount l.owners (Kex2.reallocate l.owners i (Kex2.targets t ws)) : Nat) := by
  unfold Kex2.preview
  rw [chg_owners hl]
  by_cases h : (idxs l.owners 0).length + x.traffic < t
  · rw [if_pos h, if_pos h]
  · rw [if_neg h, if_neg h, (lay_get hl).1]
def rqT (real : Bool) (i t : Nat) : Kex2.Request := if real = true then .setTraffic i t else .previewTraffic i t
def rqW (real : Bool) (i : Nat) (ws : List Nat) : Kex2.Request := if real = true then .setWeights i ws else .previewWeights i ws
def outA (real : Bool) (a b : Kex2.Assigner) : Kex2.Assigner := if real = true then b else a
theorem step_T {a : Kex2.Assigner} {i t : Nat} {x : Kex2.Experiment} {l : Kex2.Layer} (real : Bool) (hx : experimentAt a i = some x) (hl : a.layers[x.layer]? = some l) : Kex2.step (some a) (rqT real i t) = (if Kex2.bucketCount < t then (some a, .value (-22)) else if (idxs l.owners 0).length + x.traffic < t then (some a, .value (-33)) else
    (some (outA real a (changedA a i x l t x.weights)), .value (Kex2.movedCount l.owners (Kex2.reallocate l.owners i (Kex2.targets t x.weights)) : Nat))) := by
  unfold rqT outA
  cases real
  · rw [if_neg Bool.false_ne_true, if_neg Bool.false_ne_true]
    simp only [Kex2.step, hx]
    rw [pre_is hl]
    split
    · rfl
    · split <;> rfl
  · rw [if_pos rfl, if_pos rfl]
    simp only [Kex2.step, hx]
    rw [chg_is hl]
theorem step_W {a : Kex2.Assigner} {i : Nat} {ws : List Nat} {x : Kex2.Experiment} {l : Kex2.Layer} (real : Bool) (hx : experimentAt a i = some x) (hl : a.layers[x.layer]? = some l) : Kex2.step (some a) (rqW real i ws) = (if Kex2.areWeights ws = false ∨ ws.length ≠ x.weights.length then (some a, .value (-22)) else
    (some (outA real a (changedA a i x l x.traffic ws)), .value (Kex2.movedCount l.owners (Kex2.reallocate l.owners i (Kex2.targets x.traffic ws)) : Nat))) := by
  have e : ¬ (idxs l.owners 0).length + x.traffic < x.traffic := by omega
  unfold rqW outA
  cases real
  · rw [if_neg Bool.false_ne_true, if_neg Bool.false_ne_true]
    simp only [Kex2.step, hx]
    rw [pre_is hl, if_neg e]
    split <;> rfl
  · rw [if_pos rfl, if_pos rfl]
    simp only [Kex2.step, hx]
    rw [chg_is hl, if_neg e]
theorem wts_of {ws : List Nat} (h : Kex2.areWeights ws = true) : Wts ws := by
  unfold Kex2.areWeights at h
  simp only [Bool.and_eq_true, decide_eq_true_eq, List.all_eq_true] at h
  exact ⟨h.1.1, h.1.2, fun x hx => h.2 x hx⟩
theorem step_addE {a : Kex2.Assigner} {i t : Nat} {ws : List Nat} {l : Kex2.Layer} (hl : a.layers[i]? = some l) : Kex2.step (some a) (.addExperiment i t ws) = (if Kex2.bucketCount < t ∨ Kex2.areWeights ws = false then (some a, .value (-22)) else if Kex2.maxExperiments ≤ a.experiments.length then (some a, .value (-28))
    else if (idxs l.owners 0).length < t then (some a, .value (-33))
    else (some { a with layers := a.layers.set i { l with owners := Kex2.reallocate l.owners a.experiments.length (Kex2.targets t ws) }, experiments := a.experiments ++ [some ⟨i, t, ws⟩] }, .value (a.experiments.length : Nat))) := by
  have hi := (List.getElem?_eq_some_iff.mp hl).1
  show (if a.layers.length ≤ i then _ else _) = _
  rw [if_neg (by omega), (lay_get hl).1, count_idxs]
  unfold Kex2.withOwners
  have e3 : a.layers.modify i (fun l' => { l' with owners := Kex2.reallocate l.owners a.experiments.length (Kex2.targets t ws) }) = a.layers.set i { l with owners := Kex2.reallocate l.owners a.experiments.length (Kex2.targets t ws) } := modify_set (fun l' => { l' with owners := Kex2.reallocate l.owners a.experiments.length (Kex2.targets t ws) }) hl
  rw [← e3]
section
variable {P : Program} {w : World} {K : PySem.W.Frag} {H H' : Hp} {p : Addr} {c : Loc} {a : Kex2.Assigner}
/-- an experiment's object is written -/
theorem Rep.set_exp {vs : List V} {n : Nat} {b bx bp bq : Addr} {x x' : Kex2.Experiment} (R : Rep P w K H p c a) (hv : H c.es = some (.lst vs)) (hi : vs[n]? = some (.ref b)) (hx : experimentAt a n = some x) (hb : H b = some (.ins (He.ga K "Experiment") bx (expF (nI x.layer) (nI x.traffic) (.ref bp)))) (hq : SqT K H bq (nats x'.weights)) :
    Rep P w K (upd H b (.ins (He.ga K "Experiment") bx (expF (nI x'.layer) (nI x'.traffic) (.ref bq)))) p c { a with experiments := a.experiments.set n (some x') } := by
  refine R.ins_set hb rfl ⟨rfl, rfl, rfl, rfl⟩ (fun vs _ e _ => e.mono fun v y r => ?_) (fun vs' h e d => ?_) fun vs _ e _ => e.mono fun v y r => ?_
  · refine r.upd (fun z => ?_) hb
    obtain ⟨b', _, _, _, e1, e2, _⟩ := r
    rw [z] at e1
    cases e1
    rw [hb] at e2
    exact fs_ne (by decide) (HO.ins.inj (Option.some.inj e2)).2.2
  · obtain rfl : vs = vs' := by rw [hv] at h; cases h; rfl
    exact each_set (G := ExpR K (upd H b _)) e d hi ⟨b, bx, bq, rfl, upd_same, sqT_keep (.upd hb rfl) hq⟩ fun v y r n => r.upd n hb
  · refine r.upd (fun z => ?_) hb
    obtain ⟨b', _, _, e1, e2, _⟩ := r
    rw [z] at e1
    cases e1
    rw [hb] at e2
    exact fs_ne (by decide) (HO.ins.inj (Option.some.inj e2)).2.2
theorem seq_upd {x y : Addr} {xs ys : List V} {o : HO} (h : SqL K H x xs) (hy : H y = some (.lst ys)) (n : H x = some (.lst xs) → x ≠ y) : SqL K (upd H y o) x xs := by
  rcases h with (h | ⟨ob, h⟩) | h
  · exact .inl (.inl (by rw [upd_ne (n h)]; exact h))
  · exact .inl (.inr ⟨ob, by rw [upd_ne (fun z => by rw [z, hy] at h; cases h)]; exact h⟩)
  · exact .inr h
theorem row_ne {x y : Addr} {vs : List V} {l : List (Option Kex2.Experiment)} {row : List Nat} (e : Each (ExpR K H') vs l) (hy : H y = some (.lst vs)) (hr : row ≠ []) : H x = some (.lst (nats row)) → x ≠ y := fun h z => by
  rw [z, hy] at h
  cases h
  cases row with
  | nil => exact hr rfl
  | cons n r =>
    obtain ⟨o, _, q⟩ := e.left (i := 0) (x := nI n) rfl
    cases o with
    | none => cases q
    | some o =>
      obtain ⟨_, _, _, z, _⟩ := q
      cases z
end
end Vb

set_option Elab.async false
set_option linter.all false
set_option maxRecDepth 100000
set_option maxHeartbeats 4000000
/-! change, new_traffic, new_weights and their calls. -/
namespace Vb
open PySem PySem.Spec PyProof.Rows L2
open LamX (ExtN Tabs TabB)
open Kex2 (experimentAt)
theorem ownM_ext {K : PySem.W.Frag} {H H' : Hp} {q : Addr} {os : List Nat} (e : ExtN H H') (h : OwnM K H q os) : OwnM K H' q os := ownM_keep (.ext e) h
theorem set_set' {α : Type} {l : List α} {i : Nat} {x y : α} : (l.set i x).set i y = l.set i y := by simp
def spChange (P : Program) (w : World) (K : PySem.W.Frag) : Sp := fun vs H Q _ => ∃ (p wt : Addr) (c : Loc) (a : Kex2.Assigner) (n t : Nat) (ws : List Nat) (real : Bool) (x : Kex2.Experiment) (l : Kex2.Layer), vs = [.ref p, nI n, nI t, .ref wt, .bl real] ∧ Rep P w K H p c a ∧ Wf a ∧
  experimentAt a n = some x ∧ a.layers[x.layer]? = some l ∧ SqT K H wt (nats ws) ∧ Wts ws ∧ ws.length = x.weights.length ∧ t ≤ 100 ∧ ¬ (idxs l.owners 0).length + x.traffic < t ∧ Tabs (tT K) H ∧
  ∀ H' q, Away H c q → Fr H c H' c → Tabs (tT K) H' → Rep P w K H' p c (outA real a (changedA a n x l t ws)) → H' q = some (.lst [nI (Kex2.movedCount l.owners (Kex2.reallocate l.owners n (Kex2.targets t ws)))]) → Q (.ref q) H'
def spNewT (P : Program) (w : World) (K : PySem.W.Frag) : Sp := fun vs H Q _ => ∃ (p pn : Addr) (c : Loc) (a : Kex2.Assigner) (nums : List Nat) (real : Bool), vs = [.ref p, .ref pn, .bl real] ∧ Rep P w K H p c a ∧ Wf a ∧ SqL K H pn (nats nums) ∧ nums.length = 2 ∧ Tabs (tT K) H ∧ KD P w K H p c a (rqT real (nums.getD 0 0) (nums.getD 1 0)) Q
def spNewW (P : Program) (w : World) (K : PySem.W.Frag) : Sp := fun vs H Q _ => ∃ (p pr : Addr) (c : Loc) (a : Kex2.Assigner) (n : Nat) (row : List Nat) (real : Bool), vs = [.ref p, nI n, .ref pr, .bl real] ∧ Rep P w K H p c a ∧ Wf a ∧ SqL K H pr (nats row) ∧ Tabs (tT K) H ∧ KD P w K H p c a (rqW real n row) Q
section
variable {P : Program} {w : World} {K : PySem.W.Frag} {mg : Str → Option Value} {base : Heap}
theorem sc_change : FnScope ["own", "number", "traffic", "weights", "is_real", "layer", "later", "count"] ["own", "number", "traffic", "weights", "is_real"] (defScope s_change) := ⟨rfl, rfl, rfl, by decide +kernel, rfl, by decide +kernel, by decide +kernel⟩
theorem h_change (T : Txt K mg) (TK : TabK base mg K) : Held P w K mg base 7 (He.ga K "change") (spChange P w K) := by
  refine held_of (ps := ["own", "number", "traffic", "weights", "is_real"]) T.d_change sc_change (fun vs H Q E h => by obtain ⟨_, _, _, _, _, _, _, _, _, _, rfl, _⟩ := h; rfl) (fun _ _ _ _ _ _ us hl => match us, hl with | [_, _, _, _, _], _ => rfl) (fun cdv A outer s H vs Q E hr h => ?_)
  have nd := sc_change.nd
  have hr1 : Room 1 _ := hr.mono (by decide)
  have hr3 : Room 3 _ := hr.mono (by decide)
  refine ⟨_, pss_cons (ps_set (i := 5) nd rfl (Or.inl rfl) (pe_methH (h_layer_of T) hr1 T.c_Platform T.m_Platform_layer_of (pv 0) (pa_cons (pv 1) pa_nil)))
    (pss_cons (ps_set (i := 6) nd rfl (Or.inl rfl) (pe_callH (h_reallocated T) hr3 T.g_reallocated (pa_cons (pe_fld (pv 5) rfl) (pa_cons (pv 1) (pa_cons (pe_callH (h_targets_of T TK) hr T.g_targets_of (pa_cons (pv 2) (pa_cons (pv 3) pa_nil))) pa_nil)))))
    (pss_cons (ps_set (i := 7) nd rfl (Or.inl rfl) (pe_callH (h_moved T) hr1 T.g_moved (pa_cons (pe_fld (pv 5) rfl) (pa_cons (pv 6) pa_nil))))
    (pss_cons (ps_if (pt_val (pv 4)) (pss_cons (ps_fld (pv 5) (pv 6) rfl) (pss_cons (ps_fld (pe_ix ix_list (pe_fld (pv 0) rfl) (pv 1) (fun _ _ => rfl)) (pv 2) rfl) (pss_one (ps_fld (pe_ix ix_list (pe_fld (pv 0) rfl) (pv 1) (fun _ _ => rfl)) (pv 3) rfl)))) pss_nil)
    (pss_one (ps_ret (pe_lst (pa_cons (pv 7) pa_nil))))))), ?_⟩
  obtain ⟨p, wt, c, a, n, t, ws, real, x, l, rfl, R, W, hx, hl, hwt, hW, hwl, ht, hfree, hT, k⟩ := h
  obtain ⟨dx, q0, hp, hq0⟩ := id R.pl
  obtain ⟨xl, xW, xt, xs⟩ := W.exp n x hx
  refine ⟨_, rfl, p, dx, _, rfl, hp, rfl, _, rfl, p, c, a, n, x, l, rfl, R, hx, hl, fun z vl hvl hz hzr => ?_⟩
  obtain ⟨la, lx, lp, lo, rfl, hla, hlp, hlo⟩ := hzr
  -- the targets
  refine ⟨_, rfl, la, _, _, _, _, rfl, hla, T.c_Layer, T.n_Layer_owners, rfl, _, rfl, _, rfl, _, rfl, t, wt, ws, rfl, .inr hwt, hW, ht, hT, fun H1 G e1 T1 hG hG1 => ?_⟩
  have hlen := targets_len t ws
  have hsum : (Kex2.targets t ws).sum ≤ ownSum l.owners n (Kex2.targets t ws).length + (idxs l.owners 0).length := by
    rw [targets_sum hW.pos, hlen, hwl, xs l hl]
    omega
  obtain ⟨f1, f2, f3⟩ := realloc_of W hl (exp_lt W hx) (by rw [hlen]; exact hW.2.1) hsum
  have hlo1 := ownM_ext e1 hlo
  refine ⟨lo, G, l.owners, n, _, rfl, hlo1.l, SqL.of hG1, by rw [hlen]; exact hW.2.1, f1, fun H2 q s2 hq hq2 => ?_⟩
  rw [← f2] at hq2
  have e2 : ExtN H H2 := e1.trans (.of s2)
  have T2 := T1.ext s2
  have hla2 := s2 _ _ (e1 _ _ hla fun ps z => by cases z)
  have hlo2 : OwnM K H2 lo l.owners := ownM_ext (.of s2) hlo1
  -- moved
  refine ⟨_, rfl, la, _, _, _, _, rfl, hla2, T.c_Layer, T.n_Layer_owners, rfl, _, rfl, lo, q, l.owners, _, rfl, hlo2.l, hq2.l, fun H3 s3 => ?_⟩
  have e3 : ExtN H H3 := e2.trans (.of s3)
  have T3 := T2.ext s3
  have R3 := R.ext e3
  have hla3 := s3 _ _ hla2
  have hq3 : OwnM K H3 q _ := ownM_ext (.of s3) hq2
  refine ⟨_, rfl, _, rfl, ?_⟩
  cases real with
  | false => exact iteF ⟨_, rfl, le1, fun r hr0 => k _ r (.fr (.ext e3) hr0) (.ext (e3.trans (.of (same_new hr0)))) (T3.ext (same_new hr0)) (R3.same (same_new hr0)) upd_same⟩
  | true =>
    refine iteT ?_
    have hvl3 := e3 _ _ hvl fun ps z => by cases z
    have hlp3 : SqT K H3 lp (nats l.salt) := seqTN e3 hlp
    have hwt3 : SqT K H3 wt (nats ws) := seqTN e3 hwt
    have R4 := R3.set_own hvl3 hz hl hla3 hlp3 hq3
    have T4 := tabs_ins (o := .ins (He.ga K "Layer") lx (layF (.ref lp) (nI (sltd l.salt)) (.ref q))) T3 hla3
    have F4 : Fr H c _ c := (Fr.ext e3).trans (.upd (o := .ins (He.ga K "Layer") lx (layF (.ref lp) (nI (sltd l.salt)) (.ref q))) hla3 rfl)
    have hw4 : SqT K (upd H3 la (.ins (He.ga K "Layer") lx (layF (.ref lp) (nI (sltd l.salt)) (.ref q)))) wt (nats ws) := sqT_keep (.upd hla3 rfl) hwt3
    refine ⟨_, rfl, _, rfl, la, _, _, _, rfl, hla3, T.c_Layer, T.n_Layer_owners, by show 3 < 1000; decide, ?_⟩
    refine absH (Pr := fun H4 => Rep P w K H4 p c { a with layers := a.layers.set x.layer { l with owners := Kex2.reallocate l.owners n (Kex2.targets t ws) } } ∧ Tabs (tT K) H4 ∧ Fr H c H4 c ∧ SqT K H4 wt (nats ws)) ⟨R4, T4, F4, hw4⟩ ?_
    clear R4 T4 F4 hw4 hwt3 hlp3 hvl3 hq3 hla3 R3 T3 e3 s3
    clear H3
    rintro H4 ⟨R4, T4, F4, hw4⟩
    obtain ⟨dx4, q4, hp4, _⟩ := id R4.pl
    obtain ⟨vs, he, hE, _⟩ := id R4.es
    have hE : Each (ExpR K H4) vs a.experiments := hE
    obtain ⟨y, hy, b, bx, bp, rfl, hb, hbp⟩ := hE.right (exp_at.mp hx)
    have R5 := R4.set_exp (x := x) (x' := { x with traffic := t }) he hy hx hb hbp
    have T5 := tabs_ins (o := .ins (He.ga K "Experiment") bx (expF (nI x.layer) (nI t) (.ref bp))) T4 hb
    have F5 : Fr H c _ c := F4.trans (.upd (o := .ins (He.ga K "Experiment") bx (expF (nI x.layer) (nI t) (.ref bp))) hb rfl)
    have hw5 : SqT K (upd H4 b (.ins (He.ga K "Experiment") bx (expF (nI x.layer) (nI t) (.ref bp)))) wt (nats ws) := sqT_keep (.upd hb rfl) hw4
    have he5 : upd H4 b (.ins (He.ga K "Experiment") bx (expF (nI x.layer) (nI t) (.ref bp))) c.es = some (.lst vs) := by rw [upd_ne (fun z => by rw [z, hb] at he; cases he)]; exact he
    have npb : p ≠ b := fun z => by rw [z, hb] at hp4; exact fs_ne (by decide) (HO.ins.inj (Option.some.inj hp4)).2.2
    have hp5 : upd H4 b (.ins (He.ga K "Experiment") bx (expF (nI x.layer) (nI t) (.ref bp))) p = _ := (upd_ne npb).trans hp4
    refine ⟨_, rfl, _, rfl, p, _, _, _, _, rfl, hp4, T.c_Platform, T.n_Platform_experiments, rfl, _, rfl, c.es, vs, _, _, rfl, rfl, SqL.of he, atI_nat hy, b, _, _, _, rfl, hb, T.c_Experiment, T.n_Experiment_traffic, by show 3 < 1000; decide, ?_⟩
    have hn : n < a.experiments.length := (List.getElem?_eq_some_iff.mp (exp_at.mp hx)).1
    have hx5 : experimentAt { a with layers := a.layers.set x.layer { l with owners := Kex2.reallocate l.owners n (Kex2.targets t ws) }, experiments := a.experiments.set n (some { x with traffic := t }) } n = some { x with traffic := t } := exp_at.mpr (by
      show (a.experiments.set n _)[n]? = _
      rw [List.getElem?_set_self hn])
    have R6 := R5.set_exp (x := { x with traffic := t }) (x' := { x with traffic := t, weights := ws }) he5 hy hx5 upd_same hw5
    have e6 : ({ a with layers := a.layers.set x.layer { l with owners := Kex2.reallocate l.owners n (Kex2.targets t ws) }, experiments := (a.experiments.set n (some { x with traffic := t })).set n (some { x with traffic := t, weights := ws }) } : Kex2.Assigner) = changedA a n x l t ws := by
      unfold changedA
      rw [set_set']
    refine ⟨_, rfl, _, rfl, p, _, _, _, _, rfl, hp5, T.c_Platform, T.n_Platform_experiments, rfl, _, rfl, c.es, vs, _, _, rfl, rfl, SqL.of he5, atI_nat hy, b, _, _, _, rfl, upd_same, T.c_Experiment, T.n_Experiment_weights, by show 3 < 1000; decide, ?_⟩
    have R6 : Rep P w K _ p c (changedA a n x l t ws) := e6 ▸ R6
    refine ⟨_, rfl, le1, fun r hr0 => ?_⟩
    exact k _ r (.fr (F5.trans (.upd upd_same rfl)) hr0) ((F5.trans (.upd upd_same rfl)).trans (.same (same_new hr0))) ((tabs_ins T5 upd_same).ext (same_new hr0)) (R6.same (same_new hr0)) upd_same
end
end Vb

set_option Elab.async false
set_option linter.all false
set_option maxRecDepth 100000
set_option maxHeartbeats 4000000
/-! new_traffic, new_weights, their four calls, add_experiment. -/
namespace Vb
open PySem PySem.Spec PyProof.Rows L2
open LamX (ExtN Tabs TabB)
open Kex2 (experimentAt)
theorem step_T2 {a : Kex2.Assigner} {i t : Nat} (real : Bool) (h : experimentAt a i = none) : Kex2.step (some a) (rqT real i t) = (some a, .value (-2)) := by
  unfold rqT
  cases real
  · exact (step_none h).2.2.2.2.2.1 t
  · exact (step_none h).2.2.2.1 t
theorem step_W2 {a : Kex2.Assigner} {i : Nat} {t : List Nat} (real : Bool) (h : experimentAt a i = none) : Kex2.step (some a) (rqW real i t) = (some a, .value (-2)) := by
  unfold rqW
  cases real
  · exact (step_none h).2.2.2.2.2.2.1 t
  · exact (step_none h).2.2.2.2.1 t
section
variable {P : Program} {w : World} {K : PySem.W.Frag} {mg : Str → Option Value} {base : Heap}
theorem sc_new_traffic : FnScope ["own", "numbers", "is_real", "number", "traffic", "one"] ["own", "numbers", "is_real"] (defScope s_new_traffic) := ⟨rfl, rfl, rfl, by decide +kernel, rfl, by decide +kernel, by decide +kernel⟩
theorem h_new_traffic (T : Txt K mg) (TK : TabK base mg K) : Held P w K mg base 8 (He.ga K "new_traffic") (spNewT P w K) := by
  refine held_of (ps := ["own", "numbers", "is_real"]) T.d_new_traffic sc_new_traffic (fun vs H Q E h => by obtain ⟨_, _, _, _, _, _, rfl, _⟩ := h; rfl) (fun _ _ _ _ _ _ us hl => match us, hl with | [_, _, _], _ => rfl) (fun cdv A outer s H vs Q E hr h => ?_)
  have nd := sc_new_traffic.nd
  have hr1 : Room 1 _ := hr.mono (by decide)
  refine ⟨_, pss_cons (ps_asg (pv 1) (pg_unl rfl (pgs_cons (pg_name (i := 3) nd rfl (Or.inl rfl)) (pgs_cons (pg_name (i := 4) nd rfl (Or.inl rfl)) pgs_nil))))
    (pss_cons (ps_if (pt_not (pt_val (pe_methH (h_has T) hr1 T.c_Platform T.m_Platform_has_experiment (pv 0) (pa_cons (pv 3) pa_nil)))) (pss_one (ps_ret (pe_lst (pa_cons (pe_un un_neg pe_int) pa_nil)))) pss_nil)
    (pss_cons (ps_if (pt_cmpR op_gt (pv 4) (pe_gi T.i_MOST_TRAFFIC) (nomark _)) (pss_one (ps_ret (pe_lst (pa_cons (pe_un un_neg pe_int) pa_nil)))) pss_nil)
    (pss_cons (ps_set (i := 5) nd rfl (Or.inl rfl) (pe_ix ix_list (pe_fld (pv 0) rfl) (pv 3) (fun _ _ => rfl)))
    (pss_cons (ps_if (pt_cmpR op_lt (pe_op op_addN (pe_callB call_len_seq (by rfl) T.f_len PySem.boot_len (pa_cons (pe_callH (h_owned_by T) hr1 T.g_owned_by (pa_cons (pe_fld (pe_methH (h_layer_of T) hr1 T.c_Platform T.m_Platform_layer_of (pv 0) (pa_cons (pv 3) pa_nil)) rfl) (pa_cons (pe_gr T.g_FREE) pa_nil))) pa_nil)) (pe_fld (pv 5) rfl)) (pv 4) (nomark _))
      (pss_one (ps_ret (pe_lst (pa_cons (pe_un un_neg pe_int) pa_nil)))) pss_nil)
    (pss_one (ps_ret (pe_callH (h_change T TK) hr T.g_change (pa_cons (pv 0) (pa_cons (pv 3) (pa_cons (pv 4) (pa_cons (pe_fld (pv 5) rfl) (pa_cons (pv 2) pa_nil))))))))))))
    , ?_⟩
  obtain ⟨p, pn, c, a, nums, real, rfl, R, W, hN, hn, hT, k⟩ := h
  obtain ⟨n0, n1, rfl⟩ := two_of hn
  obtain ⟨dx, q0, hp, hq0⟩ := id R.pl
  obtain ⟨vs, he, hE, _⟩ := id R.es
  refine ⟨_, rfl, pn, _, rfl, hN, rfl, ?_⟩
  refine ⟨_, _, rfl, _, _, rfl, rfl, ?_⟩
  refine ⟨_, rfl, p, dx, _, rfl, hp, rfl, _, rfl, p, c, a, n0, rfl, R, _, rfl, ?_⟩
  cases h : experimentAt a n0 with
  | none => exact iteT ⟨_, rfl, le1, fun q hq => k.new R hT (Same.refl H) (res := .value (-2)) (step_T2 real h) rfl hq⟩
  | some x =>
    obtain ⟨y, hy, b, bx, bp, rfl, hb, hbp⟩ := hE.right (exp_at.mp h)
    obtain ⟨xl, xW, xt, xs⟩ := W.exp n0 x h
    obtain ⟨l, hl⟩ := lay_of xl
    have hst : Kex2.step (some a) (rqT real n0 n1) = _ := step_T real h hl
    refine iteF ⟨_, rfl, _, _, rfl, rfl, _, rfl, ?_⟩
    rw [show decide ((100 : Int) < (n1 : Int)) = decide (100 < n1) from dec_lt 100 n1]
    by_cases h1 : 100 < n1
    · rw [decide_eq_true h1]
      rw [if_pos (show Kex2.bucketCount < n1 from h1)] at hst
      exact iteT ⟨_, rfl, le1, fun q hq => k.new R hT (Same.refl H) (res := .value (-22)) hst rfl hq⟩
    rw [decide_eq_false h1]
    rw [if_neg (show ¬ Kex2.bucketCount < n1 from h1)] at hst
    refine iteF ⟨_, rfl, p, _, _, _, _, rfl, hp, T.c_Platform, T.n_Platform_experiments, rfl, _, rfl, c.es, vs, _, _, rfl, rfl, SqL.of he, atI_nat hy, ?_⟩
    refine ⟨_, rfl, p, dx, _, rfl, hp, rfl, _, rfl, p, c, a, n0, x, l, rfl, R, h, hl, fun z vl hvl hz hzr => ?_⟩
    obtain ⟨la, lx, lp, lo, rfl, hla, hlp, hlo⟩ := hzr
    refine ⟨la, _, _, _, _, rfl, hla, T.c_Layer, T.n_Layer_owners, rfl, lo, _, l.owners, 0, rfl, hlo.l, T.free_tup _, fun H1 F s1 hF hF1 => ?_⟩
    refine ⟨F, _, rfl, .inl (SqL.of hF1), _, rfl, b, _, _, _, _, rfl, s1 _ _ hb, T.c_Experiment, T.n_Experiment_traffic, rfl, _, _, rfl, rfl, _, rfl, _, _, rfl, rfl, _, rfl, ?_⟩
    rw [nats_len, dec_lt]
    by_cases h2 : (idxs l.owners 0).length + x.traffic < n1
    · rw [decide_eq_true h2]
      rw [if_pos h2] at hst
      exact iteT ⟨_, rfl, le1, fun q hq => k.new R hT s1 (res := .value (-33)) hst rfl hq⟩
    rw [decide_eq_false h2]
    rw [if_neg h2] at hst
    refine iteF ⟨_, rfl, _, rfl, _, rfl, _, rfl, b, _, _, _, _, rfl, s1 _ _ hb, T.c_Experiment, T.n_Experiment_weights, rfl, _, rfl, p, bp, c, a, n0, n1, x.weights, real, x, l, rfl, R.same s1, W, h, hl, same_seqT s1 hbp, xW, rfl, by omega, h2, hT.ext s1, fun H2 q A2 F2 T2 R2 hq => ?_⟩
    exact k H2 q c _ _ (.back (.same s1) A2) ((Fr.same s1).trans F2) T2 R2 hst hq
theorem sc_new_weights : FnScope ["own", "number", "row", "is_real", "one"] ["own", "number", "row", "is_real"] (defScope s_new_weights) := ⟨rfl, rfl, rfl, by decide +kernel, rfl, by decide +kernel, by decide +kernel⟩
theorem h_new_weights (T : Txt K mg) (TK : TabK base mg K) : Held P w K mg base 8 (He.ga K "new_weights") (spNewW P w K) := by
  refine held_of (ps := ["own", "number", "row", "is_real"]) T.d_new_weights sc_new_weights (fun vs H Q E h => by obtain ⟨_, _, _, _, _, _, _, rfl, _⟩ := h; rfl) (fun _ _ _ _ _ _ us hl => match us, hl with | [_, _, _, _], _ => rfl) (fun cdv A outer s H vs Q E hr h => ?_)
  have nd := sc_new_weights.nd
  have hr1 : Room 1 _ := hr.mono (by decide)
  refine ⟨_, pss_cons (ps_if (pt_not (pt_val (pe_methH (h_has T) hr1 T.c_Platform T.m_Platform_has_experiment (pv 0) (pa_cons (pv 1) pa_nil)))) (pss_one (ps_ret (pe_lst (pa_cons (pe_un un_neg pe_int) pa_nil)))) pss_nil)
    (pss_cons (ps_set (i := 4) nd rfl (Or.inl rfl) (pe_ix ix_list (pe_fld (pv 0) rfl) (pv 1) (fun _ _ => rfl)))
    (pss_cons (ps_if (PW.pt (pw_or (pt_not (pt_val (pe_callH (h_are_weights T) hr1 T.g_are_weights (pa_cons (pv 2) pa_nil)))) (pw_or1 (pt_cmp (pc_neI (pe_callB call_len_seq (by rfl) T.f_len PySem.boot_len (pa_cons (pv 2) pa_nil)) (pe_callB call_len_seq (by rfl) T.f_len PySem.boot_len (pa_cons (pe_fld (pv 4) rfl) pa_nil)))))))
      (pss_one (ps_ret (pe_lst (pa_cons (pe_un un_neg pe_int) pa_nil)))) pss_nil)
    (pss_one (ps_ret (pe_callH (h_change T TK) hr T.g_change (pa_cons (pv 0) (pa_cons (pv 1) (pa_cons (pe_fld (pv 4) rfl) (pa_cons (pe_callTy call_tupL (by rfl) T.f_tuple (by decide +kernel) (pa_cons (pv 2) pa_nil)) (pa_cons (pv 3) pa_nil)))))))))), ?_⟩
  obtain ⟨p, pr, c, a, n0, row, real, rfl, R, W, hR, hT, k⟩ := h
  obtain ⟨dx, q0, hp, hq0⟩ := id R.pl
  obtain ⟨vs, he, hE, _⟩ := id R.es
  refine ⟨_, rfl, p, dx, _, rfl, hp, rfl, _, rfl, p, c, a, n0, rfl, R, _, rfl, ?_⟩
  cases h : experimentAt a n0 with
  | none => exact iteT ⟨_, rfl, le1, fun q hq => k.new R hT (Same.refl H) (res := .value (-2)) (step_W2 real h) rfl hq⟩
  | some x =>
    obtain ⟨y, hy, b, bx, bp, rfl, hb, hbp⟩ := hE.right (exp_at.mp h)
    obtain ⟨xl, xW, xt, xs⟩ := W.exp n0 x h
    obtain ⟨l, hl⟩ := lay_of xl
    have hst : Kex2.step (some a) (rqW real n0 row) = _ := step_W real h hl
    refine iteF ⟨_, rfl, p, _, _, _, _, rfl, hp, T.c_Platform, T.n_Platform_experiments, rfl, _, rfl, c.es, vs, _, _, rfl, rfl, SqL.of he, atI_nat hy, ?_⟩
    refine ⟨_, rfl, pr, row, rfl, hR, fun H1 s1 => ?_⟩
    cases h2 : Kex2.areWeights row with
    | false =>
      rw [if_pos (.inl h2)] at hst
      exact ⟨_, rfl, iteT (iteT ⟨_, rfl, le1, fun q hq => k.new R hT s1 (res := .value (-22)) hst rfl hq⟩)⟩
    | true =>
      refine ⟨_, rfl, iteF ⟨_, rfl, pr, _, rfl, .inl (s1.seq hR), _, rfl, b, _, _, _, _, rfl, s1 _ _ hb, T.c_Experiment, T.n_Experiment_weights, rfl, bp, _, rfl, .inr (same_seqT s1 hbp), _, _, rfl, rfl, _, rfl, ?_⟩⟩
      rw [nats_len, nats_len]
      by_cases h3 : row.length = x.weights.length
      · rw [if_neg (fun z => z.elim (fun z => by rw [h2] at z; cases z) (fun z => z h3))] at hst
        have hW := wts_of h2
        have e0 : (!decide (((row.length : Nat) : Int) = ((x.weights.length : Nat) : Int))) = false := by rw [decide_eq_true (by omega)]; rfl
        refine (if_neg (by show ¬ (!decide (((row.length : Nat) : Int) = ((x.weights.length : Nat) : Int))) = true; rw [e0]; decide)).mpr ⟨_, rfl, _, rfl, _, rfl, b, _, _, _, _, rfl, s1 _ _ hb, T.c_Experiment, T.n_Experiment_traffic, rfl, _, rfl, pr, _, rfl, s1.seq hR, fun t g => ?_⟩
        have s2 : Same H (upd H1 t (.tup (nats row))) := s1.trans (same_new g)
        refine ⟨_, rfl, p, t, c, a, n0, x.traffic, row, real, x, l, rfl, R.same s2, W, h, hl, SqT.of upd_same, hW, h3, xt, by omega, hT.ext s2, fun H2 q A2 F2 T2 R2 hq => ?_⟩
        exact k H2 q c _ _ (.back (.same s2) A2) ((Fr.same s2).trans F2) T2 R2 hst hq
      · rw [if_pos (.inr h3)] at hst
        have e0 : (!decide (((row.length : Nat) : Int) = ((x.weights.length : Nat) : Int))) = true := by rw [decide_eq_false (by omega)]; rfl
        exact (if_pos e0).mpr ⟨_, rfl, le1, fun q hq => k.new R hT s1 (res := .value (-22)) hst rfl hq⟩
end
end Vb

set_option Elab.async false
set_option linter.all false
set_option maxRecDepth 100000
set_option maxHeartbeats 4000000
/-! The four calls that change or preview an experiment; add_experiment. -/
namespace Vb
open PySem PySem.Spec PyProof.Rows L2
open LamX (ExtN Tabs TabB)
open Kex2 (experimentAt)
section
variable {P : Program} {w : World} {K : PySem.W.Frag} {mg : Str → Option Value} {base : Heap}
theorem sc_call_set_traffic : FnScope ["own", "numbers", "row"] ["own", "numbers", "row"] (defScope s_call_set_traffic) := ⟨rfl, rfl, rfl, by decide +kernel, rfl, by decide +kernel, by decide +kernel⟩
theorem h_set_traffic (T : Txt K mg) (TK : TabK base mg K) : Held P w K mg base 9 (He.ga K "call_set_traffic") (spDeed P w K 2 fun n _ => .setTraffic (n.getD 0 0) (n.getD 1 0)) := by
  refine held_of (ps := ["own", "numbers", "row"]) T.d_call_set_traffic sc_call_set_traffic (fun vs H Q E h => by obtain ⟨_, _, _, _, _, _, _, rfl, _⟩ := h; rfl) (fun _ _ _ _ _ _ us hl => match us, hl with | [_, _, _], _ => rfl) (fun cdv A outer s H vs Q E hr h => ?_)
  refine ⟨_, pss_one (ps_ret (pe_callH (h_new_traffic T TK) hr T.g_new_traffic (pa_cons (pv 0) (pa_cons (pv 1) (pa_cons pe_bl pa_nil))))), ?_⟩
  obtain ⟨p, pn, pr, c, a, nums, row, rfl, R, W, hN, hn, hR, hrow, hT, k⟩ := h
  exact ⟨_, rfl, _, rfl, p, pn, c, a, nums, true, rfl, R, W, hN, hn, hT, k⟩
theorem sc_call_preview_traffic : FnScope ["own", "numbers", "row"] ["own", "numbers", "row"] (defScope s_call_preview_traffic) := ⟨rfl, rfl, rfl, by decide +kernel, rfl, by decide +kernel, by decide +kernel⟩
theorem h_preview_traffic (T : Txt K mg) (TK : TabK base mg K) : Held P w K mg base 9 (He.ga K "call_preview_traffic") (spDeed P w K 2 fun n _ => .previewTraffic (n.getD 0 0) (n.getD 1 0)) := by
  refine held_of (ps := ["own", "numbers", "row"]) T.d_call_preview_traffic sc_call_preview_traffic (fun vs H Q E h => by obtain ⟨_, _, _, _, _, _, _, rfl, _⟩ := h; rfl) (fun _ _ _ _ _ _ us hl => match us, hl with | [_, _, _], _ => rfl) (fun cdv A outer s H vs Q E hr h => ?_)
  refine ⟨_, pss_one (ps_ret (pe_callH (h_new_traffic T TK) hr T.g_new_traffic (pa_cons (pv 0) (pa_cons (pv 1) (pa_cons pe_bl pa_nil))))), ?_⟩
  obtain ⟨p, pn, pr, c, a, nums, row, rfl, R, W, hN, hn, hR, hrow, hT, k⟩ := h
  exact ⟨_, rfl, _, rfl, p, pn, c, a, nums, false, rfl, R, W, hN, hn, hT, k⟩
theorem sc_call_set_weights : FnScope ["own", "numbers", "row"] ["own", "numbers", "row"] (defScope s_call_set_weights) := ⟨rfl, rfl, rfl, by decide +kernel, rfl, by decide +kernel, by decide +kernel⟩
theorem h_set_weights (T : Txt K mg) (TK : TabK base mg K) : Held P w K mg base 9 (He.ga K "call_set_weights") (spDeed P w K 1 fun n r => .setWeights (n.getD 0 0) r) := by
  refine held_of (ps := ["own", "numbers", "row"]) T.d_call_set_weights sc_call_set_weights (fun vs H Q E h => by obtain ⟨_, _, _, _, _, _, _, rfl, _⟩ := h; rfl) (fun _ _ _ _ _ _ us hl => match us, hl with | [_, _, _], _ => rfl) (fun cdv A outer s H vs Q E hr h => ?_)
  refine ⟨_, pss_one (ps_ret (pe_callH (h_new_weights T TK) hr T.g_new_weights (pa_cons (pv 0) (pa_cons (pe_ix ix_list (pv 1) pe_int (fun _ _ => rfl)) (pa_cons (pv 2) (pa_cons pe_bl pa_nil)))))), ?_⟩
  obtain ⟨p, pn, pr, c, a, nums, row, rfl, R, W, hN, hn, hR, hrow, hT, k⟩ := h
  obtain ⟨n0, rfl⟩ := one_of hn
  exact ⟨_, rfl, _, rfl, pn, _, _, _, rfl, rfl, hN, rfl, _, rfl, p, pr, c, a, n0, row, true, rfl, R, W, hR, hT, k⟩
theorem sc_call_preview_weights : FnScope ["own", "numbers", "row"] ["own", "numbers", "row"] (defScope s_call_preview_weights) := ⟨rfl, rfl, rfl, by decide +kernel, rfl, by decide +kernel, by decide +kernel⟩
theorem h_preview_weights (T : Txt K mg) (TK : TabK base mg K) : Held P w K mg base 9 (He.ga K "call_preview_weights") (spDeed P w K 1 fun n r => .previewWeights (n.getD 0 0) r) := by
  refine held_of (ps := ["own", "numbers", "row"]) T.d_call_preview_weights sc_call_preview_weights (fun vs H Q E h => by obtain ⟨_, _, _, _, _, _, _, rfl, _⟩ := h; rfl) (fun _ _ _ _ _ _ us hl => match us, hl with | [_, _, _], _ => rfl) (fun cdv A outer s H vs Q E hr h => ?_)
  refine ⟨_, pss_one (ps_ret (pe_callH (h_new_weights T TK) hr T.g_new_weights (pa_cons (pv 0) (pa_cons (pe_ix ix_list (pv 1) pe_int (fun _ _ => rfl)) (pa_cons (pv 2) (pa_cons pe_bl pa_nil)))))), ?_⟩
  obtain ⟨p, pn, pr, c, a, nums, row, rfl, R, W, hN, hn, hR, hrow, hT, k⟩ := h
  obtain ⟨n0, rfl⟩ := one_of hn
  exact ⟨_, rfl, _, rfl, pn, _, _, _, rfl, rfl, hN, rfl, _, rfl, p, pr, c, a, n0, row, false, rfl, R, W, hR, hT, k⟩
theorem sc_call_add_experiment : FnScope ["own", "numbers", "row", "layer", "traffic", "number"] ["own", "numbers", "row"] (defScope s_call_add_experiment) := ⟨rfl, rfl, rfl, by decide +kernel, rfl, by decide +kernel, by decide +kernel⟩
theorem h_add_experiment (T : Txt K mg) (TK : TabK base mg K) : Held P w K mg base 7 (He.ga K "call_add_experiment") (spDeed P w K 2 fun n r => .addExperiment (n.getD 0 0) (n.getD 1 0) r) := by
  refine held_of (ps := ["own", "numbers", "row"]) T.d_call_add_experiment sc_call_add_experiment (fun vs H Q E h => by obtain ⟨_, _, _, _, _, _, _, rfl, _⟩ := h; rfl) (fun _ _ _ _ _ _ us hl => match us, hl with | [_, _, _], _ => rfl) (fun cdv A outer s H vs Q E hr h => ?_)
  have nd := sc_call_add_experiment.nd
  have hr1 : Room 1 _ := hr.mono (by decide)
  have hr2 : Room (1 + 1) _ := hr.mono (by decide)
  have hr3 : Room 3 _ := hr.mono (by decide)
  refine ⟨_, pss_cons (ps_asg (pv 1) (pg_unl rfl (pgs_cons (pg_name (i := 3) nd rfl (Or.inl rfl)) (pgs_cons (pg_name (i := 4) nd rfl (Or.inl rfl)) pgs_nil))))
    (pss_cons (ps_if (pt_cmpR op_ge (pv 3) (pe_callB call_len_seq (by rfl) T.f_len PySem.boot_len (pa_cons (pe_fld (pv 0) rfl) pa_nil)) (nomark _)) (pss_one (ps_ret (pe_lst (pa_cons (pe_un un_neg pe_int) pa_nil)))) pss_nil)
    (pss_cons (ps_if (PW.pt (pw_or (pt_cmpR op_gt (pv 4) (pe_gi T.i_MOST_TRAFFIC) (nomark _)) (pw_or1 (pt_not (pt_val (pe_callH (h_are_weights T) hr1 T.g_are_weights (pa_cons (pv 2) pa_nil)))))))
      (pss_one (ps_ret (pe_lst (pa_cons (pe_un un_neg pe_int) pa_nil)))) pss_nil)
    (pss_cons (ps_if (pt_cmp (pc_eqI (pe_callB call_len_seq (by rfl) T.f_len PySem.boot_len (pa_cons (pe_fld (pv 0) rfl) pa_nil)) (pe_gi T.i_MOST_EXPERIMENTS))) (pss_one (ps_ret (pe_lst (pa_cons (pe_un un_neg pe_int) pa_nil)))) pss_nil)
    (pss_cons (ps_if (pt_cmpR op_lt (pe_callB call_len_seq (by rfl) T.f_len PySem.boot_len (pa_cons (pe_callH (h_owned_by T) hr1 T.g_owned_by (pa_cons (pe_fld (pe_ix ix_list (pe_fld (pv 0) rfl) (pv 3) (fun _ _ => rfl)) rfl) (pa_cons (pe_gr T.g_FREE) pa_nil))) pa_nil)) (pv 4) (nomark _)) (pss_one (ps_ret (pe_lst (pa_cons (pe_un un_neg pe_int) pa_nil)))) pss_nil)
    (pss_cons (ps_expr (pe_bm PySem.F.plainAttrs_list PySem.F.slot_list_append PySem.F.type_list_append mt_append (pe_fld (pv 0) rfl) (pa_cons (pe_makeH T.k_Experiment (h_Experiment_init T) hr2 T.g_Experiment (pa_cons (pv 3) (pa_cons (pv 4) (pa_cons (pe_callTy call_tupL (by rfl) T.f_tuple (by decide +kernel) (pa_cons (pv 2) pa_nil)) pa_nil)))) pa_nil)))
    (pss_cons (ps_set (i := 5) nd rfl (Or.inl rfl) (pe_op op_subN (pe_callB call_len_seq (by rfl) T.f_len PySem.boot_len (pa_cons (pe_fld (pv 0) rfl) pa_nil)) pe_int))
    (pss_cons (ps_fld (pe_ix ix_list (pe_fld (pv 0) rfl) (pv 3) (fun _ _ => rfl)) (pe_callH (h_reallocated T) hr3 T.g_reallocated (pa_cons (pe_fld (pe_ix ix_list (pe_fld (pv 0) rfl) (pv 3) (fun _ _ => rfl)) rfl) (pa_cons (pv 5) (pa_cons (pe_callH (h_targets_of T TK) hr T.g_targets_of (pa_cons (pv 4) (pa_cons (pv 2) pa_nil))) pa_nil)))) rfl)
    (pss_one (ps_ret (pe_lst (pa_cons (pv 5) pa_nil))))))))))), ?_⟩
  obtain ⟨p, pn, pr, c, a, nums, row, rfl, R, W, hN, hn, hR, hrow, hT, k⟩ := h
  obtain ⟨n0, n1, rfl⟩ := two_of hn
  obtain ⟨dx, q0, hp, hq0⟩ := id R.pl
  obtain ⟨vl, hls, hL, _⟩ := id R.ls
  obtain ⟨vs, hes, hE, hDe⟩ := id R.es
  refine ⟨_, rfl, pn, _, rfl, hN, rfl, ?_⟩
  refine ⟨_, _, rfl, _, _, rfl, rfl, ?_⟩
  refine ⟨_, rfl, _, rfl, p, _, _, _, _, rfl, hp, T.c_Platform, T.n_Platform_layers, rfl, c.ls, vl, rfl, .inl (SqL.of hls), _, _, rfl, rfl, _, rfl, ?_⟩
  rw [hL.len, dec_le]
  by_cases h : a.layers.length ≤ n0
  · rw [decide_eq_true h]
    exact iteT ⟨_, rfl, le1, fun q hq => k.new R hT (Same.refl H) (res := .value (-2)) (if_pos h) rfl hq⟩
  rw [decide_eq_false h]
  obtain ⟨l, hl⟩ := lay_of (a := a) (i := n0) (by omega)
  obtain ⟨y, hy, la, lx, lp, lo, rfl, hla, hlp, hlo⟩ := hL.right hl
  have hst := step_addE (t := n1) (ws := row) hl
  refine iteF ⟨_, rfl, _, _, rfl, rfl, _, rfl, ?_⟩
  rw [show decide ((100 : Int) < (n1 : Int)) = decide (100 < n1) from dec_lt 100 n1]
  by_cases h1 : 100 < n1
  · rw [decide_eq_true h1]
    rw [if_pos (.inl (show Kex2.bucketCount < n1 from h1))] at hst
    exact iteT (iteT ⟨_, rfl, le1, fun q hq => k.new R hT (Same.refl H) (res := .value (-22)) hst rfl hq⟩)
  rw [decide_eq_false h1]
  refine iteF ⟨_, rfl, pr, row, rfl, hR, fun H1 s1 => ?_⟩
  cases h2 : Kex2.areWeights row with
  | false =>
    rw [if_pos (.inr h2)] at hst
    exact ⟨_, rfl, iteT ⟨_, rfl, le1, fun q hq => k.new R hT s1 (res := .value (-22)) hst rfl hq⟩⟩
  | true =>
    rw [if_neg (fun z => z.elim (fun z => h1 z) (fun z => by rw [h2] at z; cases z))] at hst
    have hW := wts_of h2
    have h8 := W.ne
    refine ⟨_, rfl, iteF ⟨_, rfl, p, _, _, _, _, rfl, s1 _ _ hp, T.c_Platform, T.n_Platform_experiments, rfl, c.es, vs, rfl, .inl (SqL.of (s1 _ _ hes)), _, _, rfl, rfl, _, rfl, ?_⟩⟩
    rw [hE.len]
    by_cases h3 : a.experiments.length = 8
    · rw [if_pos (show Kex2.maxExperiments ≤ a.experiments.length by show 8 ≤ _; omega)] at hst
      exact (if_pos (decide_eq_true (show ((a.experiments.length : Nat) : Int) = 8 by omega))).mpr ⟨_, rfl, le1, fun q hq => k.new R hT s1 (res := .value (-28)) hst rfl hq⟩
    rw [if_neg (show ¬ Kex2.maxExperiments ≤ a.experiments.length by show ¬ 8 ≤ _; omega)] at hst
    refine (if_neg (no_of (show ¬ ((a.experiments.length : Nat) : Int) = 8 by omega))).mpr ⟨_, rfl, p, _, _, _, _, rfl, s1 _ _ hp, T.c_Platform, T.n_Platform_layers, rfl, _, rfl, c.ls, vl, _, _, rfl, rfl, SqL.of (s1 _ _ hls), atI_nat hy, la, _, _, _, _, rfl, s1 _ _ hla, T.c_Layer, T.n_Layer_owners, rfl, lo, _, l.owners, 0, rfl, (ownM_ext (.of s1) hlo).l, T.free_tup _, fun H2 F s2 hF hF1 => ?_⟩
    have s12 := s1.trans s2
    refine ⟨F, _, rfl, .inl (SqL.of hF1), _, rfl, _, _, rfl, rfl, _, rfl, ?_⟩
    rw [nats_len, dec_lt]
    by_cases h4 : (idxs l.owners 0).length < n1
    · rw [decide_eq_true h4]
      rw [if_pos h4] at hst
      exact iteT ⟨_, rfl, le1, fun q hq => k.new R hT s12 (res := .value (-33)) hst rfl hq⟩
    rw [decide_eq_false h4]
    rw [if_neg h4] at hst
    -- the experiment
    refine iteF ⟨_, rfl, p, _, _, _, _, rfl, s12 _ _ hp, T.c_Platform, T.n_Platform_experiments, rfl, .inl ⟨rfl, _, SqL.of (s12 _ _ hes)⟩, _, rfl, _, rfl, _, rfl, pr, _, rfl, s12.seq hR, fun t3 g3 => ?_⟩
    have s5 : Same H (upd H2 t3 (.tup (nats row))) := s12.trans (same_new g3)
    have ht3 : upd H2 t3 (.tup (nats row)) t3 = some (.tup (nats row)) := upd_same
    clear g3
    generalize upd H2 t3 (.tup (nats row)) = H5 at s5 ht3 ⊢
    intro x dx2 nx ndx hne
    refine ⟨x, dx2, _, _, _, rfl, upd_same, fun H6 e6 hx6 => ⟨rfl, ?_⟩⟩
    have s6 : Same H5 H6 := Same.made nx ndx fun b o h n => e6 b o n h
    have s56 := s5.trans s6
    have hx0 : H x = none := by
      cases q : H x with
      | none => rfl
      | some o => rw [s5 _ _ q] at nx; cases nx
    have hes6 := s56 _ _ hes
    have hE6 : Each (ExpR K H6) (vs ++ [.ref x]) (a.experiments ++ [some ⟨n0, n1, row⟩]) := (hE.mono fun _ _ h => h.keep (.same s56)).snoc ⟨x, dx2, t3, rfl, hx6, .inl (.inl (s6 _ _ ht3))⟩
    have hD6 : Dst (vs ++ [.ref x]) := hDe.snoc fun b eb => by cases eb; exact exp_fresh hE hx0
    have R7 := (R.same s56).es_set hes6 (by rw [hE.len]; exact h8) hE6 hD6
    have T7 := tabs_lst (o := .lst (vs ++ [.ref x])) (hT.ext s56) hes6
    have F7 : Fr H c (upd H6 c.es (.lst (vs ++ [.ref x]))) c := (Fr.same s56).trans .at_es
    have hrow7 : SqL K (upd H6 c.es (.lst (vs ++ [.ref x]))) pr (nats row) := seq_upd (s56.seq hR) hes6 (row_ne (hE.mono fun _ _ h => h.keep (.same s56)) hes6 (by rintro rfl; exact absurd hW.1 (by decide)))
    refine ⟨c.es, vs, _, rfl, rfl, hes6, by rw [hE.len]; exact Nat.lt_of_le_of_lt h8 (by decide), ?_⟩
    have hL7 : upd H6 c.es (.lst (vs ++ [.ref x])) c.es = some (.lst (vs ++ [.ref x])) := upd_same
    refine absH (Pr := fun H7 => Rep P w K H7 p c { a with experiments := a.experiments ++ [some ⟨n0, n1, row⟩] } ∧ Tabs (tT K) H7 ∧ Fr H c H7 c ∧ SqL K H7 pr (nats row) ∧ H7 c.es = some (.lst (vs ++ [.ref x]))) ⟨R7, T7, F7, hrow7, hL7⟩ ?_
    clear R7 T7 F7 hrow7 hL7 hE6 hD6 hes6 s56 s6 hx6 e6
    clear H6
    rintro H7 ⟨R7, T7, F7, hrow7, hes7⟩
    obtain ⟨dx7, q7, hp7, _⟩ := id R7.pl
    obtain ⟨vl7, hls7, hL7, _⟩ := id R7.ls
    have hL7 : Each (LayR K H7) vl7 a.layers := hL7
    obtain ⟨y7, hy7, la7, lx7, lp7, lo7, rfl, hla7, hlp7, hlo7⟩ := hL7.right hl
    -- number
    refine ⟨_, rfl, p, _, _, _, _, rfl, hp7, T.c_Platform, T.n_Platform_experiments, rfl, c.es, _, rfl, .inl (SqL.of hes7), _, 1, rfl, rfl, by rw [List.length_append]; show 1 ≤ _ + 1; omega, ?_⟩
    have enum : (vs ++ [V.ref x]).length - 1 = a.experiments.length := by rw [List.length_append, hE.len]; show a.experiments.length + 1 - 1 = _; omega
    rw [enum]
    -- targets
    refine ⟨_, rfl, p, _, _, _, _, rfl, hp7, T.c_Platform, T.n_Platform_layers, rfl, _, rfl, c.ls, vl7, _, _, rfl, rfl, SqL.of hls7, atI_nat hy7, la7, _, _, _, _, rfl, hla7, T.c_Layer, T.n_Layer_owners, rfl, _, rfl, _, rfl, _, rfl, n1, pr, row, rfl, .inl hrow7, hW, by omega, T7, fun H8 G e8 T8 hG hG8 => ?_⟩
    have hlen := targets_len n1 row
    have hsum : (Kex2.targets n1 row).sum ≤ ownSum l.owners a.experiments.length (Kex2.targets n1 row).length + (idxs l.owners 0).length := by
      rw [targets_sum hW.pos]
      omega
    obtain ⟨f1, f2, f3⟩ := realloc_of W hl (show a.experiments.length < 8 by omega) (by rw [hlen]; exact hW.2.1) hsum
    have hlo8 := ownM_ext e8 hlo7
    refine ⟨lo7, G, l.owners, a.experiments.length, _, rfl, hlo8.l, SqL.of hG8, by rw [hlen]; exact hW.2.1, f1, fun H9 q s9 hq hq9 => ?_⟩
    rw [← f2] at hq9
    have e9 : ExtN H7 H9 := e8.trans (.of s9)
    have T9 := T8.ext s9
    have R9 := R7.ext e9
    have hls9 := e9 _ _ hls7 fun ps z => by cases z
    have hla9 := e9 _ _ hla7 fun ps z => by cases z
    have hp9 := e9 _ _ hp7 fun ps z => by cases z
    have R10 := R9.set_own hls9 hy7 hl hla9 (seqTN e9 hlp7) hq9
    refine ⟨_, rfl, p, _, _, _, _, rfl, hp9, T.c_Platform, T.n_Platform_layers, rfl, _, rfl, c.ls, vl7, _, _, rfl, rfl, SqL.of hls9, atI_nat hy7, la7, _, _, _, rfl, hla9, T.c_Layer, T.n_Layer_owners, by show 3 < 1000; decide, ?_⟩
    refine ⟨_, rfl, le1, fun r hr0 => ?_⟩
    exact k.mut ((F7.trans (.ext e9)).trans (.upd hla9 rfl)) (tabs_ins T9 hla9) R10 hst rfl hr0
end
end Vb

set_option maxHeartbeats 4000000
set_option Elab.async false
set_option linter.all false
/-! Steps in their cases: assignments. -/
namespace Vb
open Kex2 (experimentAt)
theorem not_none {a : Kex2.Assigner} {i : Nat} {x : Kex2.Experiment} (h : experimentAt a i = some x) : ¬ (experimentAt a i).isNone = true := fun z => by rw [h] at z; cases z
theorem step_assign {a : Kex2.Assigner} {i : Nat} {x : Kex2.Experiment} {u : List Nat} (h : experimentAt a i = some x) (hu : Kex2.isUnit u = true) : Kex2.step (some a) (.assign i u) = (some a, match Kex2.assignment a i u with | none => .value (-33) | some r => .values r.1 [(r.2 : Int)]) := by
  show (some a, if (experimentAt a i).isNone = true then _ else if Kex2.isUnit u = false then _ else _) = _
  rw [if_neg (not_none h), if_neg (by rw [hu]; decide)]
  cases Kex2.assignment a i u <;> rfl
theorem step_assign22 {a : Kex2.Assigner} {i : Nat} {x : Kex2.Experiment} {u : List Nat} (h : experimentAt a i = some x) (hu : Kex2.isUnit u = false) : Kex2.step (some a) (.assign i u) = (some a, .value (-22)) := by
  show (some a, if (experimentAt a i).isNone = true then _ else if Kex2.isUnit u = false then _ else _) = _
  rw [if_neg (not_none h), if_pos hu]
/-- whether a unit is assigned in an experiment of a layer -/
def inEx (a : Kex2.Assigner) (layer : Nat) (u : List Nat) (i : Nat) : Bool := ((experimentAt a i).map (·.layer)) == some layer && (Kex2.assignment a i u).isSome
theorem step_exOf {a : Kex2.Assigner} {layer : Nat} {u : List Nat} (h : ¬ a.layers.length ≤ layer) (hu : Kex2.isUnit u = true) : Kex2.step (some a) (.experimentOf layer u) = (some a, match (List.range a.experiments.length).find? (inEx a layer u) with
      | none => .value (-33)
      | some i => match Kex2.assignment a i u with
        | none => .value (-33)
        | some r => .values i (Kex2.toInts [r.1, r.2])) := by
  show (some a, if a.layers.length ≤ layer then _ else if Kex2.isUnit u = false then _ else _) = _
  rw [if_neg h, if_neg (by rw [hu]; decide)]
  show (some a, match (List.range a.experiments.length).find? (inEx a layer u) with | none => _ | some i => _) = _
  cases (List.range a.experiments.length).find? (inEx a layer u) with
  | none => rfl
  | some i =>
    dsimp only
    cases Kex2.assignment a i u <;> rfl
theorem step_exOf22 {a : Kex2.Assigner} {layer : Nat} {u : List Nat} (h : ¬ a.layers.length ≤ layer) (hu : Kex2.isUnit u = false) : Kex2.step (some a) (.experimentOf layer u) = (some a, .value (-22)) := by
  show (some a, if a.layers.length ≤ layer then _ else if Kex2.isUnit u = false then _ else _) = _
  rw [if_neg h, if_pos hu]
theorem step_list {a : Kex2.Assigner} (W : Wf a) {i : Nat} {x : Kex2.Experiment} (h : experimentAt a i = some x) : Kex2.step (some a) (.listSticky i) = (some a, .values (((validsA a).filter fun t => t.experiment == i).length : Nat) (Kex2.toInts (((validsA a).filter fun t => t.experiment == i).flatMap fun t => [t.variant, t.expiry]))) := by
  show (some a, if (experimentAt a i).isNone = true then _ else _) = _
  rw [if_neg (not_none h)]
  have e : (a.sticky.filter fun t => Kex2.isLive a t && t.experiment == i) = (validsA a).filter fun t => t.experiment == i := by
    rw [← W.valids, List.filter_filter]
    congr 1
    funext t
    exact Bool.and_comm ..
  rw [e]
/-- the sample's assignments so far -/
def samp (a : Kex2.Assigner) (i n k : Nat) : List Nat := (List.range n).map fun v => ((List.range k).map fun k => (Kex2.assignment a i (Kex2.sampleUnit k)).map (·.1)).countP (· == some v)
theorem step_samp {a : Kex2.Assigner} {i n : Nat} {x : Kex2.Experiment} (h : experimentAt a i = some x) : Kex2.step (some a) (.sampleCounts i n) = if Kex2.maxSample < n then (some a, .value (-22)) else (some a, Kex2.listResult (samp a i x.weights.length n)) := by
  simp only [Kex2.step, h]
  split <;> rfl
theorem samp_len (a : Kex2.Assigner) (i n k : Nat) : (samp a i n k).length = n := by unfold samp; simp
theorem samp_zero (a : Kex2.Assigner) (i n : Nat) : samp a i n 0 = List.replicate n 0 := by
  unfold samp
  apply List.ext_getElem?
  intro j
  rw [List.getElem?_map, List.getElem?_replicate]
  by_cases h : j < n
  · rw [List.getElem?_range h, if_pos h]
    rfl
  · rw [List.getElem?_eq_none (by rw [List.length_range]; omega), if_neg h]
    rfl
theorem samp_get {a : Kex2.Assigner} {i n k v : Nat} (h : v < n) : (samp a i n k)[v]? = some (((List.range k).map fun k => (Kex2.assignment a i (Kex2.sampleUnit k)).map (·.1)).countP (· == some v)) := by
  unfold samp
  rw [List.getElem?_map, List.getElem?_range h]
  rfl
theorem samp_none {a : Kex2.Assigner} {i n k : Nat} (h : Kex2.assignment a i (Kex2.sampleUnit k) = none) : samp a i n (k + 1) = samp a i n k := by
  unfold samp
  apply List.map_congr_left
  intro v _
  rw [List.range_succ, List.map_append, List.countP_append]
  simp [h]
theorem samp_some {a : Kex2.Assigner} {i n k : Nat} {r : Nat × Nat} (h : Kex2.assignment a i (Kex2.sampleUnit k) = some r) (hr : r.1 < n) : samp a i n (k + 1) = (samp a i n k).set r.1 ((samp a i n k).getD r.1 0 + 1) := by
  apply List.ext_getElem?
  intro v
  rw [List.getElem?_set]
  by_cases hv : v < n
  · rw [samp_get hv, List.range_succ, List.map_append, List.countP_append, samp_get hv]
    by_cases c : r.1 = v
    · subst c
      rw [if_pos rfl, if_pos (by rw [samp_len]; exact hr), List.getD_eq_getElem?_getD, samp_get hr]
      simp [h]
    · rw [if_neg c]
      simp [h, c]
  · rw [List.getElem?_eq_none (by rw [samp_len]; omega), if_neg (by omega), List.getElem?_eq_none (by rw [samp_len]; omega)]
/-- an assigned variant is one of the experiment's -/
theorem asg_lt {a : Kex2.Assigner} (W : Wf a) {i : Nat} {x : Kex2.Experiment} {u : List Nat} {r : Nat × Nat} (hx : experimentAt a i = some x) (h : Kex2.assignment a i u = some r) : r.1 < x.weights.length := by
  rw [asg_eq u hx] at h
  unfold asg at h
  cases ho : a.overrides.find? (fun o => o.experiment == i && o.unit == u) with
  | some o =>
    rw [ho] at h
    cases h
    obtain ⟨x', h1, h2⟩ := W.ov o (List.mem_of_find?_eq_some ho)
    have h3 := List.find?_some ho
    simp only [Bool.and_eq_true, beq_iff_eq] at h3
    rw [h3.1, hx] at h1
    cases h1
    exact h2
  | none =>
    rw [ho] at h
    have h : (if Kex2.isHeldOut a u then none
    else match Kex2.stickyIn a x.layer u with
      | some s => if s.experiment = i then some (s.variant, 1) else none
      | none => ((List.range x.weights.length).find? fun v => (Kex2.ownersOf a x.layer).getD (Kex2.bucket (a.layers.getD x.layer ⟨[], []⟩).salt u) 0 == Kex2.ownerOf i v) |>.map fun v => (v, 2)) = some r := h
    cases hh : Kex2.isHeldOut a u with
    | true => rw [hh, if_pos rfl] at h; cases h
    | false =>
      rw [hh, if_neg Bool.false_ne_true] at h
      cases hs : Kex2.stickyIn a x.layer u with
      | some s =>
        rw [hs] at h
        have h : (if s.experiment = i then some (s.variant, 1) else none) = some r := h
        split at h
        · rename_i c
          cases h
          have hm : s ∈ a.sticky := by
            unfold Kex2.stickyIn at hs
            exact List.mem_of_find?_eq_some hs
          obtain ⟨x', h1, h2⟩ := W.st s hm
          rw [c, hx] at h1
          cases h1
          exact h2
        · cases h
      | none =>
        rw [hs] at h
        obtain ⟨v, hv, e⟩ := Option.map_eq_some_iff.mp h
        cases e
        exact List.mem_range.mp (List.mem_of_find?_eq_some hv)
/-- the cross table so far -/
def crossN (a : Kex2.Assigner) (s1 s2 k : Nat) (z : Bool × Bool) : Nat := ((List.range k).map fun k => (decide (bkt s1 (Kex2.sampleUnit k) < 50), decide (bkt s2 (Kex2.sampleUnit k) < 50))).countP (· == z)
def cross (a : Kex2.Assigner) (s1 s2 k : Nat) : List Nat := [(true, true), (true, false), (false, true), (false, false)].map (crossN a s1 s2 k)
theorem step_cross {a : Kex2.Assigner} {i j n : Nat} {l m : Kex2.Layer} (hl : a.layers[i]? = some l) (hm : a.layers[j]? = some m) : Kex2.step (some a) (.crossTable i j n) = if Kex2.maxSample < n then (some a, .value (-22)) else (some a, Kex2.listResult (cross a (sltd l.salt) (sltd m.salt) n)) := by
  simp only [Kex2.step, hl, hm]
  split
  · rfl
  · unfold cross crossN
    simp only [bucket_eq]
theorem step_cross2 {a : Kex2.Assigner} {i j n : Nat} (h : a.layers.length ≤ i ∨ a.layers.length ≤ j) : Kex2.step (some a) (.crossTable i j n) = (some a, .value (-2)) := by
  rcases h with h | h
  · simp only [Kex2.step, List.getElem?_eq_none h]
  · simp only [Kex2.step, List.getElem?_eq_none h]
    cases a.layers[i]? <;> rfl
def placeOf (b1 b2 : Bool) : Nat := (if b1 = true then 0 else 2) + (if b2 = true then 0 else 1)
theorem cross_succ (a : Kex2.Assigner) (s1 s2 k : Nat) : cross a s1 s2 (k + 1) = (cross a s1 s2 k).set (placeOf (decide (bkt s1 (Kex2.sampleUnit k) < 50)) (decide (bkt s2 (Kex2.sampleUnit k) < 50))) ((cross a s1 s2 k).getD (placeOf (decide (bkt s1 (Kex2.sampleUnit k) < 50)) (decide (bkt s2 (Kex2.sampleUnit k) < 50))) 0 + 1) := by
  have e : ∀ z, crossN a s1 s2 (k + 1) z = crossN a s1 s2 k z + if (decide (bkt s1 (Kex2.sampleUnit k) < 50), decide (bkt s2 (Kex2.sampleUnit k) < 50)) = z then 1 else 0 := fun z => by
    unfold crossN
    rw [List.range_succ, List.map_append, List.countP_append]
    congr 1
    simp [List.countP_cons]
  unfold cross
  simp only [List.map_cons, List.map_nil, e]
  generalize decide (bkt s1 (Kex2.sampleUnit k) < 50) = b1
  generalize decide (bkt s2 (Kex2.sampleUnit k) < 50) = b2
  cases b1 <;> cases b2 <;> simp [placeOf]
end Vb

set_option Elab.async false
set_option linter.all false
set_option maxRecDepth 100000
set_option maxHeartbeats 4000000
/-! Calls that ask for assignments. -/
namespace Vb
open PySem PySem.Spec PyProof.Rows L2
open LamX (ExtN Tabs TabB)
open Kex2 (experimentAt)
/-- an answer of assignment as a pair -/
def ansE (r : Option (Nat × Nat)) : Int := match r with
  | none => -1
  | some r => r.1
def ansR (r : Option (Nat × Nat)) : Int := match r with
  | none => -1
  | some r => r.2
theorem AnsT.tup {K : PySem.W.Frag} {H : Hp} {y : V} {r : Option (Nat × Nat)} (h : AnsT K H y r) : ∃ t, y = .ref t ∧ SqT K H t [.int (ansE r), .int (ansR r)] := by
  cases r <;> exact h
theorem ans_none (r : Option (Nat × Nat)) : PyData.eqv (.tuple [.int (ansE r), .int (ansR r)]) (.tuple [.int (-1), .int (-1)]) = r.isNone := by
  rw [pair_eqv]
  cases r with
  | none => rfl
  | some r =>
    have : ansE (some r) = (r.1 : Int) := rfl
    rw [this, decide_eq_false (by omega)]
    rfl
section
variable {P : Program} {w : World} {K : PySem.W.Frag} {mg : Str → Option Value} {base : Heap}
theorem sc_call_assign : FnScope ["own", "numbers", "row", "found"] ["own", "numbers", "row"] (defScope s_call_assign) := ⟨rfl, rfl, rfl, by decide +kernel, rfl, by decide +kernel, by decide +kernel⟩
theorem h_assign (T : Txt K mg) : Held P w K mg base 5 (He.ga K "call_assign") (spDeed P w K 1 fun n r => .assign (n.getD 0 0) r) := by
  refine held_of (ps := ["own", "numbers", "row"]) T.d_call_assign sc_call_assign (fun vs H Q E h => by obtain ⟨_, _, _, _, _, _, _, rfl, _⟩ := h; rfl) (fun _ _ _ _ _ _ us hl => match us, hl with | [_, _, _], _ => rfl) (fun cdv A outer s H vs Q E hr h => ?_)
  have nd := sc_call_assign.nd
  have hr1 : Room 1 _ := hr.mono (by decide)
  refine ⟨_, pss_cons (ps_if (pt_not (pt_val (pe_methH (h_has T) hr1 T.c_Platform T.m_Platform_has_experiment (pv 0) (pa_cons (pe_ix ix_list (pv 1) pe_int (fun _ _ => rfl)) pa_nil)))) (pss_one (ps_ret (pe_lst (pa_cons (pe_un un_neg pe_int) pa_nil)))) pss_nil)
    (pss_cons (ps_if (pt_not (pt_val (pe_callH (h_are_octets T) hr1 T.g_are_octets (pa_cons (pv 2) (pa_cons pe_int pa_nil))))) (pss_one (ps_ret (pe_lst (pa_cons (pe_un un_neg pe_int) pa_nil)))) pss_nil)
    (pss_cons (ps_set (i := 3) nd rfl (Or.inl rfl) (pe_methH (h_assignment T) hr T.c_Platform T.m_Platform_assignment (pv 0) (pa_cons (pe_ix ix_list (pv 1) pe_int (fun _ _ => rfl)) (pa_cons (pe_callTy call_tupL (by rfl) T.f_tuple (by decide +kernel) (pa_cons (pv 2) pa_nil)) pa_nil))))
    (pss_one (ps_ret (pe_ifExp (pt_cmpR (op_eqD hr.units) (pv 3) (pe_gr T.g_NONE) (nomark _)) (pe_lst (pa_cons (pe_un un_neg pe_int) pa_nil)) (pe_lst (pa_cons (pe_ix ix_tup (pv 3) pe_int (fun _ _ => rfl)) (pa_cons (pe_ix ix_tup (pv 3) pe_int (fun _ _ => rfl)) pa_nil)))))))), ?_⟩
  obtain ⟨p, pn, pr, c, a, nums, row, rfl, R, W, hN, hn, hR, hrow, hT, k⟩ := h
  obtain ⟨n0, rfl⟩ := one_of hn
  obtain ⟨dx, q0, hp, hq0⟩ := id R.pl
  refine ⟨_, rfl, p, dx, _, rfl, hp, rfl, _, rfl, pn, _, _, _, rfl, rfl, hN, rfl, p, c, a, n0, rfl, R, _, rfl, ?_⟩
  cases h : experimentAt a n0 with
  | none => exact iteT ⟨_, rfl, le1, fun q hq => k.new R hT (Same.refl H) (res := .value (-2)) ((step_noneE h).2.1 row) rfl hq⟩
  | some x =>
    refine iteF ⟨_, rfl, pr, row, 1, rfl, hR, fun H1 s1 => ?_⟩
    rw [octs1 hrow]
    cases h2 : Kex2.isUnit row with
    | false => exact ⟨_, rfl, iteT ⟨_, rfl, le1, fun q hq => k.new R hT s1 (res := .value (-22)) (step_assign22 h h2) rfl hq⟩⟩
    | true =>
      have hst := step_assign h h2
      refine ⟨_, rfl, iteF ⟨_, rfl, p, dx, _, rfl, s1 _ _ hp, rfl, _, rfl, pn, _, _, _, rfl, rfl, s1.seq hN, rfl, _, rfl, pr, _, rfl, s1.seq hR, fun t g => ?_⟩⟩
      have s2 : Same H (upd H1 t (.tup (nats row))) := s1.trans (same_new g)
      refine ⟨p, t, c, a, n0, row, rfl, R.same s2, W, by rw [h]; rfl, SqT.of upd_same, fun H3 y s3 hy => ?_⟩
      have s23 := s2.trans s3
      obtain ⟨t2, rfl, ht2⟩ := hy.tup
      refine ⟨_, rfl, _, _, own_dp ht2, own_dp (T.none_tup _), pair_shaped _ _, pair_shaped _ _, _, rfl, ?_⟩
      rw [ans_none]
      cases hr0 : Kex2.assignment a n0 row with
      | none =>
        rw [hr0] at hst
        exact iteT ⟨_, rfl, le1, fun q hq => k.new R hT s23 (res := .value (-33)) hst rfl hq⟩
      | some r =>
        rw [hr0] at hst ht2
        exact iteF ⟨_, rfl, t2, _, 0, _, rfl, rfl, ht2, rfl, _, rfl, t2, _, 1, _, rfl, rfl, ht2, rfl, le2, fun q hq => k.new R hT s23 (res := .values r.1 [(r.2 : Int)]) hst rfl hq⟩
def lstNs (l : List Kex2.Sticky) : List Nat := l.flatMap fun t => [t.variant, t.expiry]
theorem lstNs_snoc (l : List Kex2.Sticky) (t : Kex2.Sticky) : lstNs (l ++ [t]) = lstNs l ++ [t.variant, t.expiry] := by
  unfold lstNs
  rw [List.flatMap_append]
  simp
theorem lstNs_len : ∀ l : List Kex2.Sticky, (lstNs l).length = 2 * l.length
  | [] => rfl
  | z :: r => by
    have ih := lstNs_len r
    unfold lstNs at ih ⊢
    rw [List.flatMap_cons, List.length_append, ih, List.length_cons]
    show 2 + 2 * r.length = 2 * (r.length + 1)
    omega
theorem sc_call_list_stored : FnScope ["own", "numbers", "row", "some", "found", "one"] ["own", "numbers", "row"] (defScope s_call_list_stored) := ⟨rfl, rfl, rfl, by decide +kernel, rfl, by decide +kernel, by decide +kernel⟩
theorem h_list_stored (T : Txt K mg) : Held P w K mg base 2 (He.ga K "call_list_stored") (spDeed P w K 1 fun n _ => .listSticky (n.getD 0 0)) := by
  refine held_of (ps := ["own", "numbers", "row"]) T.d_call_list_stored sc_call_list_stored (fun vs H Q E h => by obtain ⟨_, _, _, _, _, _, _, rfl, _⟩ := h; rfl) (fun _ _ _ _ _ _ us hl => match us, hl with | [_, _, _], _ => rfl) (fun cdv A outer s H vs Q E hr h => ?_)
  have nd := sc_call_list_stored.nd
  refine ⟨_, pss_cons (ps_if (pt_not (pt_val (pe_methH (h_has T) hr T.c_Platform T.m_Platform_has_experiment (pv 0) (pa_cons (pe_ix ix_list (pv 1) pe_int (fun _ _ => rfl)) pa_nil)))) (pss_one (ps_ret (pe_lst (pa_cons (pe_un un_neg pe_int) pa_nil)))) pss_nil)
    (pss_cons (ps_setLc (i := 3) (own := [("one", 5)]) (g := gName 5) (tt := tTest (tOp (rEqD K) (tFld K (tVar 5) "experiment") (tOp (rIxL K) (tVar 1) (tC (.int 0))))) (te := tVar 5) rfl nd rfl rfl (sw_true rfl rfl rfl (by decide +kernel)) (pi_list (pe_meth0H (h_valid T) hr T.c_Platform T.m_Platform_valid (pv 0)))
        (blkOk_by (own := [("one", 5)]) (N := ["own", "numbers", "row", "some", "found", "one"]) (sc := defScope s_call_list_stored) (by decide +kernel))
        (fun _ _ _ _ _ => pg_name (i := 5) nd rfl (Or.inl rfl)) (fun _ _ _ _ _ => pts_one (pt_cmpR (op_eqD hr.units) (pe_fld (pv 5) rfl) (pe_ix ix_list (pv 1) pe_int (fun _ _ => rfl)) (nomark _))) (fun _ _ _ _ _ => pv 5))
    (pss_cons (ps_set (i := 4) nd rfl (Or.inl rfl) (pe_lst (pa_cons (pe_callB call_len_seq (by rfl) T.f_len PySem.boot_len (pa_cons (pv 3) pa_nil)) pa_nil)))
    (pss_cons (ps_for PassesOwn.never rfl (pi_list (pv 3)) (pg_name (i := 5) nd rfl (Or.inl rfl))
      (pss_one (ps_expr (pe_bm PySem.F.plainAttrs_list PySem.F.slot_list_extend PySem.F.type_list_extend mt_extend (pv 4) (pa_cons (pe_lst (pa_cons (pe_fld (pv 5) rfl) (pa_cons (pe_fld (pv 5) rfl) pa_nil))) pa_nil)))))
    (pss_one (ps_ret (pv 4)))))), ?_⟩
  obtain ⟨p, pn, pr, c, a, nums, row, rfl, R, W, hN, hn, hR, hrow, hT, k⟩ := h
  obtain ⟨n0, rfl⟩ := one_of hn
  obtain ⟨dx, q0, hp, hq0⟩ := id R.pl
  obtain ⟨ws, hst, hS, _⟩ := id R.st
  refine ⟨_, rfl, p, dx, _, rfl, hp, rfl, _, rfl, pn, _, _, _, rfl, rfl, hN, rfl, p, c, a, n0, rfl, R, _, rfl, ?_⟩
  cases h : experimentAt a n0 with
  | none => exact iteT ⟨_, rfl, le1, fun q hq => k.new R hT (Same.refl H) (res := .value (-2)) (step_noneE h).2.2 rfl hq⟩
  | some x =>
    refine iteF ?_
    refine ⟨_, rfl, p, dx, _, rfl, hp, rfl, p, c, a, rfl, R, W.ns, fun H1 L ws' s1 hLn hws hL => ?_⟩
    obtain rfl : ws' = ws := by rw [hst] at hws; cases hws; rfl
    have hV : Each (StoR K H1) (pickL ws' a.sticky fun s => decide (a.clock < s.expiry)) (validsA a) := (pick_each hS).1.mono fun _ _ h => h.keep (.same s1)
    have hVl : (pickL ws' a.sticky fun s => decide (a.clock < s.expiry)).length ≤ 32 := Nat.le_trans (pick_len _ _) (by rw [hS.len]; exact W.ns)
    generalize (pickL ws' a.sticky fun s => decide (a.clock < s.expiry)) = vv at hL hV hVl
    refine ⟨L, rfl, ⟨_, SqL.of hL⟩, fun D hDn => ?_⟩
    refine lc_it (walk_list (K := K) (a := L) (xs := vv)) (fun i H2 => Same H1 H2 ∧ H2 D = some (.lst (pickL (vv.take i) ((validsA a).take i) fun t => t.experiment == n0))) ⟨same_new hDn, upd_same⟩ (fun i H2 _ p => SqL.of (p.1 _ _ hL)) ?_ ?_
    · rintro i y H2 H3 hi ⟨s2, hD2⟩ ⟨rfl, hx⟩
      obtain ⟨t, ht, b, bx, bp, rfl, hb, _⟩ := hV.left hx
      have hl : (vv.take i).length = ((validsA a).take i).length := by rw [List.length_take, List.length_take, hV.len]
      have s12 := s1.trans s2
      refine ⟨rfl, _, rfl, b, _, _, _, _, rfl, s2 _ _ hb, T.c_Stored, T.n_Stored_experiment, rfl, _, rfl, pn, _, _, _, rfl, rfl, s12.seq hN, rfl, .int t.experiment, .int n0, .int _, .int _, int_shaped _, int_shaped _, _, rfl, ?_⟩
      rw [int_eqv]
      by_cases c1 : t.experiment = n0
      · rw [decide_eq_true c1]
        refine iteT ⟨_, rfl, _, hD2, ?_, same_upd s2 hDn, ?_⟩
        · exact Nat.lt_of_le_of_lt (Nat.le_trans (pick_len _ _) (Nat.le_trans (by rw [List.length_take]; exact Nat.min_le_right _ _) hVl)) (by decide)
        · rw [upd_same, take_snoc hx, take_snoc ht, pick_snoc hl, if_pos (by simp [c1])]
      · rw [decide_eq_false c1]
        refine iteF ⟨s2, ?_⟩
        rw [take_snoc hx, take_snoc ht, pick_snoc hl, if_neg (by simp [c1]), List.append_nil]
        exact hD2
    rintro H2 ⟨s2, hD2⟩
    rw [List.take_length, List.take_of_length_le (by rw [hV.len]; exact Nat.le_refl _)] at hD2
    have hE : Each (StoR K H2) (pickL vv (validsA a) fun t => t.experiment == n0) ((validsA a).filter fun t => t.experiment == n0) := (pick_each hV).1.mono fun _ _ h => h.keep (.same s2)
    have hEl : (pickL vv (validsA a) fun t => t.experiment == n0).length ≤ 32 := Nat.le_trans (pick_len _ _) hVl
    have hst2 := step_list W h
    generalize (pickL vv (validsA a) fun t => t.experiment == n0) = zs at hD2 hE hEl
    generalize ((validsA a).filter fun t => t.experiment == n0) = ts at hE hst2
    have s12 := s1.trans s2
    refine ⟨_, rfl, D, zs, rfl, .inl (SqL.of hD2), le1, fun F hF => ?_⟩
    have s3 : Same H2 (upd H2 F (.lst [V.int (zs.length : Nat)])) := same_new hF
    refine ⟨_, rfl, D, rfl, ⟨_, SqL.of (s3 _ _ hD2)⟩, ?_⟩
    refine for_it (walk_list (K := K) (a := D) (xs := zs)) (fun i σ H4 => (∃ v5, σ = [some (.ref p), some (.ref pn), some (.ref pr), some (.ref D), some (.ref F), v5]) ∧ Same H2 H4 ∧ H4 F = some (.lst (nI zs.length :: nats (lstNs (ts.take i)))))
      ⟨⟨_, rfl⟩, s3, by rw [upd_same]; rfl⟩ (fun i σ H4 _ h => SqL.of (h.2.1 _ _ hD2)) ?_ ?_
    · rintro i y σ H4 H5 hi ⟨⟨v5, rfl⟩, s4, hF4⟩ ⟨rfl, hx⟩
      obtain ⟨t, ht, b, bx, bp, rfl, hb, _⟩ := hE.left hx
      refine ⟨_, rfl, .inl ⟨rfl, _, SqL.of hF4⟩, _, rfl, b, _, _, _, _, rfl, s4 _ _ hb, T.c_Stored, T.n_Stored_variant, rfl, _, rfl, b, _, _, _, _, rfl, s4 _ _ hb, T.c_Stored, T.n_Stored_expiry, rfl, le2, fun G hG => ?_⟩
      have s5 : Same H5 (upd H5 G (.lst [nI t.variant, nI t.expiry])) := same_new hG
      refine ⟨F, G, _, _, rfl, rfl, s5 _ _ hF4, upd_same, ?_, ⟨_, rfl⟩, same_upd (s4.trans s5) hF, ?_⟩
      · rw [List.length_cons, nats_len, lstNs_len, List.length_take]
        exact Nat.le_trans (show _ ≤ 1000 by
          show 2 * min i ts.length + 1 + 2 ≤ 1000
          have := hE.len
          omega) (by decide)
      · rw [upd_same, take_snoc ht, lstNs_snoc, nats_app]
        rfl
    · rintro σ H4 ⟨⟨v5, rfl⟩, s4, hF4⟩
      rw [List.take_of_length_le (by rw [hE.len]; exact Nat.le_refl _)] at hF4
      refine ⟨_, rfl, ?_⟩
      refine k.at_ R hT (s12.trans s4) (.fr (.same s12) hF) hst2 ?_
      rw [hF4, hE.len]
      show _ = some (HO.lst (V.int _ :: (Kex2.toInts _).map V.int))
      rw [ints_nats]
      rfl
theorem sc_call_sample_counts : FnScope ["own", "numbers", "row", "found", "number", "told"] ["own", "numbers", "row"] (defScope s_call_sample_counts) := ⟨rfl, rfl, rfl, by decide +kernel, rfl, by decide +kernel, by decide +kernel⟩
theorem h_sample_counts (T : Txt K mg) : Held P w K mg base 5 (He.ga K "call_sample_counts") (spDeed P w K 2 fun n _ => .sampleCounts (n.getD 0 0) (n.getD 1 0)) := by
  refine held_of (ps := ["own", "numbers", "row"]) T.d_call_sample_counts sc_call_sample_counts (fun vs H Q E h => by obtain ⟨_, _, _, _, _, _, _, rfl, _⟩ := h; rfl) (fun _ _ _ _ _ _ us hl => match us, hl with | [_, _, _], _ => rfl) (fun cdv A outer s H vs Q E hr h => ?_)
  have nd := sc_call_sample_counts.nd
  have hr1 : Room 1 _ := hr.mono (by decide)
  refine ⟨_, pss_cons (ps_if (pt_not (pt_val (pe_methH (h_has T) hr1 T.c_Platform T.m_Platform_has_experiment (pv 0) (pa_cons (pe_ix ix_list (pv 1) pe_int (fun _ _ => rfl)) pa_nil)))) (pss_one (ps_ret (pe_lst (pa_cons (pe_un un_neg pe_int) pa_nil)))) pss_nil)
    (pss_cons (ps_if (pt_cmpR op_gt (pe_ix ix_list (pv 1) pe_int (fun _ _ => rfl)) (pe_gi T.i_MOST_UNITS) (nomark _)) (pss_one (ps_ret (pe_lst (pa_cons (pe_un un_neg pe_int) pa_nil)))) pss_nil)
    (pss_cons (ps_set (i := 3) nd rfl (Or.inl rfl) (pe_op op_rep (pe_lst (pa_cons pe_int pa_nil)) (pe_callB call_len_seq (by rfl) T.f_len PySem.boot_len (pa_cons (pe_fld (pe_ix ix_list (pe_fld (pv 0) rfl) (pe_ix ix_list (pv 1) pe_int (fun _ _ => rfl)) (fun _ _ => rfl)) rfl) pa_nil))))
    (pss_cons (ps_for PassesOwn.never rfl (pi_range1 rfl T.f_range (pa_cons (pe_ix ix_list (pv 1) pe_int (fun _ _ => rfl)) pa_nil)) (pg_name (i := 4) nd rfl (Or.inl rfl))
      (pss_cons (ps_set (i := 5) nd rfl (Or.inl rfl) (pe_methH (h_assignment T) hr T.c_Platform T.m_Platform_assignment (pv 0) (pa_cons (pe_ix ix_list (pv 1) pe_int (fun _ _ => rfl)) (pa_cons (pe_callTy call_tupL (by rfl) T.f_tuple (by decide +kernel) (pa_cons (pe_callH (h_sample_unit T) hr1 T.g_sample_unit (pa_cons (pv 4) pa_nil)) pa_nil)) pa_nil))))
      (pss_one (ps_if (pt_cmpR (op_neD hr.units) (pv 5) (pe_gr T.g_NONE) (nomark _)) (pss_one (ps_augS (pv 3) (pe_ix ix_tup (pv 5) pe_int (fun _ _ => rfl)) get_list pe_int ip_add set_list)) pss_nil))))
    (pss_one (ps_ret (pe_op op_cat (pe_lst (pa_cons (pe_callB call_len_seq (by rfl) T.f_len PySem.boot_len (pa_cons (pv 3) pa_nil)) pa_nil)) (pv 3))))))), ?_⟩
  obtain ⟨p, pn, pr, c, a, nums, row, rfl, R, W, hN, hn, hR, hrow, hT, k⟩ := h
  obtain ⟨n0, n1, rfl⟩ := two_of hn
  obtain ⟨dx, q0, hp, hq0⟩ := id R.pl
  obtain ⟨vs, he, hE, _⟩ := id R.es
  refine ⟨_, rfl, p, dx, _, rfl, hp, rfl, _, rfl, pn, _, _, _, rfl, rfl, hN, rfl, p, c, a, n0, rfl, R, _, rfl, ?_⟩
  cases h : experimentAt a n0 with
  | none => exact iteT ⟨_, rfl, le1, fun q hq => k.new R hT (Same.refl H) (res := .value (-2)) ((step_none h).2.2.2.2.2.2.2.2 n1) rfl hq⟩
  | some x =>
    have hst := step_samp (n := n1) h
    obtain ⟨y, hy, b, bx, bp, rfl, hb, hbp⟩ := hE.right (exp_at.mp h)
    obtain ⟨_, xW, _, _⟩ := W.exp n0 x h
    refine iteF ⟨_, rfl, pn, _, 1, _, rfl, rfl, hN, rfl, _, _, rfl, rfl, _, rfl, ?_⟩
    rw [show decide ((300 : Int) < (n1 : Int)) = decide (300 < n1) from dec_lt 300 n1]
    by_cases h1 : 300 < n1
    · rw [decide_eq_true h1]
      rw [if_pos (show Kex2.maxSample < n1 from h1)] at hst
      exact iteT ⟨_, rfl, le1, fun q hq => k.new R hT (Same.refl H) (res := .value (-22)) hst rfl hq⟩
    rw [decide_eq_false h1]
    rw [if_neg (show ¬ Kex2.maxSample < n1 from h1)] at hst
    refine iteF ⟨le1, fun l hl => ⟨_, rfl, p, _, _, _, _, rfl, (same_new hl) _ _ hp, T.c_Platform, T.n_Platform_experiments, rfl, _, rfl, pn, _, _, _, rfl, rfl, (same_new hl).seq hN, rfl, c.es, vs, _, _, rfl, rfl, SqL.of ((same_new hl) _ _ he), atI_nat hy, b, _, _, _, _, rfl, (same_new hl) _ _ hb, T.c_Experiment, T.n_Experiment_weights, rfl, bp, _, rfl, .inr (same_seqT (same_new hl) hbp), l, _, _, rfl, rfl, upd_same, ?_, ?_, ?_, fun D hD => ?_⟩⟩
    · rw [nats_len]; omega
    · rw [nats_len]; have := xW.2.1; omega
    · rw [nats_len, Int.toNat_natCast]
      exact Nat.le_trans (show 1 * x.weights.length ≤ 4 by have := xW.2.1; omega) (by decide)
    have s1 : Same H (upd H l (.lst [V.int 0])) := same_new hl
    have s2 := s1.trans (same_new (o := .lst (List.replicate ((nats x.weights).length : Int).toNat [V.int 0]).flatten) hD)
    have nD0 : H D = none := by
      cases q : H D with
      | none => rfl
      | some o => rw [s1 _ _ q] at hD; cases hD
    have hD2 : upd (upd H l (.lst [V.int 0])) D (.lst (List.replicate ((nats x.weights).length : Int).toNat [V.int 0]).flatten) D = some (.lst (nats (samp a n0 x.weights.length 0))) := by
      rw [upd_same, nats_len, Int.toNat_natCast, samp_zero]
      show some (HO.lst (List.replicate x.weights.length [V.int 0]).flatten) = some (HO.lst ((List.replicate x.weights.length 0).map nI))
      rw [List.map_replicate]
      congr 2
      induction x.weights.length with
      | zero => rfl
      | succ m ih => rw [List.replicate_succ, List.flatten_cons, ih, List.replicate_succ]; rfl
    generalize upd (upd H l (.lst [V.int 0])) D (.lst (List.replicate ((nats x.weights).length : Int).toNat [V.int 0]).flatten) = H2 at s2 hD2 ⊢
    clear hD s1 hl
    refine ⟨_, rfl, pn, _, 1, _, rfl, rfl, s2.seq hN, rfl, _, rfl, ?_, ?_, ?_⟩
    · omega
    · omega
    rw [Int.toNat_natCast]
    refine for_it (walk_range (lo := 0) (n := n1)) (fun i σ H3 => (∃ v4 v5, σ = [some (.ref p), some (.ref pn), some (.ref pr), some (.ref D), v4, v5]) ∧ Same H H3 ∧ H3 D = some (.lst (nats (samp a n0 x.weights.length i))))
      ⟨⟨_, _, rfl⟩, s2, hD2⟩ (fun i σ H3 _ h => trivial) ?_ ?_
    · rintro i y σ H3 H4 hi ⟨⟨v4, v5, rfl⟩, s3, hD3⟩ ⟨rfl, hy0⟩
      obtain rfl : y = nI i := hy0.trans (congrArg V.int (show (0 : Int) + (i : Int) = ((i : Nat) : Int) by omega))
      refine ⟨_, rfl, p, dx, _, rfl, s3 _ _ hp, rfl, _, rfl, pn, _, _, _, rfl, rfl, s3.seq hN, rfl, _, rfl, i, rfl, by omega, fun H5 G s5 hG hG5 => ?_⟩
      refine ⟨G, _, rfl, SqL.of hG5, fun t ht => ?_⟩
      have s6 := (s3.trans s5).trans (same_new (o := .tup (nats (Kex2.sampleUnit i))) ht)
      refine ⟨p, t, c, a, n0, Kex2.sampleUnit i, rfl, R.same s6, W, by rw [h]; rfl, SqT.of upd_same, fun H7 y s7 hy => ?_⟩
      have s67 := s6.trans s7
      have hD7 : H7 D = some (.lst (nats (samp a n0 x.weights.length i))) := s7 _ _ (same_new ht _ _ (s5 _ _ hD3))
      obtain ⟨t2, rfl, ht2⟩ := hy.tup
      refine ⟨_, rfl, _, _, own_dp ht2, own_dp (T.none_tup _), pair_shaped _ _, pair_shaped _ _, _, rfl, ?_⟩
      rw [ans_none]
      cases hr0 : Kex2.assignment a n0 (Kex2.sampleUnit i) with
      | none =>
        refine iteF ⟨⟨_, _, rfl⟩, s67, ?_⟩
        rw [samp_none hr0]
        exact hD7
      | some r =>
        rw [hr0] at ht2
        have hlt := asg_lt W h hr0
        refine iteT ⟨_, rfl, _, rfl, t2, _, 0, _, rfl, rfl, ht2, rfl, D, _, r.1, _, rfl, rfl, SqL.of hD7, nats_get (getD_get (by rw [samp_len]; exact hlt)), _, _, rfl, rfl, D, _, _, r.1, rfl, rfl, hD7, ixN_nat (by rw [nats_len, samp_len]; exact hlt), ⟨_, _, rfl⟩, same_upd s67 nD0, ?_⟩
        rw [upd_same, samp_some hr0 hlt]
        rw [show V.int (((samp a n0 x.weights.length i).getD r.1 0 : Nat) + (1 : Int)) = nI ((samp a n0 x.weights.length i).getD r.1 0 + 1) from rfl, nats_set]
    · rintro σ H3 ⟨⟨v4, v5, rfl⟩, s3, hD3⟩
      refine ⟨_, rfl, D, _, rfl, .inl (SqL.of hD3), le1, fun F hF => ?_⟩
      have s4 := same_new (o := .lst [V.int ((nats (samp a n0 x.weights.length n1)).length : Nat)]) hF
      refine ⟨_, rfl, F, D, _, _, rfl, rfl, upd_same, s4 _ _ hD3, ?_, fun q hq => ?_⟩
      · rw [nats_len, samp_len]
        exact Nat.le_trans (show 1 + x.weights.length ≤ 5 by have := xW.2.1; omega) (by decide)
      · refine k.new R hT (s3.trans s4) hst ?_ hq
        rw [nats_len]
        show _ = V.int _ :: (Kex2.toInts _).map V.int
        rw [ints_nats]
        rfl
end
end Vb

set_option Elab.async false
set_option linter.all false
set_option maxRecDepth 100000
set_option maxHeartbeats 4000000
/-! cross_table, experiment_of. -/
namespace Vb
open PySem PySem.Spec PyProof.Rows L2
open LamX (ExtN Tabs TabB)
open Kex2 (experimentAt)
theorem cross_len (a : Kex2.Assigner) (s1 s2 k : Nat) : (cross a s1 s2 k).length = 4 := rfl
theorem place_lt (b1 b2 : Bool) : placeOf b1 b2 < 4 := by cases b1 <;> cases b2 <;> decide
theorem three_get (x y z : Nat) : True := trivial
section
variable {P : Program} {w : World} {K : PySem.W.Frag} {mg : Str → Option Value} {base : Heap}
theorem sc_call_cross_table : FnScope ["own", "numbers", "row", "first", "second", "many", "found", "number", "unit", "place"] ["own", "numbers", "row"] (defScope s_call_cross_table) := ⟨rfl, rfl, rfl, by decide +kernel, rfl, by decide +kernel, by decide +kernel⟩
theorem h_cross_table (T : Txt K mg) : Held P w K mg base 3 (He.ga K "call_cross_table") (spDeed P w K 3 fun n _ => .crossTable (n.getD 0 0) (n.getD 1 0) (n.getD 2 0)) := by
  refine held_of (ps := ["own", "numbers", "row"]) T.d_call_cross_table sc_call_cross_table (fun vs H Q E h => by obtain ⟨_, _, _, _, _, _, _, rfl, _⟩ := h; rfl) (fun _ _ _ _ _ _ us hl => match us, hl with | [_, _, _], _ => rfl) (fun cdv A outer s H vs Q E hr h => ?_)
  have nd := sc_call_cross_table.nd
  have hr1 : Room 1 _ := hr.mono (by decide)
  refine ⟨_, pss_cons (ps_asg (pv 1) (pg_unl rfl (pgs_cons (pg_name (i := 3) nd rfl (Or.inl rfl)) (pgs_cons (pg_name (i := 4) nd rfl (Or.inl rfl)) (pgs_cons (pg_name (i := 5) nd rfl (Or.inl rfl)) pgs_nil)))))
    (pss_cons (ps_if (PW.pt (pw_or (pt_cmpR op_ge (pv 3) (pe_callB call_len_seq (by rfl) T.f_len PySem.boot_len (pa_cons (pe_fld (pv 0) rfl) pa_nil)) (nomark _)) (pw_or1 (pt_cmpR op_ge (pv 4) (pe_callB call_len_seq (by rfl) T.f_len PySem.boot_len (pa_cons (pe_fld (pv 0) rfl) pa_nil)) (nomark _)))))
      (pss_one (ps_ret (pe_lst (pa_cons (pe_un un_neg pe_int) pa_nil)))) pss_nil)
    (pss_cons (ps_if (pt_cmpR op_gt (pv 5) (pe_gi T.i_MOST_UNITS) (nomark _)) (pss_one (ps_ret (pe_lst (pa_cons (pe_un un_neg pe_int) pa_nil)))) pss_nil)
    (pss_cons (ps_set (i := 6) nd rfl (Or.inl rfl) (pe_lst (pa_cons pe_int (pa_cons pe_int (pa_cons pe_int (pa_cons pe_int pa_nil))))))
    (pss_cons (ps_for PassesOwn.never rfl (pi_range1 rfl T.f_range (pa_cons (pv 5) pa_nil)) (pg_name (i := 7) nd rfl (Or.inl rfl))
      (pss_cons (ps_set (i := 8) nd rfl (Or.inl rfl) (pe_callH (h_sample_unit T) hr1 T.g_sample_unit (pa_cons (pv 7) pa_nil)))
      (pss_cons (ps_set (i := 9) nd rfl (Or.inl rfl) (pe_ifExp (pt_cmpR op_lt (pe_callH (h_bucket_behind T) hr T.g_bucket_behind (pa_cons (pe_fld (pe_ix ix_list (pe_fld (pv 0) rfl) (pv 3) (fun _ _ => rfl)) rfl) (pa_cons (pv 8) pa_nil))) pe_int (nomark _)) pe_int pe_int))
      (pss_cons (ps_aug (i := 9) nd rfl (Or.inl rfl) (pe_ifExp (pt_cmpR op_lt (pe_callH (h_bucket_behind T) hr T.g_bucket_behind (pa_cons (pe_fld (pe_ix ix_list (pe_fld (pv 0) rfl) (pv 4) (fun _ _ => rfl)) rfl) (pa_cons (pv 8) pa_nil))) pe_int (nomark _)) pe_int pe_int) ip_add)
      (pss_one (ps_augS (pv 6) (pv 9) get_list pe_int ip_add set_list))))))
    (pss_one (ps_ret (pe_op op_cat (pe_lst (pa_cons pe_int pa_nil)) (pv 6)))))))), ?_⟩
  obtain ⟨p, pn, pr, c, a, nums, row, rfl, R, W, hN, hn, hR, hrow, hT, k⟩ := h
  obtain ⟨n0, n1, n2, rfl⟩ := three_of hn
  obtain ⟨dx, q0, hp, hq0⟩ := id R.pl
  obtain ⟨vl, hls, hL, _⟩ := id R.ls
  refine ⟨_, rfl, pn, _, rfl, hN, rfl, ?_⟩
  refine ⟨_, _, rfl, _, _, rfl, _, _, rfl, rfl, ?_⟩
  refine ⟨_, rfl, _, rfl, p, _, _, _, _, rfl, hp, T.c_Platform, T.n_Platform_layers, rfl, c.ls, vl, rfl, .inl (SqL.of hls), _, _, rfl, rfl, _, rfl, ?_⟩
  rw [hL.len, dec_le]
  by_cases h : a.layers.length ≤ n0
  · rw [decide_eq_true h]
    exact iteT (iteT ⟨_, rfl, le1, fun q hq => k.new R hT (Same.refl H) (res := .value (-2)) (step_cross2 (.inl h)) rfl hq⟩)
  rw [decide_eq_false h]
  refine iteF ⟨_, rfl, _, rfl, p, _, _, _, _, rfl, hp, T.c_Platform, T.n_Platform_layers, rfl, c.ls, vl, rfl, .inl (SqL.of hls), _, _, rfl, rfl, _, rfl, ?_⟩
  rw [hL.len, dec_le]
  by_cases h' : a.layers.length ≤ n1
  · rw [decide_eq_true h']
    exact iteT ⟨_, rfl, le1, fun q hq => k.new R hT (Same.refl H) (res := .value (-2)) (step_cross2 (.inr h')) rfl hq⟩
  rw [decide_eq_false h']
  obtain ⟨l, hl⟩ := lay_of (a := a) (i := n0) (by omega)
  obtain ⟨m, hm⟩ := lay_of (a := a) (i := n1) (by omega)
  have hst := step_cross (n := n2) hl hm
  refine iteF ⟨_, rfl, _, _, rfl, rfl, _, rfl, ?_⟩
  rw [show decide ((300 : Int) < (n2 : Int)) = decide (300 < n2) from dec_lt 300 n2]
  by_cases h1 : 300 < n2
  · rw [decide_eq_true h1]
    rw [if_pos (show Kex2.maxSample < n2 from h1)] at hst
    exact iteT ⟨_, rfl, le1, fun q hq => k.new R hT (Same.refl H) (res := .value (-22)) hst rfl hq⟩
  rw [decide_eq_false h1]
  rw [if_neg (show ¬ Kex2.maxSample < n2 from h1)] at hst
  obtain ⟨y1, hy1, la, lx, lp, lo, rfl, hla, _⟩ := hL.right hl
  obtain ⟨y2, hy2, ma, mx, mp, mo, rfl, hma, _⟩ := hL.right hm
  refine iteF ⟨(by show 4 ≤ sizeLine; decide), fun D hD => ?_⟩
  have s1 : Same H (upd H D (.lst [V.int 0, V.int 0, V.int 0, V.int 0])) := same_new hD
  have hD1 : upd H D (.lst [V.int 0, V.int 0, V.int 0, V.int 0]) D = some (.lst (nats (cross a (sltd l.salt) (sltd m.salt) 0))) := upd_same
  generalize upd H D (.lst [V.int 0, V.int 0, V.int 0, V.int 0]) = H1 at s1 hD1 ⊢
  refine ⟨_, rfl, _, rfl, ?_, ?_, ?_⟩
  · omega
  · omega
  rw [Int.toNat_natCast]
  refine for_it (walk_range (lo := 0) (n := n2)) (fun i σ H3 => (∃ v7 v8 v9, σ = [some (.ref p), some (.ref pn), some (.ref pr), some (nI n0), some (nI n1), some (nI n2), some (.ref D), v7, v8, v9]) ∧ Same H H3 ∧ H3 D = some (.lst (nats (cross a (sltd l.salt) (sltd m.salt) i))))
    ⟨⟨_, _, _, rfl⟩, s1, hD1⟩ (fun i σ H3 _ h => trivial) ?_ ?_
  · rintro i y σ H3 H4 hi ⟨⟨v7, v8, v9, rfl⟩, s3, hD3⟩ ⟨rfl, hy0⟩
    obtain rfl : y = nI i := hy0.trans (congrArg V.int (show (0 : Int) + (i : Int) = ((i : Nat) : Int) by omega))
    refine ⟨_, rfl, i, rfl, by omega, fun H5 G s5 hG hG5 => ?_⟩
    have s35 := s3.trans s5
    have hD5 := s5 _ _ hD3
    refine ⟨_, rfl, p, _, _, _, _, rfl, s35 _ _ hp, T.c_Platform, T.n_Platform_layers, rfl, _, rfl, c.ls, vl, _, _, rfl, rfl, SqL.of (s35 _ _ hls), atI_nat hy1, la, _, _, _, _, rfl, s35 _ _ hla, T.c_Layer, T.n_Layer_begun, rfl, _, rfl, _, G, _, rfl, .inl (SqL.of hG5), _, _, rfl, rfl, _, rfl, ?_⟩
    have fin : ∀ (b1 : Bool), b1 = decide (bkt (sltd l.salt) (Kex2.sampleUnit i) < 50) → ∀ z1 : Nat, z1 = (if b1 = true then 0 else 2) → ∀ (Dn : Ends), (∀ σ' H', (∃ v7 v8 v9, σ' = [some (.ref p), some (.ref pn), some (.ref pr), some (nI n0), some (nI n1), some (nI n2), some (.ref D), v7, v8, v9]) ∧ Same H H' ∧ H' D = some (.lst (nats (cross a (sltd l.salt) (sltd m.salt) (i + 1)))) → Dn.nx σ' H') →
        tSeq (tAug 9 (tIf (tTest (tOp (rI0 fun i j => .bl (decide (i < j))) (tCa (spBucket K) (tCons (tFld K (tOp (rIxL K) (tFld K (tVar 0) "layers") (tVar 4)) "begun") (tCons (tVar 8) tNil))) (tC (.int 50)))) (tC (.int 0)) (tC (.int 1))) (ipI fun i j => i + j)) (tAugS (tVar 6) (tVar 9) (tC (.int 1)) (gIxL K) (ipI fun i j => i + j) rSetL) Dn [some (.ref p), some (.ref pn), some (.ref pr), some (nI n0), some (nI n1), some (nI n2), some (.ref D), some (nI i), some (.ref G), some (nI z1)] H5 := by
      intro b1 hb1 z1 hz1 Dn hDn
      refine ⟨_, rfl, _, rfl, p, _, _, _, _, rfl, s35 _ _ hp, T.c_Platform, T.n_Platform_layers, rfl, _, rfl, c.ls, vl, _, _, rfl, rfl, SqL.of (s35 _ _ hls), atI_nat hy2, ma, _, _, _, _, rfl, s35 _ _ hma, T.c_Layer, T.n_Layer_begun, rfl, _, rfl, _, G, _, rfl, .inl (SqL.of hG5), _, _, rfl, rfl, _, rfl, ?_⟩
      rw [show decide (((bkt (sltd m.salt) (Kex2.sampleUnit i) : Nat) : Int) < 50) = decide (bkt (sltd m.salt) (Kex2.sampleUnit i) < 50) from dec_lt _ 50]
      have last : ∀ b2 : Bool, b2 = decide (bkt (sltd m.salt) (Kex2.sampleUnit i) < 50) → ∀ z : Int, z = ((placeOf b1 b2 : Nat) : Int) → tAugS (tVar 6) (tVar 9) (tC (.int 1)) (gIxL K) (ipI fun i j => i + j) rSetL Dn [some (.ref p), some (.ref pn), some (.ref pr), some (nI n0), some (nI n1), some (nI n2), some (.ref D), some (nI i), some (.ref G), some (.int z)] H5 := by
        intro b2 hb2 z hz
        subst hz
        have hlt := place_lt b1 b2
        refine ⟨_, rfl, _, rfl, D, _, placeOf b1 b2, _, rfl, rfl, SqL.of hD5, nats_get (getD_get (by rw [cross_len]; exact hlt)), _, _, rfl, rfl, D, _, _, placeOf b1 b2, rfl, rfl, hD5, ixN_nat (by rw [nats_len, cross_len]; exact hlt), hDn _ _ ⟨⟨_, _, _, rfl⟩, same_upd s35 hD, ?_⟩⟩
        rw [upd_same, cross_succ, ← hb1, ← hb2]
        rw [show V.int (((cross a (sltd l.salt) (sltd m.salt) i).getD (placeOf b1 b2) 0 : Nat) + (1 : Int)) = nI ((cross a (sltd l.salt) (sltd m.salt) i).getD (placeOf b1 b2) 0 + 1) from rfl, nats_set]
      cases hb2 : decide (bkt (sltd m.salt) (Kex2.sampleUnit i) < 50) with
      | true =>
        refine iteT ⟨_, _, rfl, rfl, last true hb2.symm _ ?_⟩
        rw [hz1]
        cases b1 <;> rfl
      | false =>
        refine iteF ⟨_, _, rfl, rfl, last false hb2.symm _ ?_⟩
        rw [hz1]
        cases b1 <;> rfl
    rw [show decide (((bkt (sltd l.salt) (Kex2.sampleUnit i) : Nat) : Int) < 50) = decide (bkt (sltd l.salt) (Kex2.sampleUnit i) < 50) from dec_lt _ 50]
    cases hb1 : decide (bkt (sltd l.salt) (Kex2.sampleUnit i) < 50) with
    | true => exact iteT (fin true hb1.symm 0 rfl _ fun σ' H' h => h)
    | false => exact iteF (fin false hb1.symm 2 rfl _ fun σ' H' h => h)
  · rintro σ H3 ⟨⟨v7, v8, v9, rfl⟩, s3, hD3⟩
    refine ⟨le1, fun F hF => ?_⟩
    have s4 := same_new (o := .lst [V.int 4]) hF
    refine ⟨_, rfl, F, D, _, _, rfl, rfl, upd_same, s4 _ _ hD3, (by rw [nats_len, cross_len]; show 1 + 4 ≤ sizeLine; decide), fun q hq => ?_⟩
    refine k.new R hT (s3.trans s4) hst ?_ hq
    show _ = V.int _ :: (Kex2.toInts _).map V.int
    rw [ints_nats]
    rfl
theorem sc_call_experiment_of : FnScope ["own", "numbers", "row", "number", "found"] ["own", "numbers", "row"] (defScope s_call_experiment_of) := ⟨rfl, rfl, rfl, by decide +kernel, rfl, by decide +kernel, by decide +kernel⟩
theorem h_experiment_of (T : Txt K mg) : Held P w K mg base 5 (He.ga K "call_experiment_of") (spDeed P w K 1 fun n r => .experimentOf (n.getD 0 0) r) := by
  refine held_of (ps := ["own", "numbers", "row"]) T.d_call_experiment_of sc_call_experiment_of (fun vs H Q E h => by obtain ⟨_, _, _, _, _, _, _, rfl, _⟩ := h; rfl) (fun _ _ _ _ _ _ us hl => match us, hl with | [_, _, _], _ => rfl) (fun cdv A outer s H vs Q E hr h => ?_)
  have nd := sc_call_experiment_of.nd
  have hr1 : Room 1 _ := hr.mono (by decide)
  refine ⟨_, pss_cons (ps_if (pt_cmpR op_ge (pe_ix ix_list (pv 1) pe_int (fun _ _ => rfl)) (pe_callB call_len_seq (by rfl) T.f_len PySem.boot_len (pa_cons (pe_fld (pv 0) rfl) pa_nil)) (nomark _)) (pss_one (ps_ret (pe_lst (pa_cons (pe_un un_neg pe_int) pa_nil)))) pss_nil)
    (pss_cons (ps_if (pt_not (pt_val (pe_callH (h_are_octets T) hr1 T.g_are_octets (pa_cons (pv 2) (pa_cons pe_int pa_nil))))) (pss_one (ps_ret (pe_lst (pa_cons (pe_un un_neg pe_int) pa_nil)))) pss_nil)
    (pss_cons (ps_for PassesOwn.never rfl (pi_range1 rfl T.f_range (pa_cons (pe_callB call_len_seq (by rfl) T.f_len PySem.boot_len (pa_cons (pe_fld (pv 0) rfl) pa_nil)) pa_nil)) (pg_name (i := 3) nd rfl (Or.inl rfl))
      (pss_one (ps_if (PW.pt (pw_and (pt_val (pe_methH (h_has T) hr1 T.c_Platform T.m_Platform_has_experiment (pv 0) (pa_cons (pv 3) pa_nil))) (pw_and1 (pt_cmpR (op_eqD hr.units) (pe_fld (pe_ix ix_list (pe_fld (pv 0) rfl) (pv 3) (fun _ _ => rfl)) rfl) (pe_ix ix_list (pv 1) pe_int (fun _ _ => rfl)) (nomark _)))))
        (pss_cons (ps_set (i := 4) nd rfl (Or.inl rfl) (pe_methH (h_assignment T) hr T.c_Platform T.m_Platform_assignment (pv 0) (pa_cons (pv 3) (pa_cons (pe_callTy call_tupL (by rfl) T.f_tuple (by decide +kernel) (pa_cons (pv 2) pa_nil)) pa_nil))))
        (pss_one (ps_if (pt_cmpR (op_neD hr.units) (pv 4) (pe_gr T.g_NONE) (nomark _)) (pss_one (ps_ret (pe_lst (pa_cons (pv 3) (pa_cons (pe_ix ix_tup (pv 4) pe_int (fun _ _ => rfl)) (pa_cons (pe_ix ix_tup (pv 4) pe_int (fun _ _ => rfl)) pa_nil)))))) pss_nil))) pss_nil)))
    (pss_one (ps_ret (pe_lst (pa_cons (pe_un un_neg pe_int) pa_nil)))))), ?_⟩
  obtain ⟨p, pn, pr, c, a, nums, row, rfl, R, W, hN, hn, hR, hrow, hT, k⟩ := h
  obtain ⟨n0, rfl⟩ := one_of hn
  obtain ⟨dx, q0, hp, hq0⟩ := id R.pl
  obtain ⟨vl, hls, hL, _⟩ := id R.ls
  obtain ⟨vs, he, hE, _⟩ := id R.es
  refine ⟨_, rfl, pn, _, _, _, rfl, rfl, hN, rfl, _, rfl, p, _, _, _, _, rfl, hp, T.c_Platform, T.n_Platform_layers, rfl, c.ls, vl, rfl, .inl (SqL.of hls), _, _, rfl, rfl, _, rfl, ?_⟩
  rw [hL.len, dec_le]
  by_cases h : a.layers.length ≤ n0
  · rw [decide_eq_true h]
    exact iteT ⟨_, rfl, le1, fun q hq => k.new R hT (Same.refl H) (res := .value (-2)) (Prod.ext rfl (if_pos h)) rfl hq⟩
  rw [decide_eq_false h]
  refine iteF ⟨_, rfl, pr, row, 1, rfl, hR, fun H1 s1 => ?_⟩
  rw [octs1 hrow]
  cases h2 : Kex2.isUnit row with
  | false => exact ⟨_, rfl, iteT ⟨_, rfl, le1, fun q hq => k.new R hT s1 (res := .value (-22)) (step_exOf22 h h2) rfl hq⟩⟩
  | true =>
    have hst := step_exOf h h2
    have h8 := W.ne
    refine ⟨_, rfl, iteF ⟨_, rfl, p, _, _, _, _, rfl, s1 _ _ hp, T.c_Platform, T.n_Platform_experiments, rfl, c.es, vs, rfl, .inl (SqL.of (s1 _ _ he)), _, rfl, ?_, ?_, ?_⟩⟩
    · omega
    · rw [hE.len]; omega
    rw [hE.len, Int.toNat_natCast]
    refine for_it (walk_range (lo := 0) (n := a.experiments.length)) (fun i σ H3 => (∃ v3 v4, σ = [some (.ref p), some (.ref pn), some (.ref pr), v3, v4]) ∧ Same H H3 ∧ ∀ j, j < i → inEx a n0 row j = false)
      ⟨⟨_, _, rfl⟩, s1, fun j h => by omega⟩ (fun i σ H3 _ h => trivial) ?_ ?_
    · rintro i y σ H3 H4 hi ⟨⟨v3, v4, rfl⟩, s3, hno⟩ ⟨rfl, hy0⟩
      obtain rfl : y = nI i := hy0.trans (congrArg V.int (show (0 : Int) + (i : Int) = ((i : Nat) : Int) by omega))
      have step1 : inEx a n0 row i = false → ∀ j, j < i + 1 → inEx a n0 row j = false := fun hf j hj => by
        by_cases e : j = i
        · rw [e]; exact hf
        · exact hno j (by omega)
      refine ⟨_, rfl, p, dx, _, rfl, s3 _ _ hp, rfl, _, rfl, p, c, a, i, rfl, R.same s3, _, rfl, ?_⟩
      cases hx : experimentAt a i with
      | none =>
        refine iteF (iteF ⟨⟨_, _, rfl⟩, s3, step1 ?_⟩)
        unfold inEx
        rw [hx]
        rfl
      | some x =>
        obtain ⟨y, hy, b, bx, bp, rfl, hb, hbp⟩ := hE.right (exp_at.mp hx)
        refine iteT ⟨_, rfl, p, _, _, _, _, rfl, s3 _ _ hp, T.c_Platform, T.n_Platform_experiments, rfl, _, rfl, c.es, vs, _, _, rfl, rfl, SqL.of (s3 _ _ he), atI_nat hy, b, _, _, _, _, rfl, s3 _ _ hb, T.c_Experiment, T.n_Experiment_layer, rfl, _, rfl, pn, _, _, _, rfl, rfl, s3.seq hN, rfl, .int x.layer, .int n0, .int _, .int _, int_shaped _, int_shaped _, _, rfl, ?_⟩
        rw [int_eqv]
        by_cases c1 : x.layer = n0
        · rw [decide_eq_true c1]
          refine iteT ⟨_, rfl, p, dx, _, rfl, s3 _ _ hp, rfl, _, rfl, _, rfl, pr, _, rfl, s3.seq hR, fun t g => ?_⟩
          have s4 := s3.trans (same_new (o := .tup (nats row)) g)
          refine ⟨p, t, c, a, i, row, rfl, R.same s4, W, by rw [hx]; rfl, SqT.of upd_same, fun H6 y s6 hy => ?_⟩
          have s46 := s4.trans s6
          obtain ⟨t2, rfl, ht2⟩ := hy.tup
          refine ⟨_, rfl, _, _, own_dp ht2, own_dp (T.none_tup _), pair_shaped _ _, pair_shaped _ _, _, rfl, ?_⟩
          rw [ans_none]
          have hin : inEx a n0 row i = (Kex2.assignment a i row).isSome := by
            unfold inEx
            rw [hx]
            show ((some x.layer == some n0) && _) = _
            rw [c1]
            simp
          cases hr0 : Kex2.assignment a i row with
          | none =>
            rw [hr0] at hin
            exact iteF ⟨⟨_, _, rfl⟩, s46, step1 hin⟩
          | some r =>
            rw [hr0] at ht2 hin
            rw [find_first (i := i) (fun j t hj ht => by
              rw [List.getElem?_range (by omega)] at ht
              cases ht
              exact hno j hj) (List.getElem?_range hi) hin] at hst
            have hst : Kex2.step (some a) (.experimentOf n0 row) = (some a, match Kex2.assignment a i row with | none => .value (-33) | some r => .values i (Kex2.toInts [r.1, r.2])) := hst
            rw [hr0] at hst
            exact iteT ⟨_, rfl, _, rfl, t2, _, 0, _, rfl, rfl, ht2, rfl, _, rfl, t2, _, 1, _, rfl, rfl, ht2, rfl, (by show 3 ≤ sizeLine; decide), fun q hq => k.new R hT s46 (res := .values i (Kex2.toInts [r.1, r.2])) hst rfl hq⟩
        · rw [decide_eq_false c1]
          refine iteF ⟨⟨_, _, rfl⟩, s3, step1 ?_⟩
          unfold inEx
          rw [hx]
          show ((some x.layer == some n0) && _) = false
          simp [c1]
    · rintro σ H3 ⟨⟨v3, v4, rfl⟩, s3, hno⟩
      rw [find_none fun j t ht => by
        have hj := (List.getElem?_eq_some_iff.mp ht).1
        rw [List.length_range] at hj
        rw [List.getElem?_range hj] at ht
        cases ht
        exact hno j hj] at hst
      exact ⟨_, rfl, le1, fun q hq => k.new R hT s3 (res := .value (-33)) hst rfl hq⟩
end
end Vb

set_option maxHeartbeats 4000000
set_option Elab.async false
set_option linter.all false
/-! enter, in its cases. -/
namespace Vb
open Kex2 (experimentAt)
def cleanA (a : Kex2.Assigner) : Kex2.Assigner := { a with sticky := validsA a }
theorem Wf.clean {a : Kex2.Assigner} (W : Wf a) : Wf (cleanA a) where
  nl := W.nl
  ne := W.ne
  no := W.no
  ns := Nat.le_trans (List.length_filter_le _ _) W.ns
  own := W.own
  exp := W.exp
  ov := W.ov
  ovn := W.ovn
  st := fun s hs => W.st s (List.mem_filter.mp hs).1
  stn := (W.stn).sublist List.filter_sublist
theorem valids_clean (a : Kex2.Assigner) : validsA (cleanA a) = validsA a := by
  show (a.sticky.filter fun s => decide (a.clock < s.expiry)).filter (fun s => decide (a.clock < s.expiry)) = a.sticky.filter fun s => decide (a.clock < s.expiry)
  rw [List.filter_filter]
  congr 1
  funext s
  exact Bool.and_self _
theorem inLay_clean (a : Kex2.Assigner) (n : Nat) (u : List Nat) : inLay (cleanA a) n u = inLay a n u := rfl
theorem sticky_clean {a : Kex2.Assigner} (W : Wf a) (n : Nat) (u : List Nat) : Kex2.stickyIn (cleanA a) n u = Kex2.stickyIn a n u := by
  rw [W.clean.sticky, W.sticky, valids_clean, inLay_clean]
/-- the reasons -/
theorem asg_cases {a : Kex2.Assigner} {i : Nat} {x : Kex2.Experiment} {u : List Nat} {r : Nat × Nat} (hx : experimentAt a i = some x) (h : Kex2.assignment a i u = some r) :
    r.2 = 0 ∨ (r.2 = 1 ∧ ∃ s, Kex2.stickyIn a x.layer u = some s ∧ s.experiment = i ∧ s.variant = r.1) ∨ (r.2 = 2 ∧ Kex2.stickyIn a x.layer u = none) := by
  rw [asg_eq u hx] at h
  unfold asg at h
  cases ho : a.overrides.find? (fun o => o.experiment == i && o.unit == u) with
  | some o =>
    rw [ho] at h
    cases h
    exact .inl rfl
  | none =>
    rw [ho] at h
    have h : (if Kex2.isHeldOut a u then none
    else match Kex2.stickyIn a x.layer u with
      | some s => if s.experiment = i then some (s.variant, 1) else none
      | none => ((List.range x.weights.length).find? fun v => (Kex2.ownersOf a x.layer).getD (Kex2.bucket (a.layers.getD x.layer ⟨[], []⟩).salt u) 0 == Kex2.ownerOf i v) |>.map fun v => (v, 2)) = some r := h
    cases hh : Kex2.isHeldOut a u with
    | true => rw [hh, if_pos rfl] at h; cases h
    | false =>
      rw [hh, if_neg Bool.false_ne_true] at h
      cases hs : Kex2.stickyIn a x.layer u with
      | some s =>
        rw [hs] at h
        have h : (if s.experiment = i then some (s.variant, 1) else none) = some r := h
        split at h
        · rename_i c
          cases h
          exact .inr (.inl ⟨rfl, s, rfl, c, rfl⟩)
        · cases h
      | none =>
        rw [hs] at h
        obtain ⟨v, hv, e⟩ := Option.map_eq_some_iff.mp h
        cases e
        exact .inr (.inr ⟨rfl, rfl⟩)
theorem enter22 {a : Kex2.Assigner} {i d : Nat} {u : List Nat} {x : Kex2.Experiment} (hx : experimentAt a i = some x) (h : d = 0 ∨ Kex2.maxDuration < d ∨ Kex2.isUnit u = false) : Kex2.step (some a) (.enter i d u) = (some a, .value (-22)) := by
  show (if (experimentAt a i).isNone = true then _ else if d = 0 ∨ Kex2.maxDuration < d ∨ Kex2.isUnit u = false then _ else _) = _
  rw [if_neg (not_none hx), if_pos h]
theorem enter_is {a : Kex2.Assigner} (W : Wf a) {i d : Nat} {u : List Nat} {x : Kex2.Experiment} (hx : experimentAt a i = some x) (h : ¬ (d = 0 ∨ Kex2.maxDuration < d ∨ Kex2.isUnit u = false)) : Kex2.step (some a) (.enter i d u) = (match Kex2.assignment a i u with
      | none => (some a, .value (-33))
      | some r => if r.2 = 0 then (some a, .values r.1 [0])
        else if r.2 = 1 then (some { a with sticky := (validsA a).map fun t => if t.experiment = i ∧ t.unit = u then { t with expiry := max t.expiry (a.clock + d) } else t }, .values r.1 [1])
        else if 32 ≤ (validsA a).length then (some a, .value (-28))
        else (some { a with sticky := validsA a ++ [⟨i, u, r.1, a.clock + d⟩] }, .values r.1 [2])) := by
  show (if (experimentAt a i).isNone = true then _ else if d = 0 ∨ Kex2.maxDuration < d ∨ Kex2.isUnit u = false then _ else _) = _
  rw [if_neg (not_none hx), if_neg h]
  cases Kex2.assignment a i u with
  | none => rfl
  | some r =>
    obtain ⟨v, q⟩ := r
    have e : Kex2.cleaned a = cleanA a := by
      unfold Kex2.cleaned cleanA
      rw [W.valids]
    dsimp only
    rw [e]
    rfl
/-- one of a list changes -/
theorem map_one {l : List Kex2.Sticky} {j i : Nat} {u : List Nat} {s : Kex2.Sticky} (f : Kex2.Sticky → Kex2.Sticky) (hl : l[j]? = some s) (hs : s.experiment = i ∧ s.unit = u) (hp : l.Pairwise fun s t => ¬ (s.experiment = t.experiment ∧ s.unit = t.unit)) : (l.map fun t => if t.experiment = i ∧ t.unit = u then f t else t) = l.set j (f s) := by
  apply List.ext_getElem?
  intro k
  rw [List.getElem?_map, List.getElem?_set]
  have hj := (List.getElem?_eq_some_iff.mp hl).1
  by_cases c : j = k
  · subst c
    rw [if_pos rfl, if_pos hj, hl]
    show some (if s.experiment = i ∧ s.unit = u then f s else s) = _
    rw [if_pos hs]
  · rw [if_neg c]
    cases hk : l[k]? with
    | none => rfl
    | some t =>
      show some (if t.experiment = i ∧ t.unit = u then f t else t) = some t
      rw [if_neg]
      intro ht
      obtain ⟨hk1, hk2⟩ := List.getElem?_eq_some_iff.mp hk
      obtain ⟨hj1, hj2⟩ := List.getElem?_eq_some_iff.mp hl
      rw [List.pairwise_iff_getElem] at hp
      rcases Nat.lt_or_gt_of_ne c with c | c
      · have := hp j k hj1 hk1 c
        rw [hj2, hk2] at this
        exact this ⟨hs.1.trans ht.1.symm, hs.2.trans ht.2.symm⟩
      · have := hp k j hk1 hj1 c
        rw [hj2, hk2] at this
        exact this ⟨ht.1.trans hs.1.symm, ht.2.trans hs.2.symm⟩
theorem inLay_unit {a : Kex2.Assigner} {n : Nat} {u : List Nat} {s : Kex2.Sticky} (h : inLay a n u s = true) : s.unit = u := by
  unfold inLay at h
  simp only [Bool.and_eq_true, beq_iff_eq] at h
  exact h.1
end Vb

set_option Elab.async false
set_option linter.all false
set_option maxRecDepth 100000
set_option maxHeartbeats 4000000
/-! enter. -/
namespace Vb
open PySem PySem.Spec PyProof.Rows L2
open LamX (ExtN Tabs TabB)
open Kex2 (experimentAt)
section
variable {P : Program} {w : World} {K : PySem.W.Frag} {H H' : Hp} {p : Addr} {c : Loc} {a : Kex2.Assigner}
/-- the stored list is another -/
theorem Rep.new_st {D dx q0 : Addr} {ws : List V} {l' : List Kex2.Sticky} (R : Rep P w K H p c a) (hp : H p = some (.ins (He.ga K "Platform") dx (plaF (.bl true) (.ref q0) (nI (sltd a.salt)) (nI a.holdout) (nI a.clock) (.ref c.ls) (.ref c.es) (.ref c.od) (.ref c.st)))) (hq0 : SqT K H q0 (nats a.salt))
    (hD : H D = some (.lst ws)) (e : Each (StoR K H) ws l') (d : Dst ws) (n1 : c.ls ≠ D) (n2 : c.es ≠ D) :
    Rep P w K (upd H p (.ins (He.ga K "Platform") dx (plaF (.bl true) (.ref q0) (nI (sltd a.salt)) (nI a.holdout) (nI a.clock) (.ref c.ls) (.ref c.es) (.ref c.od) (.ref D)))) p { c with st := D } { a with sticky := l' } :=
  Rep.mk_ (c' := { c with st := D }) (a' := { a with sticky := l' }) hp rfl hq0 R.ls R.es R.od ⟨ws, hD, e, d⟩ R.n1 n1 n2
/-- one stored assignment's object is written -/
theorem Rep.set_sto {ws : List V} {n z : Nat} {b bx bp : Addr} {s : Kex2.Sticky} (R : Rep P w K H p c a) (hv : H c.st = some (.lst ws)) (hi : ws[n]? = some (.ref b)) (hs : a.sticky[n]? = some s) (hb : H b = some (.ins (He.ga K "Stored") bx (stoF (.ref bp) (nI s.experiment) (nI s.variant) (nI s.expiry)))) (hq : SqT K H bp (nats s.unit)) :
    Rep P w K (upd H b (.ins (He.ga K "Stored") bx (stoF (.ref bp) (nI s.experiment) (nI s.variant) (nI z)))) p c { a with sticky := a.sticky.set n { s with expiry := z } } := by
  refine R.ins_set hb rfl ⟨rfl, rfl, rfl, rfl⟩ (fun vs _ e _ => e.mono fun v y r => ?_) (fun vs _ e _ => e.mono fun v y r => ?_) fun vs h e d => ?_
  · refine r.upd (fun z => ?_) hb
    obtain ⟨b', _, _, _, e1, e2, _⟩ := r
    rw [z] at e1
    cases e1
    rw [hb] at e2
    exact fs_ne (by decide) (HO.ins.inj (Option.some.inj e2)).2.2
  · cases y with
    | none => exact r
    | some y =>
      refine ExpR.upd (l := some y) r (fun z => ?_) hb
      obtain ⟨b', _, _, e1, e2, _⟩ := r
      rw [z] at e1
      cases e1
      rw [hb] at e2
      exact fs_ne (by decide) (HO.ins.inj (Option.some.inj e2)).2.2
  · obtain rfl : ws = vs := by rw [hv] at h; cases h; rfl
    exact each_set (G := StoR K (upd H b _)) e d hi ⟨b, bx, bp, rfl, upd_same, sqT_keep (.upd hb rfl) hq⟩ fun v y r n => r.upd n hb
end
theorem orS {tA tB : TT} {σ : L2.St} {H : Hp} {Q : Bool → Hp → Prop} {b1 b2 : Bool} (h1 : ∀ Q' : Bool → Hp → Prop, Q' b1 H → tA σ H Q') (h2 : ∀ Q' : Bool → Hp → Prop, (∀ H', Same H H' → Q' b2 H') → tB σ H Q') (q : ∀ H', Same H H' → Q (b1 || b2) H') : tOr tA tB σ H Q := h1 _ (by
  cases b1 with
  | true => exact q H (Same.refl H)
  | false => exact h2 _ q)
theorem andS {tA tB : TT} {σ : L2.St} {H : Hp} {Q : Bool → Hp → Prop} {b1 b2 : Bool} (h1 : ∀ Q' : Bool → Hp → Prop, Q' b1 H → tA σ H Q') (h2 : ∀ Q' : Bool → Hp → Prop, (∀ H', Same H H' → Q' b2 H') → tB σ H Q') (q : ∀ H', Same H H' → Q (b1 && b2) H') : tAnd tA tB σ H Q := h1 _ (by
  cases b1 with
  | false => exact q H (Same.refl H)
  | true => exact h2 _ q)
theorem max_nat (i j : Nat) : (if (j : Int) > (i : Int) then (j : Int) else (i : Int)) = ((max i j : Nat) : Int) := by
  split <;> omega
section
variable {P : Program} {w : World} {K : PySem.W.Frag} {mg : Str → Option Value} {base : Heap}
theorem sc_call_enter : FnScope ["own", "numbers", "row", "number", "duration", "unit", "variant", "reason", "one"] ["own", "numbers", "row"] (defScope s_call_enter) := ⟨rfl, rfl, rfl, by decide +kernel, rfl, by decide +kernel, by decide +kernel⟩
theorem h_enter (T : Txt K mg) : Held P w K mg base 5 (He.ga K "call_enter") (spDeed P w K 2 fun n r => .enter (n.getD 0 0) (n.getD 1 0) r) := by
  refine held_of (ps := ["own", "numbers", "row"]) T.d_call_enter sc_call_enter (fun vs H Q E h => by obtain ⟨_, _, _, _, _, _, _, rfl, _⟩ := h; rfl) (fun _ _ _ _ _ _ us hl => match us, hl with | [_, _, _], _ => rfl) (fun cdv A outer s H vs Q E hr h => ?_)
  have nd := sc_call_enter.nd
  have hr1 : Room 1 _ := hr.mono (by decide)
  have hr2 : Room (1 + 1) _ := hr.mono (by decide)
  refine ⟨_, pss_cons (ps_asg (pv 1) (pg_unl rfl (pgs_cons (pg_name (i := 3) nd rfl (Or.inl rfl)) (pgs_cons (pg_name (i := 4) nd rfl (Or.inl rfl)) pgs_nil))))
    (pss_cons (ps_if (pt_not (pt_val (pe_methH (h_has T) hr1 T.c_Platform T.m_Platform_has_experiment (pv 0) (pa_cons (pv 3) pa_nil)))) (pss_one (ps_ret (pe_lst (pa_cons (pe_un un_neg pe_int) pa_nil)))) pss_nil)
    (pss_cons (ps_if (PW.pt (pw_or (pt_not (pt_chain op_le op_le pe_int (pv 4) (pe_gi T.i_MOST_TIME))) (pw_or1 (pt_not (pt_val (pe_callH (h_are_octets T) hr1 T.g_are_octets (pa_cons (pv 2) (pa_cons pe_int pa_nil))))))))
      (pss_one (ps_ret (pe_lst (pa_cons (pe_un un_neg pe_int) pa_nil)))) pss_nil)
    (pss_cons (ps_set (i := 5) nd rfl (Or.inl rfl) (pe_callTy call_tupL (by rfl) T.f_tuple (by decide +kernel) (pa_cons (pv 2) pa_nil)))
    (pss_cons (ps_asg (pe_methH (h_assignment T) hr T.c_Platform T.m_Platform_assignment (pv 0) (pa_cons (pv 3) (pa_cons (pv 5) pa_nil))) (pg_tup rfl (pgs_cons (pg_name (i := 6) nd rfl (Or.inl rfl)) (pgs_cons (pg_name (i := 7) nd rfl (Or.inl rfl)) pgs_nil))))
    (pss_cons (ps_if (pt_cmpR (op_eqD hr.units) (pe_tup (pa_cons (pv 6) (pa_cons (pv 7) pa_nil))) (pe_gr T.g_NONE) (nomark _)) (pss_one (ps_ret (pe_lst (pa_cons (pe_un un_neg pe_int) pa_nil)))) pss_nil)
    (pss_cons (ps_if (PW.pt (pw_and (pt_cmpR (op_eqD hr.units) (pv 7) pe_int (nomark _)) (pw_and1 (pt_cmpR op_ge (pe_callB call_len_seq (by rfl) T.f_len PySem.boot_len (pa_cons (pe_meth0H (h_valid T) hr1 T.c_Platform T.m_Platform_valid (pv 0)) pa_nil)) (pe_gi T.i_MOST_STORED) (nomark _)))))
      (pss_one (ps_ret (pe_lst (pa_cons (pe_un un_neg pe_int) pa_nil)))) pss_nil)
    (pss_cons (ps_if (pt_cmpR op_gt (pv 7) pe_int (nomark _)) (pss_one (ps_fld (pv 0) (pe_meth0H (h_valid T) hr1 T.c_Platform T.m_Platform_valid (pv 0)) rfl)) pss_nil)
    (pss_cons (ps_if (pt_cmpR (op_eqD hr.units) (pv 7) pe_int (nomark _))
      (pss_cons (ps_set (i := 8) nd rfl (Or.inl rfl) (pe_methH (h_stored_in T) hr2 T.c_Platform T.m_Platform_stored_in (pv 0) (pa_cons (pe_fld (pe_ix ix_list (pe_fld (pv 0) rfl) (pv 3) (fun _ _ => rfl)) rfl) (pa_cons (pv 5) pa_nil))))
      (pss_one (ps_fld (pv 8) (pe_callB (call_max2 rfl) (by rfl) T.f_max (by decide +kernel) (pa_cons (pe_fld (pv 8) rfl) (pa_cons (pe_op op_addN (pe_fld (pv 0) rfl) (pv 4)) pa_nil))) rfl))) pss_nil)
    (pss_cons (ps_if (pt_cmpR (op_eqD hr.units) (pv 7) pe_int (nomark _))
      (pss_one (ps_expr (pe_bm PySem.F.plainAttrs_list PySem.F.slot_list_append PySem.F.type_list_append mt_append (pe_fld (pv 0) rfl) (pa_cons (pe_makeH T.k_Stored (h_Stored_init T) hr2 T.g_Stored (pa_cons (pv 5) (pa_cons (pv 3) (pa_cons (pv 6) (pa_cons (pe_op op_addN (pe_fld (pv 0) rfl) (pv 4)) pa_nil))))) pa_nil)))) pss_nil)
    (pss_one (ps_ret (pe_lst (pa_cons (pv 6) (pa_cons (pv 7) pa_nil)))))))))))))), ?_⟩
  obtain ⟨p, pn, pr, c, a, nums, row, rfl, R, W, hN, hn, hR, hrow, hT, k⟩ := h
  obtain ⟨n0, n1, rfl⟩ := two_of hn
  obtain ⟨dx, q0, hp, hq0⟩ := id R.pl
  obtain ⟨vs, he, hE, _⟩ := id R.es
  obtain ⟨ws, hws, hS, hDs⟩ := id R.st
  refine ⟨_, rfl, pn, _, rfl, hN, rfl, ?_⟩
  refine ⟨_, _, rfl, _, _, rfl, rfl, ?_⟩
  refine ⟨_, rfl, p, dx, _, rfl, hp, rfl, _, rfl, p, c, a, n0, rfl, R, _, rfl, ?_⟩
  cases h : experimentAt a n0 with
  | none => exact iteT ⟨_, rfl, le1, fun q hq => k.new R hT (Same.refl H) (res := .value (-2)) ((step_noneE h).1 n1 row) rfl hq⟩
  | some x =>
    obtain ⟨y, hy, b, bx, bp, rfl, hb, hbp⟩ := hE.right (exp_at.mp h)
    refine iteF ?_
    dsimp only [tNext, tSeq, tIfS]
    have hbad : (!(decide (1 ≤ n1) && decide (n1 ≤ 10000)) || !Kex2.isUnit row) = decide (n1 = 0 ∨ Kex2.maxDuration < n1 ∨ Kex2.isUnit row = false) := by
      have e : Kex2.maxDuration = 10000 := rfl
      rw [e]
      by_cases c1 : 1 ≤ n1 <;> by_cases c2 : n1 ≤ 10000 <;> cases Kex2.isUnit row <;> simp [c1, c2] <;> omega
    refine orS (b1 := !(decide (1 ≤ n1) && decide (n1 ≤ 10000))) (b2 := !Kex2.isUnit row) (fun Q' q => ⟨_, rfl, _, _, rfl, rfl, _, rfl, ?_⟩) (fun Q' q => ⟨_, rfl, pr, row, 1, rfl, hR, fun H1 s1 => ⟨_, rfl, ?_⟩⟩) fun H1 s1 => ?_
    · rw [show decide ((1 : Int) ≤ (n1 : Int)) = decide (1 ≤ n1) from dec_le 1 n1]
      cases c1 : decide (1 ≤ n1) with
      | true =>
        rw [c1] at q
        refine iteT ⟨_, _, rfl, rfl, ?_⟩
        have q : Q' (!(decide (n1 ≤ 10000))) H := q
        rw [← show decide ((n1 : Int) ≤ 10000) = decide (n1 ≤ 10000) from dec_le n1 10000] at q
        exact ⟨_, rfl, q⟩
      | false =>
        rw [c1] at q
        exact iteF ⟨_, rfl, q⟩
    · rw [octs1 hrow]
      exact q H1 s1
    rw [hbad]
    by_cases hb2 : n1 = 0 ∨ Kex2.maxDuration < n1 ∨ Kex2.isUnit row = false
    · rw [decide_eq_true hb2]
      exact iteT ⟨_, rfl, le1, fun q hq => k.new R hT s1 (res := .value (-22)) (enter22 h hb2) rfl hq⟩
    rw [decide_eq_false hb2]
    have hst := enter_is W h hb2
    -- unit, the assignment
    refine iteF ⟨_, rfl, pr, _, rfl, s1.seq hR, fun t g => ?_⟩
    have s2 : Same H (upd H1 t (.tup (nats row))) := s1.trans (same_new g)
    have ht : SqT K (upd H1 t (.tup (nats row))) t (nats row) := SqT.of upd_same
    clear g
    generalize upd H1 t (.tup (nats row)) = H2 at s2 ht ⊢
    refine ⟨_, rfl, p, dx, _, rfl, s2 _ _ hp, rfl, _, rfl, _, rfl, p, t, c, a, n0, row, rfl, R.same s2, W, by rw [h]; rfl, ht, fun H3 y s3 hy => ?_⟩
    have s23 := s2.trans s3
    obtain ⟨t2, rfl, ht2⟩ := hy.tup
    have ht3 : SqT K H3 t (nats row) := same_seqT s3 ht
    clear s3 ht s1 s2
    clear H2 H1
    refine ⟨t2, _, rfl, ht2, rfl, _, _, rfl, _, _, rfl, rfl, ?_⟩
    refine ⟨_, rfl, _, rfl, le2, fun t4 g4 => ?_⟩
    have s4 : Same H (upd H3 t4 (.tup [.int (ansE (Kex2.assignment a n0 row)), .int (ansR (Kex2.assignment a n0 row))])) := s23.trans (same_new g4)
    refine ⟨_, _, own_dp (SqT.of upd_same), own_dp (T.none_tup _), pair_shaped _ _, pair_shaped _ _, _, rfl, ?_⟩
    rw [ans_none]
    have ht4 : SqT K (upd H3 t4 (.tup [.int (ansE (Kex2.assignment a n0 row)), .int (ansR (Kex2.assignment a n0 row))])) t (nats row) := same_seqT (same_new g4) ht3
    clear g4 ht3 s23 ht2 hy
    generalize upd H3 t4 (.tup [.int (ansE (Kex2.assignment a n0 row)), .int (ansR (Kex2.assignment a n0 row))]) = H4 at s4 ht4 ⊢
    clear H3
    cases hr0 : Kex2.assignment a n0 row with
    | none =>
      rw [hr0] at hst
      exact iteT ⟨_, rfl, le1, fun q hq => k.new R hT s4 (res := .value (-33)) hst rfl hq⟩
    | some r =>
      rw [hr0] at hst
      obtain ⟨v, re⟩ := r
      have hst : Kex2.step (some a) (.enter n0 n1 row) = (if re = 0 then (some a, .values v [0])
        else if re = 1 then (some { a with sticky := (validsA a).map fun t => if t.experiment = n0 ∧ t.unit = row then { t with expiry := max t.expiry (a.clock + n1) } else t }, .values v [1])
        else if 32 ≤ (validsA a).length then (some a, .value (-28))
        else (some { a with sticky := validsA a ++ [⟨n0, row, v, a.clock + n1⟩] }, .values v [2])) := hst
      refine iteF ?_
      have R4 := R.same s4
      have hp4 := s4 _ _ hp
      have T4 := hT.ext s4
      rcases asg_cases h hr0 with e | ⟨e, s0, hs0, hs1, hs2⟩ | ⟨e, hs0⟩
      · -- an override
        have e : re = 0 := e
        subst e
        refine ⟨_, rfl, .int ((0 : Nat) : Int), .int 2, .int _, .int _, int_shaped _, int_shaped _, _, rfl, iteF (iteF ⟨_, rfl, _, _, rfl, rfl, _, rfl, iteF ⟨_, rfl, .int ((0 : Nat) : Int), .int 1, .int _, .int _, int_shaped _, int_shaped _, _, rfl, iteF ⟨_, rfl, .int ((0 : Nat) : Int), .int 2, .int _, .int _, int_shaped _, int_shaped _, _, rfl, iteF ⟨_, rfl, _, rfl, le2, fun q hq => ?_⟩⟩⟩⟩)⟩
        exact k.new R hT s4 (res := .values v [0]) (hst.trans (if_pos rfl)) rfl hq
      · -- a stored one
        have e : re = 1 := e
        subst e
        refine ⟨_, rfl, .int ((1 : Nat) : Int), .int 2, .int _, .int _, int_shaped _, int_shaped _, _, rfl, iteF (iteF ⟨_, rfl, _, _, rfl, rfl, _, rfl, iteT ⟨_, rfl, p, dx, _, rfl, hp4, rfl, p, c, a, rfl, R4, W.ns, fun H5 L ws' s5 hLn hws' hL => ?_⟩⟩)⟩
        have s45 := s4.trans s5
        have hp5 := s5 _ _ hp4
        have R5 := R.same s45
        obtain rfl : ws' = ws := by rw [s4 _ _ hws] at hws'; cases hws'; rfl
        have hpe := pick_each (g := fun s : Kex2.Sticky => decide (a.clock < s.expiry)) hS
        have nl : c.ls ≠ L := fun z => by
          obtain ⟨vl, h1, _⟩ := R4.ls
          rw [z, hLn] at h1
          cases h1
        have nE : c.es ≠ L := fun z => by
          obtain ⟨vl, h1, _⟩ := R4.es
          rw [z, hLn] at h1
          cases h1
        have R6 := R5.new_st (l' := validsA a) hp5 (same_seqT s45 hq0) hL (hpe.1.mono fun _ _ h => h.keep (.same s45)) (hDs.sub hpe.2) nl nE
        have T6 := tabs_ins (o := .ins (He.ga K "Platform") dx (plaF (.bl true) (.ref q0) (nI (sltd a.salt)) (nI a.holdout) (nI a.clock) (.ref c.ls) (.ref c.es) (.ref c.od) (.ref L))) (T4.ext s5) hp5
        have F6 : Fr H c (upd H5 p (.ins (He.ga K "Platform") dx (plaF (.bl true) (.ref q0) (nI (sltd a.salt)) (nI a.holdout) (nI a.clock) (.ref c.ls) (.ref c.es) (.ref c.od) (.ref L)))) { c with st := L } :=
          ((Fr.same s45).trans (.upd hp5 rfl)).to (.inl rfl) (.inr (.inl rfl)) (InL.trans (Fr.same s4) (.inr (.inr (.inr (.of hLn)))))
        have npb : p ≠ b := fun z => by rw [z, hb] at hp; exact fs_ne (by decide) (HO.ins.inj (Option.some.inj hp)).2.2
        have npe : c.es ≠ p := fun z => by rw [z, hp] at he; cases he
        have hp6 : upd H5 p (.ins (He.ga K "Platform") dx (plaF (.bl true) (.ref q0) (nI (sltd a.salt)) (nI a.holdout) (nI a.clock) (.ref c.ls) (.ref c.es) (.ref c.od) (.ref L))) p = some (.ins (He.ga K "Platform") dx (plaF (.bl true) (.ref q0) (nI (sltd a.salt)) (nI a.holdout) (nI a.clock) (.ref c.ls) (.ref c.es) (.ref c.od) (.ref L))) := upd_same
        have he6 : upd H5 p (.ins (He.ga K "Platform") dx (plaF (.bl true) (.ref q0) (nI (sltd a.salt)) (nI a.holdout) (nI a.clock) (.ref c.ls) (.ref c.es) (.ref c.od) (.ref L))) c.es = some (.lst vs) := by rw [upd_ne npe]; exact s45 _ _ he
        have hb6 : upd H5 p (.ins (He.ga K "Platform") dx (plaF (.bl true) (.ref q0) (nI (sltd a.salt)) (nI a.holdout) (nI a.clock) (.ref c.ls) (.ref c.es) (.ref c.od) (.ref L))) b = some _ := (upd_ne npb.symm).trans (s45 _ _ hb)
        have ht6 : SqT K (upd H5 p (.ins (He.ga K "Platform") dx (plaF (.bl true) (.ref q0) (nI (sltd a.salt)) (nI a.holdout) (nI a.clock) (.ref c.ls) (.ref c.es) (.ref c.od) (.ref L)))) t (nats row) := sqT_keep (.upd hp5 rfl) (same_seqT s5 ht4)
        refine ⟨_, rfl, p, _, _, _, rfl, hp5, T.c_Platform, T.n_Platform_stored, by show 9 < 1000; decide, ?_⟩
        refine absH (Pr := fun H6 => Rep P w K H6 p { c with st := L } (cleanA a) ∧ Tabs (tT K) H6 ∧ Fr H c H6 { c with st := L } ∧ H6 p = some (.ins (He.ga K "Platform") dx (plaF (.bl true) (.ref q0) (nI (sltd a.salt)) (nI a.holdout) (nI a.clock) (.ref c.ls) (.ref c.es) (.ref c.od) (.ref L))) ∧ H6 c.es = some (.lst vs) ∧ H6 b = some (.ins (He.ga K "Experiment") bx (expF (nI x.layer) (nI x.traffic) (.ref bp))) ∧ SqT K H6 t (nats row)) ⟨R6, T6, F6, hp6, he6, hb6, ht6⟩ ?_
        clear R6 T6 F6 hp6 he6 hb6 ht6 R5 hp5 s45 hL hpe
        rintro H6 ⟨R6, T6, F6, hp6, he6, hb6, ht6⟩
        refine ⟨_, rfl, .int ((1 : Nat) : Int), .int 1, .int _, .int _, int_shaped _, int_shaped _, _, rfl, iteT ⟨_, rfl, p, dx, _, rfl, hp6, rfl, _, rfl, p, _, _, _, _, rfl, hp6, T.c_Platform, T.n_Platform_experiments, rfl, _, rfl, c.es, vs, _, _, rfl, rfl, SqL.of he6, atI_nat hy, b, _, _, _, _, rfl, hb6, T.c_Experiment, T.n_Experiment_layer, rfl, _, rfl, p, t, { c with st := L }, cleanA a, x.layer, row, rfl, R6, W.clean, ht6, fun H7 z s7 hz => ?_⟩⟩
        rw [sticky_clean W, hs0] at hz
        obtain ⟨i, ws6, hw6, hwi, hsi, hmem, hil⟩ := hz
        have R7 := R6.same s7
        have hp7 := s7 _ _ hp6
        obtain ⟨ws7, hw7, hS7, _⟩ := id R7.st
        have hw67 : H7 L = some (.lst ws6) := s7 _ _ hw6
        obtain rfl : ws7 = ws6 := by
          have hw7 : H7 L = some (.lst ws7) := hw7
          rw [hw67] at hw7
          cases hw7
          rfl
        obtain ⟨sb, sbx, sp, rfl, hsb, hsp⟩ := hS7.at_ i _ _ hwi hsi
        refine ⟨_, rfl, sb, _, _, _, _, rfl, hsb, T.c_Stored, T.n_Stored_expiry, rfl, _, rfl, p, _, _, _, _, rfl, hp7, T.c_Platform, T.n_Platform_clock, rfl, _, rfl, _, _, rfl, rfl, _, _, rfl, _, rfl, sb, _, _, _, rfl, hsb, T.c_Stored, T.n_Stored_expiry, by show 4 < 1000; decide, ?_⟩
        rw [max_nat]
        have R8 := R7.set_sto (z := max s0.expiry (a.clock + n1)) hw67 hwi hsi hsb hsp
        refine ⟨_, rfl, .int ((1 : Nat) : Int), .int 2, .int _, .int _, int_shaped _, int_shaped _, _, rfl, iteF ⟨_, rfl, _, rfl, le2, fun q hq => ?_⟩⟩
        refine k.mut ((F6.trans (.same s7)).trans (.upd hsb rfl)) (tabs_ins (T6.ext s7) hsb) R8 (res := .values v [1]) ?_ rfl hq
        rw [if_neg (by decide), if_pos rfl, map_one (fun t => { t with expiry := max t.expiry (a.clock + n1) }) (show (validsA a)[i]? = some s0 from hsi) ⟨hs1, inLay_unit hil⟩ W.stn] at hst
        exact hst
      · -- by its bucket
        have e : re = 2 := e
        subst e
        dsimp only [tNext, tSeq, tIfS]
        refine andS (b1 := true) (b2 := decide (32 ≤ (validsA a).length)) (fun Q' q => ⟨_, rfl, .int ((2 : Nat) : Int), .int 2, .int _, .int _, int_shaped _, int_shaped _, _, rfl, q⟩) (fun Q' q => ⟨_, rfl, p, dx, _, rfl, hp4, rfl, p, c, a, rfl, R4, W.ns, fun H5 L ws' s5 hLn hws' hL => ⟨L, _, rfl, .inl (SqL.of hL), _, _, rfl, rfl, _, rfl, ?_⟩⟩) fun H5 s5 => ?_
        · obtain rfl : ws' = ws := by rw [s4 _ _ hws] at hws'; cases hws'; rfl
          rw [(pick_each (g := fun s : Kex2.Sticky => decide (a.clock < s.expiry)) hS).1.len]
          have q5 := q H5 s5
          rw [← show decide ((32 : Int) ≤ ((validsA a).length : Int)) = decide (32 ≤ (validsA a).length) from dec_le 32 _] at q5
          exact q5
        have s45 := s4.trans s5
        rw [if_neg (by decide), if_neg (by decide)] at hst
        by_cases hfull : 32 ≤ (validsA a).length
        · rw [decide_eq_true hfull]
          rw [if_pos hfull] at hst
          exact iteT ⟨_, rfl, le1, fun q hq => k.new R hT s45 (res := .value (-28)) hst rfl hq⟩
        rw [decide_eq_false hfull]
        rw [if_neg hfull] at hst
        have hp5 := s5 _ _ hp4
        refine iteF ⟨_, rfl, _, _, rfl, rfl, _, rfl, iteT ⟨_, rfl, p, dx, _, rfl, hp5, rfl, p, c, a, rfl, R.same s45, W.ns, fun H6 L ws' s6 hLn hws' hL => ?_⟩⟩
        have s46 := s45.trans s6
        have hp6 := s6 _ _ hp5
        have R6 := R.same s46
        obtain rfl : ws' = ws := by rw [s45 _ _ hws] at hws'; cases hws'; rfl
        have hpe := pick_each (g := fun s : Kex2.Sticky => decide (a.clock < s.expiry)) hS
        have nl : c.ls ≠ L := fun z => by
          obtain ⟨vl, h1, _⟩ := (R.same s45).ls
          rw [z, hLn] at h1
          cases h1
        have nE : c.es ≠ L := fun z => by
          obtain ⟨vl, h1, _⟩ := (R.same s45).es
          rw [z, hLn] at h1
          cases h1
        have R7 := R6.new_st (l' := validsA a) hp6 (same_seqT s46 hq0) hL (hpe.1.mono fun _ _ h => h.keep (.same s46)) (hDs.sub hpe.2) nl nE
        have T7 := tabs_ins (o := .ins (He.ga K "Platform") dx (plaF (.bl true) (.ref q0) (nI (sltd a.salt)) (nI a.holdout) (nI a.clock) (.ref c.ls) (.ref c.es) (.ref c.od) (.ref L))) (hT.ext s46) hp6
        have F7 : Fr H c (upd H6 p (.ins (He.ga K "Platform") dx (plaF (.bl true) (.ref q0) (nI (sltd a.salt)) (nI a.holdout) (nI a.clock) (.ref c.ls) (.ref c.es) (.ref c.od) (.ref L)))) { c with st := L } :=
          ((Fr.same s46).trans (.upd hp6 rfl)).to (.inl rfl) (.inr (.inl rfl)) (InL.trans (Fr.same s45) (.inr (.inr (.inr (.of hLn)))))
        have ht7 : SqT K (upd H6 p (.ins (He.ga K "Platform") dx (plaF (.bl true) (.ref q0) (nI (sltd a.salt)) (nI a.holdout) (nI a.clock) (.ref c.ls) (.ref c.es) (.ref c.od) (.ref L)))) t (nats row) := sqT_keep (.upd hp6 rfl) (same_seqT (s5.trans s6) ht4)
        refine ⟨_, rfl, p, _, _, _, rfl, hp6, T.c_Platform, T.n_Platform_stored, by show 9 < 1000; decide, ?_⟩
        have hp7 : upd H6 p (.ins (He.ga K "Platform") dx (plaF (.bl true) (.ref q0) (nI (sltd a.salt)) (nI a.holdout) (nI a.clock) (.ref c.ls) (.ref c.es) (.ref c.od) (.ref L))) p = some (.ins (He.ga K "Platform") dx (plaF (.bl true) (.ref q0) (nI (sltd a.salt)) (nI a.holdout) (nI a.clock) (.ref c.ls) (.ref c.es) (.ref c.od) (.ref L))) := upd_same
        refine absH (Pr := fun H7 => Rep P w K H7 p { c with st := L } (cleanA a) ∧ Tabs (tT K) H7 ∧ Fr H c H7 { c with st := L } ∧ H7 p = some (.ins (He.ga K "Platform") dx (plaF (.bl true) (.ref q0) (nI (sltd a.salt)) (nI a.holdout) (nI a.clock) (.ref c.ls) (.ref c.es) (.ref c.od) (.ref L))) ∧ SqT K H7 t (nats row)) ⟨R7, T7, F7, hp7, ht7⟩ ?_
        clear R7 T7 F7 hp7 ht7 R6 hp6 s46 hL hpe
        rintro H7 ⟨R7, T7, F7, hp7, ht7⟩
        obtain ⟨ws7, hw7, hS7, hD7⟩ := id R7.st
        have hS7 : Each (StoR K H7) ws7 (validsA a) := hS7
        refine ⟨_, rfl, .int ((2 : Nat) : Int), .int 1, .int _, .int _, int_shaped _, int_shaped _, _, rfl, iteF ⟨_, rfl, .int ((2 : Nat) : Int), .int 2, .int _, .int _, int_shaped _, int_shaped _, _, rfl, iteT ⟨_, rfl, p, _, _, _, _, rfl, hp7, T.c_Platform, T.n_Platform_stored, rfl, .inl ⟨rfl, _, SqL.of hw7⟩, _, rfl, _, rfl, _, rfl, _, rfl, p, _, _, _, _, rfl, hp7, T.c_Platform, T.n_Platform_clock, rfl, _, rfl, _, _, rfl, rfl, ?_⟩⟩⟩
        intro xs dx2 nx ndx hne
        refine ⟨xs, dx2, _, _, _, _, rfl, upd_same, fun H8 e8 hx8 => ⟨rfl, ?_⟩⟩
        have s8 : Same H7 H8 := Same.made nx ndx fun b o h n => e8 b o n h
        have hw8 := s8 _ _ hw7
        have hE8 : Each (StoR K H8) (ws7 ++ [.ref xs]) (validsA a ++ [⟨n0, row, v, a.clock + n1⟩]) := (hS7.mono fun _ _ h => h.keep (.same s8)).snoc ⟨xs, dx2, t, rfl, hx8, same_seqT s8 ht7⟩
        have hD8 : Dst (ws7 ++ [.ref xs]) := hD7.snoc fun b eb => by cases eb; exact sto_fresh hS7 nx
        have hl7 : ws7.length ≤ 32 := by rw [hS7.len]; omega
        have R9 := (R7.same s8).st_set hw8 hl7 hE8 hD8
        refine ⟨L, ws7, _, rfl, rfl, hw8, Nat.lt_of_le_of_lt hl7 (by decide), ?_⟩
        refine ⟨_, rfl, _, rfl, le2, fun q hq => ?_⟩
        exact k.mut ((F7.trans (.same s8)).trans .at_st) (tabs_lst (T7.ext s8) hw8) R9 (res := .values v [2]) hst rfl hq
end
end Vb

set_option Elab.async false
set_option linter.all false
set_option maxRecDepth 100000
set_option maxHeartbeats 1000000
/-! Every step keeps the state in order. -/
namespace Vb
open Kex2 (experimentAt)
theorem Wf.empty (s : List Nat) : Wf (emptyA s) where
  nl := Nat.zero_le _
  ne := Nat.zero_le _
  no := Nat.zero_le _
  ns := Nat.zero_le _
  own := fun i l h => by simp [emptyA] at h
  exp := fun e x h => by simp [emptyA, experimentAt] at h
  ov := fun o h => by simp [emptyA] at h
  ovn := List.nodup_nil
  st := fun o h => by simp [emptyA] at h
  stn := List.Pairwise.nil
theorem own_eq {e f v w : Nat} (hv : v < 4) (hw : w < 4) (h : Kex2.ownerOf e v = Kex2.ownerOf f w) : e = f ∧ v = w := by
  have h : (1 + 4 * e + v : Nat) = (1 + 4 * f + w : Nat) := h
  omega
theorem ownSum_congr {m l : List Nat} {e n : Nat} (h : ∀ v, v < n → Kex2.countOwner m (Kex2.ownerOf e v) = Kex2.countOwner l (Kex2.ownerOf e v)) : ownSum m e n = ownSum l e n := by
  unfold ownSum
  congr 1
  apply List.map_congr_left
  intro v hv
  exact h v (List.mem_range.mp hv)
theorem ownSum_goal {m l : List Nat} {e : Nat} {goal : List Nat} (h : Realloc l e goal m) : ownSum m e goal.length = goal.sum := by
  unfold ownSum
  rw [List.map_congr_left (g := fun v => goal.getD v 0) (fun v hv => h.count v (List.mem_range.mp hv)), range_getD]
theorem ownSum_other {m l : List Nat} {e f n : Nat} {goal : List Nat} (h : Realloc l e goal m) (hf : f < 8) (hn : n ≤ 4) (hg : goal.length ≤ 4) (ne : f ≠ e) : ownSum m f n = ownSum l f n :=
  ownSum_congr fun v hv => h.other _ (own_ne_pool hf (by omega)) (own_ne0 f v) fun w hw z => ne (own_eq (by omega) (by omega) z).1
theorem set_cases {α : Type} {l : List α} {i j : Nat} {x y : α} (h : (l.set i x)[j]? = some y) : (i = j ∧ y = x) ∨ (i ≠ j ∧ l[j]? = some y) := by
  rw [List.getElem?_set] at h
  by_cases c : i = j
  · rw [if_pos c] at h
    by_cases d : i < l.length
    · rw [if_pos d] at h
      cases h
      exact .inl ⟨c, rfl⟩
    · rw [if_neg d] at h
      cases h
  · rw [if_neg c] at h
    exact .inr ⟨c, h⟩
/-- an experiment gets other buckets, in its layer -/
theorem Wf.chg {a : Kex2.Assigner} (W : Wf a) {i e : Nat} {l : Kex2.Layer} {m goal : List Nat} {x' : Kex2.Experiment} {E' : List (Option Kex2.Experiment)} (hl : a.layers[i]? = some l) (he : e < 8) (hE : E'.length ≤ 8)
    (h1 : E'[e]? = some (some x')) (h2 : ∀ f, f ≠ e → E'[f]? = a.experiments[f]?) (hx : x'.layer = i) (hw : Wts x'.weights) (ht : x'.traffic ≤ 100) (R : Realloc l.owners e goal m) (g1 : goal.length = x'.weights.length) (g2 : goal.sum = x'.traffic)
    (old : ∀ x, experimentAt a e = some x → x.layer = i ∧ x.weights.length = x'.weights.length) : Wf { a with layers := a.layers.set i { l with owners := m }, experiments := E' } := by
  have hi := (List.getElem?_eq_some_iff.mp hl).1
  have at_e : experimentAt { a with layers := a.layers.set i { l with owners := m }, experiments := E' } e = some x' := exp_at.mpr h1
  have at_f : ∀ f, f ≠ e → experimentAt { a with layers := a.layers.set i { l with owners := m }, experiments := E' } f = experimentAt a f := fun f hf => by
    unfold experimentAt
    show (E'[f]?).join = _
    rw [h2 f hf]
  have keep : ∀ f y, experimentAt a f = some y → ∃ y', experimentAt { a with layers := a.layers.set i { l with owners := m }, experiments := E' } f = some y' ∧ y'.weights.length = y.weights.length ∧ y'.layer = y.layer := fun f y hy => by
    by_cases c : f = e
    · subst c
      obtain ⟨o1, o2⟩ := old y hy
      exact ⟨x', at_e, o2.symm, by rw [hx, o1]⟩
    · exact ⟨y, by rw [at_f f c]; exact hy, rfl, rfl⟩
  have g4 : goal.length ≤ 4 := by rw [g1]; exact hw.2.1
  refine ⟨by show (a.layers.set i _).length ≤ 4; rw [List.length_set]; exact W.nl, hE, W.no, W.ns, fun j l' hl' => ?_, fun f y hy => ?_, fun o ho => ?_, W.ovn, fun s hs => ?_, W.stn⟩
  · have hl' : (a.layers.set i { l with owners := m })[j]? = some l' := hl'
    rcases set_cases hl' with ⟨c, rfl⟩ | ⟨c, hl'⟩
    · subst c
      obtain ⟨w1, w2⟩ := W.own i l hl
      refine ⟨by show m.length = 100; rw [R.len, w1], fun o ho => ?_⟩
      rcases R.vals o ho with q | q | ⟨v, hv, q⟩
      · rcases w2 o q with z | ⟨f, v, y, e1, e2, e3, e4⟩
        · exact .inl z
        · obtain ⟨y', k1, k2, k3⟩ := keep f y e2
          exact .inr ⟨f, v, y', e1, k1, by rw [k3, e3], by rw [k2]; exact e4⟩
      · exact .inl q
      · exact .inr ⟨e, v, x', q, at_e, hx, by rw [← g1]; exact hv⟩
    · obtain ⟨w1, w2⟩ := W.own j l' hl'
      refine ⟨w1, fun o ho => ?_⟩
      rcases w2 o ho with z | ⟨f, v, y, e1, e2, e3, e4⟩
      · exact .inl z
      · obtain ⟨y', k1, k2, k3⟩ := keep f y e2
        exact .inr ⟨f, v, y', e1, k1, by rw [k3, e3], by rw [k2]; exact e4⟩
  · by_cases c : f = e
    · subst c
      rw [at_e] at hy
      cases hy
      refine ⟨by rw [hx]; show i < (a.layers.set i _).length; rw [List.length_set]; exact hi, hw, ht, fun l' hl' => ?_⟩
      rw [hx] at hl'
      have hl' : (a.layers.set i { l with owners := m })[i]? = some l' := hl'
      rw [List.getElem?_set_self hi] at hl'
      cases hl'
      show ownSum m f x'.weights.length = _
      rw [← g1, ownSum_goal R, g2]
    · rw [at_f f c] at hy
      obtain ⟨w1, w2, w3, w4⟩ := W.exp f y hy
      refine ⟨by show y.layer < (a.layers.set i _).length; rw [List.length_set]; exact w1, w2, w3, fun l' hl' => ?_⟩
      have hl' : (a.layers.set i { l with owners := m })[y.layer]? = some l' := hl'
      rcases set_cases hl' with ⟨d, rfl⟩ | ⟨d, hl'⟩
      · show ownSum m f y.weights.length = _
        rw [ownSum_other R (exp_lt W hy) w2.2.1 g4 c]
        exact w4 l (by rw [← d]; exact hl)
      · exact w4 l' hl'
  · obtain ⟨y, h3, h4⟩ := W.ov o ho
    obtain ⟨y', k1, k2, _⟩ := keep _ y h3
    exact ⟨y', k1, by rw [k2]; exact h4⟩
  · obtain ⟨y, h3, h4⟩ := W.st s hs
    obtain ⟨y', k1, k2, _⟩ := keep _ y h3
    exact ⟨y', k1, by rw [k2]; exact h4⟩
theorem filter_imp {α : Type} {p q : α → Bool} (h : ∀ x, q x = true → p x = true) (l : List α) : (l.filter q).Sublist (l.filter p) := by
  have e : l.filter q = (l.filter p).filter q := by
    rw [List.filter_filter]
    apply List.filter_congr
    intro x _
    cases hq : q x with
    | false => rfl
    | true => rw [h x hq]; rfl
  rw [e]
  exact List.filter_sublist
theorem Wf.rem {a : Kex2.Assigner} (W : Wf a) {i : Nat} {x : Kex2.Experiment} {l : Kex2.Layer} (hx : experimentAt a i = some x) (hl : a.layers[x.layer]? = some l) : Wf (removed a i x l) := by
  have hi := (List.getElem?_eq_some_iff.mp hl).1
  have h4 := (W.exp i x hx).2.1.2.1
  have hn := (List.getElem?_eq_some_iff.mp (exp_at.mp hx)).1
  obtain ⟨_, _, R⟩ := realloc_of W (goal := x.weights.map fun _ => 0) hl (exp_lt W hx) (by rw [List.length_map]; exact h4) (by rw [zeros_sum]; exact Nat.zero_le _)
  rw [freed_is W hx hl] at R
  have at_i : experimentAt (removed a i x l) i = none := by
    unfold experimentAt
    show ((a.experiments.set i none)[i]?).join = none
    rw [List.getElem?_set_self hn]
    rfl
  have at_f : ∀ f, f ≠ i → experimentAt (removed a i x l) f = experimentAt a f := fun f hf => by
    unfold experimentAt
    show ((a.experiments.set i none)[f]?).join = _
    rw [List.getElem?_set_ne (Ne.symm hf)]
  refine ⟨by show (a.layers.set x.layer _).length ≤ 4; rw [List.length_set]; exact W.nl, by show (a.experiments.set i none).length ≤ 8; rw [List.length_set]; exact W.ne, Nat.le_trans (List.length_filter_le _ _) W.no, Nat.le_trans (List.length_filter_le _ _) W.ns, fun j l' hl' => ?_, fun f y hy => ?_, fun o ho => ?_, W.ovn.sublist (List.filter_sublist.map _), fun s hs => ?_, W.stn.sublist ((List.filter_sublist).filter _)⟩
  · have hl' : (a.layers.set x.layer { l with owners := freed i l.owners })[j]? = some l' := hl'
    rcases set_cases hl' with ⟨c, rfl⟩ | ⟨c, hl'⟩
    · subst c
      obtain ⟨w1, w2⟩ := W.own _ l hl
      refine ⟨by show (freed i l.owners).length = 100; unfold freed; rw [List.length_map]; exact w1, fun o ho => ?_⟩
      have ho : o ∈ freed i l.owners := ho
      unfold freed at ho
      obtain ⟨q, hq, rfl⟩ := List.mem_map.mp ho
      by_cases d : ownE q = (i : Int)
      · rw [decide_eq_true d]
        exact .inl rfl
      · rw [decide_eq_false d]
        rcases w2 q hq with z | ⟨f, v, y, e1, e2, e3, e4⟩
        · exact .inl z
        · have hv4 : v < 4 := by have := (W.exp f y e2).2.1.2.1; omega
          have nf : f ≠ i := fun z => d (by rw [e1, ownE_of hv4, z])
          exact .inr ⟨f, v, y, e1, by rw [at_f f nf]; exact e2, e3, e4⟩
    · obtain ⟨w1, w2⟩ := W.own j l' hl'
      refine ⟨w1, fun o ho => ?_⟩
      rcases w2 o ho with z | ⟨f, v, y, e1, e2, e3, e4⟩
      · exact .inl z
      · have nf : f ≠ i := fun z => by
          rw [z, hx] at e2
          cases e2
          exact c e3
        exact .inr ⟨f, v, y, e1, by rw [at_f f nf]; exact e2, e3, e4⟩
  · have nf : f ≠ i := fun z => by rw [z, at_i] at hy; cases hy
    rw [at_f f nf] at hy
    obtain ⟨w1, w2, w3, w4⟩ := W.exp f y hy
    refine ⟨by show y.layer < (a.layers.set x.layer _).length; rw [List.length_set]; exact w1, w2, w3, fun l' hl' => ?_⟩
    have hl' : (a.layers.set x.layer { l with owners := freed i l.owners })[y.layer]? = some l' := hl'
    rcases set_cases hl' with ⟨d, rfl⟩ | ⟨d, hl'⟩
    · show ownSum (freed i l.owners) f y.weights.length = _
      rw [ownSum_other R (exp_lt W hy) w2.2.1 (by rw [List.length_map]; exact h4) nf]
      exact w4 l (by rw [← d]; exact hl)
    · exact w4 l' hl'
  · obtain ⟨h5, h6⟩ := List.mem_filter.mp ho
    obtain ⟨y, h3, h4⟩ := W.ov o h5
    exact ⟨y, by rw [at_f _ (by simpa using h6)]; exact h3, h4⟩
  · obtain ⟨h5, h6⟩ := List.mem_filter.mp hs
    obtain ⟨y, h3, h4⟩ := W.st s h5
    exact ⟨y, by rw [at_f _ (by simpa using h6)]; exact h3, h4⟩
theorem Wf.changed {a : Kex2.Assigner} (W : Wf a) {i t : Nat} {x : Kex2.Experiment} {l : Kex2.Layer} {ws : List Nat} (hx : experimentAt a i = some x) (hl : a.layers[x.layer]? = some l) (hw : Wts ws) (hwl : ws.length = x.weights.length) (ht : t ≤ 100) (hf : ¬ (idxs l.owners 0).length + x.traffic < t) : Wf (changedA a i x l t ws) := by
  have hlen := targets_len t ws
  obtain ⟨w1, w2, w3, w4⟩ := W.exp i x hx
  have hn := (List.getElem?_eq_some_iff.mp (exp_at.mp hx)).1
  obtain ⟨_, _, R⟩ := realloc_of W (goal := Kex2.targets t ws) hl (exp_lt W hx) (by rw [hlen]; exact hw.2.1) (by
    rw [targets_sum hw.pos, hlen, hwl, w4 l hl]
    omega)
  exact W.chg (x' := { x with traffic := t, weights := ws }) (E' := a.experiments.set i (some { x with traffic := t, weights := ws })) hl (exp_lt W hx) (by rw [List.length_set]; exact W.ne) (by rw [List.getElem?_set_self hn]) (fun f hf => List.getElem?_set_ne (Ne.symm hf)) rfl hw ht R hlen (targets_sum hw.pos)
    fun y hy => by
      rw [hx] at hy
      cases hy
      exact ⟨rfl, hwl.symm⟩
end Vb

set_option Elab.async false
set_option linter.all false
set_option maxRecDepth 100000
set_option maxHeartbeats 1000000
/-! Every step keeps the state in order: all requests. -/
namespace Vb
open Kex2 (experimentAt)
theorem Wf.ite {a' : Kex2.Assigner} {c : Prop} [Decidable c] {x y : Kex2.State × Kex2.Result} {res : Kex2.Result} (h : (if c then x else y) = (some a', res)) (h1 : c → x = (some a', res) → Wf a') (h2 : ¬ c → y = (some a', res) → Wf a') : Wf a' := by
  by_cases d : c
  · rw [if_pos d] at h
    exact h1 d h
  · rw [if_neg d] at h
    exact h2 d h
theorem Wf.eq {a a' : Kex2.Assigner} {r res : Kex2.Result} (W : Wf a) (h : (some a, r) = (some a', res)) : Wf a' := by
  cases h
  exact W
theorem Wf.same_of {a a' : Kex2.Assigner} {r : Kex2.Request} {res : Kex2.Result} (W : Wf a) {out : Kex2.Result} (h : Kex2.step (some a) r = (some a', res)) (e : Kex2.step (some a) r = (some a, out)) : Wf a' := W.eq (e.symm.trans h)
theorem Wf.addLayer {a : Kex2.Assigner} (W : Wf a) (s : List Nat) (h : ¬ 4 ≤ a.layers.length) : Wf { a with layers := a.layers ++ [⟨s, List.replicate Kex2.bucketCount 0⟩] } := by
  refine ⟨by show (a.layers ++ _).length ≤ 4; rw [List.length_append]; show a.layers.length + 1 ≤ 4; omega, W.ne, W.no, W.ns, fun i l hl => ?_, fun e x hx => ?_, W.ov, W.ovn, W.st, W.stn⟩
  · have hl : (a.layers ++ [⟨s, List.replicate Kex2.bucketCount 0⟩])[i]? = some l := hl
    by_cases c : i < a.layers.length
    · rw [List.getElem?_append_left c] at hl
      exact W.own i l hl
    · rw [List.getElem?_append_right (by omega)] at hl
      by_cases d : i - a.layers.length = 0
      · rw [d] at hl
        cases hl
        refine ⟨List.length_replicate, fun o ho => .inl ?_⟩
        exact (List.mem_replicate.mp ho).2
      · obtain ⟨k, hk⟩ : ∃ k, i - a.layers.length = k + 1 := ⟨i - a.layers.length - 1, by omega⟩
        rw [hk] at hl
        simp at hl
  · obtain ⟨w1, w2, w3, w4⟩ := W.exp e x hx
    refine ⟨by show x.layer < (a.layers ++ _).length; rw [List.length_append]; omega, w2, w3, fun l hl => w4 l ?_⟩
    have hl : (a.layers ++ [⟨s, List.replicate Kex2.bucketCount 0⟩])[x.layer]? = some l := hl
    rw [List.getElem?_append_left w1] at hl
    exact hl
theorem Wf.addExp {a : Kex2.Assigner} (W : Wf a) {i t : Nat} {l : Kex2.Layer} {ws : List Nat} (hl : a.layers[i]? = some l) (hw : Wts ws) (ht : t ≤ 100) (h8 : ¬ 8 ≤ a.experiments.length) (hf : ¬ (idxs l.owners 0).length < t) :
    Wf { a with layers := a.layers.set i { l with owners := Kex2.reallocate l.owners a.experiments.length (Kex2.targets t ws) }, experiments := a.experiments ++ [some ⟨i, t, ws⟩] } := by
  have hlen := targets_len t ws
  obtain ⟨_, _, R⟩ := realloc_of W (goal := Kex2.targets t ws) hl (show a.experiments.length < 8 by omega) (by rw [hlen]; exact hw.2.1) (by
    rw [targets_sum hw.pos]
    omega)
  refine W.chg (x' := ⟨i, t, ws⟩) hl (by omega) (by rw [List.length_append]; show a.experiments.length + 1 ≤ 8; omega) (by rw [List.getElem?_append_right (Nat.le_refl _), Nat.sub_self]; rfl) (fun f hf => ?_) rfl hw ht R hlen (targets_sum hw.pos) fun y hy => ?_
  · by_cases c : f < a.experiments.length
    · rw [List.getElem?_append_left c]
    · rw [List.getElem?_append_right (by omega), List.getElem?_eq_none (l := a.experiments) (by omega)]
      obtain ⟨k, hk⟩ : ∃ k, f - a.experiments.length = k + 1 := ⟨f - a.experiments.length - 1, by omega⟩
      rw [hk]
      rfl
  · have := (List.getElem?_eq_some_iff.mp (exp_at.mp hy)).1
    omega
theorem Wf.setOv {a : Kex2.Assigner} (W : Wf a) {i v : Nat} {u : List Nat} {x : Kex2.Experiment} (hx : experimentAt a i = some x) (hv : v < x.weights.length) (h : ¬ ((a.overrides.filter fun o => !isV i u o).length = a.overrides.length ∧ 16 ≤ a.overrides.length)) : Wf { a with overrides := (a.overrides.filter fun o => !isV i u o) ++ [⟨i, u, v⟩] } := by
  have hl := List.length_filter_le (fun o => !isV i u o) a.overrides
  have h16 := W.no
  refine ⟨W.nl, W.ne, by show ((a.overrides.filter _) ++ _).length ≤ 16; rw [List.length_append]; show _ + 1 ≤ 16; omega, W.ns, W.own, W.exp, fun o ho => ?_, ?_, W.st, W.stn⟩
  · rcases List.mem_append.mp ho with ho | ho
    · exact W.ov o (List.mem_filter.mp ho).1
    · rw [List.mem_singleton.mp ho]
      exact ⟨x, hx, hv⟩
  · show (((a.overrides.filter fun o => !isV i u o) ++ [(⟨i, u, v⟩ : Kex2.Override)]).map fun (o : Kex2.Override) => (o.experiment, o.unit)).Nodup
    rw [List.map_append, List.nodup_append]
    refine ⟨W.ovn.sublist (List.filter_sublist.map _), by simp, fun z hz y hy => ?_⟩
    have ey : y = (i, u) := by simpa using hy
    obtain ⟨o, ho, rfl⟩ := List.mem_map.mp hz
    intro z
    rw [ey] at z
    have := (List.mem_filter.mp ho).2
    unfold isV at this
    rw [(Prod.mk.inj z).1, (Prod.mk.inj z).2] at this
    simp at this
theorem Wf.upd1 {a : Kex2.Assigner} (W : Wf a) {i z : Nat} {u : List Nat} : Wf { a with sticky := (validsA a).map fun t => if t.experiment = i ∧ t.unit = u then { t with expiry := max t.expiry z } else t } := by
  have same : ∀ t : Kex2.Sticky, (if t.experiment = i ∧ t.unit = u then { t with expiry := max t.expiry z } else t).experiment = t.experiment ∧ (if t.experiment = i ∧ t.unit = u then { t with expiry := max t.expiry z } else t).unit = t.unit ∧ (if t.experiment = i ∧ t.unit = u then { t with expiry := max t.expiry z } else t).variant = t.variant := fun t => by
    by_cases c : t.experiment = i ∧ t.unit = u
    · rw [if_pos c]
      exact ⟨rfl, rfl, rfl⟩
    · rw [if_neg c]
      exact ⟨rfl, rfl, rfl⟩
  refine ⟨W.nl, W.ne, W.no, by show (List.map _ _).length ≤ 32; rw [List.length_map]; exact W.clean.ns, W.own, W.exp, W.ov, W.ovn, fun s hs => ?_, ?_⟩
  · obtain ⟨t, ht, rfl⟩ := List.mem_map.mp hs
    obtain ⟨x, h1, h2⟩ := W.clean.st t ht
    obtain ⟨e1, _, e3⟩ := same t
    exact ⟨x, by rw [e1]; exact h1, by rw [e3]; exact h2⟩
  · refine List.Pairwise.sublist List.filter_sublist ?_
    show ((validsA a).map fun (t : Kex2.Sticky) => if t.experiment = i ∧ t.unit = u then { t with expiry := max t.expiry z } else t).Pairwise fun s t => ¬ (s.experiment = t.experiment ∧ s.unit = t.unit)
    rw [List.pairwise_map]
    refine W.stn.imp fun {s t} h => ?_
    rw [(same s).1, (same s).2.1, (same t).1, (same t).2.1]
    exact h
theorem Wf.add2 {a : Kex2.Assigner} (W : Wf a) {i v z : Nat} {u : List Nat} {x : Kex2.Experiment} (hx : experimentAt a i = some x) (hv : v < x.weights.length) (hs : Kex2.stickyIn a x.layer u = none) (h : ¬ 32 ≤ (validsA a).length) : Wf { a with sticky := validsA a ++ [⟨i, u, v, z⟩] } := by
  refine ⟨W.nl, W.ne, W.no, by show (validsA a ++ _).length ≤ 32; rw [List.length_append]; show (validsA a).length + 1 ≤ 32; omega, W.own, W.exp, W.ov, W.ovn, fun s hs => ?_, ?_⟩
  · rcases List.mem_append.mp hs with hs | hs
    · exact W.clean.st s hs
    · rw [List.mem_singleton.mp hs]
      exact ⟨x, hx, hv⟩
  · refine List.Pairwise.sublist List.filter_sublist ?_
    show (validsA a ++ [(⟨i, u, v, z⟩ : Kex2.Sticky)]).Pairwise fun s t => ¬ (s.experiment = t.experiment ∧ s.unit = t.unit)
    rw [List.pairwise_append]
    refine ⟨W.stn, List.pairwise_singleton _ _, fun s hs2 t ht => ?_⟩
    rw [List.mem_singleton.mp ht]
    rintro ⟨e1, e2⟩
    rw [W.sticky] at hs
    have h1 := List.find?_eq_none.mp hs s hs2
    apply h1
    have e1 : s.experiment = i := e1
    have e2 : s.unit = u := e2
    unfold inLay
    rw [e1, hx, e2]
    simp
theorem Wf.step {a a' : Kex2.Assigner} {r : Kex2.Request} {res : Kex2.Result} (W : Wf a) (h : Kex2.step (some a) r = (some a', res)) : Wf a' := by
  cases r with
  | create salt => exact Wf.ite h (fun _ h => W.eq h) fun _ h => by cases h; exact Wf.empty salt
  | addLayer salt =>
    rw [step_addL] at h
    exact Wf.ite h (fun _ h => W.eq h) fun _ h => Wf.ite h (fun _ h => W.eq h) fun _ h => Wf.ite h (fun _ h => W.eq h) fun c h => by cases h; exact W.addLayer salt c
  | addExperiment i t ws =>
    by_cases hi : a.layers.length ≤ i
    · exact W.same_of h (if_pos hi)
    · obtain ⟨l, hl⟩ := lay_of (a := a) (i := i) (by omega)
      rw [step_addE hl] at h
      refine Wf.ite h (fun _ h => W.eq h) fun c1 h => Wf.ite h (fun _ h => W.eq h) fun c2 h => Wf.ite h (fun _ h => W.eq h) fun c3 h => ?_
      cases h
      have hw : Kex2.areWeights ws = true := by
        cases q : Kex2.areWeights ws with
        | true => rfl
        | false => exact absurd (.inr q) c1
      have ht : ¬ (100 : Nat) < t := fun z => c1 (.inl z)
      exact W.addExp hl (wts_of hw) (by omega) c2 c3
  | removeExperiment i =>
    cases hx : experimentAt a i with
    | none => exact W.same_of h (step_none hx).2.2.1
    | some x =>
      obtain ⟨l, hl⟩ := lay_of (W.exp i x hx).1
      rw [step_rem W hx hl] at h
      cases h
      exact W.rem hx hl
  | setTraffic i t =>
    cases hx : experimentAt a i with
    | none => exact W.same_of h ((step_none hx).2.2.2.1 t)
    | some x =>
      obtain ⟨w1, w2, w3, w4⟩ := W.exp i x hx
      obtain ⟨l, hl⟩ := lay_of w1
      have h : Kex2.step (some a) (rqT true i t) = _ := h
      rw [step_T true hx hl] at h
      refine Wf.ite h (fun _ h => W.eq h) fun c1 h => Wf.ite h (fun _ h => W.eq h) fun c2 h => ?_
      cases h
      exact W.changed hx hl w2 rfl (by have c1 : ¬ (100 : Nat) < t := c1; omega) c2
  | setWeights i ws =>
    cases hx : experimentAt a i with
    | none => exact W.same_of h ((step_none hx).2.2.2.2.1 ws)
    | some x =>
      obtain ⟨w1, w2, w3, w4⟩ := W.exp i x hx
      obtain ⟨l, hl⟩ := lay_of w1
      have h : Kex2.step (some a) (rqW true i ws) = _ := h
      rw [step_W true hx hl] at h
      refine Wf.ite h (fun _ h => W.eq h) fun c1 h => ?_
      cases h
      have hw : Kex2.areWeights ws = true := by
        cases q : Kex2.areWeights ws with
        | true => rfl
        | false => exact absurd (.inl q) c1
      have hl2 : ws.length = x.weights.length := Classical.byContradiction fun z => c1 (.inr z)
      exact W.changed hx hl (wts_of hw) hl2 w3 (by omega)
  | setHoldout n => exact Wf.ite h (fun _ h => W.eq h) fun _ h => by cases h; exact ⟨W.nl, W.ne, W.no, W.ns, W.own, W.exp, W.ov, W.ovn, W.st, W.stn⟩
  | setOverride i v u =>
    cases hx : experimentAt a i with
    | none => exact W.same_of h ((step_none hx).2.2.2.2.2.2.2.1 v u)
    | some x =>
      rw [step_setO hx] at h
      refine Wf.ite h (fun _ h => W.eq h) fun c1 h => Wf.ite h (fun _ h => W.eq h) fun c2 h => ?_
      cases h
      exact W.setOv hx (Nat.lt_of_not_le fun z => c1 (.inl z)) c2
  | removeOverride i u =>
    rw [step_remO] at h
    refine Wf.ite h (fun _ h => W.eq h) fun _ h => ?_
    cases h
    exact ⟨W.nl, W.ne, Nat.le_trans (List.length_filter_le _ _) W.no, W.ns, W.own, W.exp, fun o ho => W.ov o (List.mem_filter.mp ho).1, W.ovn.sublist (List.filter_sublist.map _), W.st, W.stn⟩
  | advance t =>
    refine Wf.ite h (fun _ h => W.eq h) fun _ h => ?_
    cases h
    refine ⟨W.nl, W.ne, W.no, W.ns, W.own, W.exp, W.ov, W.ovn, W.st, W.stn.sublist (filter_imp (fun x hx => ?_) _)⟩
    have hx := of_decide_eq_true hx
    have hx : a.clock + t < x.expiry := hx
    exact decide_eq_true (by omega)
  | enter i d u =>
    cases hx : experimentAt a i with
    | none => exact W.same_of h ((step_noneE hx).1 d u)
    | some x =>
      by_cases hb : d = 0 ∨ Kex2.maxDuration < d ∨ Kex2.isUnit u = false
      · exact W.same_of h (enter22 hx hb)
      · rw [enter_is W hx hb] at h
        cases hr : Kex2.assignment a i u with
        | none => rw [hr] at h; exact W.eq h
        | some r =>
          rw [hr] at h
          refine Wf.ite h (fun _ h => W.eq h) fun c0 h => Wf.ite h (fun _ h => ?_) fun c1 h => Wf.ite h (fun _ h => W.eq h) fun c2 h => ?_
          · cases h
            exact W.upd1
          · cases h
            rcases asg_cases hx hr with e | ⟨e, _⟩ | ⟨_, e⟩
            · exact absurd e c0
            · exact absurd e c1
            · exact W.add2 hx (asg_lt W hx hr) e c2
  | assign i u => exact W.eq h
  | experimentOf l u => exact W.eq h
  | bucket l u => exact W.eq h
  | hash b => exact W.eq h
  | isHeldOut u => exact W.eq h
  | allocation l => exact W.eq h
  | freeCount l => exact W.eq h
  | targets i => exact W.eq h
  | previewTraffic i t => exact W.eq h
  | previewWeights i ws => exact W.eq h
  | getExperiment i => exact W.eq h
  | listSticky i => exact W.eq h
  | sampleCounts i n => exact W.eq h
  | crossTable i j n => exact W.eq h
  | summary => exact W.eq h
end Vb

set_option Elab.async false
set_option linter.all false
set_option maxRecDepth 100000
set_option maxHeartbeats 4000000
/-! create, answered. -/
namespace Vb
open PySem PySem.Spec PyProof.Rows L2
open LamX (ExtN Tabs TabB)
open Kex2 (experimentAt)
/-- the request of a deed, its numbers and its row -/
def req : Nat → List Nat → List Nat → Option Kex2.Request
  | 0, [], r => some (.create r)
  | 1, [], r => some (.addLayer r)
  | 2, [x, y], r => some (.addExperiment x y r)
  | 3, [x], [] => some (.removeExperiment x)
  | 4, [x, y], [] => some (.setTraffic x y)
  | 5, [x], r => some (.setWeights x r)
  | 6, [x], [] => some (.setHoldout x)
  | 7, [x, y], r => some (.setOverride x y r)
  | 8, [x], r => some (.removeOverride x r)
  | 9, [x], [] => some (.advance x)
  | 10, [x, y], r => some (.enter x y r)
  | 11, [x], r => some (.assign x r)
  | 12, [x], r => some (.experimentOf x r)
  | 13, [x], r => some (.bucket x r)
  | 14, [], r => some (.hash r)
  | 15, [], r => some (.isHeldOut r)
  | 16, [x], [] => some (.allocation x)
  | 17, [x], [] => some (.freeCount x)
  | 18, [x], [] => some (.targets x)
  | 19, [x, y], [] => some (.previewTraffic x y)
  | 20, [x], r => some (.previewWeights x r)
  | 21, [x], [] => some (.getExperiment x)
  | 22, [x], [] => some (.listSticky x)
  | 23, [x, y], [] => some (.sampleCounts x y)
  | 24, [x, y, z], [] => some (.crossTable x y z)
  | 25, [], [] => some (.summary)
  | _, _, _ => none
/-- a local's def called: the promise goes with the address -/
def tCallV (P : Program) (w : World) (K : PySem.W.Frag) (mg : Str → Option Value) (base : Heap) (k i : Nat) (t : TA) : TE := fun σ H Q => ∃ f sp, σ[i]? = some (some (.ref f)) ∧ Held P w K mg base k f sp ∧ t σ H fun vs H1 => sp vs H1 Q E0
section
variable {X : Cx} {k i : Nat} {x : Str} {p pos : Pos} {e : Expr} {es : List Expr} {t : TA}
theorem pe_callV (hr : Room k X.A) (hN : X.N[i]? = some x) (hv : Vis X.env.scope x) (ha : PA X (e :: es) t)
    (hdb : (x == ("__debug__" : Str)) = false := by decide) (hcd : (x == ("__classdict__" : Str)) = false := by decide)
    (he : starEach (e :: es) X.env = (false, eval e X.env) :: starEach es X.env := by rfl) (hpl : (backTo pos (starEach es X.env)).any (·.1) = false := by rfl) : PE X (.Call (.Name x p) (e :: es) [] pos) (tCallV X.prog X.w X.K X.mg X.base k i t) := by
  refine ⟨fun pins s σ H Q I h => ?_⟩
  obtain ⟨f, sp, hs, hH, ht⟩ := h
  obtain ⟨fd, ps, F, hk, hb⟩ := hH.ex
  refine (pe_callL (i := i) (f := f) (sp := sp) (dvs := []) (E := fun _ _ _ => False) F hr hN hv hk hb .nil (fun _ _ _ _ _ _ _ z => z.elim) ha hdb hcd he hpl).run pins s σ H Q I ⟨hs, ?_⟩
  have e0 : (fun (vs : List V) (H1 : Hp) => sp (vs ++ []) H1 Q (fun _ _ _ => False)) = fun vs H1 => sp vs H1 Q (fun _ _ _ => False) := by
    funext vs H1
    rw [List.append_nil]
  show t σ H (fun vs H1 => sp (vs ++ []) H1 Q (fun _ _ _ => False))
  rw [e0]
  exact ht
end
/-- the machine's state, in the heap -/
def RepS (P : Program) (w : World) (K : PySem.W.Frag) (H : Hp) (p : Addr) (c : Loc) : Kex2.State → Prop
  | none => c = ⟨p, p, p, p⟩ ∧ ∃ dx s b h cl l e o t, H p = some (.ins (He.ga K "Platform") dx (plaF (.bl false) s b h cl l e o t))
  | some a => Rep P w K H p c a ∧ Wf a
def KDS (P : Program) (w : World) (K : PySem.W.Frag) (H : Hp) (p : Addr) (c : Loc) (s : Kex2.State) (r : Kex2.Request) (Q : VK) : Prop :=
  ∀ H' q c' s' res, Away H c q → Fr H c H' c' → Tabs (tT K) H' → RepS P w K H' p c' s' → Kex2.step s r = (s', res) → H' q = some (.lst ((Kex2Neutral.fields res).map V.int)) → Q (.ref q) H'
theorem RepS.same {P : Program} {w : World} {K : PySem.W.Frag} {H H' : Hp} {p : Addr} {c : Loc} {s : Kex2.State} (h : RepS P w K H p c s) (e : Same H H') : RepS P w K H' p c s := by
  cases s with
  | none =>
    obtain ⟨h1, dx, s, b, h, cl, l, e', o, t, h2⟩ := h
    exact ⟨h1, dx, s, b, h, cl, l, e', o, t, e _ _ h2⟩
  | some a => exact ⟨h.1.same e, h.2⟩
theorem RepS.pl {P : Program} {w : World} {K : PySem.W.Frag} {H : Hp} {p : Addr} {c : Loc} {s : Kex2.State} (h : RepS P w K H p c s) : ∃ dx sa b h cl l e o t, H p = some (.ins (He.ga K "Platform") dx (plaF (.bl s.isSome) sa b h cl l e o t)) := by
  cases s with
  | none => exact h.2
  | some a =>
    obtain ⟨dx, q, h1, _⟩ := h.1.pl
    exact ⟨dx, _, _, _, _, _, _, _, _, h1⟩
def spCreate (P : Program) (w : World) (K : PySem.W.Frag) : Sp := fun vs H Q _ => ∃ (p pn pr : Addr) (c : Loc) (s : Kex2.State) (row : List Nat), vs = [.ref p, .ref pn, .ref pr] ∧ RepS P w K H p c s ∧ SqL K H pr (nats row) ∧ row.length ≤ 1000 ∧ Tabs (tT K) H ∧ KDS P w K H p c s (.create row) Q
def spAnswered (P : Program) (w : World) (K : PySem.W.Frag) : Sp := fun vs H Q _ => ∃ (p pn pr : Addr) (c : Loc) (s : Kex2.State) (d : Nat) (nums row : List Nat) (r : Kex2.Request), vs = [.ref p, nI d, .ref pn, .ref pr] ∧ RepS P w K H p c s ∧ SqL K H pn (nats nums) ∧ SqL K H pr (nats row) ∧ row.length ≤ 1000 ∧ Tabs (tT K) H ∧
  req d nums row = some r ∧ KDS P w K H p c s r Q
theorem req0 {nums row : List Nat} {r : Kex2.Request} (h : req 0 nums row = some r) : r = .create row := by
  cases nums with
  | nil =>
    cases h
    rfl
  | cons x l => cases h
theorem step_nil0 {d : Nat} {nums row : List Nat} {r : Kex2.Request} (h : req d nums row = some r) (h0 : d ≠ 0) : Kex2.step none r = (none, .value (-11)) := by
  unfold req at h
  split at h <;> first | exact absurd rfl h0 | (cases h; rfl) | cases h
section
variable {P : Program} {w : World} {K : PySem.W.Frag} {mg : Str → Option Value} {base : Heap}
/-- the deed's def -/
theorem deed_of (T : Txt K mg) (TK : TabK base mg K) {d : Nat} {nums row : List Nat} {r : Kex2.Request} (h : req d nums row = some r) (h0 : d ≠ 0) : ∃ (x : Str) (nn : Nat) (rq : List Nat → List Nat → Kex2.Request),
    ((deeds.map fun q => (q.1, He.Dv.glo q.2)).map fun q => (q.1, q.2.v K)).lookup (d : Int) = some (.ref (He.ga K x)) ∧ Held P w K mg base 9 (He.ga K x) (spDeed P w K nn rq) ∧ nums.length = nn ∧ rq nums row = r := by
  unfold req at h
  split at h
  · exact absurd rfl h0
  · cases h
    exact ⟨"call_add_layer", 0, _, rfl, Vb.Held.mono (h_add_layer T) (by decide), rfl, rfl⟩
  · cases h
    exact ⟨"call_add_experiment", 2, _, rfl, Vb.Held.mono (h_add_experiment T TK) (by decide), rfl, rfl⟩
  · cases h
    exact ⟨"call_remove_experiment", 1, _, rfl, Vb.Held.mono (h_remove_experiment T) (by decide), rfl, rfl⟩
  · cases h
    exact ⟨"call_set_traffic", 2, _, rfl, Vb.Held.mono (h_set_traffic T TK) (by decide), rfl, rfl⟩
  · cases h
    exact ⟨"call_set_weights", 1, _, rfl, Vb.Held.mono (h_set_weights T TK) (by decide), rfl, rfl⟩
  · cases h
    exact ⟨"call_set_holdout", 1, _, rfl, Vb.Held.mono (h_set_holdout T) (by decide), rfl, rfl⟩
  · cases h
    exact ⟨"call_set_override", 2, _, rfl, Vb.Held.mono (h_set_override T) (by decide), rfl, rfl⟩
  · cases h
    exact ⟨"call_remove_override", 1, _, rfl, Vb.Held.mono (h_remove_override T) (by decide), rfl, rfl⟩
  · cases h
    exact ⟨"call_advance", 1, _, rfl, Vb.Held.mono (h_advance T) (by decide), rfl, rfl⟩
  · cases h
    exact ⟨"call_enter", 2, _, rfl, Vb.Held.mono (h_enter T) (by decide), rfl, rfl⟩
  · cases h
    exact ⟨"call_assign", 1, _, rfl, Vb.Held.mono (h_assign T) (by decide), rfl, rfl⟩
  · cases h
    exact ⟨"call_experiment_of", 1, _, rfl, Vb.Held.mono (h_experiment_of T) (by decide), rfl, rfl⟩
  · cases h
    exact ⟨"call_bucket", 1, _, rfl, Vb.Held.mono (h_bucket T) (by decide), rfl, rfl⟩
  · cases h
    exact ⟨"call_hash", 0, _, rfl, Vb.Held.mono (h_hash T) (by decide), rfl, rfl⟩
  · cases h
    exact ⟨"call_is_held_out", 0, _, rfl, Vb.Held.mono (h_is_held_out T) (by decide), rfl, rfl⟩
  · cases h
    exact ⟨"call_allocation", 1, _, rfl, Vb.Held.mono (h_allocation T) (by decide), rfl, rfl⟩
  · cases h
    exact ⟨"call_free_count", 1, _, rfl, Vb.Held.mono (h_free_count T) (by decide), rfl, rfl⟩
  · cases h
    exact ⟨"call_targets", 1, _, rfl, Vb.Held.mono (h_targets T TK) (by decide), rfl, rfl⟩
  · cases h
    exact ⟨"call_preview_traffic", 2, _, rfl, Vb.Held.mono (h_preview_traffic T TK) (by decide), rfl, rfl⟩
  · cases h
    exact ⟨"call_preview_weights", 1, _, rfl, Vb.Held.mono (h_preview_weights T TK) (by decide), rfl, rfl⟩
  · cases h
    exact ⟨"call_get_experiment", 1, _, rfl, Vb.Held.mono (h_get_experiment T) (by decide), rfl, rfl⟩
  · cases h
    exact ⟨"call_list_stored", 1, _, rfl, Vb.Held.mono (h_list_stored T) (by decide), rfl, rfl⟩
  · cases h
    exact ⟨"call_sample_counts", 2, _, rfl, Vb.Held.mono (h_sample_counts T) (by decide), rfl, rfl⟩
  · cases h
    exact ⟨"call_cross_table", 3, _, rfl, Vb.Held.mono (h_cross_table T) (by decide), rfl, rfl⟩
  · cases h
    exact ⟨"call_summary", 0, _, rfl, Vb.Held.mono (h_summary T) (by decide), rfl, rfl⟩
  · cases h
theorem sc_call_create : FnScope ["own", "numbers", "row"] ["own", "numbers", "row"] (defScope s_call_create) := ⟨rfl, rfl, rfl, by decide +kernel, rfl, by decide +kernel, by decide +kernel⟩
theorem h_create (T : Txt K mg) : Held P w K mg base 4 (He.ga K "call_create") (spCreate P w K) := by
  refine held_of (ps := ["own", "numbers", "row"]) T.d_call_create sc_call_create (fun vs H Q E h => by obtain ⟨_, _, _, _, _, _, rfl, _⟩ := h; rfl) (fun _ _ _ _ _ _ us hl => match us, hl with | [_, _, _], _ => rfl) (fun cdv A outer s H vs Q E hr h => ?_)
  have hr1 : Room 1 _ := hr.mono (by decide)
  refine ⟨_, pss_cons (ps_if (pt_not (pt_val (pe_callH (h_are_octets T) hr1 T.g_are_octets (pa_cons (pv 2) (pa_cons pe_int pa_nil))))) (pss_one (ps_ret (pe_lst (pa_cons (pe_un un_neg pe_int) pa_nil)))) pss_nil)
    (pss_cons (ps_expr (pe_methH (h_Platform_start T) hr T.c_Platform T.m_Platform_start (pv 0) (pa_cons (pe_callTy call_tupL (by rfl) T.f_tuple (by decide +kernel) (pa_cons (pv 2) pa_nil)) pa_nil)))
    (pss_one (ps_ret (pe_lst (pa_cons pe_int pa_nil))))), ?_⟩
  obtain ⟨p, pn, pr, c, s0, row, rfl, R, hR, hrow, hT, k⟩ := h
  have hst : Kex2.step s0 (.create row) = if Kex2.isUnit row = false then (s0, .value (-22)) else (some (emptyA row), .value 0) := by cases s0 <;> rfl
  refine ⟨_, rfl, pr, row, 1, rfl, hR, fun H1 s1 => ?_⟩
  rw [octs1 hrow]
  cases h2 : Kex2.isUnit row with
  | false =>
    rw [if_pos h2] at hst
    refine ⟨_, rfl, iteT ⟨_, rfl, le1, fun q hq => ?_⟩⟩
    have s2 := s1.trans (same_new (o := .lst [V.int (-22)]) hq)
    exact k _ q c s0 (.value (-22)) (.fr (.same s1) hq) (.same s2) (hT.ext s2) (R.same s2) hst upd_same
  | true =>
    rw [if_neg (by rw [h2]; decide)] at hst
    obtain ⟨dx, sa, b, h, cl, l, e, o, t, hp⟩ := (R.same s1).pl
    refine ⟨_, rfl, iteF ⟨_, rfl, p, dx, _, rfl, hp, rfl, _, rfl, pr, _, rfl, s1.seq hR, fun t1 g1 => ?_⟩⟩
    have s2 : Same H (upd H1 t1 (.tup (nats row))) := s1.trans (same_new g1)
    have hp2 := same_new (o := .tup (nats row)) g1 _ _ hp
    refine ⟨p, t1, dx, row, _, _, _, _, _, _, _, _, _, rfl, hp2, SqT.of upd_same, fun H3 c' e3 R3 f1 f2 f3 => ?_⟩
    have F3 : Fr (upd H1 t1 (.tup (nats row))) c H3 c' := ⟨fun b o hb hf _ _ _ => e3 b o (fun z => by rw [z, hp2] at hb; cases hb; cases hf) hb, .inr (.inr (.inr (.of f1))), .inr (.inr (.inr (.of f2))), .inr (.inr (.inr (.of f3)))⟩
    have T3 : Tabs (tT K) H3 := fun q hq => by
      obtain ⟨ps, h1, h2, h3⟩ := (hT.ext s2) q hq
      refine ⟨ps, e3 _ _ (fun z => by rw [z, hp2] at h1; cases h1) h1, h2, fun pos cv hc => ?_⟩
      obtain ⟨cc, e1, e2⟩ := h3 pos cv hc
      exact ⟨cc, e1, e3 _ _ (fun z => by rw [z, hp2] at e2; unfold LamX.CodeO at e2; cases e2) e2⟩
    refine ⟨le1, fun q hq => ?_⟩
    exact k _ q c' (some (emptyA row)) (.value 0) (.fr ((Fr.same s2).trans F3) hq) (((Fr.same s2).trans F3).trans (.same (same_new hq))) (T3.ext (same_new hq)) ⟨R3.same (same_new hq), Wf.empty row⟩ hst upd_same
theorem sc_answered : FnScope ["own", "deed", "numbers", "row", "do_it"] ["own", "deed", "numbers", "row"] (defScope s_answered) := ⟨rfl, rfl, rfl, by decide +kernel, rfl, by decide +kernel, by decide +kernel⟩
theorem h_answered (T : Txt K mg) (TK : TabK base mg K) : Held P w K mg base 10 (He.ga K "answered") (spAnswered P w K) := by
  refine held_of (ps := ["own", "deed", "numbers", "row"]) T.d_answered sc_answered (fun vs H Q E h => by obtain ⟨_, _, _, _, _, _, _, _, _, rfl, _⟩ := h; rfl) (fun _ _ _ _ _ _ us hl => match us, hl with | [_, _, _, _], _ => rfl) (fun cdv A outer s H vs Q E hr h => ?_)
  have nd := sc_answered.nd
  have hr4 : Room 4 _ := hr.mono (by decide)
  refine ⟨_, pss_cons (ps_if (pt_cmpR (op_eqD hr.units) (pv 1) pe_int (nomark _)) (pss_one (ps_ret (pe_callH (h_create T) hr4 T.g_call_create (pa_cons (pv 0) (pa_cons (pv 2) (pa_cons (pv 3) pa_nil)))))) pss_nil)
    (pss_cons (ps_if (pt_not (pt_val (pe_fld (pv 0) rfl))) (pss_one (ps_ret (pe_lst (pa_cons (pe_un un_neg pe_int) pa_nil)))) pss_nil)
    (pss_cons (ps_set (i := 4) nd rfl (Or.inl rfl) (pe_ix ix_int (pe_gr T.g_DEEDS) (pv 1) (fun _ _ => rfl)))
    (pss_one (ps_ret (pe_callV (k := 9) (i := 4) hr rfl (Or.inl rfl) (pa_cons (pv 0) (pa_cons (pv 2) (pa_cons (pv 3) pa_nil)))))))), ?_⟩
  obtain ⟨p, pn, pr, c, s0, d, nums, row, r, rfl, R, hN, hR, hrow, hT, hreq, k⟩ := h
  refine ⟨_, rfl, .int ((d : Nat) : Int), .int 0, .int _, .int _, int_shaped _, int_shaped _, _, rfl, ?_⟩
  have e0 : PyData.eqv (.int (d : Int)) (.int 0) = decide (d = 0) := int_eqv d 0
  rw [e0]
  by_cases h0 : d = 0
  · rw [decide_eq_true h0]
    subst h0
    have hr0 := req0 hreq
    subst hr0
    exact iteT ⟨_, rfl, _, rfl, _, rfl, p, pn, pr, c, s0, row, rfl, R, hR, hrow, hT, k⟩
  · rw [decide_eq_false h0]
    obtain ⟨dx, sa, b, h, cl, l, e, o, t, hp⟩ := R.pl
    refine iteF ⟨_, rfl, p, _, _, _, _, rfl, hp, T.c_Platform, T.n_Platform_is_ready, rfl, _, rfl, ?_⟩
    cases s0 with
    | none => exact iteT ⟨_, rfl, le1, fun q hq => k _ q c none (.value (-11)) (.fr .refl hq) (.same (same_new hq)) (hT.ext (same_new hq)) (R.same (same_new hq)) (step_nil0 hreq h0) upd_same⟩
    | some a =>
      obtain ⟨x, nn, rq, hlk, hH, hnn, hrq⟩ := deed_of (P := P) (w := w) T TK hreq h0
      refine iteF ⟨_, rfl, _, _, _, _, rfl, rfl, dicI_ok T.m5, hlk, ?_⟩
      refine ⟨_, _, rfl, hH, _, rfl, _, rfl, _, rfl, p, pn, pr, c, a, nums, row, rfl, R.1, R.2, hN, hnn, hR, hrow, hT, ?_⟩
      rw [hrq]
      exact fun H' q c' a' res A F T R' hst hq => k H' q c' (some a') res A F T ⟨R', R.2.step hst⟩ hst hq
end
end Vb

set_option Elab.async false
set_option linter.all false
set_option maxRecDepth 100000
set_option maxHeartbeats 1000000
/-! One call, parted. -/
namespace Vb
def casts (l : List Nat) : List Int := l.map fun (n : Nat) => (n : Int)
theorem casts_len (l : List Nat) : (casts l).length = l.length := List.length_map ..
theorem nat_of {z : Int} (h : Kex2Neutral.nat32 z = true) : ((z.toNat : Nat) : Int) = z := by
  unfold Kex2Neutral.nat32 at h
  simp only [Bool.and_eq_true, decide_eq_true_eq] at h
  omega
theorem row_of {l : List Int} (h : Kex2Neutral.list32 Kex2Neutral.nat32 l = true) : l.length ≤ 1000 ∧ casts (l.map Int.toNat) = l := by
  unfold Kex2Neutral.list32 at h
  simp only [Bool.and_eq_true, decide_eq_true_eq, List.all_eq_true] at h
  refine ⟨h.2, ?_⟩
  unfold casts
  rw [List.map_map]
  have : ∀ z ∈ l, ((fun (n : Nat) => (n : Int)) ∘ Int.toNat) z = id z := fun z hz => nat_of (h.1 z hz)
  rw [List.map_congr_left this, List.map_id]
theorem call0 {p : Int} {r : List Int} {c : List (List Int)} {t : List Int} {n : Nat} (hs : PyKex2.shape p = some (n, 0)) (h : PyFlat.call PyKex2.shape (p :: r) = some (c, t)) : n ≤ r.length ∧ c = [p :: r.take n] ∧ t = r.drop n := by
  unfold PyFlat.call at h
  dsimp only at h
  rw [hs] at h
  dsimp only at h
  by_cases d : r.length < n
  · rw [if_pos d] at h
    cases h
  · rw [if_neg d] at h
    have h : some ((p :: r.take n) :: [], r.drop n) = some (c, t) := h
    cases h
    exact ⟨by omega, rfl, rfl⟩
theorem call1 {p : Int} {r : List Int} {c : List (List Int)} {t : List Int} {n : Nat} (hs : PyKex2.shape p = some (n, 1)) (h : PyFlat.call PyKex2.shape (p :: r) = some (c, t)) : n ≤ r.length ∧ ∃ (m : Int) (r2 : List Int), r.drop n = m :: r2 ∧ 0 ≤ m ∧ m.toNat ≤ r2.length ∧ c = [p :: r.take n, r2.take m.toNat] ∧ t = r2.drop m.toNat := by
  unfold PyFlat.call at h
  dsimp only at h
  rw [hs] at h
  dsimp only at h
  by_cases d : r.length < n
  · rw [if_pos d] at h
    cases h
  · rw [if_neg d] at h
    refine ⟨by omega, ?_⟩
    cases hd : r.drop n with
    | nil =>
      rw [hd] at h
      cases h
    | cons m r2 =>
      rw [hd] at h
      by_cases e : 0 ≤ m ∧ m.toNat ≤ r2.length
      · have hr : PyFlat.row (m :: r2) = some (r2.take m.toNat, r2.drop m.toNat) := if_pos e
        have hrs : PyFlat.rows 1 (m :: r2) = some ([r2.take m.toNat], r2.drop m.toNat) := by
          show (match PyFlat.row (m :: r2) with | none => none | some (x, s) => match PyFlat.rows 0 s with | none => none | some (xs, t) => some (x :: xs, t)) = _
          rw [hr]
          rfl
        rw [hrs] at h
        cases h
        exact ⟨m, r2, rfl, e.1, e.2, rfl, rfl⟩
      · have hr : PyFlat.row (m :: r2) = none := if_neg e
        have hrs : PyFlat.rows 1 (m :: r2) = none := by
          show (match PyFlat.row (m :: r2) with | none => none | some (x, s) => match PyFlat.rows 0 s with | none => none | some (xs, t) => some (x :: xs, t)) = _
          rw [hr]
        rw [hrs] at h
        cases h
theorem take1 {l : List Int} (h : 1 ≤ l.length) : ∃ x, l.take 1 = [x] := match l, h with
  | x :: r, _ => ⟨x, by simp⟩
theorem take2 {l : List Int} (h : 2 ≤ l.length) : ∃ x y, l.take 2 = [x, y] := match l, h with
  | x :: y :: r, _ => ⟨x, y, by simp⟩
theorem take3 {l : List Int} (h : 3 ≤ l.length) : ∃ x y z, l.take 3 = [x, y, z] := match l, h with
  | x :: y :: z :: r, _ => ⟨x, y, z, by simp⟩
def nmF (d : Nat) : Nat := [0, 0, 2, 1, 2, 1, 1, 2, 1, 1, 2, 1, 1, 1, 0, 0, 1, 1, 1, 2, 1, 1, 1, 2, 3, 0].getD d 0
def hasRow (d : Nat) : Bool := [true, true, true, false, false, true, false, true, true, false, true, true, true, true, true, true, false, false, false, false, true, false, false, false, false, false].getD d false
/-- what a call says -/
structure Said (p : Int) (r : List Int) (c : List (List Int)) (t : List Int) (d : Nat) (nums row : List Nat) (q : Kex2.Request) : Prop where
  hp : p = (d : Int)
  lt : d < 26
  rq : req d nums row = some q
  of : Kex2Neutral.requestOf (PyKex2.whole c) = some q
  nm : nums.length = nmF d
  len : nums.length ≤ r.length
  hnums : r.take nums.length = casts nums
  hrow : (hasRow d = false ∧ row = [] ∧ t = r.drop nums.length) ∨ (hasRow d = true ∧ row.length ≤ 1000 ∧ ∃ r2, r.drop nums.length = ((row.length : Nat) : Int) :: r2 ∧ r2.take row.length = casts row ∧ row.length ≤ r2.length ∧ t = r2.drop row.length)
theorem shape_cases {p : Int} {z : Nat × Nat} (h : PyKex2.shape p = some z) : ∃ d : Nat, d < 26 ∧ p = (d : Int) := by
  by_cases c : 0 ≤ p ∧ p ≤ 25
  · exact ⟨p.toNat, by omega, by omega⟩
  · unfold PyKex2.shape at h
    rw [if_neg (by omega), if_neg (by omega), if_neg (by omega), if_neg (by omega), if_neg (by omega), if_neg (by omega), if_neg (by omega), if_neg (by omega), if_neg (by omega), if_neg (by omega), if_neg (by omega), if_neg (by omega), if_neg (by omega), if_neg (by omega), if_neg (by omega), if_neg (by omega), if_neg (by omega), if_neg (by omega), if_neg (by omega), if_neg (by omega), if_neg (by omega), if_neg (by omega), if_neg (by omega), if_neg (by omega), if_neg (by omega), if_neg (by omega)] at h
    cases h
section
variable {r : List Int} {c : List (List Int)} {t : List Int}
theorem said_0 {r : List Int} {c : List (List Int)} {t : List Int} (h : PyFlat.call PyKex2.shape (0 :: r) = some (c, t)) (ha : Kex2Neutral.asked1 (PyKex2.whole c) = true) : ∃ nums row q, Said 0 r c t 0 nums row q := by
  obtain ⟨hl, m, r2, hd, h0, hm, rfl, rfl⟩ := call1 (n := 0) rfl h
  have hx : True := trivial
  have ha : (Kex2Neutral.list32 Kex2Neutral.nat32 (r2.take m.toNat)) = true := ha
  obtain ⟨hr1, hr2⟩ := row_of ha
  have hlen : (r2.take m.toNat).length = m.toNat := by rw [List.length_take]; omega
  refine ⟨[], ((r2.take m.toNat).map Int.toNat), _, ⟨rfl, by decide, rfl, rfl, rfl, hl, ?_, ?_⟩⟩
  · rfl
  · refine .inr ⟨rfl, by rw [List.length_map]; exact hr1, r2, ?_, ?_, ?_, ?_⟩
    · show r.drop 0 = _
      rw [hd, List.length_map, hlen, Int.toNat_of_nonneg h0]
    · rw [List.length_map, hlen, hr2]
    · rw [List.length_map, hlen]
      exact hm
    · rw [List.length_map, hlen]
theorem said_1 {r : List Int} {c : List (List Int)} {t : List Int} (h : PyFlat.call PyKex2.shape (1 :: r) = some (c, t)) (ha : Kex2Neutral.asked1 (PyKex2.whole c) = true) : ∃ nums row q, Said 1 r c t 1 nums row q := by
  obtain ⟨hl, m, r2, hd, h0, hm, rfl, rfl⟩ := call1 (n := 0) rfl h
  have hx : True := trivial
  have ha : (Kex2Neutral.list32 Kex2Neutral.nat32 (r2.take m.toNat)) = true := ha
  obtain ⟨hr1, hr2⟩ := row_of ha
  have hlen : (r2.take m.toNat).length = m.toNat := by rw [List.length_take]; omega
  refine ⟨[], ((r2.take m.toNat).map Int.toNat), _, ⟨rfl, by decide, rfl, rfl, rfl, hl, ?_, ?_⟩⟩
  · rfl
  · refine .inr ⟨rfl, by rw [List.length_map]; exact hr1, r2, ?_, ?_, ?_, ?_⟩
    · show r.drop 0 = _
      rw [hd, List.length_map, hlen, Int.toNat_of_nonneg h0]
    · rw [List.length_map, hlen, hr2]
    · rw [List.length_map, hlen]
      exact hm
    · rw [List.length_map, hlen]
theorem said_2 {r : List Int} {c : List (List Int)} {t : List Int} (h : PyFlat.call PyKex2.shape (2 :: r) = some (c, t)) (ha : Kex2Neutral.asked1 (PyKex2.whole c) = true) : ∃ nums row q, Said 2 r c t 2 nums row q := by
  obtain ⟨hl, m, r2, hd, h0, hm, rfl, rfl⟩ := call1 (n := 2) rfl h
  obtain ⟨x, y, hx⟩ := take2 hl
  rw [hx] at ha ⊢
  have ha : (Kex2Neutral.nat32 x && Kex2Neutral.nat32 y && Kex2Neutral.list32 Kex2Neutral.nat32 (r2.take m.toNat)) = true := ha
  simp only [Bool.and_eq_true] at ha
  have ex := nat_of ha.1.1
  have ey := nat_of ha.1.2
  obtain ⟨hr1, hr2⟩ := row_of ha.2
  have hlen : (r2.take m.toNat).length = m.toNat := by rw [List.length_take]; omega
  refine ⟨[x.toNat, y.toNat], ((r2.take m.toNat).map Int.toNat), _, ⟨rfl, by decide, rfl, rfl, rfl, hl, ?_, ?_⟩⟩
  · show r.take 2 = [((x.toNat : Nat) : Int), ((y.toNat : Nat) : Int)]
    rw [hx, ex, ey]
  · refine .inr ⟨rfl, by rw [List.length_map]; exact hr1, r2, ?_, ?_, ?_, ?_⟩
    · show r.drop 2 = _
      rw [hd, List.length_map, hlen, Int.toNat_of_nonneg h0]
    · rw [List.length_map, hlen, hr2]
    · rw [List.length_map, hlen]
      exact hm
    · rw [List.length_map, hlen]
theorem said_3 {r : List Int} {c : List (List Int)} {t : List Int} (h : PyFlat.call PyKex2.shape (3 :: r) = some (c, t)) (ha : Kex2Neutral.asked1 (PyKex2.whole c) = true) : ∃ nums row q, Said 3 r c t 3 nums row q := by
  obtain ⟨hl, rfl, rfl⟩ := call0 (n := 1) rfl h
  obtain ⟨x, hx⟩ := take1 hl
  rw [hx] at ha ⊢
  have ha : (Kex2Neutral.nat32 x) = true := ha
  have ex := nat_of ha
  refine ⟨[x.toNat], [], _, ⟨rfl, by decide, rfl, rfl, rfl, hl, ?_, ?_⟩⟩
  · show r.take 1 = [((x.toNat : Nat) : Int)]
    rw [hx, ex]
  · exact .inl ⟨rfl, rfl, rfl⟩
theorem said_4 {r : List Int} {c : List (List Int)} {t : List Int} (h : PyFlat.call PyKex2.shape (4 :: r) = some (c, t)) (ha : Kex2Neutral.asked1 (PyKex2.whole c) = true) : ∃ nums row q, Said 4 r c t 4 nums row q := by
  obtain ⟨hl, rfl, rfl⟩ := call0 (n := 2) rfl h
  obtain ⟨x, y, hx⟩ := take2 hl
  rw [hx] at ha ⊢
  have ha : (Kex2Neutral.nat32 x && Kex2Neutral.nat32 y) = true := ha
  simp only [Bool.and_eq_true] at ha
  have ex := nat_of ha.1
  have ey := nat_of ha.2
  refine ⟨[x.toNat, y.toNat], [], _, ⟨rfl, by decide, rfl, rfl, rfl, hl, ?_, ?_⟩⟩
  · show r.take 2 = [((x.toNat : Nat) : Int), ((y.toNat : Nat) : Int)]
    rw [hx, ex, ey]
  · exact .inl ⟨rfl, rfl, rfl⟩
theorem said_5 {r : List Int} {c : List (List Int)} {t : List Int} (h : PyFlat.call PyKex2.shape (5 :: r) = some (c, t)) (ha : Kex2Neutral.asked1 (PyKex2.whole c) = true) : ∃ nums row q, Said 5 r c t 5 nums row q := by
  obtain ⟨hl, m, r2, hd, h0, hm, rfl, rfl⟩ := call1 (n := 1) rfl h
  obtain ⟨x, hx⟩ := take1 hl
  rw [hx] at ha ⊢
  have ha : (Kex2Neutral.nat32 x && Kex2Neutral.list32 Kex2Neutral.nat32 (r2.take m.toNat)) = true := ha
  simp only [Bool.and_eq_true] at ha
  have ex := nat_of ha.1
  obtain ⟨hr1, hr2⟩ := row_of ha.2
  have hlen : (r2.take m.toNat).length = m.toNat := by rw [List.length_take]; omega
  refine ⟨[x.toNat], ((r2.take m.toNat).map Int.toNat), _, ⟨rfl, by decide, rfl, rfl, rfl, hl, ?_, ?_⟩⟩
  · show r.take 1 = [((x.toNat : Nat) : Int)]
    rw [hx, ex]
  · refine .inr ⟨rfl, by rw [List.length_map]; exact hr1, r2, ?_, ?_, ?_, ?_⟩
    · show r.drop 1 = _
      rw [hd, List.length_map, hlen, Int.toNat_of_nonneg h0]
    · rw [List.length_map, hlen, hr2]
    · rw [List.length_map, hlen]
      exact hm
    · rw [List.length_map, hlen]
theorem said_6 {r : List Int} {c : List (List Int)} {t : List Int} (h : PyFlat.call PyKex2.shape (6 :: r) = some (c, t)) (ha : Kex2Neutral.asked1 (PyKex2.whole c) = true) : ∃ nums row q, Said 6 r c t 6 nums row q := by
  obtain ⟨hl, rfl, rfl⟩ := call0 (n := 1) rfl h
  obtain ⟨x, hx⟩ := take1 hl
  rw [hx] at ha ⊢
  have ha : (Kex2Neutral.nat32 x) = true := ha
  have ex := nat_of ha
  refine ⟨[x.toNat], [], _, ⟨rfl, by decide, rfl, rfl, rfl, hl, ?_, ?_⟩⟩
  · show r.take 1 = [((x.toNat : Nat) : Int)]
    rw [hx, ex]
  · exact .inl ⟨rfl, rfl, rfl⟩
theorem said_7 {r : List Int} {c : List (List Int)} {t : List Int} (h : PyFlat.call PyKex2.shape (7 :: r) = some (c, t)) (ha : Kex2Neutral.asked1 (PyKex2.whole c) = true) : ∃ nums row q, Said 7 r c t 7 nums row q := by
  obtain ⟨hl, m, r2, hd, h0, hm, rfl, rfl⟩ := call1 (n := 2) rfl h
  obtain ⟨x, y, hx⟩ := take2 hl
  rw [hx] at ha ⊢
  have ha : (Kex2Neutral.nat32 x && Kex2Neutral.nat32 y && Kex2Neutral.list32 Kex2Neutral.nat32 (r2.take m.toNat)) = true := ha
  simp only [Bool.and_eq_true] at ha
  have ex := nat_of ha.1.1
  have ey := nat_of ha.1.2
  obtain ⟨hr1, hr2⟩ := row_of ha.2
  have hlen : (r2.take m.toNat).length = m.toNat := by rw [List.length_take]; omega
  refine ⟨[x.toNat, y.toNat], ((r2.take m.toNat).map Int.toNat), _, ⟨rfl, by decide, rfl, rfl, rfl, hl, ?_, ?_⟩⟩
  · show r.take 2 = [((x.toNat : Nat) : Int), ((y.toNat : Nat) : Int)]
    rw [hx, ex, ey]
  · refine .inr ⟨rfl, by rw [List.length_map]; exact hr1, r2, ?_, ?_, ?_, ?_⟩
    · show r.drop 2 = _
      rw [hd, List.length_map, hlen, Int.toNat_of_nonneg h0]
    · rw [List.length_map, hlen, hr2]
    · rw [List.length_map, hlen]
      exact hm
    · rw [List.length_map, hlen]
theorem said_8 {r : List Int} {c : List (List Int)} {t : List Int} (h : PyFlat.call PyKex2.shape (8 :: r) = some (c, t)) (ha : Kex2Neutral.asked1 (PyKex2.whole c) = true) : ∃ nums row q, Said 8 r c t 8 nums row q := by
  obtain ⟨hl, m, r2, hd, h0, hm, rfl, rfl⟩ := call1 (n := 1) rfl h
  obtain ⟨x, hx⟩ := take1 hl
  rw [hx] at ha ⊢
  have ha : (Kex2Neutral.nat32 x && Kex2Neutral.list32 Kex2Neutral.nat32 (r2.take m.toNat)) = true := ha
  simp only [Bool.and_eq_true] at ha
  have ex := nat_of ha.1
  obtain ⟨hr1, hr2⟩ := row_of ha.2
  have hlen : (r2.take m.toNat).length = m.toNat := by rw [List.length_take]; omega
  refine ⟨[x.toNat], ((r2.take m.toNat).map Int.toNat), _, ⟨rfl, by decide, rfl, rfl, rfl, hl, ?_, ?_⟩⟩
  · show r.take 1 = [((x.toNat : Nat) : Int)]
    rw [hx, ex]
  · refine .inr ⟨rfl, by rw [List.length_map]; exact hr1, r2, ?_, ?_, ?_, ?_⟩
    · show r.drop 1 = _
      rw [hd, List.length_map, hlen, Int.toNat_of_nonneg h0]
    · rw [List.length_map, hlen, hr2]
    · rw [List.length_map, hlen]
      exact hm
    · rw [List.length_map, hlen]
theorem said_9 {r : List Int} {c : List (List Int)} {t : List Int} (h : PyFlat.call PyKex2.shape (9 :: r) = some (c, t)) (ha : Kex2Neutral.asked1 (PyKex2.whole c) = true) : ∃ nums row q, Said 9 r c t 9 nums row q := by
  obtain ⟨hl, rfl, rfl⟩ := call0 (n := 1) rfl h
  obtain ⟨x, hx⟩ := take1 hl
  rw [hx] at ha ⊢
  have ha : (Kex2Neutral.nat32 x) = true := ha
  have ex := nat_of ha
  refine ⟨[x.toNat], [], _, ⟨rfl, by decide, rfl, rfl, rfl, hl, ?_, ?_⟩⟩
  · show r.take 1 = [((x.toNat : Nat) : Int)]
    rw [hx, ex]
  · exact .inl ⟨rfl, rfl, rfl⟩
theorem said_10 {r : List Int} {c : List (List Int)} {t : List Int} (h : PyFlat.call PyKex2.shape (10 :: r) = some (c, t)) (ha : Kex2Neutral.asked1 (PyKex2.whole c) = true) : ∃ nums row q, Said 10 r c t 10 nums row q := by
  obtain ⟨hl, m, r2, hd, h0, hm, rfl, rfl⟩ := call1 (n := 2) rfl h
  obtain ⟨x, y, hx⟩ := take2 hl
  rw [hx] at ha ⊢
  have ha : (Kex2Neutral.nat32 x && Kex2Neutral.nat32 y && Kex2Neutral.list32 Kex2Neutral.nat32 (r2.take m.toNat)) = true := ha
  simp only [Bool.and_eq_true] at ha
  have ex := nat_of ha.1.1
  have ey := nat_of ha.1.2
  obtain ⟨hr1, hr2⟩ := row_of ha.2
  have hlen : (r2.take m.toNat).length = m.toNat := by rw [List.length_take]; omega
  refine ⟨[x.toNat, y.toNat], ((r2.take m.toNat).map Int.toNat), _, ⟨rfl, by decide, rfl, rfl, rfl, hl, ?_, ?_⟩⟩
  · show r.take 2 = [((x.toNat : Nat) : Int), ((y.toNat : Nat) : Int)]
    rw [hx, ex, ey]
  · refine .inr ⟨rfl, by rw [List.length_map]; exact hr1, r2, ?_, ?_, ?_, ?_⟩
    · show r.drop 2 = _
      rw [hd, List.length_map, hlen, Int.toNat_of_nonneg h0]
    · rw [List.length_map, hlen, hr2]
    · rw [List.length_map, hlen]
      exact hm
    · rw [List.length_map, hlen]
theorem said_11 {r : List Int} {c : List (List Int)} {t : List Int} (h : PyFlat.call PyKex2.shape (11 :: r) = some (c, t)) (ha : Kex2Neutral.asked1 (PyKex2.whole c) = true) : ∃ nums row q, Said 11 r c t 11 nums row q := by
  obtain ⟨hl, m, r2, hd, h0, hm, rfl, rfl⟩ := call1 (n := 1) rfl h
  obtain ⟨x, hx⟩ := take1 hl
  rw [hx] at ha ⊢
  have ha : (Kex2Neutral.nat32 x && Kex2Neutral.list32 Kex2Neutral.nat32 (r2.take m.toNat)) = true := ha
  simp only [Bool.and_eq_true] at ha
  have ex := nat_of ha.1
  obtain ⟨hr1, hr2⟩ := row_of ha.2
  have hlen : (r2.take m.toNat).length = m.toNat := by rw [List.length_take]; omega
  refine ⟨[x.toNat], ((r2.take m.toNat).map Int.toNat), _, ⟨rfl, by decide, rfl, rfl, rfl, hl, ?_, ?_⟩⟩
  · show r.take 1 = [((x.toNat : Nat) : Int)]
    rw [hx, ex]
  · refine .inr ⟨rfl, by rw [List.length_map]; exact hr1, r2, ?_, ?_, ?_, ?_⟩
    · show r.drop 1 = _
      rw [hd, List.length_map, hlen, Int.toNat_of_nonneg h0]
    · rw [List.length_map, hlen, hr2]
    · rw [List.length_map, hlen]
      exact hm
    · rw [List.length_map, hlen]
theorem said_12 {r : List Int} {c : List (List Int)} {t : List Int} (h : PyFlat.call PyKex2.shape (12 :: r) = some (c, t)) (ha : Kex2Neutral.asked1 (PyKex2.whole c) = true) : ∃ nums row q, Said 12 r c t 12 nums row q := by
  obtain ⟨hl, m, r2, hd, h0, hm, rfl, rfl⟩ := call1 (n := 1) rfl h
  obtain ⟨x, hx⟩ := take1 hl
  rw [hx] at ha ⊢
  have ha : (Kex2Neutral.nat32 x && Kex2Neutral.list32 Kex2Neutral.nat32 (r2.take m.toNat)) = true := ha
  simp only [Bool.and_eq_true] at ha
  have ex := nat_of ha.1
  obtain ⟨hr1, hr2⟩ := row_of ha.2
  have hlen : (r2.take m.toNat).length = m.toNat := by rw [List.length_take]; omega
  refine ⟨[x.toNat], ((r2.take m.toNat).map Int.toNat), _, ⟨rfl, by decide, rfl, rfl, rfl, hl, ?_, ?_⟩⟩
  · show r.take 1 = [((x.toNat : Nat) : Int)]
    rw [hx, ex]
  · refine .inr ⟨rfl, by rw [List.length_map]; exact hr1, r2, ?_, ?_, ?_, ?_⟩
    · show r.drop 1 = _
      rw [hd, List.length_map, hlen, Int.toNat_of_nonneg h0]
    · rw [List.length_map, hlen, hr2]
    · rw [List.length_map, hlen]
      exact hm
    · rw [List.length_map, hlen]
theorem said_13 {r : List Int} {c : List (List Int)} {t : List Int} (h : PyFlat.call PyKex2.shape (13 :: r) = some (c, t)) (ha : Kex2Neutral.asked1 (PyKex2.whole c) = true) : ∃ nums row q, Said 13 r c t 13 nums row q := by
  obtain ⟨hl, m, r2, hd, h0, hm, rfl, rfl⟩ := call1 (n := 1) rfl h
  obtain ⟨x, hx⟩ := take1 hl
  rw [hx] at ha ⊢
  have ha : (Kex2Neutral.nat32 x && Kex2Neutral.list32 Kex2Neutral.nat32 (r2.take m.toNat)) = true := ha
  simp only [Bool.and_eq_true] at ha
  have ex := nat_of ha.1
  obtain ⟨hr1, hr2⟩ := row_of ha.2
  have hlen : (r2.take m.toNat).length = m.toNat := by rw [List.length_take]; omega
  refine ⟨[x.toNat], ((r2.take m.toNat).map Int.toNat), _, ⟨rfl, by decide, rfl, rfl, rfl, hl, ?_, ?_⟩⟩
  · show r.take 1 = [((x.toNat : Nat) : Int)]
    rw [hx, ex]
  · refine .inr ⟨rfl, by rw [List.length_map]; exact hr1, r2, ?_, ?_, ?_, ?_⟩
    · show r.drop 1 = _
      rw [hd, List.length_map, hlen, Int.toNat_of_nonneg h0]
    · rw [List.length_map, hlen, hr2]
    · rw [List.length_map, hlen]
      exact hm
    · rw [List.length_map, hlen]
theorem said_14 {r : List Int} {c : List (List Int)} {t : List Int} (h : PyFlat.call PyKex2.shape (14 :: r) = some (c, t)) (ha : Kex2Neutral.asked1 (PyKex2.whole c) = true) : ∃ nums row q, Said 14 r c t 14 nums row q := by
  obtain ⟨hl, m, r2, hd, h0, hm, rfl, rfl⟩ := call1 (n := 0) rfl h
  have hx : True := trivial
  have ha : (Kex2Neutral.list32 Kex2Neutral.nat32 (r2.take m.toNat)) = true := ha
  obtain ⟨hr1, hr2⟩ := row_of ha
  have hlen : (r2.take m.toNat).length = m.toNat := by rw [List.length_take]; omega
  refine ⟨[], ((r2.take m.toNat).map Int.toNat), _, ⟨rfl, by decide, rfl, rfl, rfl, hl, ?_, ?_⟩⟩
  · rfl
  · refine .inr ⟨rfl, by rw [List.length_map]; exact hr1, r2, ?_, ?_, ?_, ?_⟩
    · show r.drop 0 = _
      rw [hd, List.length_map, hlen, Int.toNat_of_nonneg h0]
    · rw [List.length_map, hlen, hr2]
    · rw [List.length_map, hlen]
      exact hm
    · rw [List.length_map, hlen]
theorem said_15 {r : List Int} {c : List (List Int)} {t : List Int} (h : PyFlat.call PyKex2.shape (15 :: r) = some (c, t)) (ha : Kex2Neutral.asked1 (PyKex2.whole c) = true) : ∃ nums row q, Said 15 r c t 15 nums row q := by
  obtain ⟨hl, m, r2, hd, h0, hm, rfl, rfl⟩ := call1 (n := 0) rfl h
  have hx : True := trivial
  have ha : (Kex2Neutral.list32 Kex2Neutral.nat32 (r2.take m.toNat)) = true := ha
  obtain ⟨hr1, hr2⟩ := row_of ha
  have hlen : (r2.take m.toNat).length = m.toNat := by rw [List.length_take]; omega
  refine ⟨[], ((r2.take m.toNat).map Int.toNat), _, ⟨rfl, by decide, rfl, rfl, rfl, hl, ?_, ?_⟩⟩
  · rfl
  · refine .inr ⟨rfl, by rw [List.length_map]; exact hr1, r2, ?_, ?_, ?_, ?_⟩
    · show r.drop 0 = _
      rw [hd, List.length_map, hlen, Int.toNat_of_nonneg h0]
    · rw [List.length_map, hlen, hr2]
    · rw [List.length_map, hlen]
      exact hm
    · rw [List.length_map, hlen]
theorem said_16 {r : List Int} {c : List (List Int)} {t : List Int} (h : PyFlat.call PyKex2.shape (16 :: r) = some (c, t)) (ha : Kex2Neutral.asked1 (PyKex2.whole c) = true) : ∃ nums row q, Said 16 r c t 16 nums row q := by
  obtain ⟨hl, rfl, rfl⟩ := call0 (n := 1) rfl h
  obtain ⟨x, hx⟩ := take1 hl
  rw [hx] at ha ⊢
  have ha : (Kex2Neutral.nat32 x) = true := ha
  have ex := nat_of ha
  refine ⟨[x.toNat], [], _, ⟨rfl, by decide, rfl, rfl, rfl, hl, ?_, ?_⟩⟩
  · show r.take 1 = [((x.toNat : Nat) : Int)]
    rw [hx, ex]
  · exact .inl ⟨rfl, rfl, rfl⟩
theorem said_17 {r : List Int} {c : List (List Int)} {t : List Int} (h : PyFlat.call PyKex2.shape (17 :: r) = some (c, t)) (ha : Kex2Neutral.asked1 (PyKex2.whole c) = true) : ∃ nums row q, Said 17 r c t 17 nums row q := by
  obtain ⟨hl, rfl, rfl⟩ := call0 (n := 1) rfl h
  obtain ⟨x, hx⟩ := take1 hl
  rw [hx] at ha ⊢
  have ha : (Kex2Neutral.nat32 x) = true := ha
  have ex := nat_of ha
  refine ⟨[x.toNat], [], _, ⟨rfl, by decide, rfl, rfl, rfl, hl, ?_, ?_⟩⟩
  · show r.take 1 = [((x.toNat : Nat) : Int)]
    rw [hx, ex]
  · exact .inl ⟨rfl, rfl, rfl⟩
theorem said_18 {r : List Int} {c : List (List Int)} {t : List Int} (h : PyFlat.call PyKex2.shape (18 :: r) = some (c, t)) (ha : Kex2Neutral.asked1 (PyKex2.whole c) = true) : ∃ nums row q, Said 18 r c t 18 nums row q := by
  obtain ⟨hl, rfl, rfl⟩ := call0 (n := 1) rfl h
  obtain ⟨x, hx⟩ := take1 hl
  rw [hx] at ha ⊢
  have ha : (Kex2Neutral.nat32 x) = true := ha
  have ex := nat_of ha
  refine ⟨[x.toNat], [], _, ⟨rfl, by decide, rfl, rfl, rfl, hl, ?_, ?_⟩⟩
  · show r.take 1 = [((x.toNat : Nat) : Int)]
    rw [hx, ex]
  · exact .inl ⟨rfl, rfl, rfl⟩
theorem said_19 {r : List Int} {c : List (List Int)} {t : List Int} (h : PyFlat.call PyKex2.shape (19 :: r) = some (c, t)) (ha : Kex2Neutral.asked1 (PyKex2.whole c) = true) : ∃ nums row q, Said 19 r c t 19 nums row q := by
  obtain ⟨hl, rfl, rfl⟩ := call0 (n := 2) rfl h
  obtain ⟨x, y, hx⟩ := take2 hl
  rw [hx] at ha ⊢
  have ha : (Kex2Neutral.nat32 x && Kex2Neutral.nat32 y) = true := ha
  simp only [Bool.and_eq_true] at ha
  have ex := nat_of ha.1
  have ey := nat_of ha.2
  refine ⟨[x.toNat, y.toNat], [], _, ⟨rfl, by decide, rfl, rfl, rfl, hl, ?_, ?_⟩⟩
  · show r.take 2 = [((x.toNat : Nat) : Int), ((y.toNat : Nat) : Int)]
    rw [hx, ex, ey]
  · exact .inl ⟨rfl, rfl, rfl⟩
theorem said_20 {r : List Int} {c : List (List Int)} {t : List Int} (h : PyFlat.call PyKex2.shape (20 :: r) = some (c, t)) (ha : Kex2Neutral.asked1 (PyKex2.whole c) = true) : ∃ nums row q, Said 20 r c t 20 nums row q := by
  obtain ⟨hl, m, r2, hd, h0, hm, rfl, rfl⟩ := call1 (n := 1) rfl h
  obtain ⟨x, hx⟩ := take1 hl
  rw [hx] at ha ⊢
  have ha : (Kex2Neutral.nat32 x && Kex2Neutral.list32 Kex2Neutral.nat32 (r2.take m.toNat)) = true := ha
  simp only [Bool.and_eq_true] at ha
  have ex := nat_of ha.1
  obtain ⟨hr1, hr2⟩ := row_of ha.2
  have hlen : (r2.take m.toNat).length = m.toNat := by rw [List.length_take]; omega
  refine ⟨[x.toNat], ((r2.take m.toNat).map Int.toNat), _, ⟨rfl, by decide, rfl, rfl, rfl, hl, ?_, ?_⟩⟩
  · show r.take 1 = [((x.toNat : Nat) : Int)]
    rw [hx, ex]
  · refine .inr ⟨rfl, by rw [List.length_map]; exact hr1, r2, ?_, ?_, ?_, ?_⟩
    · show r.drop 1 = _
      rw [hd, List.length_map, hlen, Int.toNat_of_nonneg h0]
    · rw [List.length_map, hlen, hr2]
    · rw [List.length_map, hlen]
      exact hm
    · rw [List.length_map, hlen]
theorem said_21 {r : List Int} {c : List (List Int)} {t : List Int} (h : PyFlat.call PyKex2.shape (21 :: r) = some (c, t)) (ha : Kex2Neutral.asked1 (PyKex2.whole c) = true) : ∃ nums row q, Said 21 r c t 21 nums row q := by
  obtain ⟨hl, rfl, rfl⟩ := call0 (n := 1) rfl h
  obtain ⟨x, hx⟩ := take1 hl
  rw [hx] at ha ⊢
  have ha : (Kex2Neutral.nat32 x) = true := ha
  have ex := nat_of ha
  refine ⟨[x.toNat], [], _, ⟨rfl, by decide, rfl, rfl, rfl, hl, ?_, ?_⟩⟩
  · show r.take 1 = [((x.toNat : Nat) : Int)]
    rw [hx, ex]
  · exact .inl ⟨rfl, rfl, rfl⟩
theorem said_22 {r : List Int} {c : List (List Int)} {t : List Int} (h : PyFlat.call PyKex2.shape (22 :: r) = some (c, t)) (ha : Kex2Neutral.asked1 (PyKex2.whole c) = true) : ∃ nums row q, Said 22 r c t 22 nums row q := by
  obtain ⟨hl, rfl, rfl⟩ := call0 (n := 1) rfl h
  obtain ⟨x, hx⟩ := take1 hl
  rw [hx] at ha ⊢
  have ha : (Kex2Neutral.nat32 x) = true := ha
  have ex := nat_of ha
  refine ⟨[x.toNat], [], _, ⟨rfl, by decide, rfl, rfl, rfl, hl, ?_, ?_⟩⟩
  · show r.take 1 = [((x.toNat : Nat) : Int)]
    rw [hx, ex]
  · exact .inl ⟨rfl, rfl, rfl⟩
theorem said_23 {r : List Int} {c : List (List Int)} {t : List Int} (h : PyFlat.call PyKex2.shape (23 :: r) = some (c, t)) (ha : Kex2Neutral.asked1 (PyKex2.whole c) = true) : ∃ nums row q, Said 23 r c t 23 nums row q := by
  obtain ⟨hl, rfl, rfl⟩ := call0 (n := 2) rfl h
  obtain ⟨x, y, hx⟩ := take2 hl
  rw [hx] at ha ⊢
  have ha : (Kex2Neutral.nat32 x && Kex2Neutral.nat32 y) = true := ha
  simp only [Bool.and_eq_true] at ha
  have ex := nat_of ha.1
  have ey := nat_of ha.2
  refine ⟨[x.toNat, y.toNat], [], _, ⟨rfl, by decide, rfl, rfl, rfl, hl, ?_, ?_⟩⟩
  · show r.take 2 = [((x.toNat : Nat) : Int), ((y.toNat : Nat) : Int)]
    rw [hx, ex, ey]
  · exact .inl ⟨rfl, rfl, rfl⟩
theorem said_24 {r : List Int} {c : List (List Int)} {t : List Int} (h : PyFlat.call PyKex2.shape (24 :: r) = some (c, t)) (ha : Kex2Neutral.asked1 (PyKex2.whole c) = true) : ∃ nums row q, Said 24 r c t 24 nums row q := by
  obtain ⟨hl, rfl, rfl⟩ := call0 (n := 3) rfl h
  obtain ⟨x, y, z, hx⟩ := take3 hl
  rw [hx] at ha ⊢
  have ha : (Kex2Neutral.nat32 x && Kex2Neutral.nat32 y && Kex2Neutral.nat32 z) = true := ha
  simp only [Bool.and_eq_true] at ha
  have ex := nat_of ha.1.1
  have ey := nat_of ha.1.2
  have ez := nat_of ha.2
  refine ⟨[x.toNat, y.toNat, z.toNat], [], _, ⟨rfl, by decide, rfl, rfl, rfl, hl, ?_, ?_⟩⟩
  · show r.take 3 = [((x.toNat : Nat) : Int), ((y.toNat : Nat) : Int), ((z.toNat : Nat) : Int)]
    rw [hx, ex, ey, ez]
  · exact .inl ⟨rfl, rfl, rfl⟩
theorem said_25 {r : List Int} {c : List (List Int)} {t : List Int} (h : PyFlat.call PyKex2.shape (25 :: r) = some (c, t)) (ha : Kex2Neutral.asked1 (PyKex2.whole c) = true) : ∃ nums row q, Said 25 r c t 25 nums row q := by
  obtain ⟨hl, rfl, rfl⟩ := call0 (n := 0) rfl h
  have hx : True := trivial
  refine ⟨[], [], _, ⟨rfl, by decide, rfl, rfl, rfl, hl, ?_, ?_⟩⟩
  · rfl
  · exact .inl ⟨rfl, rfl, rfl⟩
theorem call_split {p : Int} (h : PyFlat.call PyKex2.shape (p :: r) = some (c, t)) (ha : Kex2Neutral.asked1 (PyKex2.whole c) = true) : ∃ d nums row q, Said p r c t d nums row q := by
  have hs : ∃ z, PyKex2.shape p = some z := by
    cases q : PyKex2.shape p with
    | some z => exact ⟨z, rfl⟩
    | none =>
      unfold PyFlat.call at h
      dsimp only at h
      rw [q] at h
      cases h
  obtain ⟨z, hs⟩ := hs
  obtain ⟨d, hd, rfl⟩ := shape_cases hs
  match d, hd with
  | 0, _ => exact let ⟨a, b, q, h⟩ := said_0 h ha; ⟨0, a, b, q, h⟩
  | 1, _ => exact let ⟨a, b, q, h⟩ := said_1 h ha; ⟨1, a, b, q, h⟩
  | 2, _ => exact let ⟨a, b, q, h⟩ := said_2 h ha; ⟨2, a, b, q, h⟩
  | 3, _ => exact let ⟨a, b, q, h⟩ := said_3 h ha; ⟨3, a, b, q, h⟩
  | 4, _ => exact let ⟨a, b, q, h⟩ := said_4 h ha; ⟨4, a, b, q, h⟩
  | 5, _ => exact let ⟨a, b, q, h⟩ := said_5 h ha; ⟨5, a, b, q, h⟩
  | 6, _ => exact let ⟨a, b, q, h⟩ := said_6 h ha; ⟨6, a, b, q, h⟩
  | 7, _ => exact let ⟨a, b, q, h⟩ := said_7 h ha; ⟨7, a, b, q, h⟩
  | 8, _ => exact let ⟨a, b, q, h⟩ := said_8 h ha; ⟨8, a, b, q, h⟩
  | 9, _ => exact let ⟨a, b, q, h⟩ := said_9 h ha; ⟨9, a, b, q, h⟩
  | 10, _ => exact let ⟨a, b, q, h⟩ := said_10 h ha; ⟨10, a, b, q, h⟩
  | 11, _ => exact let ⟨a, b, q, h⟩ := said_11 h ha; ⟨11, a, b, q, h⟩
  | 12, _ => exact let ⟨a, b, q, h⟩ := said_12 h ha; ⟨12, a, b, q, h⟩
  | 13, _ => exact let ⟨a, b, q, h⟩ := said_13 h ha; ⟨13, a, b, q, h⟩
  | 14, _ => exact let ⟨a, b, q, h⟩ := said_14 h ha; ⟨14, a, b, q, h⟩
  | 15, _ => exact let ⟨a, b, q, h⟩ := said_15 h ha; ⟨15, a, b, q, h⟩
  | 16, _ => exact let ⟨a, b, q, h⟩ := said_16 h ha; ⟨16, a, b, q, h⟩
  | 17, _ => exact let ⟨a, b, q, h⟩ := said_17 h ha; ⟨17, a, b, q, h⟩
  | 18, _ => exact let ⟨a, b, q, h⟩ := said_18 h ha; ⟨18, a, b, q, h⟩
  | 19, _ => exact let ⟨a, b, q, h⟩ := said_19 h ha; ⟨19, a, b, q, h⟩
  | 20, _ => exact let ⟨a, b, q, h⟩ := said_20 h ha; ⟨20, a, b, q, h⟩
  | 21, _ => exact let ⟨a, b, q, h⟩ := said_21 h ha; ⟨21, a, b, q, h⟩
  | 22, _ => exact let ⟨a, b, q, h⟩ := said_22 h ha; ⟨22, a, b, q, h⟩
  | 23, _ => exact let ⟨a, b, q, h⟩ := said_23 h ha; ⟨23, a, b, q, h⟩
  | 24, _ => exact let ⟨a, b, q, h⟩ := said_24 h ha; ⟨24, a, b, q, h⟩
  | 25, _ => exact let ⟨a, b, q, h⟩ := said_25 h ha; ⟨25, a, b, q, h⟩
end
end Vb

set_option Elab.async false
set_option linter.all false
set_option maxRecDepth 100000
set_option maxHeartbeats 4000000
/-! answers. -/
namespace Vb
open PySem PySem.Spec PyProof.Rows L2
open LamX (ExtN Tabs TabB)
open Kex2 (experimentAt)
abbrev intV (l : List Int) : List V := l.map V.int
theorem in_row (K : PySem.W.Frag) {d : Nat} (h : d < 26) : inV (nI d) ((withRow.map He.Dv.int).map (He.Dv.v K)) = hasRow d := match d, h with
  | 0, _ => rfl
  | 1, _ => rfl
  | 2, _ => rfl
  | 3, _ => rfl
  | 4, _ => rfl
  | 5, _ => rfl
  | 6, _ => rfl
  | 7, _ => rfl
  | 8, _ => rfl
  | 9, _ => rfl
  | 10, _ => rfl
  | 11, _ => rfl
  | 12, _ => rfl
  | 13, _ => rfl
  | 14, _ => rfl
  | 15, _ => rfl
  | 16, _ => rfl
  | 17, _ => rfl
  | 18, _ => rfl
  | 19, _ => rfl
  | 20, _ => rfl
  | 21, _ => rfl
  | 22, _ => rfl
  | 23, _ => rfl
  | 24, _ => rfl
  | 25, _ => rfl
  | d + 26, h => absurd h (by omega)
theorem num_at (K : PySem.W.Frag) {d : Nat} (h : d < 26) : ((numbers.map fun q => (q.1, He.Dv.int q.2)).map fun q => (q.1, q.2.v K)).lookup (d : Int) = some (nI (nmF d)) := match d, h with
  | 0, _ => rfl
  | 1, _ => rfl
  | 2, _ => rfl
  | 3, _ => rfl
  | 4, _ => rfl
  | 5, _ => rfl
  | 6, _ => rfl
  | 7, _ => rfl
  | 8, _ => rfl
  | 9, _ => rfl
  | 10, _ => rfl
  | 11, _ => rfl
  | 12, _ => rfl
  | 13, _ => rfl
  | 14, _ => rfl
  | 15, _ => rfl
  | 16, _ => rfl
  | 17, _ => rfl
  | 18, _ => rfl
  | 19, _ => rfl
  | 20, _ => rfl
  | 21, _ => rfl
  | 22, _ => rfl
  | 23, _ => rfl
  | 24, _ => rfl
  | 25, _ => rfl
  | d + 26, h => absurd h (by omega)
theorem calls_nil {f : Nat} {cs : List (List (List Int))} (h : PyFlat.calls PyKex2.shape f [] = some cs) : cs = [] := by
  cases f <;> cases h <;> rfl
theorem calls_cons {f : Nat} {p : Int} {r : List Int} {cs : List (List (List Int))} (h : PyFlat.calls PyKex2.shape f (p :: r) = some cs) : ∃ (g : Nat) (c : List (List Int)) (t : List Int) (cs' : List (List (List Int))), PyFlat.call PyKex2.shape (p :: r) = some (c, t) ∧ PyFlat.calls PyKex2.shape g t = some cs' ∧ cs = c :: cs' := by
  cases f with
  | zero => cases h
  | succ g =>
    have h : (match PyFlat.call PyKex2.shape (p :: r) with | none => none | some (c, t) => match PyFlat.calls PyKex2.shape g t with | none => none | some cs => some (c :: cs)) = some cs := h
    cases hc : PyFlat.call PyKex2.shape (p :: r) with
    | none => rw [hc] at h; cases h
    | some ct =>
      obtain ⟨c, t⟩ := ct
      rw [hc] at h
      have h : (match PyFlat.calls PyKex2.shape g t with | none => none | some cs => some (c :: cs)) = some cs := h
      cases hr : PyFlat.calls PyKex2.shape g t with
      | none => rw [hr] at h; cases h
      | some cs' =>
        rw [hr] at h
        cases h
        exact ⟨g, c, t, cs', rfl, hr, rfl⟩
def restOf (s : Kex2.State) (cs : List (List (List Int))) : List Int := PyFlat.told (PyFlat.played Kex2Neutral.step s (cs.map PyKex2.whole))
theorem rest_cons {s s' : Kex2.State} {c : List (List Int)} {cs : List (List (List Int))} {q : Kex2.Request} {res : Kex2.Result} (hq : Kex2Neutral.requestOf (PyKex2.whole c) = some q) (hst : Kex2.step s q = (s', res)) : restOf s (c :: cs) = (((Kex2Neutral.fields res).length : Nat) : Int) :: (Kex2Neutral.fields res ++ restOf s' cs) := by
  have e : Kex2Neutral.step s (PyKex2.whole c) = (s', Kex2Neutral.fields res) := by
    unfold Kex2Neutral.step
    rw [hq]
    show ((Kex2.step s q).1, Kex2Neutral.fields (Kex2.step s q).2) = _
    rw [hst]
  unfold restOf
  rw [List.map_cons]
  show PyFlat.told ((Kex2Neutral.step s (PyKex2.whole c)).2 :: PyFlat.played Kex2Neutral.step (Kex2Neutral.step s (PyKex2.whole c)).1 (cs.map PyKex2.whole)) = _
  rw [e]
  unfold PyFlat.told
  rw [List.flatMap_cons]
  rfl
theorem asked_of {l : List Int} (h : PyKex2.answers_asked l = true) : ∃ cs, PyFlat.calls PyKex2.shape l.length l = some cs ∧ (∀ c ∈ cs, Kex2Neutral.asked1 (PyKex2.whole c) = true) ∧ restOf none cs = PyKex2.answers l ∧ (PyKex2.answers l).length ≤ 10000000 := by
  unfold PyKex2.answers_asked at h
  cases hc : PyFlat.calls PyKex2.shape l.length l with
  | none => rw [hc] at h; cases h
  | some cs =>
    rw [hc] at h
    simp only [Bool.and_eq_true] at h
    obtain ⟨⟨⟨⟨_, _⟩, _⟩, h1⟩, h2⟩ := h
    unfold Kex2Neutral.asked at h1
    simp only [Bool.and_eq_true] at h1
    obtain ⟨⟨_, h3, _⟩, _⟩ := h1
    refine ⟨cs, rfl, fun c hm => List.all_eq_true.mp h3 _ (List.mem_map.mpr ⟨c, hm, rfl⟩), ?_, of_decide_eq_true h2⟩
    unfold PyKex2.answers PyKex2.calls restOf
    rw [hc]
    rfl
/-! ### a list of others, held through calls -/
def HoldL (K : PySem.W.Frag) (H : Hp) (c : Loc) (F a : Addr) (xs : List V) : Prop := (∀ H, SqL K H a xs) ∨ ((∃ o, H a = some o ∧ Flat o = true) ∧ SqL K H a xs ∧ (H a = some (.lst xs) ∨ ∃ o, H a = some (.frz o (.lst xs))) ∧ a ≠ c.ls ∧ a ≠ c.es ∧ a ≠ c.st ∧ a ≠ F)
section
variable {K : PySem.W.Frag} {H H' : Hp} {c c' : Loc} {F a : Addr} {xs : List V}
theorem HoldL.seq (h : HoldL K H c F a xs) : SqL K H a xs := h.elim (fun h => h H) fun h => h.2.1
theorem HoldL.of (h : SqL K H a xs) (n : ∀ o, H a = some o → a ≠ c.ls ∧ a ≠ c.es ∧ a ≠ c.st ∧ a ≠ F) : HoldL K H c F a xs := by
  rcases id h with (q | ⟨ob, q⟩) | q
  · exact .inr ⟨⟨_, q, rfl⟩, h, .inl q, n _ q⟩
  · exact .inr ⟨⟨_, q, rfl⟩, h, .inr ⟨ob, q⟩, n _ q⟩
  · exact .inl fun H => .inr q
theorem in_ne {b x : Addr} {o : HO} (h : H b = some o) (f : Flat o = true) (n1 : b ≠ c.ls) (n2 : b ≠ c.es) (n3 : b ≠ c.st) (i : InL H c x) : b ≠ x := fun z => by
  rcases i with e | e | e | e
  · exact n1 (z.trans e)
  · exact n2 (z.trans e)
  · exact n3 (z.trans e)
  · rw [← z] at e
    have := e o h
    rw [f] at this
    cases this
theorem HoldL.fr (h : HoldL K H c F a xs) (f : Fr H c H' c') : HoldL K H' c' F a xs := by
  rcases h with h | ⟨⟨o, h1, h2⟩, h3, h4, n1, n2, n3, n4⟩
  · exact .inl h
  · have e := f.keep a o h1 h2 n1 n2 n3
    have m1 := in_ne h1 h2 n1 n2 n3 f.l
    have m2 := in_ne h1 h2 n1 n2 n3 f.e
    have m3 := in_ne h1 h2 n1 n2 n3 f.t
    rcases h4 with h4 | ⟨ob, h4⟩
    · have e2 := f.keep a _ h4 rfl n1 n2 n3
      exact .inr ⟨⟨_, e2, rfl⟩, SqL.of e2, .inl e2, m1, m2, m3, n4⟩
    · have e2 := f.keep a _ h4 rfl n1 n2 n3
      exact .inr ⟨⟨_, e2, rfl⟩, .inl (.inr ⟨ob, e2⟩), .inr ⟨ob, e2⟩, m1, m2, m3, n4⟩
theorem HoldL.same (h : HoldL K H c F a xs) (s : Same H H') : HoldL K H' c F a xs := h.fr (.same s)
theorem HoldL.found {u : HO} (h : HoldL K H c F a xs) : HoldL K (upd H F u) c F a xs := by
  rcases h with h | ⟨⟨o, h1, h2⟩, h3, h4, n1, n2, n3, n4⟩
  · exact .inl h
  · rcases h4 with h4 | ⟨ob, h4⟩
    · have e2 : upd H F u a = some _ := (upd_ne n4).trans h4
      exact .inr ⟨⟨_, e2, rfl⟩, SqL.of e2, .inl e2, n1, n2, n3, n4⟩
    · have e2 : upd H F u a = some _ := (upd_ne n4).trans h4
      exact .inr ⟨⟨_, e2, rfl⟩, .inl (.inr ⟨ob, e2⟩), .inr ⟨ob, e2⟩, n1, n2, n3, n4⟩
theorem RepS.found {P : Program} {w : World} {p : Addr} {s : Kex2.State} {ns : List Int} {o : HO} (h : RepS P w K H p c s) (hf : H F = some (.lst (ns.map V.int))) (f1 : F ≠ c.ls) (f2 : F ≠ c.es) (f3 : F ≠ c.st) : RepS P w K (upd H F o) p c s := by
  cases s with
  | none =>
    obtain ⟨h1, dx, s, b, h, cl, l, e', o', t, h2⟩ := h
    exact ⟨h1, dx, s, b, h, cl, l, e', o', t, (upd_ne (fun z => by rw [z, hf] at h2; cases h2)).trans h2⟩
  | some a => exact ⟨h.1.found hf f1 f2 f3, h.2⟩
end
theorem cut_mid {xs : List V} {i j : Nat} (h : i ≤ j) (hj : j ≤ xs.length) : cutV xs (some (i : Int)) (some (j : Int)) = (xs.drop i).take (j - i) := by
  unfold cutV
  rw [HT.sIx_nat, HT.sIx_nat, Nat.min_eq_left hj, Nat.min_eq_left (by omega)]
theorem intV_casts (l : List Nat) : intV (casts l) = nats l := by
  show (l.map fun (n : Nat) => (n : Int)).map V.int = l.map nI
  rw [List.map_map]
  rfl
end Vb

set_option Elab.async false
set_option linter.all false
set_option maxRecDepth 100000
set_option maxHeartbeats 4000000
/-! answers: the walk. -/
namespace Vb
open PySem PySem.Spec PyProof.Rows L2
open LamX (ExtN Tabs TabB)
open Kex2 (experimentAt)
def spAnswers (K : PySem.W.Frag) : Sp := fun vs H Q _ => ∃ (pc : Addr) (l : List Int), vs = [.ref pc] ∧ SqL K H pc (intV l) ∧ l.length ≤ 1000000 ∧ PyKex2.answers_asked l = true ∧ Tabs (tT K) H ∧ ∀ H' q, H' q = some (.lst (intV (PyKex2.answers l))) → Q (.ref q) H'
theorem intV_len (l : List Int) : (intV l).length = l.length := List.length_map ..
theorem intV_get {l : List Int} {i : Nat} {x : Int} (h : l[i]? = some x) : (intV l)[i]? = some (.int x) := by
  show (l.map V.int)[i]? = _
  rw [List.getElem?_map, h]
  rfl
theorem drop_cons {α : Type} {l : List α} {i : Nat} {x : α} {r : List α} (h : l.drop i = x :: r) : l[i]? = some x ∧ l.drop (i + 1) = r ∧ i < l.length := by
  have hi : i < l.length := by
    refine Nat.lt_of_not_le fun z => ?_
    rw [List.drop_eq_nil_of_le z] at h
    cases h
  rw [List.drop_eq_getElem_cons hi] at h
  injection h with h1 h2
  exact ⟨by rw [List.getElem?_eq_getElem hi, h1], h2, hi⟩
theorem cut_ints {l : List Int} {i j : Nat} (h : i ≤ j) (hj : j ≤ l.length) : cutV (intV l) (some (i : Int)) (some (j : Int)) = intV ((l.drop i).take (j - i)) := by
  rw [cut_mid h (by rw [intV_len]; exact hj)]
  show ((l.map V.int).drop i).take (j - i) = ((l.drop i).take (j - i)).map V.int
  rw [List.map_take, List.map_drop]
section
variable {P : Program} {w : World} {K : PySem.W.Frag} {mg : Str → Option Value} {base : Heap}
theorem sc_answers : FnScope ["calls", "own", "found", "at", "deed", "behind", "numbers", "row", "many", "told"] ["calls"] (defScope s_answers) := ⟨rfl, rfl, rfl, by decide +kernel, rfl, by decide +kernel, by decide +kernel⟩
theorem h_answers (T : Txt K mg) (TK : TabK base mg K) : Held P w K mg base 11 (He.ga K "answers") (spAnswers K) := by
  refine held_of (ps := ["calls"]) T.d_answers sc_answers (fun vs H Q E h => by obtain ⟨_, _, rfl, _⟩ := h; rfl) (fun _ _ _ _ _ _ us hl => match us, hl with | [_], _ => rfl) (fun cdv A outer s H vs Q E hr h => ?_)
  have nd := sc_answers.nd
  have hr2 : Room (1 + 1) _ := hr.mono (by decide)
  refine ⟨_, pss_cons (ps_set (i := 1) nd rfl (Or.inl rfl) (pe_make0H T.k_Platform (h_Platform_init (P := P) (w := w) T) hr2 T.g_Platform))
    (pss_cons (ps_set (i := 2) nd rfl (Or.inl rfl) (pe_lst pa_nil))
    (pss_cons (ps_set (i := 3) nd rfl (Or.inl rfl) pe_int)
    (pss_cons (ps_while PassesOwn.never (pt_cmpR op_lt (pv 3) (pe_callB call_len_seq (by rfl) T.f_len PySem.boot_len (pa_cons (pv 0) pa_nil)) (nomark _))
      (pss_cons (ps_set (i := 4) nd rfl (Or.inl rfl) (pe_ix ix_list (pv 0) (pv 3) (fun _ _ => rfl)))
      (pss_cons (ps_set (i := 5) nd rfl (Or.inl rfl) (pe_op op_addN (pe_op op_addN (pv 3) pe_int) (pe_ix ix_int (pe_gr T.g_NUMBERS) (pv 4) (fun _ _ => rfl))))
      (pss_cons (ps_set (i := 6) nd rfl (Or.inl rfl) (pe_slice sl_list (pv 0) (po_some (pe_op op_addN (pv 3) pe_int)) (po_some (pv 5))))
      (pss_cons (ps_set (i := 7) nd rfl (Or.inl rfl) (pe_lst pa_nil))
      (pss_cons (ps_if (pt_cmpR op_in_seq (pv 4) (pe_gr T.g_WITH_ROW) (by with_unfolding_all rfl))
        (pss_cons (ps_set (i := 8) nd rfl (Or.inl rfl) (pe_ix ix_list (pv 0) (pv 5) (fun _ _ => rfl)))
        (pss_cons (ps_set (i := 7) nd rfl (Or.inl rfl) (pe_slice sl_list (pv 0) (po_some (pe_op op_addN (pv 5) pe_int)) (po_some (pe_op op_addN (pe_op op_addN (pv 5) pe_int) (pv 8)))))
        (pss_one (ps_set (i := 5) nd rfl (Or.inl rfl) (pe_op op_addN (pe_op op_addN (pv 5) pe_int) (pv 8)))))) pss_nil)
      (pss_cons (ps_set (i := 9) nd rfl (Or.inl rfl) (pe_callH (h_answered T TK) hr T.g_answered (pa_cons (pv 1) (pa_cons (pv 4) (pa_cons (pv 6) (pa_cons (pv 7) pa_nil))))))
      (pss_cons (ps_expr (pe_bm PySem.F.plainAttrs_list PySem.F.slot_list_append PySem.F.type_list_append mt_append (pv 2) (pa_cons (pe_callB call_len_seq (by rfl) T.f_len PySem.boot_len (pa_cons (pv 9) pa_nil)) pa_nil)))
      (pss_cons (ps_expr (pe_bm PySem.F.plainAttrs_list PySem.F.slot_list_extend PySem.F.type_list_extend mt_extend (pv 2) (pa_cons (pv 9) pa_nil)))
      (pss_one (ps_set (i := 3) nd rfl (Or.inl rfl) (pv 5))))))))))))
    (pss_one (ps_ret (pv 2)))))), ?_⟩
  obtain ⟨pc, l, rfl, hC, hl6, hask, hT, k⟩ := h
  obtain ⟨cs0, hcs0, hall0, hrest0, h107⟩ := asked_of hask
  -- own
  intro p dx np ndx hne
  refine ⟨p, dx, rfl, upd_same, fun H1 s1' b1 h1 c1 l1 e1 o1 t1 ex1 hp1 => ⟨rfl, ?_⟩⟩
  have s1 : Same H H1 := Same.made np ndx fun b o h n => ex1 b o n h
  -- found
  refine ⟨Nat.zero_le _, fun F hF => ?_⟩
  have s2 : Same H (upd H1 F (.lst [])) := s1.trans (same_new hF)
  have hp2 := same_new (o := .lst []) hF _ _ hp1
  have nFp : F ≠ p := (ne_of_none hp1 hF).symm
  have hF2 : upd H1 F (.lst []) F = some (.lst (intV [])) := upd_same
  have hold : HoldL K (upd H1 F (.lst [])) ⟨p, p, p, p⟩ F pc (intV l) := by
    have hC2 := s2.seq hC
    rcases hC with (q | ⟨ob, q⟩) | q
    · exact .inr ⟨⟨_, s2 _ _ q, rfl⟩, hC2, .inl (s2 _ _ q), ne_of_none q np, ne_of_none q np, ne_of_none q np, ne_of_none (s1 _ _ q) hF⟩
    · exact .inr ⟨⟨_, s2 _ _ q, rfl⟩, hC2, .inr ⟨ob, s2 _ _ q⟩, ne_of_none q np, ne_of_none q np, ne_of_none q np, ne_of_none (s1 _ _ q) hF⟩
    · exact .inl fun H => .inr q
  have R2 : RepS P w K (upd H1 F (.lst [])) p ⟨p, p, p, p⟩ none := ⟨rfl, _, _, _, _, _, _, _, _, _, hp2⟩
  have T2 := hT.ext s2
  refine ⟨fun m σ H' => ∃ (i : Nat) (cs : List (List (List Int))) (f : Nat) (s : Kex2.State) (ns : List Int) (c : Loc) (v4 v5 v6 v7 v8 v9 : Option V), m = cs.length ∧ i ≤ l.length ∧ PyFlat.calls PyKex2.shape f (l.drop i) = some cs ∧ (∀ c ∈ cs, Kex2Neutral.asked1 (PyKex2.whole c) = true) ∧ ns ++ restOf s cs = PyKex2.answers l ∧
      σ = [some (.ref pc), some (.ref p), some (.ref F), some (nI i), v4, v5, v6, v7, v8, v9] ∧ RepS P w K H' p c s ∧ Tabs (tT K) H' ∧ H' F = some (.lst (intV ns)) ∧ (F ≠ c.ls ∧ F ≠ c.es ∧ F ≠ c.st) ∧ HoldL K H' c F pc (intV l),
    ⟨_, 0, cs0, l.length, none, [], ⟨p, p, p, p⟩, none, none, none, none, none, none, rfl, Nat.zero_le _, hcs0, hall0, hrest0, rfl, R2, T2, hF2, ⟨nFp, nFp, nFp⟩, hold⟩, ?_⟩
  clear R2 T2 hold hF2 hp2 s2
  rintro m σ H2 ⟨i, cs, f, s0, ns, c, v4, v5, v6, v7, v8, v9, rfl, hi, hcs, hall, hrest, rfl, R, T2, hF2, ⟨f1, f2, f3⟩, hold⟩
  refine ⟨_, rfl, _, rfl, pc, _, rfl, .inl hold.seq, _, _, rfl, rfl, _, rfl, ?_⟩
  rw [intV_len, dec_lt]
  by_cases hlt : i < l.length
  · rw [decide_eq_true hlt]
    refine iteT ⟨_, fun σ' H' h => h, ?_⟩
    cases hd : l.drop i with
    | nil =>
      have := congrArg List.length hd
      rw [List.length_drop] at this
      simp at this
      omega
    | cons p0 r =>
      obtain ⟨hg, hr', _⟩ := drop_cons hd
      rw [hd] at hcs
      obtain ⟨g, cc, t, cs', hcall, hrec, rfl⟩ := calls_cons hcs
      obtain ⟨d, nums, row, q, S⟩ := call_split hcall (hall cc List.mem_cons_self)
      have hp0 := S.hp
      subst hp0
      have hrl : r.length = l.length - (i + 1) := by rw [← hr', List.length_drop]
      have hnl := S.len
      have hb0 : i + 1 + nums.length ≤ l.length := by omega
      -- deed, behind
      refine ⟨_, rfl, _, rfl, pc, _, _, _, rfl, rfl, hold.seq, atI_nat (intV_get hg), ?_⟩
      refine ⟨_, rfl, i, 1, rfl, rfl, _, rfl, _, _, _, _, rfl, rfl, dicI_ok T.m4, num_at K S.lt, i + 1, nmF d, rfl, rfl, ?_⟩
      rw [← S.nm]
      -- numbers
      refine ⟨_, rfl, _, rfl, i, 1, rfl, rfl, _, rfl, _, rfl, _, rfl, pc, _, rfl, hold.seq, fun pn hpn => ?_⟩
      have ecut : cutV (intV l) (some ((i + 1 : Nat) : Int)) (some ((i + 1 + nums.length : Nat) : Int)) = nats nums := by
        rw [cut_ints (by omega) hb0, hr', show i + 1 + nums.length - (i + 1) = nums.length by omega, S.hnums, intV_casts]
      rw [ecut]
      have s3 : Same H2 (upd H2 pn (.lst (nats nums))) := same_new hpn
      have hn3 : upd H2 pn (.lst (nats nums)) pn = some (.lst (nats nums)) := upd_same
      -- row = []
      refine ⟨Nat.zero_le _, fun pr hpr => ?_⟩
      have s4 := s3.trans (same_new (o := .lst []) hpr)
      have hn4 := same_new (o := .lst []) hpr _ _ hn3
      have hr4 : upd (upd H2 pn (.lst (nats nums))) pr (.lst []) pr = some (.lst (nats [])) := upd_same
      clear s3 hn3 hpr hpn
      generalize upd (upd H2 pn (.lst (nats nums))) pr (.lst []) = H4 at s4 hn4 hr4 ⊢
      -- behind the row
      have tail : ∀ (b : Nat) (pr : Addr) (v8 : Option V) (H5 : Hp), b ≤ l.length → l.drop b = t → row.length ≤ 1000 → Same H2 H5 → H5 pn = some (.lst (nats nums)) → H5 pr = some (.lst (nats row)) → ∀ Dn : Ends,
          (∀ σ' H', (∃ m', m' < (cc :: cs').length ∧ ∃ (i : Nat) (cs : List (List (List Int))) (f : Nat) (s : Kex2.State) (ns : List Int) (c : Loc) (v4 v5 v6 v7 v8 v9 : Option V), m' = cs.length ∧ i ≤ l.length ∧ PyFlat.calls PyKex2.shape f (l.drop i) = some cs ∧ (∀ c ∈ cs, Kex2Neutral.asked1 (PyKex2.whole c) = true) ∧ ns ++ restOf s cs = PyKex2.answers l ∧
            σ' = [some (.ref pc), some (.ref p), some (.ref F), some (nI i), v4, v5, v6, v7, v8, v9] ∧ RepS P w K H' p c s ∧ Tabs (tT K) H' ∧ H' F = some (.lst (intV ns)) ∧ (F ≠ c.ls ∧ F ≠ c.es ∧ F ≠ c.st) ∧ HoldL K H' c F pc (intV l)) → Dn.nx σ' H') →
          tSeq (tAsg (tCa (spAnswered P w K) (tCons (tVar 1) (tCons (tVar 4) (tCons (tVar 6) (tCons (tVar 7) tNil))))) (gName 9))
            (tSeq (tDrop (tBM K "list" rAppend (tVar 2) (tCons (tCB (fun xs H Q => ∃ p ys, xs = [V.ref p] ∧ (SqL K H p ys ∨ SqT K H p ys) ∧ Q (V.int ys.length) H) (tCons (tVar 9) tNil)) tNil)))
            (tSeq (tDrop (tBM K "list" rExtend (tVar 2) (tCons (tVar 9) tNil))) (tAsg (tVar 5) (gName 3)))) Dn [some (.ref pc), some (.ref p), some (.ref F), some (nI i), some (nI d), some (nI b), some (.ref pn), some (.ref pr), v8, v9] H5 := by
        intro b pr v8 H5 hb hbt hrow s5 hn5 hr5 Dn hDn
        have hF5 := s5 _ _ hF2
        refine ⟨_, rfl, _, rfl, _, rfl, _, rfl, p, pn, pr, c, s0, d, nums, row, q, rfl, R.same s5, SqL.of hn5, SqL.of hr5, hrow, T2.ext s5, S.rq, fun H6 tq c' s' res A F6 T6 R6 hst htq => ?_⟩
        have hF6 := F6.keep F _ hF5 rfl f1 f2 f3
        have nFq : tq ≠ F := (A F _ hF5 rfl f1 f2 f3).symm
        have e1 := in_ne hF5 rfl f1 f2 f3 F6.l
        have e2 := in_ne hF5 rfl f1 f2 f3 F6.e
        have e3 := in_ne hF5 rfl f1 f2 f3 F6.t
        have hrc := rest_cons (cs := cs') S.of hst
        rw [hrc] at hrest
        have hlen : ns.length + (1 + (Kex2Neutral.fields res).length) ≤ 10000000 := by
          have := congrArg List.length hrest
          simp only [List.length_append, List.length_cons] at this
          omega
        have hz : (10000000 : Nat) < sizeLine := by decide
        refine ⟨_, rfl, .inl ⟨rfl, _, SqL.of hF6⟩, _, rfl, tq, _, rfl, .inl (SqL.of htq), F, _, _, rfl, rfl, hF6, by rw [intV_len]; omega, ?_⟩
        refine ⟨_, rfl, .inl ⟨rfl, _, SqL.of upd_same⟩, _, rfl, F, tq, _, _, rfl, rfl, upd_same, (upd_ne nFq).trans htq, ?_, ?_⟩
        · rw [List.length_append, intV_len, List.length_map]
          show ns.length + 1 + _ ≤ _
          omega
        rw [upd_upd]
        have evals : (intV ns ++ [V.int ((((Kex2Neutral.fields res).map V.int).length : Nat) : Int)]) ++ (Kex2Neutral.fields res).map V.int = intV (ns ++ (((Kex2Neutral.fields res).length : Nat) : Int) :: Kex2Neutral.fields res) := by
          show ((ns.map V.int) ++ _) ++ _ = (ns ++ _).map V.int
          rw [List.map_append, List.length_map, List.append_assoc]
          rfl
        rw [evals]
        refine ⟨_, rfl, hDn _ _ ⟨cs'.length, Nat.lt_succ_self _, b, cs', g, s', _, c', _, _, _, _, _, _, rfl, hb, by rw [hbt]; exact hrec, fun c hc => hall c (List.mem_cons_of_mem _ hc), ?_, rfl, R6.found hF6 e1 e2 e3, tabs_lst T6 hF6, upd_same, ⟨e1, e2, e3⟩, ((hold.same s5).fr F6).found⟩⟩
        rw [← hrest]
        simp [List.append_assoc]
      -- deed in WITH_ROW
      refine ⟨_, rfl, _, _, rfl, .inr (He.tupB_ok T.m3 _), rfl, rfl, _, rfl, ?_⟩
      have ein : (if false = true then !inV (nI d) ((withRow.map He.Dv.int).map (He.Dv.v K)) else inV (nI d) ((withRow.map He.Dv.int).map (He.Dv.v K))) = hasRow d := by
        rw [if_neg Bool.false_ne_true]
        exact in_row K S.lt
      rcases S.hrow with ⟨hR, hrow0, ht⟩ | ⟨hR, hrl1, r2, hdr, htk, hrl2, ht⟩
      · refine (if_neg (by rw [ein, hR]; exact Bool.false_ne_true)).mpr ?_
        subst hrow0
        refine tail (i + 1 + nums.length) pr _ H4 hb0 ?_ (Nat.zero_le _) s4 hn4 hr4 _ fun σ' H' h => h
        rw [ht, ← hr', List.drop_drop]
      · refine (if_pos (by rw [ein, hR])).mpr ?_
        have hdb : l.drop (i + 1 + nums.length) = ((row.length : Nat) : Int) :: r2 := by rw [← hdr, ← hr', List.drop_drop]
        obtain ⟨hgb, hdb1, hbl⟩ := drop_cons hdb
        have hr2l : r2.length = l.length - (i + 1 + nums.length + 1) := by rw [← hdb1, List.length_drop]
        have hb2 : i + 1 + nums.length + 1 + row.length ≤ l.length := by omega
        refine ⟨_, rfl, _, rfl, pc, _, _, _, rfl, rfl, (hold.same s4).seq, atI_nat (intV_get hgb), ?_⟩
        refine ⟨_, rfl, _, rfl, i + 1 + nums.length, 1, rfl, rfl, _, rfl, _, rfl, i + 1 + nums.length, 1, rfl, rfl, _, rfl, i + 1 + nums.length + 1, row.length, rfl, rfl, _, rfl, pc, _, rfl, (hold.same s4).seq, fun pr2 hpr2 => ?_⟩
        have ecut2 : cutV (intV l) (some ((i + 1 + nums.length + 1 : Nat) : Int)) (some ((i + 1 + nums.length + 1 + row.length : Nat) : Int)) = nats row := by
          rw [cut_ints (by omega) hb2, hdb1, show i + 1 + nums.length + 1 + row.length - (i + 1 + nums.length + 1) = row.length by omega, htk, intV_casts]
        rw [ecut2]
        refine ⟨_, rfl, i + 1 + nums.length, 1, rfl, rfl, _, rfl, i + 1 + nums.length + 1, row.length, rfl, rfl, ?_⟩
        have s5 := s4.trans (same_new (o := .lst (nats row)) hpr2)
        refine tail (i + 1 + nums.length + 1 + row.length) pr2 _ _ hb2 ?_ hrl1 s5 (same_new hpr2 _ _ hn4) upd_same _ fun σ' H' h => h
        rw [ht, ← hdb1, List.drop_drop]
  · rw [decide_eq_false hlt]
    have hie : i = l.length := by omega
    rw [List.drop_eq_nil_of_le (by omega)] at hcs
    have hc0 := calls_nil hcs
    subst hc0
    have hr0 : restOf s0 [] = [] := rfl
    rw [hr0, List.append_nil] at hrest
    exact iteF ⟨_, rfl, k H2 F (by rw [hF2, hrest])⟩
end
end Vb

set_option Elab.async false
set_option linter.all false
set_option maxRecDepth 100000
set_option maxHeartbeats 4000000
/-! The end: the row's call with the table of code objects. -/
namespace Vb
open PySem PySem.Spec PyProof.Rows L2
open LamX (TabB)
open PySem.W (WData Codec OpenSpec Well WellAll ReadsW ReadsAllW)
theorem spec_callT {P : Program} {w : World} {K : PySem.W.Frag} {mg mb : Str → Option Value} {k : Nat} {fa c0 P0 : Addr} {sp : Sp} {s₁ : Shared} {vals : List Value} {ds : List WData} {R : PySem.W.WRecords} {cl : Str → Option Addr} {d0 : WData}
    (KX : K.In s₁.heap) (hns : s₁.heap.Ns mainGlobals mg) (hb : s₁.heap.Ns builtinsNs mb) (hbb : ∀ x : Str, x ≠ "__name__" → mb x = bootBuiltins x) (hlim : s₁.heap.NoLimit) (hg : s₁.gens = #[])
    (hT : s₁.heap.get? P0 = some { cls := .none, data := .fields #[] }) (nT : K.lookup P0 = none) (C : PySem.W.codeHdIn K c0 P0 = true)
    (hbm : ∃ (bm : Addr) (ob : Obj), mg "__builtins__" = some (.ref bm) ∧ bm ≠ builtinsNs ∧ s₁.heap.get? bm = some ob ∧ ob.cls = .type "module" ∧ ob.dict = some builtinsNs ∧ ob.data = .plain)
    (hwl : WellAll w.params s₁.heap vals ds) (hpl : plWs ds = true) (hwt : ∀ d ∈ ds, d.weight ≤ 1048576) (hr : Room k callerA)
    (F : ∀ base : Heap, K.In base → base.Ns mainGlobals mg → TabB base mg c0 P0 → Held P w K mg base k fa sp)
    (hsp : ∀ (H H0 : Hp) (xs : List V), Same H0 H → DwAll K H0 xs ds → H P0 = some (.tbl #[]) → sp xs H (fun v H' => Dw K H' v d0) fun _ _ _ => False) :
    codeAny (model P w) callerA (.call (.ref fa) ⟨vals, []⟩) (fun r s' => ∃ u as, r = .ok (.ret u) ∧ ReadsW R cl s'.heap u d0 as ∧ OldK s₁.heap s'.heap ∧ s'.os = s₁.os ∧ AllBare s'.gens) s₁ := by
  obtain ⟨A, ho, ar⟩ := area_all ds vals hwl hpl hwt
  have hO : OnlyF (argH K s₁.heap A) := argH_only ar
  have hok0 : HOk P w (argH K s₁.heap A) s₁.heap := argH_ok ar
  have hS := dw_all KX ar ds vals hwl hpl ho
  have hV : Vals (vals.map toV) vals := vals_toV ho
  have isO : ∀ {b : Addr} {u : HO}, argH K s₁.heap A b = some u → K.lookup b = none ∧ ∃ (vs : List Value) (c : Value), s₁.heap.get? b = some { cls := c, data := .seq vs.toArray } := fun {b u} q => by
    obtain ⟨h1, vs, _, _, ⟨e2, _⟩ | ⟨e2, _⟩⟩ := argH_is ar q
    · exact ⟨h1, vs, _, e2⟩
    · exact ⟨h1, vs, _, e2⟩
  have hP0 : argH K s₁.heap A P0 = none := by
    cases q : argH K s₁.heap A P0 with
    | none => rfl
    | some u =>
      obtain ⟨_, vs, c, e2⟩ := isO q
      rw [hT] at e2
      cases e2
  generalize argH K s₁.heap A = H0 at hO hok0 hS isO hP0
  have sH : Same H0 (upd H0 P0 (.tbl #[])) := same_new hP0
  have hPt : upd H0 P0 (.tbl #[]) P0 = some (.tbl #[]) := upd_same
  have hok : HOk P w (upd H0 P0 (.tbl #[])) s₁.heap := fun b u q => by
    by_cases e : b = P0
    · subst e
      rw [upd_same] at q
      cases q
      exact hT
    · rw [upd_ne e] at q
      exact (hok0 b u q).stay (fun _ _ _ z => z) (fun a z => sH _ _ z) fun a xs z => sH _ _ z
  have hO2 : ∀ b, upd H0 P0 (.tbl #[]) b = none ∨ b = P0 ∨ ∃ o u, upd H0 P0 (.tbl #[]) b = some (.frz o u) := fun b => by
    by_cases e : b = P0
    · exact .inr (.inl e)
    · rw [upd_ne e]
      rcases hO b with z | z
      · exact .inl z
      · exact .inr (.inr z)
  have noD : ∀ {b : Addr} {o : Obj}, s₁.heap.get? b = some o → (∀ vs n, o.data ≠ .seq vs n) → o.data ≠ .fields #[] → upd H0 P0 (.tbl #[]) b = none := fun {b o} e h1 h2 => by
    by_cases eb : b = P0
    · rw [eb, hT] at e
      cases e
      exact (h2 rfl).elim
    · rw [upd_ne eb]
      cases q : H0 b with
      | none => rfl
      | some u =>
        obtain ⟨_, vs, c, e2⟩ := isO q
        rw [e] at e2
        cases e2
        exact (h1 _ _ rfl).elim
  have hK : ∀ b u, upd H0 P0 (.tbl #[]) b = some u → K.lookup b = none := fun b u q => by
    by_cases e : b = P0
    · rw [e]
      exact nT
    · rw [upd_ne e] at q
      exact (isO q).1
  have hsp' := hsp (upd H0 P0 (.tbl #[])) H0 (vals.map toV) sH hS hPt
  generalize upd H0 P0 (.tbl #[]) = H at hok hO2 noD hK hsp' hPt
  have base_of : ∀ {b : Addr} {o : Obj}, s₁.heap.get? b = some o → H b = none → (hidT s₁.heap H).get? b = some o := fun e n => hidT_get e n
  have noA : ∀ {b : Addr} {o : Obj} {es : Array DictEntry} {ep : Nat}, s₁.heap.get? b = some o → o.data = .dict es ep → H b = none := fun {b o es ep} e d => by
    refine noD e (fun vs n z => ?_) fun z => ?_
    · rw [d] at z
      cases z
    · rw [d] at z
      cases z
  have nsK : ∀ {b : Addr} {m : Str → Option Value}, s₁.heap.Ns b m → (hidT s₁.heap H).Ns b m := fun {b m} ⟨o, es, ep, e, d, r⟩ => ⟨o, es, ep, base_of e (noA e d), d, r⟩
  have nK : ∀ b o, K.lookup b = some o → H b = none := fun b o e => by
    cases q : H b with
    | none => rfl
    | some u =>
      rw [hK b u q] at e
      cases e
  have hKb : K.In (hidT s₁.heap H) := fun b o e => base_of (KX b o e) (nK b o e)
  have hM : L2.Mod K mg (hidT s₁.heap H) := ⟨hKb, nsK hns, ⟨mb, nsK hb, hbb⟩, let ⟨mc, h1, h2⟩ := hlim; ⟨mc, nsK h1, h2⟩⟩
  have TB : TabB (hidT s₁.heap H) mg c0 P0 := by
    refine ⟨PySem.W.codeHd_of_K hKb C, ?_, fun z => ?_⟩
    · obtain ⟨bm, ob, b1, b2, b3, b4, b5, b6⟩ := hbm
      have nG : bm ≠ mainGlobals := fun q => by
        obtain ⟨o, es, ep, e, hd, _⟩ := hns
        rw [q, e] at b3
        cases b3
        rw [hd] at b6
        cases b6
      have nP : bm ≠ P0 := fun q => by
        rw [q, hT] at b3
        cases b3
        cases b6
      refine ⟨bm, ob, b1, b2, nG, nP, base_of b3 (noD b3 (fun vs n z => ?_) fun z => ?_), b4, b5, b6⟩
      · rw [b6] at z
        cases z
      · rw [b6] at z
        cases z
    · obtain ⟨o, es, ep, e, hd, _⟩ := hns
      rw [z, hT] at e
      cases e
      cases hd
  have e0 : Env0 P w K mg (hidT s₁.heap H) callerA [] s₁ H := ⟨rfl, hM, fun b o e => of_hidT e, Nat.le_of_eq (hidT_size _ _), trivial, fun b hb => absurd (show b ∈ ([] : List Addr) from hb) (by simp), hok, .of_eq hg⟩
  obtain ⟨fd, ps, Fn, _, hbind⟩ := (F _ hKb (nsK hns) TB).ex
  have hl : (vals ++ []).length = ps.length := by
    have := Fn.len _ _ _ _ hsp'
    rw [List.length_map] at this
    rw [List.append_nil]
    exact this
  have hb2 := hbind s₁ vals KX hl
  rw [List.append_nil] at hb2
  refine codeAny_mono (Fn.run callerA [] s₁ H ⟨vals, []⟩ vals (vals.map toV) _ _ hr e0 hb2 hV hsp') fun r s' x => ?_
  cases r with
  | error e => exact (show False from x).elim
  | ok fl =>
    cases fl with
    | next => exact False.elim x
    | brk => exact False.elim x
    | cont => exact False.elim x
    | ret u =>
      obtain ⟨v, H', os, bare, un, hok', r', q⟩ := x
      have kept : ∀ b o, b ≠ P0 → s₁.heap.get? b = some o → s'.heap.get? b = some o := fun b o nb e => by
        cases q2 : H b with
        | none => exact un.keep b o e q2 (by intro z; exact absurd (show b ∈ ([] : List Addr) from z) (by simp)) (by simp)
        | some u2 =>
          rcases hO2 b with z | z | ⟨ob, u3, z⟩
          · rw [q2] at z
            cases z
          · exact absurd z nb
          · have z2 := un.frzs b ob _ z
            obtain ⟨e1, _⟩ := hok b _ z
            obtain ⟨e2, _⟩ := hok' b _ z2
            rw [e] at e1
            cases e1
            exact e2
      have KX' : K.In s'.heap := fun b o e => kept b o (fun z => by rw [z, nT] at e; cases e) (KX b o e)
      obtain ⟨as, hrd⟩ := Dw.reads (R := R) (cl := cl) hok' KX' d0 v u q r'
      have grown : ∃ more : Array Value, s'.heap.get? P0 = some { cls := .none, data := .fields more } := by
        obtain ⟨more, z⟩ := un.tbls P0 #[] hPt
        exact ⟨_, hok' P0 _ z⟩
      obtain ⟨more, hmore⟩ := grown
      refine ⟨u, as, rfl, hrd, ⟨fun b o e => ?_, fun b o e => ?_⟩, os, bare⟩
      · by_cases eb : b = P0
        · subst eb
          rw [hT] at e
          cases e
          exact .inr (.inl ⟨((PySem.W.codeHd_of_K KX C).tab hT).isCodeTable, rfl, #[], more, rfl, by rw [Array.empty_append]; exact hmore⟩)
        · exact .inl (kept b o eb e)
      · by_cases eb : b = P0
        · exact ⟨_, by rw [eb]; exact hmore⟩
        · exact ⟨o, kept b o eb e⟩
end Vb

set_option Elab.async false
set_option linter.all false
set_option maxRecDepth 100000
set_option maxHeartbeats 8000000
namespace Vb
open PySem PySem.Spec PyProof.Rows L2
open PySem.W (Codec OpenSpec)
theorem spec_go : PySem.W.WalkOS qv loose (PySem.W.XL qv []) hk.says R (HandSHeadRun.topDef R.prog 76) [] (fun f vs => PySem.call f vs) := by
  intro w s₀ s₁ mg mb G Y fa o pm cd doc dV kV ho hd hcd hD hmg0 hg args vals as hpre hlay hrd hwl hlo
  obtain ⟨a, e1, e2⟩ := PySem.W.os_pre_some hpre
  obtain ⟨e3, hwi⟩ := Codec.encAll_of_decAll R.args args a e1
  subst e3
  obtain ⟨K, KX, c⟩ := Y
  have T : Txt K mg := ⟨⟨_, KX, G.T.g⟩, c.t.d, c.more⟩
  have hmg : mg ("answers" : PySem.Str) = some (.ref fa) := by
    have e : (HandSHeadRun.topDef R.prog 76).name = ("answers" : PySem.Str) := by kernel_rfl
    rw [← e]
    exact hmg0
  have ef := hmg.symm.trans T.g_answers
  cases ef
  have mem : (("targets_of", none) : He.Defn) ∈ tf := List.mem_singleton.mpr rfl
  refine PySem.W.enter_call (codeAny_mono (spec_callT (R := []) (cl := classAt s₀.heap) (d0 := R.ret.enc (Codec.app R.args R.f a)) (k := 11) (sp := spAnswers K) (c0 := (He.cT K ("targets_of", none)).1) (P0 := (He.cT K ("targets_of", none)).2)
    KX G.T.g G.T.b G.T.builtins G.T.nolimit hg (c.empty _ mem) (c.out _ mem) (c.hd _ mem) G.T.bmain hwl (pl_encAll _ _) (layable_weight hlay) ⟨rfl, by decide, by decide⟩ (fun base _ _ TB => h_answers T TB)
    (fun H H0 xs sH hx hP => ?hS)) fun r' s' hq => ?hq)
  case hS =>
    cases hx with
    | cons h1 h2 =>
      cases h2
      cases h1 with
      | lst hs ha =>
        have e := L2.ints_dw a.1 _ ha
        subst e
        have q : ((Codec.inLen 0 30000 a.1 && a.1.all (Codec.inInt 0 4294967295)) && true) = true := hwi
        rw [Bool.and_eq_true, Bool.and_eq_true] at q
        have hl : a.1.length ≤ 30000 := (Codec.inNat_iff.mp q.1.1).2
        have hasked : PyKex2.answers_asked a.1 = true := e2
        refine ⟨_, a.1, rfl, sH.seq hs, by omega, hasked, fun p hp => ?_, fun H' q hq => .lst (L2.SqL.of hq) (L2.dw_ints _)⟩
        rw [List.mem_singleton.mp hp]
        exact LamX.TabS.nil hP
  case hq =>
    obtain ⟨u, as', rfl, h1, h2, h3, h4⟩ := hq
    exact ⟨.inl ⟨u, _, as', rfl, fun _ => rfl, h1, (OpenSpec.post_iff (r := R) (by decide +kernel) hwi _ _).mpr rfl, fun z => Bool.noConfusion (show false = true from z)⟩, h2, h3, h4⟩
end Vb
open PySem PySem.W PyProof.Rows
set_option maxRecDepth 100000 in
set_option maxHeartbeats 8000000 in
theorem PySem.Challenge.cw_variantbuckets_s01_answers_holds : PySem.Challenge.rw_variantbuckets_s01_answers.Holds := by
  w_on
  refine HandSHeadRun.head_spec (r := Vb.R) (q := Vb.qv) (H := Vb.hk) (ob := Vb.ob) (M := 6000) (loose := Vb.loose) (d := HandSHeadRun.topDef Vb.R.prog 76) (kwd := []) Vb.ob_eq
    (by kernel_rfl) (fun s => by kernel_rfl) Vb.run (by kernel_rfl) (by kernel_rfl) (by kernel_rfl) os_shapes (by first | assumption | decide +kernel) (by decide +kernel) ⟨rfl, rfl, rfl, rfl, rfl, by decide +kernel⟩ ?hw ?hc
  case hw => exact ⟨[.list [.int 25]], by decide +kernel, by decide +kernel⟩
  case hc => exact Vb.spec_go
